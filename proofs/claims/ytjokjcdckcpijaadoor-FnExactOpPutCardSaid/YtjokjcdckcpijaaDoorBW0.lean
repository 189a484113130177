/- Walks: each function answers as its model, printed by a program of ours. Conditions: the arguments read as they are given. -/
import Derived.Test.YtjokjcdckcpijaaDoorBTs
import Derived.Test.YtjokjcdckcpijaaDoorBM0
namespace Go.Sx
open Go Go.Proofs Go.Vm Rp
set_option linter.unusedVariables false
set_option linter.unusedSimpArgs false
variable {W W0:CW}{K:List Nat}
theorem c41 {x0 a x1 r}(k:Rd W0 [0] [a] x0)(Y:Vm.zaQ x0 x1=some r):Q0 41 [a,vI x1] W0 fun Wf v=>v=vI r:=by
 unfold Vm.zaQ at Y
 refine zax.of Tryd.func41 O O O O (sr (Ni O (sr (mi O (mv a O (Lw.ln x0 k O (Lw.sub O (Ni O (ssr (mi O (Lw.lt O (nl (cn Y (fun Y=>?_) fun Y=>?_)))))))))))))
 ·exact sr (Ni O (.ret (rt Y (Le.refl _ _))))
 ·refine sk (ssr (Ni O (Cw.block ?_)))
  obtain⟨z,A,Y⟩:=zcP Y
  refine Cw.loop 12 26 [1,4,5] (fun m l w=> ∃ b d e f,CW.w f=w/\Le [] W0 f/\l=[vI b,vI d,vI e]/\Vm.zan x0 z m b d e=some r) _ ⟨w64 (x1-(x0.length:Int)),0,0,W0,O,Le.refl _ _,O,Y⟩ ?_
  rintro(_ |C) _ _ σ ⟨b,d,e,f,rfl,x,rfl,Y⟩
  ·cases Y
  unfold Vm.zan at Y
  have h:=x.o
  refine ssr ?_
  have i:=k.ul h
  refine mi O (mv a O (Lw.ln x0 i O (Lw.lt O (nl (cn Y (fun Y=>?_) fun Y=>?_)))))
  ·refine sk (Cw.seq (Cw.block (sr (mi O (mv a O (mi O ?_))))))
   obtain⟨B,y,Y⟩:=ob Y
   refine Lw.r O (R.ix (α:=Str) i y O O O) (Lw.r O (R.ld O O (i.at_ y).str) (Lw.r O (R.lenS O) (Lw.sub O (Ni O (sr (mi O (Lw.lt O (nl (cn Y (fun Y=>?_) fun Y=>?_)))))))))
   ·exact sr (Ni O (.ret (rt Y h)))
   ·exact sk (rg (mi O (Lw.add O (Ni O ((agm) ⟨w64 (b-(B.length:Int)),d,w64 (e+1),f,O,x,O,Y⟩)))))
  ·refine Cw.exit ?_
   rw[A]at Y
   exact sr (mi O (Ni O (.ret (rt Y h))))
theorem p41 {x0 a x1 r}(b:Rd W K [a] x0)(Y:Vm.zaQ x0 x1=some r):Q1 41 [a,vI x1] W [] fun W' v=>v=vI r:=
 (c41 (b.view _) Y).ad (fk 0) fun _ _ e=>e
theorem c15 {x0 d x1 r}(h:Rd W0 [0] [vI x0.Kind,vS x0.Branch,vS x0.Who,vS x0.Path,vS x0.To,vI x0.At,d] x0)(Y:Vm.zc0 x0 x1=some r):Q0 15 [.agg [vI x0.Kind,vS x0.Branch,vS x0.Who,vS x0.Path,vS x0.To,vI x0.At,d].toArray,vI x1] W0 fun Wf v=>v=vI r:=by
 unfold Vm.zc0 at Y
 obtain⟨x,e,i⟩:=Op.split h
 simp only[List.cons.injEq,and_true,true_and]at e
 obtain rfl:=e
 refine zax.of Tryd.func15 O O O O (sr (bo 2 O fun y z k b=>?_))
 have a:=k.o
 refine Ni O (sr (mi O (fl b O (Lw.r O (R.lenS O) (Lw.sub O (Ni O (ssr (mi O (Lw.lt O (nl (cn Y (fun Y=>?_) fun Y=>?_)))))))))))
 ·exact sr (Ni O (.ret (rt Y a)))
 ·refine sk (sr (mi O (fl b O (Lw.r O (R.lenS O) (Lw.sub O (Ni O (ssr (mi O (Lw.lt O (nl (cn Y (fun Y=>?_) fun Y=>?_)))))))))))
  ·exact sr (Ni O (.ret (rt Y a)))
  ·refine sk (sr (mi O (fl b O (Lw.r O (R.lenS O) (Lw.sub O (Ni O (ssr (mi O (Lw.lt O (nl (cn Y (fun Y=>?_) fun Y=>?_)))))))))))
   ·exact sr (Ni O (.ret (rt Y a)))
   ·refine sk (sr (mi O (fl b O (Lw.r O (R.lenS O) (Lw.sub O (Ni O (ssr (mi O (Lw.lt O (nl (cn Y (fun Y=>?_) fun Y=>?_)))))))))))
    ·exact sr (Ni O (.ret (rt Y a)))
    ·refine sk (sr (fl b O (mi O (ca Y (fun _=>p41 (i.ul a)) fun A B Y l10=>?_))))
     have f:=a.n l10
     refine Ni O (ssr (mi O (Lw.lt O (nl (cn Y (fun Y=>?_) fun Y=>?_)))))
     ·exact sr (Ni O (.ret (rt Y f)))
     ·exact sk (sr (mi O (Ni O (.ret (rt Y f)))))
theorem p15 {x0 a x1 r}(b:Rd W K [vI x0.Kind,vS x0.Branch,vS x0.Who,vS x0.Path,vS x0.To,vI x0.At,a] x0)(Y:Vm.zc0 x0 x1=some r):Q1 15 [.agg [vI x0.Kind,vS x0.Branch,vS x0.Who,vS x0.Path,vS x0.To,vI x0.At,a].toArray,vI x1] W [] fun W' v=>v=vI r:=
 (c15 (b.view _) Y).ad (fk 0) fun _ _ e=>e
theorem c42 {x0 b r}(d:Rd W0 [0] [b] x0)(Y:Vm.zaR x0=some r):Q0 42 [b] W0 fun Wf v=> ∃ x,v=x/\OwS Wf LL [] [x] r:=by
 unfold Vm.zaR at Y
 refine zax.of Tryd.func42 O O O O (sr (Nv (.slice none 0 0) O (sr (mv b O (Lw.ln x0 d O ?_)))))
 obtain⟨B,C,Y⟩:=ob Y
 refine Lw.t O (T.mk (α:=Str) 2 [] (n:=(x0.length:Int)) O O C) ?_
 rintro a _ ⟨y,rfl,D,E⟩
 have F:=D.o
 refine Nv a O (ssr (Ni O (Cw.block ?_)))
 obtain⟨G,H,Y⟩:=zcP Y
 refine Cw.loop 8 20 [4] (fun m l w=> ∃ e i f,CW.w f=w/\Le [2] y f/\l=[vI e]/\Ow f 2 [] [a] i/\Vm.zao x0 G m e i=some r) _ ⟨0,B,y,O,Le.refl _ _,O,E,Y⟩ ?_
 rintro(_ |P) _ _ σ ⟨e,i,f,rfl,z,rfl,k,Y⟩
 ·cases Y
 unfold Vm.zao at Y
 have h:=F.t z
 refine ssr (mi O (mv b O (Lw.ln x0 (d.ul h) O (Lw.lt O (nl (cn Y (fun Y=>?_) fun Y=>?_))))))
 ·refine sk (Cw.seq (Cw.block (rg (mv a O (mi O (mv b O (mi O ?_)))))))
  obtain⟨Q,A,Y⟩:=ob Y
  refine Lw.r O (R.ix (α:=Str) (d.ul h) A O O O) (Lw.r O (R.ld O O ((d.ul h).at_ A).str) ?_)
  obtain⟨S,I,Y⟩:=ob Y
  refine Lw.r O (R.ix (α:=Str) k.rd I O O O) ?_
  obtain⟨J,K,Y⟩:=ob Y
  refine Lw.u (T.stS (K':=[]) k (rdS _) K O O O) ?_
  rintro _ _ ⟨L,rfl,M,N⟩
  exact nl (rg (mi O (Lw.add O (Ni O ((agm) ⟨w64 (e+1),J,L,O,(z.j M).w,O,N,Y⟩)))))
 ·refine Cw.exit ?_
  rw[H]at Y
  refine sr (mv a O (Nv a O ?_))
  cases Y
  exact Cw.ret (zpA O (Res.mk h ⟨a,O,k.s.sub O O⟩))
theorem p42 {x0 b k0 r}(d:Rd W K [b] x0)(Y:Vm.zaR x0=some r):Q1 42 [b] W [] fun W' v=> ∃ a,v=a/\Ow W' k0 [] [a] r:=
 (c42 (d.view _) Y).ad (fk k0) fun _ _ ⟨a,e,f⟩=>⟨a,e,f.back (zky _)⟩
theorem c16 {x0 B r}(I:Rd W0 [0] [vI x0.Kind,vS x0.Branch,vS x0.Who,vS x0.Path,vS x0.To,vI x0.At,B] x0)(Y:Vm.zcg x0=some r):Q0 16 [.agg [vI x0.Kind,vS x0.Branch,vS x0.Who,vS x0.Path,vS x0.To,vI x0.At,B].toArray] W0 fun Wf v=> ∃ C,v = .agg [vI r.Kind,vS r.Branch,vS r.Who,vS r.Path,vS r.To,vI r.At,C].toArray/\OwS Wf LL [] [C] r.Text:=by
 unfold Vm.zcg at Y
 obtain⟨ao,D,J⟩:=Op.split I
 simp only[List.cons.injEq,and_true,true_and]at D
 obtain rfl:=D
 refine zax.of Tryd.func16 O O O O (sr (bo 2 O fun g1 W1 K L=>?_))
 have M:=K.o
 refine al 3 [vI 0,vS ([]:Str),vS ([]:Str),vS ([]:Str),vS ([]:Str),vI 0, .slice none 0 0] fun g3 W3 E N=>?_
 have P:=M.n E
 refine nl (sr (al 4 [vI 0,vS ([]:Str),vS ([]:Str),vS ([]:Str),vS ([]:Str),vI 0, .slice none 0 0] fun g6 W6 e Q=>?_))
 have R:=P.n e
 have f:=(L.up E).up e
 refine nl (sr (fl f O (Lw.fa O (Lw.u (T.st (j:=0) (v:=vI x0.Kind) Q O O O O O) ?_))))
 rintro _ _ ⟨ax,rfl,l10,S⟩
 have U:=R.t l10
 refine nl (sr (fl (f.up l10) O (Lw.fa O (Lw.u (T.st (j:=1) (v:=vS x0.Branch) S O O O O O) ?_))))
 rintro _ _ ⟨ay,rfl,h,V⟩
 have W:=U.t h
 have i:=(f.up l10).up h
 refine nl (sr (fl i O (Lw.fa O (Lw.u (T.st (j:=2) (v:=vS x0.Who) V O O O O O) ?_))))
 rintro _ _ ⟨az,rfl,a,X⟩
 have Z:=W.t a
 refine nl (sr (fl (i.up a) O (Lw.fa O (Lw.u (T.st (j:=3) (v:=vS x0.Path) X O O O O O) ?_))))
 rintro _ _ ⟨a0,rfl,k,aa⟩
 have ac:=Z.t k
 have x:=(i.up a).up k
 refine nl (sr (fl x O (Lw.fa O (Lw.u (T.st (j:=4) (v:=vS x0.To) aa O O O O O) ?_))))
 rintro _ _ ⟨a1,rfl,b,ae⟩
 have af:=ac.t b
 refine nl (sr (fl (x.up b) O (Lw.fa O (Lw.u (T.st (j:=5) (v:=vI x0.At) ae O O O O O) ?_))))
 rintro _ _ ⟨a3,rfl,y,ah⟩
 have F:=af.t y
 refine nl (sr (fl ((x.up b).up y) O (cr Y (fun _=>p42 (k0:=5) (J.ul F)) ?_)))
 rintro a5 G a6 Y z ⟨_,rfl,A⟩
 have ai:=F.n z
 refine Lw.fa O (Lw.u (T.st (j:=6) (v:=G) (ah.up z) O O A.oc O O) ?_)
 rintro _ _ ⟨a8,rfl,d,aj⟩
 have ak:=ai.t d
 refine nl (sr (la aj (sta (((((((((N.up e).up l10).up h).up a).up k).up b).up y).up z).up d) (zb4 O (zb4 O (zb4 O (zb4 O (zb4 O (zb4 O (zb4 (A.up d).oc zne))))))) fun a9 H am=>?_)))
 have an:=ak.t H
 refine nl ?_
 cases Y
 exact Cw.ret (zsc O am (Res.mk an ⟨G,O,((A.up d).up H).s.sub O O⟩))
theorem p16 {x0 b k0 r}(d:Rd W K [vI x0.Kind,vS x0.Branch,vS x0.Who,vS x0.Path,vS x0.To,vI x0.At,b] x0)(Y:Vm.zcg x0=some r):Q1 16 [.agg [vI x0.Kind,vS x0.Branch,vS x0.Who,vS x0.Path,vS x0.To,vI x0.At,b].toArray] W [] fun W' v=> ∃ a,v = .agg [vI r.Kind,vS r.Branch,vS r.Who,vS r.Path,vS r.To,vI r.At,a].toArray/\Ow W' k0 [] [a] r.Text:=
 (c16 (d.view _) Y).ad (fk k0) fun _ _ ⟨a,e,f⟩=>⟨a,e,f.back (zky _)⟩
theorem c57 {x0 x1 x2 r}(Y:Vm.zb5 x0 x1 x2=some r):Q0 57 [vI x0,vI x1,vI x2] W0 fun Wf v=>v=vB r:=by
 unfold Vm.zb5 at Y
 refine zax.of Tryd.func57 O O O O (sr (Nb O ?_))
 obtain⟨e,f,Y⟩:=zcP Y
 refine Cw.join 7 14 [6] (fun l w=> ∃ b d,CW.w d=w/\Le [] W0 d/\l=[vB b]/\e b=some r) ?_ ?_
 ·rintro _ _ σ ⟨b,d,rfl,h,rfl,Y⟩
  rw[f]at Y
  have i:=h.o
  exact .ret (rt Y i)
 ·refine rg (mi O (mi O (Lw.ge O (mb O (bs Y (fun a Y=>?_) fun a Y=>?_)))))
  ·exact wak 3 a (mi O (mi O (Lw.le O (Pb a O (Nb O ((ag) ⟨decide (x0<=(x2:Int)),W0,O,Le.refl _ _,O,Y⟩))))))
  ·exact psk 3 a O (Pb a O (Nb O ((ag) ⟨false,W0,O,Le.refl _ _,O,Y⟩)))
theorem p57 {x0 x1 x2 r}(Y:Vm.zb5 x0 x1 x2=some r):Q1 57 [vI x0,vI x1,vI x2] W [] fun W' v=>v=vB r:=
 (c57 (W0:=W.view [] []) Y).ad (fk 0) fun _ _ e=>e
theorem c53 {x0 r}(Y:Vm.zaY x0=some r):Q0 53 [vS x0] W0 fun Wf v=>v=vB r:=by
 unfold Vm.zaY at Y
 refine zax.of Tryd.func53 O O O O (sr (Nb O (ssr (Ni O (Cw.block ?_)))))
 obtain⟨B,C,Y⟩:=zcP Y
 refine Cw.loop 4 31 [2,3] (fun m l w=> ∃ h i a,CW.w a=w/\Le [] W0 a/\l=[vB h,vI i]/\Vm.zay x0 B m h i=some r) _ ⟨false,0,W0,O,Le.refl _ _,O,Y⟩ ?_
 rintro(_ |S) _ _ σ ⟨h,i,a,rfl,y,rfl,Y⟩
 ·cases Y
 unfold Vm.zay at Y
 have z:=y.o
 refine ssr (mi O (ms O (Lw.r O (R.lenS O) (Lw.lt O (nl (cn Y (fun Y=>?_) fun Y=>?_))))))
 ·refine sk (Cw.seq (Cw.block ?_))
  obtain⟨D,E,Y⟩:=zcP Y
  refine Cw.join 10 31 [31] (fun l w=> ∃ x k,CW.w k=w/\Le [] a k/\l=[vB x]/\D x=some r) ?_ ?_
  ·rintro _ _ σ ⟨x,k,rfl,A,rfl,Y⟩
   rw[E]at Y
   have F:=z.n A
   refine cn Y (fun Y=>?_) fun Y=>?_
   ·exact sr (Nb O (.ret (rt Y F)))
   ·exact sk (rg (mi O (Lw.add O (Ni O ((agm) ⟨h,w64 (i+1),k,O,(y.j A).w,O,Y⟩)))))
  ·refine rg (ms O (mi O ?_))
   obtain⟨T,G,Y⟩:=ob Y
   refine Lw.r O (R.chm G O O) (Lw.lt O (mb O (bs Y (fun d Y=>?_) fun d Y=>?_)))
   ·refine psk 4 d O (Pb d O (mb O (wak 5 O (ms O (mi O ?_)))))
    obtain⟨U,H,Y⟩:=ob Y
    refine Lw.r O (R.chm H O O) (Lw.lt O (mb O (bs Y (fun e Y=>?_) fun e Y=>?_)))
    ·exact psk 4 e O (wak 1 O (Pb e O (Pb O O (nl ((ag) ⟨true,a,O,Le.refl _ _,O,Y⟩)))))
    ·refine wak 4 e (ms O (mi O ?_))
     obtain⟨I,J,Y⟩:=ob Y
     exact Lw.r O (R.chm J O O) (Lw.gt O (wak 1 O (Pb e O (Pb O O (nl ((ag) ⟨decide ((57:Int)< ((UInt8.toNat I:Int):Int)),a,O,Le.refl _ _,O,Y⟩))))))
   ·refine wak 4 d (ms O (mi O ?_))
    obtain⟨V,K,Y⟩:=ob Y
    refine Lw.r O (R.chm K O O) (Lw.gt O (Pb d O (mb O (bs Y (fun b Y=>?_) fun b Y=>?_))))
    ·refine wak 5 b (ms O (mi O ?_))
     obtain⟨W,L,Y⟩:=ob Y
     refine Lw.r O (R.chm L O O) (Lw.lt O (mb O (bs Y (fun f Y=>?_) fun f Y=>?_)))
     ·exact psk 4 f O (wak 1 b (Pb f O (Pb b O (nl ((ag) ⟨true,a,O,Le.refl _ _,O,Y⟩)))))
     ·refine wak 4 f (ms O (mi O ?_))
      obtain⟨M,N,Y⟩:=ob Y
      exact Lw.r O (R.chm N O O) (Lw.gt O (wak 1 b (Pb f O (Pb b O (nl ((ag) ⟨decide ((57:Int)< ((UInt8.toNat M:Int):Int)),a,O,Le.refl _ _,O,Y⟩))))))
    ·exact psk 5 b O (puk 4 O (psk 1 b O (Pb b O (nl ((ag) ⟨false,a,O,Le.refl _ _,O,Y⟩)))))
 ·refine Cw.exit ?_
  rw[C]at Y
  refine sr (ms O (Lw.r O (R.lenS O) (ca Y (fun _=>p57) fun X Z Y P=>?_)))
  have Q:=z.n P
  exact Nb O (.ret (rt Y Q))
theorem p53 {x0 r}(Y:Vm.zaY x0=some r):Q1 53 [vS x0] W [] fun W' v=>v=vB r:=
 (c53 (W0:=W.view [] []) Y).ad (fk 0) fun _ _ e=>e
theorem c54 {x0 S x1 x2 x3 x4 r}(U:Rd W0 [0] [vI x0.Kind,vS x0.Branch,vS x0.Who,vS x0.Path,vS x0.To,vI x0.At,S] x0)(Y:Vm.zaF x0 x1 x2 x3 x4=some r):Q0 54 [.agg [vI x0.Kind,vS x0.Branch,vS x0.Who,vS x0.Path,vS x0.To,vI x0.At,S].toArray,vB x1,vB x2,vB x3,vB x4] W0 fun Wf v=>v=vB r:=by
 unfold Vm.zaF at Y
 obtain⟨ac,T,z⟩:=Op.split U
 simp only[List.cons.injEq,and_true,true_and]at T
 obtain rfl:=T
 refine zax.of Tryd.func54 O O O O (sr (bo 2 O fun g1 a V b=>?_))
 have d:=V.o
 refine Nb O ?_
 obtain⟨W,X,Y⟩:=zcP Y
 refine Cw.join 11 41 [10] (fun l w=> ∃ Q R,CW.w R=w/\Le [] a R/\l=[vB Q]/\W Q=some r) ?_ ?_
 ·rintro _ _ σ ⟨Q,R,rfl,Z,rfl,Y⟩
  rw[X]at Y
  have a6:=d.n Z
  exact .ret (rt Y a6)
 ·refine rg (mb O (mb O (bs Y (fun A Y=>?_) fun A Y=>?_)))
  ·refine psk 3 A O (Pb A O (mb O (wak 2 O (mb O (mb O (bs Y (fun B Y=>?_) fun B Y=>?_))))))
   ·refine psk 3 B O (wak 1 O (Pb B O (Pb O O (mb O (wak 2 O (mb O (mb O (bs Y (fun C Y=>?_) fun C Y=>?_))))))))
    ·refine psk 3 C O (wak 1 O (Pb C O (Pb O O (mb O (wak 2 O (mb O (mb O (bs Y (fun D Y=>?_) fun D Y=>?_))))))))
     ·exact psk 4 D O (wak 1 O (Pb D O (Pb O O (Nb O ((ag) ⟨true,a,O,Le.refl _ _,O,Y⟩)))))
     ·exact wak 4 D (fl b O (Lw.ln x0.Text (z.ul d) O (Lw.eq O (wak 1 O (Pb D O (Pb O O (Nb O ((ag) ⟨((x0.Text.length:Int)==0),a,O,Le.refl _ _,O,Y⟩))))))))
    ·refine wak 3 C (fl b O (Lw.eq O (wak 1 O (Pb C O (Pb O O (mb O (bs Y (fun e Y=>?_) fun e Y=>?_)))))))
     ·refine wak 2 e (mb O (mb O (bs Y (fun E Y=>?_) fun E Y=>?_)))
      ·exact psk 4 E O (wak 1 e (Pb E O (Pb e O (Nb O ((ag) ⟨true,a,O,Le.refl _ _,O,Y⟩)))))
      ·exact wak 4 E (fl b O (Lw.ln x0.Text (z.ul d) O (Lw.eq O (wak 1 e (Pb E O (Pb e O (Nb O ((ag) ⟨((x0.Text.length:Int)==0),a,O,Le.refl _ _,O,Y⟩))))))))
     ·exact psk 2 e O (puk 4 O (psk 1 e O (Pb e O (Nb O ((ag) ⟨false,a,O,Le.refl _ _,O,Y⟩)))))
   ·refine wak 3 B (fl b O (Lw.seq O (wak 1 O (Pb B O (Pb O O (mb O (bs Y (fun f Y=>?_) fun f Y=>?_)))))))
    ·refine wak 2 f (mb O (mb O (bs Y (fun F Y=>?_) fun F Y=>?_)))
     ·refine psk 3 F O (wak 1 f (Pb F O (Pb f O (mb O (wak 2 O (mb O (mb O (bs Y (fun G Y=>?_) fun G Y=>?_))))))))
      ·exact psk 4 G O (wak 1 O (Pb G O (Pb O O (Nb O ((ag) ⟨true,a,O,Le.refl _ _,O,Y⟩)))))
      ·exact wak 4 G (fl b O (Lw.ln x0.Text (z.ul d) O (Lw.eq O (wak 1 O (Pb G O (Pb O O (Nb O ((ag) ⟨((x0.Text.length:Int)==0),a,O,Le.refl _ _,O,Y⟩))))))))
     ·refine wak 3 F (fl b O (Lw.eq O (wak 1 f (Pb F O (Pb f O (mb O (bs Y (fun h Y=>?_) fun h Y=>?_)))))))
      ·refine wak 2 h (mb O (mb O (bs Y (fun H Y=>?_) fun H Y=>?_)))
       ·exact psk 4 H O (wak 1 h (Pb H O (Pb h O (Nb O ((ag) ⟨true,a,O,Le.refl _ _,O,Y⟩)))))
       ·exact wak 4 H (fl b O (Lw.ln x0.Text (z.ul d) O (Lw.eq O (wak 1 h (Pb H O (Pb h O (Nb O ((ag) ⟨((x0.Text.length:Int)==0),a,O,Le.refl _ _,O,Y⟩))))))))
      ·exact psk 2 h O (puk 4 O (psk 1 h O (Pb h O (Nb O ((ag) ⟨false,a,O,Le.refl _ _,O,Y⟩)))))
    ·exact psk 2 f O (puk 3 O (psk 1 f O (Pb f O (mb O (psk 2 O O (puk 4 O (psk 1 O O (Pb O O (Nb O ((ag) ⟨false,a,O,Le.refl _ _,O,Y⟩))))))))))
  ·refine wak 3 A (fl b O (Lw.seq O (Pb A O (mb O (bs Y (fun i Y=>?_) fun i Y=>?_)))))
   ·refine wak 2 i (mb O (mb O (bs Y (fun I Y=>?_) fun I Y=>?_)))
    ·refine psk 3 I O (wak 1 i (Pb I O (Pb i O (mb O (wak 2 O (mb O (mb O (bs Y (fun J Y=>?_) fun J Y=>?_))))))))
     ·refine psk 3 J O (wak 1 O (Pb J O (Pb O O (mb O (wak 2 O (mb O (mb O (bs Y (fun K Y=>?_) fun K Y=>?_))))))))
      ·exact psk 4 K O (wak 1 O (Pb K O (Pb O O (Nb O ((ag) ⟨true,a,O,Le.refl _ _,O,Y⟩)))))
      ·exact wak 4 K (fl b O (Lw.ln x0.Text (z.ul d) O (Lw.eq O (wak 1 O (Pb K O (Pb O O (Nb O ((ag) ⟨((x0.Text.length:Int)==0),a,O,Le.refl _ _,O,Y⟩))))))))
     ·refine wak 3 J (fl b O (Lw.eq O (wak 1 O (Pb J O (Pb O O (mb O (bs Y (fun k Y=>?_) fun k Y=>?_)))))))
      ·refine wak 2 k (mb O (mb O (bs Y (fun L Y=>?_) fun L Y=>?_)))
       ·exact psk 4 L O (wak 1 k (Pb L O (Pb k O (Nb O ((ag) ⟨true,a,O,Le.refl _ _,O,Y⟩)))))
       ·exact wak 4 L (fl b O (Lw.ln x0.Text (z.ul d) O (Lw.eq O (wak 1 k (Pb L O (Pb k O (Nb O ((ag) ⟨((x0.Text.length:Int)==0),a,O,Le.refl _ _,O,Y⟩))))))))
      ·exact psk 2 k O (puk 4 O (psk 1 k O (Pb k O (Nb O ((ag) ⟨false,a,O,Le.refl _ _,O,Y⟩)))))
    ·refine wak 3 I (fl b O (Lw.seq O (wak 1 i (Pb I O (Pb i O (mb O (bs Y (fun x Y=>?_) fun x Y=>?_)))))))
     ·refine wak 2 x (mb O (mb O (bs Y (fun M Y=>?_) fun M Y=>?_)))
      ·refine psk 3 M O (wak 1 x (Pb M O (Pb x O (mb O (wak 2 O (mb O (mb O (bs Y (fun N Y=>?_) fun N Y=>?_))))))))
       ·exact psk 4 N O (wak 1 O (Pb N O (Pb O O (Nb O ((ag) ⟨true,a,O,Le.refl _ _,O,Y⟩)))))
       ·exact wak 4 N (fl b O (Lw.ln x0.Text (z.ul d) O (Lw.eq O (wak 1 O (Pb N O (Pb O O (Nb O ((ag) ⟨((x0.Text.length:Int)==0),a,O,Le.refl _ _,O,Y⟩))))))))
      ·refine wak 3 M (fl b O (Lw.eq O (wak 1 x (Pb M O (Pb x O (mb O (bs Y (fun y Y=>?_) fun y Y=>?_)))))))
       ·refine wak 2 y (mb O (mb O (bs Y (fun P Y=>?_) fun P Y=>?_)))
        ·exact psk 4 P O (wak 1 y (Pb P O (Pb y O (Nb O ((ag) ⟨true,a,O,Le.refl _ _,O,Y⟩)))))
        ·exact wak 4 P (fl b O (Lw.ln x0.Text (z.ul d) O (Lw.eq O (wak 1 y (Pb P O (Pb y O (Nb O ((ag) ⟨((x0.Text.length:Int)==0),a,O,Le.refl _ _,O,Y⟩))))))))
       ·exact psk 2 y O (puk 4 O (psk 1 y O (Pb y O (Nb O ((ag) ⟨false,a,O,Le.refl _ _,O,Y⟩)))))
     ·exact psk 2 x O (puk 3 O (psk 1 x O (Pb x O (mb O (psk 2 O O (puk 4 O (psk 1 O O (Pb O O (Nb O ((ag) ⟨false,a,O,Le.refl _ _,O,Y⟩))))))))))
   ·exact psk 2 i O (puk 3 O (psk 1 i O (Pb i O (mb O (psk 2 O O (puk 3 O (psk 1 O O (Pb O O (mb O (psk 2 O O (puk 4 O (psk 1 O O (Pb O O (Nb O ((ag) ⟨false,a,O,Le.refl _ _,O,Y⟩)))))))))))))))
theorem p54 {x0 a x1 x2 x3 x4 r}(b:Rd W K [vI x0.Kind,vS x0.Branch,vS x0.Who,vS x0.Path,vS x0.To,vI x0.At,a] x0)(Y:Vm.zaF x0 x1 x2 x3 x4=some r):Q1 54 [.agg [vI x0.Kind,vS x0.Branch,vS x0.Who,vS x0.Path,vS x0.To,vI x0.At,a].toArray,vB x1,vB x2,vB x3,vB x4] W [] fun W' v=>v=vB r:=
 (c54 (b.view _) Y).ad (fk 0) fun _ _ e=>e
theorem c28 {x0 x1 x2 r}(Y:Vm.zbR x0 x1 x2=some r):Q0 28 [vS x0, .int .u8 (UInt8.toNat x1:Int),vI x2] W0 fun Wf v=> ∃ D,v=D/\OwS Wf LL [] [D] r:=by
 unfold Vm.zbR at Y
 refine zax.of Tryd.func28 O O O O (sr (Nv (.slice none 0 0) O (sr (Lw.t O (T.lit0 (α:=Str) 2 []) ?_))))
 rintro E _ ⟨F,rfl,P,Q⟩
 have S:=P.o
 refine Nv E O (sr (Ni O (ssr (Ni O (Cw.block ?_)))))
 obtain⟨U,V,Y⟩:=zcP Y
 refine Cw.loop 11 36 [7,8,9] (fun m l w=> ∃ d k e a b,CW.w b=w/\Le [2] F b/\l=[a,vI k,vI e]/\Ow b 2 [] [a] d/\Vm.za8 x0 x1 x2 U m d k e=some r) _ ⟨([]:List Str),0,0,E,F,O,Le.refl _ _,O,Q,Y⟩ ?_
 rintro(_ |a0) _ _ σ ⟨d,k,e,a,b,rfl,G,rfl,H,Y⟩
 ·cases Y
 unfold Vm.za8 at Y
 have W:=S.t G
 refine Cw.seq ?_
 obtain⟨X,Z,Y⟩:=zcP Y
 refine Cw.join 11 20 [20] (fun l w=> ∃ A f,CW.w f=w/\Le [] b f/\l=[vB A]/\X A=some r) ?_ ?_
 ·rintro _ _ σ ⟨A,f,rfl,B,rfl,Y⟩
  rw[Z]at Y
  have aa:=W.n B
  have C:=H.up B
  refine cn Y (fun Y=>?_) fun Y=>?_
  ·refine sk ?_
   obtain⟨ac,ae,Y⟩:=zcP Y
   refine Cw.join 23 36 [7,8] (fun l w=> ∃ x y z h,CW.w h=w/\Le [2] f h/\l=[z,vI y]/\Ow h 2 [] [z] x/\ac x y=some r) ?_ ?_
   ·rintro _ _ σ ⟨x,y,z,h,rfl,af,rfl,ah,Y⟩
    rw[ae]at Y
    exact rg (mi O (Lw.add O (Ni O ((agm) ⟨x,y,w64 (e+1),z,h,O,((G.j B).j af).w,O,ah,Y⟩))))
   ·refine Cw.block (sr (ms O (mi O ?_)))
    obtain⟨a1,ai,Y⟩:=ob Y
    refine Lw.r O (R.chm ai O O) (mv (.int .u8 (UInt8.toNat x1:Int)) O (Lw.eq O (nl (cn Y (fun Y=>?_) fun Y=>?_))))
    ·refine sr (mv a O (ms O (mi O (mi O ?_))))
     obtain⟨I,aj,Y⟩:=ob Y
     refine Lw.r O (R.ss aj O (.inr O) (.inr O)) (Lw.t O (T.bs 3 [vS I] (cs:=[vS I]) O O (bsv O)) ?_)
     rintro _ _ ⟨a3,a4,rfl,rfl,J,ak⟩
     obtain⟨am,an,Y⟩:=ob Y
     refine Lw.t O (T.app1S (α:=Str) (K':=[]) (C.up J) ak (rdS _) O O an) ?_
     rintro K _ ⟨ao,rfl,ap,aq⟩
     exact Nv K O (rg (mi O (Lw.add O (Ni O ((ag) ⟨am,w64 (e+1),K,ao,O,(J.j ap).w,O,aq,Y⟩)))))
    ·exact sk ((ag) ⟨d,k,a,f,O,Le.refl _ _,O,C,Y⟩)
  ·refine Cw.exit ?_
   rw[V]at Y
   refine sr (mv a O (ms O (mi O ?_)))
   obtain⟨L,ar,Y⟩:=ob Y
   refine Lw.r O (R.ss ar O (.inr O) (.inl ⟨O,O⟩)) (Lw.t O (T.bs 4 [vS L] (cs:=[vS L]) O O (bsv O)) ?_)
   rintro _ _ ⟨a5,a6,rfl,rfl,M,au⟩
   have av:=aa.n M
   obtain⟨a7,aw,Y⟩:=ob Y
   refine Lw.t O (T.app1S (α:=Str) (K':=[]) (C.up M) au (rdS _) O O aw) ?_
   rintro N _ ⟨a8,rfl,ax,ay⟩
   have az:=av.t ax
   refine Nv N O ?_
   cases Y
   exact Cw.ret (zpA O (Res.mk az ⟨N,O,ay.s.sub O O⟩))
 ·refine rg (mi O (ms O (Lw.r O (R.lenS O) (Lw.lt O (mb O (bs Y (fun i Y=>?_) fun i Y=>?_))))))
  ·exact wak 4 i (mv a O (Lw.ln d H.rd O (mi O (Lw.lt O (Pb i O (nl ((ag) ⟨decide (d.length< (x2:Int)),b,O,Le.refl _ _,O,Y⟩)))))))
  ·exact psk 4 i O (Pb i O (nl ((ag) ⟨false,b,O,Le.refl _ _,O,Y⟩)))
theorem p28 {x0 x1 x2 k0 r}(Y:Vm.zbR x0 x1 x2=some r):Q1 28 [vS x0, .int .u8 (UInt8.toNat x1:Int),vI x2] W [] fun W' v=> ∃ a,v=a/\Ow W' k0 [] [a] r:=
 (c28 (W0:=W.view [] []) Y).ad (fk k0) fun _ _ ⟨a,e,b⟩=>⟨a,e,b.back (zky _)⟩
theorem c55 {x0 r}(Y:Vm.zaZ x0=some r):Q0 55 [vS x0] W0 fun Wf v=>v=vB r:=by
 unfold Vm.zaZ at Y
 refine zax.of Tryd.func55 O O O O (sr (Nb O (sr (ms O (cr Y (fun _=>p28 (k0:=2)) ?_)))))
 rintro f a k Y A ⟨_,rfl,B⟩
 have C:=A.o
 refine Nv a O (ssr (Ni O (Cw.block ?_)))
 obtain⟨D,E,Y⟩:=zcP Y
 refine Cw.loop 7 18 [2,4] (fun m l w=> ∃ b d h,CW.w h=w/\Le [] k h/\l=[vB b,vI d]/\Vm.zaz f D m b d=some r) _ ⟨false,0,k,O,Le.refl _ _,O,Y⟩ ?_
 rintro(_ |H) _ _ σ ⟨b,d,h,rfl,i,rfl,Y⟩
 ·cases Y
 unfold Vm.zaz at Y
 have x:=C.n i
 have e:=B.up i
 refine ssr (mi O (mv a O (Lw.ln f e.rd O (Lw.lt O (nl (cn Y (fun Y=>?_) fun Y=>?_))))))
 ·refine sk (Cw.seq (Cw.block (sr (mv a O (mi O ?_)))))
  obtain⟨I,y,Y⟩:=ob Y
  refine Lw.r O (R.ix (α:=Str) e.rd y O O O) (Lw.r O (R.ld O O (e.rd.at_ y).str) (ca Y (fun _=>p53) fun J F Y z=>?_))
  have G:=x.n z
  refine Lw.r O (R.not O) (nl (cn Y (fun Y=>?_) fun Y=>?_))
  ·exact sr (Nb O (.ret (rt Y G)))
  ·exact sk (rg (mi O (Lw.add O (Ni O ((agm) ⟨b,w64 (d+1),F,O,(i.j z).w,O,Y⟩)))))
 ·refine Cw.exit ?_
  rw[E]at Y
  exact sr (mv a O (Lw.ln f e.rd O (Lw.le O (Nb O (.ret (rt Y x))))))
theorem p55 {x0 r}(Y:Vm.zaZ x0=some r):Q1 55 [vS x0] W [] fun W' v=>v=vB r:=
 (c55 (W0:=W.view [] []) Y).ad (fk 0) fun _ _ e=>e
theorem c86 {x0 r}(Y:Vm.zbw x0=some r):Q0 86 [vS x0] W0 fun Wf v=>v=vB r:=by
 unfold Vm.zbw at Y
 refine zax.of Tryd.func86 O O O O (sr (Nb O (ssr (Ni O (Cw.block ?_)))))
 obtain⟨y,z,Y⟩:=zcP Y
 refine Cw.loop 4 19 [2,3] (fun m l w=> ∃ d e a,CW.w a=w/\Le [] W0 a/\l=[vB d,vI e]/\Vm.zaA x0 y m d e=some r) _ ⟨false,0,W0,O,Le.refl _ _,O,Y⟩ ?_
 rintro(_ |G) _ _ σ ⟨d,e,a,rfl,i,rfl,Y⟩
 ·cases Y
 unfold Vm.zaA at Y
 have k:=i.o
 refine ssr (mi O (ms O (Lw.r O (R.lenS O) (Lw.lt O (nl (cn Y (fun Y=>?_) fun Y=>?_))))))
 ·refine sk (Cw.seq (Cw.block ?_))
  obtain⟨A,B,Y⟩:=zcP Y
  refine Cw.join 10 19 [19] (fun l w=> ∃ h f,CW.w f=w/\Le [] a f/\l=[vB h]/\A h=some r) ?_ ?_
  ·rintro _ _ σ ⟨h,f,rfl,x,rfl,Y⟩
   rw[B]at Y
   have C:=k.n x
   refine cn Y (fun Y=>?_) fun Y=>?_
   ·exact sr (Nb O (.ret (rt Y C)))
   ·exact sk (rg (mi O (Lw.add O (Ni O ((agm) ⟨d,w64 (e+1),f,O,(i.j x).w,O,Y⟩)))))
  ·refine rg (ms O (mi O ?_))
   obtain⟨H,D,Y⟩:=ob Y
   refine Lw.r O (R.chm D O O) (Lw.lt O (mb O (bs Y (fun b Y=>?_) fun b Y=>?_)))
   ·exact psk 4 b O (Pb b O (nl ((ag) ⟨true,a,O,Le.refl _ _,O,Y⟩)))
   ·refine wak 4 b (ms O (mi O ?_))
    obtain⟨E,F,Y⟩:=ob Y
    exact Lw.r O (R.chm F O O) (Lw.gt O (Pb b O (nl ((ag) ⟨decide ((126:Int)< ((UInt8.toNat E:Int):Int)),a,O,Le.refl _ _,O,Y⟩))))
 ·refine Cw.exit ?_
  rw[z]at Y
  exact sr (ms O (Lw.r O (R.lenS O) (Lw.le O (Nb O (.ret (rt Y k))))))
theorem p86 {x0 r}(Y:Vm.zbw x0=some r):Q1 86 [vS x0] W [] fun W' v=>v=vB r:=
 (c86 (W0:=W.view [] []) Y).ad (fk 0) fun _ _ e=>e
theorem c75 {x0 a r}(y:Rd W0 [0] [a] x0)(Y:Vm.zch x0=some r):Q0 75 [a] W0 fun Wf v=>v=vB r:=by
 unfold Vm.zch at Y
 refine zax.of Tryd.func75 O O O O (sr (Nb O (ssr (Ni O (Cw.block ?_)))))
 obtain⟨z,A,Y⟩:=zcP Y
 refine Cw.loop 4 15 [2,3] (fun m l w=> ∃ b d f,CW.w f=w/\Le [] W0 f/\l=[vB b,vI d]/\Vm.zaS x0 z m b d=some r) _ ⟨false,0,W0,O,Le.refl _ _,O,Y⟩ ?_
 rintro(_ |D) _ _ σ ⟨b,d,f,rfl,i,rfl,Y⟩
 ·cases Y
 unfold Vm.zaS at Y
 have h:=i.o
 refine ssr ?_
 have e:=y.ul h
 refine mi O (mv a O (Lw.ln x0 e O (Lw.lt O (nl (cn Y (fun Y=>?_) fun Y=>?_)))))
 ·refine sk (Cw.seq (Cw.block (sr (mv a O (mi O ?_)))))
  obtain⟨E,k,Y⟩:=ob Y
  refine Lw.r O (R.ix (α:=Str) e k O O O) (Lw.r O (R.ld O O (e.at_ k).str) (ca Y (fun _=>p86) fun F B Y x=>?_))
  have C:=h.n x
  refine Lw.r O (R.not O) (nl (cn Y (fun Y=>?_) fun Y=>?_))
  ·exact sr (Nb O (.ret (rt Y C)))
  ·exact sk (rg (mi O (Lw.add O (Ni O ((agm) ⟨b,w64 (d+1),B,O,(i.j x).w,O,Y⟩)))))
 ·refine Cw.exit ?_
  rw[A]at Y
  exact sr (mv a O (Lw.ln x0 e O (Lw.le O (Nb O (.ret (rt Y h))))))
theorem p75 {x0 a r}(b:Rd W K [a] x0)(Y:Vm.zch x0=some r):Q1 75 [a] W [] fun W' v=>v=vB r:=
 (c75 (b.view _) Y).ad (fk 0) fun _ _ e=>e
theorem c56 {x0 a r}(y:Rd W0 [0] [a] x0)(Y:Vm.za9 x0=some r):Q0 56 [a] W0 fun Wf v=>v=vB r:=by
 unfold Vm.za9 at Y
 refine zax.of Tryd.func56 O O O O (sr (Nb O (ssr (Ni O (Cw.block ?_)))))
 obtain⟨F,G,Y⟩:=zcP Y
 refine Cw.loop 5 26 [2,3,4] (fun m l w=> ∃ i b A d,CW.w d=w/\Le [] W0 d/\l=[vB i,vI b,A]/\Vm.zaf x0 F m i b=some r) _ ⟨false,0,undef,W0,O,Le.refl _ _,O,Y⟩ ?_
 rintro(_ |M) _ _ σ ⟨i,b,A,d,rfl,B,rfl,Y⟩
 ·cases Y
 unfold Vm.zaf at Y
 have k:=B.o
 refine ssr (mi O (mv a O (Lw.ln x0 (y.ul k) O (Lw.lt O (nl (cn Y (fun Y=>?_) fun Y=>?_))))))
 ·refine sk (Cw.seq (Cw.block (sr (Ni O (Cw.block ?_)))))
  obtain⟨H,I,Y⟩:=zcP Y
  refine Cw.loop 11 26 [2,4] (fun m l w=> ∃ e f h,CW.w h=w/\Le [] d h/\l=[vB e,vI f]/\Vm.zat x0 b H m e f=some r) _ ⟨i,0,d,O,Le.refl _ _,O,Y⟩ ?_
  rintro(_ |N) _ _ σ ⟨e,f,h,rfl,z,rfl,Y⟩
  ·cases Y
  unfold Vm.zat at Y
  have C:=k.n z
  refine ssr (mi O (mv a O (mi O ?_)))
  obtain⟨P,D,Y⟩:=ob Y
  have x:=y.ul C
  refine Lw.r O (R.ix (α:=Str) x D O O O) (Lw.r O (R.ld O O (x.at_ D).str) (Lw.r O (R.lenS O) (Lw.lt O (nl (cn Y (fun Y=>?_) fun Y=>?_)))))
  ·refine sk (Cw.seq (Cw.block (sr (mv a O (mi O ?_)))))
   obtain⟨Q,E,Y⟩:=ob Y
   refine Lw.r O (R.ix (α:=Str) x E O O O) (Lw.r O (R.ld O O (x.at_ E).str) (mi O ?_))
   obtain⟨S,J,Y⟩:=ob Y
   refine Lw.r O (R.chm J O O) (Lw.eq O (nl (cn Y (fun Y=>?_) fun Y=>?_)))
   ·exact sr (Nb O (.ret (rt Y C)))
   ·exact sk (rg (mi O (Lw.add O (Ni O ((agm) ⟨e,w64 (f+1),h,O,z,O,Y⟩)))))
  ·refine Cw.exit ?_
   rw[I]at Y
   exact rg (mi O (Lw.add O (Ni O ((agm) ⟨e,w64 (b+1),vI f,h,O,(B.j z).w,O,Y⟩))))
 ·refine Cw.exit ?_
  rw[G]at Y
  refine sr (mv a O (ca Y (fun _=>p75 (y.ul k)) fun T U Y K=>?_))
  have L:=k.n K
  exact Nb O (.ret (rt Y L))
theorem p56 {x0 a r}(b:Rd W K [a] x0)(Y:Vm.za9 x0=some r):Q1 56 [a] W [] fun W' v=>v=vB r:=
 (c56 (b.view _) Y).ad (fk 0) fun _ _ e=>e
theorem c31 {x0 ak r}(h0:Rd W0 [0] [vI x0.Kind,vS x0.Branch,vS x0.Who,vS x0.Path,vS x0.To,vI x0.At,ak] x0)(Y:Vm.zbD x0=some r):Q0 31 [.agg [vI x0.Kind,vS x0.Branch,vS x0.Who,vS x0.Path,vS x0.To,vI x0.At,ak].toArray] W0 fun Wf v=>v=vB r:=by
 unfold Vm.zbD at Y
 obtain⟨cq,am,f⟩:=Op.split h0
 simp only[List.cons.injEq,and_true,true_and]at am
 obtain rfl:=am
 refine zax.of Tryd.func31 O O O O (sr (bo 2 O fun g1 W1 l1 H=>?_))
 have a2:=l1.o
 refine Nb O (Cw.seq ?_)
 obtain⟨K5,aw,Y⟩:=zcP Y
 refine Cw.join 3 12 [12] (fun l w=> ∃ I b,CW.w b=w/\Le [] W1 b/\l=[vB I]/\K5 I=some r) ?_ ?_
 ·rintro _ _ σ ⟨I,b,rfl,l4,rfl,Y⟩
  rw[aw]at Y
  have d:=a2.n l4
  have a:=H.up l4
  refine cn Y (fun Y=>?_) fun Y=>?_
  ·exact sr (Nb O (.ret (rt Y d)))
  ·refine sk (ssr (fl a O (nl (Cw.block (sr (Lw.eq O (Nb O (cn Y (fun Y=>?_) fun Y=>?_))))))))
   ·obtain⟨ax,ay,Y⟩:=zcP Y
    refine Cw.join 17 28 [2] (fun l w=> ∃ J L,CW.w L=w/\Le [] b L/\l=[vB J]/\ax J=some r) ?_ ?_
    ·rintro _ _ σ ⟨J,L,rfl,az,rfl,Y⟩
     rw[ay]at Y
     have a0:=d.n az
     exact .ret (rt Y a0)
    ·refine rg (la a (ca Y (fun _=>p54 (Op.rd (K:=[0]) x0.Kind x0.Branch x0.Who x0.Path x0.To x0.At x0.Text (f.ul d))) fun ct a1 Y h=>?_))
     have a3:=d.n h
     refine mb O (bs Y (fun i Y=>?_) fun i Y=>?_)
     ·refine wak 3 i (fl (a.up h) O (ca Y (fun _=>p55) fun cu a4 Y E=>?_))
      have a5:=a3.n E
      refine Pb i O (mb O (bs Y (fun k Y=>?_) fun k Y=>?_))
      ·exact wak 3 k (fl ((a.up h).up E) O (ca Y (fun _=>p56 (f.ul a5)) fun a7 a8 Y a9=>Pb k O (Nb O ((ag) ⟨a7,a8,O,((h.j E).j a9).w,O,Y⟩))))
      ·exact psk 3 k O (Pb k O (Nb O ((ag) ⟨false,a4,O,(h.j E).w,O,Y⟩)))
     ·exact psk 3 i O (Pb i O (mb O (psk 3 O O (Pb O O (Nb O ((ag) ⟨false,a1,O,h,O,Y⟩))))))
   ·refine sr (Lw.eq O (Nb O (cn Y (fun Y=>?_) fun Y=>?_)))
    ·obtain⟨ba,bb,Y⟩:=zcP Y
     refine Cw.join 31 37 [2] (fun l w=> ∃ M N,CW.w N=w/\Le [] b N/\l=[vB M]/\ba M=some r) ?_ ?_
     ·rintro _ _ σ ⟨M,N,rfl,bc,rfl,Y⟩
      rw[bb]at Y
      have be:=d.n bc
      exact .ret (rt Y be)
     ·refine rg (la a (ca Y (fun _=>p54 (Op.rd (K:=[0]) x0.Kind x0.Branch x0.Who x0.Path x0.To x0.At x0.Text (f.ul d))) fun cv bg Y P=>mb O (bs Y (fun x Y=>?_) fun x Y=>?_)))
      ·exact wak 3 x (fl (a.up P) O (ca Y (fun _=>p55) fun bh bi Y bj=>Pb x O (Nb O ((ag) ⟨bh,bi,O,(P.j bj).w,O,Y⟩))))
      ·exact psk 3 x O (Pb x O (Nb O ((ag) ⟨false,bg,O,P,O,Y⟩)))
    ·refine sr (Lw.eq O (Nb O (cn Y (fun Y=>?_) fun Y=>?_)))
     ·obtain⟨bk,bl,Y⟩:=zcP Y
      refine Cw.join 40 51 [2] (fun l w=> ∃ Q S,CW.w S=w/\Le [] b S/\l=[vB Q]/\bk Q=some r) ?_ ?_
      ·rintro _ _ σ ⟨Q,S,rfl,bm,rfl,Y⟩
       rw[bl]at Y
       have bn:=d.n bm
       exact .ret (rt Y bn)
      ·refine rg (la a (ca Y (fun _=>p54 (Op.rd (K:=[0]) x0.Kind x0.Branch x0.Who x0.Path x0.To x0.At x0.Text (f.ul d))) fun cw bp Y y=>mb O (bs Y (fun z Y=>?_) fun z Y=>?_)))
       ·refine wak 3 z (fl (a.up y) O (ca Y (fun _=>p55) fun cx bq Y T=>Pb z O (mb O (bs Y (fun A Y=>?_) fun A Y=>?_))))
        ·exact wak 3 A (fl ((a.up y).up T) O (ca Y (fun _=>p55) fun br bu Y bv=>Pb A O (Nb O ((ag) ⟨br,bu,O,((y.j T).j bv).w,O,Y⟩))))
        ·exact psk 3 A O (Pb A O (Nb O ((ag) ⟨false,bq,O,(y.j T).w,O,Y⟩)))
       ·exact psk 3 z O (Pb z O (mb O (psk 3 O O (Pb O O (Nb O ((ag) ⟨false,bp,O,y,O,Y⟩))))))
     ·obtain⟨bw,bz,Y⟩:=zcP Y
      refine Cw.join 52 54 [52] (fun l w=> ∃ U e,CW.w e=w/\Le [] b e/\l=[vB U]/\bw U=some r) ?_ ?_
      ·rintro _ _ σ ⟨U,e,rfl,ao,rfl,Y⟩
       rw[bz]at Y
       have V:=d.n ao
       have F:=a.up ao
       refine cn Y (fun Y=>?_) fun Y=>?_
       ·obtain⟨b0,b2,Y⟩:=zcP Y
        refine Cw.join 55 61 [2] (fun l w=> ∃ W X,CW.w X=w/\Le [] e X/\l=[vB W]/\b0 W=some r) ?_ ?_
        ·rintro _ _ σ ⟨W,X,rfl,b3,rfl,Y⟩
         rw[b2]at Y
         have b4:=V.n b3
         exact .ret (rt Y b4)
        ·refine rg (la F (ca Y (fun _=>p54 (Op.rd (K:=[0]) x0.Kind x0.Branch x0.Who x0.Path x0.To x0.At x0.Text (f.ul V))) fun cy b5 Y Z=>mb O (bs Y (fun B Y=>?_) fun B Y=>?_)))
         ·exact wak 3 B (fl (F.up Z) O (ca Y (fun _=>p53) fun b6 b8 Y b9=>Pb B O (Nb O ((ag) ⟨b6,b8,O,(Z.j b9).w,O,Y⟩))))
         ·exact psk 3 B O (Pb B O (Nb O ((ag) ⟨false,b5,O,Z,O,Y⟩)))
       ·obtain⟨cb,cc,Y⟩:=zcP Y
        refine Cw.join 62 64 [62] (fun l w=> ∃ aa G,CW.w G=w/\Le [] e G/\l=[vB aa]/\cb aa=some r) ?_ ?_
        ·rintro _ _ σ ⟨aa,G,rfl,ac,rfl,Y⟩
         rw[cc]at Y
         have ae:=V.n ac
         refine cn Y (fun Y=>?_) fun Y=>?_
         ·obtain⟨cd,ce,Y⟩:=zcP Y
          refine Cw.join 65 71 [2] (fun l w=> ∃ af ah,CW.w ah=w/\Le [] G ah/\l=[vB af]/\cd af=some r) ?_ ?_
          ·rintro _ _ σ ⟨af,ah,rfl,cf,rfl,Y⟩
           rw[ce]at Y
           have cg:=ae.n cf
           exact .ret (rt Y cg)
          ·refine rg (la (F.up ac) (ca Y (fun _=>p54 (Op.rd (K:=[0]) x0.Kind x0.Branch x0.Who x0.Path x0.To x0.At x0.Text (f.ul ae))) fun cz ch Y ai=>mb O (bs Y (fun C Y=>?_) fun C Y=>?_)))
           ·exact wak 3 C (fl ((F.up ac).up ai) O (ca Y (fun _=>p57) fun ci cj Y ck=>Pb C O (Nb O ((ag) ⟨ci,cj,O,(ai.j ck).w,O,Y⟩))))
           ·exact psk 3 C O (Pb C O (Nb O ((ag) ⟨false,ch,O,ai,O,Y⟩)))
         ·exact sk (sr (Nb O (.ret (rt Y ae))))
        ·refine sr (Lw.eq O (Nb O (cn Y (fun Y=>?_) fun Y=>?_)))
         ·exact sk ((ag) ⟨(x0.Kind==6),e,O,Le.refl _ _,O,Y⟩)
         ·exact rg (Lw.eq O (Nb O ((ag) ⟨(x0.Kind==7),e,O,Le.refl _ _,O,Y⟩)))
      ·refine sr (Lw.eq O (Nb O (cn Y (fun Y=>?_) fun Y=>?_)))
       ·exact sk ((ag) ⟨(x0.Kind==4),b,O,Le.refl _ _,O,Y⟩)
       ·exact rg (Lw.eq O (Nb O ((ag) ⟨(x0.Kind==5),b,O,Le.refl _ _,O,Y⟩)))
 ·refine rg (fl H O (ca Y (fun _=>p53) fun c0 cl Y aj=>Lw.r O (R.not O) (mb O (bs Y (fun D Y=>?_) fun D Y=>?_))))
  ·exact psk 4 D O (Pb D O (nl ((ag) ⟨true,cl,O,aj,O,Y⟩)))
  ·exact wak 4 D (fl (H.up aj) O (ca Y (fun _=>p53) fun cm co Y cp=>Lw.r O (R.not O) (Pb D O (nl ((ag) ⟨(!cm),co,O,(aj.j cp).w,O,Y⟩)))))
theorem p31 {x0 a r}(b:Rd W K [vI x0.Kind,vS x0.Branch,vS x0.Who,vS x0.Path,vS x0.To,vI x0.At,a] x0)(Y:Vm.zbD x0=some r):Q1 31 [.agg [vI x0.Kind,vS x0.Branch,vS x0.Who,vS x0.Path,vS x0.To,vI x0.At,a].toArray] W [] fun W' v=>v=vB r:=
 (c31 (b.view _) Y).ad (fk 0) fun _ _ e=>e
theorem c29 {r}(Y:Vm.zbE=some r):Q0 29 [] W0 fun Wf v=> ∃ a,v=a/\OwS Wf LL [] [a] r:=by
 unfold Vm.zbE at Y
 refine zax.of Tryd.func29 O O O O (sr (Nv (.slice none 0 0) O (sr (Lw.t O (T.bsS (α:=Str) (xs:=[([]:Str),([115,101,116]:Str),([100,114,111,112]:Str),([109,111,118,101]:Str),([102,111,114,107]:Str),([117,110,105,116,101]:Str),([112,105,99,107]:Str),([98,97,99,107]:Str)]) 2 [] (W:=W0) [vS ([]:Str),vS ([115,101,116]:Str),vS ([100,114,111,112]:Str),vS ([109,111,118,101]:Str),vS ([102,111,114,107]:Str),vS ([117,110,105,116,101]:Str),vS ([112,105,99,107]:Str),vS ([98,97,99,107]:Str)] (Each.cons ((rdS _)) (Each.cons ((rdS _)) (Each.cons ((rdS _)) (Each.cons ((rdS _)) (Each.cons ((rdS _)) (Each.cons ((rdS _)) (Each.cons ((rdS _)) (Each.cons ((rdS _)) Each.nil)))))))) O) ?_))))
 rintro b _ ⟨h,rfl,d,e⟩
 have f:=d.o
 refine Nv b O ?_
 cases Y
 exact Cw.ret (zpA O (Res.mk f ⟨b,O,e.s.sub O O⟩))
theorem p29 {k0 r}(Y:Vm.zbE=some r):Q1 29 [] W [] fun W' v=> ∃ a,v=a/\Ow W' k0 [] [a] r:=
 (c29 (W0:=W.view [] []) Y).ad (fk k0) fun _ _ ⟨a,e,b⟩=>⟨a,e,b.back (zky _)⟩
theorem c58 (m:Nat): ∀ {W0:CW} {x0:Int} {r:Str} (Y:Vm.spec_l1Dec_r m x0=some r),zax Tryd.prog 58 [vI x0].toArray W0.w (Res W0 LL fun Wf v=>v=vS r):=by
 induction m with
 |zero=>intro W0 x0 r Y;exact absurd Y (by unfold Vm.spec_l1Dec_r;exact nofun)
 |succ m ih=>
  have p58: ∀ {W:CW} {x0:Int} {r:Str} (Y:Vm.spec_l1Dec_r m x0=some r),zax Tryd.prog 58 [vI x0].toArray W.w (Res W [] fun W' v=>v=vS r):=fun {W} {x0} {r} Y=>(ih (W0:=W.view [0] []) Y).ad (fk 0) fun _ _ e=>e
  intro W0 x0 r Y
  unfold Vm.spec_l1Dec_r at Y
  refine zax.of Tryd.func58 O O O O (sr (Ns O (ssr (mi O (Lw.lt O (nl (cn Y (fun Y=>?_) fun Y=>?_)))))))
  ·exact sr (Ns O (.ret (rt Y (Le.refl _ _))))
  ·refine sk (ssr (mi O (Lw.lt O (nl (cn Y (fun Y=>?_) fun Y=>?_)))))
   ·refine sr (mi O (Lw.r O (R.neg O) (ca Y (fun _=>p58) fun z3 W5 Y F=>?_)))
    have G:=F.o
    obtain⟨q7,H,Y⟩:=ob Y
    exact Lw.r O (R.sad H O O) (Ns O (.ret (rt Y G)))
   ·refine sk (ssr (mi O (Lw.lt O (nl (cn Y (fun Y=>?_) fun Y=>?_)))))
    ·refine sr (mi O (Lw.add O (Lw.r O (R.cv8 O O) (Lw.t O (T.bsS (α:=zcM) (xs:=[(by8 (w64 (48+x0)))]) 2 [] (W:=W0) [.int .u8 (UInt8.toNat (by8 (w64 (48+x0))):Int)] (Each.cons ((rdY _)) Each.nil) O) ?_))))
     rintro am _ ⟨an,rfl,l10,I⟩
     have J:=l10.o
     exact Lw.r O (R.cvB (xs:=([(by8 (w64 (48+x0)))]:List zcM)) I.rd O (fun h=>h.1)) (Ns O (.ret (rt Y J)))
    ·refine sk (Cw.seq ?_)
     obtain⟨b,K,Y⟩:=ob Y
     obtain⟨a,L,Y⟩:=ob Y
     refine Cw.par [[],[0],[0,1],[],[3],[3,4],[3,4,5],[3,4,5,6],[3,4,5,6,7],[0,1,2,3,4,5,6,7,8],[0,1,2,3,4,5,6,7,8,9]] [[],[0],[1],[],[3],[4],[5],[6],[7],[2,8],[9]] [[],[],[],[],[],[],[],[],[],[],[]] [[0],[1],[2],[3],[4],[5],[6],[7],[8],[9],[10]] [[],[],[],[],[],[],[],[3],[],[],[]] [0,1,2,3,4,5,6,7,8,9,10] [] [fun vs W=>(vs 0)=vI x0,fun vs W=>(vs 1)=vI (w64 (Int.tdiv x0 10)),fun vs W=>(vs 2)=vS b,fun vs W=>(vs 3)=vI x0,fun vs W=>(vs 4)=vI (Int.tmod x0 10),fun vs W=>(vs 5)=vI (w64 (48+(Int.tmod x0 10))),fun vs W=>(vs 6) = .int .u8 (UInt8.toNat (by8 (w64 (48+(Int.tmod x0 10)))):Int),fun vs W=>Ow W 3 [] [(vs 7)] ([(by8 (w64 (48+(Int.tmod x0 10))))]:List zcM),fun vs W=>(vs 8)=vS (([(by8 (w64 (48+(Int.tmod x0 10))))]:List zcM):Str),fun vs W=>(vs 9)=vS a,fun vs W=>(vs 10)=vS a] [] mixed (by kernel_rfl) O zi3.nil ?_
     intro ao M
     have N:=M.o
     refine⟨(zaK.cons ?_ (zaK.cons ?_ (zaK.cons ?_ (zaK.cons ?_ (zaK.cons ?_ (zaK.cons ?_ (zaK.cons ?_ (zaK.cons ?_ (zaK.cons ?_ (zaK.cons ?_ (zaK.cons ?_ zaK.nil))))))))))),(zb9.cons SE (zb9.cons SE (zb9.cons SE (zb9.cons SE (zb9.cons SE (zb9.cons SE (zb9.cons SE (zb9.cons SO (zb9.cons SE (zb9.cons SE (zb9.cons SE zb9.nil))))))))))),?_⟩
     ·intro vs ap lW hN hV
      exact Trq (R.mv (v:=vI x0) O) O
     ·intro vs aq lW hN hV
      have d:vs 0=vI x0:=(hN 0 (zbd O))
      obtain⟨vs,rfl⟩:=zal d
      exact Trq (R.quo O O (by decide)) O
     ·intro vs ar lW hN hV
      have f:vs 1=vI (w64 (Int.tdiv x0 10)):=(hN 1 (zbd O))
      obtain⟨vs,rfl⟩:=zal f
      refine Tr.mono (T.call O (p58 K)) ?_
      rintro _ _ ⟨P,rfl,Q,rfl⟩
      exact⟨P,O,Q,(show(vS b:Value)=vS b from O)⟩
     ·intro vs au lW hN hV
      exact Trq (R.mv (v:=vI x0) O) O
     ·intro vs av lW hN hV
      have i:vs 3=vI x0:=(hN 3 (zbd O))
      obtain⟨vs,rfl⟩:=zal i
      exact Trq (R.rem O O (by decide)) O
     ·intro vs aw lW hN hV
      have k:vs 4=vI (Int.tmod x0 10):=(hN 4 (zbd O))
      obtain⟨vs,rfl⟩:=zal k
      exact Trq (R.add O O) O
     ·intro vs ax lW hN hV
      have x:vs 5=vI (w64 (48+(Int.tmod x0 10))):=(hN 5 (zbd O))
      obtain⟨vs,rfl⟩:=zal x
      exact Trq (R.cv8 O O) O
     ·intro vs S lW hN hV
      have y:vs 6 = .int .u8 (UInt8.toNat (by8 (w64 (48+(Int.tmod x0 10)))):Int):=(hN 6 (zbd O))
      obtain⟨vs,rfl⟩:=zal y
      refine Tr.mono (T.bsS (α:=zcM) (xs:=[(by8 (w64 (48+(Int.tmod x0 10))))]) 3 [] (W:=S) [.int .u8 (UInt8.toNat (by8 (w64 (48+(Int.tmod x0 10)))):Int)] (Each.cons ((rdY _)) Each.nil) O) ?_
      rintro U _ ⟨E,rfl,V,X⟩
      exact⟨E,O,V,(show Ow E 3 [] [U] ([(by8 (w64 (48+(Int.tmod x0 10))))]:List zcM) from X)⟩
     ·intro vs Z lW hN hV
      obtain⟨z,A⟩: ∃ v,vs 7=v:=⟨_,O⟩
      obtain⟨vs,rfl⟩:=zal A
      have aa:Ow Z 3 [] [z] ([(by8 (w64 (48+(Int.tmod x0 10))))]:List zcM):=(hN 7 (zbd O))
      exact Trq (R.cvB (xs:=([(by8 (w64 (48+(Int.tmod x0 10))))]:List zcM)) aa.rd O (fun h=>h.1)) O
     ·intro vs ay lW hN hV
      have B:vs 2=vS b:=(hN 2 (zbd O))
      obtain⟨vs,rfl⟩:=zal B
      have C:vs 8=vS (([(by8 (w64 (48+(Int.tmod x0 10))))]:List zcM):Str):=(hN 8 (zbd O))
      obtain⟨vs,rfl⟩:=zal C
      exact Trq (R.sad L O O) O
     ·intro vs az lW hN hV
      have D:vs 9=vS a:=(hN 9 (zbd O))
      obtain⟨vs,rfl⟩:=zal D
      exact Trq (R.as (v:=vS a) O) O
     ·intro vs ac ae hN
      have af:=N.n ae
      have d:vs 0=vI x0:=(hN 0 (zbd O))
      obtain⟨vs,rfl⟩:=zal d
      have f:vs 1=vI (w64 (Int.tdiv x0 10)):=(hN 1 (zbd O))
      obtain⟨vs,rfl⟩:=zal f
      have B:vs 2=vS b:=(hN 2 (zbd O))
      obtain⟨vs,rfl⟩:=zal B
      have i:vs 3=vI x0:=(hN 3 (zbd O))
      obtain⟨vs,rfl⟩:=zal i
      have k:vs 4=vI (Int.tmod x0 10):=(hN 4 (zbd O))
      obtain⟨vs,rfl⟩:=zal k
      have x:vs 5=vI (w64 (48+(Int.tmod x0 10))):=(hN 5 (zbd O))
      obtain⟨vs,rfl⟩:=zal x
      have y:vs 6 = .int .u8 (UInt8.toNat (by8 (w64 (48+(Int.tmod x0 10)))):Int):=(hN 6 (zbd O))
      obtain⟨vs,rfl⟩:=zal y
      obtain⟨z,A⟩: ∃ v,vs 7=v:=⟨_,O⟩
      obtain⟨vs,rfl⟩:=zal A
      have a0:Ow ac 3 [] [z] ([(by8 (w64 (48+(Int.tmod x0 10))))]:List zcM):=(hN 7 (zbd O))
      have C:vs 8=vS (([(by8 (w64 (48+(Int.tmod x0 10))))]:List zcM):Str):=(hN 8 (zbd O))
      obtain⟨vs,rfl⟩:=zal C
      have D:vs 9=vS a:=(hN 9 (zbd O))
      obtain⟨vs,rfl⟩:=zal D
      have ah:vs 10=vS a:=(hN 10 (zbd O))
      obtain⟨vs,rfl⟩:=zal ah
      exact .ret (rt Y af)
theorem p58 {x0 r}(Y:Vm.zcx x0=some r):Q1 58 [vI x0] W [] fun W' v=>v=vS r:=
 (c58 (x0.natAbs+2) (W0:=W.view [] []) Y).ad (fk 0) fun _ _ e=>e
theorem c32 {x0 af r}(h0:Rd W0 [0] [vI x0.Kind,vS x0.Branch,vS x0.Who,vS x0.Path,vS x0.To,vI x0.At,af] x0)(Y:Vm.zbp x0=some r):Q0 32 [.agg [vI x0.Kind,vS x0.Branch,vS x0.Who,vS x0.Path,vS x0.To,vI x0.At,af].toArray] W0 fun Wf v=>v=vS r:=by
 unfold Vm.zbp at Y
 obtain⟨cf,ah,au⟩:=Op.split h0
 simp only[List.cons.injEq,and_true,true_and]at ah
 obtain rfl:=ah
 refine zax.of Tryd.func32 O O O O (sr (bo 2 O fun a W1 l1 b1=>?_))
 have a2:=l1.o
 refine Ns O (Cw.seq ?_)
 obtain⟨i,e7,Y⟩:=ob Y
 obtain⟨E,ai,Y⟩:=ob Y
 obtain⟨F,az,Y⟩:=ob Y
 obtain⟨G,a0,Y⟩:=ob Y
 obtain⟨H,a1,Y⟩:=ob Y
 obtain⟨f,a3,Y⟩:=ob Y
 refine Cw.par [[],[],[1],[0,1,2],[0,1,2,3],[0,1,2,3,4],[],[6],[0,1,2,3,4,5,6,7],[0,1,2,3,4,5,6,7,8],[],[10],[0,1,2,3,4,5,6,7,8,9,10,11],[0,1,2,3,4,5,6,7,8,9,10,11,12]] [[],[],[1],[0,2],[0,3],[4],[],[6],[5,7],[8],[],[10],[9,11],[12]] [[],[],[],[],[],[],[],[],[],[],[],[],[],[]] [[0],[1],[2],[0,3],[4],[5],[6],[7],[8],[9],[10],[11],[12],[13]] [[3],[],[],[],[],[],[],[],[],[],[],[],[],[]] [0,1,2,3,4,5,6,7,8,9,10,11,12,13] [] [fun vs W=>Ow W 3 [] [(vs 0)] i,fun vs W=>(vs 1)=ptr ((bx a).add 0),fun vs W=>(vs 2)=vI x0.Kind,fun vs W=>(vs 3)=ptr ((slA (vs 0)).add ((x0.Kind).toNat*Rp.sz (Str))),fun vs W=>(vs 4)=vS E,fun vs W=>(vs 5)=vS F,fun vs W=>(vs 6)=ptr ((bx a).add 1),fun vs W=>(vs 7)=vS x0.Branch,fun vs W=>(vs 8)=vS G,fun vs W=>(vs 9)=vS H,fun vs W=>(vs 10)=ptr ((bx a).add 2),fun vs W=>(vs 11)=vS x0.Who,fun vs W=>(vs 12)=vS f,fun vs W=>(vs 13)=vS f] [] mixed (by kernel_rfl) O zi3.nil ?_
 intro ch aj
 have a4:=a2.n aj
 have A:=b1.up aj
 refine⟨(zaK.cons ?_ (zaK.cons ?_ (zaK.cons ?_ (zaK.cons ?_ (zaK.cons ?_ (zaK.cons ?_ (zaK.cons ?_ (zaK.cons ?_ (zaK.cons ?_ (zaK.cons ?_ (zaK.cons ?_ (zaK.cons ?_ (zaK.cons ?_ (zaK.cons ?_ zaK.nil)))))))))))))),(zb9.cons SO (zb9.cons SE (zb9.cons SE (zb9.cons (fun vs vs' W W' _ hv l hd h=>by(show(vs' 3)=ptr ((slA (vs' 0)).add ((x0.Kind).toNat*Rp.sz (Str))));rw[hv 0 (zbd O),hv 3 (zbd O)];exact h) (zb9.cons SE (zb9.cons SE (zb9.cons SE (zb9.cons SE (zb9.cons SE (zb9.cons SE (zb9.cons SE (zb9.cons SE (zb9.cons SE (zb9.cons SE zb9.nil)))))))))))))),?_⟩
 ·intro vs ci lW hN hV
  refine Tr.mono (T.call O (p29 (k0:=3) e7)) ?_
  rintro a5 _ ⟨ak,rfl,a6,⟨_,rfl,a7⟩⟩
  exact⟨ak,O,a6,(show Ow ak 3 [] [a5] i from a7)⟩
 ·intro vs cj lW hN hV
  exact Trq (R.fa O) O
 ·intro vs ck lW hN hV
  have I:vs 1=ptr ((bx a).add 0):=(hN 1 (zbd O))
  obtain⟨vs,rfl⟩:=zal I
  exact Trq (R.ld (v:=vI x0.Kind) O O ((A.up lW O).cell O)) O
 ·intro vs a8 lW hN hV
  obtain⟨e,k⟩: ∃ v,vs 0=v:=⟨_,O⟩
  obtain⟨vs,rfl⟩:=zal k
  have a9:Ow a8 3 [] [e] i:=(hN 0 (zbd O))
  have J:vs 2=vI x0.Kind:=(hN 2 (zbd O))
  obtain⟨vs,rfl⟩:=zal J
  exact Trq (R.ix (α:=Str) a9.rd ai O O O) O
 ·intro vs ba lW hN hV
  obtain⟨e,k⟩: ∃ v,vs 0=v:=⟨_,O⟩
  obtain⟨vs,rfl⟩:=zal k
  have bb:Ow ba 3 [] [e] i:=(hN 0 (zbd O))
  have K:vs 3=ptr ((slA e).add ((x0.Kind).toNat*Rp.sz (Str))):=(hN 3 (zbd O))
  obtain⟨vs,rfl⟩:=zal K
  exact Trq (R.ld O O (bb.rd.at_ ai).str) O
 ·intro vs cl lW hN hV
  have L:vs 4=vS E:=(hN 4 (zbd O))
  obtain⟨vs,rfl⟩:=zal L
  exact Trq (R.sad az O O) O
 ·intro vs cm lW hN hV
  exact Trq (R.fa O) O
 ·intro vs co lW hN hV
  have M:vs 6=ptr ((bx a).add 1):=(hN 6 (zbd O))
  obtain⟨vs,rfl⟩:=zal M
  exact Trq (R.ld (v:=vS x0.Branch) O O ((A.up lW O).cell O)) O
 ·intro vs cp lW hN hV
  have N:vs 5=vS F:=(hN 5 (zbd O))
  obtain⟨vs,rfl⟩:=zal N
  have P:vs 7=vS x0.Branch:=(hN 7 (zbd O))
  obtain⟨vs,rfl⟩:=zal P
  exact Trq (R.sad a0 O O) O
 ·intro vs cq lW hN hV
  have Q:vs 8=vS G:=(hN 8 (zbd O))
  obtain⟨vs,rfl⟩:=zal Q
  exact Trq (R.sad a1 O O) O
 ·intro vs cs lW hN hV
  exact Trq (R.fa O) O
 ·intro vs ct lW hN hV
  have S:vs 10=ptr ((bx a).add 2):=(hN 10 (zbd O))
  obtain⟨vs,rfl⟩:=zal S
  exact Trq (R.ld (v:=vS x0.Who) O O ((A.up lW O).cell O)) O
 ·intro vs cu lW hN hV
  have U:vs 9=vS H:=(hN 9 (zbd O))
  obtain⟨vs,rfl⟩:=zal U
  have V:vs 11=vS x0.Who:=(hN 11 (zbd O))
  obtain⟨vs,rfl⟩:=zal V
  exact Trq (R.sad a3 O O) O
 ·intro vs cv lW hN hV
  have X:vs 12=vS f:=(hN 12 (zbd O))
  obtain⟨vs,rfl⟩:=zal X
  exact Trq (R.as (v:=vS f) O) O
 ·intro vs b am hN
  have an:=a4.n am
  have d:=A.up am
  obtain⟨e,k⟩: ∃ v,vs 0=v:=⟨_,O⟩
  obtain⟨vs,rfl⟩:=zal k
  have cw:Ow b 3 [] [e] i:=(hN 0 (zbd O))
  have I:vs 1=ptr ((bx a).add 0):=(hN 1 (zbd O))
  obtain⟨vs,rfl⟩:=zal I
  have J:vs 2=vI x0.Kind:=(hN 2 (zbd O))
  obtain⟨vs,rfl⟩:=zal J
  have K:vs 3=ptr ((slA e).add ((x0.Kind).toNat*Rp.sz (Str))):=(hN 3 (zbd O))
  obtain⟨vs,rfl⟩:=zal K
  have L:vs 4=vS E:=(hN 4 (zbd O))
  obtain⟨vs,rfl⟩:=zal L
  have N:vs 5=vS F:=(hN 5 (zbd O))
  obtain⟨vs,rfl⟩:=zal N
  have M:vs 6=ptr ((bx a).add 1):=(hN 6 (zbd O))
  obtain⟨vs,rfl⟩:=zal M
  have P:vs 7=vS x0.Branch:=(hN 7 (zbd O))
  obtain⟨vs,rfl⟩:=zal P
  have Q:vs 8=vS G:=(hN 8 (zbd O))
  obtain⟨vs,rfl⟩:=zal Q
  have U:vs 9=vS H:=(hN 9 (zbd O))
  obtain⟨vs,rfl⟩:=zal U
  have S:vs 10=ptr ((bx a).add 2):=(hN 10 (zbd O))
  obtain⟨vs,rfl⟩:=zal S
  have V:vs 11=vS x0.Who:=(hN 11 (zbd O))
  obtain⟨vs,rfl⟩:=zal V
  have X:vs 12=vS f:=(hN 12 (zbd O))
  obtain⟨vs,rfl⟩:=zal X
  have bc:vs 13=vS f:=(hN 13 (zbd O))
  obtain⟨vs,rfl⟩:=zal bc
  obtain⟨ao,be,Y⟩:=zcP Y
  refine Cw.join 18 74 [3,4] (fun l w=> ∃ Z ap aa,CW.w aa=w/\Le [] b aa/\l=[vS Z,ap]/\ao Z=some r) ?_ ?_
  ·rintro _ _ σ ⟨Z,ap,aa,rfl,bg,rfl,Y⟩
   rw[be]at Y
   have bh:=an.n bg
   exact sr (ms O (Ns O (.ret (rt Y bh))))
  ·refine sr (fl d O (nl (Cw.block (sr (Lw.eq O (Nb O (cn Y (fun Y=>?_) fun Y=>?_)))))))
   ·refine sr (ms O ?_)
    obtain⟨cx,bi,Y⟩:=ob Y
    refine Lw.r O (R.sad bi O O) (fl d O ?_)
    obtain⟨cy,bj,Y⟩:=ob Y
    refine Lw.r O (R.sad bj O O) ?_
    obtain⟨bk,bl,Y⟩:=ob Y
    refine Lw.r O (R.sad bl O O) (Ns O (sr (Ni O (Cw.block (Cw.loop 34 48 [3,4] (fun m l w=> ∃ B x y,CW.w y=w/\Le [] b y/\l=[vS B,vI x]/\Vm.zau x0 ao m B x=some r) _ ⟨bk,0,b,O,Le.refl _ _,O,Y⟩ ?_)))))
    rintro(_ |cz) _ _ σ ⟨B,x,y,rfl,z,rfl,Y⟩
    ·cases Y
    unfold Vm.zau at Y
    have bm:=an.n z
    refine ssr ?_
    have ac:=au.ul bm
    refine mi O (fl (d.up z) O (Lw.ln x0.Text ac O (Lw.lt O (nl (cn Y (fun Y=>?_) fun Y=>?_)))))
    ·refine sk (Cw.seq (Cw.block (rg (ms O ?_))))
     obtain⟨c0,bn,Y⟩:=ob Y
     refine Lw.r O (R.sad bn O O) (fl (d.up z) O (mi O ?_))
     obtain⟨c1,aq,Y⟩:=ob Y
     refine Lw.r O (R.ix (α:=Str) ac aq O O O) (Lw.r O (R.ld O O (ac.at_ aq).str) ?_)
     obtain⟨bp,bq,Y⟩:=ob Y
     exact Lw.r O (R.sad bq O O) (Ns O (rg (mi O (Lw.add O (Ni O ((agm) ⟨bp,w64 (x+1),y,O,z,O,Y⟩))))))
    ·exact Cw.exit ((ag) ⟨B,vI x,y,O,z,O,Y⟩)
   ·refine sr (Lw.eq O (Nb O (cn Y (fun Y=>?_) fun Y=>?_)))
    ·refine rg (ms O ?_)
     obtain⟨c2,br,Y⟩:=ob Y
     refine Lw.r O (R.sad br O O) (fl d O ?_)
     obtain⟨bu,bv,Y⟩:=ob Y
     exact Lw.r O (R.sad bv O O) (Ns O ((ag) ⟨bu,undef,b,O,Le.refl _ _,O,Y⟩))
    ·refine sr (Lw.eq O (Nb O (cn Y (fun Y=>?_) fun Y=>?_)))
     ·refine rg (ms O ?_)
      obtain⟨c3,bw,Y⟩:=ob Y
      refine Lw.r O (R.sad bw O O) (fl d O ?_)
      obtain⟨c4,bz,Y⟩:=ob Y
      refine Lw.r O (R.sad bz O O) ?_
      obtain⟨c5,b0,Y⟩:=ob Y
      refine Lw.r O (R.sad b0 O O) (fl d O ?_)
      obtain⟨b2,b3,Y⟩:=ob Y
      exact Lw.r O (R.sad b3 O O) (Ns O ((ag) ⟨b2,undef,b,O,Le.refl _ _,O,Y⟩))
     ·obtain⟨b4,b5,Y⟩:=zcP Y
      refine Cw.join 67 69 [67] (fun l w=> ∃ ae C,CW.w C=w/\Le [] b C/\l=[vB ae]/\b4 ae=some r) ?_ ?_
      ·rintro _ _ σ ⟨ae,C,rfl,D,rfl,Y⟩
       rw[b5]at Y
       refine cn Y (fun Y=>?_) fun Y=>?_
       ·refine rg (ms O ?_)
        obtain⟨c6,b6,Y⟩:=ob Y
        refine Lw.r O (R.sad b6 O O) (fl (d.up D) O ?_)
        obtain⟨b7,b8,Y⟩:=ob Y
        exact Lw.r O (R.sad b8 O O) (Ns O ((ag) ⟨b7,undef,C,O,D,O,Y⟩))
       ·refine rg (ms O ?_)
        obtain⟨c7,b9,Y⟩:=ob Y
        refine Lw.r O (R.sad b9 O O) (fl (d.up D) O (ca Y (fun _=>p58) fun c8 cb Y cc=>?_))
        obtain⟨cd,ce,Y⟩:=ob Y
        exact Lw.r O (R.sad ce O O) (Ns O ((ag) ⟨cd,undef,cb,O,(D.j cc).w,O,Y⟩))
      ·refine sr (Lw.eq O (Nb O (cn Y (fun Y=>?_) fun Y=>?_)))
       ·exact sk ((ag) ⟨(x0.Kind==4),b,O,Le.refl _ _,O,Y⟩)
       ·exact rg (Lw.eq O (Nb O ((ag) ⟨(x0.Kind==5),b,O,Le.refl _ _,O,Y⟩)))
theorem p32 {x0 a r}(b:Rd W K [vI x0.Kind,vS x0.Branch,vS x0.Who,vS x0.Path,vS x0.To,vI x0.At,a] x0)(Y:Vm.zbp x0=some r):Q1 32 [.agg [vI x0.Kind,vS x0.Branch,vS x0.Who,vS x0.Path,vS x0.To,vI x0.At,a].toArray] W [] fun W' v=>v=vS r:=
 (c32 (b.view _) Y).ad (fk 0) fun _ _ e=>e
theorem c12 {x0 b r}(k:Rd W0 [0] [vI x0.Kind,vS x0.Branch,vS x0.Who,vS x0.Path,vS x0.To,vI x0.At,b] x0)(Y:Vm.zbS x0=some r):Q0 12 [.agg [vI x0.Kind,vS x0.Branch,vS x0.Who,vS x0.Path,vS x0.To,vI x0.At,b].toArray] W0 fun Wf v=>v=vS r:=by
 unfold Vm.zbS at Y
 obtain⟨A,d,e⟩:=Op.split k
 simp only[List.cons.injEq,and_true,true_and]at d
 obtain rfl:=d
 refine zax.of Tryd.func12 O O O O (sr (bo 2 O fun B C x f=>?_))
 have h:=x.o
 refine Ns O (ssr (la f (ca Y (fun _=>p31 (Op.rd (K:=[0]) x0.Kind x0.Branch x0.Who x0.Path x0.To x0.At x0.Text (e.ul h))) fun D E Y i=>?_)))
 have a:=h.n i
 refine Lw.r O (R.not O) (nl (cn Y (fun Y=>?_) fun Y=>?_))
 ·exact sr (Ns O (.ret (rt Y a)))
 ·refine sk (sr (la (f.up i) (ca Y (fun _=>p32 (Op.rd (K:=[0]) x0.Kind x0.Branch x0.Who x0.Path x0.To x0.At x0.Text (e.ul a))) fun F G Y y=>?_)))
  have z:=a.n y
  exact Ns O (.ret (rt Y z))
theorem p12 {x0 a r}(b:Rd W K [vI x0.Kind,vS x0.Branch,vS x0.Who,vS x0.Path,vS x0.To,vI x0.At,a] x0)(Y:Vm.zbS x0=some r):Q1 12 [.agg [vI x0.Kind,vS x0.Branch,vS x0.Who,vS x0.Path,vS x0.To,vI x0.At,a].toArray] W [] fun W' v=>v=vS r:=
 (c12 (b.view _) Y).ad (fk 0) fun _ _ e=>e
end Go.Sx
