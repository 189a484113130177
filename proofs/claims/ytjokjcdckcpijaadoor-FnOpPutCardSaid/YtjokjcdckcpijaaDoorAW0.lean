/- Walks: each function answers as its model, printed by a program of ours. Conditions: the arguments read as they are given. -/
import Derived.Test.YtjokjcdckcpijaaDoorATs
import Derived.Test.YtjokjcdckcpijaaDoorAM0
namespace Go.Sx
open Go Go.Proofs Go.Vm Rp
set_option linter.unusedVariables false
set_option linter.unusedSimpArgs false
variable {W W0:CW}{K:List Nat}
theorem c18 {x0 a r}(e:Rd W0 [0] [a] x0)(Y:Vm.zaX x0=some r):Q0 18 [a] W0 fun Wf v=> ∃ (ug0:Nat) (i:Value),v=ptr (bx ug0)/\Bx Wf 31 ug0 [i,vI r.p]/\Rd Wf [0] [i] r.b:=by
 unfold Vm.zaX at Y
 refine zaq.of Tryd.func18 O O O O (sr (Nv (.pointer none) O ?_))
 obtain⟨z,A,Y⟩:=zcR Y
 refine Cw.join 3 7 [0] (fun l w=> ∃ h d f,CW.w f=w/\Le [] W0 f/\l=[d]/\Rd f [0] [d] h/\z h=some r) ?_ ?_
 ·rintro _ _ σ ⟨h,d,f,rfl,B,rfl,r3,Y⟩
  rw[A]at Y
  have C:=B.o
  refine sr (mv d O (Lw.r O (R.bd (zs:=[.slice none 0 0,vI 0]) (cs:=[d,vI 0]) [(0,d)] O O O (zeR r3.oc O zgw)) (bo 2 O fun D K E F=>?_)))
  have k:=E.o
  refine Np O ?_
  obtain⟨L,G,H,I⟩:=F.dyeO 31
  have x:=H.s
  cases Y
  rw[<- G]
  exact Cw.ret (ziK O (Res.mk ((C.trans k).trans x) ⟨D,d,O,I,(r3.ul (k.trans x))⟩))
 ·refine sr (mv a O (Lw.ln x0 e O (Lw.gt O (nl (cn Y (fun Y=>?_) fun Y=>?_)))))
  ·refine rg (mv a O ?_)
   obtain⟨J,y,Y⟩:=ob Y
   have r16:=e.cutV y
   exact Lw.r O (R.sl e y O (.inl ⟨O,O⟩) (.inr O)) (Nv (cutV a (0:Int).toNat (2000:Int).toNat (Rp.sz (Byte))) O ((ag) ⟨J,(cutV a (0:Int).toNat (2000:Int).toNat (Rp.sz (Byte))),W0,O,Le.refl _ _,O,r16,Y⟩))
  ·exact sk ((ag) ⟨x0,a,W0,O,Le.refl _ _,O,e,Y⟩)
theorem p18 {x0 d k0 r}(f:Rd W K [d] x0)(Y:Vm.zaX x0=some r):Q1 18 [d] W [] fun W' v=> ∃ (ug0:Nat) (a:Value),v=ptr (bx ug0)/\Bx W' k0 ug0 [a,vI r.p]/\Rd W' (0::K) [a] r.b:=
 zaq.adJ (J:=[]) (fun c=>bif Nat.beq c 0 then 0 else bif Nat.beq c 31 then k0 else 0) (c18 (f.view _) Y) fun _ _ ⟨ug0,a,e,h,i⟩=>⟨ug0,a,e,h.backN O,i.back O⟩
theorem c20 {x0 i k x1 r}(hB0:Bx W0 2 i [k,vI x0.p])(x:Rd W0 [0] [k] x0.b)(Y:Vm.zad x0 x1=some r):Q0 20 [ptr (bx i),vI x1] W0 fun Wf v=>v=vI r.1/\Bx Wf 2 i [k,vI r.2]:=by
 unfold Vm.zad at Y
 refine zaq.of Tryd.func20 O O O O (sr (Ni O (sr (mp O (mp O (Lw.r O (R.nc O) (Lw.fa O (Lw.r O (R.ld (v:=vI x0.p) O O (hB0.cell O)) (Lw.add O (Lw.r O (R.nc O) (Lw.fa O (Lw.u (T.st (j:=1) (v:=vI (w64 (x0.p+1))) hB0 O O O O O) ?_))))))))))))
 rintro _ _ ⟨y,rfl,K,E⟩
 have F:=K.s
 refine nl (Cw.seq ?_)
 obtain⟨L,M,Y⟩:=zcR Y
 refine Cw.join 15 24 [24] (fun l w=> ∃ z A,CW.w A=w/\Le [] y A/\l=[vB z]/\L z=some r) ?_ ?_
 ·rintro _ _ σ ⟨z,A,rfl,G,rfl,Y⟩
  rw[M]at Y
  have h:=F.n G
  have d:=E.up G
  refine cn Y (fun Y=>?_) fun Y=>?_
  ·refine sr (Ni O ?_)
   cases Y
   exact Cw.ret (ziK O (Res.mk h ⟨O,d⟩))
  ·refine sk (sr (mp O (Lw.r O (R.nc O) (fl d O (Lw.sub O (Ni O (ssr ?_)))))))
   have B:=x.ul h
   refine mi O (mp O (Lw.r O (R.nc O) (fl d O (Lw.ln x0.b B O (Lw.lt O (nl (cn Y (fun Y=>?_) fun Y=>?_)))))))
   ·refine sr (mp O (Lw.r O (R.nc O) (fl d O (mi O ?_))))
    obtain⟨V,H,Y⟩:=ob Y
    refine Lw.r O (R.ix (α:=Byte) B H O O O) (Lw.r O (R.ld O O (B.at_ H).byte) (Lw.r O (R.cvI O O) (mi O ?_)))
    obtain⟨_,N,Y⟩:=ob Y
    refine Lw.r O (R.rem O O (nz N)) (Ni O ?_)
    cases Y
    exact Cw.ret (ziK O (Res.mk h ⟨O,d⟩))
   ·refine sk (Cw.seq (Cw.draw [] [(0,0),(1,0),(2,0),(3,1),(4,0),(5,0),(6,0),(7,0),(8,1),(9,0),(10,0),(11,0),(12,1),(13,0),(14,0),(15,0),(16,0),(17,0),(18,1),(19,0),(20,0),(21,0),(22,0),(23,0),(24,0),(25,1),(26,0),(27,0),(28,0),(29,1),(30,0),(31,0),(32,0),(33,0),(34,0),(35,0),(36,0),(37,0),(38,0),(39,0),(40,1),(41,0),(42,0),(43,0),(44,0),(45,0)] mixed (by kernel_rfl) fun W I=>?_))
    have J:=h.n I
    have e:=d.up I
    have a:=x.ul J
    refine Dp O (Mw.p O O (fun _=>R.nc O) (Dfl e O O O (Di O (Dp O (Mw.p O O (fun _=>R.nc O) (Dfl e O O O (Mw.p O O (fun _=>zqO (xs:=x0.b) a O) ?_)))))))
    obtain⟨_,P,Y⟩:=ob Y
    refine Mw.p O O (fun _=>R.rem O O (nz P)) ?_
    obtain⟨X,C,Y⟩:=ob Y
    refine Mw.p O O (fun _=>R.ix (α:=Byte) a C O O O) (Mw.q O O (fun _ c=>R.ld O O (zgd (a.at_ C).1 O (a.at_ C).byte c)) (Mw.p O O (fun _=>R.cvI O O) (Mw.p O O (fun _=>R.mul O O) (Dp O (Mw.p O O (fun _=>R.nc O) (Dfl e O O O (Di O (Mw.p O O (fun _=>R.mul O O) (Mw.p O O (fun _=>R.add O O) (Dp O (Mw.p O O (fun _=>R.nc O) (Dfl e O O O (Mw.p O O (fun _=>zqO (xs:=x0.b) a O) ?_)))))))))))))
    obtain⟨_,Q,Y⟩:=ob Y
    refine Mw.p O O (fun _=>R.rem O O (nz Q)) ?_
    obtain⟨Z,D,Y⟩:=ob Y
    refine Mw.p O O (fun _=>R.ix (α:=Byte) a D O O O) (Mw.q O O (fun _ c=>R.ld O O (zgd (a.at_ D).1 O (a.at_ D).byte c)) (Mw.p O O (fun _=>R.cvI O O) (Mw.p O O (fun _=>R.mul O O) (Mw.p O O (fun _=>R.add O O) (Di O (Mw.p O O (fun _=>R.mul O O) (Mw.p O O (fun _=>R.add O O) (Di O (Dp O (Mw.p O O (fun _=>R.nc O) (Dfl e O O O (Mw.p O O (fun _=>zqO (xs:=x0.b) a O) ?_))))))))))))
    obtain⟨_,S,Y⟩:=ob Y
    refine Mw.p O O (fun _=>R.quo O O (nz S)) (Mw.p O O (fun _=>R.mul O O) (Mw.p O O (fun _=>R.add O O) (Hi O (Mw.nil (sr (mi O (mi O (Lw.r O (R.quo O O (by decide)) (Lw.r O (R.xor O O) (Ni O (sr (mi O (mi O ?_)))))))))))))
    obtain⟨_,U,Y⟩:=ob Y
    refine Lw.r O (R.rem O O (nz U)) (Ni O ?_)
    cases Y
    exact Cw.ret (ziK O (Res.mk J ⟨O,e⟩))
 ·refine rg (mi O (Lw.lt O (mb O (bs Y (fun f Y=>?_) fun f Y=>?_))))
  ·exact psk 6 f O (Pb f O (nl ((ag) ⟨true,y,O,Le.refl _ _,O,Y⟩)))
  ·exact wak 6 f (mp O (Lw.r O (R.nc O) (fl E O (Lw.ln x0.b (x.ul F) O (Lw.eq O (Pb f O (nl ((ag) ⟨((x0.b.length:Int)==0),y,O,Le.refl _ _,O,Y⟩))))))))
theorem p20 {x0 a d x1 c0 r}(hB0:Bx W c0 a [d,vI x0.p])(f:Rd W K [d] x0.b)(hJ:okJ K [c0]=true)(Y:Vm.zad x0 x1=some r):Q1 20 [ptr (bx a),vI x1] W [c0] fun W' v=>v=vI r.1/\Bx W' c0 a [d,vI r.2]:=
 zaq.adJ (J:=[c0]) (fun c=>bif Nat.beq c 0 then 0 else bif Nat.beq c 2 then c0 else 0) (c20 (hB0.viewJ 0 hJ) (f.view _) Y) fun _ _ ⟨e,h⟩=>⟨e,Bx.backJ 0 h O⟩
theorem c45 {x0 d e x1 a r}(hB0:Bx W0 2 d [e,vI x0.p])(k:Rd W0 [0] [e] x0.b)(f:Rd W0 [0] [a] x1)(Y:Vm.zal x0 x1=some r):Q0 45 [ptr (bx d),a] W0 fun Wf v=>v=vS r.1/\Bx Wf 2 d [e,vI r.2]:=by
 unfold Vm.zal at Y
 refine zaq.of Tryd.func45 O O O O (sr (Ns O (sr (mv a O (mp O (mv a O (Lw.ln x1 f O (cr Y (fun _=>p20 (c0:=2) (x0:=x0) hB0 k O) ?_))))))))
 rintro z _ A Y x ⟨rfl,y⟩
 have h:=x.s
 obtain⟨B,i,Y⟩:=ob Y
 refine Lw.r O (R.ix (α:=Str) (f.ul h) i O O O) (Lw.r O (R.ld O O ((f.ul h).at_ i).str) (Ns O ?_))
 cases Y
 exact Cw.ret (ziK O (Res.mk h ⟨O,y⟩))
theorem p45 {x0 a d x1 f c0 r}(hB0:Bx W c0 a [d,vI x0.p])(h:Rd W K [d] x0.b)(i:Rd W K [f] x1)(hJ:okJ K [c0]=true)(Y:Vm.zal x0 x1=some r):Q1 45 [ptr (bx a),f] W [c0] fun W' v=>v=vS r.1/\Bx W' c0 a [d,vI r.2]:=
 zaq.adJ (J:=[c0]) (fun c=>bif Nat.beq c 0 then 0 else bif Nat.beq c 2 then c0 else 0) (c45 (hB0.viewJ 0 hJ) (h.view _) (i.view _) Y) fun _ _ ⟨e,k⟩=>⟨e,Bx.backJ 0 k O⟩
theorem c44 {x0 a d r}(hB0:Bx W0 2 a [d,vI x0.p])(h:Rd W0 [0] [d] x0.b)(Y:Vm.za0 x0=some r):Q0 44 [ptr (bx a)] W0 fun Wf v=>v=vS r.1/\Bx Wf 2 a [d,vI r.2]:=by
 unfold Vm.za0 at Y
 refine zaq.of Tryd.func44 O O O O (sr (Ns O (sr (mp O (Lw.t O (T.bsS (α:=Str) (xs:=[([109,97,105,110]:Str),([109,97,105,110]:Str),([115,105,100,101]:Str),([100,101,118]:Str)]) 3 [] (W:=W0) [vS ([109,97,105,110]:Str),vS ([109,97,105,110]:Str),vS ([115,105,100,101]:Str),vS ([100,101,118]:Str)] (Each.cons ((rdS _)) (Each.cons ((rdS _)) (Each.cons ((rdS _)) (Each.cons ((rdS _)) Each.nil)))) O) ?_)))))
 rintro A _ ⟨B,rfl,e,i⟩
 have f:=e.o
 have k:=hB0.up e
 refine cr Y (fun _=>p45 (K:=[0,3]) (c0:=2) (x0:=x0) k ((h.ul f).sub (M:=[0,3]) O) (i.rd.sub (M:=[0,3]) O) O) ?_
 rintro C _ D Y x ⟨rfl,y⟩
 have z:=f.t x
 refine Ns O ?_
 cases Y
 exact Cw.ret (ziK O (Res.mk z ⟨O,y⟩))
theorem p44 {x0 a d c0 r}(hB0:Bx W c0 a [d,vI x0.p])(f:Rd W K [d] x0.b)(hJ:okJ K [c0]=true)(Y:Vm.za0 x0=some r):Q1 44 [ptr (bx a)] W [c0] fun W' v=>v=vS r.1/\Bx W' c0 a [d,vI r.2]:=
 zaq.adJ (J:=[c0]) (fun c=>bif Nat.beq c 0 then 0 else bif Nat.beq c 2 then c0 else 0) (c44 (hB0.viewJ 0 hJ) (f.view _) Y) fun _ _ ⟨e,h⟩=>⟨e,Bx.backJ 0 h O⟩
theorem c46 {x0 a d r}(hB0:Bx W0 2 a [d,vI x0.p])(h:Rd W0 [0] [d] x0.b)(Y:Vm.za3 x0=some r):Q0 46 [ptr (bx a)] W0 fun Wf v=>v=vS r.1/\Bx Wf 2 a [d,vI r.2]:=by
 unfold Vm.za3 at Y
 refine zaq.of Tryd.func46 O O O O (sr (Ns O (sr (mp O (Lw.t O (T.bsS (α:=Str) (xs:=[([97]:Str),([98]:Str),([100,47,101]:Str),([100,47,102]:Str),([103,47,104,47,105]:Str),([103,47,107]:Str),([122]:Str)]) 3 [] (W:=W0) [vS ([97]:Str),vS ([98]:Str),vS ([100,47,101]:Str),vS ([100,47,102]:Str),vS ([103,47,104,47,105]:Str),vS ([103,47,107]:Str),vS ([122]:Str)] (Each.cons ((rdS _)) (Each.cons ((rdS _)) (Each.cons ((rdS _)) (Each.cons ((rdS _)) (Each.cons ((rdS _)) (Each.cons ((rdS _)) (Each.cons ((rdS _)) Each.nil))))))) O) ?_)))))
 rintro A _ ⟨B,rfl,e,i⟩
 have f:=e.o
 have k:=hB0.up e
 refine cr Y (fun _=>p45 (K:=[0,3]) (c0:=2) (x0:=x0) k ((h.ul f).sub (M:=[0,3]) O) (i.rd.sub (M:=[0,3]) O) O) ?_
 rintro C _ D Y x ⟨rfl,y⟩
 have z:=f.t x
 refine Ns O ?_
 cases Y
 exact Cw.ret (ziK O (Res.mk z ⟨O,y⟩))
theorem p46 {x0 a d c0 r}(hB0:Bx W c0 a [d,vI x0.p])(f:Rd W K [d] x0.b)(hJ:okJ K [c0]=true)(Y:Vm.za3 x0=some r):Q1 46 [ptr (bx a)] W [c0] fun W' v=>v=vS r.1/\Bx W' c0 a [d,vI r.2]:=
 zaq.adJ (J:=[c0]) (fun c=>bif Nat.beq c 0 then 0 else bif Nat.beq c 2 then c0 else 0) (c46 (hB0.viewJ 0 hJ) (f.view _) Y) fun _ _ ⟨e,h⟩=>⟨e,Bx.backJ 0 h O⟩
theorem c59 {x0 d e x1 a r}(hB0:Bx W0 2 d [e,vI x0.p])(k:Rd W0 [0] [e] x0.b)(f:Rd W0 [0] [a] x1)(Y:Vm.zaL x0 x1=some r):Q0 59 [ptr (bx d),a] W0 fun Wf v=>v=vI r.1/\Bx Wf 2 d [e,vI r.2]:=by
 unfold Vm.zaL at Y
 refine zaq.of Tryd.func59 O O O O (sr (Ni O (sr (mv a O (mp O (mv a O (Lw.ln x1 f O (cr Y (fun _=>p20 (c0:=2) (x0:=x0) hB0 k O) ?_))))))))
 rintro z _ A Y x ⟨rfl,y⟩
 have h:=x.s
 obtain⟨B,i,Y⟩:=ob Y
 refine Lw.r O (R.ix (α:=Int) (f.ul h) i O O O) (Lw.r O (R.ld O O ((f.ul h).at_ i).int) (Ni O ?_))
 cases Y
 exact Cw.ret (ziK O (Res.mk h ⟨O,y⟩))
theorem p59 {x0 a d x1 f c0 r}(hB0:Bx W c0 a [d,vI x0.p])(h:Rd W K [d] x0.b)(i:Rd W K [f] x1)(hJ:okJ K [c0]=true)(Y:Vm.zaL x0 x1=some r):Q1 59 [ptr (bx a),f] W [c0] fun W' v=>v=vI r.1/\Bx W' c0 a [d,vI r.2]:=
 zaq.adJ (J:=[c0]) (fun c=>bif Nat.beq c 0 then 0 else bif Nat.beq c 2 then c0 else 0) (c59 (hB0.viewJ 0 hJ) (h.view _) (i.view _) Y) fun _ _ ⟨e,k⟩=>⟨e,Bx.backJ 0 k O⟩
theorem c66 {x0 a d r}(hB0:Bx W0 2 a [d,vI x0.p])(h:Rd W0 [0] [d] x0.b)(Y:Vm.za4 x0=some r):Q0 66 [ptr (bx a)] W0 fun Wf v=>v=vS r.1/\Bx Wf 2 a [d,vI r.2]:=by
 unfold Vm.za4 at Y
 refine zaq.of Tryd.func66 O O O O (sr (Ns O (sr (mp O (Lw.t O (T.bsS (α:=Str) (xs:=[([97]:Str),([98]:Str),([99]:Str),([100]:Str),([]:Str),([120,32,121]:Str),([115,101,101,32,97]:Str),([115,101,101,32,100,47,101]:Str),([101,110,100]:Str)]) 3 [] (W:=W0) [vS ([97]:Str),vS ([98]:Str),vS ([99]:Str),vS ([100]:Str),vS ([]:Str),vS ([120,32,121]:Str),vS ([115,101,101,32,97]:Str),vS ([115,101,101,32,100,47,101]:Str),vS ([101,110,100]:Str)] (Each.cons ((rdS _)) (Each.cons ((rdS _)) (Each.cons ((rdS _)) (Each.cons ((rdS _)) (Each.cons ((rdS _)) (Each.cons ((rdS _)) (Each.cons ((rdS _)) (Each.cons ((rdS _)) (Each.cons ((rdS _)) Each.nil))))))))) O) ?_)))))
 rintro A _ ⟨B,rfl,e,i⟩
 have f:=e.o
 have k:=hB0.up e
 refine cr Y (fun _=>p45 (K:=[0,3]) (c0:=2) (x0:=x0) k ((h.ul f).sub (M:=[0,3]) O) (i.rd.sub (M:=[0,3]) O) O) ?_
 rintro C _ D Y x ⟨rfl,y⟩
 have z:=f.t x
 refine Ns O ?_
 cases Y
 exact Cw.ret (ziK O (Res.mk z ⟨O,y⟩))
theorem p66 {x0 a d c0 r}(hB0:Bx W c0 a [d,vI x0.p])(f:Rd W K [d] x0.b)(hJ:okJ K [c0]=true)(Y:Vm.za4 x0=some r):Q1 66 [ptr (bx a)] W [c0] fun W' v=>v=vS r.1/\Bx W' c0 a [d,vI r.2]:=
 zaq.adJ (J:=[c0]) (fun c=>bif Nat.beq c 0 then 0 else bif Nat.beq c 2 then c0 else 0) (c66 (hB0.viewJ 0 hJ) (f.view _) Y) fun _ _ ⟨e,h⟩=>⟨e,Bx.backJ 0 h O⟩
theorem c47 {x0 e f r}(hB0:Bx W0 2 e [f,vI x0.p])(A:Rd W0 [0] [f] x0.b)(Y:Vm.zbI x0=some r):Q0 47 [ptr (bx e)] W0 fun Wf v=> ∃ B,v=B/\OwS Wf [31] [] [B] r.1/\Bx Wf 2 e [f,vI r.2]:=by
 unfold Vm.zbI at Y
 refine zaq.of Tryd.func47 O O O O (sr (Nv (.slice none 0 0) O (sr (Lw.t O (T.lit0 (α:=Str) 3 []) ?_))))
 rintro C _ ⟨U,rfl,D,V⟩
 have X:=D.o
 have Z:=hB0.up D
 refine Nv C O (ssr (mp O (Lw.t O (T.bsS (α:=Int) (xs:=[0,1,3,5,8]) 4 [] (W:=U) [vI 0,vI 1,vI 3,vI 5,vI 8] (Each.cons ((rdI _)) (Each.cons ((rdI _)) (Each.cons ((rdI _)) (Each.cons ((rdI _)) (Each.cons ((rdI _)) Each.nil))))) O) ?_)))
 rintro v4 _ ⟨W4,rfl,k,o4⟩
 have E:=X.n k
 refine cr Y (fun _=>p59 (K:=[0,4]) (c0:=2) (x0:=x0) (Z.up k) ((A.ul E).sub (M:=[0,4]) O) (o4.rd.sub (M:=[0,4]) O) O) ?_
 rintro F _ G Y H ⟨rfl,ac⟩
 have ae:=E.t H
 refine Ni O (Cw.block ?_)
 obtain⟨af,ah,Y⟩:=zcR Y
 refine Cw.loop 9 17 [3,4] (fun m l w=> ∃ x h i a d,CW.w d=w/\Le [2,3] G d/\l=[a,vI h]/\Ow d 3 [] [a] x/\Bx d 2 e [f,vI i]/\Vm.za1 x0 af m x h i=some r) _ ⟨([]:List Str),F.1,F.2,C,G,O,Le.refl _ _,O,((V.up k).up H),ac,Y⟩ ?_
 rintro(_ |aw) _ _ σ ⟨x,h,i,a,d,rfl,I,rfl,J,L,Y⟩
 ·cases Y
 unfold Vm.za1 at Y
 have N:=ae.t I
 refine ssr (mi O (Lw.gt O (nl (cn Y (fun Y=>?_) fun Y=>?_))))
 ·refine sk (Cw.seq (Cw.block (rg (mv a O (mp O (cr Y (fun _=>p66 (c0:=2) (x0:=(Vm.l30Rd.mk x0.b i)) L (A.ul N) O) ?_))))))
  rintro y _ ax Y P ⟨rfl,ai⟩
  refine Lw.t O (T.bs 5 [vS y.1] (cs:=[vS y.1]) O O (bsv O)) ?_
  rintro _ _ ⟨ay,az,rfl,rfl,z,aj⟩
  obtain⟨ak,am,Y⟩:=ob Y
  refine Lw.t O (T.app1S (α:=Str) (K':=[]) ((J.up P).up z) aj (rdS _) O O am) ?_
  rintro Q _ ⟨an,rfl,R,ao⟩
  exact Nv Q O (rg (mi O (Lw.sub O (Ni O ((agm) ⟨ak,w64 (h-1),y.2,Q,an,O,(((I.j P).j z).j R).w,O,ao,((ai.up z).up R),Y⟩)))))
 ·refine Cw.exit ?_
  rw[ah]at Y
  refine sr (mv a O (Nv a O ?_))
  obtain⟨a0,ap,S,aq⟩:=J.dyeO 31
  have ar:=N.t S
  cases Y
  rw[<- ap]
  exact Cw.ret (ziK O (Res.mk ar ⟨a,O,aq.s,(L.up S)⟩))
theorem p47 {x0 d f k0 c0 r}(hB0:Bx W c0 d [f,vI x0.p])(h:Rd W K [f] x0.b)(hJ:okJ K [c0]=true)(Y:Vm.zbI x0=some r):Q1 47 [ptr (bx d)] W [c0] fun W' v=> ∃ a,v=a/\Ow W' k0 [] [a] r.1/\Bx W' c0 d [f,vI r.2]:=
 zaq.adJ (J:=[c0]) (fun c=>bif Nat.beq c 0 then 0 else bif Nat.beq c 2 then c0 else bif Nat.beq c 31 then k0 else 0) (c47 (hB0.viewJ 0 hJ) (h.view _) Y) fun _ _ ⟨a,e,i,k⟩=>⟨a,e,i.one1.backN O,Bx.backJ 0 k O⟩
theorem c19 {x0 z A r}(hB0:Bx W0 2 z [A,vI x0.p])(a:Rd W0 [0] [A] x0.b)(Y:Vm.zcc x0=some r):Q0 19 [ptr (bx z)] W0 fun Wf v=> ∃ ba,v = .agg [vI r.1.Kind,vS r.1.Branch,vS r.1.Who,vS r.1.Path,vS r.1.To,vI r.1.At,ba].toArray/\OwS Wf [31] [] [ba] r.1.Text/\Bx Wf 2 z [A,vI r.2]:=by
 unfold Vm.zcc at Y
 refine zaq.of Tryd.func19 O O O O (sr (al 3 [vI 0,vS ([]:Str),vS ([]:Str),vS ([]:Str),vS ([]:Str),vI 0, .slice none 0 0] fun g1 W1 l1 b1=>?_))
 have a2:=l1.o
 have b3:=hB0.up l1
 refine nl (sr (mp O (cr Y (fun _=>p44 (c0:=2) (x0:=x0) b3 (a.ul a2) O) ?_)))
 rintro e _ W7 Y l7 ⟨rfl,ce⟩
 have a8:=a2.t l7
 refine mp O (Lw.t O (T.bsS (α:=Str) (xs:=[([97,110,110]:Str),([98,111,98]:Str),([99,105,100]:Str)]) 4 [] (W:=W7) [vS ([97,110,110]:Str),vS ([98,111,98]:Str),vS ([99,105,100]:Str)] (Each.cons ((rdS _)) (Each.cons ((rdS _)) (Each.cons ((rdS _)) Each.nil))) O) ?_)
 rintro ej _ ⟨ek,rfl,l10,cg⟩
 have bg:=a8.n l10
 refine cr Y (fun _=>p45 (K:=[0,4]) (c0:=2) (x0:=(Vm.l30Rd.mk x0.b e.2)) (ce.up l10) ((a.ul bg).sub (M:=[0,4]) O) (cg.rd.sub (M:=[0,4]) O) O) ?_
 rintro f _ el Y bh ⟨rfl,ch⟩
 have ci:=bg.t bh
 refine Lw.r O (R.bd (zs:=[vI 0,vS ([]:Str),vS ([]:Str),vS ([]:Str),vS ([]:Str),vI 0, .slice none 0 0]) (cs:=[vI 0,vS e.1,vS f.1,vS ([]:Str),vS ([]:Str),vI 0, .slice none 0 0]) [(1,vS e.1),(2,vS f.1)] O O O (zeR O O (zeR O O zgw))) (al 5 [vI 0,vS ([]:Str),vS ([]:Str),vS ([]:Str),vS ([]:Str),vI 0, .slice none 0 0] fun cj em I ck=>?_)
 have cl:=ci.n I
 refine sta ck (zaa O (zaa O (zaa O (zaa O (zaa O (zaa O (zaa O zdw))))))) fun cm J co=>?_
 have L:=cl.t J
 refine nl ?_
 obtain⟨cp,cq,Y⟩:=zcR Y
 refine Cw.join 10 61 [] (fun l w=> ∃ N P Q S U V X Z B y,CW.w y=w/\Le [2,5,8] cm y/\l=[]/\Bx y 2 z [A,vI N]/\Ow y 6 [] [B] Z/\Bx y 5 cj [vI P,vS Q,vS S,vS U,vS V,vI X,B]/\cp N P Q S U V X Z=some r) ?_ ?_
 ·rintro _ _ σ ⟨N,P,Q,S,U,V,X,Z,B,y,rfl,bi,rfl,ct,bj,cu,Y⟩
  rw[cq]at Y
  have cv:=L.t bi
  refine sr (la cu (sta ((((((b1.up l7).up l10).up bh).up I).up J).up bi) (zaa O (zaa O (zaa O (zaa O (zaa O (zaa O (zaa bj.oc zdw))))))) fun en aa cw=>?_))
  have cx:=cv.t aa
  refine nl ?_
  obtain⟨eo,cy,ac,cz⟩:=(bj.up aa).dyeO 31
  have c1:=cx.t ac
  cases Y
  rw[<- cy]
  exact Cw.ret (zoX O (cw.up ac) (Res.mk c1 ⟨B,O,cz.s,((ct.up aa).up ac)⟩))
 ·refine sr (mp O (cr Y (fun _=>p20 (c0:=2) (x0:=(Vm.l30Rd.mk x0.b f.2)) ((ch.up I).up J) (a.ul L) O) ?_))
  rintro d _ ae Y i ⟨rfl,C⟩
  have af:=L.t i
  have D:=co.up i
  refine nl (Cw.block (sr (Lw.eq O (Nb O (cn Y (fun Y=>?_) fun Y=>?_)))))
  ·refine sr (Lw.fa O (Lw.u (T.st (j:=0) (v:=vI 2) D O O O O O) ?_))
   rintro _ _ ⟨ep,rfl,ah,c2⟩
   have c3:=af.t ah
   refine nl (rg (mp O (cr Y (fun _=>p46 (c0:=2) (x0:=(Vm.l30Rd.mk x0.b d.2)) (C.up ah) (a.ul c3) O) ?_)))
   rintro ai _ er Y bk ⟨rfl,c4⟩
   refine Lw.fa O (Lw.u (T.st (j:=3) (v:=vS ai.1) (c2.up bk) O O O O O) ?_)
   rintro _ _ ⟨c5,rfl,bl,c6⟩
   exact nl ((ag) ⟨ai.2,2,e.1,f.1,ai.1,([]:Str),0,([]:List Str), .slice none 0 0,c5,O,(((i.j ah).j bk).j bl).w,O,(c4.up bl),owN 6 [],c6,Y⟩)
  ·refine sr (Lw.eq O (Nb O (cn Y (fun Y=>?_) fun Y=>?_)))
   ·refine sr (Lw.fa O (Lw.u (T.st (j:=0) (v:=vI 3) D O O O O O) ?_))
    rintro _ _ ⟨es,rfl,aj,c7⟩
    have bm:=af.t aj
    refine nl (sr (mp O (cr Y (fun _=>p46 (c0:=2) (x0:=(Vm.l30Rd.mk x0.b d.2)) (C.up aj) (a.ul bm) O) ?_)))
    rintro ak _ et Y am ⟨rfl,c8⟩
    have c9:=bm.t am
    refine Lw.fa O (Lw.u (T.st (j:=3) (v:=vS ak.1) (c7.up am) O O O O O) ?_)
    rintro _ _ ⟨eu,rfl,an,da⟩
    have db:=c9.t an
    refine nl (rg (mp O (cr Y (fun _=>p46 (c0:=2) (x0:=(Vm.l30Rd.mk x0.b ak.2)) (c8.up an) (a.ul db) O) ?_)))
    rintro ao _ ew Y bn ⟨rfl,dc⟩
    refine Lw.fa O (Lw.u (T.st (j:=4) (v:=vS ao.1) (da.up bn) O O O O O) ?_)
    rintro _ _ ⟨dd,rfl,bp,de⟩
    exact nl ((ag) ⟨ao.2,3,e.1,f.1,ak.1,ao.1,0,([]:List Str), .slice none 0 0,dd,O,(((((i.j aj).j am).j an).j bn).j bp).w,O,(dc.up bp),owN 6 [],de,Y⟩)
   ·obtain⟨df,dg,Y⟩:=zcR Y
    refine Cw.join 34 36 [34] (fun l w=> ∃ ap k,CW.w k=w/\Le [] ae k/\l=[vB ap]/\df ap=some r) ?_ ?_
    ·rintro _ _ σ ⟨ap,k,rfl,h,rfl,Y⟩
     rw[dg]at Y
     have bq:=af.n h
     refine cn Y (fun Y=>?_) fun Y=>?_
     ·refine sr (Lw.fa O (Lw.u (T.st (j:=0) (v:=vI 4) (D.up h) O O O O O) ?_))
      rintro _ _ ⟨dh,rfl,aq,di⟩
      have dj:=bq.t aq
      refine nl (rg (mp O (Lw.t O (T.bsS (α:=Str) (xs:=[([115,105,100,101]:Str),([100,101,118]:Str),([111,108,100]:Str)]) 7 [] (W:=dh) [vS ([115,105,100,101]:Str),vS ([100,101,118]:Str),vS ([111,108,100]:Str)] (Each.cons ((rdS _)) (Each.cons ((rdS _)) (Each.cons ((rdS _)) Each.nil))) O) ?_)))
      rintro ex _ ⟨ey,rfl,E,dk⟩
      have dl:=dj.n E
      refine cr Y (fun _=>p45 (K:=[0,7]) (c0:=2) (x0:=(Vm.l30Rd.mk x0.b d.2)) (((C.up h).up aq).up E) ((a.ul dl).sub (M:=[0,7]) O) (dk.rd.sub (M:=[0,7]) O) O) ?_
      rintro ar _ ez Y br ⟨rfl,dm⟩
      refine Lw.fa O (Lw.u (T.st (j:=4) (v:=vS ar.1) ((di.up E).up br) O O O O O) ?_)
      rintro _ _ ⟨dn,rfl,bu,dp⟩
      exact nl ((ag) ⟨ar.2,4,e.1,f.1,([]:Str),ar.1,0,([]:List Str), .slice none 0 0,dn,O,(((((i.j h).j aq).j E).j br).j bu).w,O,(dm.up bu),owN 6 [],dp,Y⟩)
     ·obtain⟨dq,dr,Y⟩:=zcR Y
      refine Cw.join 42 45 [42] (fun l w=> ∃ au av,CW.w av=w/\Le [] k av/\l=[vB au]/\dq au=some r) ?_ ?_
      ·rintro _ _ σ ⟨au,av,rfl,x,rfl,Y⟩
       rw[dr]at Y
       have F:=bq.n x
       have G:=(C.up h).up x
       have H:=(D.up h).up x
       refine cn Y (fun Y=>?_) fun Y=>?_
       ·refine sr (Lw.fa O (Lw.u (T.st (j:=0) (v:=vI 5) H O O O O O) ?_))
        rintro _ _ ⟨e0,rfl,aw,ds⟩
        have dt:=F.t aw
        refine nl (rg (mp O (cr Y (fun _=>p44 (c0:=2) (x0:=(Vm.l30Rd.mk x0.b d.2)) (G.up aw) (a.ul dt) O) ?_)))
        rintro ax _ e1 Y bv ⟨rfl,du⟩
        refine Lw.fa O (Lw.u (T.st (j:=4) (v:=vS ax.1) (ds.up bv) O O O O O) ?_)
        rintro _ _ ⟨dv,rfl,bw,dw⟩
        exact nl ((ag) ⟨ax.2,5,e.1,f.1,([]:Str),ax.1,0,([]:List Str), .slice none 0 0,dv,O,(((((i.j h).j x).j aw).j bv).j bw).w,O,(du.up bw),owN 6 [],dw,Y⟩)
       ·refine sr (Lw.eq O (Nb O (cn Y (fun Y=>?_) fun Y=>?_)))
        ·refine sr (Lw.fa O (Lw.u (T.st (j:=0) (v:=vI 6) H O O O O O) ?_))
         rintro _ _ ⟨e2,rfl,ay,dx⟩
         have dy:=F.t ay
         refine nl (rg (mp O (cr Y (fun _=>p20 (c0:=2) (x0:=(Vm.l30Rd.mk x0.b d.2)) (G.up ay) (a.ul dy) O) ?_)))
         rintro az _ e3 Y bz ⟨rfl,dz⟩
         refine Lw.fa O (Lw.u (T.st (j:=5) (v:=vI az.1) (dx.up bz) O O O O O) ?_)
         rintro _ _ ⟨d0,rfl,b0,d1⟩
         exact nl ((ag) ⟨az.2,6,e.1,f.1,([]:Str),([]:Str),az.1,([]:List Str), .slice none 0 0,d0,O,(((((i.j h).j x).j ay).j bz).j b0).w,O,(dz.up b0),owN 6 [],d1,Y⟩)
        ·refine sr (Lw.eq O (Nb O (cn Y (fun Y=>?_) fun Y=>?_)))
         ·refine sr (Lw.fa O (Lw.u (T.st (j:=0) (v:=vI 7) H O O O O O) ?_))
          rintro _ _ ⟨e4,rfl,a0,d2⟩
          have d3:=F.t a0
          refine nl (rg (mp O (cr Y (fun _=>p20 (c0:=2) (x0:=(Vm.l30Rd.mk x0.b d.2)) (G.up a0) (a.ul d3) O) ?_)))
          rintro a1 _ e5 Y b2 ⟨rfl,d4⟩
          refine Lw.fa O (Lw.u (T.st (j:=5) (v:=vI a1.1) (d2.up b2) O O O O O) ?_)
          rintro _ _ ⟨d5,rfl,b4,d6⟩
          exact nl ((ag) ⟨a1.2,7,e.1,f.1,([]:Str),([]:Str),a1.1,([]:List Str), .slice none 0 0,d5,O,(((((i.j h).j x).j a0).j b2).j b4).w,O,(d4.up b4),owN 6 [],d6,Y⟩)
         ·refine sr (Lw.fa O (Lw.u (T.st (j:=0) (v:=vI 1) H O O O O O) ?_))
          rintro _ _ ⟨e6,rfl,a3,d7⟩
          have b5:=F.t a3
          refine nl (sr (mp O (cr Y (fun _=>p46 (c0:=2) (x0:=(Vm.l30Rd.mk x0.b d.2)) (G.up a3) (a.ul b5) O) ?_)))
          rintro a4 _ e7 Y a5 ⟨rfl,d8⟩
          have d9:=b5.t a5
          refine Lw.fa O (Lw.u (T.st (j:=3) (v:=vS a4.1) (d7.up a5) O O O O O) ?_)
          rintro _ _ ⟨e8,rfl,a6,ea⟩
          have eb:=d9.t a6
          refine nl (rg (mp O (cr Y (fun _=>p47 (k0:=8) (c0:=2) (x0:=(Vm.l30Rd.mk x0.b a4.2)) (d8.up a6) (a.ul eb) O) ?_)))
          rintro b6 b7 e9 Y b8 ⟨_,rfl,b9,ec⟩
          refine Lw.fa O (Lw.u (T.st (j:=6) (v:=b7) (ea.up b8) O O b9.oc O O) ?_)
          rintro _ _ ⟨fb,rfl,a7,ed⟩
          refine nl ?_
          obtain⟨ee,ef,a9,eg⟩:=(b9.up a7).dyeO 6
          exact(ag) ⟨b6.2,1,e.1,f.1,a4.1,([]:Str),0,b6.1,b7,ee,ef,((((((((i.j h).j x).j a3).j a5).j a6).j b8).j a7).j a9).w,O,((ec.up a7).up a9),eg,(ed.up a9),Y⟩
      ·refine sr (Lw.eq O (Nb O (cn Y (fun Y=>?_) fun Y=>?_)))
       ·exact sk ((ag) ⟨(d.1==4),k,O,Le.refl _ _,O,Y⟩)
       ·refine sr (Lw.eq O (Nb O (cn Y (fun Y=>?_) fun Y=>?_)))
        ·exact sk ((ag) ⟨(d.1==5),k,O,Le.refl _ _,O,Y⟩)
        ·exact rg (Lw.eq O (Nb O ((ag) ⟨(d.1==6),k,O,Le.refl _ _,O,Y⟩)))
    ·refine sr (Lw.eq O (Nb O (cn Y (fun Y=>?_) fun Y=>?_)))
     ·exact sk ((ag) ⟨(d.1==2),ae,O,Le.refl _ _,O,Y⟩)
     ·exact rg (Lw.eq O (Nb O ((ag) ⟨(d.1==3),ae,O,Le.refl _ _,O,Y⟩)))
theorem p19 {x0 d f k0 c0 r}(hB0:Bx W c0 d [f,vI x0.p])(h:Rd W K [f] x0.b)(hJ:okJ K [c0]=true)(Y:Vm.zcc x0=some r):Q1 19 [ptr (bx d)] W [c0] fun W' v=> ∃ a,v = .agg [vI r.1.Kind,vS r.1.Branch,vS r.1.Who,vS r.1.Path,vS r.1.To,vI r.1.At,a].toArray/\Ow W' k0 [] [a] r.1.Text/\Bx W' c0 d [f,vI r.2]:=
 zaq.adJ (J:=[c0]) (fun c=>bif Nat.beq c 0 then 0 else bif Nat.beq c 2 then c0 else bif Nat.beq c 31 then k0 else 0) (c19 (hB0.viewJ 0 hJ) (h.view _) Y) fun _ _ ⟨a,e,i,k⟩=>⟨a,e,i.one1.backN O,Bx.backJ 0 k O⟩
theorem c57 {x0 x1 x2 r}(Y:Vm.zcM x0 x1 x2=some r):Q0 57 [vI x0,vI x1,vI x2] W0 fun Wf v=>v=vB r:=by
 unfold Vm.zcM at Y
 refine zaq.of Tryd.func57 O O O O (sr (Nb O ?_))
 obtain⟨e,f,Y⟩:=zcR Y
 refine Cw.join 7 14 [6] (fun l w=> ∃ b d,CW.w d=w/\Le [] W0 d/\l=[vB b]/\e b=some r) ?_ ?_
 ·rintro _ _ σ ⟨b,d,rfl,h,rfl,Y⟩
  rw[f]at Y
  have i:=h.o
  exact .ret (rt Y i)
 ·refine rg (mi O (mi O (Lw.ge O (mb O (bs Y (fun a Y=>?_) fun a Y=>?_)))))
  ·exact wak 3 a (mi O (mi O (Lw.le O (Pb a O (Nb O ((ag) ⟨decide (x0<=(x2:Int)),W0,O,Le.refl _ _,O,Y⟩))))))
  ·exact psk 3 a O (Pb a O (Nb O ((ag) ⟨false,W0,O,Le.refl _ _,O,Y⟩)))
theorem p57 {x0 x1 x2 r}(Y:Vm.zcM x0 x1 x2=some r):Q1 57 [vI x0,vI x1,vI x2] W [] fun W' v=>v=vB r:=
 (c57 (W0:=W.view [] []) Y).ad (fk 0) fun _ _ e=>e
theorem c53 {x0 r}(Y:Vm.zbi x0=some r):Q0 53 [vS x0] W0 fun Wf v=>v=vB r:=by
 unfold Vm.zbi at Y
 refine zaq.of Tryd.func53 O O O O (sr (Nb O (ssr (Ni O (Cw.block ?_)))))
 obtain⟨B,C,Y⟩:=zcR Y
 refine Cw.loop 4 31 [2,3] (fun m l w=> ∃ h i a,CW.w a=w/\Le [] W0 a/\l=[vB h,vI i]/\Vm.zaM x0 B m h i=some r) _ ⟨false,0,W0,O,Le.refl _ _,O,Y⟩ ?_
 rintro(_ |S) _ _ σ ⟨h,i,a,rfl,y,rfl,Y⟩
 ·cases Y
 unfold Vm.zaM at Y
 have z:=y.o
 refine ssr (mi O (ms O (Lw.r O (R.lenS O) (Lw.lt O (nl (cn Y (fun Y=>?_) fun Y=>?_))))))
 ·refine sk (Cw.seq (Cw.block ?_))
  obtain⟨D,E,Y⟩:=zcR Y
  refine Cw.join 10 31 [31] (fun l w=> ∃ x k,CW.w k=w/\Le [] a k/\l=[vB x]/\D x=some r) ?_ ?_
  ·rintro _ _ σ ⟨x,k,rfl,A,rfl,Y⟩
   rw[E]at Y
   have F:=z.n A
   refine cn Y (fun Y=>?_) fun Y=>?_
   ·exact sr (Nb O (.ret (rt Y F)))
   ·exact sk (rg (mi O (Lw.add O (Ni O ((agm) ⟨h,w64 (i+1),k,O,(y.j A).w,O,Y⟩)))))
  ·refine rg (ms O (mi O ?_))
   obtain⟨T,G,Y⟩:=ob Y
   refine Lw.r O (R.chm G O O) (Lw.lt O (mb O (bs Y (fun d Y=>?_) fun d Y=>?_)))
   ·refine psk 4 d O (Pb d O (mb O (wak 5 O (ms O (mi O ?_)))))
    obtain⟨U,H,Y⟩:=ob Y
    refine Lw.r O (R.chm H O O) (Lw.lt O (mb O (bs Y (fun e Y=>?_) fun e Y=>?_)))
    ·exact psk 4 e O (wak 1 O (Pb e O (Pb O O (nl ((ag) ⟨true,a,O,Le.refl _ _,O,Y⟩)))))
    ·refine wak 4 e (ms O (mi O ?_))
     obtain⟨I,J,Y⟩:=ob Y
     exact Lw.r O (R.chm J O O) (Lw.gt O (wak 1 O (Pb e O (Pb O O (nl ((ag) ⟨decide ((57:Int)< ((UInt8.toNat I:Int):Int)),a,O,Le.refl _ _,O,Y⟩))))))
   ·refine wak 4 d (ms O (mi O ?_))
    obtain⟨V,K,Y⟩:=ob Y
    refine Lw.r O (R.chm K O O) (Lw.gt O (Pb d O (mb O (bs Y (fun b Y=>?_) fun b Y=>?_))))
    ·refine wak 5 b (ms O (mi O ?_))
     obtain⟨W,L,Y⟩:=ob Y
     refine Lw.r O (R.chm L O O) (Lw.lt O (mb O (bs Y (fun f Y=>?_) fun f Y=>?_)))
     ·exact psk 4 f O (wak 1 b (Pb f O (Pb b O (nl ((ag) ⟨true,a,O,Le.refl _ _,O,Y⟩)))))
     ·refine wak 4 f (ms O (mi O ?_))
      obtain⟨M,N,Y⟩:=ob Y
      exact Lw.r O (R.chm N O O) (Lw.gt O (wak 1 b (Pb f O (Pb b O (nl ((ag) ⟨decide ((57:Int)< ((UInt8.toNat M:Int):Int)),a,O,Le.refl _ _,O,Y⟩))))))
    ·exact psk 5 b O (puk 4 O (psk 1 b O (Pb b O (nl ((ag) ⟨false,a,O,Le.refl _ _,O,Y⟩)))))
 ·refine Cw.exit ?_
  rw[C]at Y
  refine sr (ms O (Lw.r O (R.lenS O) (ca Y (fun _=>p57) fun X Z Y P=>?_)))
  have Q:=z.n P
  exact Nb O (.ret (rt Y Q))
theorem p53 {x0 r}(Y:Vm.zbi x0=some r):Q1 53 [vS x0] W [] fun W' v=>v=vB r:=
 (c53 (W0:=W.view [] []) Y).ad (fk 0) fun _ _ e=>e
theorem c54 {x0 S x1 x2 x3 x4 r}(U:Rd W0 [0] [vI x0.Kind,vS x0.Branch,vS x0.Who,vS x0.Path,vS x0.To,vI x0.At,S] x0)(Y:Vm.zaY x0 x1 x2 x3 x4=some r):Q0 54 [.agg [vI x0.Kind,vS x0.Branch,vS x0.Who,vS x0.Path,vS x0.To,vI x0.At,S].toArray,vB x1,vB x2,vB x3,vB x4] W0 fun Wf v=>v=vB r:=by
 unfold Vm.zaY at Y
 obtain⟨ac,T,z⟩:=Op.split U
 simp only[List.cons.injEq,and_true,true_and]at T
 obtain rfl:=T
 refine zaq.of Tryd.func54 O O O O (sr (bo 2 O fun g1 a V b=>?_))
 have d:=V.o
 refine Nb O ?_
 obtain⟨W,X,Y⟩:=zcR Y
 refine Cw.join 11 41 [10] (fun l w=> ∃ Q R,CW.w R=w/\Le [] a R/\l=[vB Q]/\W Q=some r) ?_ ?_
 ·rintro _ _ σ ⟨Q,R,rfl,Z,rfl,Y⟩
  rw[X]at Y
  have a6:=d.n Z
  exact .ret (rt Y a6)
 ·refine rg (mb O (mb O (bs Y (fun A Y=>?_) fun A Y=>?_)))
  ·refine psk 3 A O (Pb A O (mb O (wak 2 O (mb O (mb O (bs Y (fun B Y=>?_) fun B Y=>?_))))))
   ·refine psk 3 B O (wak 1 O (Pb B O (Pb O O (mb O (wak 2 O (mb O (mb O (bs Y (fun C Y=>?_) fun C Y=>?_))))))))
    ·refine psk 3 C O (wak 1 O (Pb C O (Pb O O (mb O (wak 2 O (mb O (mb O (bs Y (fun D Y=>?_) fun D Y=>?_))))))))
     ·exact psk 4 D O (wak 1 O (Pb D O (Pb O O (Nb O ((ag) ⟨true,a,O,Le.refl _ _,O,Y⟩)))))
     ·exact wak 4 D (fl b O (Lw.ln x0.Text (z.ul d) O (Lw.eq O (wak 1 O (Pb D O (Pb O O (Nb O ((ag) ⟨((x0.Text.length:Int)==0),a,O,Le.refl _ _,O,Y⟩))))))))
    ·refine wak 3 C (fl b O (Lw.eq O (wak 1 O (Pb C O (Pb O O (mb O (bs Y (fun e Y=>?_) fun e Y=>?_)))))))
     ·refine wak 2 e (mb O (mb O (bs Y (fun E Y=>?_) fun E Y=>?_)))
      ·exact psk 4 E O (wak 1 e (Pb E O (Pb e O (Nb O ((ag) ⟨true,a,O,Le.refl _ _,O,Y⟩)))))
      ·exact wak 4 E (fl b O (Lw.ln x0.Text (z.ul d) O (Lw.eq O (wak 1 e (Pb E O (Pb e O (Nb O ((ag) ⟨((x0.Text.length:Int)==0),a,O,Le.refl _ _,O,Y⟩))))))))
     ·exact psk 2 e O (puk 4 O (psk 1 e O (Pb e O (Nb O ((ag) ⟨false,a,O,Le.refl _ _,O,Y⟩)))))
   ·refine wak 3 B (fl b O (Lw.seq O (wak 1 O (Pb B O (Pb O O (mb O (bs Y (fun f Y=>?_) fun f Y=>?_)))))))
    ·refine wak 2 f (mb O (mb O (bs Y (fun F Y=>?_) fun F Y=>?_)))
     ·refine psk 3 F O (wak 1 f (Pb F O (Pb f O (mb O (wak 2 O (mb O (mb O (bs Y (fun G Y=>?_) fun G Y=>?_))))))))
      ·exact psk 4 G O (wak 1 O (Pb G O (Pb O O (Nb O ((ag) ⟨true,a,O,Le.refl _ _,O,Y⟩)))))
      ·exact wak 4 G (fl b O (Lw.ln x0.Text (z.ul d) O (Lw.eq O (wak 1 O (Pb G O (Pb O O (Nb O ((ag) ⟨((x0.Text.length:Int)==0),a,O,Le.refl _ _,O,Y⟩))))))))
     ·refine wak 3 F (fl b O (Lw.eq O (wak 1 f (Pb F O (Pb f O (mb O (bs Y (fun h Y=>?_) fun h Y=>?_)))))))
      ·refine wak 2 h (mb O (mb O (bs Y (fun H Y=>?_) fun H Y=>?_)))
       ·exact psk 4 H O (wak 1 h (Pb H O (Pb h O (Nb O ((ag) ⟨true,a,O,Le.refl _ _,O,Y⟩)))))
       ·exact wak 4 H (fl b O (Lw.ln x0.Text (z.ul d) O (Lw.eq O (wak 1 h (Pb H O (Pb h O (Nb O ((ag) ⟨((x0.Text.length:Int)==0),a,O,Le.refl _ _,O,Y⟩))))))))
      ·exact psk 2 h O (puk 4 O (psk 1 h O (Pb h O (Nb O ((ag) ⟨false,a,O,Le.refl _ _,O,Y⟩)))))
    ·exact psk 2 f O (puk 3 O (psk 1 f O (Pb f O (mb O (psk 2 O O (puk 4 O (psk 1 O O (Pb O O (Nb O ((ag) ⟨false,a,O,Le.refl _ _,O,Y⟩))))))))))
  ·refine wak 3 A (fl b O (Lw.seq O (Pb A O (mb O (bs Y (fun i Y=>?_) fun i Y=>?_)))))
   ·refine wak 2 i (mb O (mb O (bs Y (fun I Y=>?_) fun I Y=>?_)))
    ·refine psk 3 I O (wak 1 i (Pb I O (Pb i O (mb O (wak 2 O (mb O (mb O (bs Y (fun J Y=>?_) fun J Y=>?_))))))))
     ·refine psk 3 J O (wak 1 O (Pb J O (Pb O O (mb O (wak 2 O (mb O (mb O (bs Y (fun K Y=>?_) fun K Y=>?_))))))))
      ·exact psk 4 K O (wak 1 O (Pb K O (Pb O O (Nb O ((ag) ⟨true,a,O,Le.refl _ _,O,Y⟩)))))
      ·exact wak 4 K (fl b O (Lw.ln x0.Text (z.ul d) O (Lw.eq O (wak 1 O (Pb K O (Pb O O (Nb O ((ag) ⟨((x0.Text.length:Int)==0),a,O,Le.refl _ _,O,Y⟩))))))))
     ·refine wak 3 J (fl b O (Lw.eq O (wak 1 O (Pb J O (Pb O O (mb O (bs Y (fun k Y=>?_) fun k Y=>?_)))))))
      ·refine wak 2 k (mb O (mb O (bs Y (fun L Y=>?_) fun L Y=>?_)))
       ·exact psk 4 L O (wak 1 k (Pb L O (Pb k O (Nb O ((ag) ⟨true,a,O,Le.refl _ _,O,Y⟩)))))
       ·exact wak 4 L (fl b O (Lw.ln x0.Text (z.ul d) O (Lw.eq O (wak 1 k (Pb L O (Pb k O (Nb O ((ag) ⟨((x0.Text.length:Int)==0),a,O,Le.refl _ _,O,Y⟩))))))))
      ·exact psk 2 k O (puk 4 O (psk 1 k O (Pb k O (Nb O ((ag) ⟨false,a,O,Le.refl _ _,O,Y⟩)))))
    ·refine wak 3 I (fl b O (Lw.seq O (wak 1 i (Pb I O (Pb i O (mb O (bs Y (fun x Y=>?_) fun x Y=>?_)))))))
     ·refine wak 2 x (mb O (mb O (bs Y (fun M Y=>?_) fun M Y=>?_)))
      ·refine psk 3 M O (wak 1 x (Pb M O (Pb x O (mb O (wak 2 O (mb O (mb O (bs Y (fun N Y=>?_) fun N Y=>?_))))))))
       ·exact psk 4 N O (wak 1 O (Pb N O (Pb O O (Nb O ((ag) ⟨true,a,O,Le.refl _ _,O,Y⟩)))))
       ·exact wak 4 N (fl b O (Lw.ln x0.Text (z.ul d) O (Lw.eq O (wak 1 O (Pb N O (Pb O O (Nb O ((ag) ⟨((x0.Text.length:Int)==0),a,O,Le.refl _ _,O,Y⟩))))))))
      ·refine wak 3 M (fl b O (Lw.eq O (wak 1 x (Pb M O (Pb x O (mb O (bs Y (fun y Y=>?_) fun y Y=>?_)))))))
       ·refine wak 2 y (mb O (mb O (bs Y (fun P Y=>?_) fun P Y=>?_)))
        ·exact psk 4 P O (wak 1 y (Pb P O (Pb y O (Nb O ((ag) ⟨true,a,O,Le.refl _ _,O,Y⟩)))))
        ·exact wak 4 P (fl b O (Lw.ln x0.Text (z.ul d) O (Lw.eq O (wak 1 y (Pb P O (Pb y O (Nb O ((ag) ⟨((x0.Text.length:Int)==0),a,O,Le.refl _ _,O,Y⟩))))))))
       ·exact psk 2 y O (puk 4 O (psk 1 y O (Pb y O (Nb O ((ag) ⟨false,a,O,Le.refl _ _,O,Y⟩)))))
     ·exact psk 2 x O (puk 3 O (psk 1 x O (Pb x O (mb O (psk 2 O O (puk 4 O (psk 1 O O (Pb O O (Nb O ((ag) ⟨false,a,O,Le.refl _ _,O,Y⟩))))))))))
   ·exact psk 2 i O (puk 3 O (psk 1 i O (Pb i O (mb O (psk 2 O O (puk 3 O (psk 1 O O (Pb O O (mb O (psk 2 O O (puk 4 O (psk 1 O O (Pb O O (Nb O ((ag) ⟨false,a,O,Le.refl _ _,O,Y⟩)))))))))))))))
theorem p54 {x0 a x1 x2 x3 x4 r}(b:Rd W K [vI x0.Kind,vS x0.Branch,vS x0.Who,vS x0.Path,vS x0.To,vI x0.At,a] x0)(Y:Vm.zaY x0 x1 x2 x3 x4=some r):Q1 54 [.agg [vI x0.Kind,vS x0.Branch,vS x0.Who,vS x0.Path,vS x0.To,vI x0.At,a].toArray,vB x1,vB x2,vB x3,vB x4] W [] fun W' v=>v=vB r:=
 (c54 (b.view _) Y).ad (fk 0) fun _ _ e=>e
theorem c28 {x0 x1 x2 r}(Y:Vm.zbf x0 x1 x2=some r):Q0 28 [vS x0, .int .u8 (UInt8.toNat x1:Int),vI x2] W0 fun Wf v=> ∃ D,v=D/\OwS Wf LL [] [D] r:=by
 unfold Vm.zbf at Y
 refine zaq.of Tryd.func28 O O O O (sr (Nv (.slice none 0 0) O (sr (Lw.t O (T.lit0 (α:=Str) 2 []) ?_))))
 rintro E _ ⟨F,rfl,P,Q⟩
 have S:=P.o
 refine Nv E O (sr (Ni O (ssr (Ni O (Cw.block ?_)))))
 obtain⟨U,V,Y⟩:=zcR Y
 refine Cw.loop 11 36 [7,8,9] (fun m l w=> ∃ d k e a b,CW.w b=w/\Le [2] F b/\l=[a,vI k,vI e]/\Ow b 2 [] [a] d/\Vm.zbn x0 x1 x2 U m d k e=some r) _ ⟨([]:List Str),0,0,E,F,O,Le.refl _ _,O,Q,Y⟩ ?_
 rintro(_ |a0) _ _ σ ⟨d,k,e,a,b,rfl,G,rfl,H,Y⟩
 ·cases Y
 unfold Vm.zbn at Y
 have W:=S.t G
 refine Cw.seq ?_
 obtain⟨X,Z,Y⟩:=zcR Y
 refine Cw.join 11 20 [20] (fun l w=> ∃ A f,CW.w f=w/\Le [] b f/\l=[vB A]/\X A=some r) ?_ ?_
 ·rintro _ _ σ ⟨A,f,rfl,B,rfl,Y⟩
  rw[Z]at Y
  have aa:=W.n B
  have C:=H.up B
  refine cn Y (fun Y=>?_) fun Y=>?_
  ·refine sk ?_
   obtain⟨ac,ae,Y⟩:=zcR Y
   refine Cw.join 23 36 [7,8] (fun l w=> ∃ x y z h,CW.w h=w/\Le [2] f h/\l=[z,vI y]/\Ow h 2 [] [z] x/\ac x y=some r) ?_ ?_
   ·rintro _ _ σ ⟨x,y,z,h,rfl,af,rfl,ah,Y⟩
    rw[ae]at Y
    exact rg (mi O (Lw.add O (Ni O ((agm) ⟨x,y,w64 (e+1),z,h,O,((G.j B).j af).w,O,ah,Y⟩))))
   ·refine Cw.block (sr (ms O (mi O ?_)))
    obtain⟨a1,ai,Y⟩:=ob Y
    refine Lw.r O (R.chm ai O O) (mv (.int .u8 (UInt8.toNat x1:Int)) O (Lw.eq O (nl (cn Y (fun Y=>?_) fun Y=>?_))))
    ·refine sr (mv a O (ms O (mi O (mi O ?_))))
     obtain⟨I,aj,Y⟩:=ob Y
     refine Lw.r O (R.ss aj O (.inr O) (.inr O)) (Lw.t O (T.bs 3 [vS I] (cs:=[vS I]) O O (bsv O)) ?_)
     rintro _ _ ⟨a3,a4,rfl,rfl,J,ak⟩
     obtain⟨am,an,Y⟩:=ob Y
     refine Lw.t O (T.app1S (α:=Str) (K':=[]) (C.up J) ak (rdS _) O O an) ?_
     rintro K _ ⟨ao,rfl,ap,aq⟩
     exact Nv K O (rg (mi O (Lw.add O (Ni O ((ag) ⟨am,w64 (e+1),K,ao,O,(J.j ap).w,O,aq,Y⟩)))))
    ·exact sk ((ag) ⟨d,k,a,f,O,Le.refl _ _,O,C,Y⟩)
  ·refine Cw.exit ?_
   rw[V]at Y
   refine sr (mv a O (ms O (mi O ?_)))
   obtain⟨L,ar,Y⟩:=ob Y
   refine Lw.r O (R.ss ar O (.inr O) (.inl ⟨O,O⟩)) (Lw.t O (T.bs 4 [vS L] (cs:=[vS L]) O O (bsv O)) ?_)
   rintro _ _ ⟨a5,a6,rfl,rfl,M,au⟩
   have av:=aa.n M
   obtain⟨a7,aw,Y⟩:=ob Y
   refine Lw.t O (T.app1S (α:=Str) (K':=[]) (C.up M) au (rdS _) O O aw) ?_
   rintro N _ ⟨a8,rfl,ax,ay⟩
   have az:=av.t ax
   refine Nv N O ?_
   cases Y
   exact Cw.ret (ziK O (Res.mk az ⟨N,O,ay.s.sub O O⟩))
 ·refine rg (mi O (ms O (Lw.r O (R.lenS O) (Lw.lt O (mb O (bs Y (fun i Y=>?_) fun i Y=>?_))))))
  ·exact wak 4 i (mv a O (Lw.ln d H.rd O (mi O (Lw.lt O (Pb i O (nl ((ag) ⟨decide (d.length< (x2:Int)),b,O,Le.refl _ _,O,Y⟩)))))))
  ·exact psk 4 i O (Pb i O (nl ((ag) ⟨false,b,O,Le.refl _ _,O,Y⟩)))
theorem p28 {x0 x1 x2 k0 r}(Y:Vm.zbf x0 x1 x2=some r):Q1 28 [vS x0, .int .u8 (UInt8.toNat x1:Int),vI x2] W [] fun W' v=> ∃ a,v=a/\Ow W' k0 [] [a] r:=
 (c28 (W0:=W.view [] []) Y).ad (fk k0) fun _ _ ⟨a,e,b⟩=>⟨a,e,b.back (zl3 _)⟩
theorem c55 {x0 r}(Y:Vm.zbj x0=some r):Q0 55 [vS x0] W0 fun Wf v=>v=vB r:=by
 unfold Vm.zbj at Y
 refine zaq.of Tryd.func55 O O O O (sr (Nb O (sr (ms O (cr Y (fun _=>p28 (k0:=2)) ?_)))))
 rintro f a k Y A ⟨_,rfl,B⟩
 have C:=A.o
 refine Nv a O (ssr (Ni O (Cw.block ?_)))
 obtain⟨D,E,Y⟩:=zcR Y
 refine Cw.loop 7 18 [2,4] (fun m l w=> ∃ b d h,CW.w h=w/\Le [] k h/\l=[vB b,vI d]/\Vm.zaN f D m b d=some r) _ ⟨false,0,k,O,Le.refl _ _,O,Y⟩ ?_
 rintro(_ |H) _ _ σ ⟨b,d,h,rfl,i,rfl,Y⟩
 ·cases Y
 unfold Vm.zaN at Y
 have x:=C.n i
 have e:=B.up i
 refine ssr (mi O (mv a O (Lw.ln f e.rd O (Lw.lt O (nl (cn Y (fun Y=>?_) fun Y=>?_))))))
 ·refine sk (Cw.seq (Cw.block (sr (mv a O (mi O ?_)))))
  obtain⟨I,y,Y⟩:=ob Y
  refine Lw.r O (R.ix (α:=Str) e.rd y O O O) (Lw.r O (R.ld O O (e.rd.at_ y).str) (ca Y (fun _=>p53) fun J F Y z=>?_))
  have G:=x.n z
  refine Lw.r O (R.not O) (nl (cn Y (fun Y=>?_) fun Y=>?_))
  ·exact sr (Nb O (.ret (rt Y G)))
  ·exact sk (rg (mi O (Lw.add O (Ni O ((agm) ⟨b,w64 (d+1),F,O,(i.j z).w,O,Y⟩)))))
 ·refine Cw.exit ?_
  rw[E]at Y
  exact sr (mv a O (Lw.ln f e.rd O (Lw.le O (Nb O (.ret (rt Y x))))))
theorem p55 {x0 r}(Y:Vm.zbj x0=some r):Q1 55 [vS x0] W [] fun W' v=>v=vB r:=
 (c55 (W0:=W.view [] []) Y).ad (fk 0) fun _ _ e=>e
theorem c86 {x0 r}(Y:Vm.zb1 x0=some r):Q0 86 [vS x0] W0 fun Wf v=>v=vB r:=by
 unfold Vm.zb1 at Y
 refine zaq.of Tryd.func86 O O O O (sr (Nb O (ssr (Ni O (Cw.block ?_)))))
 obtain⟨y,z,Y⟩:=zcR Y
 refine Cw.loop 4 19 [2,3] (fun m l w=> ∃ d e a,CW.w a=w/\Le [] W0 a/\l=[vB d,vI e]/\Vm.zaO x0 y m d e=some r) _ ⟨false,0,W0,O,Le.refl _ _,O,Y⟩ ?_
 rintro(_ |G) _ _ σ ⟨d,e,a,rfl,i,rfl,Y⟩
 ·cases Y
 unfold Vm.zaO at Y
 have k:=i.o
 refine ssr (mi O (ms O (Lw.r O (R.lenS O) (Lw.lt O (nl (cn Y (fun Y=>?_) fun Y=>?_))))))
 ·refine sk (Cw.seq (Cw.block ?_))
  obtain⟨A,B,Y⟩:=zcR Y
  refine Cw.join 10 19 [19] (fun l w=> ∃ h f,CW.w f=w/\Le [] a f/\l=[vB h]/\A h=some r) ?_ ?_
  ·rintro _ _ σ ⟨h,f,rfl,x,rfl,Y⟩
   rw[B]at Y
   have C:=k.n x
   refine cn Y (fun Y=>?_) fun Y=>?_
   ·exact sr (Nb O (.ret (rt Y C)))
   ·exact sk (rg (mi O (Lw.add O (Ni O ((agm) ⟨d,w64 (e+1),f,O,(i.j x).w,O,Y⟩)))))
  ·refine rg (ms O (mi O ?_))
   obtain⟨H,D,Y⟩:=ob Y
   refine Lw.r O (R.chm D O O) (Lw.lt O (mb O (bs Y (fun b Y=>?_) fun b Y=>?_)))
   ·exact psk 4 b O (Pb b O (nl ((ag) ⟨true,a,O,Le.refl _ _,O,Y⟩)))
   ·refine wak 4 b (ms O (mi O ?_))
    obtain⟨E,F,Y⟩:=ob Y
    exact Lw.r O (R.chm F O O) (Lw.gt O (Pb b O (nl ((ag) ⟨decide ((126:Int)< ((UInt8.toNat E:Int):Int)),a,O,Le.refl _ _,O,Y⟩))))
 ·refine Cw.exit ?_
  rw[z]at Y
  exact sr (ms O (Lw.r O (R.lenS O) (Lw.le O (Nb O (.ret (rt Y k))))))
theorem p86 {x0 r}(Y:Vm.zb1 x0=some r):Q1 86 [vS x0] W [] fun W' v=>v=vB r:=
 (c86 (W0:=W.view [] []) Y).ad (fk 0) fun _ _ e=>e
theorem c75 {x0 a r}(y:Rd W0 [0] [a] x0)(Y:Vm.zcZ x0=some r):Q0 75 [a] W0 fun Wf v=>v=vB r:=by
 unfold Vm.zcZ at Y
 refine zaq.of Tryd.func75 O O O O (sr (Nb O (ssr (Ni O (Cw.block ?_)))))
 obtain⟨z,A,Y⟩:=zcR Y
 refine Cw.loop 4 15 [2,3] (fun m l w=> ∃ b d f,CW.w f=w/\Le [] W0 f/\l=[vB b,vI d]/\Vm.za5 x0 z m b d=some r) _ ⟨false,0,W0,O,Le.refl _ _,O,Y⟩ ?_
 rintro(_ |D) _ _ σ ⟨b,d,f,rfl,i,rfl,Y⟩
 ·cases Y
 unfold Vm.za5 at Y
 have h:=i.o
 refine ssr ?_
 have e:=y.ul h
 refine mi O (mv a O (Lw.ln x0 e O (Lw.lt O (nl (cn Y (fun Y=>?_) fun Y=>?_)))))
 ·refine sk (Cw.seq (Cw.block (sr (mv a O (mi O ?_)))))
  obtain⟨E,k,Y⟩:=ob Y
  refine Lw.r O (R.ix (α:=Str) e k O O O) (Lw.r O (R.ld O O (e.at_ k).str) (ca Y (fun _=>p86) fun F B Y x=>?_))
  have C:=h.n x
  refine Lw.r O (R.not O) (nl (cn Y (fun Y=>?_) fun Y=>?_))
  ·exact sr (Nb O (.ret (rt Y C)))
  ·exact sk (rg (mi O (Lw.add O (Ni O ((agm) ⟨b,w64 (d+1),B,O,(i.j x).w,O,Y⟩)))))
 ·refine Cw.exit ?_
  rw[A]at Y
  exact sr (mv a O (Lw.ln x0 e O (Lw.le O (Nb O (.ret (rt Y h))))))
theorem p75 {x0 a r}(b:Rd W K [a] x0)(Y:Vm.zcZ x0=some r):Q1 75 [a] W [] fun W' v=>v=vB r:=
 (c75 (b.view _) Y).ad (fk 0) fun _ _ e=>e
theorem c56 {x0 a r}(y:Rd W0 [0] [a] x0)(Y:Vm.zbo x0=some r):Q0 56 [a] W0 fun Wf v=>v=vB r:=by
 unfold Vm.zbo at Y
 refine zaq.of Tryd.func56 O O O O (sr (Nb O (ssr (Ni O (Cw.block ?_)))))
 obtain⟨F,G,Y⟩:=zcR Y
 refine Cw.loop 5 26 [2,3,4] (fun m l w=> ∃ i b A d,CW.w d=w/\Le [] W0 d/\l=[vB i,vI b,A]/\Vm.zae x0 F m i b=some r) _ ⟨false,0,undef,W0,O,Le.refl _ _,O,Y⟩ ?_
 rintro(_ |M) _ _ σ ⟨i,b,A,d,rfl,B,rfl,Y⟩
 ·cases Y
 unfold Vm.zae at Y
 have k:=B.o
 refine ssr (mi O (mv a O (Lw.ln x0 (y.ul k) O (Lw.lt O (nl (cn Y (fun Y=>?_) fun Y=>?_))))))
 ·refine sk (Cw.seq (Cw.block (sr (Ni O (Cw.block ?_)))))
  obtain⟨H,I,Y⟩:=zcR Y
  refine Cw.loop 11 26 [2,4] (fun m l w=> ∃ e f h,CW.w h=w/\Le [] d h/\l=[vB e,vI f]/\Vm.zaz x0 b H m e f=some r) _ ⟨i,0,d,O,Le.refl _ _,O,Y⟩ ?_
  rintro(_ |N) _ _ σ ⟨e,f,h,rfl,z,rfl,Y⟩
  ·cases Y
  unfold Vm.zaz at Y
  have C:=k.n z
  refine ssr (mi O (mv a O (mi O ?_)))
  obtain⟨P,D,Y⟩:=ob Y
  have x:=y.ul C
  refine Lw.r O (R.ix (α:=Str) x D O O O) (Lw.r O (R.ld O O (x.at_ D).str) (Lw.r O (R.lenS O) (Lw.lt O (nl (cn Y (fun Y=>?_) fun Y=>?_)))))
  ·refine sk (Cw.seq (Cw.block (sr (mv a O (mi O ?_)))))
   obtain⟨Q,E,Y⟩:=ob Y
   refine Lw.r O (R.ix (α:=Str) x E O O O) (Lw.r O (R.ld O O (x.at_ E).str) (mi O ?_))
   obtain⟨S,J,Y⟩:=ob Y
   refine Lw.r O (R.chm J O O) (Lw.eq O (nl (cn Y (fun Y=>?_) fun Y=>?_)))
   ·exact sr (Nb O (.ret (rt Y C)))
   ·exact sk (rg (mi O (Lw.add O (Ni O ((agm) ⟨e,w64 (f+1),h,O,z,O,Y⟩)))))
  ·refine Cw.exit ?_
   rw[I]at Y
   exact rg (mi O (Lw.add O (Ni O ((agm) ⟨e,w64 (b+1),vI f,h,O,(B.j z).w,O,Y⟩))))
 ·refine Cw.exit ?_
  rw[G]at Y
  refine sr (mv a O (ca Y (fun _=>p75 (y.ul k)) fun T U Y K=>?_))
  have L:=k.n K
  exact Nb O (.ret (rt Y L))
theorem p56 {x0 a r}(b:Rd W K [a] x0)(Y:Vm.zbo x0=some r):Q1 56 [a] W [] fun W' v=>v=vB r:=
 (c56 (b.view _) Y).ad (fk 0) fun _ _ e=>e
theorem c31 {x0 ak r}(h0:Rd W0 [0] [vI x0.Kind,vS x0.Branch,vS x0.Who,vS x0.Path,vS x0.To,vI x0.At,ak] x0)(Y:Vm.zbD x0=some r):Q0 31 [.agg [vI x0.Kind,vS x0.Branch,vS x0.Who,vS x0.Path,vS x0.To,vI x0.At,ak].toArray] W0 fun Wf v=>v=vB r:=by
 unfold Vm.zbD at Y
 obtain⟨cq,am,f⟩:=Op.split h0
 simp only[List.cons.injEq,and_true,true_and]at am
 obtain rfl:=am
 refine zaq.of Tryd.func31 O O O O (sr (bo 2 O fun g1 W1 l1 H=>?_))
 have a2:=l1.o
 refine Nb O (Cw.seq ?_)
 obtain⟨K5,aw,Y⟩:=zcR Y
 refine Cw.join 3 12 [12] (fun l w=> ∃ I b,CW.w b=w/\Le [] W1 b/\l=[vB I]/\K5 I=some r) ?_ ?_
 ·rintro _ _ σ ⟨I,b,rfl,l4,rfl,Y⟩
  rw[aw]at Y
  have d:=a2.n l4
  have a:=H.up l4
  refine cn Y (fun Y=>?_) fun Y=>?_
  ·exact sr (Nb O (.ret (rt Y d)))
  ·refine sk (ssr (fl a O (nl (Cw.block (sr (Lw.eq O (Nb O (cn Y (fun Y=>?_) fun Y=>?_))))))))
   ·obtain⟨ax,ay,Y⟩:=zcR Y
    refine Cw.join 17 28 [2] (fun l w=> ∃ J L,CW.w L=w/\Le [] b L/\l=[vB J]/\ax J=some r) ?_ ?_
    ·rintro _ _ σ ⟨J,L,rfl,az,rfl,Y⟩
     rw[ay]at Y
     have a0:=d.n az
     exact .ret (rt Y a0)
    ·refine rg (la a (ca Y (fun _=>p54 (Op.rd (K:=[0]) x0.Kind x0.Branch x0.Who x0.Path x0.To x0.At x0.Text (f.ul d))) fun ct a1 Y h=>?_))
     have a3:=d.n h
     refine mb O (bs Y (fun i Y=>?_) fun i Y=>?_)
     ·refine wak 3 i (fl (a.up h) O (ca Y (fun _=>p55) fun cu a4 Y E=>?_))
      have a5:=a3.n E
      refine Pb i O (mb O (bs Y (fun k Y=>?_) fun k Y=>?_))
      ·exact wak 3 k (fl ((a.up h).up E) O (ca Y (fun _=>p56 (f.ul a5)) fun a7 a8 Y a9=>Pb k O (Nb O ((ag) ⟨a7,a8,O,((h.j E).j a9).w,O,Y⟩))))
      ·exact psk 3 k O (Pb k O (Nb O ((ag) ⟨false,a4,O,(h.j E).w,O,Y⟩)))
     ·exact psk 3 i O (Pb i O (mb O (psk 3 O O (Pb O O (Nb O ((ag) ⟨false,a1,O,h,O,Y⟩))))))
   ·refine sr (Lw.eq O (Nb O (cn Y (fun Y=>?_) fun Y=>?_)))
    ·obtain⟨ba,bb,Y⟩:=zcR Y
     refine Cw.join 31 37 [2] (fun l w=> ∃ M N,CW.w N=w/\Le [] b N/\l=[vB M]/\ba M=some r) ?_ ?_
     ·rintro _ _ σ ⟨M,N,rfl,bc,rfl,Y⟩
      rw[bb]at Y
      have be:=d.n bc
      exact .ret (rt Y be)
     ·refine rg (la a (ca Y (fun _=>p54 (Op.rd (K:=[0]) x0.Kind x0.Branch x0.Who x0.Path x0.To x0.At x0.Text (f.ul d))) fun cv bg Y P=>mb O (bs Y (fun x Y=>?_) fun x Y=>?_)))
      ·exact wak 3 x (fl (a.up P) O (ca Y (fun _=>p55) fun bh bi Y bj=>Pb x O (Nb O ((ag) ⟨bh,bi,O,(P.j bj).w,O,Y⟩))))
      ·exact psk 3 x O (Pb x O (Nb O ((ag) ⟨false,bg,O,P,O,Y⟩)))
    ·refine sr (Lw.eq O (Nb O (cn Y (fun Y=>?_) fun Y=>?_)))
     ·obtain⟨bk,bl,Y⟩:=zcR Y
      refine Cw.join 40 51 [2] (fun l w=> ∃ Q S,CW.w S=w/\Le [] b S/\l=[vB Q]/\bk Q=some r) ?_ ?_
      ·rintro _ _ σ ⟨Q,S,rfl,bm,rfl,Y⟩
       rw[bl]at Y
       have bn:=d.n bm
       exact .ret (rt Y bn)
      ·refine rg (la a (ca Y (fun _=>p54 (Op.rd (K:=[0]) x0.Kind x0.Branch x0.Who x0.Path x0.To x0.At x0.Text (f.ul d))) fun cw bp Y y=>mb O (bs Y (fun z Y=>?_) fun z Y=>?_)))
       ·refine wak 3 z (fl (a.up y) O (ca Y (fun _=>p55) fun cx bq Y T=>Pb z O (mb O (bs Y (fun A Y=>?_) fun A Y=>?_))))
        ·exact wak 3 A (fl ((a.up y).up T) O (ca Y (fun _=>p55) fun br bu Y bv=>Pb A O (Nb O ((ag) ⟨br,bu,O,((y.j T).j bv).w,O,Y⟩))))
        ·exact psk 3 A O (Pb A O (Nb O ((ag) ⟨false,bq,O,(y.j T).w,O,Y⟩)))
       ·exact psk 3 z O (Pb z O (mb O (psk 3 O O (Pb O O (Nb O ((ag) ⟨false,bp,O,y,O,Y⟩))))))
     ·obtain⟨bw,bz,Y⟩:=zcR Y
      refine Cw.join 52 54 [52] (fun l w=> ∃ U e,CW.w e=w/\Le [] b e/\l=[vB U]/\bw U=some r) ?_ ?_
      ·rintro _ _ σ ⟨U,e,rfl,ao,rfl,Y⟩
       rw[bz]at Y
       have V:=d.n ao
       have F:=a.up ao
       refine cn Y (fun Y=>?_) fun Y=>?_
       ·obtain⟨b0,b2,Y⟩:=zcR Y
        refine Cw.join 55 61 [2] (fun l w=> ∃ W X,CW.w X=w/\Le [] e X/\l=[vB W]/\b0 W=some r) ?_ ?_
        ·rintro _ _ σ ⟨W,X,rfl,b3,rfl,Y⟩
         rw[b2]at Y
         have b4:=V.n b3
         exact .ret (rt Y b4)
        ·refine rg (la F (ca Y (fun _=>p54 (Op.rd (K:=[0]) x0.Kind x0.Branch x0.Who x0.Path x0.To x0.At x0.Text (f.ul V))) fun cy b5 Y Z=>mb O (bs Y (fun B Y=>?_) fun B Y=>?_)))
         ·exact wak 3 B (fl (F.up Z) O (ca Y (fun _=>p53) fun b6 b8 Y b9=>Pb B O (Nb O ((ag) ⟨b6,b8,O,(Z.j b9).w,O,Y⟩))))
         ·exact psk 3 B O (Pb B O (Nb O ((ag) ⟨false,b5,O,Z,O,Y⟩)))
       ·obtain⟨cb,cc,Y⟩:=zcR Y
        refine Cw.join 62 64 [62] (fun l w=> ∃ aa G,CW.w G=w/\Le [] e G/\l=[vB aa]/\cb aa=some r) ?_ ?_
        ·rintro _ _ σ ⟨aa,G,rfl,ac,rfl,Y⟩
         rw[cc]at Y
         have ae:=V.n ac
         refine cn Y (fun Y=>?_) fun Y=>?_
         ·obtain⟨cd,ce,Y⟩:=zcR Y
          refine Cw.join 65 71 [2] (fun l w=> ∃ af ah,CW.w ah=w/\Le [] G ah/\l=[vB af]/\cd af=some r) ?_ ?_
          ·rintro _ _ σ ⟨af,ah,rfl,cf,rfl,Y⟩
           rw[ce]at Y
           have cg:=ae.n cf
           exact .ret (rt Y cg)
          ·refine rg (la (F.up ac) (ca Y (fun _=>p54 (Op.rd (K:=[0]) x0.Kind x0.Branch x0.Who x0.Path x0.To x0.At x0.Text (f.ul ae))) fun cz ch Y ai=>mb O (bs Y (fun C Y=>?_) fun C Y=>?_)))
           ·exact wak 3 C (fl ((F.up ac).up ai) O (ca Y (fun _=>p57) fun ci cj Y ck=>Pb C O (Nb O ((ag) ⟨ci,cj,O,(ai.j ck).w,O,Y⟩))))
           ·exact psk 3 C O (Pb C O (Nb O ((ag) ⟨false,ch,O,ai,O,Y⟩)))
         ·exact sk (sr (Nb O (.ret (rt Y ae))))
        ·refine sr (Lw.eq O (Nb O (cn Y (fun Y=>?_) fun Y=>?_)))
         ·exact sk ((ag) ⟨(x0.Kind==6),e,O,Le.refl _ _,O,Y⟩)
         ·exact rg (Lw.eq O (Nb O ((ag) ⟨(x0.Kind==7),e,O,Le.refl _ _,O,Y⟩)))
      ·refine sr (Lw.eq O (Nb O (cn Y (fun Y=>?_) fun Y=>?_)))
       ·exact sk ((ag) ⟨(x0.Kind==4),b,O,Le.refl _ _,O,Y⟩)
       ·exact rg (Lw.eq O (Nb O ((ag) ⟨(x0.Kind==5),b,O,Le.refl _ _,O,Y⟩)))
 ·refine rg (fl H O (ca Y (fun _=>p53) fun c0 cl Y aj=>Lw.r O (R.not O) (mb O (bs Y (fun D Y=>?_) fun D Y=>?_))))
  ·exact psk 4 D O (Pb D O (nl ((ag) ⟨true,cl,O,aj,O,Y⟩)))
  ·exact wak 4 D (fl (H.up aj) O (ca Y (fun _=>p53) fun cm co Y cp=>Lw.r O (R.not O) (Pb D O (nl ((ag) ⟨(!cm),co,O,(aj.j cp).w,O,Y⟩)))))
theorem p31 {x0 a r}(b:Rd W K [vI x0.Kind,vS x0.Branch,vS x0.Who,vS x0.Path,vS x0.To,vI x0.At,a] x0)(Y:Vm.zbD x0=some r):Q1 31 [.agg [vI x0.Kind,vS x0.Branch,vS x0.Who,vS x0.Path,vS x0.To,vI x0.At,a].toArray] W [] fun W' v=>v=vB r:=
 (c31 (b.view _) Y).ad (fk 0) fun _ _ e=>e
end Go.Sx
