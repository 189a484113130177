/- Walks: each function answers as its model, printed by a program of ours. Conditions: the arguments read as they are given. -/
import Derived.Test.YtjokjcdckcpijaaGreatDoorXATs
import Derived.Test.YtjokjcdckcpijaaGreatDoorXAM0
namespace Go.Sx
open Go Go.Proofs Go.Vm Rp
set_option linter.unusedVariables false
set_option linter.unusedSimpArgs false
variable {W W0:CW}{K:List Nat}
theorem c11 {x0 a r}(e:Rd W0 [0] [a] x0)(Y:Vm.zcY x0=some r):Q0 11 [a] W0 fun Wf v=> ∃ (ug0:Nat) (i:Value),v=ptr (bx ug0)/\Bx Wf 31 ug0 [i,vI r.p]/\Rd Wf [0] [i] r.b:=by
 unfold Vm.zcY at Y
 refine zap.of Tryz.func11 O O O O (sr (Nv (.pointer none) O ?_))
 obtain⟨z,A,Y⟩:=za1 Y
 refine Cw.join 3 7 [0] (fun l w=> ∃ h d f,CW.w f=w/\Le [] W0 f/\l=[d]/\Rd f [0] [d] h/\z h=some r) ?_ ?_
 ·rintro _ _ σ ⟨h,d,f,rfl,B,rfl,r3,Y⟩
  rw[A]at Y
  have C:=B.o
  refine sr (mv d O (Lw.r O (R.bd (zs:=[.slice none 0 0,vI 0]) (cs:=[d,vI 0]) [(0,d)] O O O (zaD r3.oc O zcU)) (bo 2 O fun D K E F=>?_)))
  have k:=E.o
  refine Np O ?_
  obtain⟨L,G,H,I⟩:=F.dyeO 31
  have x:=H.s
  cases Y
  rw[<- G]
  exact Cw.ret (zhg O (Res.mk ((C.trans k).trans x) ⟨D,d,O,I,(r3.ul (k.trans x))⟩))
 ·refine sr (mv a O (Lw.ln x0 e O (Lw.gt O (nl (cn Y (fun Y=>?_) fun Y=>?_)))))
  ·refine rg (mv a O ?_)
   obtain⟨J,y,Y⟩:=ob Y
   have r16:=e.cutV y
   exact Lw.r O (R.sl e y O (.inl ⟨O,O⟩) (.inr O)) (Nv (cutV a (0:Int).toNat (2000:Int).toNat (Rp.sz (Byte))) O ((ag) ⟨J,(cutV a (0:Int).toNat (2000:Int).toNat (Rp.sz (Byte))),W0,O,Le.refl _ _,O,r16,Y⟩))
  ·exact sk ((ag) ⟨x0,a,W0,O,Le.refl _ _,O,e,Y⟩)
theorem p11 {x0 d k0 r}(f:Rd W K [d] x0)(Y:Vm.zcY x0=some r):Q1 11 [d] W [] fun W' v=> ∃ (ug0:Nat) (a:Value),v=ptr (bx ug0)/\Bx W' k0 ug0 [a,vI r.p]/\Rd W' (0::K) [a] r.b:=
 zap.adJ (J:=[]) (fun c=>bif Nat.beq c 0 then 0 else bif Nat.beq c 31 then k0 else 0) (c11 (f.view _) Y) fun _ _ ⟨ug0,a,e,h,i⟩=>⟨ug0,a,e,h.backN O,i.back O⟩
theorem c25 {x0 i k x1 r}(hB0:Bx W0 2 i [k,vI x0.p])(x:Rd W0 [0] [k] x0.b)(Y:Vm.zaC x0 x1=some r):Q0 25 [ptr (bx i),vI x1] W0 fun Wf v=>v=vI r.1/\Bx Wf 2 i [k,vI r.2]:=by
 unfold Vm.zaC at Y
 refine zap.of Tryz.func25 O O O O (sr (Ni O (sr (mp O (mp O (Lw.r O (R.nc O) (Lw.fa O (Lw.r O (R.ld (v:=vI x0.p) O O (hB0.cell O)) (Lw.add O (Lw.r O (R.nc O) (Lw.fa O (Lw.u (T.st (j:=1) (v:=vI (w64 (x0.p+1))) hB0 O O O O O) ?_))))))))))))
 rintro _ _ ⟨y,rfl,K,E⟩
 have F:=K.s
 refine nl (Cw.seq ?_)
 obtain⟨L,M,Y⟩:=za1 Y
 refine Cw.join 15 24 [24] (fun l w=> ∃ z A,CW.w A=w/\Le [] y A/\l=[vB z]/\L z=some r) ?_ ?_
 ·rintro _ _ σ ⟨z,A,rfl,G,rfl,Y⟩
  rw[M]at Y
  have h:=F.n G
  have d:=E.up G
  refine cn Y (fun Y=>?_) fun Y=>?_
  ·refine sr (Ni O ?_)
   cases Y
   exact Cw.ret (zhg O (Res.mk h ⟨O,d⟩))
  ·refine sk (sr (mp O (Lw.r O (R.nc O) (fl d O (Lw.sub O (Ni O (ssr ?_)))))))
   have B:=x.ul h
   refine mi O (mp O (Lw.r O (R.nc O) (fl d O (Lw.ln x0.b B O (Lw.lt O (nl (cn Y (fun Y=>?_) fun Y=>?_)))))))
   ·refine sr (mp O (Lw.r O (R.nc O) (fl d O (mi O ?_))))
    obtain⟨V,H,Y⟩:=ob Y
    refine Lw.r O (R.ix (α:=Byte) B H O O O) (Lw.r O (R.ld O O (B.at_ H).byte) (Lw.r O (R.cvI O O) (mi O ?_)))
    obtain⟨_,N,Y⟩:=ob Y
    refine Lw.r O (R.rem O O (nz N)) (Ni O ?_)
    cases Y
    exact Cw.ret (zhg O (Res.mk h ⟨O,d⟩))
   ·refine sk (Cw.seq (Cw.draw [] [(0,0),(1,0),(2,0),(3,1),(4,0),(5,0),(6,0),(7,0),(8,1),(9,0),(10,0),(11,0),(12,1),(13,0),(14,0),(15,0),(16,0),(17,0),(18,1),(19,0),(20,0),(21,0),(22,0),(23,0),(24,0),(25,1),(26,0),(27,0),(28,0),(29,1),(30,0),(31,0),(32,0),(33,0),(34,0),(35,0),(36,0),(37,0),(38,0),(39,0),(40,1),(41,0),(42,0),(43,0),(44,0),(45,0)] mixed (by kernel_rfl) fun W I=>?_))
    have J:=h.n I
    have e:=d.up I
    have a:=x.ul J
    refine Dp O (Mw.p O O (fun _=>R.nc O) (Dfl e O O O (Di O (Dp O (Mw.p O O (fun _=>R.nc O) (Dfl e O O O (Mw.p O O (fun _=>zpZ (xs:=x0.b) a O) ?_)))))))
    obtain⟨_,P,Y⟩:=ob Y
    refine Mw.p O O (fun _=>R.rem O O (nz P)) ?_
    obtain⟨X,C,Y⟩:=ob Y
    refine Mw.p O O (fun _=>R.ix (α:=Byte) a C O O O) (Mw.q O O (fun _ c=>R.ld O O (zam (a.at_ C).1 O (a.at_ C).byte c)) (Mw.p O O (fun _=>R.cvI O O) (Mw.p O O (fun _=>R.mul O O) (Dp O (Mw.p O O (fun _=>R.nc O) (Dfl e O O O (Di O (Mw.p O O (fun _=>R.mul O O) (Mw.p O O (fun _=>R.add O O) (Dp O (Mw.p O O (fun _=>R.nc O) (Dfl e O O O (Mw.p O O (fun _=>zpZ (xs:=x0.b) a O) ?_)))))))))))))
    obtain⟨_,Q,Y⟩:=ob Y
    refine Mw.p O O (fun _=>R.rem O O (nz Q)) ?_
    obtain⟨Z,D,Y⟩:=ob Y
    refine Mw.p O O (fun _=>R.ix (α:=Byte) a D O O O) (Mw.q O O (fun _ c=>R.ld O O (zam (a.at_ D).1 O (a.at_ D).byte c)) (Mw.p O O (fun _=>R.cvI O O) (Mw.p O O (fun _=>R.mul O O) (Mw.p O O (fun _=>R.add O O) (Di O (Mw.p O O (fun _=>R.mul O O) (Mw.p O O (fun _=>R.add O O) (Di O (Dp O (Mw.p O O (fun _=>R.nc O) (Dfl e O O O (Mw.p O O (fun _=>zpZ (xs:=x0.b) a O) ?_))))))))))))
    obtain⟨_,S,Y⟩:=ob Y
    refine Mw.p O O (fun _=>R.quo O O (nz S)) (Mw.p O O (fun _=>R.mul O O) (Mw.p O O (fun _=>R.add O O) (Hi O (Mw.nil (sr (mi O (mi O (Lw.r O (R.quo O O (by decide)) (Lw.r O (R.xor O O) (Ni O (sr (mi O (mi O ?_)))))))))))))
    obtain⟨_,U,Y⟩:=ob Y
    refine Lw.r O (R.rem O O (nz U)) (Ni O ?_)
    cases Y
    exact Cw.ret (zhg O (Res.mk J ⟨O,e⟩))
 ·refine rg (mi O (Lw.lt O (mb O (bs Y (fun f Y=>?_) fun f Y=>?_))))
  ·exact psk 6 f O (Pb f O (nl ((ag) ⟨true,y,O,Le.refl _ _,O,Y⟩)))
  ·exact wak 6 f (mp O (Lw.r O (R.nc O) (fl E O (Lw.ln x0.b (x.ul F) O (Lw.eq O (Pb f O (nl ((ag) ⟨((x0.b.length:Int)==0),y,O,Le.refl _ _,O,Y⟩))))))))
theorem p25 {x0 a d x1 c0 r}(hB0:Bx W c0 a [d,vI x0.p])(f:Rd W K [d] x0.b)(hJ:okJ K [c0]=true)(Y:Vm.zaC x0 x1=some r):Q1 25 [ptr (bx a),vI x1] W [c0] fun W' v=>v=vI r.1/\Bx W' c0 a [d,vI r.2]:=
 zap.adJ (J:=[c0]) (fun c=>bif Nat.beq c 0 then 0 else bif Nat.beq c 2 then c0 else 0) (c25 (hB0.viewJ 0 hJ) (f.view _) Y) fun _ _ ⟨e,h⟩=>⟨e,Bx.backJ 0 h O⟩
theorem c50 {x0 d e x1 a r}(hB0:Bx W0 2 d [e,vI x0.p])(k:Rd W0 [0] [e] x0.b)(f:Rd W0 [0] [a] x1)(Y:Vm.zbP x0 x1=some r):Q0 50 [ptr (bx d),a] W0 fun Wf v=>v=vI r.1/\Bx Wf 2 d [e,vI r.2]:=by
 unfold Vm.zbP at Y
 refine zap.of Tryz.func50 O O O O (sr (Ni O (sr (mv a O (mp O (mv a O (Lw.ln x1 f O (cr Y (fun _=>p25 (c0:=2) (x0:=x0) hB0 k O) ?_))))))))
 rintro z _ A Y x ⟨rfl,y⟩
 have h:=x.s
 obtain⟨B,i,Y⟩:=ob Y
 refine Lw.r O (R.ix (α:=Int) (f.ul h) i O O O) (Lw.r O (R.ld O O ((f.ul h).at_ i).int) (Ni O ?_))
 cases Y
 exact Cw.ret (zhg O (Res.mk h ⟨O,y⟩))
theorem p50 {x0 a d x1 f c0 r}(hB0:Bx W c0 a [d,vI x0.p])(h:Rd W K [d] x0.b)(i:Rd W K [f] x1)(hJ:okJ K [c0]=true)(Y:Vm.zbP x0 x1=some r):Q1 50 [ptr (bx a),f] W [c0] fun W' v=>v=vI r.1/\Bx W' c0 a [d,vI r.2]:=
 zap.adJ (J:=[c0]) (fun c=>bif Nat.beq c 0 then 0 else bif Nat.beq c 2 then c0 else 0) (c50 (hB0.viewJ 0 hJ) (h.view _) (i.view _) Y) fun _ _ ⟨e,k⟩=>⟨e,Bx.backJ 0 k O⟩
theorem c69 {x0 d e x1 a r}(hB0:Bx W0 2 d [e,vI x0.p])(k:Rd W0 [0] [e] x0.b)(f:Rd W0 [0] [a] x1)(Y:Vm.za6 x0 x1=some r):Q0 69 [ptr (bx d),a] W0 fun Wf v=>v=vS r.1/\Bx Wf 2 d [e,vI r.2]:=by
 unfold Vm.za6 at Y
 refine zap.of Tryz.func69 O O O O (sr (Ns O (sr (mv a O (mp O (mv a O (Lw.ln x1 f O (cr Y (fun _=>p25 (c0:=2) (x0:=x0) hB0 k O) ?_))))))))
 rintro z _ A Y x ⟨rfl,y⟩
 have h:=x.s
 obtain⟨B,i,Y⟩:=ob Y
 refine Lw.r O (R.ix (α:=Str) (f.ul h) i O O O) (Lw.r O (R.ld O O ((f.ul h).at_ i).str) (Ns O ?_))
 cases Y
 exact Cw.ret (zhg O (Res.mk h ⟨O,y⟩))
theorem p69 {x0 a d x1 f c0 r}(hB0:Bx W c0 a [d,vI x0.p])(h:Rd W K [d] x0.b)(i:Rd W K [f] x1)(hJ:okJ K [c0]=true)(Y:Vm.za6 x0 x1=some r):Q1 69 [ptr (bx a),f] W [c0] fun W' v=>v=vS r.1/\Bx W' c0 a [d,vI r.2]:=
 zap.adJ (J:=[c0]) (fun c=>bif Nat.beq c 0 then 0 else bif Nat.beq c 2 then c0 else 0) (c69 (hB0.viewJ 0 hJ) (h.view _) (i.view _) Y) fun _ _ ⟨e,k⟩=>⟨e,Bx.backJ 0 k O⟩
theorem c68 {x0 a d r}(hB0:Bx W0 2 a [d,vI x0.p])(h:Rd W0 [0] [d] x0.b)(Y:Vm.zcu x0=some r):Q0 68 [ptr (bx a)] W0 fun Wf v=>v=vS r.1/\Bx Wf 2 a [d,vI r.2]:=by
 unfold Vm.zcu at Y
 refine zap.of Tryz.func68 O O O O (sr (Ns O (sr (mp O (Lw.t O (T.bsS (α:=Str) (xs:=[([109,97,105,110]:Str),([109,97,105,110]:Str),([115,105,100,101]:Str),([100,101,118]:Str)]) 3 [] (W:=W0) [vS ([109,97,105,110]:Str),vS ([109,97,105,110]:Str),vS ([115,105,100,101]:Str),vS ([100,101,118]:Str)] (Each.cons ((rdS _)) (Each.cons ((rdS _)) (Each.cons ((rdS _)) (Each.cons ((rdS _)) Each.nil)))) O) ?_)))))
 rintro A _ ⟨B,rfl,e,i⟩
 have f:=e.o
 have k:=hB0.up e
 refine cr Y (fun _=>p69 (K:=[0,3]) (c0:=2) (x0:=x0) k ((h.ul f).sub (M:=[0,3]) O) (i.rd.sub (M:=[0,3]) O) O) ?_
 rintro C _ D Y x ⟨rfl,y⟩
 have z:=f.t x
 refine Ns O ?_
 cases Y
 exact Cw.ret (zhg O (Res.mk z ⟨O,y⟩))
theorem p68 {x0 a d c0 r}(hB0:Bx W c0 a [d,vI x0.p])(f:Rd W K [d] x0.b)(hJ:okJ K [c0]=true)(Y:Vm.zcu x0=some r):Q1 68 [ptr (bx a)] W [c0] fun W' v=>v=vS r.1/\Bx W' c0 a [d,vI r.2]:=
 zap.adJ (J:=[c0]) (fun c=>bif Nat.beq c 0 then 0 else bif Nat.beq c 2 then c0 else 0) (c68 (hB0.viewJ 0 hJ) (f.view _) Y) fun _ _ ⟨e,h⟩=>⟨e,Bx.backJ 0 h O⟩
theorem c70 {x0 a d r}(hB0:Bx W0 2 a [d,vI x0.p])(h:Rd W0 [0] [d] x0.b)(Y:Vm.zcG x0=some r):Q0 70 [ptr (bx a)] W0 fun Wf v=>v=vS r.1/\Bx Wf 2 a [d,vI r.2]:=by
 unfold Vm.zcG at Y
 refine zap.of Tryz.func70 O O O O (sr (Ns O (sr (mp O (Lw.t O (T.bsS (α:=Str) (xs:=[([97]:Str),([98]:Str),([100,47,101]:Str),([100,47,102]:Str),([103,47,104,47,105]:Str),([103,47,107]:Str),([122]:Str)]) 3 [] (W:=W0) [vS ([97]:Str),vS ([98]:Str),vS ([100,47,101]:Str),vS ([100,47,102]:Str),vS ([103,47,104,47,105]:Str),vS ([103,47,107]:Str),vS ([122]:Str)] (Each.cons ((rdS _)) (Each.cons ((rdS _)) (Each.cons ((rdS _)) (Each.cons ((rdS _)) (Each.cons ((rdS _)) (Each.cons ((rdS _)) (Each.cons ((rdS _)) Each.nil))))))) O) ?_)))))
 rintro A _ ⟨B,rfl,e,i⟩
 have f:=e.o
 have k:=hB0.up e
 refine cr Y (fun _=>p69 (K:=[0,3]) (c0:=2) (x0:=x0) k ((h.ul f).sub (M:=[0,3]) O) (i.rd.sub (M:=[0,3]) O) O) ?_
 rintro C _ D Y x ⟨rfl,y⟩
 have z:=f.t x
 refine Ns O ?_
 cases Y
 exact Cw.ret (zhg O (Res.mk z ⟨O,y⟩))
theorem p70 {x0 a d c0 r}(hB0:Bx W c0 a [d,vI x0.p])(f:Rd W K [d] x0.b)(hJ:okJ K [c0]=true)(Y:Vm.zcG x0=some r):Q1 70 [ptr (bx a)] W [c0] fun W' v=>v=vS r.1/\Bx W' c0 a [d,vI r.2]:=
 zap.adJ (J:=[c0]) (fun c=>bif Nat.beq c 0 then 0 else bif Nat.beq c 2 then c0 else 0) (c70 (hB0.viewJ 0 hJ) (f.view _) Y) fun _ _ ⟨e,h⟩=>⟨e,Bx.backJ 0 h O⟩
theorem c81 {x0 a d r}(hB0:Bx W0 2 a [d,vI x0.p])(h:Rd W0 [0] [d] x0.b)(Y:Vm.zcZ x0=some r):Q0 81 [ptr (bx a)] W0 fun Wf v=>v=vS r.1/\Bx Wf 2 a [d,vI r.2]:=by
 unfold Vm.zcZ at Y
 refine zap.of Tryz.func81 O O O O (sr (Ns O (sr (mp O (Lw.t O (T.bsS (α:=Str) (xs:=[([97]:Str),([98]:Str),([99]:Str),([100]:Str),([]:Str),([120,32,121]:Str),([115,101,101,32,97]:Str),([115,101,101,32,100,47,101]:Str),([101,110,100]:Str)]) 3 [] (W:=W0) [vS ([97]:Str),vS ([98]:Str),vS ([99]:Str),vS ([100]:Str),vS ([]:Str),vS ([120,32,121]:Str),vS ([115,101,101,32,97]:Str),vS ([115,101,101,32,100,47,101]:Str),vS ([101,110,100]:Str)] (Each.cons ((rdS _)) (Each.cons ((rdS _)) (Each.cons ((rdS _)) (Each.cons ((rdS _)) (Each.cons ((rdS _)) (Each.cons ((rdS _)) (Each.cons ((rdS _)) (Each.cons ((rdS _)) (Each.cons ((rdS _)) Each.nil))))))))) O) ?_)))))
 rintro A _ ⟨B,rfl,e,i⟩
 have f:=e.o
 have k:=hB0.up e
 refine cr Y (fun _=>p69 (K:=[0,3]) (c0:=2) (x0:=x0) k ((h.ul f).sub (M:=[0,3]) O) (i.rd.sub (M:=[0,3]) O) O) ?_
 rintro C _ D Y x ⟨rfl,y⟩
 have z:=f.t x
 refine Ns O ?_
 cases Y
 exact Cw.ret (zhg O (Res.mk z ⟨O,y⟩))
theorem p81 {x0 a d c0 r}(hB0:Bx W c0 a [d,vI x0.p])(f:Rd W K [d] x0.b)(hJ:okJ K [c0]=true)(Y:Vm.zcZ x0=some r):Q1 81 [ptr (bx a)] W [c0] fun W' v=>v=vS r.1/\Bx W' c0 a [d,vI r.2]:=
 zap.adJ (J:=[c0]) (fun c=>bif Nat.beq c 0 then 0 else bif Nat.beq c 2 then c0 else 0) (c81 (hB0.viewJ 0 hJ) (f.view _) Y) fun _ _ ⟨e,h⟩=>⟨e,Bx.backJ 0 h O⟩
theorem c71 {x0 e f r}(hB0:Bx W0 2 e [f,vI x0.p])(A:Rd W0 [0] [f] x0.b)(Y:Vm.zdX x0=some r):Q0 71 [ptr (bx e)] W0 fun Wf v=> ∃ B,v=B/\OwS Wf [31] [] [B] r.1/\Bx Wf 2 e [f,vI r.2]:=by
 unfold Vm.zdX at Y
 refine zap.of Tryz.func71 O O O O (sr (Nv (.slice none 0 0) O (sr (Lw.t O (T.lit0 (α:=Str) 3 []) ?_))))
 rintro C _ ⟨U,rfl,D,V⟩
 have X:=D.o
 have Z:=hB0.up D
 refine Nv C O (ssr (mp O (Lw.t O (T.bsS (α:=Int) (xs:=[0,1,3,5,8]) 4 [] (W:=U) [vI 0,vI 1,vI 3,vI 5,vI 8] (Each.cons ((rdI _)) (Each.cons ((rdI _)) (Each.cons ((rdI _)) (Each.cons ((rdI _)) (Each.cons ((rdI _)) Each.nil))))) O) ?_)))
 rintro v4 _ ⟨W4,rfl,k,o4⟩
 have E:=X.n k
 refine cr Y (fun _=>p50 (K:=[0,4]) (c0:=2) (x0:=x0) (Z.up k) ((A.ul E).sub (M:=[0,4]) O) (o4.rd.sub (M:=[0,4]) O) O) ?_
 rintro F _ G Y H ⟨rfl,ac⟩
 have ae:=E.t H
 refine Ni O (Cw.block ?_)
 obtain⟨af,ah,Y⟩:=za1 Y
 refine Cw.loop 9 17 [3,4] (fun m l w=> ∃ x h i a d,CW.w d=w/\Le [2,3] G d/\l=[a,vI h]/\Ow d 3 [] [a] x/\Bx d 2 e [f,vI i]/\Vm.zcH x0 af m x h i=some r) _ ⟨([]:List Str),F.1,F.2,C,G,O,Le.refl _ _,O,((V.up k).up H),ac,Y⟩ ?_
 rintro(_ |aw) _ _ σ ⟨x,h,i,a,d,rfl,I,rfl,J,L,Y⟩
 ·cases Y
 unfold Vm.zcH at Y
 have N:=ae.t I
 refine ssr (mi O (Lw.gt O (nl (cn Y (fun Y=>?_) fun Y=>?_))))
 ·refine sk (Cw.seq (Cw.block (rg (mv a O (mp O (cr Y (fun _=>p81 (c0:=2) (x0:=(Vm.l30Rd.mk x0.b i)) L (A.ul N) O) ?_))))))
  rintro y _ ax Y P ⟨rfl,ai⟩
  refine Lw.t O (T.bs 5 [vS y.1] (cs:=[vS y.1]) O O (bsv O)) ?_
  rintro _ _ ⟨ay,az,rfl,rfl,z,aj⟩
  obtain⟨ak,am,Y⟩:=ob Y
  refine Lw.t O (T.app1S (α:=Str) (K':=[]) ((J.up P).up z) aj (rdS _) O O am) ?_
  rintro Q _ ⟨an,rfl,R,ao⟩
  exact Nv Q O (rg (mi O (Lw.sub O (Ni O ((agm) ⟨ak,w64 (h-1),y.2,Q,an,O,(((I.j P).j z).j R).w,O,ao,((ai.up z).up R),Y⟩)))))
 ·refine Cw.exit ?_
  rw[ah]at Y
  refine sr (mv a O (Nv a O ?_))
  obtain⟨a0,ap,S,aq⟩:=J.dyeO 31
  have ar:=N.t S
  cases Y
  rw[<- ap]
  exact Cw.ret (zhg O (Res.mk ar ⟨a,O,aq.s,(L.up S)⟩))
theorem p71 {x0 d f k0 c0 r}(hB0:Bx W c0 d [f,vI x0.p])(h:Rd W K [f] x0.b)(hJ:okJ K [c0]=true)(Y:Vm.zdX x0=some r):Q1 71 [ptr (bx d)] W [c0] fun W' v=> ∃ a,v=a/\Ow W' k0 [] [a] r.1/\Bx W' c0 d [f,vI r.2]:=
 zap.adJ (J:=[c0]) (fun c=>bif Nat.beq c 0 then 0 else bif Nat.beq c 2 then c0 else bif Nat.beq c 31 then k0 else 0) (c71 (hB0.viewJ 0 hJ) (h.view _) Y) fun _ _ ⟨a,e,i,k⟩=>⟨a,e,i.one1.backN O,Bx.backJ 0 k O⟩
theorem c51 {x0 z A r}(hB0:Bx W0 2 z [A,vI x0.p])(a:Rd W0 [0] [A] x0.b)(Y:Vm.ze7 x0=some r):Q0 51 [ptr (bx z)] W0 fun Wf v=> ∃ ba,v = .agg [vI r.1.Kind,vS r.1.Branch,vS r.1.Who,vS r.1.Path,vS r.1.To,vI r.1.At,ba].toArray/\OwS Wf [31] [] [ba] r.1.Text/\Bx Wf 2 z [A,vI r.2]:=by
 unfold Vm.ze7 at Y
 refine zap.of Tryz.func51 O O O O (sr (al 3 [vI 0,vS ([]:Str),vS ([]:Str),vS ([]:Str),vS ([]:Str),vI 0, .slice none 0 0] fun g1 W1 l1 b1=>?_))
 have a2:=l1.o
 have b3:=hB0.up l1
 refine nl (sr (mp O (cr Y (fun _=>p68 (c0:=2) (x0:=x0) b3 (a.ul a2) O) ?_)))
 rintro e _ W7 Y l7 ⟨rfl,ce⟩
 have a8:=a2.t l7
 refine mp O (Lw.t O (T.bsS (α:=Str) (xs:=[([97,110,110]:Str),([98,111,98]:Str),([99,105,100]:Str)]) 4 [] (W:=W7) [vS ([97,110,110]:Str),vS ([98,111,98]:Str),vS ([99,105,100]:Str)] (Each.cons ((rdS _)) (Each.cons ((rdS _)) (Each.cons ((rdS _)) Each.nil))) O) ?_)
 rintro ej _ ⟨ek,rfl,l10,cg⟩
 have bg:=a8.n l10
 refine cr Y (fun _=>p69 (K:=[0,4]) (c0:=2) (x0:=(Vm.l30Rd.mk x0.b e.2)) (ce.up l10) ((a.ul bg).sub (M:=[0,4]) O) (cg.rd.sub (M:=[0,4]) O) O) ?_
 rintro f _ el Y bh ⟨rfl,ch⟩
 have ci:=bg.t bh
 refine Lw.r O (R.bd (zs:=[vI 0,vS ([]:Str),vS ([]:Str),vS ([]:Str),vS ([]:Str),vI 0, .slice none 0 0]) (cs:=[vI 0,vS e.1,vS f.1,vS ([]:Str),vS ([]:Str),vI 0, .slice none 0 0]) [(1,vS e.1),(2,vS f.1)] O O O (zaD O O (zaD O O zcU))) (al 5 [vI 0,vS ([]:Str),vS ([]:Str),vS ([]:Str),vS ([]:Str),vI 0, .slice none 0 0] fun cj em I ck=>?_)
 have cl:=ci.n I
 refine sta ck (zaa O (zaa O (zaa O (zaa O (zaa O (zaa O (zaa O zaw))))))) fun cm J co=>?_
 have L:=cl.t J
 refine nl ?_
 obtain⟨cp,cq,Y⟩:=za1 Y
 refine Cw.join 10 61 [] (fun l w=> ∃ N P Q S U V X Z B y,CW.w y=w/\Le [2,5,8] cm y/\l=[]/\Bx y 2 z [A,vI N]/\Ow y 6 [] [B] Z/\Bx y 5 cj [vI P,vS Q,vS S,vS U,vS V,vI X,B]/\cp N P Q S U V X Z=some r) ?_ ?_
 ·rintro _ _ σ ⟨N,P,Q,S,U,V,X,Z,B,y,rfl,bi,rfl,ct,bj,cu,Y⟩
  rw[cq]at Y
  have cv:=L.t bi
  refine sr (la cu (sta ((((((b1.up l7).up l10).up bh).up I).up J).up bi) (zaa O (zaa O (zaa O (zaa O (zaa O (zaa O (zaa bj.oc zaw))))))) fun en aa cw=>?_))
  have cx:=cv.t aa
  refine nl ?_
  obtain⟨eo,cy,ac,cz⟩:=(bj.up aa).dyeO 31
  have c1:=cx.t ac
  cases Y
  rw[<- cy]
  exact Cw.ret (zkj O (cw.up ac) (Res.mk c1 ⟨B,O,cz.s,((ct.up aa).up ac)⟩))
 ·refine sr (mp O (cr Y (fun _=>p25 (c0:=2) (x0:=(Vm.l30Rd.mk x0.b f.2)) ((ch.up I).up J) (a.ul L) O) ?_))
  rintro d _ ae Y i ⟨rfl,C⟩
  have af:=L.t i
  have D:=co.up i
  refine nl (Cw.block (sr (Lw.eq O (Nb O (cn Y (fun Y=>?_) fun Y=>?_)))))
  ·refine sr (Lw.fa O (Lw.u (T.st (j:=0) (v:=vI 2) D O O O O O) ?_))
   rintro _ _ ⟨ep,rfl,ah,c2⟩
   have c3:=af.t ah
   refine nl (rg (mp O (cr Y (fun _=>p70 (c0:=2) (x0:=(Vm.l30Rd.mk x0.b d.2)) (C.up ah) (a.ul c3) O) ?_)))
   rintro ai _ er Y bk ⟨rfl,c4⟩
   refine Lw.fa O (Lw.u (T.st (j:=3) (v:=vS ai.1) (c2.up bk) O O O O O) ?_)
   rintro _ _ ⟨c5,rfl,bl,c6⟩
   exact nl ((ag) ⟨ai.2,2,e.1,f.1,ai.1,([]:Str),0,([]:List Str), .slice none 0 0,c5,O,(((i.j ah).j bk).j bl).w,O,(c4.up bl),owN 6 [],c6,Y⟩)
  ·refine sr (Lw.eq O (Nb O (cn Y (fun Y=>?_) fun Y=>?_)))
   ·refine sr (Lw.fa O (Lw.u (T.st (j:=0) (v:=vI 3) D O O O O O) ?_))
    rintro _ _ ⟨es,rfl,aj,c7⟩
    have bm:=af.t aj
    refine nl (sr (mp O (cr Y (fun _=>p70 (c0:=2) (x0:=(Vm.l30Rd.mk x0.b d.2)) (C.up aj) (a.ul bm) O) ?_)))
    rintro ak _ et Y am ⟨rfl,c8⟩
    have c9:=bm.t am
    refine Lw.fa O (Lw.u (T.st (j:=3) (v:=vS ak.1) (c7.up am) O O O O O) ?_)
    rintro _ _ ⟨eu,rfl,an,da⟩
    have db:=c9.t an
    refine nl (rg (mp O (cr Y (fun _=>p70 (c0:=2) (x0:=(Vm.l30Rd.mk x0.b ak.2)) (c8.up an) (a.ul db) O) ?_)))
    rintro ao _ ew Y bn ⟨rfl,dc⟩
    refine Lw.fa O (Lw.u (T.st (j:=4) (v:=vS ao.1) (da.up bn) O O O O O) ?_)
    rintro _ _ ⟨dd,rfl,bp,de⟩
    exact nl ((ag) ⟨ao.2,3,e.1,f.1,ak.1,ao.1,0,([]:List Str), .slice none 0 0,dd,O,(((((i.j aj).j am).j an).j bn).j bp).w,O,(dc.up bp),owN 6 [],de,Y⟩)
   ·obtain⟨df,dg,Y⟩:=za1 Y
    refine Cw.join 34 36 [34] (fun l w=> ∃ ap k,CW.w k=w/\Le [] ae k/\l=[vB ap]/\df ap=some r) ?_ ?_
    ·rintro _ _ σ ⟨ap,k,rfl,h,rfl,Y⟩
     rw[dg]at Y
     have bq:=af.n h
     refine cn Y (fun Y=>?_) fun Y=>?_
     ·refine sr (Lw.fa O (Lw.u (T.st (j:=0) (v:=vI 4) (D.up h) O O O O O) ?_))
      rintro _ _ ⟨dh,rfl,aq,di⟩
      have dj:=bq.t aq
      refine nl (rg (mp O (Lw.t O (T.bsS (α:=Str) (xs:=[([115,105,100,101]:Str),([100,101,118]:Str),([111,108,100]:Str)]) 7 [] (W:=dh) [vS ([115,105,100,101]:Str),vS ([100,101,118]:Str),vS ([111,108,100]:Str)] (Each.cons ((rdS _)) (Each.cons ((rdS _)) (Each.cons ((rdS _)) Each.nil))) O) ?_)))
      rintro ex _ ⟨ey,rfl,E,dk⟩
      have dl:=dj.n E
      refine cr Y (fun _=>p69 (K:=[0,7]) (c0:=2) (x0:=(Vm.l30Rd.mk x0.b d.2)) (((C.up h).up aq).up E) ((a.ul dl).sub (M:=[0,7]) O) (dk.rd.sub (M:=[0,7]) O) O) ?_
      rintro ar _ ez Y br ⟨rfl,dm⟩
      refine Lw.fa O (Lw.u (T.st (j:=4) (v:=vS ar.1) ((di.up E).up br) O O O O O) ?_)
      rintro _ _ ⟨dn,rfl,bu,dp⟩
      exact nl ((ag) ⟨ar.2,4,e.1,f.1,([]:Str),ar.1,0,([]:List Str), .slice none 0 0,dn,O,(((((i.j h).j aq).j E).j br).j bu).w,O,(dm.up bu),owN 6 [],dp,Y⟩)
     ·obtain⟨dq,dr,Y⟩:=za1 Y
      refine Cw.join 42 45 [42] (fun l w=> ∃ au av,CW.w av=w/\Le [] k av/\l=[vB au]/\dq au=some r) ?_ ?_
      ·rintro _ _ σ ⟨au,av,rfl,x,rfl,Y⟩
       rw[dr]at Y
       have F:=bq.n x
       have G:=(C.up h).up x
       have H:=(D.up h).up x
       refine cn Y (fun Y=>?_) fun Y=>?_
       ·refine sr (Lw.fa O (Lw.u (T.st (j:=0) (v:=vI 5) H O O O O O) ?_))
        rintro _ _ ⟨e0,rfl,aw,ds⟩
        have dt:=F.t aw
        refine nl (rg (mp O (cr Y (fun _=>p68 (c0:=2) (x0:=(Vm.l30Rd.mk x0.b d.2)) (G.up aw) (a.ul dt) O) ?_)))
        rintro ax _ e1 Y bv ⟨rfl,du⟩
        refine Lw.fa O (Lw.u (T.st (j:=4) (v:=vS ax.1) (ds.up bv) O O O O O) ?_)
        rintro _ _ ⟨dv,rfl,bw,dw⟩
        exact nl ((ag) ⟨ax.2,5,e.1,f.1,([]:Str),ax.1,0,([]:List Str), .slice none 0 0,dv,O,(((((i.j h).j x).j aw).j bv).j bw).w,O,(du.up bw),owN 6 [],dw,Y⟩)
       ·refine sr (Lw.eq O (Nb O (cn Y (fun Y=>?_) fun Y=>?_)))
        ·refine sr (Lw.fa O (Lw.u (T.st (j:=0) (v:=vI 6) H O O O O O) ?_))
         rintro _ _ ⟨e2,rfl,ay,dx⟩
         have dy:=F.t ay
         refine nl (rg (mp O (cr Y (fun _=>p25 (c0:=2) (x0:=(Vm.l30Rd.mk x0.b d.2)) (G.up ay) (a.ul dy) O) ?_)))
         rintro az _ e3 Y bz ⟨rfl,dz⟩
         refine Lw.fa O (Lw.u (T.st (j:=5) (v:=vI az.1) (dx.up bz) O O O O O) ?_)
         rintro _ _ ⟨d0,rfl,b0,d1⟩
         exact nl ((ag) ⟨az.2,6,e.1,f.1,([]:Str),([]:Str),az.1,([]:List Str), .slice none 0 0,d0,O,(((((i.j h).j x).j ay).j bz).j b0).w,O,(dz.up b0),owN 6 [],d1,Y⟩)
        ·refine sr (Lw.eq O (Nb O (cn Y (fun Y=>?_) fun Y=>?_)))
         ·refine sr (Lw.fa O (Lw.u (T.st (j:=0) (v:=vI 7) H O O O O O) ?_))
          rintro _ _ ⟨e4,rfl,a0,d2⟩
          have d3:=F.t a0
          refine nl (rg (mp O (cr Y (fun _=>p25 (c0:=2) (x0:=(Vm.l30Rd.mk x0.b d.2)) (G.up a0) (a.ul d3) O) ?_)))
          rintro a1 _ e5 Y b2 ⟨rfl,d4⟩
          refine Lw.fa O (Lw.u (T.st (j:=5) (v:=vI a1.1) (d2.up b2) O O O O O) ?_)
          rintro _ _ ⟨d5,rfl,b4,d6⟩
          exact nl ((ag) ⟨a1.2,7,e.1,f.1,([]:Str),([]:Str),a1.1,([]:List Str), .slice none 0 0,d5,O,(((((i.j h).j x).j a0).j b2).j b4).w,O,(d4.up b4),owN 6 [],d6,Y⟩)
         ·refine sr (Lw.fa O (Lw.u (T.st (j:=0) (v:=vI 1) H O O O O O) ?_))
          rintro _ _ ⟨e6,rfl,a3,d7⟩
          have b5:=F.t a3
          refine nl (sr (mp O (cr Y (fun _=>p70 (c0:=2) (x0:=(Vm.l30Rd.mk x0.b d.2)) (G.up a3) (a.ul b5) O) ?_)))
          rintro a4 _ e7 Y a5 ⟨rfl,d8⟩
          have d9:=b5.t a5
          refine Lw.fa O (Lw.u (T.st (j:=3) (v:=vS a4.1) (d7.up a5) O O O O O) ?_)
          rintro _ _ ⟨e8,rfl,a6,ea⟩
          have eb:=d9.t a6
          refine nl (rg (mp O (cr Y (fun _=>p71 (k0:=8) (c0:=2) (x0:=(Vm.l30Rd.mk x0.b a4.2)) (d8.up a6) (a.ul eb) O) ?_)))
          rintro b6 b7 e9 Y b8 ⟨_,rfl,b9,ec⟩
          refine Lw.fa O (Lw.u (T.st (j:=6) (v:=b7) (ea.up b8) O O b9.oc O O) ?_)
          rintro _ _ ⟨fb,rfl,a7,ed⟩
          refine nl ?_
          obtain⟨ee,ef,a9,eg⟩:=(b9.up a7).dyeO 6
          exact(ag) ⟨b6.2,1,e.1,f.1,a4.1,([]:Str),0,b6.1,b7,ee,ef,((((((((i.j h).j x).j a3).j a5).j a6).j b8).j a7).j a9).w,O,((ec.up a7).up a9),eg,(ed.up a9),Y⟩
      ·refine sr (Lw.eq O (Nb O (cn Y (fun Y=>?_) fun Y=>?_)))
       ·exact sk ((ag) ⟨(d.1==4),k,O,Le.refl _ _,O,Y⟩)
       ·refine sr (Lw.eq O (Nb O (cn Y (fun Y=>?_) fun Y=>?_)))
        ·exact sk ((ag) ⟨(d.1==5),k,O,Le.refl _ _,O,Y⟩)
        ·exact rg (Lw.eq O (Nb O ((ag) ⟨(d.1==6),k,O,Le.refl _ _,O,Y⟩)))
    ·refine sr (Lw.eq O (Nb O (cn Y (fun Y=>?_) fun Y=>?_)))
     ·exact sk ((ag) ⟨(d.1==2),ae,O,Le.refl _ _,O,Y⟩)
     ·exact rg (Lw.eq O (Nb O ((ag) ⟨(d.1==3),ae,O,Le.refl _ _,O,Y⟩)))
theorem p51 {x0 d f k0 c0 r}(hB0:Bx W c0 d [f,vI x0.p])(h:Rd W K [f] x0.b)(hJ:okJ K [c0]=true)(Y:Vm.ze7 x0=some r):Q1 51 [ptr (bx d)] W [c0] fun W' v=> ∃ a,v = .agg [vI r.1.Kind,vS r.1.Branch,vS r.1.Who,vS r.1.Path,vS r.1.To,vI r.1.At,a].toArray/\Ow W' k0 [] [a] r.1.Text/\Bx W' c0 d [f,vI r.2]:=
 zap.adJ (J:=[c0]) (fun c=>bif Nat.beq c 0 then 0 else bif Nat.beq c 2 then c0 else bif Nat.beq c 31 then k0 else 0) (c51 (hB0.viewJ 0 hJ) (h.view _) Y) fun _ _ ⟨a,e,i,k⟩=>⟨a,e,i.one1.backN O,Bx.backJ 0 k O⟩
theorem c38 {x0 f h r}(hB0:Bx W0 2 f [h,vI x0.p])(A:Rd W0 [0] [h] x0.b)(Y:Vm.zew x0=some r):Q0 38 [ptr (bx f)] W0 fun Wf v=> ∃ B,v=B/\OwS Wf [31] [] [B] r.1/\Bx Wf 2 f [h,vI r.2]:=by
 unfold Vm.zew at Y
 refine zap.of Tryz.func38 O O O O (sr (Nv (.slice none 0 0) O (sr (Lw.t O (T.lit0 (α:=Vm.Op) 3 []) ?_))))
 rintro C _ ⟨X,rfl,D,Z⟩
 have a2:=D.o
 have b3:=hB0.up D
 refine Nv C O (ssr (mp O (Lw.t O (T.bsS (α:=Int) (xs:=[0,3,8,14,20]) 4 [] (W:=X) [vI 0,vI 3,vI 8,vI 14,vI 20] (Each.cons ((rdI _)) (Each.cons ((rdI _)) (Each.cons ((rdI _)) (Each.cons ((rdI _)) (Each.cons ((rdI _)) Each.nil))))) O) ?_)))
 rintro v4 _ ⟨W4,rfl,y,o4⟩
 have E:=a2.n y
 refine cr Y (fun _=>p50 (K:=[0,4]) (c0:=2) (x0:=x0) (b3.up y) ((A.ul E).sub (M:=[0,4]) O) (o4.rd.sub (M:=[0,4]) O) O) ?_
 rintro F _ G Y H ⟨rfl,af⟩
 have ah:=E.t H
 refine Ni O (Cw.block ?_)
 obtain⟨ai,aj,Y⟩:=za1 Y
 refine Cw.loop 9 17 [3,4] (fun m l w=> ∃ z i k d e,CW.w e=w/\Le [2,3,5] G e/\l=[d,vI i]/\Ow e 3 [] [d] z/\Bx e 2 f [h,vI k]/\Vm.zc0 x0 ai m z i k=some r) _ ⟨([]:List Vm.Op),F.1,F.2,C,G,O,Le.refl _ _,O,((Z.up y).up H),af,Y⟩ ?_
 rintro(_ |az) _ _ σ ⟨z,i,k,d,e,rfl,I,rfl,L,N,Y⟩
 ·cases Y
 unfold Vm.zc0 at Y
 have P:=ah.t I
 refine ssr (mi O (Lw.gt O (nl (cn Y (fun Y=>?_) fun Y=>?_))))
 ·refine sk (Cw.seq (Cw.block (rg (mv d O (mp O (cr Y (fun _=>p51 (k0:=5) (c0:=2) (x0:=(Vm.l30Rd.mk x0.b k)) N (A.ul P) O) ?_))))))
  rintro a _ a0 Y Q ⟨R,rfl,ak,am⟩
  refine Lw.t O (T.bs 6 [.agg [vI a.1.Kind,vS a.1.Branch,vS a.1.Who,vS a.1.Path,vS a.1.To,vI a.1.At,R].toArray] (cs:=[vI a.1.Kind,vS a.1.Branch,vS a.1.Who,vS a.1.Path,vS a.1.To,vI a.1.At,R]) O O (bsA O)) ?_
  rintro _ _ ⟨a1,a3,rfl,rfl,x,an⟩
  obtain⟨ao,ap,Y⟩:=ob Y
  refine Lw.t O (T.app1 (α:=Vm.Op) (J:=[5]) (K':=[]) ((L.up Q).up x) an (Op.own a.1.Kind a.1.Branch a.1.Who a.1.Path a.1.To a.1.At a.1.Text (ak.up x).s) O O ap) ?_
  rintro S _ ⟨aq,rfl,U,ar⟩
  exact Nv S O (rg (mi O (Lw.sub O (Ni O ((agm) ⟨ao,w64 (i-1),a.2,S,aq,O,(((I.j Q).j x).j U).w,O,ar,((am.up x).up U),Y⟩)))))
 ·refine Cw.exit ?_
  rw[aj]at Y
  refine sr (mv d O (Nv d O ?_))
  obtain⟨a4,au,V,av⟩:=L.dyeO 31
  have aw:=P.t V
  cases Y
  rw[<- au]
  exact Cw.ret (zhg O (Res.mk aw ⟨d,O,av.s,(N.up V)⟩))
theorem p38 {x0 d f k0 c0 r}(hB0:Bx W c0 d [f,vI x0.p])(h:Rd W K [f] x0.b)(hJ:okJ K [c0]=true)(Y:Vm.zew x0=some r):Q1 38 [ptr (bx d)] W [c0] fun W' v=> ∃ a,v=a/\Ow W' k0 [] [a] r.1/\Bx W' c0 d [f,vI r.2]:=
 zap.adJ (J:=[c0]) (fun c=>bif Nat.beq c 0 then 0 else bif Nat.beq c 2 then c0 else bif Nat.beq c 31 then k0 else 0) (c38 (hB0.viewJ 0 hJ) (h.view _) Y) fun _ _ ⟨a,e,i,k⟩=>⟨a,e,i.one1.backN O,Bx.backJ 0 k O⟩
theorem c30 {x0 x1 x2 r}(Y:Vm.zdq x0 x1 x2=some r):Q0 30 [vI x0,vI x1,vI x2] W0 fun Wf v=>v=vB r:=by
 unfold Vm.zdq at Y
 refine zap.of Tryz.func30 O O O O (sr (Nb O ?_))
 obtain⟨e,f,Y⟩:=za1 Y
 refine Cw.join 7 14 [6] (fun l w=> ∃ b d,CW.w d=w/\Le [] W0 d/\l=[vB b]/\e b=some r) ?_ ?_
 ·rintro _ _ σ ⟨b,d,rfl,h,rfl,Y⟩
  rw[f]at Y
  have i:=h.o
  exact .ret (rt Y i)
 ·refine rg (mi O (mi O (Lw.ge O (mb O (bs Y (fun a Y=>?_) fun a Y=>?_)))))
  ·exact wak 3 a (mi O (mi O (Lw.le O (Pb a O (Nb O ((ag) ⟨decide (x0<=(x2:Int)),W0,O,Le.refl _ _,O,Y⟩))))))
  ·exact psk 3 a O (Pb a O (Nb O ((ag) ⟨false,W0,O,Le.refl _ _,O,Y⟩)))
theorem p30 {x0 x1 x2 r}(Y:Vm.zdq x0 x1 x2=some r):Q1 30 [vI x0,vI x1,vI x2] W [] fun W' v=>v=vB r:=
 (c30 (W0:=W.view [] []) Y).ad (fk 0) fun _ _ e=>e
theorem c31 {x0 r}(Y:Vm.zbt x0=some r):Q0 31 [vS x0] W0 fun Wf v=>v=vB r:=by
 unfold Vm.zbt at Y
 refine zap.of Tryz.func31 O O O O (sr (Nb O (ssr (Ni O (Cw.block ?_)))))
 obtain⟨B,C,Y⟩:=za1 Y
 refine Cw.loop 4 31 [2,3] (fun m l w=> ∃ h i a,CW.w a=w/\Le [] W0 a/\l=[vB h,vI i]/\Vm.zbQ x0 B m h i=some r) _ ⟨false,0,W0,O,Le.refl _ _,O,Y⟩ ?_
 rintro(_ |S) _ _ σ ⟨h,i,a,rfl,y,rfl,Y⟩
 ·cases Y
 unfold Vm.zbQ at Y
 have z:=y.o
 refine ssr (mi O (ms O (Lw.r O (R.lenS O) (Lw.lt O (nl (cn Y (fun Y=>?_) fun Y=>?_))))))
 ·refine sk (Cw.seq (Cw.block ?_))
  obtain⟨D,E,Y⟩:=za1 Y
  refine Cw.join 10 31 [31] (fun l w=> ∃ x k,CW.w k=w/\Le [] a k/\l=[vB x]/\D x=some r) ?_ ?_
  ·rintro _ _ σ ⟨x,k,rfl,A,rfl,Y⟩
   rw[E]at Y
   have F:=z.n A
   refine cn Y (fun Y=>?_) fun Y=>?_
   ·exact sr (Nb O (.ret (rt Y F)))
   ·exact sk (rg (mi O (Lw.add O (Ni O ((agm) ⟨h,w64 (i+1),k,O,(y.j A).w,O,Y⟩)))))
  ·refine rg (ms O (mi O ?_))
   obtain⟨T,G,Y⟩:=ob Y
   refine Lw.r O (R.chm G O O) (Lw.lt O (mb O (bs Y (fun d Y=>?_) fun d Y=>?_)))
   ·refine psk 4 d O (Pb d O (mb O (wak 5 O (ms O (mi O ?_)))))
    obtain⟨U,H,Y⟩:=ob Y
    refine Lw.r O (R.chm H O O) (Lw.lt O (mb O (bs Y (fun e Y=>?_) fun e Y=>?_)))
    ·exact psk 4 e O (wak 1 O (Pb e O (Pb O O (nl ((ag) ⟨true,a,O,Le.refl _ _,O,Y⟩)))))
    ·refine wak 4 e (ms O (mi O ?_))
     obtain⟨I,J,Y⟩:=ob Y
     exact Lw.r O (R.chm J O O) (Lw.gt O (wak 1 O (Pb e O (Pb O O (nl ((ag) ⟨decide ((57:Int)< ((UInt8.toNat I:Int):Int)),a,O,Le.refl _ _,O,Y⟩))))))
   ·refine wak 4 d (ms O (mi O ?_))
    obtain⟨V,K,Y⟩:=ob Y
    refine Lw.r O (R.chm K O O) (Lw.gt O (Pb d O (mb O (bs Y (fun b Y=>?_) fun b Y=>?_))))
    ·refine wak 5 b (ms O (mi O ?_))
     obtain⟨W,L,Y⟩:=ob Y
     refine Lw.r O (R.chm L O O) (Lw.lt O (mb O (bs Y (fun f Y=>?_) fun f Y=>?_)))
     ·exact psk 4 f O (wak 1 b (Pb f O (Pb b O (nl ((ag) ⟨true,a,O,Le.refl _ _,O,Y⟩)))))
     ·refine wak 4 f (ms O (mi O ?_))
      obtain⟨M,N,Y⟩:=ob Y
      exact Lw.r O (R.chm N O O) (Lw.gt O (wak 1 b (Pb f O (Pb b O (nl ((ag) ⟨decide ((57:Int)< ((UInt8.toNat M:Int):Int)),a,O,Le.refl _ _,O,Y⟩))))))
    ·exact psk 5 b O (puk 4 O (psk 1 b O (Pb b O (nl ((ag) ⟨false,a,O,Le.refl _ _,O,Y⟩)))))
 ·refine Cw.exit ?_
  rw[C]at Y
  refine sr (ms O (Lw.r O (R.lenS O) (ca Y (fun _=>p30) fun X Z Y P=>?_)))
  have Q:=z.n P
  exact Nb O (.ret (rt Y Q))
theorem p31 {x0 r}(Y:Vm.zbt x0=some r):Q1 31 [vS x0] W [] fun W' v=>v=vB r:=
 (c31 (W0:=W.view [] []) Y).ad (fk 0) fun _ _ e=>e
theorem c57 {x0 S x1 x2 x3 x4 r}(U:Rd W0 [0] [vI x0.Kind,vS x0.Branch,vS x0.Who,vS x0.Path,vS x0.To,vI x0.At,S] x0)(Y:Vm.zcg x0 x1 x2 x3 x4=some r):Q0 57 [.agg [vI x0.Kind,vS x0.Branch,vS x0.Who,vS x0.Path,vS x0.To,vI x0.At,S].toArray,vB x1,vB x2,vB x3,vB x4] W0 fun Wf v=>v=vB r:=by
 unfold Vm.zcg at Y
 obtain⟨ac,T,z⟩:=Op.split U
 simp only[List.cons.injEq,and_true,true_and]at T
 obtain rfl:=T
 refine zap.of Tryz.func57 O O O O (sr (bo 2 O fun g1 a V b=>?_))
 have d:=V.o
 refine Nb O ?_
 obtain⟨W,X,Y⟩:=za1 Y
 refine Cw.join 11 41 [10] (fun l w=> ∃ Q R,CW.w R=w/\Le [] a R/\l=[vB Q]/\W Q=some r) ?_ ?_
 ·rintro _ _ σ ⟨Q,R,rfl,Z,rfl,Y⟩
  rw[X]at Y
  have a6:=d.n Z
  exact .ret (rt Y a6)
 ·refine rg (mb O (mb O (bs Y (fun A Y=>?_) fun A Y=>?_)))
  ·refine psk 3 A O (Pb A O (mb O (wak 2 O (mb O (mb O (bs Y (fun B Y=>?_) fun B Y=>?_))))))
   ·refine psk 3 B O (wak 1 O (Pb B O (Pb O O (mb O (wak 2 O (mb O (mb O (bs Y (fun C Y=>?_) fun C Y=>?_))))))))
    ·refine psk 3 C O (wak 1 O (Pb C O (Pb O O (mb O (wak 2 O (mb O (mb O (bs Y (fun D Y=>?_) fun D Y=>?_))))))))
     ·exact psk 4 D O (wak 1 O (Pb D O (Pb O O (Nb O ((ag) ⟨true,a,O,Le.refl _ _,O,Y⟩)))))
     ·exact wak 4 D (fl b O (Lw.ln x0.Text (z.ul d) O (Lw.eq O (wak 1 O (Pb D O (Pb O O (Nb O ((ag) ⟨((x0.Text.length:Int)==0),a,O,Le.refl _ _,O,Y⟩))))))))
    ·refine wak 3 C (fl b O (Lw.eq O (wak 1 O (Pb C O (Pb O O (mb O (bs Y (fun e Y=>?_) fun e Y=>?_)))))))
     ·refine wak 2 e (mb O (mb O (bs Y (fun E Y=>?_) fun E Y=>?_)))
      ·exact psk 4 E O (wak 1 e (Pb E O (Pb e O (Nb O ((ag) ⟨true,a,O,Le.refl _ _,O,Y⟩)))))
      ·exact wak 4 E (fl b O (Lw.ln x0.Text (z.ul d) O (Lw.eq O (wak 1 e (Pb E O (Pb e O (Nb O ((ag) ⟨((x0.Text.length:Int)==0),a,O,Le.refl _ _,O,Y⟩))))))))
     ·exact psk 2 e O (puk 4 O (psk 1 e O (Pb e O (Nb O ((ag) ⟨false,a,O,Le.refl _ _,O,Y⟩)))))
   ·refine wak 3 B (fl b O (Lw.seq O (wak 1 O (Pb B O (Pb O O (mb O (bs Y (fun f Y=>?_) fun f Y=>?_)))))))
    ·refine wak 2 f (mb O (mb O (bs Y (fun F Y=>?_) fun F Y=>?_)))
     ·refine psk 3 F O (wak 1 f (Pb F O (Pb f O (mb O (wak 2 O (mb O (mb O (bs Y (fun G Y=>?_) fun G Y=>?_))))))))
      ·exact psk 4 G O (wak 1 O (Pb G O (Pb O O (Nb O ((ag) ⟨true,a,O,Le.refl _ _,O,Y⟩)))))
      ·exact wak 4 G (fl b O (Lw.ln x0.Text (z.ul d) O (Lw.eq O (wak 1 O (Pb G O (Pb O O (Nb O ((ag) ⟨((x0.Text.length:Int)==0),a,O,Le.refl _ _,O,Y⟩))))))))
     ·refine wak 3 F (fl b O (Lw.eq O (wak 1 f (Pb F O (Pb f O (mb O (bs Y (fun h Y=>?_) fun h Y=>?_)))))))
      ·refine wak 2 h (mb O (mb O (bs Y (fun H Y=>?_) fun H Y=>?_)))
       ·exact psk 4 H O (wak 1 h (Pb H O (Pb h O (Nb O ((ag) ⟨true,a,O,Le.refl _ _,O,Y⟩)))))
       ·exact wak 4 H (fl b O (Lw.ln x0.Text (z.ul d) O (Lw.eq O (wak 1 h (Pb H O (Pb h O (Nb O ((ag) ⟨((x0.Text.length:Int)==0),a,O,Le.refl _ _,O,Y⟩))))))))
      ·exact psk 2 h O (puk 4 O (psk 1 h O (Pb h O (Nb O ((ag) ⟨false,a,O,Le.refl _ _,O,Y⟩)))))
    ·exact psk 2 f O (puk 3 O (psk 1 f O (Pb f O (mb O (psk 2 O O (puk 4 O (psk 1 O O (Pb O O (Nb O ((ag) ⟨false,a,O,Le.refl _ _,O,Y⟩))))))))))
  ·refine wak 3 A (fl b O (Lw.seq O (Pb A O (mb O (bs Y (fun i Y=>?_) fun i Y=>?_)))))
   ·refine wak 2 i (mb O (mb O (bs Y (fun I Y=>?_) fun I Y=>?_)))
    ·refine psk 3 I O (wak 1 i (Pb I O (Pb i O (mb O (wak 2 O (mb O (mb O (bs Y (fun J Y=>?_) fun J Y=>?_))))))))
     ·refine psk 3 J O (wak 1 O (Pb J O (Pb O O (mb O (wak 2 O (mb O (mb O (bs Y (fun K Y=>?_) fun K Y=>?_))))))))
      ·exact psk 4 K O (wak 1 O (Pb K O (Pb O O (Nb O ((ag) ⟨true,a,O,Le.refl _ _,O,Y⟩)))))
      ·exact wak 4 K (fl b O (Lw.ln x0.Text (z.ul d) O (Lw.eq O (wak 1 O (Pb K O (Pb O O (Nb O ((ag) ⟨((x0.Text.length:Int)==0),a,O,Le.refl _ _,O,Y⟩))))))))
     ·refine wak 3 J (fl b O (Lw.eq O (wak 1 O (Pb J O (Pb O O (mb O (bs Y (fun k Y=>?_) fun k Y=>?_)))))))
      ·refine wak 2 k (mb O (mb O (bs Y (fun L Y=>?_) fun L Y=>?_)))
       ·exact psk 4 L O (wak 1 k (Pb L O (Pb k O (Nb O ((ag) ⟨true,a,O,Le.refl _ _,O,Y⟩)))))
       ·exact wak 4 L (fl b O (Lw.ln x0.Text (z.ul d) O (Lw.eq O (wak 1 k (Pb L O (Pb k O (Nb O ((ag) ⟨((x0.Text.length:Int)==0),a,O,Le.refl _ _,O,Y⟩))))))))
      ·exact psk 2 k O (puk 4 O (psk 1 k O (Pb k O (Nb O ((ag) ⟨false,a,O,Le.refl _ _,O,Y⟩)))))
    ·refine wak 3 I (fl b O (Lw.seq O (wak 1 i (Pb I O (Pb i O (mb O (bs Y (fun x Y=>?_) fun x Y=>?_)))))))
     ·refine wak 2 x (mb O (mb O (bs Y (fun M Y=>?_) fun M Y=>?_)))
      ·refine psk 3 M O (wak 1 x (Pb M O (Pb x O (mb O (wak 2 O (mb O (mb O (bs Y (fun N Y=>?_) fun N Y=>?_))))))))
       ·exact psk 4 N O (wak 1 O (Pb N O (Pb O O (Nb O ((ag) ⟨true,a,O,Le.refl _ _,O,Y⟩)))))
       ·exact wak 4 N (fl b O (Lw.ln x0.Text (z.ul d) O (Lw.eq O (wak 1 O (Pb N O (Pb O O (Nb O ((ag) ⟨((x0.Text.length:Int)==0),a,O,Le.refl _ _,O,Y⟩))))))))
      ·refine wak 3 M (fl b O (Lw.eq O (wak 1 x (Pb M O (Pb x O (mb O (bs Y (fun y Y=>?_) fun y Y=>?_)))))))
       ·refine wak 2 y (mb O (mb O (bs Y (fun P Y=>?_) fun P Y=>?_)))
        ·exact psk 4 P O (wak 1 y (Pb P O (Pb y O (Nb O ((ag) ⟨true,a,O,Le.refl _ _,O,Y⟩)))))
        ·exact wak 4 P (fl b O (Lw.ln x0.Text (z.ul d) O (Lw.eq O (wak 1 y (Pb P O (Pb y O (Nb O ((ag) ⟨((x0.Text.length:Int)==0),a,O,Le.refl _ _,O,Y⟩))))))))
       ·exact psk 2 y O (puk 4 O (psk 1 y O (Pb y O (Nb O ((ag) ⟨false,a,O,Le.refl _ _,O,Y⟩)))))
     ·exact psk 2 x O (puk 3 O (psk 1 x O (Pb x O (mb O (psk 2 O O (puk 4 O (psk 1 O O (Pb O O (Nb O ((ag) ⟨false,a,O,Le.refl _ _,O,Y⟩))))))))))
   ·exact psk 2 i O (puk 3 O (psk 1 i O (Pb i O (mb O (psk 2 O O (puk 3 O (psk 1 O O (Pb O O (mb O (psk 2 O O (puk 4 O (psk 1 O O (Pb O O (Nb O ((ag) ⟨false,a,O,Le.refl _ _,O,Y⟩)))))))))))))))
theorem p57 {x0 a x1 x2 x3 x4 r}(b:Rd W K [vI x0.Kind,vS x0.Branch,vS x0.Who,vS x0.Path,vS x0.To,vI x0.At,a] x0)(Y:Vm.zcg x0 x1 x2 x3 x4=some r):Q1 57 [.agg [vI x0.Kind,vS x0.Branch,vS x0.Who,vS x0.Path,vS x0.To,vI x0.At,a].toArray,vB x1,vB x2,vB x3,vB x4] W [] fun W' v=>v=vB r:=
 (c57 (b.view _) Y).ad (fk 0) fun _ _ e=>e
theorem c54 {x0 x1 x2 r}(Y:Vm.ze8 x0 x1 x2=some r):Q0 54 [vS x0, .int .u8 (UInt8.toNat x1:Int),vI x2] W0 fun Wf v=> ∃ D,v=D/\OwS Wf LL [] [D] r:=by
 unfold Vm.ze8 at Y
 refine zap.of Tryz.func54 O O O O (sr (Nv (.slice none 0 0) O (sr (Lw.t O (T.lit0 (α:=Str) 2 []) ?_))))
 rintro E _ ⟨F,rfl,P,Q⟩
 have S:=P.o
 refine Nv E O (sr (Ni O (ssr (Ni O (Cw.block ?_)))))
 obtain⟨U,V,Y⟩:=za1 Y
 refine Cw.loop 11 36 [7,8,9] (fun m l w=> ∃ d k e a b,CW.w b=w/\Le [2] F b/\l=[a,vI k,vI e]/\Ow b 2 [] [a] d/\Vm.zdr x0 x1 x2 U m d k e=some r) _ ⟨([]:List Str),0,0,E,F,O,Le.refl _ _,O,Q,Y⟩ ?_
 rintro(_ |a0) _ _ σ ⟨d,k,e,a,b,rfl,G,rfl,H,Y⟩
 ·cases Y
 unfold Vm.zdr at Y
 have W:=S.t G
 refine Cw.seq ?_
 obtain⟨X,Z,Y⟩:=za1 Y
 refine Cw.join 11 20 [20] (fun l w=> ∃ A f,CW.w f=w/\Le [] b f/\l=[vB A]/\X A=some r) ?_ ?_
 ·rintro _ _ σ ⟨A,f,rfl,B,rfl,Y⟩
  rw[Z]at Y
  have aa:=W.n B
  have C:=H.up B
  refine cn Y (fun Y=>?_) fun Y=>?_
  ·refine sk ?_
   obtain⟨ac,ae,Y⟩:=za1 Y
   refine Cw.join 23 36 [7,8] (fun l w=> ∃ x y z h,CW.w h=w/\Le [2] f h/\l=[z,vI y]/\Ow h 2 [] [z] x/\ac x y=some r) ?_ ?_
   ·rintro _ _ σ ⟨x,y,z,h,rfl,af,rfl,ah,Y⟩
    rw[ae]at Y
    exact rg (mi O (Lw.add O (Ni O ((agm) ⟨x,y,w64 (e+1),z,h,O,((G.j B).j af).w,O,ah,Y⟩))))
   ·refine Cw.block (sr (ms O (mi O ?_)))
    obtain⟨a1,ai,Y⟩:=ob Y
    refine Lw.r O (R.chm ai O O) (mv (.int .u8 (UInt8.toNat x1:Int)) O (Lw.eq O (nl (cn Y (fun Y=>?_) fun Y=>?_))))
    ·refine sr (mv a O (ms O (mi O (mi O ?_))))
     obtain⟨I,aj,Y⟩:=ob Y
     refine Lw.r O (R.ss aj O (.inr O) (.inr O)) (Lw.t O (T.bs 3 [vS I] (cs:=[vS I]) O O (bsv O)) ?_)
     rintro _ _ ⟨a3,a4,rfl,rfl,J,ak⟩
     obtain⟨am,an,Y⟩:=ob Y
     refine Lw.t O (T.app1S (α:=Str) (K':=[]) (C.up J) ak (rdS _) O O an) ?_
     rintro K _ ⟨ao,rfl,ap,aq⟩
     exact Nv K O (rg (mi O (Lw.add O (Ni O ((ag) ⟨am,w64 (e+1),K,ao,O,(J.j ap).w,O,aq,Y⟩)))))
    ·exact sk ((ag) ⟨d,k,a,f,O,Le.refl _ _,O,C,Y⟩)
  ·refine Cw.exit ?_
   rw[V]at Y
   refine sr (mv a O (ms O (mi O ?_)))
   obtain⟨L,ar,Y⟩:=ob Y
   refine Lw.r O (R.ss ar O (.inr O) (.inl ⟨O,O⟩)) (Lw.t O (T.bs 4 [vS L] (cs:=[vS L]) O O (bsv O)) ?_)
   rintro _ _ ⟨a5,a6,rfl,rfl,M,au⟩
   have av:=aa.n M
   obtain⟨a7,aw,Y⟩:=ob Y
   refine Lw.t O (T.app1S (α:=Str) (K':=[]) (C.up M) au (rdS _) O O aw) ?_
   rintro N _ ⟨a8,rfl,ax,ay⟩
   have az:=av.t ax
   refine Nv N O ?_
   cases Y
   exact Cw.ret (zhg O (Res.mk az ⟨N,O,ay.s.sub O O⟩))
 ·refine rg (mi O (ms O (Lw.r O (R.lenS O) (Lw.lt O (mb O (bs Y (fun i Y=>?_) fun i Y=>?_))))))
  ·exact wak 4 i (mv a O (Lw.ln d H.rd O (mi O (Lw.lt O (Pb i O (nl ((ag) ⟨decide (d.length< (x2:Int)),b,O,Le.refl _ _,O,Y⟩)))))))
  ·exact psk 4 i O (Pb i O (nl ((ag) ⟨false,b,O,Le.refl _ _,O,Y⟩)))
theorem p54 {x0 x1 x2 k0 r}(Y:Vm.ze8 x0 x1 x2=some r):Q1 54 [vS x0, .int .u8 (UInt8.toNat x1:Int),vI x2] W [] fun W' v=> ∃ a,v=a/\Ow W' k0 [] [a] r:=
 (c54 (W0:=W.view [] []) Y).ad (fk k0) fun _ _ ⟨a,e,b⟩=>⟨a,e,b.back (zhe _)⟩
theorem c43 {x0 r}(Y:Vm.zcs x0=some r):Q0 43 [vS x0] W0 fun Wf v=>v=vB r:=by
 unfold Vm.zcs at Y
 refine zap.of Tryz.func43 O O O O (sr (Nb O (sr (ms O (cr Y (fun _=>p54 (k0:=2)) ?_)))))
 rintro f a k Y A ⟨_,rfl,B⟩
 have C:=A.o
 refine Nv a O (ssr (Ni O (Cw.block ?_)))
 obtain⟨D,E,Y⟩:=za1 Y
 refine Cw.loop 7 18 [2,4] (fun m l w=> ∃ b d h,CW.w h=w/\Le [] k h/\l=[vB b,vI d]/\Vm.zbR f D m b d=some r) _ ⟨false,0,k,O,Le.refl _ _,O,Y⟩ ?_
 rintro(_ |H) _ _ σ ⟨b,d,h,rfl,i,rfl,Y⟩
 ·cases Y
 unfold Vm.zbR at Y
 have x:=C.n i
 have e:=B.up i
 refine ssr (mi O (mv a O (Lw.ln f e.rd O (Lw.lt O (nl (cn Y (fun Y=>?_) fun Y=>?_))))))
 ·refine sk (Cw.seq (Cw.block (sr (mv a O (mi O ?_)))))
  obtain⟨I,y,Y⟩:=ob Y
  refine Lw.r O (R.ix (α:=Str) e.rd y O O O) (Lw.r O (R.ld O O (e.rd.at_ y).str) (ca Y (fun _=>p31) fun J F Y z=>?_))
  have G:=x.n z
  refine Lw.r O (R.not O) (nl (cn Y (fun Y=>?_) fun Y=>?_))
  ·exact sr (Nb O (.ret (rt Y G)))
  ·exact sk (rg (mi O (Lw.add O (Ni O ((agm) ⟨b,w64 (d+1),F,O,(i.j z).w,O,Y⟩)))))
 ·refine Cw.exit ?_
  rw[E]at Y
  exact sr (mv a O (Lw.ln f e.rd O (Lw.le O (Nb O (.ret (rt Y x))))))
theorem p43 {x0 r}(Y:Vm.zcs x0=some r):Q1 43 [vS x0] W [] fun W' v=>v=vB r:=
 (c43 (W0:=W.view [] []) Y).ad (fk 0) fun _ _ e=>e
theorem c55 {x0 r}(Y:Vm.zex x0=some r):Q0 55 [vS x0] W0 fun Wf v=>v=vB r:=by
 unfold Vm.zex at Y
 refine zap.of Tryz.func55 O O O O (sr (Nb O (ssr (Ni O (Cw.block ?_)))))
 obtain⟨y,z,Y⟩:=za1 Y
 refine Cw.loop 4 19 [2,3] (fun m l w=> ∃ d e a,CW.w a=w/\Le [] W0 a/\l=[vB d,vI e]/\Vm.zbS x0 y m d e=some r) _ ⟨false,0,W0,O,Le.refl _ _,O,Y⟩ ?_
 rintro(_ |G) _ _ σ ⟨d,e,a,rfl,i,rfl,Y⟩
 ·cases Y
 unfold Vm.zbS at Y
 have k:=i.o
 refine ssr (mi O (ms O (Lw.r O (R.lenS O) (Lw.lt O (nl (cn Y (fun Y=>?_) fun Y=>?_))))))
 ·refine sk (Cw.seq (Cw.block ?_))
  obtain⟨A,B,Y⟩:=za1 Y
  refine Cw.join 10 19 [19] (fun l w=> ∃ h f,CW.w f=w/\Le [] a f/\l=[vB h]/\A h=some r) ?_ ?_
  ·rintro _ _ σ ⟨h,f,rfl,x,rfl,Y⟩
   rw[B]at Y
   have C:=k.n x
   refine cn Y (fun Y=>?_) fun Y=>?_
   ·exact sr (Nb O (.ret (rt Y C)))
   ·exact sk (rg (mi O (Lw.add O (Ni O ((agm) ⟨d,w64 (e+1),f,O,(i.j x).w,O,Y⟩)))))
  ·refine rg (ms O (mi O ?_))
   obtain⟨H,D,Y⟩:=ob Y
   refine Lw.r O (R.chm D O O) (Lw.lt O (mb O (bs Y (fun b Y=>?_) fun b Y=>?_)))
   ·exact psk 4 b O (Pb b O (nl ((ag) ⟨true,a,O,Le.refl _ _,O,Y⟩)))
   ·refine wak 4 b (ms O (mi O ?_))
    obtain⟨E,F,Y⟩:=ob Y
    exact Lw.r O (R.chm F O O) (Lw.gt O (Pb b O (nl ((ag) ⟨decide ((126:Int)< ((UInt8.toNat E:Int):Int)),a,O,Le.refl _ _,O,Y⟩))))
 ·refine Cw.exit ?_
  rw[z]at Y
  exact sr (ms O (Lw.r O (R.lenS O) (Lw.le O (Nb O (.ret (rt Y k))))))
theorem p55 {x0 r}(Y:Vm.zex x0=some r):Q1 55 [vS x0] W [] fun W' v=>v=vB r:=
 (c55 (W0:=W.view [] []) Y).ad (fk 0) fun _ _ e=>e
theorem c44 {x0 a r}(y:Rd W0 [0] [a] x0)(Y:Vm.zcW x0=some r):Q0 44 [a] W0 fun Wf v=>v=vB r:=by
 unfold Vm.zcW at Y
 refine zap.of Tryz.func44 O O O O (sr (Nb O (ssr (Ni O (Cw.block ?_)))))
 obtain⟨z,A,Y⟩:=za1 Y
 refine Cw.loop 4 15 [2,3] (fun m l w=> ∃ b d f,CW.w f=w/\Le [] W0 f/\l=[vB b,vI d]/\Vm.zc1 x0 z m b d=some r) _ ⟨false,0,W0,O,Le.refl _ _,O,Y⟩ ?_
 rintro(_ |D) _ _ σ ⟨b,d,f,rfl,i,rfl,Y⟩
 ·cases Y
 unfold Vm.zc1 at Y
 have h:=i.o
 refine ssr ?_
 have e:=y.ul h
 refine mi O (mv a O (Lw.ln x0 e O (Lw.lt O (nl (cn Y (fun Y=>?_) fun Y=>?_)))))
 ·refine sk (Cw.seq (Cw.block (sr (mv a O (mi O ?_)))))
  obtain⟨E,k,Y⟩:=ob Y
  refine Lw.r O (R.ix (α:=Str) e k O O O) (Lw.r O (R.ld O O (e.at_ k).str) (ca Y (fun _=>p55) fun F B Y x=>?_))
  have C:=h.n x
  refine Lw.r O (R.not O) (nl (cn Y (fun Y=>?_) fun Y=>?_))
  ·exact sr (Nb O (.ret (rt Y C)))
  ·exact sk (rg (mi O (Lw.add O (Ni O ((agm) ⟨b,w64 (d+1),B,O,(i.j x).w,O,Y⟩)))))
 ·refine Cw.exit ?_
  rw[A]at Y
  exact sr (mv a O (Lw.ln x0 e O (Lw.le O (Nb O (.ret (rt Y h))))))
theorem p44 {x0 a r}(b:Rd W K [a] x0)(Y:Vm.zcW x0=some r):Q1 44 [a] W [] fun W' v=>v=vB r:=
 (c44 (b.view _) Y).ad (fk 0) fun _ _ e=>e
theorem c58 {x0 a r}(y:Rd W0 [0] [a] x0)(Y:Vm.zds x0=some r):Q0 58 [a] W0 fun Wf v=>v=vB r:=by
 unfold Vm.zds at Y
 refine zap.of Tryz.func58 O O O O (sr (Nb O (ssr (Ni O (Cw.block ?_)))))
 obtain⟨F,G,Y⟩:=za1 Y
 refine Cw.loop 5 26 [2,3,4] (fun m l w=> ∃ i b A d,CW.w d=w/\Le [] W0 d/\l=[vB i,vI b,A]/\Vm.zaL x0 F m i b=some r) _ ⟨false,0,undef,W0,O,Le.refl _ _,O,Y⟩ ?_
 rintro(_ |M) _ _ σ ⟨i,b,A,d,rfl,B,rfl,Y⟩
 ·cases Y
 unfold Vm.zaL at Y
 have k:=B.o
 refine ssr (mi O (mv a O (Lw.ln x0 (y.ul k) O (Lw.lt O (nl (cn Y (fun Y=>?_) fun Y=>?_))))))
 ·refine sk (Cw.seq (Cw.block (sr (Ni O (Cw.block ?_)))))
  obtain⟨H,I,Y⟩:=za1 Y
  refine Cw.loop 11 26 [2,4] (fun m l w=> ∃ e f h,CW.w h=w/\Le [] d h/\l=[vB e,vI f]/\Vm.zbi x0 b H m e f=some r) _ ⟨i,0,d,O,Le.refl _ _,O,Y⟩ ?_
  rintro(_ |N) _ _ σ ⟨e,f,h,rfl,z,rfl,Y⟩
  ·cases Y
  unfold Vm.zbi at Y
  have C:=k.n z
  refine ssr (mi O (mv a O (mi O ?_)))
  obtain⟨P,D,Y⟩:=ob Y
  have x:=y.ul C
  refine Lw.r O (R.ix (α:=Str) x D O O O) (Lw.r O (R.ld O O (x.at_ D).str) (Lw.r O (R.lenS O) (Lw.lt O (nl (cn Y (fun Y=>?_) fun Y=>?_)))))
  ·refine sk (Cw.seq (Cw.block (sr (mv a O (mi O ?_)))))
   obtain⟨Q,E,Y⟩:=ob Y
   refine Lw.r O (R.ix (α:=Str) x E O O O) (Lw.r O (R.ld O O (x.at_ E).str) (mi O ?_))
   obtain⟨S,J,Y⟩:=ob Y
   refine Lw.r O (R.chm J O O) (Lw.eq O (nl (cn Y (fun Y=>?_) fun Y=>?_)))
   ·exact sr (Nb O (.ret (rt Y C)))
   ·exact sk (rg (mi O (Lw.add O (Ni O ((agm) ⟨e,w64 (f+1),h,O,z,O,Y⟩)))))
  ·refine Cw.exit ?_
   rw[I]at Y
   exact rg (mi O (Lw.add O (Ni O ((agm) ⟨e,w64 (b+1),vI f,h,O,(B.j z).w,O,Y⟩))))
 ·refine Cw.exit ?_
  rw[G]at Y
  refine sr (mv a O (ca Y (fun _=>p44 (y.ul k)) fun T U Y K=>?_))
  have L:=k.n K
  exact Nb O (.ret (rt Y L))
theorem p58 {x0 a r}(b:Rd W K [a] x0)(Y:Vm.zds x0=some r):Q1 58 [a] W [] fun W' v=>v=vB r:=
 (c58 (b.view _) Y).ad (fk 0) fun _ _ e=>e
end Go.Sx
