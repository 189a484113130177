/- Walks: each function answers as its model, printed by a program of ours. Conditions: the arguments read as they are given. -/
import Derived.Test.YtifbmanldeabeaaGreatDoorGTs
import Derived.Test.YtifbmanldeabeaaGreatDoorGM0
namespace Go.Sx
open Go Go.Proofs Go.Vm Rp
set_option linter.unusedVariables false
set_option linter.unusedSimpArgs false
variable {W W0:CW}{K:List Nat}
theorem c80 {x0 x1 x2 r}(Y:Vm.zeY x0 x1 x2=some r):Q0 80 [vI x0,vI x1,vI x2] W0 fun Wf v=>v=vB r:=by
 unfold Vm.zeY at Y
 refine zao.of Tryz.func80 O O O O (sr (Nb O ?_))
 obtain⟨e,f,Y⟩:=zaY Y
 refine Cw.join 7 14 [6] (fun l w=> ∃ b d,CW.w d=w/\Le [] W0 d/\l=[vB b]/\e b=some r) ?_ ?_
 ·rintro _ _ σ ⟨b,d,rfl,h,rfl,Y⟩
  rw[f]at Y
  have i:=h.o
  exact .ret (rt Y i)
 ·refine rg (mi O (mi O (Lw.ge O (mb O (bs Y (fun a Y=>?_) fun a Y=>?_)))))
  ·exact wak 3 a (mi O (mi O (Lw.le O (Pb a O (Nb O ((ag) ⟨decide (x0<=(x2:Int)),W0,O,Le.refl _ _,O,Y⟩))))))
  ·exact psk 3 a O (Pb a O (Nb O ((ag) ⟨false,W0,O,Le.refl _ _,O,Y⟩)))
theorem p80 {x0 x1 x2 r}(Y:Vm.zeY x0 x1 x2=some r):Q1 80 [vI x0,vI x1,vI x2] W [] fun W' v=>v=vB r:=
 (c80 (W0:=W.view [] []) Y).ad (fk 0) fun _ _ e=>e
theorem c81 {x0 r}(Y:Vm.zbW x0=some r):Q0 81 [vS x0] W0 fun Wf v=>v=vB r:=by
 unfold Vm.zbW at Y
 refine zao.of Tryz.func81 O O O O (sr (Nb O (ssr (Ni O (Cw.block ?_)))))
 obtain⟨B,C,Y⟩:=zaY Y
 refine Cw.loop 4 31 [2,3] (fun m l w=> ∃ h i a,CW.w a=w/\Le [] W0 a/\l=[vB h,vI i]/\Vm.zcB x0 B m h i=some r) _ ⟨false,0,W0,O,Le.refl _ _,O,Y⟩ ?_
 rintro(_ |S) _ _ σ ⟨h,i,a,rfl,y,rfl,Y⟩
 ·cases Y
 unfold Vm.zcB at Y
 have z:=y.o
 refine ssr (mi O (ms O (Lw.r O (R.lenS O) (Lw.lt O (nl (cn Y (fun Y=>?_) fun Y=>?_))))))
 ·refine sk (Cw.seq (Cw.block ?_))
  obtain⟨D,E,Y⟩:=zaY Y
  refine Cw.join 10 31 [31] (fun l w=> ∃ x k,CW.w k=w/\Le [] a k/\l=[vB x]/\D x=some r) ?_ ?_
  ·rintro _ _ σ ⟨x,k,rfl,A,rfl,Y⟩
   rw[E]at Y
   have F:=z.n A
   refine cn Y (fun Y=>?_) fun Y=>?_
   ·exact sr (Nb O (.ret (rt Y F)))
   ·exact sk (rg (mi O (Lw.add O (Ni O ((agm) ⟨h,w64 (i+1),k,O,(y.j A).w,O,Y⟩)))))
  ·refine rg (ms O (mi O ?_))
   obtain⟨T,G,Y⟩:=ob Y
   refine Lw.r O (R.chm G O O) (Lw.lt O (mb O (bs Y (fun d Y=>?_) fun d Y=>?_)))
   ·refine psk 4 d O (Pb d O (mb O (wak 5 O (ms O (mi O ?_)))))
    obtain⟨U,H,Y⟩:=ob Y
    refine Lw.r O (R.chm H O O) (Lw.lt O (mb O (bs Y (fun e Y=>?_) fun e Y=>?_)))
    ·exact psk 4 e O (wak 1 O (Pb e O (Pb O O (nl ((ag) ⟨true,a,O,Le.refl _ _,O,Y⟩)))))
    ·refine wak 4 e (ms O (mi O ?_))
     obtain⟨I,J,Y⟩:=ob Y
     exact Lw.r O (R.chm J O O) (Lw.gt O (wak 1 O (Pb e O (Pb O O (nl ((ag) ⟨decide ((57:Int)< ((UInt8.toNat I:Int):Int)),a,O,Le.refl _ _,O,Y⟩))))))
   ·refine wak 4 d (ms O (mi O ?_))
    obtain⟨V,K,Y⟩:=ob Y
    refine Lw.r O (R.chm K O O) (Lw.gt O (Pb d O (mb O (bs Y (fun b Y=>?_) fun b Y=>?_))))
    ·refine wak 5 b (ms O (mi O ?_))
     obtain⟨W,L,Y⟩:=ob Y
     refine Lw.r O (R.chm L O O) (Lw.lt O (mb O (bs Y (fun f Y=>?_) fun f Y=>?_)))
     ·exact psk 4 f O (wak 1 b (Pb f O (Pb b O (nl ((ag) ⟨true,a,O,Le.refl _ _,O,Y⟩)))))
     ·refine wak 4 f (ms O (mi O ?_))
      obtain⟨M,N,Y⟩:=ob Y
      exact Lw.r O (R.chm N O O) (Lw.gt O (wak 1 b (Pb f O (Pb b O (nl ((ag) ⟨decide ((57:Int)< ((UInt8.toNat M:Int):Int)),a,O,Le.refl _ _,O,Y⟩))))))
    ·exact psk 5 b O (puk 4 O (psk 1 b O (Pb b O (nl ((ag) ⟨false,a,O,Le.refl _ _,O,Y⟩)))))
 ·refine Cw.exit ?_
  rw[C]at Y
  refine sr (ms O (Lw.r O (R.lenS O) (ca Y (fun _=>p80) fun X Z Y P=>?_)))
  have Q:=z.n P
  exact Nb O (.ret (rt Y Q))
theorem p81 {x0 r}(Y:Vm.zbW x0=some r):Q1 81 [vS x0] W [] fun W' v=>v=vB r:=
 (c81 (W0:=W.view [] []) Y).ad (fk 0) fun _ _ e=>e
theorem c164 {x0 x1 x2 r}(Y:Vm.zh9 x0 x1 x2=some r):Q0 164 [vS x0, .int .u8 (UInt8.toNat x1:Int),vI x2] W0 fun Wf v=> ∃ D,v=D/\OwS Wf LL [] [D] r:=by
 unfold Vm.zh9 at Y
 refine zao.of Tryz.func164 O O O O (sr (Nv (.slice none 0 0) O (sr (Lw.t O (T.lit0 (α:=Str) 2 []) ?_))))
 rintro E _ ⟨F,rfl,P,Q⟩
 have S:=P.o
 refine Nv E O (sr (Ni O (ssr (Ni O (Cw.block ?_)))))
 obtain⟨U,V,Y⟩:=zaY Y
 refine Cw.loop 11 36 [7,8,9] (fun m l w=> ∃ d k e a b,CW.w b=w/\Le [2] F b/\l=[a,vI k,vI e]/\Ow b 2 [] [a] d/\Vm.ze4 x0 x1 x2 U m d k e=some r) _ ⟨([]:List Str),0,0,E,F,O,Le.refl _ _,O,Q,Y⟩ ?_
 rintro(_ |a0) _ _ σ ⟨d,k,e,a,b,rfl,G,rfl,H,Y⟩
 ·cases Y
 unfold Vm.ze4 at Y
 have W:=S.t G
 refine Cw.seq ?_
 obtain⟨X,Z,Y⟩:=zaY Y
 refine Cw.join 11 20 [20] (fun l w=> ∃ A f,CW.w f=w/\Le [] b f/\l=[vB A]/\X A=some r) ?_ ?_
 ·rintro _ _ σ ⟨A,f,rfl,B,rfl,Y⟩
  rw[Z]at Y
  have aa:=W.n B
  have C:=H.up B
  refine cn Y (fun Y=>?_) fun Y=>?_
  ·refine sk ?_
   obtain⟨ac,ae,Y⟩:=zaY Y
   refine Cw.join 23 36 [7,8] (fun l w=> ∃ x y z h,CW.w h=w/\Le [2] f h/\l=[z,vI y]/\Ow h 2 [] [z] x/\ac x y=some r) ?_ ?_
   ·rintro _ _ σ ⟨x,y,z,h,rfl,af,rfl,ah,Y⟩
    rw[ae]at Y
    exact rg (mi O (Lw.add O (Ni O ((agm) ⟨x,y,w64 (e+1),z,h,O,((G.j B).j af).w,O,ah,Y⟩))))
   ·refine Cw.block (sr (ms O (mi O ?_)))
    obtain⟨a1,ai,Y⟩:=ob Y
    refine Lw.r O (R.chm ai O O) (mv (.int .u8 (UInt8.toNat x1:Int)) O (Lw.eq O (nl (cn Y (fun Y=>?_) fun Y=>?_))))
    ·refine sr (mv a O (ms O (mi O (mi O ?_))))
     obtain⟨I,aj,Y⟩:=ob Y
     refine Lw.r O (R.ss aj O (.inr O) (.inr O)) (Lw.t O (T.bs 3 [vS I] (cs:=[vS I]) O O (bsv O)) ?_)
     rintro _ _ ⟨a3,a4,rfl,rfl,J,ak⟩
     obtain⟨am,an,Y⟩:=ob Y
     refine Lw.t O (T.app1S (α:=Str) (K':=[]) (C.up J) ak (rdS _) O O an) ?_
     rintro K _ ⟨ao,rfl,ap,aq⟩
     exact Nv K O (rg (mi O (Lw.add O (Ni O ((ag) ⟨am,w64 (e+1),K,ao,O,(J.j ap).w,O,aq,Y⟩)))))
    ·exact sk ((ag) ⟨d,k,a,f,O,Le.refl _ _,O,C,Y⟩)
  ·refine Cw.exit ?_
   rw[V]at Y
   refine sr (mv a O (ms O (mi O ?_)))
   obtain⟨L,ar,Y⟩:=ob Y
   refine Lw.r O (R.ss ar O (.inr O) (.inl ⟨O,O⟩)) (Lw.t O (T.bs 4 [vS L] (cs:=[vS L]) O O (bsv O)) ?_)
   rintro _ _ ⟨a5,a6,rfl,rfl,M,au⟩
   have av:=aa.n M
   obtain⟨a7,aw,Y⟩:=ob Y
   refine Lw.t O (T.app1S (α:=Str) (K':=[]) (C.up M) au (rdS _) O O aw) ?_
   rintro N _ ⟨a8,rfl,ax,ay⟩
   have az:=av.t ax
   refine Nv N O ?_
   cases Y
   exact Cw.ret (zik O (Res.mk az ⟨N,O,ay.s.sub O O⟩))
 ·refine rg (mi O (ms O (Lw.r O (R.lenS O) (Lw.lt O (mb O (bs Y (fun i Y=>?_) fun i Y=>?_))))))
  ·exact wak 4 i (mv a O (Lw.ln d H.rd O (mi O (Lw.lt O (Pb i O (nl ((ag) ⟨decide (d.length< (x2:Int)),b,O,Le.refl _ _,O,Y⟩)))))))
  ·exact psk 4 i O (Pb i O (nl ((ag) ⟨false,b,O,Le.refl _ _,O,Y⟩)))
theorem p164 {x0 x1 x2 k0 r}(Y:Vm.zh9 x0 x1 x2=some r):Q1 164 [vS x0, .int .u8 (UInt8.toNat x1:Int),vI x2] W [] fun W' v=> ∃ a,v=a/\Ow W' k0 [] [a] r:=
 (c164 (W0:=W.view [] []) Y).ad (fk k0) fun _ _ ⟨a,e,b⟩=>⟨a,e,b.back (zgv _)⟩
theorem c130 {x0 r}(Y:Vm.zcT x0=some r):Q0 130 [vS x0] W0 fun Wf v=>v=vB r:=by
 unfold Vm.zcT at Y
 refine zao.of Tryz.func130 O O O O (sr (Nb O (sr (ms O (cr Y (fun _=>p164 (k0:=2)) ?_)))))
 rintro f a k Y A ⟨_,rfl,B⟩
 have C:=A.o
 refine Nv a O (ssr (Ni O (Cw.block ?_)))
 obtain⟨D,E,Y⟩:=zaY Y
 refine Cw.loop 7 18 [2,4] (fun m l w=> ∃ b d h,CW.w h=w/\Le [] k h/\l=[vB b,vI d]/\Vm.zcC f D m b d=some r) _ ⟨false,0,k,O,Le.refl _ _,O,Y⟩ ?_
 rintro(_ |H) _ _ σ ⟨b,d,h,rfl,i,rfl,Y⟩
 ·cases Y
 unfold Vm.zcC at Y
 have x:=C.n i
 have e:=B.up i
 refine ssr (mi O (mv a O (Lw.ln f e.rd O (Lw.lt O (nl (cn Y (fun Y=>?_) fun Y=>?_))))))
 ·refine sk (Cw.seq (Cw.block (sr (mv a O (mi O ?_)))))
  obtain⟨I,y,Y⟩:=ob Y
  refine Lw.r O (R.ix (α:=Str) e.rd y O O O) (Lw.r O (R.ld O O (e.rd.at_ y).str) (ca Y (fun _=>p81) fun J F Y z=>?_))
  have G:=x.n z
  refine Lw.r O (R.not O) (nl (cn Y (fun Y=>?_) fun Y=>?_))
  ·exact sr (Nb O (.ret (rt Y G)))
  ·exact sk (rg (mi O (Lw.add O (Ni O ((agm) ⟨b,w64 (d+1),F,O,(i.j z).w,O,Y⟩)))))
 ·refine Cw.exit ?_
  rw[E]at Y
  exact sr (mv a O (Lw.ln f e.rd O (Lw.le O (Nb O (.ret (rt Y x))))))
theorem p130 {x0 r}(Y:Vm.zcT x0=some r):Q1 130 [vS x0] W [] fun W' v=>v=vB r:=
 (c130 (W0:=W.view [] []) Y).ad (fk 0) fun _ _ e=>e
theorem c168 {x0 r}(Y:Vm.zgM x0=some r):Q0 168 [vS x0] W0 fun Wf v=>v=vB r:=by
 unfold Vm.zgM at Y
 refine zao.of Tryz.func168 O O O O (sr (Nb O (ssr (Ni O (Cw.block ?_)))))
 obtain⟨y,z,Y⟩:=zaY Y
 refine Cw.loop 4 19 [2,3] (fun m l w=> ∃ d e a,CW.w a=w/\Le [] W0 a/\l=[vB d,vI e]/\Vm.zcD x0 y m d e=some r) _ ⟨false,0,W0,O,Le.refl _ _,O,Y⟩ ?_
 rintro(_ |G) _ _ σ ⟨d,e,a,rfl,i,rfl,Y⟩
 ·cases Y
 unfold Vm.zcD at Y
 have k:=i.o
 refine ssr (mi O (ms O (Lw.r O (R.lenS O) (Lw.lt O (nl (cn Y (fun Y=>?_) fun Y=>?_))))))
 ·refine sk (Cw.seq (Cw.block ?_))
  obtain⟨A,B,Y⟩:=zaY Y
  refine Cw.join 10 19 [19] (fun l w=> ∃ h f,CW.w f=w/\Le [] a f/\l=[vB h]/\A h=some r) ?_ ?_
  ·rintro _ _ σ ⟨h,f,rfl,x,rfl,Y⟩
   rw[B]at Y
   have C:=k.n x
   refine cn Y (fun Y=>?_) fun Y=>?_
   ·exact sr (Nb O (.ret (rt Y C)))
   ·exact sk (rg (mi O (Lw.add O (Ni O ((agm) ⟨d,w64 (e+1),f,O,(i.j x).w,O,Y⟩)))))
  ·refine rg (ms O (mi O ?_))
   obtain⟨H,D,Y⟩:=ob Y
   refine Lw.r O (R.chm D O O) (Lw.lt O (mb O (bs Y (fun b Y=>?_) fun b Y=>?_)))
   ·exact psk 4 b O (Pb b O (nl ((ag) ⟨true,a,O,Le.refl _ _,O,Y⟩)))
   ·refine wak 4 b (ms O (mi O ?_))
    obtain⟨E,F,Y⟩:=ob Y
    exact Lw.r O (R.chm F O O) (Lw.gt O (Pb b O (nl ((ag) ⟨decide ((126:Int)< ((UInt8.toNat E:Int):Int)),a,O,Le.refl _ _,O,Y⟩))))
 ·refine Cw.exit ?_
  rw[z]at Y
  exact sr (ms O (Lw.r O (R.lenS O) (Lw.le O (Nb O (.ret (rt Y k))))))
theorem p168 {x0 r}(Y:Vm.zgM x0=some r):Q1 168 [vS x0] W [] fun W' v=>v=vB r:=
 (c168 (W0:=W.view [] []) Y).ad (fk 0) fun _ _ e=>e
theorem c136 {x0 a r}(y:Rd W0 [0] [a] x0)(Y:Vm.zc2 x0=some r):Q0 136 [a] W0 fun Wf v=>v=vB r:=by
 unfold Vm.zc2 at Y
 refine zao.of Tryz.func136 O O O O (sr (Nb O (ssr (Ni O (Cw.block ?_)))))
 obtain⟨z,A,Y⟩:=zaY Y
 refine Cw.loop 4 15 [2,3] (fun m l w=> ∃ b d f,CW.w f=w/\Le [] W0 f/\l=[vB b,vI d]/\Vm.zd0 x0 z m b d=some r) _ ⟨false,0,W0,O,Le.refl _ _,O,Y⟩ ?_
 rintro(_ |D) _ _ σ ⟨b,d,f,rfl,i,rfl,Y⟩
 ·cases Y
 unfold Vm.zd0 at Y
 have h:=i.o
 refine ssr ?_
 have e:=y.ul h
 refine mi O (mv a O (Lw.ln x0 e O (Lw.lt O (nl (cn Y (fun Y=>?_) fun Y=>?_)))))
 ·refine sk (Cw.seq (Cw.block (sr (mv a O (mi O ?_)))))
  obtain⟨E,k,Y⟩:=ob Y
  refine Lw.r O (R.ix (α:=Str) e k O O O) (Lw.r O (R.ld O O (e.at_ k).str) (ca Y (fun _=>p168) fun F B Y x=>?_))
  have C:=h.n x
  refine Lw.r O (R.not O) (nl (cn Y (fun Y=>?_) fun Y=>?_))
  ·exact sr (Nb O (.ret (rt Y C)))
  ·exact sk (rg (mi O (Lw.add O (Ni O ((agm) ⟨b,w64 (d+1),B,O,(i.j x).w,O,Y⟩)))))
 ·refine Cw.exit ?_
  rw[A]at Y
  exact sr (mv a O (Lw.ln x0 e O (Lw.le O (Nb O (.ret (rt Y h))))))
theorem p136 {x0 a r}(b:Rd W K [a] x0)(Y:Vm.zc2 x0=some r):Q1 136 [a] W [] fun W' v=>v=vB r:=
 (c136 (b.view _) Y).ad (fk 0) fun _ _ e=>e
theorem c137 {x0 x1 r}(Y:Vm.zhQ x0 x1=some r):Q0 137 [vS x0,vS x1] W0 fun Wf v=>v=vB r:=by
 unfold Vm.zhQ at Y
 refine zao.of Tryz.func137 O O O O (sr (Nb O ?_))
 obtain⟨f,h,Y⟩:=zaY Y
 refine Cw.join 5 24 [4] (fun l w=> ∃ d e,CW.w e=w/\Le [] W0 e/\l=[vB d]/\f d=some r) ?_ ?_
 ·rintro _ _ σ ⟨d,e,rfl,i,rfl,Y⟩
  rw[h]at Y
  have k:=i.o
  exact .ret (rt Y k)
 ·refine rg (ms O (Lw.r O (R.lenS O) (ms O (Lw.r O (R.lenS O) (Lw.gt O (mb O (bs Y (fun a Y=>?_) fun a Y=>?_)))))))
  ·refine wak 6 a (ms O (ms O (Lw.r O (R.lenS O) ?_)))
   obtain⟨A,x,Y⟩:=ob Y
   refine Lw.r O (R.ss x O (.inl ⟨O,O⟩) (.inr O)) (ms O (Lw.seq O (Pb a O (mb O (bs Y (fun b Y=>?_) fun b Y=>?_)))))
   ·refine wak 5 b (ms O (ms O (Lw.r O (R.lenS O) ?_)))
    obtain⟨y,z,Y⟩:=ob Y
    exact Lw.r O (R.chm z O O) (Lw.eq O (Pb b O (Nb O ((ag) ⟨(((UInt8.toNat y:Int):Int)==(47:Int)),W0,O,Le.refl _ _,O,Y⟩))))
   ·exact psk 5 b O (Pb b O (Nb O ((ag) ⟨false,W0,O,Le.refl _ _,O,Y⟩)))
  ·exact psk 6 a O (Pb a O (mb O (psk 5 O O (Pb O O (Nb O ((ag) ⟨false,W0,O,Le.refl _ _,O,Y⟩))))))
theorem p137 {x0 x1 r}(Y:Vm.zhQ x0 x1=some r):Q1 137 [vS x0,vS x1] W [] fun W' v=>v=vB r:=
 (c137 (W0:=W.view [] []) Y).ad (fk 0) fun _ _ e=>e
theorem c82 {x0 d r}(z:Rd W0 [0] [d] x0)(Y:Vm.zec x0=some r):Q0 82 [d] W0 fun Wf v=>v=vB r:=by
 unfold Vm.zec at Y
 refine zao.of Tryz.func82 O O O O (sr (Nb O (ssr (Ni O (Cw.block ?_)))))
 obtain⟨K5,ai,Y⟩:=zaY Y
 refine Cw.loop 5 61 [2,3,4] (fun m l w=> ∃ F h V G,CW.w G=w/\Le [] W0 G/\l=[vB F,vI h,V]/\Vm.zd1 x0 K5 m F h=some r) _ ⟨false,0,undef,W0,O,Le.refl _ _,O,Y⟩ ?_
 rintro(_ |m6) _ _ σ ⟨F,h,V,G,rfl,W,rfl,Y⟩
 ·cases Y
 unfold Vm.zd1 at Y
 have A:=W.o
 refine ssr (mi O (mv d O (Lw.ln x0 (z.ul A) O (Lw.lt O (nl (cn Y (fun Y=>?_) fun Y=>?_))))))
 ·refine sk (Cw.seq (Cw.block (Cw.seq ?_)))
  obtain⟨aj,ak,Y⟩:=zaY Y
  refine Cw.join 11 44 [44] (fun l w=> ∃ J B,CW.w B=w/\Le [] G B/\l=[vB J]/\aj J=some r) ?_ ?_
  ·rintro _ _ σ ⟨J,B,rfl,X,rfl,Y⟩
   rw[ak]at Y
   have Z:=A.n X
   refine cn Y (fun Y=>?_) fun Y=>?_
   ·exact sr (Nb O (.ret (rt Y Z)))
   ·refine sk (sr (Ni O (Cw.block ?_)))
    obtain⟨am,an,Y⟩:=zaY Y
    refine Cw.loop 45 61 [2,4] (fun m l w=> ∃ C D H,CW.w H=w/\Le [] B H/\l=[vB C,vI D]/\Vm.zcw x0 h am m C D=some r) _ ⟨F,0,B,O,Le.refl _ _,O,Y⟩ ?_
    rintro(_ |a1) _ _ σ ⟨C,D,H,rfl,K,rfl,Y⟩
    ·cases Y
    unfold Vm.zcw at Y
    have aa:=Z.n K
    refine ssr (mi O (mv d O (Lw.ln x0 (z.ul aa) O (Lw.lt O (nl (cn Y (fun Y=>?_) fun Y=>?_))))))
    ·refine sk (Cw.seq (Cw.block (Cw.seq (Cw.draw [] [(0,0),(1,0),(2,0),(3,0),(4,1),(5,0),(6,0),(7,0),(8,0),(9,1),(10,3)] mixed (by kernel_rfl) fun a2 ac=>?_))))
     have ae:=aa.n ac
     refine Dv d O (Di O ?_)
     obtain⟨a3,L,Y⟩:=ob Y
     have i:=z.ul ae
     refine Mw.p O O (fun _=>R.ix (α:=File) i L O O O) (Df O (Mw.q O O (fun _ c=>R.ld O O (zaq (File.at0 (i.at_ L)).1 O (File.at0 (i.at_ L)).str c)) (Dv d O (Di O ?_))))
     obtain⟨a4,M,Y⟩:=ob Y
     refine Mw.p O O (fun _=>R.ix (α:=File) i M O O O) (Df O (Mw.q O O (fun _ c=>R.ld O O (zaq (File.at0 (i.at_ M)).1 O (File.at0 (i.at_ M)).str c)) ?_))
     obtain⟨a5,ao,Y⟩:=ob Y
     refine Mw.l O O (T.call O (p137 ao)) ?_
     rintro _ _ ⟨ap,rfl,af,rfl⟩
     have aq:=ae.n af
     refine Mw.nil (cn Y (fun Y=>?_) fun Y=>?_)
     ·exact sr (Nb O (.ret (rt Y aq)))
     ·exact sk (rg (mi O (Lw.add O (Ni O ((agm) ⟨C,w64 (D+1),ap,O,((K.j ac).j af).w,O,Y⟩)))))
    ·refine Cw.exit ?_
     rw[an]at Y
     exact rg (mi O (Lw.add O (Ni O ((agm) ⟨C,w64 (h+1),vI D,H,O,((W.j X).j K).w,O,Y⟩))))
  ·refine Cw.draw [] [(0,0),(1,0),(2,0),(3,0),(4,1),(5,2),(6,0),(7,0),(8,0),(9,0),(10,0),(11,0),(12,1),(13,2),(14,0),(15,0),(16,0),(17,0),(18,0),(19,0),(20,0),(21,0),(22,0),(23,0),(24,1),(25,0),(26,0),(27,0),(28,0),(29,0),(30,1),(31,0),(32,0),(33,0)] mixed (by kernel_rfl) fun a6 E=>?_
   have ar:=A.n E
   refine Dv d O (Di O ?_)
   obtain⟨a8,N,Y⟩:=ob Y
   have b:=z.ul ar
   refine Mw.p O O (fun _=>R.ix (α:=File) b N O O O) (Df O (Mw.q O O (fun _ c=>R.ld O O (zaq (File.at0 (b.at_ N)).1 O (File.at0 (b.at_ N)).str c)) ?_))
   obtain⟨a9,au,Y⟩:=ob Y
   refine Mw.t O O (T.call O (p130 au)) ?_
   rintro _ _ ⟨av,rfl,k,rfl⟩
   have aw:=k.o
   refine m0 k fun ax=>Mw.p O O (fun _=>R.not O) (Db O (bs Y (fun e Y=>?_) fun e Y=>?_))
   ·exact dps 7 e O (Mw.p O O (fun _=>R.pk e O (v:=vB true) O) (Db O (dps 3 O O (dpu 12 O (dps 1 O O (Mw.p O O (fun _=>R.pk O O (v:=vB true) O) (Mw.nil ((ag) ⟨true,av,O,(E.j k).w,O,Y⟩))))))))
   ·refine Wp e O (fun _=>R.mv (v:=d) O) (Wp e O (fun _=>R.mv (v:=vI h) O) ?_)
    obtain⟨ba,P,Y⟩:=ob Y
    refine Wp e O (fun _=>R.ix (α:=File) b P O O O) (Wp e O (fun _=>R.fa O) ?_)
    obtain⟨bb,c48,r49⟩:=(File.at1 (b.at_ P)).cell O
    refine Wq e O (fun _ c=>R.ld O O (zaq (File.at1 (b.at_ P)).1 O c48 c)) ?_
    obtain⟨ay,az,Y⟩:=ob Y
    refine Wt e O (T.call O (p136 (r49.ul aw) az)) ?_
    rintro _ _ ⟨Q,rfl,I,rfl⟩
    refine mc ax I fun bc=>Wp e O (fun _=>R.not O) (Mw.p O O (fun _=>R.pk e O (v:=vB (!ay)) O) (Db O (bs Y (fun f Y=>?_) fun f Y=>?_)))
    ·exact dps 3 f O (dpu 12 O (dps 1 f O (Mw.p O O (fun _=>R.pk f O (v:=vB true) O) (Mw.nil ((ag) ⟨true,Q,O,((E.j k).j I).w,O,Y⟩)))))
    ·refine Wp f O (fun _=>R.mv (v:=vI h) O) (Wp f O (fun _=>R.gt O O) (Wp f O (fun _=>R.mv (v:=vB (decide (0< (h:Int)))) O) (bs Y (fun a Y=>?_) fun a Y=>?_)))
     ·refine Wp a O (fun _=>R.mv (v:=d) O) (Wp a O (fun _=>R.mv (v:=vI h) O) ?_)
      obtain⟨x,S,Y⟩:=ob Y
      refine Wp a O (fun _=>R.ix (α:=File) b S O O O) (Wp a O (fun _=>R.fa O) (Wq a O (fun _ c=>R.ld O O (zaq (File.at0 (b.at_ S)).1 O (File.at0 (b.at_ S)).str c)) (Wp a O (fun _=>R.mv (v:=d) O) (Wp a O (fun _=>R.mv (v:=vI h) O) (Wp a O (fun _=>R.sub O O) ?_)))))
      obtain⟨y,U,Y⟩:=ob Y
      exact Wp a O (fun _=>R.ix (α:=File) b U O O O) (Wp a O (fun _=>R.fa O) (Wq a O (fun _ c=>R.ld O O (zaq (File.at0 (b.at_ U)).1 O (File.at0 (b.at_ U)).str c)) (Wp a O (fun _=>R.sle O O) (Wp f O (fun _=>R.pk a O (v:=vB (Op.bytesLess x.Path y.Path||x.Path==y.Path)) O) (Mw.p O O (fun _=>R.pk f O (v:=vB (Op.bytesLess x.Path y.Path||x.Path==y.Path)) O) (Mw.nil ((ag) ⟨(Op.bytesLess x.Path y.Path||x.Path==y.Path),Q,O,((E.j k).j I).w,O,Y⟩)))))))
     ·exact dps 12 a O (Wp f O (fun _=>R.pk a O (v:=vB false) O) (Mw.p O O (fun _=>R.pk f O (v:=vB false) O) (Mw.nil ((ag) ⟨false,Q,O,((E.j k).j I).w,O,Y⟩))))
 ·refine Cw.exit ?_
  rw[ai]at Y
  exact sr (mv d O (Lw.ln x0 (z.ul A) O (Lw.le O (Nb O (.ret (rt Y A))))))
theorem p82 {x0 a r}(b:Rd W K [a] x0)(Y:Vm.zec x0=some r):Q1 82 [a] W [] fun W' v=>v=vB r:=
 (c82 (b.view _) Y).ad (fk 0) fun _ _ e=>e
theorem c34 {x0 aj F r}(h0:Rd W0 [0] [aj,F] x0)(Y:Vm.zcQ x0=some r):Q0 34 [.agg [aj,F].toArray] W0 fun Wf v=>v=vB r:=by
 unfold Vm.zcQ at Y
 obtain⟨c4,c5,be,ak,am⟩:=Repo.split h0
 simp only[List.cons.injEq,and_true,true_and]at be
 obtain⟨rfl,rfl⟩:=be
 refine zao.of Tryz.func34 O O O O (sr (bo 2 O fun g1 W1 l1 b1=>?_))
 have a2:=l1.o
 refine Nb O (ssr (Ni O (Cw.block ?_)))
 obtain⟨K8,b4,Y⟩:=zaY Y
 refine Cw.loop 7 66 [2,3,4,5] (fun m l w=> ∃ G H j5 j6 I,CW.w I=w/\Le [3] W1 I/\l=[vB G,vI H,j5,j6]/\Vm.zd2 x0 K8 m G H=some r) _ ⟨false,0,undef,undef,W1,O,Le.refl _ _,O,Y⟩ ?_
 rintro(_ |m9) _ _ σ ⟨G,H,j5,j6,I,rfl,l7,rfl,Y⟩
 ·cases Y
 unfold Vm.zd2 at Y
 have W:=a2.t l7
 have ao:=b1.up l7
 refine ssr ?_
 have ap:=ak.ul W
 refine mi O (fl ao O (Lw.ln x0.Commits ap O (Lw.lt O (nl (cn Y (fun Y=>?_) fun Y=>?_)))))
 ·refine sk (Cw.seq (Cw.block (sr (fl ao O (mi O ?_)))))
  obtain⟨aq,bj,Y⟩:=ob Y
  refine Lw.r O (R.ix (α:=Commit) ap bj O O O) ?_
  obtain⟨x16,c17,_,r18⟩:=(ap.at_ bj).cells
  obtain⟨bk,c8,rfl,r20,r22⟩:=Commit.split r18
  refine Lw.r O (R.lda c17 O O) (al 3 [.slice none 0 0,vS ([]:Str), .slice none 0 0] fun b5 c9 bl b6=>?_)
  have J:=bl.o
  refine sta b6 (zaa r20.oc (zaa O (zaa r22.oc zaG))) fun bm bn b7=>?_
  have K:=bn.s
  refine nl (ssr (Ni O (Cw.block ?_)))
  obtain⟨b8,b9,Y⟩:=zaY Y
  refine Cw.loop 19 50 [2,5] (fun m l w=> ∃ L x z,CW.w z=w/\Le [] bm z/\l=[vB L,vI x]/\Vm.zcx H aq b8 m L x=some r) _ ⟨G,0,bm,O,Le.refl _ _,O,Y⟩ ?_
  rintro(_ |da) _ _ σ ⟨L,x,z,rfl,X,rfl,Y⟩
  ·cases Y
  unfold Vm.zcx at Y
  have M:=X.o
  have N:=b7.up X
  refine ssr ?_
  have bp:=r20.ul ((J.trans K).trans M)
  refine mi O (fl N O (Lw.ln aq.Parents bp O (Lw.lt O (nl (cn Y (fun Y=>?_) fun Y=>?_)))))
  ·refine sk (Cw.seq (Cw.block ?_))
   obtain⟨cb,cc,Y⟩:=zaY Y
   refine Cw.join 26 50 [50] (fun l w=> ∃ ar Z,CW.w Z=w/\Le [] z Z/\l=[vB ar]/\cb ar=some r) ?_ ?_
   ·rintro _ _ σ ⟨ar,Z,rfl,bq,rfl,Y⟩
    rw[cc]at Y
    have cd:=(((W.trans J).trans K).trans M).n bq
    refine cn Y (fun Y=>?_) fun Y=>?_
    ·exact sr (Nb O (.ret (rt Y cd)))
    ·exact sk (rg (mi O (Lw.add O (Ni O ((agm) ⟨L,w64 (x+1),Z,O,(X.j bq).w,O,Y⟩)))))
   ·refine Cw.draw [] [(0,0),(1,1),(2,0),(3,0),(4,1),(5,0),(6,0),(7,2),(8,0),(9,0),(10,0),(11,0),(12,0),(13,0),(14,1),(15,0),(16,0),(17,1),(18,0),(19,1),(20,0),(21,1),(22,0),(23,0),(24,0)] mixed (by kernel_rfl) fun db P=>?_
    have ce:=((J.trans K).trans M).n P
    have au:=N.up P
    refine Dfl au O O O (Di O ?_)
    obtain⟨dc,av,Y⟩:=ob Y
    have i:=r20.ul ce
    refine Mw.p O O (fun _=>R.ix (α:=Int) i av O O O) (Mw.q O O (fun _ c=>R.ld O O (zaq (i.at_ av).1 O (i.at_ av).int c)) (Di O (Mw.p O O (fun _=>R.sub O O) (Dc Y (Le.refl _ _) (fun _=>p80) O ?_))))
    rintro dd _ aw Y ax rfl de
    refine Mw.p O O (fun _=>R.not O) (Db O (bs Y (fun f Y=>?_) fun f Y=>?_))
    ·exact dps 3 f O (dpu 10 O (dps 1 f O (Mw.p O O (fun _=>R.pk f O (v:=vB true) O) (Mw.nil ((ag) ⟨true,aw,O,(P.j ax).w,O,Y⟩)))))
    ·refine Wp f O (fun _=>R.mv (v:=vI x) O) (Wp f O (fun _=>R.gt O O) (Wp f O (fun _=>R.mv (v:=vB (decide (0< (x:Int)))) O) (bs Y (fun d Y=>?_) fun d Y=>?_)))
     ·refine Wp d O (fun _=>R.fa O) (Wq d O (fun _ c=>R.ld (v:=bk) O O (au.clc O O c)) (Wp d O (fun _=>R.mv (v:=vI x) O) ?_))
      obtain⟨ay,az,Y⟩:=ob Y
      refine Wp d O (fun _=>R.ix (α:=Int) i az O O O) (Wq d O (fun _ c=>R.ld O O (zaq (i.at_ az).1 O (i.at_ az).int c)) (Wp d O (fun _=>R.fa O) (Wq d O (fun _ c=>R.ld (v:=bk) O O (au.clc O O c)) ?_)))
      obtain⟨a0,a1,Y⟩:=ob Y
      exact Wp d O (fun _=>R.ix (α:=Int) i a1 O O O) (Wq d O (fun _ c=>R.ld O O (zaq (i.at_ a1).1 O (i.at_ a1).int c)) (Wp d O (fun _=>R.eq O O) (Wp f O (fun _=>R.pk d O (v:=vB ((ay:Int)==(a0:Int))) O) (Mw.p O O (fun _=>R.pk f O (v:=vB ((ay:Int)==(a0:Int))) O) (Mw.nil ((ag) ⟨((ay:Int)==(a0:Int)),aw,O,(P.j ax).w,O,Y⟩))))))
     ·exact dps 10 d O (Wp f O (fun _=>R.pk d O (v:=vB false) O) (Mw.p O O (fun _=>R.pk f O (v:=vB false) O) (Mw.nil ((ag) ⟨false,aw,O,(P.j ax).w,O,Y⟩))))
  ·refine Cw.exit ?_
   rw[b9]at Y
   obtain⟨cf,cg,Y⟩:=zaY Y
   refine Cw.join 51 66 [66] (fun l w=> ∃ a3 aa,CW.w aa=w/\Le [] z aa/\l=[vB a3]/\cf a3=some r) ?_ ?_
   ·rintro _ _ σ ⟨a3,aa,rfl,br,rfl,Y⟩
    rw[cg]at Y
    have ch:=(((W.trans J).trans K).trans M).n br
    refine cn Y (fun Y=>?_) fun Y=>?_
    ·exact sr (Nb O (.ret (rt Y ch)))
    ·exact sk (rg (mi O (Lw.add O (Ni O ((agm) ⟨L,w64 (H+1),ptr (bx b5),vI x,aa,O,((((l7.j bl).j bn).j X).j br).w,O,Y⟩)))))
   ·refine rg (fl N O (Lw.ln aq.Parents bp O (Lw.gt O (mb O (bs Y (fun Q Y=>?_) fun Q Y=>?_)))))
    ·exact psk 4 Q O (Pb Q O (mb O (psk 4 O O (Pb O O (nl ((ag) ⟨true,z,O,Le.refl _ _,O,Y⟩))))))
    ·refine wak 4 Q (fl N O (ca Y (fun _=>p81) fun df ci Y ac=>?_))
     have cj:=((J.trans K).trans M).n ac
     refine Lw.r O (R.not O) (Pb Q O (mb O (bs Y (fun S Y=>?_) fun S Y=>?_)))
     ·exact psk 4 S O (Pb S O (nl ((ag) ⟨true,ci,O,ac,O,Y⟩)))
     ·exact wak 4 S (fl (N.up ac) O (ca Y (fun _=>p82 (r22.ul cj)) fun ck cl Y cm=>Lw.r O (R.not O) (Pb S O (nl ((ag) ⟨(!ck),cl,O,(ac.j cm).w,O,Y⟩)))))
 ·refine Cw.exit ?_
  rw[b4]at Y
  refine ssr (Ni O (Cw.block ?_))
  obtain⟨co,cp,Y⟩:=zaY Y
  refine Cw.loop 67 115 [2,6] (fun m l w=> ∃ ae k y,CW.w y=w/\Le [] I y/\l=[vB ae,vI k]/\Vm.zcy x0 co m ae k=some r) _ ⟨G,0,I,O,Le.refl _ _,O,Y⟩ ?_
  rintro(_ |dg) _ _ σ ⟨ae,k,y,rfl,a4,rfl,Y⟩
  ·cases Y
  unfold Vm.zcy at Y
  have A:=W.n a4
  have af:=ao.up a4
  refine ssr (mi O (fl af O (Lw.ln x0.Heads (am.ul A) O (Lw.lt O (nl (cn Y (fun Y=>?_) fun Y=>?_))))))
  ·refine sk (Cw.seq (Cw.block ?_))
   obtain⟨cq,cs,Y⟩:=zaY Y
   refine Cw.join 74 115 [115] (fun l w=> ∃ a5 ah,CW.w ah=w/\Le [] y ah/\l=[vB a5]/\cq a5=some r) ?_ ?_
   ·rintro _ _ σ ⟨a5,ah,rfl,bu,rfl,Y⟩
    rw[cs]at Y
    have ct:=A.n bu
    refine cn Y (fun Y=>?_) fun Y=>?_
    ·exact sr (Nb O (.ret (rt Y ct)))
    ·exact sk (rg (mi O (Lw.add O (Ni O ((agm) ⟨ae,w64 (k+1),ah,O,(a4.j bu).w,O,Y⟩)))))
   ·refine Cw.draw [] [(0,0),(1,1),(2,0),(3,0),(4,0),(5,1),(6,2),(7,0),(8,0),(9,0),(10,1),(11,0),(12,0),(13,0),(14,1),(15,0),(16,1),(17,0),(18,0),(19,2),(20,0),(21,0),(22,0),(23,0),(24,0),(25,0),(26,0),(27,1),(28,0),(29,0),(30,0),(31,1),(32,0),(33,1),(34,0),(35,0),(36,0),(37,0),(38,1),(39,0),(40,0),(41,0)] mixed (by kernel_rfl) fun dh B=>?_
    have bv:=A.n B
    have U:=af.up B
    refine Dfl U O O O (Di O ?_)
    obtain⟨di,a6,Y⟩:=ob Y
    have e:=am.ul bv
    refine Mw.p O O (fun _=>R.ix (α:=Head) e a6 O O O) (Df O (Mw.q O O (fun _ c=>R.ld O O (zaq (Head.at0 (e.at_ a6)).1 O (Head.at0 (e.at_ a6)).str c)) ?_))
    obtain⟨dj,cu,Y⟩:=ob Y
    refine Mw.t O O (T.call O (p81 cu)) ?_
    rintro _ _ ⟨cv,rfl,C,rfl⟩
    have cw:=bv.n C
    refine m0 C fun cx=>Mw.p O O (fun _=>R.not O) (Db O (bs Y (fun b Y=>?_) fun b Y=>?_))
    ·exact dps 12 b O (Mw.p O O (fun _=>R.pk b O (v:=vB true) O) (Db O (dps 3 O O (dpu 14 O (dps 1 O O (Mw.p O O (fun _=>R.pk O O (v:=vB true) O) (Mw.nil ((ag) ⟨true,cv,O,(B.j C).w,O,Y⟩))))))))
    ·refine Wp b O (fun _=>R.fa O) (Wq b O (fun _ c=>R.ld (v:=F) O O (U.clc O O c)) (Wp b O (fun _=>R.mv (v:=vI k) O) ?_))
     obtain⟨dk,a7,Y⟩:=ob Y
     refine Wp b O (fun _=>R.ix (α:=Head) e a7 O O O) (Wp b O (fun _=>R.fa O) (Wq b O (fun _ c=>R.ld O O (zaq (Head.at1 (e.at_ a7)).1 O (Head.at1 (e.at_ a7)).int c)) (Wp b O (fun _=>R.fa O) (Wq b O (fun _ c=>R.ld (v:=aj) O O (U.clc O O c)) (Wp b O (fun _=>zuo (xs:=x0.Commits) (ak.ul cw) O) (Wp b O (fun _=>R.sub O O) ?_))))))
     obtain⟨cy,cz,Y⟩:=ob Y
     refine Wt b O (T.call O (p80 cz)) ?_
     rintro _ _ ⟨a8,rfl,ai,rfl⟩
     refine mc cx ai fun dl=>Wp b O (fun _=>R.not O) (Mw.p O O (fun _=>R.pk b O (v:=vB (!cy)) O) (Db O (bs Y (fun h Y=>?_) fun h Y=>?_)))
     ·exact dps 3 h O (dpu 14 O (dps 1 h O (Mw.p O O (fun _=>R.pk h O (v:=vB true) O) (Mw.nil ((ag) ⟨true,a8,O,((B.j C).j ai).w,O,Y⟩)))))
     ·refine Wp h O (fun _=>R.mv (v:=vI k) O) (Wp h O (fun _=>R.gt O O) (Wp h O (fun _=>R.mv (v:=vB (decide (0< (k:Int)))) O) (bs Y (fun a Y=>?_) fun a Y=>?_)))
      ·refine Wp a O (fun _=>R.fa O) (Wq a O (fun _ c=>R.ld (v:=F) O O (U.clc O O c)) (Wp a O (fun _=>R.mv (v:=vI k) O) ?_))
       obtain⟨D,a9,Y⟩:=ob Y
       refine Wp a O (fun _=>R.ix (α:=Head) e a9 O O O) (Wp a O (fun _=>R.fa O) (Wq a O (fun _ c=>R.ld O O (zaq (Head.at0 (e.at_ a9)).1 O (Head.at0 (e.at_ a9)).str c)) (Wp a O (fun _=>R.fa O) (Wq a O (fun _ c=>R.ld (v:=F) O O (U.clc O O c)) (Wp a O (fun _=>R.mv (v:=vI k) O) (Wp a O (fun _=>R.sub O O) ?_))))))
       obtain⟨E,ba,Y⟩:=ob Y
       exact Wp a O (fun _=>R.ix (α:=Head) e ba O O O) (Wp a O (fun _=>R.fa O) (Wq a O (fun _ c=>R.ld O O (zaq (Head.at0 (e.at_ ba)).1 O (Head.at0 (e.at_ ba)).str c)) (Wp a O (fun _=>R.sle O O) (Wp h O (fun _=>R.pk a O (v:=vB (Op.bytesLess D.Name E.Name||D.Name==E.Name)) O) (Mw.p O O (fun _=>R.pk h O (v:=vB (Op.bytesLess D.Name E.Name||D.Name==E.Name)) O) (Mw.nil ((ag) ⟨(Op.bytesLess D.Name E.Name||D.Name==E.Name),a8,O,((B.j C).j ai).w,O,Y⟩)))))))
      ·exact dps 14 a O (Wp h O (fun _=>R.pk a O (v:=vB false) O) (Mw.p O O (fun _=>R.pk h O (v:=vB false) O) (Mw.nil ((ag) ⟨false,a8,O,((B.j C).j ai).w,O,Y⟩))))
  ·refine Cw.exit ?_
   rw[cp]at Y
   obtain⟨c0,c1,Y⟩:=zaY Y
   refine Cw.join 116 125 [2] (fun l w=> ∃ bb bc,CW.w bc=w/\Le [] y bc/\l=[vB bb]/\c0 bb=some r) ?_ ?_
   ·rintro _ _ σ ⟨bb,bc,rfl,c2,rfl,Y⟩
    rw[c1]at Y
    have c3:=A.n c2
    exact .ret (rt Y c3)
   ·refine rg (fl af O (Lw.ln x0.Commits (ak.ul A) O (Lw.le O (mb O (bs Y (fun V Y=>?_) fun V Y=>?_)))))
    ·exact wak 4 V (fl af O (Lw.ln x0.Heads (am.ul A) O (Lw.le O (Pb V O (Nb O ((ag) ⟨decide (x0.Heads.length<=(5:Int)),y,O,Le.refl _ _,O,Y⟩))))))
    ·exact psk 4 V O (Pb V O (Nb O ((ag) ⟨false,y,O,Le.refl _ _,O,Y⟩)))
theorem p34 {x0 a b r}(d:Rd W K [a,b] x0)(Y:Vm.zcQ x0=some r):Q1 34 [.agg [a,b].toArray] W [] fun W' v=>v=vB r:=
 (c34 (d.view _) Y).ad (fk 0) fun _ _ e=>e
theorem c37 {x0 k x x1 r}(C:Rd W0 [0] [k,x] x0)(Y:Vm.zc3 x0 x1=some r):Q0 37 [.agg [k,x].toArray,vS x1] W0 fun Wf v=>v=vI r:=by
 unfold Vm.zc3 at Y
 obtain⟨J,K,y,L,D⟩:=Repo.split C
 simp only[List.cons.injEq,and_true,true_and]at y
 obtain⟨rfl,rfl⟩:=y
 refine zao.of Tryz.func37 O O O O (sr (bo 2 O fun M z E F=>?_))
 have G:=E.o
 refine Ni O (ssr (Ni O (Cw.block ?_)))
 obtain⟨H,I,Y⟩:=zaY Y
 refine Cw.loop 6 26 [4,5] (fun m l w=> ∃ b d e,CW.w e=w/\Le [] z e/\l=[vI b,vI d]/\Vm.zd3 x0 x1 H m b d=some r) _ ⟨0,0,z,O,Le.refl _ _,O,Y⟩ ?_
 rintro(_ |N) _ _ σ ⟨b,d,e,rfl,f,rfl,Y⟩
 ·cases Y
 unfold Vm.zd3 at Y
 have h:=G.n f
 have i:=F.up f
 refine ssr ?_
 have a:=D.ul h
 refine mi O (fl i O (Lw.ln x0.Heads a O (Lw.lt O (nl (cn Y (fun Y=>?_) fun Y=>?_)))))
 ·refine sk (Cw.seq (Cw.block (sr (fl i O (mi O ?_)))))
  obtain⟨P,A,Y⟩:=ob Y
  refine Lw.r O (R.ix (α:=Head) a A O O O) (Lw.fa O (Lw.r O (R.ld O O (Head.at0 (a.at_ A)).str) (ms O (Lw.seq O (nl (cn Y (fun Y=>?_) fun Y=>?_))))))
  ·refine sr (fl i O (mi O ?_))
   obtain⟨Q,B,Y⟩:=ob Y
   exact Lw.r O (R.ix (α:=Head) a B O O O) (Lw.fa O (Lw.r O (R.ld O O (Head.at1 (a.at_ B)).int) (Ni O (.ret (rt Y h)))))
  ·exact sk (rg (mi O (Lw.add O (Ni O ((agm) ⟨b,w64 (d+1),e,O,f,O,Y⟩)))))
 ·refine Cw.exit ?_
  rw[I]at Y
  exact sr (Ni O (.ret (rt Y h)))
theorem p37 {x0 a b x1 r}(d:Rd W K [a,b] x0)(Y:Vm.zc3 x0 x1=some r):Q1 37 [.agg [a,b].toArray,vS x1] W [] fun W' v=>v=vI r:=
 (c37 (d.view _) Y).ad (fk 0) fun _ _ e=>e
theorem c85 {x0 S U x1 r}(h0:Rd W0 [0] [S,U] x0)(Y:Vm.zfI x0 x1=some r):Q0 85 [.agg [S,U].toArray,vI x1] W0 fun Wf v=> ∃ V,v=V/\OwS Wf LL [] [V] r:=by
 unfold Vm.zfI at Y
 obtain⟨cc,cd,W,k,ce⟩:=Repo.split h0
 simp only[List.cons.injEq,and_true,true_and]at W
 obtain⟨rfl,rfl⟩:=W
 refine zao.of Tryz.func85 O O O O (sr (bo 2 O fun g1 W1 l1 X=>?_))
 have Z:=l1.o
 refine Nv (.slice none 0 0) O (sr (fl X O (Lw.ln x0.Commits (k.ul Z) O ?_)))
 obtain⟨q4,e5,Y⟩:=ob Y
 refine Lw.t O (T.mk (α:=Bool) 3 [] (n:=(x0.Commits.length:Int)) O O e5) ?_
 rintro a _ ⟨W6,rfl,l6,o6⟩
 have a7:=Z.n l6
 refine Nv a O (sr (mv a O (mi O ?_)))
 obtain⟨u9,a4,Y⟩:=ob Y
 refine Lw.r O (R.ix (α:=Bool) o6.rd a4 O O O) ?_
 obtain⟨a5,a6,Y⟩:=ob Y
 refine Lw.u (T.stS (K':=[]) o6 (rdB _) a6 O O O) ?_
 rintro _ _ ⟨ae,rfl,af,a8⟩
 have a9:=a7.t af
 refine nl (ssr (mi O (Ni O (Cw.block ?_))))
 obtain⟨ba,bb,Y⟩:=zaY Y
 refine Cw.loop 18 49 [6,7] (fun m l w=> ∃ x e ah f,CW.w f=w/\Le [3] ae f/\l=[vI x,ah]/\Ow f 3 [] [a] e/\Vm.zbR x0 ba m x e=some r) _ ⟨x1,a5,undef,ae,O,Le.refl _ _,O,a8,Y⟩ ?_
 rintro(_ |ck) _ _ σ ⟨x,e,ah,f,rfl,I,rfl,ai,Y⟩
 ·cases Y
 unfold Vm.zbR at Y
 have aj:=a9.t I
 refine ssr (mi O (Lw.ge O (nl (cn Y (fun Y=>?_) fun Y=>?_))))
 ·refine sk (Cw.seq (Cw.block (sr (Ni O (Cw.block ?_)))))
  obtain⟨bc,be,Y⟩:=zaY Y
  refine Cw.loop 22 49 [7] (fun m l w=> ∃ y C d,CW.w d=w/\Le [3] f d/\l=[vI y]/\Ow d 3 [] [a] C/\Vm.zdg x0 x bc m y C=some r) _ ⟨0,e,f,O,Le.refl _ _,O,ai,Y⟩ ?_
  rintro(_ |cl) _ _ σ ⟨y,C,d,rfl,D,rfl,J,Y⟩
  ·cases Y
  unfold Vm.zdg at Y
  have K:=aj.t D
  have ak:=(((X.up l6).up af).up I).up D
  refine Cw.seq ?_
  obtain⟨bg,bh,Y⟩:=zaY Y
  refine Cw.join 22 36 [36] (fun l w=> ∃ L E,CW.w E=w/\Le [] d E/\l=[vB L]/\bg L=some r) ?_ ?_
  ·rintro _ _ σ ⟨L,E,rfl,z,rfl,Y⟩
   rw[bh]at Y
   have am:=K.n z
   have M:=J.up z
   refine cn Y (fun Y=>?_) fun Y=>?_
   ·refine sk (Cw.seq (Cw.block (rg (mv a O (fl (ak.up z) O (mi O ?_))))))
    obtain⟨cm,an,Y⟩:=ob Y
    refine Lw.r O (R.ix (α:=Commit) (k.ul am) an O O O) (Lw.fa O ?_)
    obtain⟨co,c45,r46⟩:=(Commit.at0 ((k.ul am).at_ an)).cell O
    refine Lw.r O (R.ld O O c45) (mi O ?_)
    obtain⟨cp,ao,Y⟩:=ob Y
    refine Lw.r O (R.ix (α:=Int) r46 ao O O O) (Lw.r O (R.ld O O (r46.at_ ao).int) ?_)
    obtain⟨cq,bi,Y⟩:=ob Y
    refine Lw.r O (R.ix (α:=Bool) M.rd bi O O O) ?_
    obtain⟨bj,bk,Y⟩:=ob Y
    refine Lw.u (T.stS (K':=[]) M (rdB _) bk O O O) ?_
    rintro _ _ ⟨bl,rfl,bm,bn⟩
    exact nl (rg (mi O (Lw.add O (Ni O ((agm) ⟨w64 (y+1),bj,bl,O,((D.j z).j bm).w,O,bn,Y⟩)))))
   ·refine Cw.exit ?_
    rw[be]at Y
    exact rg (mi O (Lw.sub O (Ni O ((agm) ⟨w64 (x-1),C,vI y,E,O,((I.j D).j z).w,O,M,Y⟩))))
  ·refine rg (mi O (fl ak O (mi O ?_)))
   obtain⟨bp,ap,Y⟩:=ob Y
   refine Lw.r O (R.ix (α:=Commit) (k.ul K) ap O O O) (Lw.fa O ?_)
   obtain⟨ct,c60,r61⟩:=(Commit.at0 ((k.ul K).at_ ap)).cell O
   refine Lw.r O (R.ld O O c60) (Lw.ln bp.Parents r61 O (Lw.lt O (mb O (bs Y (fun A Y=>?_) fun A Y=>?_))))
   ·refine wak 4 A (mv a O (mi O ?_))
    obtain⟨bq,aq,Y⟩:=ob Y
    exact Lw.r O (R.ix (α:=Bool) J.rd aq O O O) (Lw.r O (R.ld O O (J.rd.at_ aq).bool) (Pb A O (nl ((ag) ⟨bq,d,O,Le.refl _ _,O,Y⟩))))
   ·exact psk 4 A O (Pb A O (nl ((ag) ⟨false,d,O,Le.refl _ _,O,Y⟩)))
 ·refine Cw.exit ?_
  rw[bb]at Y
  refine sr (Lw.t O (T.lit0 (α:=Int) 4 []) ?_)
  rintro ar _ ⟨au,rfl,av,br⟩
  have bu:=aj.n av
  refine Nv ar O (ssr (Ni O (Cw.block ?_)))
  obtain⟨bv,bw,Y⟩:=zaY Y
  refine Cw.loop 51 64 [8,9] (fun m l w=> ∃ F h b i,CW.w i=w/\Le [4] au i/\l=[b,vI h]/\Ow i 4 [] [b] F/\Vm.zbQ e bv m F h=some r) _ ⟨([]:List Int),0,ar,au,O,Le.refl _ _,O,br,Y⟩ ?_
  rintro(_ |cu) _ _ σ ⟨F,h,b,i,rfl,N,rfl,P,Y⟩
  ·cases Y
  unfold Vm.zbQ at Y
  have bz:=bu.t N
  have Q:=(ai.up av).up N
  refine ssr (mi O (mv a O (Lw.ln e Q.rd O (Lw.lt O (nl (cn Y (fun Y=>?_) fun Y=>?_))))))
  ·refine sk ?_
   obtain⟨b0,b2,Y⟩:=zaY Y
   refine Cw.join 57 64 [8] (fun l w=> ∃ G H B,CW.w B=w/\Le [4] i B/\l=[H]/\Ow B 4 [] [H] G/\b0 G=some r) ?_ ?_
   ·rintro _ _ σ ⟨G,H,B,rfl,b3,rfl,b4,Y⟩
    rw[b2]at Y
    exact rg (mi O (Lw.add O (Ni O ((agm) ⟨G,w64 (h+1),H,B,O,(N.j b3).w,O,b4,Y⟩))))
   ·refine Cw.block (sr (mv a O (mi O ?_)))
    obtain⟨cv,aw,Y⟩:=ob Y
    refine Lw.r O (R.ix (α:=Bool) Q.rd aw O O O) (Lw.r O (R.ld O O (Q.rd.at_ aw).bool) (nl (cn Y (fun Y=>?_) fun Y=>?_)))
    ·refine rg (mv b O (mi O (Lw.t O (T.bs 5 [vI h] (cs:=[vI h]) O O (bsv O)) ?_)))
     rintro _ _ ⟨cw,cx,rfl,rfl,ax,b5⟩
     obtain⟨b6,b7,Y⟩:=ob Y
     refine Lw.t O (T.app1S (α:=Int) (K':=[]) (P.up ax) b5 (rdI _) O O b7) ?_
     rintro ay _ ⟨b8,rfl,b9,cb⟩
     exact Nv ay O ((ag) ⟨b6,ay,b8,O,(ax.j b9).w,O,cb,Y⟩)
    ·exact sk ((ag) ⟨F,b,i,O,Le.refl _ _,O,P,Y⟩)
  ·refine Cw.exit ?_
   rw[bw]at Y
   refine sr (mv b O (Nv b O ?_))
   cases Y
   exact Cw.ret (zik O (Res.mk bz ⟨b,O,P.s.sub O O⟩))
theorem p85 {x0 b d x1 k0 r}(f:Rd W K [b,d] x0)(Y:Vm.zfI x0 x1=some r):Q1 85 [.agg [b,d].toArray,vI x1] W [] fun W' v=> ∃ a,v=a/\Ow W' k0 [] [a] r:=
 (c85 (f.view _) Y).ad (fk k0) fun _ _ ⟨a,e,h⟩=>⟨a,e,h.back (zgv _)⟩
theorem c84 {x0 a x1 r}(x:Rd W0 [0] [a] x0)(Y:Vm.zf1 x0 x1=some r):Q0 84 [a,vI x1] W0 fun Wf v=>v=vB r:=by
 unfold Vm.zf1 at Y
 refine zao.of Tryz.func84 O O O O (sr (Nb O (ssr (Ni O (Cw.block ?_)))))
 obtain⟨y,z,Y⟩:=zaY Y
 refine Cw.loop 6 17 [4,5] (fun m l w=> ∃ b d e,CW.w e=w/\Le [] W0 e/\l=[vB b,vI d]/\Vm.zdh x0 x1 y m b d=some r) _ ⟨false,0,W0,O,Le.refl _ _,O,Y⟩ ?_
 rintro(_ |A) _ _ σ ⟨b,d,e,rfl,i,rfl,Y⟩
 ·cases Y
 unfold Vm.zdh at Y
 have f:=i.o
 refine ssr ?_
 have h:=x.ul f
 refine mi O (mv a O (Lw.ln x0 h O (Lw.lt O (nl (cn Y (fun Y=>?_) fun Y=>?_)))))
 ·refine sk (Cw.seq (Cw.block (sr (mv a O (mi O ?_)))))
  obtain⟨B,k,Y⟩:=ob Y
  refine Lw.r O (R.ix (α:=Int) h k O O O) (Lw.r O (R.ld O O (h.at_ k).int) (mi O (Lw.eq O (nl (cn Y (fun Y=>?_) fun Y=>?_)))))
  ·exact sr (Nb O (.ret (rt Y f)))
  ·exact sk (rg (mi O (Lw.add O (Ni O ((agm) ⟨b,w64 (d+1),e,O,i,O,Y⟩)))))
 ·refine Cw.exit ?_
  rw[z]at Y
  exact sr (Nb O (.ret (rt Y f)))
theorem p84 {x0 a x1 r}(b:Rd W K [a] x0)(Y:Vm.zf1 x0 x1=some r):Q1 84 [a,vI x1] W [] fun W' v=>v=vB r:=
 (c84 (b.view _) Y).ad (fk 0) fun _ _ e=>e
theorem c140 {x0 W X x1 x2 r}(h0:Rd W0 [0] [W,X] x0)(Y:Vm.zfL x0 x1 x2=some r):Q0 140 [.agg [W,X].toArray,vI x1,vI x2] W0 fun Wf v=> ∃ u0,v=u0/\OwS Wf LL [] [u0] r:=by
 unfold Vm.zfL at Y
 obtain⟨c4,c5,av,Z,aa⟩:=Repo.split h0
 simp only[List.cons.injEq,and_true,true_and]at av
 obtain⟨rfl,rfl⟩:=av
 refine zao.of Tryz.func140 O O O O (sr (bo 2 O fun g1 W1 l1 b1=>?_))
 have a2:=l1.o
 refine Nv (.slice none 0 0) O (sr (la b1 (mi O (cr Y (fun _=>p85 (k0:=3) (Repo.rd (K:=[0]) x0.Commits x0.Heads (Z.ul a2) (aa.ul a2))) ?_))))
 rintro z5 H W7 Y l7 ⟨_,rfl,bp⟩
 have a8:=a2.n l7
 refine Nv H O (sr (la (b1.up l7) (mi O (cr Y (fun _=>p85 (k0:=4) (Repo.rd (K:=[0]) x0.Commits x0.Heads (Z.ul a8) (aa.ul a8))) ?_))))
 rintro bq ax c9 Y ai ⟨_,rfl,br⟩
 have bu:=a8.n ai
 refine Nv ax O (sr (Lw.t O (T.lit0 (α:=Int) 5 []) ?_))
 rintro ay _ ⟨az,rfl,I,bv⟩
 have bw:=bu.n I
 refine Nv ay O (ssr (Ni O (Cw.block ?_)))
 obtain⟨bz,b0,Y⟩:=zaY Y
 refine Cw.loop 22 40 [9,10] (fun m l w=> ∃ h J e B,CW.w B=w/\Le [5] az B/\l=[e,vI J]/\Ow B 5 [] [e] h/\Vm.zb2 z5 bq bz m h J=some r) _ ⟨([]:List Int),0,ay,az,O,Le.refl _ _,O,bv,Y⟩ ?_
 rintro(_ |da) _ _ σ ⟨h,J,e,B,rfl,C,rfl,aj,Y⟩
 ·cases Y
 unfold Vm.zb2 at Y
 have b2:=bw.t C
 have D:=((bp.up ai).up I).up C
 refine ssr (mi O (mv H O (Lw.ln z5 D.rd O (Lw.lt O (nl (cn Y (fun Y=>?_) fun Y=>?_))))))
 ·refine sk ?_
  obtain⟨b3,b4,Y⟩:=zaY Y
  refine Cw.join 28 40 [9] (fun l w=> ∃ L M E,CW.w E=w/\Le [5] B E/\l=[M]/\Ow E 5 [] [M] L/\b3 L=some r) ?_ ?_
  ·rintro _ _ σ ⟨L,M,E,rfl,b5,rfl,b6,Y⟩
   rw[b4]at Y
   exact rg (mi O (Lw.add O (Ni O ((agm) ⟨L,w64 (J+1),M,E,O,(C.j b5).w,O,b6,Y⟩))))
  ·refine Cw.block (sr (mv ax O (mv H O (mi O ?_))))
   obtain⟨db,a0,Y⟩:=ob Y
   refine Lw.r O (R.ix (α:=Int) D.rd a0 O O O) (Lw.r O (R.ld O O (D.rd.at_ a0).int) (ca Y (fun _=>p84 (K:=[4]) ((br.up I).up C).rd) fun dc b7 Y y=>nl (cn Y (fun Y=>?_) fun Y=>?_)))
   ·refine rg (mv e O (mv H O (mi O ?_)))
    obtain⟨a1,a3,Y⟩:=ob Y
    refine Lw.r O (R.ix (α:=Int) (D.up y).rd a3 O O O) (Lw.r O (R.ld O O ((D.up y).rd.at_ a3).int) (Lw.t O (T.bs 6 [vI a1] (cs:=[vI a1]) O O (bsv O)) ?_))
    rintro _ _ ⟨dd,de,rfl,rfl,a4,b8⟩
    obtain⟨b9,cb,Y⟩:=ob Y
    refine Lw.t O (T.app1S (α:=Int) (K':=[]) ((aj.up y).up a4) b8 (rdI _) O O cb) ?_
    rintro a5 _ ⟨cc,rfl,cd,ce⟩
    exact Nv a5 O ((ag) ⟨b9,a5,cc,O,((y.j a4).j cd).w,O,ce,Y⟩)
   ·exact sk ((ag) ⟨h,e,b7,O,y.w,O,(aj.up y),Y⟩)
 ·refine Cw.exit ?_
  rw[b0]at Y
  refine sr (Lw.t O (T.lit0 (α:=Int) 7 []) ?_)
  rintro a6 _ ⟨a7,rfl,ak,cf⟩
  have cg:=b2.n ak
  refine Nv a6 O (ssr (Ni O (Cw.block ?_)))
  obtain⟨ch,ci,Y⟩:=zaY Y
  refine Cw.loop 42 81 [11,12,13,14] (fun m l w=> ∃ N i k a9 ba x,CW.w x=w/\Le [7] a7 x/\l=[k,vI i,a9,ba]/\Ow x 7 [] [k] N/\Vm.zaO x0 h ch m N i=some r) _ ⟨([]:List Int),0,a6,undef,undef,a7,O,Le.refl _ _,O,cf,Y⟩ ?_
  rintro(_ |df) _ _ σ ⟨N,i,k,a9,ba,x,rfl,P,rfl,am,Y⟩
  ·cases Y
  unfold Vm.zaO at Y
  have bb:=cg.t P
  have bc:=(aj.up ak).up P
  refine ssr (mi O (mv e O (Lw.ln h bc.rd O (Lw.lt O (nl (cn Y (fun Y=>?_) fun Y=>?_))))))
  ·refine sk ?_
   obtain⟨cj,ck,Y⟩:=zaY Y
   refine Cw.join 48 81 [11,13,14] (fun l w=> ∃ Q S an ao F,CW.w F=w/\Le [7] x F/\l=[S,an,ao]/\Ow F 7 [] [S] Q/\cj Q=some r) ?_ ?_
   ·rintro _ _ σ ⟨Q,S,an,ao,F,rfl,cl,rfl,cm,Y⟩
    rw[ck]at Y
    exact rg (mi O (Lw.add O (Ni O ((agm) ⟨Q,w64 (i+1),S,an,ao,F,O,(P.j cl).w,O,cm,Y⟩))))
   ·refine Cw.block (sr (Nb O (ssr (Ni O (Cw.block ?_)))))
    obtain⟨co,cp,Y⟩:=zaY Y
    refine Cw.loop 48 73 [13,14] (fun m l w=> ∃ G d U,CW.w U=w/\Le [] x U/\l=[vB G,vI d]/\Vm.zbB x0 h i co m G d=some r) _ ⟨true,0,x,O,Le.refl _ _,O,Y⟩ ?_
    rintro(_ |dg) _ _ σ ⟨G,d,U,rfl,f,rfl,Y⟩
    ·cases Y
    unfold Vm.zbB at Y
    have cq:=bb.n f
    have V:=bc.up f
    refine ssr (mi O (mv e O (Lw.ln h V.rd O (Lw.lt O (nl (cn Y (fun Y=>?_) fun Y=>?_))))))
    ·refine sk (Cw.seq (Cw.block (Cw.draw [] [(0,0),(1,0),(2,0),(3,0),(4,0),(5,0),(6,1),(7,0),(8,0),(9,0),(10,1),(12,0),(13,0),(14,0),(15,1),(11,2),(16,3),(17,0),(18,0),(19,0),(20,0)] mixed (by kernel_rfl) fun be z=>?_)))
     have bg:=cq.n z
     have A:=V.up z
     refine Db O (Db O (bs Y (fun b Y=>?_) fun b Y=>?_))
     ·refine Wp b O (fun _=>R.mv (v:=vI d) O) (Wp b O (fun _=>R.mv (v:=vI i) O) (Wp b O (fun _=>R.eq O O) (Wp b O (fun _=>R.mv (v:=vB ((d:Int)==(i:Int))) O) (bs Y (fun a Y=>?_) fun a Y=>?_))))
      ·exact dps 12 a O (Wp b O (fun _=>R.pk a O (v:=vB true) O) (Mw.p O O (fun _=>R.pk b O (v:=vB true) O) (Hb O (Mw.nil (rg (mi O (Lw.add O (Ni O ((agm) ⟨true,w64 (d+1),be,O,(f.j z).w,O,Y⟩)))))))))
      ·refine Wq a O (fun _ c=>R.lda (cs:=[W,X]) (((((((((b1.up l7).up ai).up I).up C).up ak).up P).up f).up z).clcs O c) O O) (Wp a O (fun _=>R.mv (v:=e) O) (Wp a O (fun _=>R.mv (v:=vI d) O) ?_))
       obtain⟨dh,ap,Y⟩:=ob Y
       refine Wp a O (fun _=>R.ix (α:=Int) A.rd ap O O O) (Wq a O (fun _ c=>R.ld O O (zaq (A.rd.at_ ap).1 O (A.rd.at_ ap).int c)) (Wp a O (fun _=>R.mv (v:=e) O) (Wp a O (fun _=>R.mv (v:=vI i) O) ?_)))
       obtain⟨di,aq,Y⟩:=ob Y
       refine Wp a O (fun _=>R.ix (α:=Int) A.rd aq O O O) (Wq a O (fun _ c=>R.ld O O (zaq (A.rd.at_ aq).1 O (A.rd.at_ aq).int c)) ?_)
       obtain⟨dj,ct,Y⟩:=ob Y
       refine Wt a O (T.call O (p85 (k0:=8) (Repo.rd (K:=[0]) x0.Commits x0.Heads (Z.ul bg) (aa.ul bg)) ct)) ?_
       rintro dk _ ⟨dl,rfl,bh,⟨_,rfl,cu⟩⟩
       refine m0 bh fun dm=>?_
       obtain⟨ar,cv,Y⟩:=ob Y
       refine Mw.gl a O O O O O (T.call O (p84 (K:=[8]) cu.rd cv)) ?_
       rintro _ _ ⟨cw,rfl,cx,rfl⟩
       exact Wp a O (fun _=>R.not O) (Wp b O (fun _=>R.pk a O (v:=vB (!ar)) O) (Mw.p O O (fun _=>R.pk b O (v:=vB (!ar)) O) (Hb O (Mw.nil (rg (mi O (Lw.add O (Ni O ((agm) ⟨(!ar),w64 (d+1),cw,O,(((f.j z).j bh).j cx).w,O,Y⟩)))))))))
     ·exact dps 4 b O (dpu 12 O (dps 1 b O (Mw.p O O (fun _=>R.pk b O (v:=vB false) O) (Hb O (Mw.nil (rg (mi O (Lw.add O (Ni O ((agm) ⟨false,w64 (d+1),be,O,(f.j z).w,O,Y⟩))))))))))
    ·refine Cw.exit ?_
     rw[cp]at Y
     refine sr (mb O (nl (cn Y (fun Y=>?_) fun Y=>?_)))
     ·refine rg (mv k O (mv e O (mi O ?_)))
      obtain⟨bi,bj,Y⟩:=ob Y
      refine Lw.r O (R.ix (α:=Int) V.rd bj O O O) (Lw.r O (R.ld O O (V.rd.at_ bj).int) (Lw.t O (T.bs 9 [vI bi] (cs:=[vI bi]) O O (bsv O)) ?_))
      rintro _ _ ⟨dn,dp,rfl,rfl,bk,cy⟩
      obtain⟨cz,c0,Y⟩:=ob Y
      refine Lw.t O (T.app1S (α:=Int) (K':=[]) ((am.up f).up bk) cy (rdI _) O O c0) ?_
      rintro bl _ ⟨c1,rfl,c2,c3⟩
      exact Nv bl O ((ag) ⟨cz,bl,vB G,vI d,c1,O,((f.j bk).j c2).w,O,c3,Y⟩)
     ·exact sk ((ag) ⟨N,k,vB G,vI d,U,O,f.w,O,(am.up f),Y⟩)
  ·refine Cw.exit ?_
   rw[ci]at Y
   refine sr (mv k O (Nv k O ?_))
   cases Y
   exact Cw.ret (zik O (Res.mk bb ⟨k,O,am.s.sub O O⟩))
theorem p140 {x0 b d x1 x2 k0 r}(f:Rd W K [b,d] x0)(Y:Vm.zfL x0 x1 x2=some r):Q1 140 [.agg [b,d].toArray,vI x1,vI x2] W [] fun W' v=> ∃ a,v=a/\Ow W' k0 [] [a] r:=
 (c140 (f.view _) Y).ad (fk k0) fun _ _ ⟨a,e,h⟩=>⟨a,e,h.back (zgv _)⟩
theorem c88 {x0 k x x1 x2 r}(I:Rd W0 [0] [k,x] x0)(Y:Vm.zf2 x0 x1 x2=some r):Q0 88 [.agg [k,x].toArray,vI x1,vI x2] W0 fun Wf v=> ∃ y,v=y/\Rd Wf [0] [y] r:=by
 unfold Vm.zf2 at Y
 obtain⟨M,N,z,A,J⟩:=Repo.split I
 simp only[List.cons.injEq,and_true,true_and]at z
 obtain⟨rfl,rfl⟩:=z
 refine zao.of Tryz.func88 O O O O (sr (bo 2 O fun P Q L B=>?_))
 have d:=L.o
 refine Nv (.slice none 0 0) O (sr (la B (mi O (mi O (cr Y (fun _=>p140 (k0:=3) (Repo.rd (K:=[0]) x0.Commits x0.Heads (A.ul d) (J.ul d))) ?_)))))
 rintro C a S Y D ⟨_,rfl,E⟩
 have F:=d.n D
 refine Nv a O (ssr (mv a O (Lw.ln C E.rd O (Lw.eq O (nl (cn Y (fun Y=>?_) fun Y=>?_))))))
 ·refine sr (Nv (.slice none 0 0) O ?_)
  cases Y
  exact Cw.ret (zik O (Res.mk F ⟨.slice none 0 0,O,(rdN (K:=[0]))⟩))
 ·refine sk (Cw.seq (Cw.draw [] [(0,0),(1,1),(2,0),(3,0),(4,0),(5,0),(6,0),(7,1),(8,0),(9,0),(10,1),(11,0)] mixed (by kernel_rfl) fun T e=>?_))
  have G:=F.n e
  have b:=E.up e
  refine Dfl ((B.up D).up e) O O O (Dv a O (Dv a O (Mw.p O O (fun _=>zuo (xs:=C) b.rd O) (Mw.p O O (fun _=>R.sub O O) ?_))))
  obtain⟨U,f,Y⟩:=ob Y
  refine Mw.p O O (fun _=>R.ix (α:=Int) b.rd f O O O) (Mw.q O O (fun _ c=>R.ld O O (zaq (b.rd.at_ f).1 O (b.rd.at_ f).int c)) ?_)
  obtain⟨V,h,Y⟩:=ob Y
  have i:=A.ul G
  refine Mw.p O O (fun _=>R.ix (α:=Commit) i h O O O) (Df O ?_)
  obtain⟨H,c21,r22⟩:=(Commit.at2 (i.at_ h)).cell O
  refine Mw.q O O (fun _ c=>R.ld O O (zaq (Commit.at2 (i.at_ h)).1 O c21 c)) (Hv H O (Mw.nil ?_))
  cases Y
  exact Cw.ret (zik O (Res.mk G ⟨H,O,r22⟩))
theorem p88 {x0 b d x1 x2 r}(f:Rd W K [b,d] x0)(Y:Vm.zf2 x0 x1 x2=some r):Q1 88 [.agg [b,d].toArray,vI x1,vI x2] W [] fun W' v=> ∃ a,v=a/\Rd W' (0::K) [a] r:=
 (c88 (f.view _) Y).ad (fk 0) fun _ _ ⟨a,e,h⟩=>⟨a,e,h.back O⟩
theorem c155 {x0 a x1 r}(C:Rd W0 [0] [a] x0)(Y:Vm.zdN x0 x1=some r):Q0 155 [a,vS x1] W0 fun Wf v=> ∃ x,v = .tuple [x,vB r.2].toArray/\Rd Wf [0] [x] r.1:=by
 unfold Vm.zdN at Y
 refine zao.of Tryz.func155 O O O O (sr (Gv (.slice none 0 0) O (Nb O (ssr (Ni O (Cw.block ?_))))))
 obtain⟨D,E,Y⟩:=zaY Y
 refine Cw.loop 7 24 [4,5,6] (fun m l w=> ∃ e f h i b,CW.w b=w/\Le [] W0 b/\l=[i,vB f,vI h]/\Ow b 2 [] [i] e/\Vm.zdi x0 x1 D m e f h=some r) _ ⟨([]:List Str),false,0, .slice none 0 0,W0,O,Le.refl _ _,O,owN 2 [],Y⟩ ?_
 rintro(_ |G) _ _ σ ⟨e,f,h,i,b,rfl,y,rfl,F,Y⟩
 ·cases Y
 unfold Vm.zdi at Y
 have k:=y.o
 refine ssr ?_
 have d:=C.ul k
 refine mi O (mv a O (Lw.ln x0 d O (Lw.lt O (nl (cn Y (fun Y=>?_) fun Y=>?_)))))
 ·refine sk (Cw.seq (Cw.block (sr (mv a O (mi O ?_)))))
  obtain⟨H,z,Y⟩:=ob Y
  refine Lw.r O (R.ix (α:=File) d z O O O) (Lw.fa O (Lw.r O (R.ld O O (File.at0 (d.at_ z)).str) (ms O (Lw.seq O (nl (cn Y (fun Y=>?_) fun Y=>?_))))))
  ·refine sr (mv a O (mi O ?_))
   obtain⟨I,A,Y⟩:=ob Y
   refine Lw.r O (R.ix (α:=File) d A O O O) (Lw.fa O ?_)
   obtain⟨B,c18,r19⟩:=(File.at1 (d.at_ A)).cell O
   refine Lw.r O (R.ld O O c18) (Gv B O (Nb O ?_))
   cases Y
   exact Cw.ret (zph O O (Res.mk k ⟨B,O,r19⟩))
  ·exact sk (rg (mi O (Lw.add O (Ni O ((agm) ⟨e,f,w64 (h+1),i,b,O,y,O,F,Y⟩)))))
 ·refine Cw.exit ?_
  rw[E]at Y
  refine sr (Gv (.slice none 0 0) O (Nb O ?_))
  cases Y
  exact Cw.ret (zph O O (Res.mk k ⟨.slice none 0 0,O,(rdN (K:=[0]))⟩))
theorem p155 {x0 b x1 r}(d:Rd W K [b] x0)(Y:Vm.zdN x0 x1=some r):Q1 155 [b,vS x1] W [] fun W' v=> ∃ a,v = .tuple [a,vB r.2].toArray/\Rd W' (0::K) [a] r.1:=
 (c155 (d.view _) Y).ad (fk 0) fun _ _ ⟨a,e,f⟩=>⟨a,e,f.back O⟩
theorem c196 {x0 b x1 e r}(d:Rd W0 [0] [b] x0)(f:Rd W0 [0] [e] x1)(Y:Vm.zeo x0 x1=some r):Q0 196 [b,e] W0 fun Wf v=>v=vB r:=by
 unfold Vm.zeo at Y
 refine zao.of Tryz.func196 O O O O (sr (Nb O (ssr (mv b O (Lw.ln x0 d O (mv e O (Lw.ln x1 f O (Lw.ne O (nl (cn Y (fun Y=>?_) fun Y=>?_))))))))))
 ·exact sr (Nb O (.ret (rt Y (Le.refl _ _))))
 ·refine sk (ssr (Ni O (Cw.block ?_)))
  obtain⟨B,C,Y⟩:=zaY Y
  refine Cw.loop 11 25 [4,5] (fun m l w=> ∃ h i k,CW.w k=w/\Le [] W0 k/\l=[vB h,vI i]/\Vm.zcE x0 x1 B m h i=some r) _ ⟨false,0,W0,O,Le.refl _ _,O,Y⟩ ?_
  rintro(_ |E) _ _ σ ⟨h,i,k,rfl,A,rfl,Y⟩
  ·cases Y
  unfold Vm.zcE at Y
  have x:=A.o
  refine ssr (mi O (mv b O (Lw.ln x0 (d.ul x) O (Lw.lt O (nl (cn Y (fun Y=>?_) fun Y=>?_))))))
  ·refine sk (Cw.seq (Cw.block (Cw.seq (Cw.draw [] [(0,0),(1,0),(2,0),(3,1),(4,0),(5,0),(6,0),(7,1),(8,0)] mixed (by kernel_rfl) fun D l10=>?_))))
   have a:=x.n l10
   refine Dv b O (Di O ?_)
   obtain⟨F,y,Y⟩:=ob Y
   refine Mw.p O O (fun _=>R.ix (α:=Str) (d.ul a) y O O O) (Mw.q O O (fun _ c=>R.ld O O (zaq ((d.ul a).at_ y).1 O ((d.ul a).at_ y).str c)) (Dv e O (Di O ?_)))
   obtain⟨G,z,Y⟩:=ob Y
   refine Mw.p O O (fun _=>R.ix (α:=Str) (f.ul a) z O O O) (Mw.q O O (fun _ c=>R.ld O O (zaq ((f.ul a).at_ z).1 O ((f.ul a).at_ z).str c)) (Mw.p O O (fun _=>R.sne O O) (Mw.nil (cn Y (fun Y=>?_) fun Y=>?_))))
   ·exact sr (Nb O (.ret (rt Y a)))
   ·exact sk (rg (mi O (Lw.add O (Ni O ((agm) ⟨h,w64 (i+1),D,O,(A.j l10).w,O,Y⟩)))))
  ·refine Cw.exit ?_
   rw[C]at Y
   exact sr (Nb O (.ret (rt Y x)))
theorem p196 {x0 a x1 b r}(d:Rd W K [a] x0)(f:Rd W K [b] x1)(Y:Vm.zeo x0 x1=some r):Q1 196 [a,b] W [] fun W' v=>v=vB r:=
 (c196 (d.view _) (f.view _) Y).ad (fk 0) fun _ _ e=>e
end Go.Sx
