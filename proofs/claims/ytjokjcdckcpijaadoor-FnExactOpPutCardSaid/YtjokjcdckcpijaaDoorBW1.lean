/- Walks: each function answers as its model, printed by a program of ours. Conditions: the arguments read as they are given. -/
import Derived.Test.YtjokjcdckcpijaaDoorBTs
import Derived.Test.YtjokjcdckcpijaaDoorBM0
import Derived.Test.YtjokjcdckcpijaaDoorBW0
import Derived.Test.YtjokjcdckcpijaaDoorBE
namespace Go.Sx
open Go Go.Proofs Go.Vm Rp
set_option linter.unusedVariables false
set_option linter.unusedSimpArgs false
variable {W W0:CW}{K:List Nat}
theorem c40 {x0 x1 x2 r}(Y:Vm.zbq x0 x1 x2=some r):Q0 40 [vI x0,vI x1,vI x2] W0 fun Wf v=>v=vB r:=by
 unfold Vm.zbq at Y
 refine zax.of Tryd.func40 O O O O (sr (Nb O ?_))
 obtain⟨e,f,Y⟩:=zcP Y
 refine Cw.join 7 14 [6] (fun l w=> ∃ b d,CW.w d=w/\Le [] W0 d/\l=[vB b]/\e b=some r) ?_ ?_
 ·rintro _ _ σ ⟨b,d,rfl,h,rfl,Y⟩
  rw[f]at Y
  have i:=h.o
  exact .ret (rt Y i)
 ·refine rg (mi O (mi O (Lw.le O (mb O (bs Y (fun a Y=>?_) fun a Y=>?_)))))
  ·exact wak 3 a (mi O (mi O (Lw.le O (Pb a O (Nb O ((ag) ⟨decide (x0<=(x2:Int)),W0,O,Le.refl _ _,O,Y⟩))))))
  ·exact psk 3 a O (Pb a O (Nb O ((ag) ⟨false,W0,O,Le.refl _ _,O,Y⟩)))
theorem p40 {x0 x1 x2 r}(Y:Vm.zbq x0 x1 x2=some r):Q1 40 [vI x0,vI x1,vI x2] W [] fun W' v=>v=vB r:=
 (c40 (W0:=W.view [] []) Y).ad (fk 0) fun _ _ e=>e
theorem c60 {x0 r}(Y:Vm.zba x0=some r):Q0 60 [.int .u8 (UInt8.toNat x0:Int)] W0 fun Wf v=>v=vB r:=by
 unfold Vm.zba at Y
 refine zax.of Tryd.func60 O O O O (sr (Nb O ?_))
 obtain⟨i,k,Y⟩:=zcP Y
 refine Cw.join 3 16 [2] (fun l w=> ∃ f h,CW.w h=w/\Le [] W0 h/\l=[vB f]/\i f=some r) ?_ ?_
 ·rintro _ _ σ ⟨f,h,rfl,x,rfl,Y⟩
  rw[k]at Y
  have y:=x.o
  exact .ret (rt Y y)
 ·refine rg (mv (.int .u8 (UInt8.toNat x0:Int)) O (Lw.ge O (mb O (bs Y (fun b Y=>?_) fun b Y=>?_))))
  ·refine wak 2 b (mv (.int .u8 (UInt8.toNat x0:Int)) O (Lw.le O (Pb b O (mb O (bs Y (fun a Y=>?_) fun a Y=>?_)))))
   ·exact psk 3 a O (puk 2 O (psk 1 a O (Pb a O (Nb O ((ag) ⟨true,W0,O,Le.refl _ _,O,Y⟩)))))
   ·refine wak 3 a (mv (.int .u8 (UInt8.toNat x0:Int)) O (Lw.ge O (mb O (bs Y (fun d Y=>?_) fun d Y=>?_))))
    ·exact wak 2 d (mv (.int .u8 (UInt8.toNat x0:Int)) O (Lw.le O (wak 1 a (Pb d O (Pb a O (Nb O ((ag) ⟨decide (((UInt8.toNat x0:Int):Int)<=(57:Int)),W0,O,Le.refl _ _,O,Y⟩)))))))
    ·exact psk 2 d O (wak 1 a (Pb d O (Pb a O (Nb O ((ag) ⟨false,W0,O,Le.refl _ _,O,Y⟩)))))
  ·refine psk 2 b O (Pb b O (mb O (wak 3 O (mv (.int .u8 (UInt8.toNat x0:Int)) O (Lw.ge O (mb O (bs Y (fun e Y=>?_) fun e Y=>?_)))))))
   ·exact wak 2 e (mv (.int .u8 (UInt8.toNat x0:Int)) O (Lw.le O (wak 1 O (Pb e O (Pb O O (Nb O ((ag) ⟨decide (((UInt8.toNat x0:Int):Int)<=(57:Int)),W0,O,Le.refl _ _,O,Y⟩)))))))
   ·exact psk 2 e O (wak 1 O (Pb e O (Pb O O (Nb O ((ag) ⟨false,W0,O,Le.refl _ _,O,Y⟩)))))
theorem p60 {x0 r}(Y:Vm.zba x0=some r):Q1 60 [.int .u8 (UInt8.toNat x0:Int)] W [] fun W' v=>v=vB r:=
 (c60 (W0:=W.view [] []) Y).ad (fk 0) fun _ _ e=>e
theorem c35 {x0 r}(Y:Vm.za0 x0=some r):Q0 35 [vS x0] W0 fun Wf v=>v=vB r:=by
 unfold Vm.za0 at Y
 refine zax.of Tryd.func35 O O O O (sr (Nb O (ssr (ms O (Lw.r O (R.lenS O) (ca Y (fun _=>p40) fun D e Y x=>?_))))))
 have f:=x.o
 refine Lw.r O (R.not O) (nl (cn Y (fun Y=>?_) fun Y=>?_))
 ·exact sr (Nb O (.ret (rt Y f)))
 ·refine sk (ssr (Ni O (Cw.block ?_)))
  obtain⟨y,z,Y⟩:=zcP Y
  refine Cw.loop 8 18 [2,3] (fun m l w=> ∃ a b d,CW.w d=w/\Le [] e d/\l=[vB a,vI b]/\Vm.zaB x0 y m a b=some r) _ ⟨false,0,e,O,Le.refl _ _,O,Y⟩ ?_
  rintro(_ |E) _ _ σ ⟨a,b,d,rfl,h,rfl,Y⟩
  ·cases Y
  unfold Vm.zaB at Y
  have i:=f.n h
  refine ssr (mi O (ms O (Lw.r O (R.lenS O) (Lw.lt O (nl (cn Y (fun Y=>?_) fun Y=>?_))))))
  ·refine sk (Cw.seq (Cw.block (sr (ms O (mi O ?_)))))
   obtain⟨F,A,Y⟩:=ob Y
   refine Lw.r O (R.chm A O O) (ca Y (fun _=>p60) fun G B Y k=>?_)
   have C:=i.n k
   refine Lw.r O (R.not O) (nl (cn Y (fun Y=>?_) fun Y=>?_))
   ·exact sr (Nb O (.ret (rt Y C)))
   ·exact sk (rg (mi O (Lw.add O (Ni O ((agm) ⟨a,w64 (b+1),B,O,(h.j k).w,O,Y⟩)))))
  ·refine Cw.exit ?_
   rw[z]at Y
   exact sr (Nb O (.ret (rt Y i)))
theorem p35 {x0 r}(Y:Vm.za0 x0=some r):Q1 35 [vS x0] W [] fun W' v=>v=vB r:=
 (c35 (W0:=W.view [] []) Y).ad (fk 0) fun _ _ e=>e
theorem c36 {x0 r}(C:Gl 2 W0 [0])(Y:Vm.za1 x0=some r):Q0 36 [vS x0] W0 fun Wf v=>v=vB r:=by
 unfold Vm.za1 at Y
 refine zax.of Tryd.func36 O O O O (sr (Nb O (sr (ms O (cr Y (fun _=>p25 (k0:=2) C) ?_)))))
 rintro f h k Y D ⟨_,rfl,a⟩
 have x:=D.o
 refine Nv h O (ssr (mv h O (Lw.ln f a.rd O (Lw.gt O (nl (cn Y (fun Y=>?_) fun Y=>?_))))))
 ·exact sr (Nb O (.ret (rt Y x)))
 ·refine sk (ssr (mv h O (Lw.ln f a.rd O (mi O (nl (Cw.block ?_))))))
  obtain⟨E,F,Y⟩:=zcP Y
  refine Cw.loop 13 20 [2,5,13] (fun m l w=> ∃ b d y i,CW.w i=w/\Le [] k i/\l=[vB b,y,vI d]/\Vm.zaC f E m b d=some r) _ ⟨false,0,undef,k,O,Le.refl _ _,O,Y⟩ ?_
  rintro(_ |J) _ _ σ ⟨b,d,y,i,rfl,e,rfl,Y⟩
  ·cases Y
  unfold Vm.zaC at Y
  have z:=x.n e
  refine sr (Lw.lt O (nl (Cw.seq (cn Y (fun Y=>?_) fun Y=>?_))))
  ·refine sk (Cw.seq (Cw.block (sr ?_)))
   obtain⟨G,A,Y⟩:=ob Y
   refine Lw.r O (R.ix (α:=Str) (a.up e).rd A O O O) (Lw.r O (R.ld O O ((a.up e).rd.at_ A).str) (Ns O (sr (ms O (ca Y (fun _=>p35) fun K H Y B=>?_)))))
   have I:=z.n B
   refine Lw.r O (R.not O) (nl (cn Y (fun Y=>?_) fun Y=>?_))
   ·exact sr (Nb O (.ret (rt Y I)))
   ·exact sk (rg (Lw.add O (mi O (nl ((agm) ⟨b,w64 (d+1),vS G,H,O,(e.j B).w,O,Y⟩)))))
  ·refine Cw.exit ?_
   rw[F]at Y
   exact sr (Nb O (.ret (rt Y z)))
theorem p36 {x0 r}(a:Gl 2 W K)(Y:Vm.za1 x0=some r):Q1 36 [vS x0] W [] fun W' v=>v=vB r:=
 (c36 (a.view _) Y).ad (fk 0) fun _ _ e=>e
theorem c61 {x0 r}(Y:Vm.zbx x0=some r):Q0 61 [vS x0] W0 fun Wf v=>v=vB r:=by
 unfold Vm.zbx at Y
 refine zax.of Tryd.func61 O O O O (sr (Nb O (ssr (ms O (Lw.r O (R.lenS O) (Lw.gt O (nl (cn Y (fun Y=>?_) fun Y=>?_))))))))
 ·exact sr (Nb O (.ret (rt Y (Le.refl _ _))))
 ·refine sk (ssr (Ni O (Cw.block ?_)))
  obtain⟨x,y,Y⟩:=zcP Y
  refine Cw.loop 7 22 [2,3] (fun m l w=> ∃ d e a,CW.w a=w/\Le [] W0 a/\l=[vB d,vI e]/\Vm.zaD x0 x m d e=some r) _ ⟨false,0,W0,O,Le.refl _ _,O,Y⟩ ?_
  rintro(_ |F) _ _ σ ⟨d,e,a,rfl,i,rfl,Y⟩
  ·cases Y
  unfold Vm.zaD at Y
  have k:=i.o
  refine ssr (mi O (ms O (Lw.r O (R.lenS O) (Lw.lt O (nl (cn Y (fun Y=>?_) fun Y=>?_))))))
  ·refine sk (Cw.seq (Cw.block ?_))
   obtain⟨z,A,Y⟩:=zcP Y
   refine Cw.join 13 22 [22] (fun l w=> ∃ h f,CW.w f=w/\Le [] a f/\l=[vB h]/\z h=some r) ?_ ?_
   ·rintro _ _ σ ⟨h,f,rfl,l10,rfl,Y⟩
    rw[A]at Y
    have B:=k.n l10
    refine cn Y (fun Y=>?_) fun Y=>?_
    ·exact sr (Nb O (.ret (rt Y B)))
    ·exact sk (rg (mi O (Lw.add O (Ni O ((agm) ⟨d,w64 (e+1),f,O,(i.j l10).w,O,Y⟩)))))
   ·refine rg (ms O (mi O ?_))
    obtain⟨G,C,Y⟩:=ob Y
    refine Lw.r O (R.chm C O O) (Lw.lt O (mb O (bs Y (fun b Y=>?_) fun b Y=>?_)))
    ·exact psk 4 b O (Pb b O (nl ((ag) ⟨true,a,O,Le.refl _ _,O,Y⟩)))
    ·refine wak 4 b (ms O (mi O ?_))
     obtain⟨D,E,Y⟩:=ob Y
     exact Lw.r O (R.chm E O O) (Lw.gt O (Pb b O (nl ((ag) ⟨decide ((126:Int)< ((UInt8.toNat D:Int):Int)),a,O,Le.refl _ _,O,Y⟩))))
  ·refine Cw.exit ?_
   rw[y]at Y
   exact sr (Nb O (.ret (rt Y k)))
theorem p61 {x0 r}(Y:Vm.zbx x0=some r):Q1 61 [vS x0] W [] fun W' v=>v=vB r:=
 (c61 (W0:=W.view [] []) Y).ad (fk 0) fun _ _ e=>e
theorem c37 {x0 a r}(b:Rd W0 [0] [a] x0)(Y:Vm.zby x0=some r):Q0 37 [a] W0 fun Wf v=>v=vB r:=by
 unfold Vm.zby at Y
 refine zax.of Tryd.func37 O O O O (sr (Nb O (ssr (mv a O (Lw.ln x0 b O (Lw.gt O (nl (cn Y (fun Y=>?_) fun Y=>?_))))))))
 ·exact sr (Nb O (.ret (rt Y (Le.refl _ _))))
 ·refine sk (ssr (mv a O (Lw.ln x0 b O (mi O (nl (Cw.block ?_))))))
  obtain⟨z,A,Y⟩:=zcP Y
  refine Cw.loop 10 17 [2,4,10] (fun m l w=> ∃ d e i h,CW.w h=w/\Le [] W0 h/\l=[vB d,i,vI e]/\Vm.zaE x0 z m d e=some r) _ ⟨false,0,undef,W0,O,Le.refl _ _,O,Y⟩ ?_
  rintro(_ |E) _ _ σ ⟨d,e,i,h,rfl,k,rfl,Y⟩
  ·cases Y
  unfold Vm.zaE at Y
  have f:=k.o
  refine sr (Lw.lt O (nl (Cw.seq (cn Y (fun Y=>?_) fun Y=>?_))))
  ·refine sk (Cw.seq (Cw.block (sr ?_)))
   obtain⟨B,x,Y⟩:=ob Y
   refine Lw.r O (R.ix (α:=Str) (b.ul f) x O O O) (Lw.r O (R.ld O O ((b.ul f).at_ x).str) (Ns O (sr (ms O (ca Y (fun _=>p61) fun F C Y y=>?_)))))
   have D:=f.n y
   refine Lw.r O (R.not O) (nl (cn Y (fun Y=>?_) fun Y=>?_))
   ·exact sr (Nb O (.ret (rt Y D)))
   ·exact sk (rg (Lw.add O (mi O (nl ((agm) ⟨d,w64 (e+1),vS B,C,O,(k.j y).w,O,Y⟩)))))
  ·refine Cw.exit ?_
   rw[A]at Y
   exact sr (Nb O (.ret (rt Y f)))
theorem p37 {x0 a r}(b:Rd W K [a] x0)(Y:Vm.zby x0=some r):Q1 37 [a] W [] fun W' v=>v=vB r:=
 (c37 (b.view _) Y).ad (fk 0) fun _ _ e=>e
theorem c13 {x0 a1 r}(h0:Rd W0 [0] [vI x0.Kind,vS x0.Branch,vS x0.Who,vS x0.Path,vS x0.To,vI x0.At,a1] x0)(k:Gl 2 W0 [0])(Y:Vm.zb6 x0=some r):Q0 13 [.agg [vI x0.Kind,vS x0.Branch,vS x0.Who,vS x0.Path,vS x0.To,vI x0.At,a1].toArray] W0 fun Wf v=>v=vB r:=by
 unfold Vm.zb6 at Y
 obtain⟨cq,a3,Z⟩:=Op.split h0
 simp only[List.cons.injEq,and_true,true_and]at a3
 obtain rfl:=a3
 refine zax.of Tryd.func13 O O O O (sr (bo 2 O fun g1 W1 l1 b1=>?_))
 have a2:=l1.o
 refine Nb O (Cw.seq ?_)
 obtain⟨K5,bk,Y⟩:=zcP Y
 refine Cw.join 7 16 [16] (fun l w=> ∃ y3 W4,CW.w W4=w/\Le [] W1 W4/\l=[vB y3]/\K5 y3=some r) ?_ ?_
 ·rintro _ _ σ ⟨y3,W4,rfl,l4,rfl,Y⟩
  rw[bk]at Y
  have a6:=a2.n l4
  refine cn Y (fun Y=>?_) fun Y=>?_
  ·exact sr (Nb O (.ret (rt Y a6)))
  ·refine sk (Cw.seq (Cw.draw [] [(0,0),(1,1),(2,0),(3,0),(4,1),(5,0),(6,0),(7,1),(8,0),(9,0),(10,1),(11,0),(12,0),(13,0),(14,0),(15,0),(16,0)] mixed (by kernel_rfl) fun f l9=>?_))
   have b:=a6.n l9
   have a:=(b1.up l4).up l9
   refine Dfl a O O O (Mw.p O O (fun _=>R.seq O O) (Dfl a O O O (Mw.p O O (fun _=>R.seq O O) (Dfl a O O O (Mw.p O O (fun _=>R.eq O O) (Dfl a O O O (Mw.p O O (fun _=>zth (xs:=x0.Text) (Z.ul b) O) (Mw.p O O (fun _=>R.eq O O) (Hb O (Hb O (Hb O (Hb O (Mw.nil (ssr (fl a O (nl (Cw.block (sr (Lw.eq O (Nb O (cn Y (fun Y=>?_) fun Y=>?_)))))))))))))))))))))
   ·obtain⟨bl,bm,Y⟩:=zcP Y
    refine Cw.join 34 54 [2] (fun l w=> ∃ af ah,CW.w ah=w/\Le [] f ah/\l=[vB af]/\bl af=some r) ?_ ?_
    ·rintro _ _ σ ⟨af,ah,rfl,bn,rfl,Y⟩
     rw[bm]at Y
     have bp:=b.n bn
     exact .ret (rt Y bp)
    ·refine rg (fl a O (ca Y (fun _=>p36 (k.ul b)) fun ct bq Y d=>?_))
     have a8:=b.n d
     refine mb O (bs Y (fun x Y=>?_) fun x Y=>?_)
     ·refine wak 3 x (fl (a.up d) O (ca Y (fun _=>p37 (Z.ul a8)) fun cu br Y h=>?_))
      have a9:=a8.n h
      refine Pb x O (mb O (bs Y (fun y Y=>?_) fun y Y=>?_))
      ·refine wak 5 y (fl ((a.up d).up h) O (ca Y (fun _=>p39 (Z.ul a9)) fun cv cw Y P=>?_))
       have bu:=a9.n P
       refine ca Y (fun _=>p38 (k.ul bu)) fun cx ai Y aj=>Lw.r O (R.not O) (Pb y O (mb O (bs Y (fun z Y=>?_) fun z Y=>?_)))
       ·refine wak 1 z (mb O (Pb z O (mb O (bs Y (fun A Y=>?_) fun A Y=>?_))))
        ·exact wak 1 A (mb O (Pb A O (Nb O ((ag) ⟨(x0.At==0),ai,O,(((d.j h).j P).j aj).w,O,Y⟩))))
        ·exact psk 1 A O (Pb A O (Nb O ((ag) ⟨false,ai,O,(((d.j h).j P).j aj).w,O,Y⟩)))
       ·exact psk 1 z O (Pb z O (mb O (psk 1 O O (Pb O O (Nb O ((ag) ⟨false,ai,O,(((d.j h).j P).j aj).w,O,Y⟩))))))
      ·exact psk 5 y O (Pb y O (mb O (psk 1 O O (Pb O O (mb O (psk 1 O O (Pb O O (Nb O ((ag) ⟨false,br,O,(d.j h).w,O,Y⟩)))))))))
     ·exact psk 3 x O (Pb x O (mb O (psk 5 O O (Pb O O (mb O (psk 1 O O (Pb O O (mb O (psk 1 O O (Pb O O (Nb O ((ag) ⟨false,bq,O,d,O,Y⟩))))))))))))
   ·refine sr (Lw.eq O (Nb O (cn Y (fun Y=>?_) fun Y=>?_)))
    ·obtain⟨bv,bw,Y⟩:=zcP Y
     refine Cw.join 57 68 [2] (fun l w=> ∃ ak am,CW.w am=w/\Le [] f am/\l=[vB ak]/\bv ak=some r) ?_ ?_
     ·rintro _ _ σ ⟨ak,am,rfl,bz,rfl,Y⟩
      rw[bw]at Y
      have b0:=b.n bz
      exact .ret (rt Y b0)
     ·refine rg (fl a O (ca Y (fun _=>p36 (k.ul b)) fun cy Q Y S=>mb O (bs Y (fun B Y=>?_) fun B Y=>?_)))
      ·refine wak 1 B (mb O (Pb B O (mb O (bs Y (fun C Y=>?_) fun C Y=>?_))))
       ·refine wak 1 C (mb O (Pb C O (mb O (bs Y (fun D Y=>?_) fun D Y=>?_))))
        ·exact wak 1 D (mb O (Pb D O (Nb O ((ag) ⟨((x0.Text.length:Int)==0),Q,O,S,O,Y⟩))))
        ·exact psk 1 D O (Pb D O (Nb O ((ag) ⟨false,Q,O,S,O,Y⟩)))
       ·exact psk 1 C O (Pb C O (mb O (psk 1 O O (Pb O O (Nb O ((ag) ⟨false,Q,O,S,O,Y⟩))))))
      ·exact psk 1 B O (Pb B O (mb O (psk 1 O O (Pb O O (mb O (psk 1 O O (Pb O O (Nb O ((ag) ⟨false,Q,O,S,O,Y⟩)))))))))
    ·refine sr (Lw.eq O (Nb O (cn Y (fun Y=>?_) fun Y=>?_)))
     ·obtain⟨b2,b3,Y⟩:=zcP Y
      refine Cw.join 71 84 [2] (fun l w=> ∃ an ao,CW.w ao=w/\Le [] f ao/\l=[vB an]/\b2 an=some r) ?_ ?_
      ·rintro _ _ σ ⟨an,ao,rfl,b4,rfl,Y⟩
       rw[b3]at Y
       have b5:=b.n b4
       exact .ret (rt Y b5)
      ·refine rg (fl a O (ca Y (fun _=>p36 (k.ul b)) fun cz b6 Y i=>?_))
       have b7:=b.n i
       refine mb O (bs Y (fun E Y=>?_) fun E Y=>?_)
       ·refine wak 3 E (fl (a.up i) O (ca Y (fun _=>p36 (k.ul b7)) fun c0 ap Y aq=>Pb E O (mb O (bs Y (fun F Y=>?_) fun F Y=>?_))))
        ·refine wak 1 F (mb O (Pb F O (mb O (bs Y (fun G Y=>?_) fun G Y=>?_))))
         ·exact wak 1 G (mb O (Pb G O (Nb O ((ag) ⟨((x0.Text.length:Int)==0),ap,O,(i.j aq).w,O,Y⟩))))
         ·exact psk 1 G O (Pb G O (Nb O ((ag) ⟨false,ap,O,(i.j aq).w,O,Y⟩)))
        ·exact psk 1 F O (Pb F O (mb O (psk 1 O O (Pb O O (Nb O ((ag) ⟨false,ap,O,(i.j aq).w,O,Y⟩))))))
       ·exact psk 3 E O (Pb E O (mb O (psk 1 O O (Pb O O (mb O (psk 1 O O (Pb O O (Nb O ((ag) ⟨false,b6,O,i,O,Y⟩)))))))))
     ·obtain⟨b8,b9,Y⟩:=zcP Y
      refine Cw.join 85 87 [85] (fun l w=> ∃ ar e,CW.w e=w/\Le [] f e/\l=[vB ar]/\b8 ar=some r) ?_ ?_
      ·rintro _ _ σ ⟨ar,e,rfl,au,rfl,Y⟩
       rw[b9]at Y
       have ba:=b.n au
       refine cn Y (fun Y=>?_) fun Y=>?_
       ·obtain⟨cb,cc,Y⟩:=zcP Y
        refine Cw.join 88 99 [2] (fun l w=> ∃ av aw,CW.w aw=w/\Le [] e aw/\l=[vB av]/\cb av=some r) ?_ ?_
        ·rintro _ _ σ ⟨av,aw,rfl,cd,rfl,Y⟩
         rw[cc]at Y
         have ce:=ba.n cd
         exact .ret (rt Y ce)
        ·refine rg (fl (a.up au) O (ca Y (fun _=>p35) fun c1 T Y U=>mb O (bs Y (fun H Y=>?_) fun H Y=>?_)))
         ·refine wak 1 H (mb O (Pb H O (mb O (bs Y (fun I Y=>?_) fun I Y=>?_))))
          ·refine wak 1 I (mb O (Pb I O (mb O (bs Y (fun J Y=>?_) fun J Y=>?_))))
           ·exact wak 1 J (mb O (Pb J O (Nb O ((ag) ⟨((x0.Text.length:Int)==0),T,O,U,O,Y⟩))))
           ·exact psk 1 J O (Pb J O (Nb O ((ag) ⟨false,T,O,U,O,Y⟩)))
          ·exact psk 1 I O (Pb I O (mb O (psk 1 O O (Pb O O (Nb O ((ag) ⟨false,T,O,U,O,Y⟩))))))
         ·exact psk 1 H O (Pb H O (mb O (psk 1 O O (Pb O O (mb O (psk 1 O O (Pb O O (Nb O ((ag) ⟨false,T,O,U,O,Y⟩)))))))))
       ·obtain⟨cf,cg,Y⟩:=zcP Y
        refine Cw.join 100 102 [100] (fun l w=> ∃ ax V,CW.w V=w/\Le [] e V/\l=[vB ax]/\cf ax=some r) ?_ ?_
        ·rintro _ _ σ ⟨ax,V,rfl,bb,rfl,Y⟩
         rw[cg]at Y
         have bc:=ba.n bb
         refine cn Y (fun Y=>?_) fun Y=>?_
         ·obtain⟨ch,ci,Y⟩:=zcP Y
          refine Cw.join 103 114 [2] (fun l w=> ∃ ay az,CW.w az=w/\Le [] V az/\l=[vB ay]/\ch ay=some r) ?_ ?_
          ·rintro _ _ σ ⟨ay,az,rfl,cj,rfl,Y⟩
           rw[ci]at Y
           have ck:=bc.n cj
           exact .ret (rt Y ck)
          ·refine rg (fl ((a.up au).up bb) O (ca Y (fun _=>p40) fun c2 W Y X=>mb O (bs Y (fun K Y=>?_) fun K Y=>?_)))
           ·refine wak 1 K (mb O (Pb K O (mb O (bs Y (fun L Y=>?_) fun L Y=>?_))))
            ·refine wak 1 L (mb O (Pb L O (mb O (bs Y (fun M Y=>?_) fun M Y=>?_))))
             ·exact wak 1 M (mb O (Pb M O (Nb O ((ag) ⟨((x0.Text.length:Int)==0),W,O,X,O,Y⟩))))
             ·exact psk 1 M O (Pb M O (Nb O ((ag) ⟨false,W,O,X,O,Y⟩)))
            ·exact psk 1 L O (Pb L O (mb O (psk 1 O O (Pb O O (Nb O ((ag) ⟨false,W,O,X,O,Y⟩))))))
           ·exact psk 1 K O (Pb K O (mb O (psk 1 O O (Pb O O (mb O (psk 1 O O (Pb O O (Nb O ((ag) ⟨false,W,O,X,O,Y⟩)))))))))
         ·exact sk (sr (Nb O (.ret (rt Y bc))))
        ·refine sr (Lw.eq O (Nb O (cn Y (fun Y=>?_) fun Y=>?_)))
         ·exact sk ((ag) ⟨(x0.Kind==6),e,O,Le.refl _ _,O,Y⟩)
         ·exact rg (Lw.eq O (Nb O ((ag) ⟨(x0.Kind==7),e,O,Le.refl _ _,O,Y⟩)))
      ·refine sr (Lw.eq O (Nb O (cn Y (fun Y=>?_) fun Y=>?_)))
       ·exact sk ((ag) ⟨(x0.Kind==4),f,O,Le.refl _ _,O,Y⟩)
       ·exact rg (Lw.eq O (Nb O ((ag) ⟨(x0.Kind==5),f,O,Le.refl _ _,O,Y⟩)))
 ·refine rg (fl b1 O (ca Y (fun _=>p35) fun c3 cl Y a0=>Lw.r O (R.not O) (mb O (bs Y (fun N Y=>?_) fun N Y=>?_))))
  ·exact psk 4 N O (Pb N O (nl ((ag) ⟨true,cl,O,a0,O,Y⟩)))
  ·exact wak 4 N (fl (b1.up a0) O (ca Y (fun _=>p35) fun cm co Y cp=>Lw.r O (R.not O) (Pb N O (nl ((ag) ⟨(!cm),co,O,(a0.j cp).w,O,Y⟩)))))
theorem p13 {x0 a r}(b:Rd W K [vI x0.Kind,vS x0.Branch,vS x0.Who,vS x0.Path,vS x0.To,vI x0.At,a] x0)(d:Gl 2 W K)(Y:Vm.zb6 x0=some r):Q1 13 [.agg [vI x0.Kind,vS x0.Branch,vS x0.Who,vS x0.Path,vS x0.To,vI x0.At,a].toArray] W [] fun W' v=>v=vB r:=
 (c13 (b.view _) (d.view _) Y).ad (fk 0) fun _ _ e=>e
theorem c24 {r}(Y:Vm.zbT=some r):Q0 24 [] W0 fun Wf v=> ∃ a,v=a/\OwS Wf LL [] [a] r:=by
 unfold Vm.zbT at Y
 refine zax.of Tryd.func24 O O O O (sr (Nv (.slice none 0 0) O (sr (Lw.t O (T.bsS (α:=Str) (xs:=[([]:Str),([115,101,116]:Str),([100,114,111,112]:Str),([109,111,118,101]:Str),([102,111,114,107]:Str),([117,110,105,116,101]:Str),([112,105,99,107]:Str),([98,97,99,107]:Str)]) 2 [] (W:=W0) [vS ([]:Str),vS ([115,101,116]:Str),vS ([100,114,111,112]:Str),vS ([109,111,118,101]:Str),vS ([102,111,114,107]:Str),vS ([117,110,105,116,101]:Str),vS ([112,105,99,107]:Str),vS ([98,97,99,107]:Str)] (Each.cons ((rdS _)) (Each.cons ((rdS _)) (Each.cons ((rdS _)) (Each.cons ((rdS _)) (Each.cons ((rdS _)) (Each.cons ((rdS _)) (Each.cons ((rdS _)) (Each.cons ((rdS _)) Each.nil)))))))) O) ?_))))
 rintro b _ ⟨h,rfl,d,e⟩
 have f:=d.o
 refine Nv b O ?_
 cases Y
 exact Cw.ret (zpA O (Res.mk f ⟨b,O,e.s.sub O O⟩))
theorem p24 {k0 r}(Y:Vm.zbT=some r):Q1 24 [] W [] fun W' v=> ∃ a,v=a/\Ow W' k0 [] [a] r:=
 (c24 (W0:=W.view [] []) Y).ad (fk k0) fun _ _ ⟨a,e,b⟩=>⟨a,e,b.back (zky _)⟩
theorem c51 {x0 d r}(e:Rd W0 [0] [d] x0)(Y:Vm.zaT x0=some r):Q0 51 [d] W0 fun Wf v=>v=vS r:=by
 unfold Vm.zaT at Y
 refine zax.of Tryd.func51 O O O O (sr (Ns O (sr (Ns O (ssr (mv d O (Lw.ln x0 e O (mi O (nl (Cw.block ?_))))))))))
 obtain⟨y,z,Y⟩:=zcP Y
 refine Cw.loop 8 16 [3,5,8] (fun m l w=> ∃ f a i b,CW.w b=w/\Le [] W0 b/\l=[vS f,i,vI a]/\Vm.zap x0 y m f a=some r) _ ⟨([]:Str),0,undef,W0,O,Le.refl _ _,O,Y⟩ ?_
 rintro(_ |E) _ _ σ ⟨f,a,i,b,rfl,k,rfl,Y⟩
 ·cases Y
 unfold Vm.zap at Y
 have h:=k.o
 refine sr (Lw.lt O (nl (Cw.seq (cn Y (fun Y=>?_) fun Y=>?_))))
 ·refine sk (Cw.seq (Cw.block (sr ?_)))
  obtain⟨A,x,Y⟩:=ob Y
  refine Lw.r O (R.ix (α:=Str) (e.ul h) x O O O) (Lw.r O (R.ld O O ((e.ul h).at_ x).str) (Ns O (rg (ms O (ms O ?_)))))
  obtain⟨F,B,Y⟩:=ob Y
  refine Lw.r O (R.sad B O O) ?_
  obtain⟨C,D,Y⟩:=ob Y
  exact Lw.r O (R.sad D O O) (Ns O (rg (Lw.add O (mi O (nl ((agm) ⟨C,w64 (a+1),vS A,b,O,k,O,Y⟩))))))
 ·refine Cw.exit ?_
  rw[z]at Y
  exact sr (ms O (Ns O (.ret (rt Y h))))
theorem p51 {x0 a r}(b:Rd W K [a] x0)(Y:Vm.zaT x0=some r):Q1 51 [a] W [] fun W' v=>v=vS r:=
 (c51 (b.view _) Y).ad (fk 0) fun _ _ e=>e
theorem c27 {x0 aa r}(h0:Rd W0 [0] [vI x0.Kind,vS x0.Branch,vS x0.Who,vS x0.Path,vS x0.To,vI x0.At,aa] x0)(Y:Vm.zbF x0=some r):Q0 27 [.agg [vI x0.Kind,vS x0.Branch,vS x0.Who,vS x0.Path,vS x0.To,vI x0.At,aa].toArray] W0 fun Wf v=>v=vS r:=by
 unfold Vm.zbF at Y
 obtain⟨bu,ac,ao⟩:=Op.split h0
 simp only[List.cons.injEq,and_true,true_and]at ac
 obtain rfl:=ac
 refine zax.of Tryd.func27 O O O O (sr (bo 2 O fun a W1 l1 b1=>?_))
 have a2:=l1.o
 refine Ns O (Cw.seq ?_)
 obtain⟨f,e7,Y⟩:=ob Y
 obtain⟨z,ae,Y⟩:=ob Y
 obtain⟨A,av,Y⟩:=ob Y
 obtain⟨B,aw,Y⟩:=ob Y
 obtain⟨C,ax,Y⟩:=ob Y
 obtain⟨D,ay,Y⟩:=ob Y
 obtain⟨e,az,Y⟩:=ob Y
 refine Cw.par [[],[],[1],[0,1,2],[0,1,2,3],[0,1,2,3,4],[],[6],[0,1,2,3,4,5,6,7],[0,1,2,3,4,5,6,7,8],[],[10],[0,1,2,3,4,5,6,7,8,9,10,11],[0,1,2,3,4,5,6,7,8,9,10,11,12],[0,1,2,3,4,5,6,7,8,9,10,11,12,13]] [[],[],[1],[0,2],[0,3],[4],[],[6],[5,7],[8],[],[10],[9,11],[12],[13]] [[],[],[],[],[],[],[],[],[],[],[],[],[],[],[]] [[0],[1],[2],[0,3],[4],[5],[6],[7],[8],[9],[10],[11],[12],[13],[14]] [[3],[],[],[],[],[],[],[],[],[],[],[],[],[],[]] [0,1,2,3,4,5,6,7,8,9,10,11,12,13,14] [] [fun vs W=>Ow W 3 [] [(vs 0)] f,fun vs W=>(vs 1)=ptr ((bx a).add 0),fun vs W=>(vs 2)=vI x0.Kind,fun vs W=>(vs 3)=ptr ((slA (vs 0)).add ((x0.Kind).toNat*Rp.sz (Str))),fun vs W=>(vs 4)=vS z,fun vs W=>(vs 5)=vS A,fun vs W=>(vs 6)=ptr ((bx a).add 1),fun vs W=>(vs 7)=vS x0.Branch,fun vs W=>(vs 8)=vS B,fun vs W=>(vs 9)=vS C,fun vs W=>(vs 10)=ptr ((bx a).add 2),fun vs W=>(vs 11)=vS x0.Who,fun vs W=>(vs 12)=vS D,fun vs W=>(vs 13)=vS e,fun vs W=>(vs 14)=vS e] [] mixed (by kernel_rfl) O zi3.nil ?_
 intro bw af
 have a0:=a2.n af
 have k:=b1.up af
 refine⟨(zaK.cons ?_ (zaK.cons ?_ (zaK.cons ?_ (zaK.cons ?_ (zaK.cons ?_ (zaK.cons ?_ (zaK.cons ?_ (zaK.cons ?_ (zaK.cons ?_ (zaK.cons ?_ (zaK.cons ?_ (zaK.cons ?_ (zaK.cons ?_ (zaK.cons ?_ (zaK.cons ?_ zaK.nil))))))))))))))),(zb9.cons SO (zb9.cons SE (zb9.cons SE (zb9.cons (fun vs vs' W W' _ hv l hd h=>by(show(vs' 3)=ptr ((slA (vs' 0)).add ((x0.Kind).toNat*Rp.sz (Str))));rw[hv 0 (zbd O),hv 3 (zbd O)];exact h) (zb9.cons SE (zb9.cons SE (zb9.cons SE (zb9.cons SE (zb9.cons SE (zb9.cons SE (zb9.cons SE (zb9.cons SE (zb9.cons SE (zb9.cons SE (zb9.cons SE zb9.nil))))))))))))))),?_⟩
 ·intro vs bz lW hN hV
  refine Tr.mono (T.call O (p24 (k0:=3) e7)) ?_
  rintro a1 _ ⟨ah,rfl,a3,⟨_,rfl,a4⟩⟩
  exact⟨ah,O,a3,(show Ow ah 3 [] [a1] f from a4)⟩
 ·intro vs b0 lW hN hV
  exact Trq (R.fa O) O
 ·intro vs b2 lW hN hV
  have E:vs 1=ptr ((bx a).add 0):=(hN 1 (zbd O))
  obtain⟨vs,rfl⟩:=zal E
  exact Trq (R.ld (v:=vI x0.Kind) O O ((k.up lW O).cell O)) O
 ·intro vs a5 lW hN hV
  obtain⟨d,i⟩: ∃ v,vs 0=v:=⟨_,O⟩
  obtain⟨vs,rfl⟩:=zal i
  have a6:Ow a5 3 [] [d] f:=(hN 0 (zbd O))
  have F:vs 2=vI x0.Kind:=(hN 2 (zbd O))
  obtain⟨vs,rfl⟩:=zal F
  exact Trq (R.ix (α:=Str) a6.rd ae O O O) O
 ·intro vs a7 lW hN hV
  obtain⟨d,i⟩: ∃ v,vs 0=v:=⟨_,O⟩
  obtain⟨vs,rfl⟩:=zal i
  have a8:Ow a7 3 [] [d] f:=(hN 0 (zbd O))
  have G:vs 3=ptr ((slA d).add ((x0.Kind).toNat*Rp.sz (Str))):=(hN 3 (zbd O))
  obtain⟨vs,rfl⟩:=zal G
  exact Trq (R.ld O O (a8.rd.at_ ae).str) O
 ·intro vs b3 lW hN hV
  have H:vs 4=vS z:=(hN 4 (zbd O))
  obtain⟨vs,rfl⟩:=zal H
  exact Trq (R.sad av O O) O
 ·intro vs b4 lW hN hV
  exact Trq (R.fa O) O
 ·intro vs b5 lW hN hV
  have I:vs 6=ptr ((bx a).add 1):=(hN 6 (zbd O))
  obtain⟨vs,rfl⟩:=zal I
  exact Trq (R.ld (v:=vS x0.Branch) O O ((k.up lW O).cell O)) O
 ·intro vs b6 lW hN hV
  have J:vs 5=vS A:=(hN 5 (zbd O))
  obtain⟨vs,rfl⟩:=zal J
  have K:vs 7=vS x0.Branch:=(hN 7 (zbd O))
  obtain⟨vs,rfl⟩:=zal K
  exact Trq (R.sad aw O O) O
 ·intro vs b7 lW hN hV
  have L:vs 8=vS B:=(hN 8 (zbd O))
  obtain⟨vs,rfl⟩:=zal L
  exact Trq (R.sad ax O O) O
 ·intro vs b8 lW hN hV
  exact Trq (R.fa O) O
 ·intro vs b9 lW hN hV
  have M:vs 10=ptr ((bx a).add 2):=(hN 10 (zbd O))
  obtain⟨vs,rfl⟩:=zal M
  exact Trq (R.ld (v:=vS x0.Who) O O ((k.up lW O).cell O)) O
 ·intro vs cb lW hN hV
  have N:vs 9=vS C:=(hN 9 (zbd O))
  obtain⟨vs,rfl⟩:=zal N
  have P:vs 11=vS x0.Who:=(hN 11 (zbd O))
  obtain⟨vs,rfl⟩:=zal P
  exact Trq (R.sad ay O O) O
 ·intro vs cc lW hN hV
  have Q:vs 12=vS D:=(hN 12 (zbd O))
  obtain⟨vs,rfl⟩:=zal Q
  exact Trq (R.sad az O O) O
 ·intro vs cd lW hN hV
  have S:vs 13=vS e:=(hN 13 (zbd O))
  obtain⟨vs,rfl⟩:=zal S
  exact Trq (R.as (v:=vS e) O) O
 ·intro vs x ai hN
  have y:=a0.n ai
  have b:=k.up ai
  obtain⟨d,i⟩: ∃ v,vs 0=v:=⟨_,O⟩
  obtain⟨vs,rfl⟩:=zal i
  have ce:Ow x 3 [] [d] f:=(hN 0 (zbd O))
  have E:vs 1=ptr ((bx a).add 0):=(hN 1 (zbd O))
  obtain⟨vs,rfl⟩:=zal E
  have F:vs 2=vI x0.Kind:=(hN 2 (zbd O))
  obtain⟨vs,rfl⟩:=zal F
  have G:vs 3=ptr ((slA d).add ((x0.Kind).toNat*Rp.sz (Str))):=(hN 3 (zbd O))
  obtain⟨vs,rfl⟩:=zal G
  have H:vs 4=vS z:=(hN 4 (zbd O))
  obtain⟨vs,rfl⟩:=zal H
  have J:vs 5=vS A:=(hN 5 (zbd O))
  obtain⟨vs,rfl⟩:=zal J
  have I:vs 6=ptr ((bx a).add 1):=(hN 6 (zbd O))
  obtain⟨vs,rfl⟩:=zal I
  have K:vs 7=vS x0.Branch:=(hN 7 (zbd O))
  obtain⟨vs,rfl⟩:=zal K
  have L:vs 8=vS B:=(hN 8 (zbd O))
  obtain⟨vs,rfl⟩:=zal L
  have N:vs 9=vS C:=(hN 9 (zbd O))
  obtain⟨vs,rfl⟩:=zal N
  have M:vs 10=ptr ((bx a).add 2):=(hN 10 (zbd O))
  obtain⟨vs,rfl⟩:=zal M
  have P:vs 11=vS x0.Who:=(hN 11 (zbd O))
  obtain⟨vs,rfl⟩:=zal P
  have Q:vs 12=vS D:=(hN 12 (zbd O))
  obtain⟨vs,rfl⟩:=zal Q
  have S:vs 13=vS e:=(hN 13 (zbd O))
  obtain⟨vs,rfl⟩:=zal S
  have a9:vs 14=vS e:=(hN 14 (zbd O))
  obtain⟨vs,rfl⟩:=zal a9
  refine ssr (fl b O (nl (Cw.block (sr (Lw.eq O (Nb O (cn Y (fun Y=>?_) fun Y=>?_)))))))
  ·refine Cw.seq (Cw.draw [] [(0,0),(1,0),(2,1),(3,0),(4,0),(5,0),(6,1),(7,2),(8,0),(9,0)] mixed (by kernel_rfl) fun cf U=>?_)
   have aj:=y.n U
   refine Ds O (Dfl (b.up U) O O O ?_)
   obtain⟨cg,ba,Y⟩:=ob Y
   refine Mw.p O O (fun _=>R.sad ba O O) ?_
   obtain⟨ch,bb,Y⟩:=ob Y
   refine Mw.p O O (fun _=>R.sad bb O O) (Dfl (b.up U) O O O ?_)
   obtain⟨ci,bc,Y⟩:=ob Y
   refine Mw.t O O (T.call O (p51 (ao.ul aj) bc)) ?_
   rintro _ _ ⟨cj,rfl,ak,rfl⟩
   have be:=aj.n ak
   refine m0 ak fun ck=>?_
   obtain⟨cl,bg,Y⟩:=ob Y
   exact Mw.p O O (fun _=>R.sad bg O O) (Hs O (Mw.nil (.ret (rt Y be))))
  ·refine sr (Lw.eq O (Nb O (cn Y (fun Y=>?_) fun Y=>?_)))
   ·refine sr (ms O (fl b O ?_))
    obtain⟨cm,bh,Y⟩:=ob Y
    exact Lw.r O (R.sad bh O O) (Ns O (.ret (rt Y y)))
   ·refine sr (Lw.eq O (Nb O (cn Y (fun Y=>?_) fun Y=>?_)))
    ·refine sr (ms O (fl b O ?_))
     obtain⟨co,bi,Y⟩:=ob Y
     refine Lw.r O (R.sad bi O O) ?_
     obtain⟨cp,bj,Y⟩:=ob Y
     refine Lw.r O (R.sad bj O O) (fl b O ?_)
     obtain⟨cq,bk,Y⟩:=ob Y
     exact Lw.r O (R.sad bk O O) (Ns O (.ret (rt Y y)))
    ·obtain⟨bl,bm,Y⟩:=zcP Y
     refine Cw.join 47 49 [47] (fun l w=> ∃ V X,CW.w X=w/\Le [] x X/\l=[vB V]/\bl V=some r) ?_ ?_
     ·rintro _ _ σ ⟨V,X,rfl,Z,rfl,Y⟩
      rw[bm]at Y
      have am:=y.n Z
      refine cn Y (fun Y=>?_) fun Y=>?_
      ·refine sr (ms O (fl (b.up Z) O ?_))
       obtain⟨cs,bn,Y⟩:=ob Y
       exact Lw.r O (R.sad bn O O) (Ns O (.ret (rt Y am)))
      ·refine sk (sr (ms O (fl (b.up Z) O (ca Y (fun _=>p52) fun ct cu Y bp=>?_))))
       have bq:=am.n bp
       obtain⟨cv,br,Y⟩:=ob Y
       exact Lw.r O (R.sad br O O) (Ns O (.ret (rt Y bq)))
     ·refine sr (Lw.eq O (Nb O (cn Y (fun Y=>?_) fun Y=>?_)))
      ·exact sk ((ag) ⟨(x0.Kind==4),x,O,Le.refl _ _,O,Y⟩)
      ·exact rg (Lw.eq O (Nb O ((ag) ⟨(x0.Kind==5),x,O,Le.refl _ _,O,Y⟩)))
theorem p27 {x0 a r}(b:Rd W K [vI x0.Kind,vS x0.Branch,vS x0.Who,vS x0.Path,vS x0.To,vI x0.At,a] x0)(Y:Vm.zbF x0=some r):Q1 27 [.agg [vI x0.Kind,vS x0.Branch,vS x0.Who,vS x0.Path,vS x0.To,vI x0.At,a].toArray] W [] fun W' v=>v=vS r:=
 (c27 (b.view _) Y).ad (fk 0) fun _ _ e=>e
theorem c10 {x0 d r}(k:Rd W0 [0] [vI x0.Kind,vS x0.Branch,vS x0.Who,vS x0.Path,vS x0.To,vI x0.At,d] x0)(x:Gl 2 W0 [0])(Y:Vm.zbU x0=some r):Q0 10 [.agg [vI x0.Kind,vS x0.Branch,vS x0.Who,vS x0.Path,vS x0.To,vI x0.At,d].toArray] W0 fun Wf v=>v=vS r:=by
 unfold Vm.zbU at Y
 obtain⟨B,e,f⟩:=Op.split k
 simp only[List.cons.injEq,and_true,true_and]at e
 obtain rfl:=e
 refine zax.of Tryd.func10 O O O O (sr (bo 2 O fun C D y h=>?_))
 have a:=y.o
 refine Ns O (ssr (la h (ca Y (fun _=>p13 (Op.rd (K:=[0]) x0.Kind x0.Branch x0.Who x0.Path x0.To x0.At x0.Text (f.ul a)) (x.ul a)) fun E F Y i=>?_)))
 have b:=a.n i
 refine Lw.r O (R.not O) (nl (cn Y (fun Y=>?_) fun Y=>?_))
 ·exact sr (Ns O (.ret (rt Y b)))
 ·refine sk (sr (la (h.up i) (ca Y (fun _=>p27 (Op.rd (K:=[0]) x0.Kind x0.Branch x0.Who x0.Path x0.To x0.At x0.Text (f.ul b))) fun G H Y z=>?_)))
  have A:=b.n z
  exact Ns O (.ret (rt Y A))
theorem p10 {x0 a r}(b:Rd W K [vI x0.Kind,vS x0.Branch,vS x0.Who,vS x0.Path,vS x0.To,vI x0.At,a] x0)(d:Gl 2 W K)(Y:Vm.zbU x0=some r):Q1 10 [.agg [vI x0.Kind,vS x0.Branch,vS x0.Who,vS x0.Path,vS x0.To,vI x0.At,a].toArray] W [] fun W' v=>v=vS r:=
 (c10 (b.view _) (d.view _) Y).ad (fk 0) fun _ _ e=>e
theorem c43 {x0 b x1 e r}(d:Rd W0 [0] [b] x0)(f:Rd W0 [0] [e] x1)(Y:Vm.zaU x0 x1=some r):Q0 43 [b,e] W0 fun Wf v=>v=vB r:=by
 unfold Vm.zaU at Y
 refine zax.of Tryd.func43 O O O O (sr (Nb O (ssr (mv b O (Lw.ln x0 d O (mv e O (Lw.ln x1 f O (Lw.ne O (nl (cn Y (fun Y=>?_) fun Y=>?_))))))))))
 ·exact sr (Nb O (.ret (rt Y (Le.refl _ _))))
 ·refine sk (ssr (Ni O (Cw.block ?_)))
  obtain⟨B,C,Y⟩:=zcP Y
  refine Cw.loop 11 25 [4,5] (fun m l w=> ∃ h i k,CW.w k=w/\Le [] W0 k/\l=[vB h,vI i]/\Vm.zaq x0 x1 B m h i=some r) _ ⟨false,0,W0,O,Le.refl _ _,O,Y⟩ ?_
  rintro(_ |E) _ _ σ ⟨h,i,k,rfl,A,rfl,Y⟩
  ·cases Y
  unfold Vm.zaq at Y
  have x:=A.o
  refine ssr (mi O (mv b O (Lw.ln x0 (d.ul x) O (Lw.lt O (nl (cn Y (fun Y=>?_) fun Y=>?_))))))
  ·refine sk (Cw.seq (Cw.block (Cw.seq (Cw.draw [] [(0,0),(1,0),(2,0),(3,1),(4,0),(5,0),(6,0),(7,1),(8,0)] mixed (by kernel_rfl) fun D l10=>?_))))
   have a:=x.n l10
   refine Dv b O (Di O ?_)
   obtain⟨F,y,Y⟩:=ob Y
   refine Mw.p O O (fun _=>R.ix (α:=Str) (d.ul a) y O O O) (Mw.q O O (fun _ c=>R.ld O O (zkw ((d.ul a).at_ y).1 O ((d.ul a).at_ y).str c)) (Dv e O (Di O ?_)))
   obtain⟨G,z,Y⟩:=ob Y
   refine Mw.p O O (fun _=>R.ix (α:=Str) (f.ul a) z O O O) (Mw.q O O (fun _ c=>R.ld O O (zkw ((f.ul a).at_ z).1 O ((f.ul a).at_ z).str c)) (Mw.p O O (fun _=>R.sne O O) (Mw.nil (cn Y (fun Y=>?_) fun Y=>?_))))
   ·exact sr (Nb O (.ret (rt Y a)))
   ·exact sk (rg (mi O (Lw.add O (Ni O ((agm) ⟨h,w64 (i+1),D,O,(A.j l10).w,O,Y⟩)))))
  ·refine Cw.exit ?_
   rw[C]at Y
   exact sr (Nb O (.ret (rt Y x)))
theorem p43 {x0 a x1 b r}(d:Rd W K [a] x0)(f:Rd W K [b] x1)(Y:Vm.zaU x0 x1=some r):Q1 43 [a,b] W [] fun W' v=>v=vB r:=
 (c43 (d.view _) (f.view _) Y).ad (fk 0) fun _ _ e=>e
theorem c17 {x0 e x1 f r}(y:Rd W0 [0] [vI x0.Kind,vS x0.Branch,vS x0.Who,vS x0.Path,vS x0.To,vI x0.At,e] x0)(z:Rd W0 [0] [vI x1.Kind,vS x1.Branch,vS x1.Who,vS x1.Path,vS x1.To,vI x1.At,f] x1)(Y:Vm.zc1 x0 x1=some r):Q0 17 [.agg [vI x0.Kind,vS x0.Branch,vS x0.Who,vS x0.Path,vS x0.To,vI x0.At,e].toArray, .agg [vI x1.Kind,vS x1.Branch,vS x1.Who,vS x1.Path,vS x1.To,vI x1.At,f].toArray] W0 fun Wf v=>v=vB r:=by
 unfold Vm.zc1 at Y
 obtain⟨G,h,A⟩:=Op.split y
 simp only[List.cons.injEq,and_true,true_and]at h
 obtain rfl:=h
 obtain⟨H,i,B⟩:=Op.split z
 simp only[List.cons.injEq,and_true,true_and]at i
 obtain rfl:=i
 refine zax.of Tryd.func17 O O O O (sr (bo 2 O fun I J C D=>?_))
 have E:=C.o
 refine bo 3 O fun K L k b=>?_
 have a:=E.n k
 have d:=D.up k
 refine Nb O (ssr (fl d O (fl b O (Lw.ne O (nl (cn Y (fun Y=>?_) fun Y=>?_))))))
 ·exact sr (Nb O (.ret (rt Y a)))
 ·refine sk (ssr (fl d O (fl b O (Lw.sne O (nl (cn Y (fun Y=>?_) fun Y=>?_))))))
  ·exact sr (Nb O (.ret (rt Y a)))
  ·refine sk (ssr (fl d O (fl b O (Lw.sne O (nl (cn Y (fun Y=>?_) fun Y=>?_))))))
   ·exact sr (Nb O (.ret (rt Y a)))
   ·refine sk (ssr (fl d O (fl b O (Lw.sne O (nl (cn Y (fun Y=>?_) fun Y=>?_))))))
    ·exact sr (Nb O (.ret (rt Y a)))
    ·refine sk (ssr (fl d O (fl b O (Lw.sne O (nl (cn Y (fun Y=>?_) fun Y=>?_))))))
     ·exact sr (Nb O (.ret (rt Y a)))
     ·refine sk (ssr (fl d O (fl b O (Lw.ne O (nl (cn Y (fun Y=>?_) fun Y=>?_))))))
      ·exact sr (Nb O (.ret (rt Y a)))
      ·refine sk (ssr (fl d O (fl b O (ca Y (fun _=>p43 (A.ul a) (B.ul a)) fun M N Y F=>?_))))
       have x:=a.n F
       refine Lw.r O (R.not O) (nl (cn Y (fun Y=>?_) fun Y=>?_))
       ·exact sr (Nb O (.ret (rt Y x)))
       ·exact sk (sr (Nb O (.ret (rt Y x))))
theorem p17 {x0 a x1 b r}(d:Rd W K [vI x0.Kind,vS x0.Branch,vS x0.Who,vS x0.Path,vS x0.To,vI x0.At,a] x0)(f:Rd W K [vI x1.Kind,vS x1.Branch,vS x1.Who,vS x1.Path,vS x1.To,vI x1.At,b] x1)(Y:Vm.zc1 x0 x1=some r):Q1 17 [.agg [vI x0.Kind,vS x0.Branch,vS x0.Who,vS x0.Path,vS x0.To,vI x0.At,a].toArray, .agg [vI x1.Kind,vS x1.Branch,vS x1.Who,vS x1.Path,vS x1.To,vI x1.At,b].toArray] W [] fun W' v=>v=vB r:=
 (c17 (d.view _) (f.view _) Y).ad (fk 0) fun _ _ e=>e
theorem c5 {x0 k r}(V:Rd W0 [0] [vI x0.Kind,vS x0.Branch,vS x0.Who,vS x0.Path,vS x0.To,vI x0.At,k] x0)(W:Gl 2 W0 [0])(Y:Vm.zaL x0=some r):Q0 5 [.agg [vI x0.Kind,vS x0.Branch,vS x0.Who,vS x0.Path,vS x0.To,vI x0.At,k].toArray] W0 fun Wf v=>v=vB r:=by
 unfold Vm.zaL at Y
 obtain⟨ao,C,e⟩:=Op.split V
 simp only[List.cons.injEq,and_true,true_and]at C
 obtain rfl:=C
 refine zax.of Tryd.func5 O O O O (sr (bo 2 O fun g1 W1 X x=>?_))
 have D:=X.o
 refine Nb O (sr (Ni O (sr (la x (mi O (ca Y (fun _=>p15 (Op.rd (K:=[0]) x0.Kind x0.Branch x0.Who x0.Path x0.To x0.At x0.Text (e.ul D))) fun z4 W6 Y y=>?_))))))
 have z:=D.n y
 refine Ni O (ssr (mi O (Lw.lt O (nl (cn Y (fun Y=>?_) fun Y=>?_)))))
 ·exact sr (Nb O (.ret (rt Y z)))
 ·refine sk (sr (la (x.up y) (cr Y (fun _=>p16 (k0:=3) (Op.rd (K:=[0]) x0.Kind x0.Branch x0.Who x0.Path x0.To x0.At x0.Text (e.ul z))) ?_)))
  rintro b _ av Y E ⟨aw,rfl,Z⟩
  have aa:=z.n E
  refine ca Y (fun _=>p12 (K:=[3]) (x0:=(Vm.Op.mk b.Kind b.Branch b.Who b.Path b.To b.At b.Text)) (Op.rd (K:=[3]) b.Kind b.Branch b.Who b.Path b.To b.At b.Text Z.rd)) fun ax ay Y F=>?_
  have G:=aa.n F
  have H:=((x.up y).up E).up F
  refine Ns O (sr (la H (cr Y (fun _=>p16 (k0:=4) (Op.rd (K:=[0]) x0.Kind x0.Branch x0.Who x0.Path x0.To x0.At x0.Text (e.ul G))) ?_)))
  rintro a _ az Y I ⟨ac,rfl,J⟩
  have ae:=G.n I
  refine al 5 [vI 0,vS ([]:Str),vS ([]:Str),vS ([]:Str),vS ([]:Str),vI 0, .slice none 0 0] fun a0 a1 f af=>?_
  have ah:=ae.n f
  refine sta af (zb4 O (zb4 O (zb4 O (zb4 O (zb4 O (zb4 O (zb4 (J.up f).oc zne))))))) fun a3 A L=>?_
  have N:=ah.t A
  have P:=(J.up f).up A
  refine nl (sr (la L (ca Y (fun _=>p10 (K:=[0,4]) (x0:=(Vm.Op.mk a.Kind a.Branch a.Who a.Path a.To a.At a.Text)) ((Op.rd (K:=[4]) a.Kind a.Branch a.Who a.Path a.To a.At a.Text P.rd).sub (M:=[0,4]) O) ((W.ul N).sub (M:=[0,4]) O)) fun a4 a5 Y h=>?_)))
  have Q:=N.n h
  refine Ns O (ssr (ms O (ms O (Lw.sne O (nl (cn Y (fun Y=>?_) fun Y=>?_))))))
  ·exact sr (Nb O (.ret (rt Y Q)))
  ·refine sk (Cw.seq (Cw.seq (Cw.draw [] [(0,1),(1,1),(2,2),(3,3),(4,0)] mixed (by kernel_rfl) fun a6 i=>?_)))
   have S:=Q.n i
   refine Mw.q O O (fun _ c=>R.lda (cs:=[vI a.Kind,vS a.Branch,vS a.Who,vS a.Path,vS a.To,vI a.At,ac]) (((L.up h).up i).clcs O c) O O) (Mw.q O O (fun _ c=>R.lda (cs:=[vI x0.Kind,vS x0.Branch,vS x0.Who,vS x0.Path,vS x0.To,vI x0.At,k]) ((((((H.up I).up f).up A).up h).up i).clcs O c) O O) ?_)
   obtain⟨d,ai,Y⟩:=ob Y
   refine Mw.t O O (T.call O (p16 (k0:=6) (Op.rd (K:=[0]) x0.Kind x0.Branch x0.Who x0.Path x0.To x0.At x0.Text (e.ul S)) ai)) ?_
   rintro _ _ ⟨a8,rfl,B,⟨a9,rfl,aj⟩⟩
   have ak:=S.n B
   refine m0 B fun ba=>?_
   obtain⟨bb,am,Y⟩:=ob Y
   refine Mw.l O O (T.call O (p17 (K:=[4,6]) (x0:=(Vm.Op.mk a.Kind a.Branch a.Who a.Path a.To a.At a.Text)) (x1:=(Vm.Op.mk d.Kind d.Branch d.Who d.Path d.To d.At d.Text)) ((Op.rd (K:=[4]) a.Kind a.Branch a.Who a.Path a.To a.At a.Text (((P.up h).up i).up B).rd).sub (M:=[4,6]) O) ((Op.rd (K:=[6]) d.Kind d.Branch d.Who d.Path d.To d.At d.Text aj.rd).sub (M:=[4,6]) O) am)) ?_
   rintro _ _ ⟨bc,rfl,an,rfl⟩
   have U:=ak.n an
   refine Mw.p O O (fun _=>R.not O) (Mw.nil (cn Y (fun Y=>?_) fun Y=>?_))
   ·exact sr (Nb O (.ret (rt Y U)))
   ·exact sk (sr (Nb O (.ret (rt Y U))))
theorem p5 {x0 a r}(b:Rd W K [vI x0.Kind,vS x0.Branch,vS x0.Who,vS x0.Path,vS x0.To,vI x0.At,a] x0)(d:Gl 2 W K)(Y:Vm.zaL x0=some r):Q1 5 [.agg [vI x0.Kind,vS x0.Branch,vS x0.Who,vS x0.Path,vS x0.To,vI x0.At,a].toArray] W [] fun W' v=>v=vB r:=
 (c5 (b.view _) (d.view _) Y).ad (fk 0) fun _ _ e=>e
end Go.Sx
