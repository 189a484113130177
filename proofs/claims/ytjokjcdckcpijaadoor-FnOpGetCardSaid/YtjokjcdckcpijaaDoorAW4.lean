/- Walks: each function answers as its model, printed by a program of ours. Conditions: the arguments read as they are given. -/
import Derived.Test.YtjokjcdckcpijaaDoorATs
import Derived.Test.YtjokjcdckcpijaaDoorAM2
import Derived.Test.YtjokjcdckcpijaaDoorAW0
import Derived.Test.YtjokjcdckcpijaaDoorAW1
import Derived.Test.YtjokjcdckcpijaaDoorAW2
namespace Go.Sx
open Go Go.Proofs Go.Vm Rp
set_option linter.unusedVariables false
set_option linter.unusedSimpArgs false
variable {W W0:CW}{K:List Nat}
theorem c21 {x0 d e x1 r}(hB0:Bx W0 2 d [e,vI x0.p])(f:Rd W0 [0] [e] x0.b)(Y:Vm.zck x0 x1=some r):Q0 21 [ptr (bx d),vS x1] W0 fun Wf v=>v=vS r.1/\Bx Wf 2 d [e,vI r.2]:=by
 unfold Vm.zck at Y
 refine zaq.of Tryd.func21 O O O O (sr (Ns O (sr (mp O (ms O (Lw.r O (R.lenS O) (Lw.add O (cr Y (fun _=>p20 (c0:=2) (x0:=x0) hB0 f O) ?_))))))))
 rintro H _ I Y J ⟨rfl,L⟩
 have k:=J.s
 refine Ni O ?_
 obtain⟨N,P,Y⟩:=zcR Y
 refine Cw.join 11 42 [4] (fun l w=> ∃ x y h,CW.w h=w/\Le [2] I h/\l=[vS x]/\Bx h 2 d [e,vI y]/\N x y=some r) ?_ ?_
 ·rintro _ _ σ ⟨x,y,h,rfl,Q,rfl,S,Y⟩
  rw[P]at Y
  have U:=k.t Q
  refine sr (ms O (Ns O ?_))
  cases Y
  exact Cw.ret (ziK O (Res.mk U ⟨O,S⟩))
 ·refine sr (mp O (cr Y (fun _=>p20 (c0:=2) (x0:=(Vm.l30Rd.mk x0.b H.2)) L (f.ul k) O) ?_))
  rintro i _ z Y A ⟨rfl,a⟩
  have B:=k.t A
  refine nl (Cw.block (sr (Lw.eq O (Nb O (cn Y (fun Y=>?_) fun Y=>?_)))))
  ·refine sr (mi O (ms O (Lw.r O (R.lenS O) (Lw.lt O (nl (cn Y (fun Y=>?_) fun Y=>?_))))))
   ·refine Cw.seq (Cw.draw [] [(0,0),(1,0),(2,0),(3,0),(7,0),(8,0),(9,0),(10,0),(4,3),(5,3),(6,0),(11,0),(12,0)] mixed (by kernel_rfl) fun V C=>?_)
    have X:=B.n C
    refine Ds O (Di O ?_)
    obtain⟨au,Z,Y⟩:=ob Y
    refine Mw.p O O (fun _=>R.ss Z O (.inl ⟨O,O⟩) (.inr O)) (Dp O (Ds O (Di O (Mw.p O O (fun _=>R.add O O) ?_))))
    obtain⟨av,aa,Y⟩:=ob Y
    refine Mw.p O O (fun _=>R.ss aa O (.inr O) (.inl ⟨O,O⟩)) (Mw.l O O (T.bsS (α:=Str) (xs:=[([48]:Str),([49]:Str),([32]:Str),([45]:Str),([43]:Str),([10]:Str),([64]:Str),([124]:Str),([120]:Str)]) 3 [] (W:=V) [vS ([48]:Str),vS ([49]:Str),vS ([32]:Str),vS ([45]:Str),vS ([43]:Str),vS ([10]:Str),vS ([64]:Str),vS ([124]:Str),vS ([120]:Str)] (Each.cons ((rdS _)) (Each.cons ((rdS _)) (Each.cons ((rdS _)) (Each.cons ((rdS _)) (Each.cons ((rdS _)) (Each.cons ((rdS _)) (Each.cons ((rdS _)) (Each.cons ((rdS _)) (Each.cons ((rdS _)) Each.nil))))))))) O) ?_)
    rintro aw _ ⟨ax,rfl,D,ac⟩
    have E:=X.n D
    obtain⟨ay,ae,Y⟩:=ob Y
    refine Mw.l O O (T.call O (p45 (K:=[0,3]) (c0:=2) (x0:=(Vm.l30Rd.mk x0.b i.2)) ((a.up C).up D) ((f.ul E).sub (M:=[0,3]) O) (ac.rd.sub (M:=[0,3]) O) O ae)) ?_
    rintro _ _ ⟨az,rfl,af,⟨rfl,ah⟩⟩
    have ai:=E.t af
    obtain⟨a0,aj,Y⟩:=ob Y
    refine Mw.p O O (fun _=>R.sad aj O O) ?_
    obtain⟨a1,ak,Y⟩:=ob Y
    refine Mw.p O O (fun _=>R.sad ak O O) (Hs O (Mw.nil ?_))
    cases Y
    exact Cw.ret (ziK O (Res.mk ai ⟨O,ah⟩))
   ·exact sk ((ag) ⟨([]:Str),i.2,z,O,A,O,a,Y⟩)
  ·refine sr (Lw.eq O (Nb O (cn Y (fun Y=>?_) fun Y=>?_)))
   ·refine sr (ms O (mi O ?_))
    obtain⟨a2,am,Y⟩:=ob Y
    refine Lw.r O (R.ss am O (.inl ⟨O,O⟩) (.inr O)) (Ns O ?_)
    cases Y
    exact Cw.ret (ziK O (Res.mk B ⟨O,a⟩))
   ·refine sr (Lw.eq O (Nb O (cn Y (fun Y=>?_) fun Y=>?_)))
    ·refine sr (ms O (mp O (Lw.t O (T.bsS (α:=Str) (xs:=[([48]:Str),([32]:Str),([10]:Str),([124]:Str),([43,120,10]:Str)]) 4 [] (W:=z) [vS ([48]:Str),vS ([32]:Str),vS ([10]:Str),vS ([124]:Str),vS ([43,120,10]:Str)] (Each.cons ((rdS _)) (Each.cons ((rdS _)) (Each.cons ((rdS _)) (Each.cons ((rdS _)) (Each.cons ((rdS _)) Each.nil))))) O) ?_)))
     rintro a3 _ ⟨a5,rfl,F,an⟩
     have G:=B.n F
     refine cr Y (fun _=>p45 (K:=[0,4]) (c0:=2) (x0:=(Vm.l30Rd.mk x0.b i.2)) (a.up F) ((f.ul G).sub (M:=[0,4]) O) (an.rd.sub (M:=[0,4]) O) O) ?_
     rintro a6 _ a7 Y ao ⟨rfl,ap⟩
     have aq:=G.t ao
     obtain⟨a8,ar,Y⟩:=ob Y
     refine Lw.r O (R.sad ar O O) (Ns O ?_)
     cases Y
     exact Cw.ret (ziK O (Res.mk aq ⟨O,ap⟩))
    ·exact sk ((ag) ⟨([]:Str),i.2,z,O,A,O,a,Y⟩)
theorem p21 {x0 a d x1 c0 r}(hB0:Bx W c0 a [d,vI x0.p])(f:Rd W K [d] x0.b)(hJ:okJ K [c0]=true)(Y:Vm.zck x0 x1=some r):Q1 21 [ptr (bx a),vS x1] W [c0] fun W' v=>v=vS r.1/\Bx W' c0 a [d,vI r.2]:=
 zaq.adJ (J:=[c0]) (fun c=>bif Nat.beq c 0 then 0 else bif Nat.beq c 2 then c0 else 0) (c21 (hB0.viewJ 0 hJ) (f.view _) Y) fun _ _ ⟨e,h⟩=>⟨e,Bx.backJ 0 h O⟩
theorem c6 {x0 f r}(z:Rd W0 [0] [f] x0)(Y:Vm.zbL x0=some r):Q0 6 [f] W0 fun Wf v=>v=vS r:=by
 unfold Vm.zbL at Y
 refine zaq.of Tryd.func6 O O O O (sr (Ns O (sr (mv f O (cr Y (fun _=>p18 (k0:=2) z) ?_)))))
 rintro h _ N Y A ⟨P,Q,rfl,B,C⟩
 have i:=C.sub (M:=[0]) O
 have x:=A.o
 refine Np O (sr (mp O (cr Y (fun _=>p19 (k0:=3) (c0:=2) (x0:=h) B i O) ?_)))
 rintro a _ R Y D ⟨S,rfl,E,F⟩
 have d:=D.s
 refine ca Y (fun _=>p12 (K:=[3]) (x0:=(Vm.Op.mk a.1.Kind a.1.Branch a.1.Who a.1.Path a.1.To a.1.At a.1.Text)) (Op.rd (K:=[3]) a.1.Kind a.1.Branch a.1.Who a.1.Path a.1.To a.1.At a.1.Text E.rd)) fun T U Y y=>?_
 have e:=y.o
 refine Ns O (ssr (mp O (cr Y (fun _=>p20 (c0:=2) (x0:=(Vm.l30Rd.mk h.b a.2)) (F.up y) (i.ul (d.trans e)) O) ?_)))
 rintro G _ V Y H ⟨rfl,I⟩
 have k:=H.s
 refine Lw.eq O (nl (cn Y (fun Y=>?_) fun Y=>?_))
 ·exact sr (ms O (Ns O (.ret (rt Y (((x.trans d).trans e).trans k)))))
 ·refine sk (sr (mp O (ms O (cr Y (fun _=>p21 (c0:=2) (x0:=(Vm.l30Rd.mk h.b G.2)) I (i.ul ((d.trans e).trans k)) O) ?_))))
  rintro W _ X Y J ⟨rfl,Z⟩
  have L:=(((x.trans d).trans e).trans k).t J
  exact Ns O (.ret (rt Y L))
theorem p6 {x0 a r}(b:Rd W K [a] x0)(Y:Vm.zbL x0=some r):Q1 6 [a] W [] fun W' v=>v=vS r:=
 (c6 (b.view _) Y).ad (fk 0) fun _ _ e=>e
theorem c30 {x0 r}(Y:Vm.zbU x0=some r):Q0 30 [vS x0] W0 fun Wf v=>v=vI r:=by
 unfold Vm.zbU at Y
 refine zaq.of Tryd.func30 O O O O (sr (Ni O (sr (Ni O (ssr (Ni O (Cw.block ?_)))))))
 obtain⟨E,F,Y⟩:=zcR Y
 refine Cw.loop 5 32 [2,3,4] (fun m l w=> ∃ i k d a,CW.w a=w/\Le [] W0 a/\l=[vI i,vI k,vI d]/\Vm.zb0 x0 E m i k d=some r) _ ⟨0,0,0,W0,O,Le.refl _ _,O,Y⟩ ?_
 rintro(_ |U) _ _ σ ⟨i,k,d,a,rfl,B,rfl,Y⟩
 ·cases Y
 unfold Vm.zb0 at Y
 have C:=B.o
 refine ssr (mi O (ms O (Lw.r O (R.lenS O) (Lw.lt O (nl (cn Y (fun Y=>?_) fun Y=>?_))))))
 ·refine sk (Cw.seq (Cw.block (Cw.seq ?_)))
  obtain⟨G,H,Y⟩:=zcR Y
  refine Cw.join 11 24 [24] (fun l w=> ∃ y x,CW.w x=w/\Le [] a x/\l=[vB y]/\G y=some r) ?_ ?_
  ·rintro _ _ σ ⟨y,x,rfl,l10,rfl,Y⟩
   rw[H]at Y
   have I:=C.n l10
   refine cn Y (fun Y=>?_) fun Y=>?_
   ·exact sr (Ni O (.ret (rt Y I)))
   ·refine sk (rg (mi O (Lw.r O (R.mul O O) (ms O (mi O ?_)))))
    obtain⟨J,K,Y⟩:=ob Y
    exact Lw.r O (R.chm K O O) (Lw.sub O (Lw.r O (R.cvI O O) (Lw.add O (Ni O (rg (mi O (Lw.add O (Ni O ((agm) ⟨i,w64 ((w64 (k*10))+(w64 (IntKind.u8.wrap ((UInt8.toNat J:Int)-48)))),w64 (d+1),x,O,(B.j l10).w,O,Y⟩)))))))))
  ·refine rg (ms O (mi O ?_))
   obtain⟨V,L,Y⟩:=ob Y
   refine Lw.r O (R.chm L O O) (Lw.lt O (mb O (bs Y (fun e Y=>?_) fun e Y=>?_)))
   ·exact psk 4 e O (Pb e O (mb O (psk 2 O O (Pb O O (nl ((ag) ⟨true,a,O,Le.refl _ _,O,Y⟩))))))
   ·refine wak 4 e (ms O (mi O ?_))
    obtain⟨W,M,Y⟩:=ob Y
    refine Lw.r O (R.chm M O O) (Lw.gt O (Pb e O (mb O (bs Y (fun f Y=>?_) fun f Y=>?_))))
    ·exact psk 2 f O (Pb f O (nl ((ag) ⟨true,a,O,Le.refl _ _,O,Y⟩)))
    ·exact wak 2 f (mi O (Lw.ge O (Pb f O (nl ((ag) ⟨decide (6<=(d:Int)),a,O,Le.refl _ _,O,Y⟩)))))
 ·refine Cw.exit ?_
  rw[F]at Y
  refine Cw.seq ?_
  obtain⟨N,P,Y⟩:=zcR Y
  refine Cw.join 33 45 [45] (fun l w=> ∃ z A,CW.w A=w/\Le [] a A/\l=[vB z]/\N z=some r) ?_ ?_
  ·rintro _ _ σ ⟨z,A,rfl,Q,rfl,Y⟩
   rw[P]at Y
   have D:=C.n Q
   refine cn Y (fun Y=>?_) fun Y=>?_
   ·exact sr (Ni O (.ret (rt Y D)))
   ·exact sk (sr (mi O (Ni O (.ret (rt Y D)))))
  ·refine rg (ms O (Lw.r O (R.lenS O) (Lw.eq O (mb O (bs Y (fun b Y=>?_) fun b Y=>?_)))))
   ·exact psk 4 b O (puk 3 O (psk 1 b O (Pb b O (nl ((ag) ⟨true,a,O,Le.refl _ _,O,Y⟩)))))
   ·refine wak 4 b (ms O (Lw.r O (R.lenS O) (Lw.gt O (mb O (bs Y (fun h Y=>?_) fun h Y=>?_)))))
    ·refine wak 3 h (ms O ?_)
     obtain⟨S,T,Y⟩:=ob Y
     exact Lw.r O (R.chm T O O) (Lw.eq O (wak 1 b (Pb h O (Pb b O (nl ((ag) ⟨(((UInt8.toNat S:Int):Int)==(48:Int)),a,O,Le.refl _ _,O,Y⟩))))))
    ·exact psk 3 h O (wak 1 b (Pb h O (Pb b O (nl ((ag) ⟨false,a,O,Le.refl _ _,O,Y⟩)))))
theorem p30 {x0 r}(Y:Vm.zbU x0=some r):Q1 30 [vS x0] W [] fun W' v=>v=vI r:=
 (c30 (W0:=W.view [] []) Y).ad (fk 0) fun _ _ e=>e
theorem c8 {x0 r}(Y:Vm.zc8 x0=some r):Q0 8 [vS x0] W0 fun Wf v=> ∃ b7,v = .tuple [.agg [vI r.1.Kind,vS r.1.Branch,vS r.1.Who,vS r.1.Path,vS r.1.To,vI r.1.At,b7].toArray,vB r.2].toArray/\Rd Wf [0] [b7] r.1.Text:=by
 unfold Vm.zc8 at Y
 refine zaq.of Tryd.func8 O O O O (sr (al 2 [vI 0,vS ([]:Str),vS ([]:Str),vS ([]:Str),vS ([]:Str),vI 0, .slice none 0 0] fun g1 W1 l1 b1=>?_))
 have a2:=l1.o
 refine Nb O (sr (ms O (cr Y (fun _=>p28 (k0:=3)) ?_)))
 rintro z3 a W5 Y l5 ⟨_,rfl,cb⟩
 have a6:=a2.n l5
 refine Nv a O (ssr (mv a O (Lw.ln z3 cb.rd O (Lw.lt O (nl (cn Y (fun Y=>?_) fun Y=>?_))))))
 ·refine sr (Lw.r O (R.bd (zs:=[vI 0,vS ([]:Str),vS ([]:Str),vS ([]:Str),vS ([]:Str),vI 0, .slice none 0 0]) (cs:=[vI 0,vS ([]:Str),vS ([]:Str),vS ([]:Str),vS ([]:Str),vI 0, .slice none 0 0]) [] O O O zgw) (sta (b1.up l5) (zaa O (zaa O (zaa O (zaa O (zaa O (zaa O (zaa O zdw))))))) fun W9 l9 b9=>?_))
  have dl:=a6.t l9
  refine Nb O ?_
  cases Y
  exact Cw.ret (zlj O b9 O (Res.mk dl ⟨.slice none 0 0,O,(rdN (K:=[0]))⟩))
 ·refine sk (Cw.seq (Cw.draw [] [(0,0),(1,0),(2,1),(3,0),(4,0),(5,1),(6,0),(7,2),(8,3)] mixed (by kernel_rfl) fun fv bc=>?_))
  have dm:=a6.n bc
  have A:=cb.up bc
  refine Dv a O ?_
  obtain⟨ak,be,Y⟩:=ob Y
  refine Mw.p O O (fun _=>R.ix (α:=Str) A.rd be O O O) (Mw.q O O (fun _ c=>R.ld O O (zgd (A.rd.at_ be).1 O (A.rd.at_ be).str c)) (Dv a O ?_))
  obtain⟨am,bg,Y⟩:=ob Y
  refine Mw.p O O (fun _=>R.ix (α:=Str) A.rd bg O O O) (Mw.q O O (fun _ c=>R.ld O O (zgd (A.rd.at_ bg).1 O (A.rd.at_ bg).str c)) (Mw.p O O (fun _=>R.bd (zs:=[vI 0,vS ([]:Str),vS ([]:Str),vS ([]:Str),vS ([]:Str),vI 0, .slice none 0 0]) (cs:=[vI 0,vS ak,vS am,vS ([]:Str),vS ([]:Str),vI 0, .slice none 0 0]) [(1,vS ak),(2,vS am)] O O O (zeR O O (zeR O O zgw))) (Mw.t O O (T.alloc 4 (cs:=[vI 0,vS ([]:Str),vS ([]:Str),vS ([]:Str),vS ([]:Str),vI 0, .slice none 0 0]) O) ?_)))
  rintro _ _ ⟨bh,fw,rfl,rfl,an,dn⟩
  have dp:=dm.n an
  refine m0 an fun fx=>Mw.lu O (T.sta (vs:=[vI 0,vS ak,vS am,vS ([]:Str),vS ([]:Str),vI 0, .slice none 0 0]) dn O O (zaa O (zaa O (zaa O (zaa O (zaa O (zaa O (zaa O zdw))))))) O O) ?_
  rintro _ _ ⟨cd,rfl,bi,dq⟩
  have dr:=dp.t bi
  refine Mw.nil (ssr (Ni O (Cw.block ?_)))
  obtain⟨ds,dt,Y⟩:=zcR Y
  refine Cw.loop 21 36 [6] (fun m l w=> ∃ b d e f B y x i k X,CW.w X=w/\Le [4] cd X/\l=[vI b]/\Ow X 5 [] [k] i/\Bx X 4 bh [vI d,vS e,vS f,vS B,vS y,vI x,k]/\Vm.zaG z3 ds m b d e f B y x i=some r) _ ⟨1,0,ak,am,([]:Str),([]:Str),0,([]:List Str), .slice none 0 0,cd,O,Le.refl _ _,O,owN 5 [],dq,Y⟩ ?_
  rintro(_ |fy) _ _ σ ⟨b,d,e,f,B,y,x,i,k,X,rfl,ao,rfl,ce,cf,Y⟩
  ·cases Y
  unfold Vm.zaG at Y
  have du:=dr.t ao
  refine ssr (mi O (cr Y (fun _=>p29 (k0:=6)) ?_))
  rintro dv fz ap Y z ⟨_,rfl,dw⟩
  have dx:=du.n z
  have N:=(((A.up an).up bi).up ao).up z
  refine Lw.ln dv dw.rd O (Lw.lt O (nl (cn Y (fun Y=>?_) fun Y=>?_)))
  ·refine sk ?_
   obtain⟨dy,dz,Y⟩:=zcR Y
   refine Cw.join 27 36 [] (fun l w=> ∃ aq ar au av aw ax ay az P,CW.w P=w/\Le [4] ap P/\l=[]/\Ow P 5 [] [az] ay/\Bx P 4 bh [vI aq,vS ar,vS au,vS av,vS aw,vI ax,az]/\dy aq ar au av aw ax ay=some r) ?_ ?_
   ·rintro _ _ σ ⟨aq,ar,au,av,aw,ax,ay,az,P,rfl,d0,rfl,d1,d2,Y⟩
    rw[dz]at Y
    exact rg (mi O (Lw.add O (Ni O ((agm) ⟨w64 (b+1),aq,ar,au,av,aw,ax,ay,az,P,O,((ao.j z).j d0).w,O,d1,d2,Y⟩))))
   ·refine Cw.block (Cw.seq ?_)
    obtain⟨Z,d3,Y⟩:=ob Y
    obtain⟨aa,cg,Y⟩:=ob Y
    obtain⟨ac,ch,Y⟩:=ob Y
    refine Cw.par [[],[],[0,1],[0,1,2],[],[4],[4,5],[0,1,2,3,4,5,6]] [[],[],[0,1],[0,2],[],[4],[5],[3,6]] [[],[],[],[],[],[],[],[]] [[0],[1],[0,2],[3],[4],[5],[6],[7]] [[7],[],[],[],[],[],[],[]] [0,1,2,3,4,5,6,7] [] [fun vs W=>Ow W 7 [] [(vs 0)] Z,fun vs W=>(vs 1)=vI b,fun vs W=>(vs 2)=ptr ((slA (vs 0)).add ((b).toNat*Rp.sz (Str))),fun vs W=>(vs 3)=vS aa,fun vs W=>(vs 4)=a,fun vs W=>(vs 5)=ptr ((slA a).add ((0:Int).toNat*Rp.sz (Str))),fun vs W=>(vs 6)=vS ac,fun vs W=>(vs 7)=vB (aa==ac)] [] mixed (by kernel_rfl) O zjF.nil ?_
    intro f0 Q
    refine⟨(zaI.cons ?_ (zaI.cons ?_ (zaI.cons ?_ (zaI.cons ?_ (zaI.cons ?_ (zaI.cons ?_ (zaI.cons ?_ (zaI.cons ?_ zaI.nil)))))))),(zch.cons SO (zch.cons SE (zch.cons (fun vs vs' W W' _ hv l hd h=>by(show(vs' 2)=ptr ((slA (vs' 0)).add ((b).toNat*Rp.sz (Str))));rw[hv 0 (zaW O),hv 2 (zaW O)];exact h) (zch.cons SE (zch.cons SE (zch.cons SE (zch.cons SE (zch.cons SE zch.nil)))))))),?_⟩
    ·intro vs f1 lW hN hV
     refine Tr.mono (T.call O (p29 (k0:=7) d3)) ?_
     rintro d4 _ ⟨ci,rfl,d5,⟨_,rfl,d6⟩⟩
     exact⟨ci,O,d5,(show Ow ci 7 [] [d4] Z from d6)⟩
    ·intro vs f2 lW hN hV
     exact Trq (R.mv (v:=vI b) O) O
    ·intro vs d7 lW hN hV
     obtain⟨C,ae⟩: ∃ v,vs 0=v:=⟨_,O⟩
     obtain⟨vs,rfl⟩:=zai ae
     have d8:Ow d7 7 [] [C] Z:=(hN 0 (zaW O))
     have bj:vs 1=vI b:=(hN 1 (zaW O))
     obtain⟨vs,rfl⟩:=zai bj
     exact Trq (R.ix (α:=Str) d8.rd cg O O O) O
    ·intro vs d9 lW hN hV
     obtain⟨C,ae⟩: ∃ v,vs 0=v:=⟨_,O⟩
     obtain⟨vs,rfl⟩:=zai ae
     have ea:Ow d9 7 [] [C] Z:=(hN 0 (zaW O))
     have bk:vs 2=ptr ((slA C).add ((b).toNat*Rp.sz (Str))):=(hN 2 (zaW O))
     obtain⟨vs,rfl⟩:=zai bk
     exact Trq (R.ld O O (ea.rd.at_ cg).str) O
    ·intro vs f3 lW hN hV
     exact Trq (R.mv (v:=a) O) O
    ·intro vs f4 lW hN hV
     have bl:vs 4=a:=(hN 4 (zaW O))
     obtain⟨vs,rfl⟩:=zai bl
     exact Trq (R.ix (α:=Str) ((N.up Q).up lW O).rd ch O O O) O
    ·intro vs f5 lW hN hV
     have bm:vs 5=ptr ((slA a).add ((0:Int).toNat*Rp.sz (Str))):=(hN 5 (zaW O))
     obtain⟨vs,rfl⟩:=zai bm
     exact Trq (R.ld O O (((N.up Q).up lW O).rd.at_ ch).str) O
    ·intro vs f6 lW hN hV
     have bn:vs 3=vS aa:=(hN 3 (zaW O))
     obtain⟨vs,rfl⟩:=zai bn
     have bp:vs 6=vS ac:=(hN 6 (zaW O))
     obtain⟨vs,rfl⟩:=zai bp
     exact Trq (R.seq O O) O
    ·intro vs cj a0 hN
     have ck:=((ce.up z).up Q).up a0
     have cl:=((cf.up z).up Q).up a0
     obtain⟨C,ae⟩: ∃ v,vs 0=v:=⟨_,O⟩
     obtain⟨vs,rfl⟩:=zai ae
     have f7:Ow cj 7 [] [C] Z:=(hN 0 (zaW O))
     have bj:vs 1=vI b:=(hN 1 (zaW O))
     obtain⟨vs,rfl⟩:=zai bj
     have bk:vs 2=ptr ((slA C).add ((b).toNat*Rp.sz (Str))):=(hN 2 (zaW O))
     obtain⟨vs,rfl⟩:=zai bk
     have bn:vs 3=vS aa:=(hN 3 (zaW O))
     obtain⟨vs,rfl⟩:=zai bn
     have bl:vs 4=a:=(hN 4 (zaW O))
     obtain⟨vs,rfl⟩:=zai bl
     have bm:vs 5=ptr ((slA a).add ((0:Int).toNat*Rp.sz (Str))):=(hN 5 (zaW O))
     obtain⟨vs,rfl⟩:=zai bm
     have bp:vs 6=vS ac:=(hN 6 (zaW O))
     obtain⟨vs,rfl⟩:=zai bp
     have eb:vs 7=vB (aa==ac):=(hN 7 (zaW O))
     obtain⟨vs,rfl⟩:=zai eb
     refine cn Y (fun Y=>?_) fun Y=>?_
     ·refine rg (mi O (Lw.fa O (Lw.u (T.st (j:=0) (v:=vI b) cl O O O O O) ?_)))
      rintro _ _ ⟨ec,rfl,cm,ed⟩
      exact nl ((ag) ⟨b,e,f,B,y,x,i,k,ec,O,((Q.j a0).j cm).w,O,(ck.up cm),ed,Y⟩)
     ·exact sk ((ag) ⟨d,e,f,B,y,x,i,k,cj,O,(Q.j a0).w,O,ck,cl,Y⟩)
  ·refine Cw.exit ?_
   rw[dt]at Y
   refine sr (Ns O ?_)
   obtain⟨ee,ef,Y⟩:=zcR Y
   refine Cw.join 37 42 [7] (fun l w=> ∃ af bq,CW.w bq=w/\Le [] ap bq/\l=[vS af]/\ee af=some r) ?_ ?_
   ·rintro _ _ σ ⟨af,bq,rfl,ah,rfl,Y⟩
    rw[ef]at Y
    have eg:=dx.n ah
    obtain⟨ai,eh,a1,ei⟩:=zuj _ 5
    rw[<- eh]
    have a3:Rd (α:=List Str) ai [0] [k] i:=by rw[ei];exact(((ce.up z).up ah).rd.dye 5).sub (M:=[0]) O
    have ej:=eg.t a1
    have D:=(N.up ah).up a1
    have S:=((cf.up z).up ah).up a1
    obtain⟨ek,el,Y⟩:=zcR Y
    refine Cw.join 43 80 [] (fun l w=> ∃ E F G H I J L a4 U,CW.w U=w/\Le [4,8] ai U/\l=[]/\Rd U [0] [a4] L/\Bx U 4 bh [vI E,vS F,vS G,vS H,vS I,vI J,a4]/\ek E F G H I J L=some r) ?_ ?_
    ·rintro _ _ σ ⟨E,F,G,H,I,J,L,a4,U,rfl,co,rfl,r202,br,Y⟩
     rw[el]at Y
     have cp:=ej.t co
     refine Cw.seq ?_
     obtain⟨em,en,Y⟩:=zcR Y
     refine Cw.join 81 89 [89] (fun l w=> ∃ bu bv,CW.w bv=w/\Le [] U bv/\l=[vB bu]/\em bu=some r) ?_ ?_
     ·rintro _ _ σ ⟨bu,bv,rfl,bw,rfl,Y⟩
      rw[en]at Y
      have bz:=bw.o
      have cq:=(((((((((b1.up l5).up bc).up an).up bi).up ao).up z).up ah).up a1).up co).up bw
      refine cn Y (fun Y=>?_) fun Y=>?_
      ·refine sr (Lw.r O (R.bd (zs:=[vI 0,vS ([]:Str),vS ([]:Str),vS ([]:Str),vS ([]:Str),vI 0, .slice none 0 0]) (cs:=[vI 0,vS ([]:Str),vS ([]:Str),vS ([]:Str),vS ([]:Str),vI 0, .slice none 0 0]) [] O O O zgw) (sta cq (zaa O (zaa O (zaa O (zaa O (zaa O (zaa O (zaa O zdw))))))) fun f8 eo ep=>?_))
       have er:=(cp.trans bz).t eo
       refine Nb O ?_
       cases Y
       exact Cw.ret (zlj O ep O (Res.mk er ⟨.slice none 0 0,O,(rdN (K:=[0]))⟩))
      ·refine sk (sr (la (br.up bw) (sta cq (zaa O (zaa O (zaa O (zaa O (zaa O (zaa O (zaa r202.oc zdw))))))) fun f9 es et=>?_)))
       have ct:=es.s
       refine Nb O ?_
       cases Y
       exact Cw.ret (zlj O et O (Res.mk ((cp.trans bz).trans ct) ⟨a4,O,(r202.ul (bz.trans ct))⟩))
     ·refine rg (la br (ca Y (fun _=>p31 (x0:=(Vm.Op.mk E F G H I J L)) (Op.rd (K:=[0]) E F G H I J L r202)) fun ga eu Y a5=>?_))
      have ew:=a5.o
      refine Lw.r O (R.not O) (mb O (bs Y (fun aj Y=>?_) fun aj Y=>?_))
      ·exact psk 4 aj O (Pb aj O (nl ((ag) ⟨true,eu,O,a5,O,Y⟩)))
      ·exact wak 4 aj (la (br.up a5) (ca Y (fun _=>p32 (x0:=(Vm.Op.mk E F G H I J L)) (Op.rd (K:=[0]) E F G H I J L (r202.ul ew))) fun ex ey Y ez=>ms O (Lw.sne O (Pb aj O (nl ((ag) ⟨(ex !=x0),ey,O,(a5.j ez).w,O,Y⟩))))))
    ·refine sr (fl S O (nl (Cw.block (sr (Lw.eq O (Nb O (cn Y (fun Y=>?_) fun Y=>?_)))))))
     ·refine sr (mv a O ?_)
      obtain⟨cu,cv,Y⟩:=ob Y
      refine Lw.r O (R.ix (α:=Str) D.rd cv O O O) (Lw.r O (R.ld O O (D.rd.at_ cv).str) (Lw.fa O (Lw.u (T.st (j:=3) (v:=vS cu) S O O O O O) ?_)))
      rintro _ _ ⟨gb,rfl,e0,e1⟩
      refine nl (rg (ms O (cr Y (fun _=>p28 (k0:=8)) ?_)))
      rintro a7 a8 gc Y cw ⟨_,rfl,b0⟩
      obtain⟨cx,cy,Y⟩:=ob Y
      have r267:=b0.rd.cutV cy
      refine Lw.r O (R.sl b0.rd cy O (.inr O) (.inl ⟨O,O⟩)) (Lw.fa O (Lw.u (T.st (j:=6) (v:=(cutV a8 (1:Int).toNat (a7.length:Int).toNat (Rp.sz (Str)))) (e1.up cw) O O r267.oc O O) ?_))
      rintro _ _ ⟨gd,rfl,b2,e2⟩
      refine nl ?_
      have e3:=r267.up (b2.sub (M:=[4]) O) O
      obtain⟨b3,e4,cz,c0⟩:=zuj _ 8
      have e5:Rd b3 [0] [(cutV a8 (1:Int).toNat (a7.length:Int).toNat (Rp.sz (Str)))] cx:=by rw[c0];exact(e3.dye 8).sub (M:=[0]) O
      have gf:Rd (α:=List Str) b3 [0] [a8] a7:=by rw[c0];exact((b0.up b2).rd.dye 8).sub (M:=[0]) O
      exact(ag) ⟨d,e,f,cu,y,x,cx,(cutV a8 (1:Int).toNat (a7.length:Int).toNat (Rp.sz (Str))),b3,e4,(((e0.j cw).j b2).j cz).w,O,e5,(e2.up cz),Y⟩
     ·refine sr (Lw.eq O (Nb O (cn Y (fun Y=>?_) fun Y=>?_)))
      ·refine rg (mv a O ?_)
       obtain⟨c1,c2,Y⟩:=ob Y
       refine Lw.r O (R.ix (α:=Str) D.rd c2 O O O) (Lw.r O (R.ld O O (D.rd.at_ c2).str) (Lw.fa O (Lw.u (T.st (j:=3) (v:=vS c1) S O O O O O) ?_)))
       rintro _ _ ⟨e6,rfl,c3,e7⟩
       have e8:=c3.s
       exact nl ((ag) ⟨d,e,f,c1,y,x,i,k,e6,O,c3.w,O,(a3.ul e8),e7,Y⟩)
      ·refine sr (Lw.eq O (Nb O (cn Y (fun Y=>?_) fun Y=>?_)))
       ·refine sr (mv a O ?_)
        obtain⟨c4,c5,Y⟩:=ob Y
        refine Lw.r O (R.ix (α:=Str) D.rd c5 O O O) (Lw.r O (R.ld O O (D.rd.at_ c5).str) (Lw.fa O (Lw.u (T.st (j:=3) (v:=vS c4) S O O O O O) ?_)))
        rintro _ _ ⟨gg,rfl,c6,e9⟩
        have fb:=c6.s
        refine nl (rg (ms O (Lw.fa O (Lw.u (T.st (j:=4) (v:=vS af) e9 O O O O O) ?_))))
        rintro _ _ ⟨fc,rfl,c7,fd⟩
        have fe:=fb.t c7
        exact nl ((ag) ⟨d,e,f,c4,af,x,i,k,fc,O,(c6.j c7).w,O,(a3.ul fe),fd,Y⟩)
       ·obtain⟨ff,fg,Y⟩:=zcR Y
        refine Cw.join 74 76 [74] (fun l w=> ∃ b4 b5,CW.w b5=w/\Le [] ai b5/\l=[vB b4]/\ff b4=some r) ?_ ?_
        ·rintro _ _ σ ⟨b4,b5,rfl,V,rfl,Y⟩
         rw[fg]at Y
         have c9:=V.o
         have a9:=D.up V
         refine cn Y (fun Y=>?_) fun Y=>?_
         ·refine rg (mv a O ?_)
          obtain⟨da,db,Y⟩:=ob Y
          refine Lw.r O (R.ix (α:=Str) a9.rd db O O O) (Lw.r O (R.ld O O (a9.rd.at_ db).str) (Lw.fa O (Lw.u (T.st (j:=4) (v:=vS da) (S.up V) O O O O O) ?_)))
          rintro _ _ ⟨fh,rfl,dc,fi⟩
          have fj:=c9.t dc
          exact nl ((ag) ⟨d,e,f,B,da,x,i,k,fh,O,(V.j dc).w,O,(a3.ul fj),fi,Y⟩)
         ·refine rg (mv a O ?_)
          obtain⟨gh,dd,Y⟩:=ob Y
          refine Lw.r O (R.ix (α:=Str) a9.rd dd O O O) (Lw.r O (R.ld O O (a9.rd.at_ dd).str) (ca Y (fun _=>p30) fun de gj Y b6=>?_))
          have fm:=c9.n b6
          refine Lw.fa O (Lw.u (T.st (j:=5) (v:=vI de) ((S.up V).up b6) O O O O O) ?_)
          rintro _ _ ⟨fn,rfl,df,fo⟩
          have fp:=fm.t df
          exact nl ((ag) ⟨d,e,f,B,y,de,i,k,fn,O,((V.j b6).j df).w,O,(a3.ul fp),fo,Y⟩)
        ·refine sr (Lw.eq O (Nb O (cn Y (fun Y=>?_) fun Y=>?_)))
         ·exact sk ((ag) ⟨(d==4),ai,O,Le.refl _ _,O,Y⟩)
         ·exact rg (Lw.eq O (Nb O ((ag) ⟨(d==5),ai,O,Le.refl _ _,O,Y⟩)))
   ·refine sr (mv a O (Lw.ln z3 N.rd O (Lw.eq O (nl (cn Y (fun Y=>?_) fun Y=>?_)))))
    ·refine rg (mv a O ?_)
     obtain⟨fq,dg,Y⟩:=ob Y
     exact Lw.r O (R.ix (α:=Str) N.rd dg O O O) (Lw.r O (R.ld O O (N.rd.at_ dg).str) (Ns O ((ag) ⟨fq,ap,O,Le.refl _ _,O,Y⟩)))
    ·exact sk ((ag) ⟨([]:Str),ap,O,Le.refl _ _,O,Y⟩)
theorem p8 {x0 r}(Y:Vm.zc8 x0=some r):Q1 8 [vS x0] W [] fun W' v=> ∃ a,v = .tuple [.agg [vI r.1.Kind,vS r.1.Branch,vS r.1.Who,vS r.1.Path,vS r.1.To,vI r.1.At,a].toArray,vB r.2].toArray/\Rd W' (0::K) [a] r.1.Text:=
 (c8 (W0:=W.view K []) Y).ad (fk 0) fun _ _ ⟨a,e,b⟩=>⟨a,e,b.back O⟩
theorem c3 {x0 z r}(S:Rd W0 [0] [z] x0)(T:Gk 2 0 1 W0 [0])(Y:Vm.zcO x0=some r):Q0 3 [z] W0 fun Wf v=>v=vB r:=by
 unfold Vm.zcO at Y
 refine zaq.of Tryd.func3 O O O O (sr (Nb O (ssr (mv z O (Lw.ln x0 S O (Lw.gt O (nl (cn Y (fun Y=>?_) fun Y=>?_))))))))
 ·exact sr (Nb O (.ret (rt Y (Le.refl _ _))))
 ·refine sk (sr (mv z O (ca Y (fun _=>p6 S) fun z2 W4 Y l4=>?_)))
  have U:=l4.o
  refine Ns O (sr (ms O (cr Y (fun _=>p7 (k0:=2) (T.ul U)) ?_)))
  rintro a _ W9 Y l9 ⟨d,rfl,V⟩
  have af:=U.n l9
  refine mv (.tuple [.agg [vI a.1.Kind,vS a.1.Branch,vS a.1.Who,vS a.1.Path,vS a.1.To,vI a.1.At,d].toArray,vB a.2].toArray) O (Lw.r O (R.ext (vs:=[.agg [vI a.1.Kind,vS a.1.Branch,vS a.1.Who,vS a.1.Path,vS a.1.To,vI a.1.At,d].toArray,vB a.2]) (v:= .agg [vI a.1.Kind,vS a.1.Branch,vS a.1.Who,vS a.1.Path,vS a.1.To,vI a.1.At,d].toArray) O O) (Lw.r O (R.ext (vs:=[.agg [vI a.1.Kind,vS a.1.Branch,vS a.1.Who,vS a.1.Path,vS a.1.To,vI a.1.At,d].toArray,vB a.2]) (v:=vB a.2) O O) (al 3 [vI 0,vS ([]:Str),vS ([]:Str),vS ([]:Str),vS ([]:Str),vI 0, .slice none 0 0] fun a8 a9 C ah=>?_)))
  have ai:=af.n C
  refine sta ah (zaa O (zaa O (zaa O (zaa O (zaa O (zaa O (zaa (V.up C).oc zdw))))))) fun ba W aj=>?_
  have ak:=ai.t W
  refine Nb O (sr (ms O (cr Y (fun _=>p8 (K:=[0])) ?_)))
  rintro b _ bb Y D ⟨A,rfl,am⟩
  have E:=am.sub (M:=[0]) O
  have F:=ak.n D
  refine mv (.tuple [.agg [vI b.1.Kind,vS b.1.Branch,vS b.1.Who,vS b.1.Path,vS b.1.To,vI b.1.At,A].toArray,vB b.2].toArray) O (Lw.r O (R.ext (vs:=[.agg [vI b.1.Kind,vS b.1.Branch,vS b.1.Who,vS b.1.Path,vS b.1.To,vI b.1.At,A].toArray,vB b.2]) (v:= .agg [vI b.1.Kind,vS b.1.Branch,vS b.1.Who,vS b.1.Path,vS b.1.To,vI b.1.At,A].toArray) O O) (Lw.r O (R.ext (vs:=[.agg [vI b.1.Kind,vS b.1.Branch,vS b.1.Who,vS b.1.Path,vS b.1.To,vI b.1.At,A].toArray,vB b.2]) (v:=vB b.2) O O) (al 4 [vI 0,vS ([]:Str),vS ([]:Str),vS ([]:Str),vS ([]:Str),vI 0, .slice none 0 0] fun bc be G an=>?_)))
  have h:=G.o
  refine sta an (zaa O (zaa O (zaa O (zaa O (zaa O (zaa O (zaa E.oc zdw))))))) fun H I X=>?_
  have i:=I.s
  have J:=((((V.up C).up W).up D).up G).up I
  have L:=((aj.up D).up G).up I
  refine Nb O (Cw.seq ?_)
  obtain⟨ao,ap,Y⟩:=zcR Y
  refine Cw.join 23 35 [35] (fun l w=> ∃ N e,CW.w e=w/\Le [] H e/\l=[vB N]/\ao N=some r) ?_ ?_
  ·rintro _ _ σ ⟨N,e,rfl,f,rfl,Y⟩
   rw[ap]at Y
   have B:=f.o
   refine cn Y (fun Y=>?_) fun Y=>?_
   ·obtain⟨aq,ar,Y⟩:=zcR Y
    refine Cw.join 36 43 [2] (fun l w=> ∃ P Q,CW.w Q=w/\Le [] e Q/\l=[vB P]/\aq P=some r) ?_ ?_
    ·rintro _ _ σ ⟨P,Q,rfl,au,rfl,Y⟩
     rw[ar]at Y
     have av:=(((F.trans h).trans i).trans B).n au
     exact .ret (rt Y av)
    ·refine rg (mb O (mb O (Lw.r O (R.beq O O) (mb O (bs Y (fun k Y=>?_) fun k Y=>?_)))))
     ·refine wak 3 k (la (L.up f) (la (X.up f) ?_))
      have aw:Rd (α:=List Str) e [2] [d] a.1.Text:=Ow.rdTl (J.up f)
      exact ca Y (fun _=>p9 (K:=[0,2]) (x0:=(Vm.Op.mk a.1.Kind a.1.Branch a.1.Who a.1.Path a.1.To a.1.At a.1.Text)) ((Op.rd (K:=[2]) a.1.Kind a.1.Branch a.1.Who a.1.Path a.1.To a.1.At a.1.Text aw).sub (M:=[0,2]) O) ((Op.rd (K:=[0]) b.1.Kind b.1.Branch b.1.Who b.1.Path b.1.To b.1.At b.1.Text (E.ul ((h.trans i).trans B))).sub (M:=[0,2]) O)) fun ax ay Y az=>Pb k O (Nb O ((ag) ⟨ax,ay,O,az,O,Y⟩))
     ·exact psk 3 k O (Pb k O (Nb O ((ag) ⟨false,e,O,Le.refl _ _,O,Y⟩)))
   ·refine sk (sr (la (L.up f) ?_))
    have a0:Rd (α:=List Str) e [2] [d] a.1.Text:=Ow.rdTl (J.up f)
    refine ca Y (fun _=>p10 (K:=[0,2]) (x0:=(Vm.Op.mk a.1.Kind a.1.Branch a.1.Who a.1.Path a.1.To a.1.At a.1.Text)) ((Op.rd (K:=[2]) a.1.Kind a.1.Branch a.1.Who a.1.Path a.1.To a.1.At a.1.Text a0).sub (M:=[0,2]) O) ((T.ul (((F.trans h).trans i).trans B)).sub (M:=[0,2]) O)) fun bg bh Y a1=>?_
    have a2:=(((F.trans h).trans i).trans B).n a1
    exact ms O (Lw.seq O (Nb O (.ret (rt Y a2))))
  ·refine rg (mb O (mb O (Lw.r O (R.bne O O) (mb O (bs Y (fun x Y=>?_) fun x Y=>?_)))))
   ·exact psk 4 x O (Pb x O (mb O (psk 2 O O (Pb O O (nl ((ag) ⟨true,H,O,Le.refl _ _,O,Y⟩))))))
   ·refine wak 4 x (la L (la X ?_))
    have a3:Rd (α:=List Str) H [2] [d] a.1.Text:=Ow.rdTl J
    refine ca Y (fun _=>p9 (K:=[0,2]) (x0:=(Vm.Op.mk a.1.Kind a.1.Branch a.1.Who a.1.Path a.1.To a.1.At a.1.Text)) ((Op.rd (K:=[2]) a.1.Kind a.1.Branch a.1.Who a.1.Path a.1.To a.1.At a.1.Text a3).sub (M:=[0,2]) O) ((Op.rd (K:=[0]) b.1.Kind b.1.Branch b.1.Who b.1.Path b.1.To b.1.At b.1.Text (E.ul (h.trans i))).sub (M:=[0,2]) O)) fun bi Z Y aa=>Lw.r O (R.not O) (Pb x O (mb O (bs Y (fun y Y=>?_) fun y Y=>?_)))
    ·exact psk 2 y O (Pb y O (nl ((ag) ⟨true,Z,O,aa,O,Y⟩)))
    ·exact wak 2 y (mb O (Lw.r O (R.not O) (Pb y O (nl ((ag) ⟨(!a.2),Z,O,aa,O,Y⟩)))))
theorem p3 {x0 a r}(b:Rd W K [a] x0)(d:Gk 2 0 1 W K)(Y:Vm.zcO x0=some r):Q1 3 [a] W [] fun W' v=>v=vB r:=
 (c3 (b.view _) (d.view _) Y).ad (fk 0) fun _ _ e=>e
end Go.Sx
