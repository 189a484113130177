/- Walks: each function answers as its model, printed by a program of ours. Conditions: the arguments read as they are given. -/
import Derived.Test.YtiahldhbknpmiaaGreatDoorATs
import Derived.Test.YtiahldhbknpmiaaGreatDoorAM1
import Derived.Test.YtiahldhbknpmiaaGreatDoorAW1
import Derived.Test.YtiahldhbknpmiaaGreatDoorAW2
import Derived.Test.YtiahldhbknpmiaaGreatDoorAW3
import Derived.Test.YtiahldhbknpmiaaGreatDoorAW5
import Derived.Test.YtiahldhbknpmiaaGreatDoorAE
namespace Go.Sx
open Go Go.Proofs Go.Vm Rp
set_option linter.unusedVariables false
set_option linter.unusedSimpArgs false
variable {W W0:CW}{K:List Nat}
theorem c234_235 {x0 C x1 D x2 E r}(h0:Rd W0 [0] [C] x0)(h1:Rd W0 [0] [D] x1)(h2:Rd W0 [0] [E] x2)(Y:Vm.zbv x0 x1 x2=some r):Q0 234 [C,D,E, .func (.func 235) #[] [].toArray] W0 fun Wf v=> ∃ u0,v = .tuple [u0,vB r.2].toArray/\OwS Wf LL [] [u0] r.1:=by
 unfold Vm.zbv at Y
 refine zaz.of Tryz.func234 O O O O (sr (Gv (.slice none 0 0) O (Nb O (ssr (mv C O (mv D O (mv E O (ca Y (fun _=>p255 h0 h1 h2) fun z1 W3 Y l3=>?_))))))))
 have i:=l3.o
 refine Lw.r O (R.not O) (nl (cn Y (fun Y=>?_) fun Y=>?_))
 ·refine sr (Gv (.slice none 0 0) O (Nb O ?_))
  cases Y
  exact Cw.ret (zp3 O O (Res.mk i ⟨.slice none 0 0,O,(znU []).sub O O⟩))
 ·refine sk (sr (Nv (.slice none 0 0) O (ssr (mv C O (mv D O (mv E O (cr Y (fun _=>p256 (k0:=2) (h0.ul i) (h1.ul i) (h2.ul i)) ?_)))))))
  rintro P a6 b6 Y a7 ⟨_,rfl,am⟩
  have a8:=i.n a7
  refine Lw.ln P am.rd O (mi O (nl (Cw.block ?_)))
  obtain⟨Q,a9,ba,bb⟩:=zn3 _ 2
  rw[<- a9]
  have an:Rd (α:=List Vm.Part) Q [0] [a6] P:=by rw[bb];exact(am.rd.dye 2).sub (M:=[0]) O
  have ao:=a8.t ba
  obtain⟨bc,be,Y⟩:=zbM Y
  refine Cw.loop 26 46 [8,9,10,12,13,14,15,26] (fun m l w=> ∃ k x S F y b ap aq U V z,CW.w z=w/\Le [6,7,8] Q z/\l=[y,vB x,b,ap,aq,U,V,vI F]/\Ow z 5 [] [y] k/\Ow z 6 [] [b] S/\Vm.zao P bc m k x S F=some r) _ ⟨([]:List Str),false,([]:List Str),0, .slice none 0 0, .slice none 0 0,undef,undef,undef,undef,Q,O,Le.refl _ _,O,owN 5 [],owN 6 [],Y⟩ ?_
  rintro(_ |b7) _ _ σ ⟨k,x,S,F,y,b,ap,aq,U,V,z,rfl,ar,rfl,bg,W,Y⟩
  ·cases Y
  unfold Vm.zao at Y
  have G:=ar.s
  refine sr (Lw.lt O (nl (Cw.seq (cn Y (fun Y=>?_) fun Y=>?_))))
  ·refine sk (Cw.seq (Cw.block (sr ?_)))
   obtain⟨d,au,Y⟩:=ob Y
   refine Lw.r O (R.ix (α:=Part) (an.ul G) au O O O) ?_
   obtain⟨x36,c37,_,r38⟩:=((an.ul G).at_ au).cells
   obtain⟨X,bh,bi,bj,rfl,r40,r42,r44,r46⟩:=Part.split r38
   refine Lw.r O (R.lda c37 O O) (al 7 [vB false, .slice none 0 0, .slice none 0 0, .slice none 0 0, .slice none 0 0] fun bk b8 H bl=>?_)
   have f:=H.o
   refine sta bl (zaa O (zaa r40.oc (zaa r42.oc (zaa r44.oc (zaa r46.oc za0))))) fun av I Z=>?_
   have h:=I.s
   have aw:=(bg.up H).up I
   refine nl (sr (fl Z O (Nv X O ?_)))
   obtain⟨bm,bn,Y⟩:=zbM Y
   refine Cw.join 32 42 [8,9,13,14,15] (fun l w=> ∃ J L aa N A ac ae B,CW.w B=w/\Le [8] av B/\l=[N,vB L,A,ac,ae]/\Ow B 5 [] [N] J/\Rd B [0] [A] aa/\bm J L aa=some r) ?_ ?_
   ·rintro _ _ σ ⟨J,L,aa,N,A,ac,ae,B,rfl,ax,rfl,bp,r61,Y⟩
    rw[bn]at Y
    refine rg (mv b O (mv A O ?_))
    obtain⟨bq,br,Y⟩:=ob Y
    refine Lw.t O (T.appP (α:=Str) (((W.up H).up I).up ax) r61 O O br) ?_
    rintro ay _ ⟨bu,rfl,az,bv⟩
    exact Nv ay O (rg (Lw.add O (mi O (nl ((agm) ⟨J,L,bq,w64 (F+1),N,ay,ptr (bx bk),A,ac,ae,bu,O,((((ar.j H).j I).j ax).j az).w,O,(bp.up az),bv,Y⟩)))))
   ·refine sr (fl Z O (nl (cn Y (fun Y=>?_) fun Y=>?_)))
    ·refine sr (mv (.func (.func 235) #[] [].toArray) O (la Z ?_))
     obtain⟨e,bw,Y⟩:=ob Y
     refine Lw.t O (T.callV (vals:=[.agg [vB d.Clash,X,bh,bi,bj].toArray]) (caps:=[]) O O (p235 (k0:=8) (Part.rd (K:=[0]) d.Clash d.Lines d.Old d.One d.Two (r40.ul (f.trans h)) (r42.ul (f.trans h)) (r44.ul (f.trans h)) (r46.ul (f.trans h))) bw)) ?_
     rintro _ _ ⟨b9,rfl,af,⟨a,rfl,bz⟩⟩
     have b0:=(((ao.trans G).trans f).trans h).n af
     refine mv (.tuple [a,vB e.2].toArray) O (Lw.r O (R.ext (vs:=[a,vB e.2]) (v:=a) O O) (Lw.r O (R.ext (vs:=[a,vB e.2]) (v:=vB e.2) O O) (Gv a O (Nb O (ssr (mb O (Lw.r O (R.not O) (nl (cn Y (fun Y=>?_) fun Y=>?_)))))))))
     ·refine sr (Gv (.slice none 0 0) O (Nb O ?_))
      cases Y
      exact Cw.ret (zp3 O O (Res.mk b0 ⟨.slice none 0 0,O,(znU []).sub O O⟩))
     ·refine sk (rg (mv a O (Nv a O ?_)))
      obtain⟨a0,b1,a1,b2⟩:=zn3 _ 8
      have b3:Rd (α:=List Str) a0 [0] [a] e.1:=by rw[b2];exact(bz.rd.dye 8).sub (M:=[0]) O
      exact(ag) ⟨k,x,e.1,y,a,a,vB e.2,a0,b1,(af.j a1).w,O,((aw.up af).up a1),b3,Y⟩
    ·exact sk ((ag) ⟨k,x,d.Lines,y,X,U,V,av,O,Le.refl _ _,O,aw,(r40.ul (f.trans h)),Y⟩)
  ·refine Cw.exit ?_
   rw[be]at Y
   refine ssr (mv b O (ca Y (fun _=>p174 (K:=[6]) W.rd) fun cb cc Y a2=>?_))
   have a3:=(ao.trans G).n a2
   refine Lw.r O (R.not O) (nl (cn Y (fun Y=>?_) fun Y=>?_))
   ·refine sr (Gv (.slice none 0 0) O (Nb O ?_))
    cases Y
    exact Cw.ret (zp3 O O (Res.mk a3 ⟨.slice none 0 0,O,(znU []).sub O O⟩))
   ·refine sk (sr (mv b O (Gv b O (Nb O ?_))))
    cases Y
    exact Cw.ret (zp3 O O (Res.mk a3 ⟨b,O,(W.up a2).s.sub O O⟩))
theorem p234_235 {x0 b x1 d x2 f k0 r}(h:Rd W K [b] x0)(i:Rd W K [d] x1)(k:Rd W K [f] x2)(Y:Vm.zbv x0 x1 x2=some r):Q1 234 [b,d,f, .func (.func 235) #[] [].toArray] W [] fun W' v=> ∃ a,v = .tuple [a,vB r.2].toArray/\Ow W' k0 [] [a] r.1:=
 (c234_235 (h.view _) (i.view _) (k.view _) Y).ad (fk k0) fun _ _ ⟨a,e,x⟩=>⟨a,e,x.back (ziQ _)⟩
theorem c204 {x0 b x1 d x2 e r}(i:Rd W0 [0] [b] x0)(k:Rd W0 [0] [d] x1)(x:Rd W0 [0] [e] x2)(Y:Vm.zdX x0 x1 x2=some r):Q0 204 [b,d,e] W0 fun Wf v=> ∃ h,v = .tuple [h,vB r.2].toArray/\OwS Wf LL [] [h] r.1:=by
 unfold Vm.zdX at Y
 refine zaz.of Tryz.func204 O O O O (sr (Gv (.slice none 0 0) O (Nb O (sr (mv b O (mv d O (mv e O (cr Y (fun _=>p234_235 (k0:=2) i k x) ?_))))))))
 rintro f _ B Y y ⟨a,rfl,z⟩
 have A:=y.o
 refine Lw.r O (R.ext (vs:=[a,vB f.2]) (v:=a) O O) (Lw.r O (R.ext (vs:=[a,vB f.2]) (v:=vB f.2) O O) (Gv a O (Nb O ?_)))
 cases Y
 exact Cw.ret (zp3 O O (Res.mk A ⟨a,O,z.s.sub O O⟩))
theorem p204 {x0 b x1 d x2 f k0 r}(h:Rd W K [b] x0)(i:Rd W K [d] x1)(k:Rd W K [f] x2)(Y:Vm.zdX x0 x1 x2=some r):Q1 204 [b,d,f] W [] fun W' v=> ∃ a,v = .tuple [a,vB r.2].toArray/\Ow W' k0 [] [a] r.1:=
 (c204 (h.view _) (i.view _) (k.view _) Y).ad (fk k0) fun _ _ ⟨a,e,x⟩=>⟨a,e,x.back (ziQ _)⟩
theorem c176 {x0 h x1 I x2 J r}(h0:Rd W0 [0] [h,vB x0.file] x0)(h1:Rd W0 [0] [I,vB x1.file] x1)(h2:Rd W0 [0] [J,vB x2.file] x2)(Y:Vm.zge x0 x1 x2=some r):Q0 176 [.agg [h,vB x0.file].toArray, .agg [I,vB x1.file].toArray, .agg [J,vB x2.file].toArray] W0 fun Wf v=> ∃ Z,v = .tuple [.agg [Z,vB r.1.file].toArray,vI r.2].toArray/\Rd Wf [0] [Z] r.1.text:=by
 unfold Vm.zge at Y
 obtain⟨b9,aa,b⟩:=has.split h0
 simp only[List.cons.injEq,and_true,true_and]at aa
 obtain rfl:=aa
 obtain⟨cb,ac,i⟩:=has.split h1
 simp only[List.cons.injEq,and_true,true_and]at ac
 obtain rfl:=ac
 obtain⟨cc,ae,k⟩:=has.split h2
 simp only[List.cons.injEq,and_true,true_and]at ae
 obtain rfl:=ae
 refine zaz.of Tryz.func176 O O O O (sr (bo 2 O fun g1 W1 l1 b1=>?_))
 have a2:=l1.o
 refine bo 3 O fun g3 W3 l3 b3=>?_
 have a4:=a2.n l3
 refine bo 4 O fun g6 W6 L b6=>?_
 have a7:=a4.n L
 refine al 5 [.slice none 0 0,vB false] fun cj a9 l10 ai=>?_
 have D:=a7.n l10
 have N:=((b1.up l3).up L).up l10
 have P:=(b3.up L).up l10
 refine Ni O (Cw.seq (Cw.block ?_))
 obtain⟨ba,bb,Y⟩:=zbM Y
 refine Cw.join 10 18 [10] (fun l w=> ∃ Q S,CW.w S=w/\Le [] a9 S/\l=[vB Q]/\ba Q=some r) ?_ ?_
 ·rintro _ _ σ ⟨Q,S,rfl,d,rfl,Y⟩
  rw[bb]at Y
  have E:=D.n d
  have F:=(b6.up l10).up d
  refine cn Y (fun Y=>?_) fun Y=>?_
  ·refine sr (la F (sta (ai.up d) (zaa k.oc (zaa O za0)) fun ck bc be=>?_))
   have aj:=E.t bc
   refine Ni O ?_
   cases Y
   exact Cw.ret (zhl O be O (Res.mk aj ⟨J,O,(k.ul aj)⟩))
  ·refine sr (la F (la (N.up d) (ca Y (fun _=>p203 (has.rd (K:=[0]) x2.text x2.file (k.ul E)) (has.rd (K:=[0]) x0.text x0.file (b.ul E))) fun cl T Y e=>?_)))
   have ak:=E.n e
   have U:=(P.up d).up e
   have am:=(ai.up d).up e
   refine Nb O (cn Y (fun Y=>?_) fun Y=>?_)
   ·refine sr (la U (sta am (zaa i.oc (zaa O za0)) fun cm bg bh=>?_))
    have an:=ak.t bg
    refine Ni O ?_
    cases Y
    exact Cw.ret (zhl O bh O (Res.mk an ⟨I,O,(i.ul an)⟩))
   ·obtain⟨bi,bj,Y⟩:=zbM Y
    refine Cw.join 25 33 [25] (fun l w=> ∃ V W,CW.w W=w/\Le [] T W/\l=[vB V]/\bi V=some r) ?_ ?_
    ·rintro _ _ σ ⟨V,W,rfl,x,rfl,Y⟩
     rw[bj]at Y
     have f:=ak.n x
     have y:=((N.up d).up e).up x
     have G:=am.up x
     refine cn Y (fun Y=>?_) fun Y=>?_
     ·refine sr (la y (sta G (zaa b.oc (zaa O za0)) fun co bk bl=>?_))
      have ao:=f.t bk
      refine Ni O ?_
      cases Y
      exact Cw.ret (zhl O bl O (Res.mk ao ⟨h,O,(b.ul ao)⟩))
     ·refine sr (fl y O (Lw.r O (R.not O) (Nb O (cn Y (fun Y=>?_) fun Y=>?_))))
      ·refine sr (la y (sta G (zaa b.oc (zaa O za0)) fun cp bm bn=>?_))
       have ap:=f.t bm
       refine Ni O ?_
       cases Y
       exact Cw.ret (zhl O bn O (Res.mk ap ⟨h,O,(b.ul ap)⟩))
      ·refine sk (sr (fl y O (fl (U.up x) O (fl ((F.up e).up x) O (cr Y (fun _=>p204 (k0:=6) (b.ul f) (i.ul f) (k.ul f)) ?_)))))
       rintro z _ cq Y H ⟨a,rfl,X⟩
       have aq:=f.n H
       refine mv (.tuple [a,vB z.2].toArray) O (Lw.r O (R.ext (vs:=[a,vB z.2]) (v:=a) O O) (Lw.r O (R.ext (vs:=[a,vB z.2]) (v:=vB z.2) O O) (Gv a O (Nb O (ssr (mb O (Lw.r O (R.not O) (nl (cn Y (fun Y=>?_) fun Y=>?_)))))))))
       ·refine sr (la (y.up H) (sta (G.up H) (zaa b.oc (zaa O za0)) fun ct bp bq=>?_))
        have ar:=aq.t bp
        refine Ni O ?_
        cases Y
        exact Cw.ret (zhl O bq O (Res.mk ar ⟨h,O,(b.ul ar)⟩))
       ·refine sk (sr (mv a O (Lw.r O (R.bd (zs:=[.slice none 0 0,vB false]) (cs:=[a,vB true]) [(0,a),(1,vB true)] O O O (zbc X.oc O (zbc O O ze4))) (sta (G.up H) (zaa X.oc (zaa O za0)) fun cu au br=>?_))))
        have bu:=aq.t au
        refine Ni O ?_
        obtain⟨bv,bw,av,bz⟩:=zn3 _ 6
        have b0:Rd (α:=List Str) bv [0] [a] z.1:=by rw[bz];exact((X.up au).rd.dye 6).sub (M:=[0]) O
        have b2:=bu.t av
        cases Y
        rw[<- bw]
        exact Cw.ret (zhl O (br.up av) O (Res.mk b2 ⟨a,O,b0⟩))
    ·refine rg (fl U O (Lw.r O (R.not O) (mb O (bs Y (fun A Y=>?_) fun A Y=>?_))))
     ·exact psk 3 A O (Pb A O (Nb O ((ag) ⟨true,T,O,Le.refl _ _,O,Y⟩)))
     ·exact wak 3 A (fl (F.up e) O (Lw.r O (R.not O) (Pb A O (Nb O ((ag) ⟨(!x2.file),T,O,Le.refl _ _,O,Y⟩)))))
 ·refine rg (la P (la N (ca Y (fun _=>p203 (has.rd (K:=[0]) x1.text x1.file (i.ul D)) (has.rd (K:=[0]) x0.text x0.file (b.ul D))) fun cv b4 Y B=>?_)))
  have aw:=D.n B
  refine mb O (bs Y (fun C Y=>?_) fun C Y=>?_)
  ·exact psk 3 C O (Pb C O (Nb O ((ag) ⟨true,b4,O,B,O,Y⟩)))
  ·exact wak 3 C (la (P.up B) (la ((b6.up l10).up B) (ca Y (fun _=>p203 (has.rd (K:=[0]) x1.text x1.file (i.ul aw)) (has.rd (K:=[0]) x2.text x2.file (k.ul aw))) fun b5 b7 Y b8=>Pb C O (Nb O ((ag) ⟨b5,b7,O,(B.j b8).w,O,Y⟩)))))
theorem p176 {x0 b x1 d x2 f r}(h:Rd W K [b,vB x0.file] x0)(i:Rd W K [d,vB x1.file] x1)(k:Rd W K [f,vB x2.file] x2)(Y:Vm.zge x0 x1 x2=some r):Q1 176 [.agg [b,vB x0.file].toArray, .agg [d,vB x1.file].toArray, .agg [f,vB x2.file].toArray] W [] fun W' v=> ∃ a,v = .tuple [.agg [a,vB r.1.file].toArray,vI r.2].toArray/\Rd W' (0::K) [a] r.1.text:=
 (c176 (h.view _) (i.view _) (k.view _) Y).ad (fk 0) fun _ _ ⟨a,e,x⟩=>⟨a,e,x.back O⟩
theorem c120 {x0 z x1 B x2 C r}(L:Rd W0 [0] [z] x0)(h1:Rd W0 [0] [B] x1)(h2:Rd W0 [0] [C] x2)(be:Gl 0 W0 [0])(Y:Vm.zgf x0 x1 x2=some r):Q0 120 [z,B,C] W0 fun Wf v=> ∃ u0 u1,v = .tuple [u0,u1].toArray/\OwS (α:=List (Sh Vm.File)) Wf [31] [0] [u0] r.1/\OwS Wf [32] [] [u1] r.2:=by
 unfold Vm.zgf at Y
 refine zaz.of Tryz.func120 O O O O (sr (Gv (.slice none 0 0) O (Nv (.slice none 0 0) O (ssr (mv z O (mv B O (mv C O (ca Y (fun _=>p119 L h1 h2 be) fun z1 W3 Y l3=>?_))))))))
 have N:=l3.o
 refine Lw.r O (R.not O) (nl (cn Y (fun Y=>?_) fun Y=>?_))
 ·refine sr (Gv (.slice none 0 0) O (Nv (.slice none 0 0) O ?_))
  cases Y
  exact Cw.ret (zp3 O O (Res.mk N ⟨.slice none 0 0, .slice none 0 0,O,(zvd [0]).sub O O,(znU []).sub O O⟩))
 ·refine sk (sr (Nv (.slice none 0 0) O (sr (Nv (.slice none 0 0) O (ssr (mv z O (mv B O (mv C O (Lw.t O (T.bsS (α:=Sh (List File)) (xs:=[x0,x1,x2]) 2 [0] (W:=W3) [z,B,C] (bsE [[z],[B],[C]] (zBo L.oc (zBo h1.oc (zBo h2.oc zBn))) (Each.cons ((L.ul N).sh1) (Each.cons ((h1.ul N).sh1) (Each.cons ((h2.ul N).sh1) Each.nil)))) O) ?_)))))))))
  rintro v9 _ ⟨W9,rfl,l9,o9⟩
  have cl:=N.n l9
  have cm:Rd (α:=List (List Vm.File)) W9 [2,0] [v9] ([x0,x1,x2]:List (List File)):=Ow.rdSh o9
  refine cr Y (fun _=>p175 (K:=[0,2]) (k0:=3) (cm.sub (M:=[0,2]) O)) ?_
  rintro bi el bj Y co ⟨_,rfl,aw⟩
  have cp:=cl.n co
  refine Lw.ln bi aw.rd O (mi O (nl (Cw.block ?_)))
  obtain⟨cq,ct,Y⟩:=zbM Y
  refine Cw.loop 25 59 [8,9,11,12,13,25] (fun m l w=> ∃ (F:List Vm.File) (P:List Vm.Clash) (ai:Int) (d h bk bl bm:Value) (i:CW),i.w=w/\Le [4,5,6,7,8,9] bj i/\l=[d,h,bk,bl,bm,vI ai]/\Ow (α:=List (Sh Vm.File)) i 4 [0] [d] F/\Ow i 5 [] [h] P/\Vm.zcE x0 x1 x2 bi cq m F P ai=some r) _ ⟨([]:List File),([]:List Clash),0, .slice none 0 0, .slice none 0 0,undef,undef,undef,bj,O,Le.refl _ _,O,zBr 4 [0],owN 5 [],Y⟩ ?_
  rintro(_ |em) _ _ σ ⟨F,P,ai,d,h,bk,bl,bm,i,rfl,aj,rfl,ax,ay,Y⟩
  ·cases Y
  unfold Vm.zcE at Y
  have ak:=cp.t aj
  refine sr (Lw.lt O (nl (Cw.seq (cn Y (fun Y=>?_) fun Y=>?_))))
  ·refine sk ?_
   obtain⟨cu,cv,Y⟩:=zbM Y
   refine Cw.join 27 58 [8,9,11,12,13] (fun l w=> ∃ (am:List Vm.File) (an:List Vm.Clash) (ao ap az a0 a1:Value) (G:CW),G.w=w/\Le [4,5,6,7,8,9] i G/\l=[ao,ap,az,a0,a1]/\Ow (α:=List (Sh Vm.File)) G 4 [0] [ao] am/\Ow G 5 [] [ap] an/\cu am an=some r) ?_ ?_
   ·rintro _ _ σ ⟨am,an,ao,ap,az,a0,a1,G,rfl,cw,rfl,cx,cy,Y⟩
    rw[cv]at Y
    exact rg (Lw.add O (mi O (nl ((agm) ⟨am,an,w64 (ai+1),ao,ap,az,a0,a1,G,O,(aj.j cw).w,O,cx,cy,Y⟩))))
   ·refine Cw.block (sr ?_)
    obtain⟨b,bn,Y⟩:=ob Y
    refine Lw.r O (R.ix (α:=Str) (aw.up aj).rd bn O O O) (Lw.r O (R.ld O O ((aw.up aj).rd.at_ bn).str) (Ns O (sr (mv z O (ms O (cr Y (fun _=>p177 (k0:=6) (L.ul ak)) ?_))))))
    rintro Q _ en Y S ⟨cz,rfl,c0⟩
    have bp:=ak.n S
    refine mv B O (ms O (cr Y (fun _=>p177 (k0:=7) (h1.ul bp)) ?_))
    rintro U _ eo Y H ⟨c1,rfl,bq⟩
    have c2:=bp.n H
    refine mv C O (ms O (cr Y (fun _=>p177 (k0:=8) (h2.ul c2)) ?_))
    rintro V _ ep Y D ⟨c3,rfl,br⟩
    have bu:=(c0.up H).up D
    refine cr Y (fun _=>p176 (K:=[6,7,8]) (x0:=(Vm.has.mk Q.text Q.file)) (x1:=(Vm.has.mk U.text U.file)) (x2:=(Vm.has.mk V.text V.file)) ((has.rd (K:=[6]) Q.text Q.file bu.rd).sub (M:=[6,7,8]) O) ((has.rd (K:=[7]) U.text U.file (bq.up D).rd).sub (M:=[6,7,8]) O) ((has.rd (K:=[8]) V.text V.file br.rd).sub (M:=[6,7,8]) O)) ?_
    rintro a _ er Y E ⟨e,rfl,c4⟩
    have aq:=c4.sub (M:=[0,6,7,8]) O
    refine mv (.tuple [.agg [e,vB a.1.file].toArray,vI a.2].toArray) O (Lw.r O (R.ext (vs:=[.agg [e,vB a.1.file].toArray,vI a.2]) (v:= .agg [e,vB a.1.file].toArray) O O) (Lw.r O (R.ext (vs:=[.agg [e,vB a.1.file].toArray,vI a.2]) (v:=vI a.2) O O) (al 9 [.slice none 0 0,vB false] fun bv es k c5=>sta c5 (zaa aq.oc (zaa O za0)) fun bw y bz=>?_)))
    have b0:=(((((ay.up S).up H).up D).up E).up k).up y
    refine Ni O ?_
    obtain⟨c6,c7,Y⟩:=zbM Y
    refine Cw.join 42 49 [9] (fun l w=> ∃ X Z aa,CW.w aa=w/\Le [5] bw aa/\l=[Z]/\Ow aa 5 [] [Z] X/\c6 X=some r) ?_ ?_
    ·rintro _ _ σ ⟨X,Z,aa,rfl,f,rfl,b1,Y⟩
     rw[c7]at Y
     have b2:=((((((ax.up S).up H).up D).up E).up k).up y).up f
     refine sr (fl (bz.up f) O (nl (cn Y (fun Y=>?_) fun Y=>?_)))
     ·refine rg (mv d O (ms O (fl (bz.up f) O (Lw.r O (R.bd (zs:=[vS ([]:Str), .slice none 0 0]) (cs:=[vS b,e]) [(0,vS b),(1,e)] O O O (zbc O O (zbc aq.oc O ze4))) (Lw.t O (T.bs 10 [.agg [vS b,e].toArray] (cs:=[vS b,e]) O O (bsA O)) ?_)))))
      rintro _ _ ⟨et,c8,rfl,rfl,A,c9⟩
      have da:=aq.up ((k.sub (M:=[5,9]) O).trans ((y.sub (M:=[5,9]) O).trans ((f.sub (M:=[5,9]) O).trans (A.sub (M:=[5,9]) O)))) O
      have db:Ow (α:=List (Sh Vm.File)) c8 4 [0,6,7,8] [d] F:=(b2.up A).sub O
      obtain⟨ar,dc,Y⟩:=ob Y
      refine Lw.t O (T.app1S (α:=Sh Vm.File) (K':=[0,6,7,8]) db c9 (File.rd (K:=[0,6,7,8]) b a.1.text da).sh1 O O dc) ?_
      rintro ac _ ⟨eu,rfl,I,dd⟩
      refine Nv ac O ?_
      have de:=aq.up ((k.sub (M:=[4,5,9]) O).trans ((y.sub (M:=[4,5,9]) O).trans ((f.sub (M:=[4,5,9]) O).trans ((A.sub (M:=[4,5,9]) O).trans (I.sub (M:=[4,5,9]) O))))) O
      obtain⟨a2,df,au,a3⟩:=zn3 _ 6
      have dg:Rd a2 [0,7,8] [e] a.1.text:=by rw[a3];exact(de.dye 6).sub (M:=[0,7,8]) O
      have dh:Ow (α:=List (Sh Vm.File)) a2 4 [0,7,8] [ac] ar:=by rw[a3];exact(dd.dyeA 6 O).sub O
      have ew:Rd (α:=List Str) a2 [0] [cz] Q.text:=by rw[a3];exact(((((((bu.up E).up k).up y).up f).up A).up I).rd.dye 6).sub (M:=[0]) O
      obtain⟨a5,di,a6,a7⟩:=zn3 _ 7
      have dj:Rd a5 [0,8] [e] a.1.text:=by rw[a7];exact(dg.dye 7).sub (M:=[0,8]) O
      have dk:Ow (α:=List (Sh Vm.File)) a5 4 [0,8] [ac] ar:=by rw[a7];exact(dh.dyeA 7 O).sub O
      have ex:Rd (α:=List Str) a5 [0] [c1] U.text:=by rw[a7];exact(((((((((bq.up D).up E).up k).up y).up f).up A).up I).up au).rd.dye 7).sub (M:=[0]) O
      obtain⟨av,dl,b3,a8⟩:=zn3 _ 8
      have ey:Rd av [0] [e] a.1.text:=by rw[a8];exact(dj.dye 8).sub (M:=[0]) O
      have dm:Ow (α:=List (Sh Vm.File)) av 4 [0] [ac] ar:=by rw[a8];exact(dk.dyeA 8 O).sub O
      have ez:Rd (α:=List Str) av [0] [c3] V.text:=by rw[a8];exact(((((((((br.up E).up k).up y).up f).up A).up I).up au).up a6).rd.dye 8).sub (M:=[0]) O
      exact(ag) ⟨ar,X,ac,Z,vS b,ptr (bx bv),vI a.2,av,dl.trans (di.trans (df)),(((((((((((S.j H).j D).j E).j k).j y).j f).j A).j I).j au).j a6).j b3).w,O,dm,(((((b1.up A).up I).up au).up a6).up b3),Y⟩
     ·exact sk ((ag) ⟨F,X,d,Z,vS b,ptr (bx bv),vI a.2,aa,O,((((((S.j H).j D).j E).j k).j y).j f).w,O,b2,b1,Y⟩)
    ·refine sr (mi O (Lw.ne O (nl (cn Y (fun Y=>?_) fun Y=>?_))))
     ·refine rg (mv h O (ms O (mi O (Lw.r O (R.bd (zs:=[vS ([]:Str),vI 0]) (cs:=[vS b,vI a.2]) [(0,vS b),(1,vI a.2)] O O O (zbc O O (zbc O O ze4))) (Lw.t O (T.bs 11 [.agg [vS b,vI a.2].toArray] (cs:=[vS b,vI a.2]) O O (bsA O)) ?_)))))
      rintro _ _ ⟨e0,e1,rfl,rfl,b4,dn⟩
      obtain⟨dp,dq,Y⟩:=ob Y
      refine Lw.t O (T.app1S (α:=Clash) (K':=[]) (b0.up b4) dn (Clash.rd (K:=[]) b a.2) O O dq) ?_
      rintro b5 _ ⟨dr,rfl,ds,dt⟩
      exact Nv b5 O ((ag) ⟨dp,b5,dr,O,(b4.j ds).w,O,dt,Y⟩)
     ·exact sk ((ag) ⟨P,h,bw,O,Le.refl _ _,O,b0,Y⟩)
  ·refine Cw.exit ?_
   rw[ct]at Y
   refine Cw.seq ?_
   obtain⟨du,dv,Y⟩:=zbM Y
   refine Cw.join 60 67 [67] (fun l w=> ∃ a9 ba,CW.w ba=w/\Le [] i ba/\l=[vB a9]/\du a9=some r) ?_ ?_
   ·rintro _ _ σ ⟨a9,ba,rfl,bb,rfl,Y⟩
    rw[dv]at Y
    have bc:=ak.n bb
    refine cn Y (fun Y=>?_) fun Y=>?_
    ·refine sr (mv z O (cr Y (fun _=>p117 (k0:=12) (L.ul bc)) ?_))
     rintro e2 b6 e3 Y dw ⟨_,rfl,dx⟩
     have dy:=bc.n dw
     refine Lw.r O (R.bd (zs:=[vS ([]:Str),vI 0]) (cs:=[vS ([]:Str),vI 4]) [(1,vI 4)] O O O (zbc O O ze4)) (Lw.t O (T.bsO (α:=Clash) (J:=[]) (xs:=[Vm.Clash.mk ([]:Str) 4]) 13 [.agg [vS ([]:Str),vI 4].toArray] (bsL [[vS ([]:Str),vI 4]] (zCh O zBn) (OwL.cons (x:=(Vm.Clash.mk ([]:Str) 4)) (OwS.atm (K:=[]) (Clash.rd (K:=[]) ([]:Str) 4)) OwL.nil)) O) ?_)
     rintro b7 _ ⟨e4,rfl,b8,dz⟩
     have d0:=dy.n b8
     refine Gv b6 O (Nv b7 O ?_)
     obtain⟨e5,d1,b9,d2⟩:=(dx.up b8).toSh
     have d3:=d0.t b9
     obtain⟨e6,d4,cb,d5⟩:=d2.dyeO 31
     have d6:=d3.t cb
     obtain⟨e7,d7,cc,d8⟩:=((dz.up b9).up cb).dyeO 32
     have d9:=d6.t cc
     cases Y
     rw[<- d7.trans (d4.trans (d1))]
     exact Cw.ret (zp3 O O (Res.mk d9 ⟨b6,b7,O,(d5.up cc).s,d8.s⟩))
    ·refine sk (sr (mv d O (mv h O (Gv d O (Nv h O ?_)))))
     obtain⟨e8,ea,cd,eb⟩:=(ax.up bb).dyeO 31
     have ec:=bc.t cd
     obtain⟨e9,ed,ce,ee⟩:=((ay.up bb).up cd).dyeO 32
     have ef:=ec.t ce
     cases Y
     rw[<- ed.trans (ea)]
     exact Cw.ret (zp3 O O (Res.mk ef ⟨d,h,O,(eb.up ce).s,ee.s⟩))
   ·refine rg (mv h O (Lw.ln P ay.rd O (Lw.eq O (mb O (bs Y (fun ae Y=>?_) fun ae Y=>?_)))))
    ·refine wak 3 ae (mv d O ?_)
     have eg:Rd (α:=List Vm.File) i [4,0] [d] F:=Ow.rdSh ax
     exact ca Y (fun _=>p114 (K:=[0,4]) (eg.sub (M:=[0,4]) O) ((be.ul ak).sub (M:=[0,4]) O)) fun eh ei Y ej=>Lw.r O (R.not O) (Pb ae O (nl ((ag) ⟨(!eh),ei,O,ej,O,Y⟩)))
    ·exact psk 3 ae O (Pb ae O (nl ((ag) ⟨false,i,O,Le.refl _ _,O,Y⟩)))
theorem p120 {x0 d x1 f x2 h k0 k1 r}(i:Rd W K [d] x0)(k:Rd W K [f] x1)(x:Rd W K [h] x2)(y:Gl 0 W K)(Y:Vm.zgf x0 x1 x2=some r):Q1 120 [d,f,h] W [] fun W' v=> ∃ a b,v = .tuple [a,b].toArray/\Ow (α:=List (Sh Vm.File)) W' k0 (0::K) [a] r.1/\Ow W' k1 [] [b] r.2:=
 zaz.adJ (J:=[]) (fun c=>bif Nat.beq c 0 then 0 else bif Nat.beq c 31 then k0 else bif Nat.beq c 32 then k1 else 0) (c120 (i.view _) (k.view _) (x.view _) (y.view _) Y) fun _ _ ⟨a,b,e,z,A⟩=>⟨a,b,e,z.one1.backNS O O,A.one1.backN O⟩
theorem c50 {x0 e x1 f x2 h r}(i:Rd W0 [0] [e] x0)(k:Rd W0 [0] [f] x1)(x:Rd W0 [0] [h] x2)(y:Gl 0 W0 [0])(Y:Vm.zcq x0 x1 x2=some r):Q0 50 [e,f,h] W0 fun Wf v=> ∃ z,v = .tuple [z,vB r.2].toArray/\OwS (α:=List (Sh Vm.File)) Wf LL [0] [z] r.1:=by
 unfold Vm.zcq at Y
 refine zaz.of Tryz.func50 O O O O (sr (Gv (.slice none 0 0) O (Nb O (ssr (mv e O (mv f O (mv h O (ca Y (fun _=>p119 i k x y) fun I J Y C=>?_))))))))
 have b:=C.o
 refine Lw.r O (R.not O) (nl (cn Y (fun Y=>?_) fun Y=>?_))
 ·refine sr (Gv (.slice none 0 0) O (Nb O ?_))
  cases Y
  exact Cw.ret (zp3 O O (Res.mk b ⟨.slice none 0 0,O,(zvd [0]).sub O O⟩))
 ·refine sk (sr (mv e O (mv f O (mv h O (cr Y (fun _=>p120 (k0:=2) (k1:=3) (i.ul b) (k.ul b) (x.ul b) (y.ul b)) ?_)))))
  rintro A _ D Y E ⟨a,d,rfl,F,G⟩
  have H:Ow (α:=List (Sh Vm.File)) D 2 [0] [a] A.1:=F.sub O
  have B:=b.n E
  refine mv (.tuple [a,d].toArray) O (Lw.r O (R.ext (vs:=[a,d]) (v:=a) O O) (Lw.r O (R.ext (vs:=[a,d]) (v:=d) O O) (Gv a O (Nv d O (ssr (mv d O (Lw.ln A.2 G.rd O (Lw.gt O (nl (cn Y (fun Y=>?_) fun Y=>?_))))))))))
  ·refine sr (Gv (.slice none 0 0) O (Nb O ?_))
   cases Y
   exact Cw.ret (zp3 O O (Res.mk B ⟨.slice none 0 0,O,(zvd [0]).sub O O⟩))
  ·refine sk (sr (mv a O (Gv a O (Nb O ?_))))
   cases Y
   exact Cw.ret (zp3 O O (Res.mk B ⟨a,O,H.s.sub O O⟩))
theorem p50 {x0 b x1 d x2 f k0 r}(h:Rd W K [b] x0)(i:Rd W K [d] x1)(k:Rd W K [f] x2)(x:Gl 0 W K)(Y:Vm.zcq x0 x1 x2=some r):Q1 50 [b,d,f] W [] fun W' v=> ∃ a,v = .tuple [a,vB r.2].toArray/\Ow (α:=List (Sh Vm.File)) W' k0 (0::K) [a] r.1:=
 (c50 (h.view _) (i.view _) (k.view _) (x.view _) Y).ad (fk k0) fun _ _ ⟨a,e,y⟩=>⟨a,e,y.backS (ziQ _) O⟩
theorem c157 {x0 d x1 r}(i:Rd W0 [0] [d] x0)(h1:Rd W0 [0] [vS x1.Name,vI x1.At] x1)(Y:Vm.zdB x0 x1=some r):Q0 157 [d, .agg [vS x1.Name,vI x1.At].toArray] W0 fun Wf v=> ∃ P,v=P/\OwS Wf LL [] [P] r:=by
 unfold Vm.zdB at Y
 refine zaz.of Tryz.func157 O O O O (sr (bo 2 O fun g1 Q l1 S=>?_))
 have U:=l1.o
 refine Nv (.slice none 0 0) O (sr (mv d O (Lw.ln x0 (i.ul U) O (Ni O (Cw.seq (Cw.block ?_))))))
 obtain⟨K6,an,Y⟩:=zbM Y
 refine Cw.loop 8 22 [5] (fun m l w=> ∃ b k,CW.w k=w/\Le [] Q k/\l=[vI b]/\Vm.zcx x0 x1 K6 m b=some r) _ ⟨(x0.length:Int),Q,O,Le.refl _ _,O,Y⟩ ?_
 rintro(_ |m7) _ _ σ ⟨b,k,rfl,x,rfl,Y⟩
 ·cases Y
 unfold Vm.zcx at Y
 have V:=U.n x
 refine Cw.seq ?_
 obtain⟨ao,ap,Y⟩:=zbM Y
 refine Cw.join 8 20 [20] (fun l w=> ∃ C y,CW.w y=w/\Le [] k y/\l=[vB C]/\ao C=some r) ?_ ?_
 ·rintro _ _ σ ⟨C,y,rfl,D,rfl,Y⟩
  rw[ap]at Y
  have aq:=V.n D
  refine cn Y (fun Y=>?_) fun Y=>?_
  ·exact sk (Cw.block (rg (mi O (Lw.sub O (Ni O ((agm) ⟨w64 (b-1),y,O,(x.j D).w,O,Y⟩))))))
  ·refine Cw.exit ?_
   rw[an]at Y
   refine Cw.seq ?_
   obtain⟨E,ar,Y⟩:=ob Y
   obtain⟨z,au,Y⟩:=ob Y
   refine Cw.par [[],[],[0,1],[],[],[4],[0,1,2,3,4,5],[0,1,2,3,4,5,6]] [[],[],[0,1],[],[],[4],[2,3,5],[6]] [[],[],[3],[],[],[],[3],[]] [[0],[1],[2],[3],[4],[5],[6],[6,7]] [[3],[],[3],[],[],[4],[5],[]] [1,3,4,5,6,7] [3] [fun vs W=>Ow W 3 [] [(vs 0)] ([]:List Head),fun vs W=>(vs 1)=d,fun vs W=>Ow W 3 [] [(vs 2)] E,fun vs W=>(vs 3)=vI b,fun vs W=>(vs 4) = .agg [vS x1.Name,vI x1.At].toArray,fun vs W=>(vs 5) = .slice (some (bx (pg (vs 5)))) 1 1/\Bx W 4 (pg (vs 5)) [vS x1.Name,vI x1.At],fun vs W=>Ow W 5 [] [(vs 6)] z,fun vs W=>(vs 7)=(vs 6)] [] mixed (by kernel_rfl) O zrl.nil ?_
   intro bu X
   have Z:=aq.n X
   refine⟨(zbu.cons ?_ (zbu.cons ?_ (zbu.cons ?_ (zbu.cons ?_ (zbu.cons ?_ (zbu.cons ?_ (zbu.cons ?_ (zbu.cons ?_ zbu.nil)))))))),(zeJ.cons SO (zeJ.cons SE (zeJ.cons SO (zeJ.cons SE (zeJ.cons SE (zeJ.cons (fun vs vs' W W' _ hv l hd h=>by(show(vs' 5) = .slice (some (bx (pg (vs' 5)))) 1 1/\Bx W' 4 (pg (vs' 5)) [vS x1.Name,vI x1.At]);rw[hv 5 (zaY O)];exact⟨h.1,h.2.up l (zeg hd (c:=4) O)⟩) (zeJ.cons SO (zeJ.cons (fun vs vs' W W' _ hv l hd h=>by(show(vs' 7)=(vs' 6));rw[hv 6 (zaY O),hv 7 (zaY O)];exact h) zeJ.nil)))))))),?_⟩
   ·intro vs bv lW hN hV
    refine Tr.mono (T.lit0 (α:=Head) 3 []) ?_
    rintro av _ ⟨aa,rfl,aw,ax⟩
    exact⟨aa,O,aw,(show Ow aa 3 [] [av] ([]:List Head) from ax)⟩
   ·intro vs bw lW hN hV
    exact Trq (R.mv (v:=d) O) O
   ·intro vs ay lW hN hV
    have az:=Z.t lW O
    obtain⟨a0,a1⟩: ∃ v,vs 0=v:=⟨_,O⟩
    obtain⟨vs,rfl⟩:=zaC a1
    have a3:Ow ay 3 [] [a0] ([]:List Head):=(hN 0 (zaY O))
    have F:vs 1=d:=(hN 1 (zaY O))
    obtain⟨vs,rfl⟩:=zaC F
    refine Tr.mono (T.appP (α:=Head) a3 (i.ul az) O O ar) ?_
    rintro a4 _ ⟨ac,rfl,a5,a6⟩
    exact⟨ac,O,a5,(show Ow ac 3 [] [a4] E from a6)⟩
   ·intro vs bz lW hN hV
    exact Trq (R.mv (v:=vI b) O) O
   ·intro vs b0 lW hN hV
    exact Trq (R.lda (cs:=[vS x1.Name,vI x1.At]) ((((S.up x).up D).up X).up lW O).cells O O) O
   ·intro vs b2 lW hN hV
    have G:vs 4 = .agg [vS x1.Name,vI x1.At].toArray:=(hN 4 (zaY O))
    obtain⟨vs,rfl⟩:=zaC G
    refine Tr.mono (T.bs 4 [.agg [vS x1.Name,vI x1.At].toArray] (cs:=[vS x1.Name,vI x1.At]) O O (bsA O)) ?_
    rintro _ _ ⟨H,ae,rfl,rfl,a7,a9⟩
    exact⟨ae,O,a7,(show(.slice (some (bx H)) 1 1:Value) = .slice (some (bx H)) 1 1/\Bx ae 4 H [vS x1.Name,vI x1.At] from⟨O,a9⟩)⟩
   ·intro vs af lW hN hV
    obtain⟨ba,bb⟩: ∃ v,vs 2=v:=⟨_,O⟩
    obtain⟨vs,rfl⟩:=zaC bb
    have bc:Ow af 3 [] [ba] E:=(hN 2 (zaY O))
    have I:vs 3=vI b:=(hN 3 (zaY O))
    obtain⟨vs,rfl⟩:=zaC I
    obtain⟨e,J⟩: ∃ e,vs 5 = .slice (some (bx e)) 1 1:=⟨_,((hN 5 (zaY O))).1⟩
    obtain⟨vs,rfl⟩:=zaC J
    have be:Bx af 4 e [vS x1.Name,vI x1.At]:=(hN 5 (zaY O)).2
    refine Tr.mono (T.call O (p192 (k0:=5) (c0:=3) bc be (Head.rd (K:=[0]) x1.Name x1.At) O O au)) ?_
    rintro bg _ ⟨ah,rfl,bh,⟨_,rfl,bi⟩⟩
    exact⟨ah,O,bh,(show Ow ah 5 [] [bg] z from bi)⟩
   ·intro vs bj lW hN hV
    obtain⟨f,L⟩: ∃ v,vs 6=v:=⟨_,O⟩
    obtain⟨vs,rfl⟩:=zaC L
    have b3:Ow bj 5 [] [f] z:=(hN 6 (zaY O))
    exact Trq (R.as (v:=f) O) O
   ·intro vs ai bk hN
    have bl:=Z.t bk
    have F:vs 1=d:=(hN 1 (zaY O))
    obtain⟨vs,rfl⟩:=zaC F
    have I:vs 3=vI b:=(hN 3 (zaY O))
    obtain⟨vs,rfl⟩:=zaC I
    have G:vs 4 = .agg [vS x1.Name,vI x1.At].toArray:=(hN 4 (zaY O))
    obtain⟨vs,rfl⟩:=zaC G
    obtain⟨e,J⟩: ∃ e,vs 5 = .slice (some (bx e)) 1 1:=⟨_,((hN 5 (zaY O))).1⟩
    obtain⟨vs,rfl⟩:=zaC J
    have b4:Bx ai 4 e [vS x1.Name,vI x1.At]:=(hN 5 (zaY O)).2
    obtain⟨f,L⟩: ∃ v,vs 6=v:=⟨_,O⟩
    obtain⟨vs,rfl⟩:=zaC L
    have bm:Ow ai 5 [] [f] z:=(hN 6 (zaY O))
    have bn:vs 7=f:=(hN 7 (zaY O))
    obtain⟨vs,rfl⟩:=zaC bn
    cases Y
    exact Cw.ret (zkN O (Res.mk bl ⟨f,O,bm.s.sub O O⟩))
 ·refine Cw.draw [] [(0,0),(1,0),(2,0),(3,0),(4,0),(5,0),(6,0),(7,0),(8,1),(9,0),(10,1),(11,0),(12,0)] mixed (by kernel_rfl) fun aj A=>?_
  have M:=V.n A
  refine Di O (Mw.p O O (fun _=>R.gt O O) (Db O (bs Y (fun a Y=>?_) fun a Y=>?_)))
  ·refine Wp a O (fun _=>R.mv (v:=d) O) (Wp a O (fun _=>R.mv (v:=vI b) O) (Wp a O (fun _=>R.sub O O) ?_))
   obtain⟨B,N,Y⟩:=ob Y
   exact Wp a O (fun _=>R.ix (α:=Head) (i.ul M) N O O O) (Wp a O (fun _=>R.fa O) (Wq a O (fun _ c=>R.ld O O (zaB (Head.at0 ((i.ul M).at_ N)).1 O (Head.at0 ((i.ul M).at_ N)).str c)) (Wp a O (fun _=>R.fa O) (Wq a O (fun _ c=>R.ld (v:=vS x1.Name) O O (((S.up x).up A).clc O O c)) (Wp a O (fun _=>R.sgt O O) (Mw.p O O (fun _=>R.pk a O (v:=vB (!(Op.bytesLess B.Name x1.Name||B.Name==x1.Name))) O) (Mw.nil ((ag) ⟨(!(Op.bytesLess B.Name x1.Name||B.Name==x1.Name)),aj,O,A,O,Y⟩))))))))
  ·exact dps 9 a O (Mw.p O O (fun _=>R.pk a O (v:=vB false) O) (Mw.nil ((ag) ⟨false,aj,O,A,O,Y⟩)))
theorem p157 {x0 b x1 k0 r}(d:Rd W K [b] x0)(f:Rd W K [vS x1.Name,vI x1.At] x1)(Y:Vm.zdB x0 x1=some r):Q1 157 [b, .agg [vS x1.Name,vI x1.At].toArray] W [] fun W' v=> ∃ a,v=a/\Ow W' k0 [] [a] r:=
 (c157 (d.view _) (f.view _) Y).ad (fk k0) fun _ _ ⟨a,e,h⟩=>⟨a,e,h.back (ziQ _)⟩
theorem c91 {x0 k x x1 x2 r}(am:Ow W0 2 [] [k] x0.Commits)(an:Ow W0 3 [] [x] x0.Heads)(Y:Vm.za1 x0 x1 x2=some r):Q0 91 [.agg [k,x].toArray,vS x1,vI x2] W0 fun Wf v=> ∃ V W,v = .agg [V,W].toArray/\OwS Wf [31] [] [V] r.Commits/\OwS Wf [32] [] [W] r.Heads:=by
 unfold Vm.za1 at Y
 refine zaz.of Tryz.func91 O O O O (sr (bo 4 O fun g1 W1 F X=>?_))
 have a2:=F.o
 refine al 5 [.slice none 0 0, .slice none 0 0] fun g5 Z d b5=>?_
 have a6:=a2.n d
 have o8:=(an.up F).up d
 refine nl (ssr (fl (X.up d) O (Lw.ln x0.Heads o8.rd O (mi O (nl (Cw.block ?_))))))
 obtain⟨au,av,Y⟩:=zbM Y
 refine Cw.loop 11 29 [7,11] (fun m l w=> ∃ e y z A ac B C a,CW.w a=w/\Le [] Z a/\l=[ac,vI e]/\Ow a 6 [] [B] y/\Ow a 7 [] [C] z/\Bx a 5 g5 [B,C]/\Ow a 3 [] [x] A/\Vm.zaF x0 x1 x2 au m e y z A=some r) _ ⟨0,([]:List Commit),([]:List Head),x0.Heads,undef, .slice none 0 0, .slice none 0 0,Z,O,Le.refl _ _,O,owN 6 [],owN 7 [],b5,o8,Y⟩ ?_
 rintro(_ |bq) _ _ σ ⟨e,y,z,A,ac,B,C,a,rfl,D,rfl,aw,ax,G,b,Y⟩
 ·cases Y
 unfold Vm.zaF at Y
 have ae:=a6.n D
 have H:=((am.up F).up d).up D
 have f:=(X.up d).up D
 refine sr (Lw.lt O (nl (Cw.seq (cn Y (fun Y=>?_) fun Y=>?_))))
 ·refine sk (Cw.seq (Cw.block (sr (mi O (Ni O (sr (fl f O (mi O ?_))))))))
  obtain⟨br,af,Y⟩:=ob Y
  refine Lw.r O (R.ix (α:=Head) b.rd af O O O) (Lw.fa O (Lw.r O (R.ld O O (Head.at0 (b.rd.at_ af)).str) (ms O (Lw.seq O (nl (cn Y (fun Y=>?_) fun Y=>?_))))))
  ·refine sr (fl f O (mi O (mi O ?_)))
   obtain⟨bu,ah,Y⟩:=ob Y
   refine Lw.r O (R.ix (α:=Head) b.rd ah O O O) (Lw.fa O ?_)
   obtain⟨bv,ay,Y⟩:=ob Y
   refine Lw.u (T.stH (α:=Head) (β:=Int) (J:=[]) (Ow.hole (α:=Head) (β:=Int) (jf:=1) b ah) (OwS.atm (K:=[]) (rdI _)) ay O O O O) ?_
   rintro _ _ ⟨bw,rfl,h,ai⟩
   have az:=ae.t h
   refine nl (sr (la (f.up h) (sta (G.up h) (zaa (H.up h).oc (zaa ai.oc za0)) fun bz I a0=>?_)))
   have a1:=az.t I
   refine nl ?_
   obtain⟨b0,a3,L,a4⟩:=((H.up h).up I).dyeO 31
   have a5:=a1.t L
   obtain⟨b2,a7,N,a8⟩:=((ai.up I).up L).dyeO 32
   have a9:=a5.t N
   cases Y
   rw[<- a7.trans (a3)]
   exact Cw.ret (zn1 O ((a0.up L).up N) (Res.mk a9 ⟨k,x,O,(a4.up N).s,a8.s⟩))
  ·exact sk (rg (Lw.add O (mi O (nl ((agm) ⟨w64 (e+1),y,z,A,vI e,B,C,a,O,D,O,aw,ax,G,b,Y⟩)))))
 ·refine Cw.exit ?_
  rw[av]at Y
  refine sr (fl f O (ms O (mi O (Lw.r O (R.bd (zs:=[vS ([]:Str),vI 0]) (cs:=[vS x1,vI x2]) [(0,vS x1),(1,vI x2)] O O O (zbc O O (zbc O O ze4))) (cr Y (fun _=>p157 (K:=[0,3]) (k0:=8) (x1:=(Vm.Head.mk x1 x2)) (b.rd.sub (M:=[0,3]) O) ((Head.rd (K:=[0]) x1 x2).sub (M:=[0,3]) O)) ?_)))))
  rintro b3 aj b4 Y E ⟨_,rfl,P⟩
  have ba:=ae.n E
  refine Lw.fa O (Lw.u (T.st (j:=1) (v:=aj) (f.up E) O O P.oc O O) ?_)
  rintro _ _ ⟨b6,rfl,i,bb⟩
  have bc:=ba.t i
  have ak:=(H.up E).up i
  refine nl (sr (la bb (sta ((G.up E).up i) (zaa ak.oc (zaa (P.up i).oc za0)) fun b7 Q be=>?_)))
  have bg:=bc.t Q
  refine nl ?_
  obtain⟨b8,bh,S,bi⟩:=(ak.up Q).dyeO 31
  have bj:=bg.t S
  obtain⟨b9,bk,U,bl⟩:=(((P.up i).up Q).up S).dyeO 32
  have bm:=bj.t U
  cases Y
  rw[<- bk.trans (bh)]
  exact Cw.ret (zn1 O ((be.up S).up U) (Res.mk bm ⟨k,aj,O,(bi.up U).s,bl.s⟩))
theorem p91 {x0 d f x1 x2 k0 k1 c0 c1 r}(h:Ow W c0 [] [d] x0.Commits)(i:Ow W c1 [] [f] x0.Heads)(hJ:okJ K [c0,c1]=true)(Y:Vm.za1 x0 x1 x2=some r):Q1 91 [.agg [d,f].toArray,vS x1,vI x2] W [c0,c1] fun W' v=> ∃ a b,v = .agg [a,b].toArray/\Ow W' k0 [] [a] r.Commits/\Ow W' k1 [] [b] r.Heads:=
 zaz.adJ (J:=[c0,c1]) (fun c=>bif Nat.beq c 0 then 0 else bif Nat.beq c 2 then c0 else bif Nat.beq c 3 then c1 else bif Nat.beq c 31 then k0 else bif Nat.beq c 32 then k1 else 0) (c91 (h.viewJ 0 hJ) (i.viewJ 1 hJ) Y) fun _ _ ⟨a,b,e,k,x⟩=>⟨a,b,e,k.one1.backN O,x.one1.backN O⟩
theorem c156 {x0 D E x1 x2 x3 y x4 b r}(V:Ow W0 2 [] [D] x0.Commits)(W:Ow W0 3 [] [E] x0.Heads)(X:Rd W0 [0] [y] x3)(Z:Ow W0 4 [] [b] x4)(Y:Vm.za3 x0 x1 x2 x3 x4=some r):Q0 156 [.agg [D,E].toArray,vS x1,vS x2,y,b] W0 fun Wf v=> ∃ F G,v = .agg [F,G].toArray/\OwS Wf [31] [] [F] r.Commits/\OwS Wf [32] [] [G] r.Heads:=by
 unfold Vm.za3 at Y
 refine zaz.of Tryz.func156 O O O O (sr (bo 5 O fun g1 W1 i b1=>?_))
 have a2:=i.o
 refine al 6 [.slice none 0 0, .slice none 0 0] fun g6 W6 f b6=>?_
 have a7:=a2.n f
 refine nl (Cw.seq (Cw.draw [] [(0,0),(1,1),(2,0),(3,0),(4,0),(5,2),(6,0),(7,2),(8,3),(9,0),(10,3)] mixed (by kernel_rfl) fun bb e=>?_))
 have H:=a7.n e
 have I:=(b1.up f).up e
 refine Dfl I O O O (Dv b O (Ds O (Dv y O ?_)))
 obtain⟨ah,ai,Y⟩:=ob Y
 refine Mw.t O O (T.call O (p117 (k0:=7) (X.ul H) ai)) ?_
 rintro k _ ⟨bc,rfl,d,⟨_,rfl,L⟩⟩
 have aj:=H.n d
 have M:=(((Z.up i).up f).up e).up d
 refine m0 d fun ak=>Mw.p O O (fun _=>R.bd (zs:=[.slice none 0 0,vS ([]:Str), .slice none 0 0]) (cs:=[b,vS x2,k]) [(0,b),(1,vS x2),(2,k)] O O O (zbc M.oc O (zbc O O (zbc L.oc O ze4)))) (Mw.t O O (T.bs 8 [.agg [b,vS x2,k].toArray] (cs:=[b,vS x2,k]) O O (bsA O)) ?_)
 rintro _ _ ⟨be,bg,rfl,rfl,a,am⟩
 have an:=aj.n a
 refine mc ak a fun bh=>?_
 obtain⟨N,ao,Y⟩:=ob Y
 refine Mw.l O O (T.app1 (α:=Commit) (J:=[4,7]) (K':=[]) (((((V.up i).up f).up e).up d).up a) am (Commit.own x4 x2 ah (M.up a).s (L.up a).s) O O ao) ?_
 rintro ap _ ⟨bi,rfl,x,z⟩
 have aq:=an.t x
 refine Df O (Mw.lu O (T.st (j:=0) (v:=ap) (((I.up d).up a).up x) O O z.oc O O) ?_)
 rintro _ _ ⟨bj,rfl,h,P⟩
 have ar:=aq.t h
 refine Mw.nil (sr (la P (ms O (fl P O (Lw.ln N (z.up h).rd O (Lw.sub O (cr Y (fun _=>p91 (K:=[0]) (k0:=9) (k1:=10) (c0:=2) (c1:=3) (x0:=(Vm.Repo.mk N x0.Heads)) (z.up h) (((((((W.up i).up f).up e).up d).up a).up x).up h) O) ?_)))))))
 rintro bk _ bl Y Q ⟨au,av,rfl,S,U⟩
 have aw:=ar.t Q
 refine sta ((((((b6.up e).up d).up a).up x).up h).up Q) (zaa S.oc (zaa U.oc za0)) fun bm A ax=>?_
 have ay:=aw.t A
 refine nl ?_
 obtain⟨bn,az,B,a0⟩:=(S.up A).dyeO 31
 have a1:=ay.t B
 obtain⟨bp,a3,C,a4⟩:=((U.up A).up B).dyeO 32
 have a5:=a1.t C
 cases Y
 rw[<- a3.trans (az)]
 exact Cw.ret (zn1 O ((ax.up B).up C) (Res.mk a5 ⟨au,av,O,(a0.up C).s,a4.s⟩))
theorem p156 {x0 d f x1 x2 x3 h x4 i k0 k1 c0 c1 c2 r}(k:Ow W c0 [] [d] x0.Commits)(x:Ow W c1 [] [f] x0.Heads)(y:Rd W K [h] x3)(z:Ow W c2 [] [i] x4)(hJ:okJ K [c0,c1,c2]=true)(Y:Vm.za3 x0 x1 x2 x3 x4=some r):Q1 156 [.agg [d,f].toArray,vS x1,vS x2,h,i] W [c0,c1,c2] fun W' v=> ∃ a b,v = .agg [a,b].toArray/\Ow W' k0 [] [a] r.Commits/\Ow W' k1 [] [b] r.Heads:=
 zaz.adJ (J:=[c0,c1,c2]) (fun c=>bif Nat.beq c 0 then 0 else bif Nat.beq c 2 then c0 else bif Nat.beq c 3 then c1 else bif Nat.beq c 4 then c2 else bif Nat.beq c 31 then k0 else bif Nat.beq c 32 then k1 else 0) (c156 (k.viewJ 0 hJ) (x.viewJ 1 hJ) (y.view _) (z.viewJ 2 hJ) Y) fun _ _ ⟨a,b,e,A,B⟩=>⟨a,b,e,A.one1.backN O,B.one1.backN O⟩
theorem c155 {x0 D E x1 e f r}(S:Rd W0 [0] [D,E] x0)(T:Ow W0 2 [] [e] x1.Commits)(U:Ow W0 3 [] [f] x1.Heads)(V:Gl 0 W0 [0])(Y:Vm.zbe x0 x1=some r):Q0 155 [.agg [D,E].toArray, .agg [e,f].toArray] W0 fun Wf v=> ∃ F G,v = .tuple [.agg [F,G].toArray,vB r.2].toArray/\OwS Wf [31] [] [F] r.1.Commits/\OwS Wf [32] [] [G] r.1.Heads:=by
 unfold Vm.zbe at Y
 obtain⟨a1,a3,H,W,X⟩:=Repo.split S
 simp only[List.cons.injEq,and_true,true_and]at H
 obtain⟨rfl,rfl⟩:=H
 refine zaz.of Tryz.func155 O O O O (sr (bo 4 O fun g1 W1 h Z=>?_))
 have a2:=h.o
 refine bo 5 O fun g5 W5 b I=>?_
 have a6:=a2.n b
 refine al 6 [.slice none 0 0, .slice none 0 0] fun a9 ba l10 J=>?_
 have L:=a6.n l10
 have i:=((T.up h).up b).up l10
 have k:=((U.up h).up b).up l10
 refine Nb O (ssr (la (I.up l10) (ca Y (fun _=>p43 (K:=[0,2,3]) (x0:=(Vm.Repo.mk x1.Commits x1.Heads)) ((Repo.rd (K:=[2,3]) x1.Commits x1.Heads (i.rd.sub (M:=[2,3]) O) (k.rd.sub (M:=[2,3]) O)).sub (M:=[0,2,3]) O) ((V.ul L).sub (M:=[0,2,3]) O)) fun bb bc Y a=>?_)))
 have d:=L.n a
 refine Lw.r O (R.not O) (nl (cn Y (fun Y=>?_) fun Y=>?_))
 ·refine sr (la (((Z.up b).up l10).up a) (cr Y (fun _=>p90 (k0:=7) (k1:=8) (Repo.rd (K:=[0]) x0.Commits x0.Heads (W.ul d) (X.ul d))) ?_))
  rintro be _ bg Y N ⟨ae,af,rfl,P,Q⟩
  have ah:=d.n N
  refine sta ((J.up a).up N) (zaa P.oc (zaa Q.oc za0)) fun bh x ai=>?_
  have aj:=ah.t x
  refine Nb O ?_
  obtain⟨bi,ak,y,am⟩:=(P.up x).dyeO 31
  have an:=aj.t y
  obtain⟨bj,ao,z,ap⟩:=((Q.up x).up y).dyeO 32
  have aq:=an.t z
  cases Y
  rw[<- ao.trans (ak)]
  exact Cw.ret (zhl O ((ai.up y).up z) O (Res.mk aq ⟨ae,af,O,(am.up z).s,ap.s⟩))
 ·refine sk (sr (la ((I.up l10).up a) (sta (J.up a) (zaa (i.up a).oc (zaa (k.up a).oc za0)) fun bk A ar=>?_)))
  have au:=d.t A
  refine Nb O ?_
  obtain⟨bl,av,B,aw⟩:=((i.up a).up A).dyeO 31
  have ax:=au.t B
  obtain⟨bm,ay,C,az⟩:=(((k.up a).up A).up B).dyeO 32
  have a0:=ax.t C
  cases Y
  rw[<- ay.trans (av)]
  exact Cw.ret (zhl O ((ar.up B).up C) O (Res.mk a0 ⟨e,f,O,(aw.up C).s,az.s⟩))
theorem p155 {x0 d f x1 h i k0 k1 c0 c1 r}(k:Rd W K [d,f] x0)(x:Ow W c0 [] [h] x1.Commits)(y:Ow W c1 [] [i] x1.Heads)(z:Gl 0 W K)(hJ:okJ K [c0,c1]=true)(Y:Vm.zbe x0 x1=some r):Q1 155 [.agg [d,f].toArray, .agg [h,i].toArray] W [c0,c1] fun W' v=> ∃ a b,v = .tuple [.agg [a,b].toArray,vB r.2].toArray/\Ow W' k0 [] [a] r.1.Commits/\Ow W' k1 [] [b] r.1.Heads:=
 zaz.adJ (J:=[c0,c1]) (fun c=>bif Nat.beq c 0 then 0 else bif Nat.beq c 2 then c0 else bif Nat.beq c 3 then c1 else bif Nat.beq c 31 then k0 else bif Nat.beq c 32 then k1 else 0) (c155 (k.view _) (x.viewJ 0 hJ) (y.viewJ 1 hJ) (z.view _) Y) fun _ _ ⟨a,b,e,A,B⟩=>⟨a,b,e,A.one1.backN O,B.one1.backN O⟩
theorem c152 {x0 a x1 r}(y:Rd W0 [0] [a] x0)(Y:Vm.zkA x0 x1=some r):Q0 152 [a,vI x1] W0 fun Wf v=>v=vI r:=by
 unfold Vm.zkA at Y
 refine zaz.of Tryz.func152 O O O O (sr (Ni O (ssr (Ni O (Cw.block ?_)))))
 obtain⟨z,A,Y⟩:=zbM Y
 refine Cw.loop 6 19 [1,4,5] (fun m l w=> ∃ b d e f,CW.w f=w/\Le [] W0 f/\l=[vI b,vI d,vI e]/\Vm.zhe x0 z m b d e=some r) _ ⟨x1,0,0,W0,O,Le.refl _ _,O,Y⟩ ?_
 rintro(_ |B) _ _ σ ⟨b,d,e,f,rfl,k,rfl,Y⟩
 ·cases Y
 unfold Vm.zhe at Y
 have h:=k.o
 refine ssr ?_
 have i:=y.ul h
 refine mi O (mv a O (Lw.ln x0 i O (Lw.lt O (nl (cn Y (fun Y=>?_) fun Y=>?_)))))
 ·refine sk (Cw.seq (Cw.block (ssr (mv a O (mi O ?_)))))
  obtain⟨C,x,Y⟩:=ob Y
  refine Lw.r O (R.ix (α:=Int) i x O O O) (Lw.r O (R.ld O O (i.at_ x).int) (mi O (Lw.ne O (nl (cn Y (fun Y=>?_) fun Y=>?_)))))
  ·exact sr (Ni O (.ret (rt Y h)))
  ·exact sk (rg (mi O (Lw.add O (Ni O (rg (mi O (Lw.add O (Ni O ((agm) ⟨w64 (b+1),d,w64 (e+1),f,O,k,O,Y⟩)))))))))
 ·refine Cw.exit ?_
  rw[A]at Y
  exact sr (mi O (Ni O (.ret (rt Y h))))
theorem p152 {x0 a x1 r}(b:Rd W K [a] x0)(Y:Vm.zkA x0 x1=some r):Q1 152 [a,vI x1] W [] fun W' v=>v=vI r:=
 (c152 (b.view _) Y).ad (fk 0) fun _ _ e=>e
theorem c153 {x0 b x1 r}(a:Rd W0 [0] [b] x0)(Y:Vm.zjz x0 x1=some r):Q0 153 [b,vI x1] W0 fun Wf v=>v=vI r:=by
 unfold Vm.zjz at Y
 refine zaz.of Tryz.func153 O O O O (sr (Ni O (ssr (Ni O (Cw.block ?_)))))
 obtain⟨D,E,Y⟩:=zbM Y
 refine Cw.loop 6 30 [1,4,5] (fun m l w=> ∃ i d e k,CW.w k=w/\Le [] W0 k/\l=[vI i,vI d,vI e]/\Vm.zgC x0 D m i d e=some r) _ ⟨x1,0,0,W0,O,Le.refl _ _,O,Y⟩ ?_
 rintro(_ |J) _ _ σ ⟨i,d,e,k,rfl,A,rfl,Y⟩
 ·cases Y
 unfold Vm.zgC at Y
 have x:=A.o
 refine ssr (mi O (mv b O (Lw.ln x0 (a.ul x) O (Lw.lt O (nl (cn Y (fun Y=>?_) fun Y=>?_))))))
 ·refine sk (Cw.seq (Cw.block (Cw.seq (Cw.seq (Cw.draw [] [(0,0),(1,0),(2,0),(3,0),(4,1),(5,0),(6,2),(7,0)] mixed (by kernel_rfl) fun K l10=>?_)))))
  have f:=x.n l10
  refine Dv b O (Di O ?_)
  obtain⟨L,y,Y⟩:=ob Y
  refine Mw.p O O (fun _=>R.ix (α:=File) (a.ul f) y O O O) (Df O (Mw.q O O (fun _ c=>R.ld O O (zaB (File.at0 ((a.ul f).at_ y)).1 O (File.at0 ((a.ul f).at_ y)).str c)) (Di O ?_)))
  obtain⟨M,F,Y⟩:=ob Y
  refine Mw.t O O (T.call O (p110 F)) ?_
  rintro _ _ ⟨N,rfl,z,rfl⟩
  have h:=f.n z
  refine m0 z fun P=>Mw.p O O (fun _=>R.sne O O) (Mw.nil (cn Y (fun Y=>?_) fun Y=>?_))
  ·exact sr (Ni O (.ret (rt Y h)))
  ·refine sk (sr (mi O (Lw.add O (Ni O (sr (mv b O (mi O ?_)))))))
   obtain⟨Q,B,Y⟩:=ob Y
   refine Lw.r O (R.ix (α:=File) (a.ul h) B O O O) (Lw.fa O ?_)
   obtain⟨S,c24,r25⟩:=(File.at1 ((a.ul h).at_ B)).cell O
   refine Lw.r O (R.ld O O c24) (mi O (ca Y (fun _=>p40 r25) fun G H Y C=>?_))
   have I:=h.n C
   refine Ni O (sr (mi O (Lw.lt O (nl (cn Y (fun Y=>?_) fun Y=>?_)))))
   ·exact sr (Ni O (.ret (rt Y I)))
   ·exact sk (rg (mi O (Lw.add O (Ni O ((agm) ⟨G,d,w64 (e+1),H,O,(((A.j l10).j z).j C).w,O,Y⟩)))))
 ·refine Cw.exit ?_
  rw[E]at Y
  exact sr (mi O (Ni O (.ret (rt Y x))))
theorem p153 {x0 a x1 r}(b:Rd W K [a] x0)(Y:Vm.zjz x0 x1=some r):Q1 153 [a,vI x1] W [] fun W' v=>v=vI r:=
 (c153 (b.view _) Y).ad (fk 0) fun _ _ e=>e
theorem c82 {x0 a x1 r}(b:Rd W0 [0] [a] x0)(Y:Vm.zie x0 x1=some r):Q0 82 [a,vI x1] W0 fun Wf v=>v=vI r:=by
 unfold Vm.zie at Y
 refine zaz.of Tryz.func82 O O O O (sr (Ni O (ssr (Ni O (Cw.block ?_)))))
 obtain⟨I,J,Y⟩:=zbM Y
 refine Cw.loop 6 39 [1,4,5] (fun m l w=> ∃ i d e k,CW.w k=w/\Le [] W0 k/\l=[vI i,vI d,vI e]/\Vm.zfH x0 I m i d e=some r) _ ⟨x1,0,0,W0,O,Le.refl _ _,O,Y⟩ ?_
 rintro(_ |P) _ _ σ ⟨i,d,e,k,rfl,B,rfl,Y⟩
 ·cases Y
 unfold Vm.zfH at Y
 have x:=B.o
 refine ssr ?_
 have y:=b.ul x
 refine mi O (mv a O (Lw.ln x0 y O (Lw.lt O (nl (cn Y (fun Y=>?_) fun Y=>?_)))))
 ·refine sk (Cw.seq (Cw.block (sr (mv a O (mi O ?_)))))
  obtain⟨Q,C,Y⟩:=ob Y
  refine Lw.r O (R.ix (α:=Commit) y C O O O) (Lw.fa O ?_)
  obtain⟨S,c13,r14⟩:=(Commit.at0 (y.at_ C)).cell O
  refine Lw.r O (R.ld O O c13) (mi O (ca Y (fun _=>p152 r14) fun U V Y D=>?_))
  have E:=x.n D
  refine Ni O (ssr (mi O (Lw.lt O (nl (cn Y (fun Y=>?_) fun Y=>?_)))))
  ·exact sr (Ni O (.ret (rt Y E)))
  ·refine sk (Cw.seq (Cw.seq (Cw.draw [] [(0,0),(1,0),(2,0),(3,0),(4,1),(5,0),(6,2),(7,0)] mixed (by kernel_rfl) fun W F=>?_)))
   have f:=E.n F
   refine Dv a O (Di O ?_)
   obtain⟨X,z,Y⟩:=ob Y
   refine Mw.p O O (fun _=>R.ix (α:=Commit) (b.ul f) z O O O) (Df O (Mw.q O O (fun _ c=>R.ld O O (zaB (Commit.at1 ((b.ul f).at_ z)).1 O (Commit.at1 ((b.ul f).at_ z)).str c)) (Di O ?_)))
   obtain⟨Z,K,Y⟩:=ob Y
   refine Mw.t O O (T.call O (p110 K)) ?_
   rintro _ _ ⟨aa,rfl,A,rfl⟩
   have h:=f.n A
   refine m0 A fun ac=>Mw.p O O (fun _=>R.sne O O) (Mw.nil (cn Y (fun Y=>?_) fun Y=>?_))
   ·exact sr (Ni O (.ret (rt Y h)))
   ·refine sk (sr (mi O (Lw.add O (Ni O (sr (mv a O (mi O ?_)))))))
    obtain⟨ae,G,Y⟩:=ob Y
    refine Lw.r O (R.ix (α:=Commit) (b.ul h) G O O O) (Lw.fa O ?_)
    obtain⟨af,c34,r35⟩:=(Commit.at2 ((b.ul h).at_ G)).cell O
    refine Lw.r O (R.ld O O c34) (mi O (ca Y (fun _=>p153 r35) fun L M Y H=>?_))
    have N:=h.n H
    refine Ni O (sr (mi O (Lw.lt O (nl (cn Y (fun Y=>?_) fun Y=>?_)))))
    ·exact sr (Ni O (.ret (rt Y N)))
    ·exact sk (rg (mi O (Lw.add O (Ni O ((agm) ⟨L,d,w64 (e+1),M,O,((((B.j D).j F).j A).j H).w,O,Y⟩)))))
 ·refine Cw.exit ?_
  rw[J]at Y
  exact sr (mi O (Ni O (.ret (rt Y x))))
theorem p82 {x0 a x1 r}(b:Rd W K [a] x0)(Y:Vm.zie x0 x1=some r):Q1 82 [a,vI x1] W [] fun W' v=>v=vI r:=
 (c82 (b.view _) Y).ad (fk 0) fun _ _ e=>e
theorem c83 {x0 b x1 r}(a:Rd W0 [0] [b] x0)(Y:Vm.zjA x0 x1=some r):Q0 83 [b,vI x1] W0 fun Wf v=>v=vI r:=by
 unfold Vm.zjA at Y
 refine zaz.of Tryz.func83 O O O O (sr (Ni O (ssr (Ni O (Cw.block ?_)))))
 obtain⟨C,D,Y⟩:=zbM Y
 refine Cw.loop 6 30 [1,4,5] (fun m l w=> ∃ d e f k,CW.w k=w/\Le [] W0 k/\l=[vI d,vI e,vI f]/\Vm.zgD x0 C m d e f=some r) _ ⟨x1,0,0,W0,O,Le.refl _ _,O,Y⟩ ?_
 rintro(_ |G) _ _ σ ⟨d,e,f,k,rfl,A,rfl,Y⟩
 ·cases Y
 unfold Vm.zgD at Y
 have x:=A.o
 refine ssr (mi O (mv b O (Lw.ln x0 (a.ul x) O (Lw.lt O (nl (cn Y (fun Y=>?_) fun Y=>?_))))))
 ·refine sk (Cw.seq (Cw.block (Cw.seq (Cw.seq (Cw.draw [] [(0,0),(1,0),(2,0),(3,0),(4,1),(5,0),(6,2),(7,0)] mixed (by kernel_rfl) fun H l10=>?_)))))
  have h:=x.n l10
  refine Dv b O (Di O ?_)
  obtain⟨I,y,Y⟩:=ob Y
  refine Mw.p O O (fun _=>R.ix (α:=Head) (a.ul h) y O O O) (Df O (Mw.q O O (fun _ c=>R.ld O O (zaB (Head.at0 ((a.ul h).at_ y)).1 O (Head.at0 ((a.ul h).at_ y)).str c)) (Di O ?_)))
  obtain⟨J,E,Y⟩:=ob Y
  refine Mw.t O O (T.call O (p110 E)) ?_
  rintro _ _ ⟨F,rfl,z,rfl⟩
  have i:=h.n z
  refine m0 z fun K=>Mw.p O O (fun _=>R.sne O O) (Mw.nil (cn Y (fun Y=>?_) fun Y=>?_))
  ·exact sr (Ni O (.ret (rt Y i)))
  ·refine sk (sr (mi O (Lw.add O (Ni O (ssr (mv b O (mi O ?_)))))))
   obtain⟨L,B,Y⟩:=ob Y
   refine Lw.r O (R.ix (α:=Head) (a.ul i) B O O O) (Lw.fa O (Lw.r O (R.ld O O (Head.at1 ((a.ul i).at_ B)).int) (mi O (Lw.ne O (nl (cn Y (fun Y=>?_) fun Y=>?_))))))
   ·exact sr (Ni O (.ret (rt Y i)))
   ·exact sk (rg (mi O (Lw.add O (Ni O (rg (mi O (Lw.add O (Ni O ((agm) ⟨w64 ((w64 (d+1))+1),e,w64 (f+1),F,O,((A.j l10).j z).w,O,Y⟩)))))))))
 ·refine Cw.exit ?_
  rw[D]at Y
  exact sr (mi O (Ni O (.ret (rt Y x))))
theorem p83 {x0 a x1 r}(b:Rd W K [a] x0)(Y:Vm.zjA x0 x1=some r):Q1 83 [a,vI x1] W [] fun W' v=>v=vI r:=
 (c83 (b.view _) Y).ad (fk 0) fun _ _ e=>e
theorem c21 {x0 b d x1 r}(x:Rd W0 [0] [b,d] x0)(Y:Vm.zfb x0 x1=some r):Q0 21 [.agg [b,d].toArray,vI x1] W0 fun Wf v=>v=vI r:=by
 unfold Vm.zfb at Y
 obtain⟨C,D,e,y,z⟩:=Repo.split x
 simp only[List.cons.injEq,and_true,true_and]at e
 obtain⟨rfl,rfl⟩:=e
 refine zaz.of Tryz.func21 O O O O (sr (bo 2 O fun E F A f=>?_))
 have h:=A.o
 refine Ni O (sr (fl f O (mi O (ca Y (fun _=>p82 (y.ul h)) fun G H Y i=>?_))))
 have a:=h.n i
 refine Ni O (ssr (mi O (Lw.lt O (nl (cn Y (fun Y=>?_) fun Y=>?_)))))
 ·exact sr (Ni O (.ret (rt Y a)))
 ·refine sk (sr (fl (f.up i) O (mi O (ca Y (fun _=>p83 (z.ul a)) fun I J Y B=>?_))))
  have k:=a.n B
  refine Ni O (ssr (mi O (Lw.lt O (nl (cn Y (fun Y=>?_) fun Y=>?_)))))
  ·exact sr (Ni O (.ret (rt Y k)))
  ·exact sk (sr (mi O (Ni O (.ret (rt Y k)))))
theorem p21 {x0 a b x1 r}(d:Rd W K [a,b] x0)(Y:Vm.zfb x0 x1=some r):Q1 21 [.agg [a,b].toArray,vI x1] W [] fun W' v=>v=vI r:=
 (c21 (d.view _) Y).ad (fk 0) fun _ _ e=>e
end Go.Sx
