/- Walks: each function answers as its model, printed by a program of ours. Conditions: the arguments read as they are given. -/
import Derived.Test.YtiahldhbknpmiaaGreatDoorBTs
import Derived.Test.YtiahldhbknpmiaaGreatDoorBM3
import Derived.Test.YtiahldhbknpmiaaGreatDoorBW6
import Derived.Test.YtiahldhbknpmiaaGreatDoorBW9
namespace Go.Sx
open Go Go.Proofs Go.Vm Rp
set_option linter.unusedVariables false
set_option linter.unusedSimpArgs false
variable {W W0:CW}{K:List Nat}
theorem c234_235 {x0 C x1 D x2 E r}(h0:Rd W0 [0] [C] x0)(h1:Rd W0 [0] [D] x1)(h2:Rd W0 [0] [E] x2)(Y:Vm.zcQ x0 x1 x2=some r):Q0 234 [C,D,E, .func (.func 235) #[] [].toArray] W0 fun Wf v=> ∃ u0,v = .tuple [u0,vB r.2].toArray/\OwS Wf LL [] [u0] r.1:=by
 unfold Vm.zcQ at Y
 refine zaY.of Tryz.func234 O O O O (sr (Gv (.slice none 0 0) O (Nb O (ssr (mv C O (mv D O (mv E O (ca Y (fun _=>p255 h0 h1 h2) fun z1 W3 Y l3=>?_))))))))
 have i:=l3.o
 refine Lw.r O (R.not O) (nl (cn Y (fun Y=>?_) fun Y=>?_))
 ·refine sr (Gv (.slice none 0 0) O (Nb O ?_))
  cases Y
  exact Cw.ret (zom O O (Res.mk i ⟨.slice none 0 0,O,(zoR []).sub O O⟩))
 ·refine sk (sr (Nv (.slice none 0 0) O (ssr (mv C O (mv D O (mv E O (cr Y (fun _=>p256 (k0:=2) (h0.ul i) (h1.ul i) (h2.ul i)) ?_)))))))
  rintro P a6 b6 Y a7 ⟨_,rfl,am⟩
  have a8:=i.n a7
  refine Lw.ln P am.rd O (mi O (nl (Cw.block ?_)))
  obtain⟨Q,a9,ba,bb⟩:=znf _ 2
  rw[<- a9]
  have an:Rd (α:=List Vm.Part) Q [0] [a6] P:=by rw[bb];exact(am.rd.dye 2).sub (M:=[0]) O
  have ao:=a8.t ba
  obtain⟨bc,be,Y⟩:=zdY Y
  refine Cw.loop 26 46 [8,9,10,12,13,14,15,26] (fun m l w=> ∃ k x S F y b ap aq U V z,CW.w z=w/\Le [6,7,8] Q z/\l=[y,vB x,b,ap,aq,U,V,vI F]/\Ow z 5 [] [y] k/\Ow z 6 [] [b] S/\Vm.zaz P bc m k x S F=some r) _ ⟨([]:List Str),false,([]:List Str),0, .slice none 0 0, .slice none 0 0,undef,undef,undef,undef,Q,O,Le.refl _ _,O,owN 5 [],owN 6 [],Y⟩ ?_
  rintro(_ |b7) _ _ σ ⟨k,x,S,F,y,b,ap,aq,U,V,z,rfl,ar,rfl,bg,W,Y⟩
  ·cases Y
  unfold Vm.zaz at Y
  have G:=ar.s
  refine sr (Lw.lt O (nl (Cw.seq (cn Y (fun Y=>?_) fun Y=>?_))))
  ·refine sk (Cw.seq (Cw.block (sr ?_)))
   obtain⟨d,au,Y⟩:=ob Y
   refine Lw.r O (R.ix (α:=Part) (an.ul G) au O O O) ?_
   obtain⟨x36,c37,_,r38⟩:=((an.ul G).at_ au).cells
   obtain⟨X,bh,bi,bj,rfl,r40,r42,r44,r46⟩:=Part.split r38
   refine Lw.r O (R.lda c37 O O) (al 7 [vB false, .slice none 0 0, .slice none 0 0, .slice none 0 0, .slice none 0 0] fun bk b8 H bl=>?_)
   have f:=H.o
   refine sta bl (zai O (zai r40.oc (zai r42.oc (zai r44.oc (zai r46.oc zbt))))) fun av I Z=>?_
   have h:=I.s
   have aw:=(bg.up H).up I
   refine nl (sr (fl Z O (Nv X O ?_)))
   obtain⟨bm,bn,Y⟩:=zdY Y
   refine Cw.join 32 42 [8,9,13,14,15] (fun l w=> ∃ J L aa N A ac ae B,CW.w B=w/\Le [8] av B/\l=[N,vB L,A,ac,ae]/\Ow B 5 [] [N] J/\Rd B [0] [A] aa/\bm J L aa=some r) ?_ ?_
   ·rintro _ _ σ ⟨J,L,aa,N,A,ac,ae,B,rfl,ax,rfl,bp,r61,Y⟩
    rw[bn]at Y
    refine rg (mv b O (mv A O ?_))
    obtain⟨bq,br,Y⟩:=ob Y
    refine Lw.t O (T.appP (α:=Str) (((W.up H).up I).up ax) r61 O O br) ?_
    rintro ay _ ⟨bu,rfl,az,bv⟩
    exact Nv ay O (rg (Lw.add O (mi O (nl ((agm) ⟨J,L,bq,w64 (F+1),N,ay,ptr (bx bk),A,ac,ae,bu,O,((((ar.j H).j I).j ax).j az).w,O,(bp.up az),bv,Y⟩)))))
   ·refine sr (fl Z O (nl (cn Y (fun Y=>?_) fun Y=>?_)))
    ·refine sr (mv (.func (.func 235) #[] [].toArray) O (la Z ?_))
     obtain⟨e,bw,Y⟩:=ob Y
     refine Lw.t O (T.callV (vals:=[.agg [vB d.Clash,X,bh,bi,bj].toArray]) (caps:=[]) O O (p235 (k0:=8) (Part.rd (K:=[0]) d.Clash d.Lines d.Old d.One d.Two (r40.ul (f.trans h)) (r42.ul (f.trans h)) (r44.ul (f.trans h)) (r46.ul (f.trans h))) bw)) ?_
     rintro _ _ ⟨b9,rfl,af,⟨a,rfl,bz⟩⟩
     have b0:=(((ao.trans G).trans f).trans h).n af
     refine mv (.tuple [a,vB e.2].toArray) O (Lw.r O (R.ext (vs:=[a,vB e.2]) (v:=a) O O) (Lw.r O (R.ext (vs:=[a,vB e.2]) (v:=vB e.2) O O) (Gv a O (Nb O (ssr (mb O (Lw.r O (R.not O) (nl (cn Y (fun Y=>?_) fun Y=>?_)))))))))
     ·refine sr (Gv (.slice none 0 0) O (Nb O ?_))
      cases Y
      exact Cw.ret (zom O O (Res.mk b0 ⟨.slice none 0 0,O,(zoR []).sub O O⟩))
     ·refine sk (rg (mv a O (Nv a O ?_)))
      obtain⟨a0,b1,a1,b2⟩:=znf _ 8
      have b3:Rd (α:=List Str) a0 [0] [a] e.1:=by rw[b2];exact(bz.rd.dye 8).sub (M:=[0]) O
      exact(ag) ⟨k,x,e.1,y,a,a,vB e.2,a0,b1,(af.j a1).w,O,((aw.up af).up a1),b3,Y⟩
    ·exact sk ((ag) ⟨k,x,d.Lines,y,X,U,V,av,O,Le.refl _ _,O,aw,(r40.ul (f.trans h)),Y⟩)
  ·refine Cw.exit ?_
   rw[be]at Y
   refine ssr (mv b O (ca Y (fun _=>p174 (K:=[6]) W.rd) fun cb cc Y a2=>?_))
   have a3:=(ao.trans G).n a2
   refine Lw.r O (R.not O) (nl (cn Y (fun Y=>?_) fun Y=>?_))
   ·refine sr (Gv (.slice none 0 0) O (Nb O ?_))
    cases Y
    exact Cw.ret (zom O O (Res.mk a3 ⟨.slice none 0 0,O,(zoR []).sub O O⟩))
   ·refine sk (sr (mv b O (Gv b O (Nb O ?_))))
    cases Y
    exact Cw.ret (zom O O (Res.mk a3 ⟨b,O,(W.up a2).s.sub O O⟩))
theorem p234_235 {x0 b x1 d x2 f k0 r}(h:Rd W K [b] x0)(i:Rd W K [d] x1)(k:Rd W K [f] x2)(Y:Vm.zcQ x0 x1 x2=some r):Q1 234 [b,d,f, .func (.func 235) #[] [].toArray] W [] fun W' v=> ∃ a,v = .tuple [a,vB r.2].toArray/\Ow W' k0 [] [a] r.1:=
 (c234_235 (h.view _) (i.view _) (k.view _) Y).ad (fk k0) fun _ _ ⟨a,e,x⟩=>⟨a,e,x.back (zk0 _)⟩
theorem c204 {x0 b x1 d x2 e r}(i:Rd W0 [0] [b] x0)(k:Rd W0 [0] [d] x1)(x:Rd W0 [0] [e] x2)(Y:Vm.zgs x0 x1 x2=some r):Q0 204 [b,d,e] W0 fun Wf v=> ∃ h,v = .tuple [h,vB r.2].toArray/\OwS Wf LL [] [h] r.1:=by
 unfold Vm.zgs at Y
 refine zaY.of Tryz.func204 O O O O (sr (Gv (.slice none 0 0) O (Nb O (sr (mv b O (mv d O (mv e O (cr Y (fun _=>p234_235 (k0:=2) i k x) ?_))))))))
 rintro f _ B Y y ⟨a,rfl,z⟩
 have A:=y.o
 refine Lw.r O (R.ext (vs:=[a,vB f.2]) (v:=a) O O) (Lw.r O (R.ext (vs:=[a,vB f.2]) (v:=vB f.2) O O) (Gv a O (Nb O ?_)))
 cases Y
 exact Cw.ret (zom O O (Res.mk A ⟨a,O,z.s.sub O O⟩))
theorem p204 {x0 b x1 d x2 f k0 r}(h:Rd W K [b] x0)(i:Rd W K [d] x1)(k:Rd W K [f] x2)(Y:Vm.zgs x0 x1 x2=some r):Q1 204 [b,d,f] W [] fun W' v=> ∃ a,v = .tuple [a,vB r.2].toArray/\Ow W' k0 [] [a] r.1:=
 (c204 (h.view _) (i.view _) (k.view _) Y).ad (fk k0) fun _ _ ⟨a,e,x⟩=>⟨a,e,x.back (zk0 _)⟩
theorem c176 {x0 h x1 I x2 J r}(h0:Rd W0 [0] [h,vB x0.file] x0)(h1:Rd W0 [0] [I,vB x1.file] x1)(h2:Rd W0 [0] [J,vB x2.file] x2)(Y:Vm.ziN x0 x1 x2=some r):Q0 176 [.agg [h,vB x0.file].toArray, .agg [I,vB x1.file].toArray, .agg [J,vB x2.file].toArray] W0 fun Wf v=> ∃ Z,v = .tuple [.agg [Z,vB r.1.file].toArray,vI r.2].toArray/\Rd Wf [0] [Z] r.1.text:=by
 unfold Vm.ziN at Y
 obtain⟨b9,aa,b⟩:=has.split h0
 simp only[List.cons.injEq,and_true,true_and]at aa
 obtain rfl:=aa
 obtain⟨cb,ac,i⟩:=has.split h1
 simp only[List.cons.injEq,and_true,true_and]at ac
 obtain rfl:=ac
 obtain⟨cc,ae,k⟩:=has.split h2
 simp only[List.cons.injEq,and_true,true_and]at ae
 obtain rfl:=ae
 refine zaY.of Tryz.func176 O O O O (sr (bo 2 O fun g1 W1 l1 b1=>?_))
 have a2:=l1.o
 refine bo 3 O fun g3 W3 l3 b3=>?_
 have a4:=a2.n l3
 refine bo 4 O fun g6 W6 L b6=>?_
 have a7:=a4.n L
 refine al 5 [.slice none 0 0,vB false] fun cj a9 l10 ai=>?_
 have D:=a7.n l10
 have N:=((b1.up l3).up L).up l10
 have P:=(b3.up L).up l10
 refine Ni O (Cw.seq (Cw.block ?_))
 obtain⟨ba,bb,Y⟩:=zdY Y
 refine Cw.join 10 18 [10] (fun l w=> ∃ Q S,CW.w S=w/\Le [] a9 S/\l=[vB Q]/\ba Q=some r) ?_ ?_
 ·rintro _ _ σ ⟨Q,S,rfl,d,rfl,Y⟩
  rw[bb]at Y
  have E:=D.n d
  have F:=(b6.up l10).up d
  refine cn Y (fun Y=>?_) fun Y=>?_
  ·refine sr (la F (sta (ai.up d) (zai k.oc (zai O zbt)) fun ck bc be=>?_))
   have aj:=E.t bc
   refine Ni O ?_
   cases Y
   exact Cw.ret (zjs O be O (Res.mk aj ⟨J,O,(k.ul aj)⟩))
  ·refine sr (la F (la (N.up d) (ca Y (fun _=>p203 (has.rd (K:=[0]) x2.text x2.file (k.ul E)) (has.rd (K:=[0]) x0.text x0.file (b.ul E))) fun cl T Y e=>?_)))
   have ak:=E.n e
   have U:=(P.up d).up e
   have am:=(ai.up d).up e
   refine Nb O (cn Y (fun Y=>?_) fun Y=>?_)
   ·refine sr (la U (sta am (zai i.oc (zai O zbt)) fun cm bg bh=>?_))
    have an:=ak.t bg
    refine Ni O ?_
    cases Y
    exact Cw.ret (zjs O bh O (Res.mk an ⟨I,O,(i.ul an)⟩))
   ·obtain⟨bi,bj,Y⟩:=zdY Y
    refine Cw.join 25 33 [25] (fun l w=> ∃ V W,CW.w W=w/\Le [] T W/\l=[vB V]/\bi V=some r) ?_ ?_
    ·rintro _ _ σ ⟨V,W,rfl,x,rfl,Y⟩
     rw[bj]at Y
     have f:=ak.n x
     have y:=((N.up d).up e).up x
     have G:=am.up x
     refine cn Y (fun Y=>?_) fun Y=>?_
     ·refine sr (la y (sta G (zai b.oc (zai O zbt)) fun co bk bl=>?_))
      have ao:=f.t bk
      refine Ni O ?_
      cases Y
      exact Cw.ret (zjs O bl O (Res.mk ao ⟨h,O,(b.ul ao)⟩))
     ·refine sr (fl y O (Lw.r O (R.not O) (Nb O (cn Y (fun Y=>?_) fun Y=>?_))))
      ·refine sr (la y (sta G (zai b.oc (zai O zbt)) fun cp bm bn=>?_))
       have ap:=f.t bm
       refine Ni O ?_
       cases Y
       exact Cw.ret (zjs O bn O (Res.mk ap ⟨h,O,(b.ul ap)⟩))
      ·refine sk (sr (fl y O (fl (U.up x) O (fl ((F.up e).up x) O (cr Y (fun _=>p204 (k0:=6) (b.ul f) (i.ul f) (k.ul f)) ?_)))))
       rintro z _ cq Y H ⟨a,rfl,X⟩
       have aq:=f.n H
       refine mv (.tuple [a,vB z.2].toArray) O (Lw.r O (R.ext (vs:=[a,vB z.2]) (v:=a) O O) (Lw.r O (R.ext (vs:=[a,vB z.2]) (v:=vB z.2) O O) (Gv a O (Nb O (ssr (mb O (Lw.r O (R.not O) (nl (cn Y (fun Y=>?_) fun Y=>?_)))))))))
       ·refine sr (la (y.up H) (sta (G.up H) (zai b.oc (zai O zbt)) fun ct bp bq=>?_))
        have ar:=aq.t bp
        refine Ni O ?_
        cases Y
        exact Cw.ret (zjs O bq O (Res.mk ar ⟨h,O,(b.ul ar)⟩))
       ·refine sk (sr (mv a O (Lw.r O (R.bd (zs:=[.slice none 0 0,vB false]) (cs:=[a,vB true]) [(0,a),(1,vB true)] O O O (zc7 X.oc O (zc7 O O zh4))) (sta (G.up H) (zai X.oc (zai O zbt)) fun cu au br=>?_))))
        have bu:=aq.t au
        refine Ni O ?_
        obtain⟨bv,bw,av,bz⟩:=znf _ 6
        have b0:Rd (α:=List Str) bv [0] [a] z.1:=by rw[bz];exact((X.up au).rd.dye 6).sub (M:=[0]) O
        have b2:=bu.t av
        cases Y
        rw[<- bw]
        exact Cw.ret (zjs O (br.up av) O (Res.mk b2 ⟨a,O,b0⟩))
    ·refine rg (fl U O (Lw.r O (R.not O) (mb O (bs Y (fun A Y=>?_) fun A Y=>?_))))
     ·exact psk 3 A O (Pb A O (Nb O ((ag) ⟨true,T,O,Le.refl _ _,O,Y⟩)))
     ·exact wak 3 A (fl (F.up e) O (Lw.r O (R.not O) (Pb A O (Nb O ((ag) ⟨(!x2.file),T,O,Le.refl _ _,O,Y⟩)))))
 ·refine rg (la P (la N (ca Y (fun _=>p203 (has.rd (K:=[0]) x1.text x1.file (i.ul D)) (has.rd (K:=[0]) x0.text x0.file (b.ul D))) fun cv b4 Y B=>?_)))
  have aw:=D.n B
  refine mb O (bs Y (fun C Y=>?_) fun C Y=>?_)
  ·exact psk 3 C O (Pb C O (Nb O ((ag) ⟨true,b4,O,B,O,Y⟩)))
  ·exact wak 3 C (la (P.up B) (la ((b6.up l10).up B) (ca Y (fun _=>p203 (has.rd (K:=[0]) x1.text x1.file (i.ul aw)) (has.rd (K:=[0]) x2.text x2.file (k.ul aw))) fun b5 b7 Y b8=>Pb C O (Nb O ((ag) ⟨b5,b7,O,(B.j b8).w,O,Y⟩)))))
theorem p176 {x0 b x1 d x2 f r}(h:Rd W K [b,vB x0.file] x0)(i:Rd W K [d,vB x1.file] x1)(k:Rd W K [f,vB x2.file] x2)(Y:Vm.ziN x0 x1 x2=some r):Q1 176 [.agg [b,vB x0.file].toArray, .agg [d,vB x1.file].toArray, .agg [f,vB x2.file].toArray] W [] fun W' v=> ∃ a,v = .tuple [.agg [a,vB r.1.file].toArray,vI r.2].toArray/\Rd W' (0::K) [a] r.1.text:=
 (c176 (h.view _) (i.view _) (k.view _) Y).ad (fk 0) fun _ _ ⟨a,e,x⟩=>⟨a,e,x.back O⟩
theorem c120 {x0 z x1 B x2 C r}(L:Rd W0 [0] [z] x0)(h1:Rd W0 [0] [B] x1)(h2:Rd W0 [0] [C] x2)(be:Gl 0 W0 [0])(Y:Vm.ziO x0 x1 x2=some r):Q0 120 [z,B,C] W0 fun Wf v=> ∃ u0 u1,v = .tuple [u0,u1].toArray/\OwS (α:=List (Sh Vm.File)) Wf [31] [0] [u0] r.1/\OwS Wf [32] [] [u1] r.2:=by
 unfold Vm.ziO at Y
 refine zaY.of Tryz.func120 O O O O (sr (Gv (.slice none 0 0) O (Nv (.slice none 0 0) O (ssr (mv z O (mv B O (mv C O (ca Y (fun _=>p119 L h1 h2 be) fun z1 W3 Y l3=>?_))))))))
 have N:=l3.o
 refine Lw.r O (R.not O) (nl (cn Y (fun Y=>?_) fun Y=>?_))
 ·refine sr (Gv (.slice none 0 0) O (Nv (.slice none 0 0) O ?_))
  cases Y
  exact Cw.ret (zom O O (Res.mk N ⟨.slice none 0 0, .slice none 0 0,O,(zqu [0]).sub O O,(zoR []).sub O O⟩))
 ·refine sk (sr (Nv (.slice none 0 0) O (sr (Nv (.slice none 0 0) O (ssr (mv z O (mv B O (mv C O (Lw.t O (T.bsS (α:=Sh (List File)) (xs:=[x0,x1,x2]) 2 [0] (W:=W3) [z,B,C] (bsE [[z],[B],[C]] (zzJ L.oc (zzJ h1.oc (zzJ h2.oc zzI))) (Each.cons ((L.ul N).sh1) (Each.cons ((h1.ul N).sh1) (Each.cons ((h2.ul N).sh1) Each.nil)))) O) ?_)))))))))
  rintro v9 _ ⟨W9,rfl,l9,o9⟩
  have cl:=N.n l9
  have cm:Rd (α:=List (List Vm.File)) W9 [2,0] [v9] ([x0,x1,x2]:List (List File)):=Ow.rdSh o9
  refine cr Y (fun _=>p175 (K:=[0,2]) (k0:=3) (cm.sub (M:=[0,2]) O)) ?_
  rintro bi el bj Y co ⟨_,rfl,aw⟩
  have cp:=cl.n co
  refine Lw.ln bi aw.rd O (mi O (nl (Cw.block ?_)))
  obtain⟨cq,ct,Y⟩:=zdY Y
  refine Cw.loop 25 59 [8,9,11,12,13,25] (fun m l w=> ∃ (F:List Vm.File) (P:List Vm.Clash) (ai:Int) (d h bk bl bm:Value) (i:CW),i.w=w/\Le [4,5,6,7,8,9] bj i/\l=[d,h,bk,bl,bm,vI ai]/\Ow (α:=List (Sh Vm.File)) i 4 [0] [d] F/\Ow i 5 [] [h] P/\Vm.zek x0 x1 x2 bi cq m F P ai=some r) _ ⟨([]:List File),([]:List Clash),0, .slice none 0 0, .slice none 0 0,undef,undef,undef,bj,O,Le.refl _ _,O,zzM 4 [0],owN 5 [],Y⟩ ?_
  rintro(_ |em) _ _ σ ⟨F,P,ai,d,h,bk,bl,bm,i,rfl,aj,rfl,ax,ay,Y⟩
  ·cases Y
  unfold Vm.zek at Y
  have ak:=cp.t aj
  refine sr (Lw.lt O (nl (Cw.seq (cn Y (fun Y=>?_) fun Y=>?_))))
  ·refine sk ?_
   obtain⟨cu,cv,Y⟩:=zdY Y
   refine Cw.join 27 58 [8,9,11,12,13] (fun l w=> ∃ (am:List Vm.File) (an:List Vm.Clash) (ao ap az a0 a1:Value) (G:CW),G.w=w/\Le [4,5,6,7,8,9] i G/\l=[ao,ap,az,a0,a1]/\Ow (α:=List (Sh Vm.File)) G 4 [0] [ao] am/\Ow G 5 [] [ap] an/\cu am an=some r) ?_ ?_
   ·rintro _ _ σ ⟨am,an,ao,ap,az,a0,a1,G,rfl,cw,rfl,cx,cy,Y⟩
    rw[cv]at Y
    exact rg (Lw.add O (mi O (nl ((agm) ⟨am,an,w64 (ai+1),ao,ap,az,a0,a1,G,O,(aj.j cw).w,O,cx,cy,Y⟩))))
   ·refine Cw.block (sr ?_)
    obtain⟨b,bn,Y⟩:=ob Y
    refine Lw.r O (R.ix (α:=Str) (aw.up aj).rd bn O O O) (Lw.r O (R.ld O O ((aw.up aj).rd.at_ bn).str) (Ns O (sr (mv z O (ms O (cr Y (fun _=>p177 (k0:=6) (L.ul ak)) ?_))))))
    rintro Q _ en Y S ⟨cz,rfl,c0⟩
    have bp:=ak.n S
    refine mv B O (ms O (cr Y (fun _=>p177 (k0:=7) (h1.ul bp)) ?_))
    rintro U _ eo Y H ⟨c1,rfl,bq⟩
    have c2:=bp.n H
    refine mv C O (ms O (cr Y (fun _=>p177 (k0:=8) (h2.ul c2)) ?_))
    rintro V _ ep Y D ⟨c3,rfl,br⟩
    have bu:=(c0.up H).up D
    refine cr Y (fun _=>p176 (K:=[6,7,8]) (x0:=(Vm.has.mk Q.text Q.file)) (x1:=(Vm.has.mk U.text U.file)) (x2:=(Vm.has.mk V.text V.file)) ((has.rd (K:=[6]) Q.text Q.file bu.rd).sub (M:=[6,7,8]) O) ((has.rd (K:=[7]) U.text U.file (bq.up D).rd).sub (M:=[6,7,8]) O) ((has.rd (K:=[8]) V.text V.file br.rd).sub (M:=[6,7,8]) O)) ?_
    rintro a _ er Y E ⟨e,rfl,c4⟩
    have aq:=c4.sub (M:=[0,6,7,8]) O
    refine mv (.tuple [.agg [e,vB a.1.file].toArray,vI a.2].toArray) O (Lw.r O (R.ext (vs:=[.agg [e,vB a.1.file].toArray,vI a.2]) (v:= .agg [e,vB a.1.file].toArray) O O) (Lw.r O (R.ext (vs:=[.agg [e,vB a.1.file].toArray,vI a.2]) (v:=vI a.2) O O) (al 9 [.slice none 0 0,vB false] fun bv es k c5=>sta c5 (zai aq.oc (zai O zbt)) fun bw y bz=>?_)))
    have b0:=(((((ay.up S).up H).up D).up E).up k).up y
    refine Ni O ?_
    obtain⟨c6,c7,Y⟩:=zdY Y
    refine Cw.join 42 49 [9] (fun l w=> ∃ X Z aa,CW.w aa=w/\Le [5] bw aa/\l=[Z]/\Ow aa 5 [] [Z] X/\c6 X=some r) ?_ ?_
    ·rintro _ _ σ ⟨X,Z,aa,rfl,f,rfl,b1,Y⟩
     rw[c7]at Y
     have b2:=((((((ax.up S).up H).up D).up E).up k).up y).up f
     refine sr (fl (bz.up f) O (nl (cn Y (fun Y=>?_) fun Y=>?_)))
     ·refine rg (mv d O (ms O (fl (bz.up f) O (Lw.r O (R.bd (zs:=[vS ([]:Str), .slice none 0 0]) (cs:=[vS b,e]) [(0,vS b),(1,e)] O O O (zc7 O O (zc7 aq.oc O zh4))) (Lw.t O (T.bs 10 [.agg [vS b,e].toArray] (cs:=[vS b,e]) O O (bsA O)) ?_)))))
      rintro _ _ ⟨et,c8,rfl,rfl,A,c9⟩
      have da:=aq.up ((k.sub (M:=[5,9]) O).trans ((y.sub (M:=[5,9]) O).trans ((f.sub (M:=[5,9]) O).trans (A.sub (M:=[5,9]) O)))) O
      have db:Ow (α:=List (Sh Vm.File)) c8 4 [0,6,7,8] [d] F:=(b2.up A).sub O
      obtain⟨ar,dc,Y⟩:=ob Y
      refine Lw.t O (T.app1S (α:=Sh Vm.File) (K':=[0,6,7,8]) db c9 (File.rd (K:=[0,6,7,8]) b a.1.text da).sh1 O O dc) ?_
      rintro ac _ ⟨eu,rfl,I,dd⟩
      refine Nv ac O ?_
      have de:=aq.up ((k.sub (M:=[4,5,9]) O).trans ((y.sub (M:=[4,5,9]) O).trans ((f.sub (M:=[4,5,9]) O).trans ((A.sub (M:=[4,5,9]) O).trans (I.sub (M:=[4,5,9]) O))))) O
      obtain⟨a2,df,au,a3⟩:=znf _ 6
      have dg:Rd a2 [0,7,8] [e] a.1.text:=by rw[a3];exact(de.dye 6).sub (M:=[0,7,8]) O
      have dh:Ow (α:=List (Sh Vm.File)) a2 4 [0,7,8] [ac] ar:=by rw[a3];exact(dd.dyeA 6 O).sub O
      have ew:Rd (α:=List Str) a2 [0] [cz] Q.text:=by rw[a3];exact(((((((bu.up E).up k).up y).up f).up A).up I).rd.dye 6).sub (M:=[0]) O
      obtain⟨a5,di,a6,a7⟩:=znf _ 7
      have dj:Rd a5 [0,8] [e] a.1.text:=by rw[a7];exact(dg.dye 7).sub (M:=[0,8]) O
      have dk:Ow (α:=List (Sh Vm.File)) a5 4 [0,8] [ac] ar:=by rw[a7];exact(dh.dyeA 7 O).sub O
      have ex:Rd (α:=List Str) a5 [0] [c1] U.text:=by rw[a7];exact(((((((((bq.up D).up E).up k).up y).up f).up A).up I).up au).rd.dye 7).sub (M:=[0]) O
      obtain⟨av,dl,b3,a8⟩:=znf _ 8
      have ey:Rd av [0] [e] a.1.text:=by rw[a8];exact(dj.dye 8).sub (M:=[0]) O
      have dm:Ow (α:=List (Sh Vm.File)) av 4 [0] [ac] ar:=by rw[a8];exact(dk.dyeA 8 O).sub O
      have ez:Rd (α:=List Str) av [0] [c3] V.text:=by rw[a8];exact(((((((((br.up E).up k).up y).up f).up A).up I).up au).up a6).rd.dye 8).sub (M:=[0]) O
      exact(ag) ⟨ar,X,ac,Z,vS b,ptr (bx bv),vI a.2,av,dl.trans (di.trans (df)),(((((((((((S.j H).j D).j E).j k).j y).j f).j A).j I).j au).j a6).j b3).w,O,dm,(((((b1.up A).up I).up au).up a6).up b3),Y⟩
     ·exact sk ((ag) ⟨F,X,d,Z,vS b,ptr (bx bv),vI a.2,aa,O,((((((S.j H).j D).j E).j k).j y).j f).w,O,b2,b1,Y⟩)
    ·refine sr (mi O (Lw.ne O (nl (cn Y (fun Y=>?_) fun Y=>?_))))
     ·refine rg (mv h O (ms O (mi O (Lw.r O (R.bd (zs:=[vS ([]:Str),vI 0]) (cs:=[vS b,vI a.2]) [(0,vS b),(1,vI a.2)] O O O (zc7 O O (zc7 O O zh4))) (Lw.t O (T.bs 11 [.agg [vS b,vI a.2].toArray] (cs:=[vS b,vI a.2]) O O (bsA O)) ?_)))))
      rintro _ _ ⟨e0,e1,rfl,rfl,b4,dn⟩
      obtain⟨dp,dq,Y⟩:=ob Y
      refine Lw.t O (T.app1S (α:=Clash) (K':=[]) (b0.up b4) dn (Clash.rd (K:=[]) b a.2) O O dq) ?_
      rintro b5 _ ⟨dr,rfl,ds,dt⟩
      exact Nv b5 O ((ag) ⟨dp,b5,dr,O,(b4.j ds).w,O,dt,Y⟩)
     ·exact sk ((ag) ⟨P,h,bw,O,Le.refl _ _,O,b0,Y⟩)
  ·refine Cw.exit ?_
   rw[ct]at Y
   refine Cw.seq ?_
   obtain⟨du,dv,Y⟩:=zdY Y
   refine Cw.join 60 67 [67] (fun l w=> ∃ a9 ba,CW.w ba=w/\Le [] i ba/\l=[vB a9]/\du a9=some r) ?_ ?_
   ·rintro _ _ σ ⟨a9,ba,rfl,bb,rfl,Y⟩
    rw[dv]at Y
    have bc:=ak.n bb
    refine cn Y (fun Y=>?_) fun Y=>?_
    ·refine sr (mv z O (cr Y (fun _=>p117 (k0:=12) (L.ul bc)) ?_))
     rintro e2 b6 e3 Y dw ⟨_,rfl,dx⟩
     have dy:=bc.n dw
     refine Lw.r O (R.bd (zs:=[vS ([]:Str),vI 0]) (cs:=[vS ([]:Str),vI 4]) [(1,vI 4)] O O O (zc7 O O zh4)) (Lw.t O (T.bsO (α:=Clash) (J:=[]) (xs:=[Vm.Clash.mk ([]:Str) 4]) 13 [.agg [vS ([]:Str),vI 4].toArray] (bsL [[vS ([]:Str),vI 4]] (zAy O zzI) (OwL.cons (x:=(Vm.Clash.mk ([]:Str) 4)) (OwS.atm (K:=[]) (Clash.rd (K:=[]) ([]:Str) 4)) OwL.nil)) O) ?_)
     rintro b7 _ ⟨e4,rfl,b8,dz⟩
     have d0:=dy.n b8
     refine Gv b6 O (Nv b7 O ?_)
     obtain⟨e5,d1,b9,d2⟩:=(dx.up b8).toSh
     have d3:=d0.t b9
     obtain⟨e6,d4,cb,d5⟩:=d2.dyeO 31
     have d6:=d3.t cb
     obtain⟨e7,d7,cc,d8⟩:=((dz.up b9).up cb).dyeO 32
     have d9:=d6.t cc
     cases Y
     rw[<- d7.trans (d4.trans (d1))]
     exact Cw.ret (zom O O (Res.mk d9 ⟨b6,b7,O,(d5.up cc).s,d8.s⟩))
    ·refine sk (sr (mv d O (mv h O (Gv d O (Nv h O ?_)))))
     obtain⟨e8,ea,cd,eb⟩:=(ax.up bb).dyeO 31
     have ec:=bc.t cd
     obtain⟨e9,ed,ce,ee⟩:=((ay.up bb).up cd).dyeO 32
     have ef:=ec.t ce
     cases Y
     rw[<- ed.trans (ea)]
     exact Cw.ret (zom O O (Res.mk ef ⟨d,h,O,(eb.up ce).s,ee.s⟩))
   ·refine rg (mv h O (Lw.ln P ay.rd O (Lw.eq O (mb O (bs Y (fun ae Y=>?_) fun ae Y=>?_)))))
    ·refine wak 3 ae (mv d O ?_)
     have eg:Rd (α:=List Vm.File) i [4,0] [d] F:=Ow.rdSh ax
     exact ca Y (fun _=>p114 (K:=[0,4]) (eg.sub (M:=[0,4]) O) ((be.ul ak).sub (M:=[0,4]) O)) fun eh ei Y ej=>Lw.r O (R.not O) (Pb ae O (nl ((ag) ⟨(!eh),ei,O,ej,O,Y⟩)))
    ·exact psk 3 ae O (Pb ae O (nl ((ag) ⟨false,i,O,Le.refl _ _,O,Y⟩)))
theorem p120 {x0 d x1 f x2 h k0 k1 r}(i:Rd W K [d] x0)(k:Rd W K [f] x1)(x:Rd W K [h] x2)(y:Gl 0 W K)(Y:Vm.ziO x0 x1 x2=some r):Q1 120 [d,f,h] W [] fun W' v=> ∃ a b,v = .tuple [a,b].toArray/\Ow (α:=List (Sh Vm.File)) W' k0 (0::K) [a] r.1/\Ow W' k1 [] [b] r.2:=
 zaY.adJ (J:=[]) (fun c=>bif Nat.beq c 0 then 0 else bif Nat.beq c 31 then k0 else bif Nat.beq c 32 then k1 else 0) (c120 (i.view _) (k.view _) (x.view _) (y.view _) Y) fun _ _ ⟨a,b,e,z,A⟩=>⟨a,b,e,z.one1.backNS O O,A.one1.backN O⟩
theorem c50 {x0 e x1 f x2 h r}(i:Rd W0 [0] [e] x0)(k:Rd W0 [0] [f] x1)(x:Rd W0 [0] [h] x2)(y:Gl 0 W0 [0])(Y:Vm.zd4 x0 x1 x2=some r):Q0 50 [e,f,h] W0 fun Wf v=> ∃ z,v = .tuple [z,vB r.2].toArray/\OwS (α:=List (Sh Vm.File)) Wf LL [0] [z] r.1:=by
 unfold Vm.zd4 at Y
 refine zaY.of Tryz.func50 O O O O (sr (Gv (.slice none 0 0) O (Nb O (ssr (mv e O (mv f O (mv h O (ca Y (fun _=>p119 i k x y) fun I J Y C=>?_))))))))
 have b:=C.o
 refine Lw.r O (R.not O) (nl (cn Y (fun Y=>?_) fun Y=>?_))
 ·refine sr (Gv (.slice none 0 0) O (Nb O ?_))
  cases Y
  exact Cw.ret (zom O O (Res.mk b ⟨.slice none 0 0,O,(zqu [0]).sub O O⟩))
 ·refine sk (sr (mv e O (mv f O (mv h O (cr Y (fun _=>p120 (k0:=2) (k1:=3) (i.ul b) (k.ul b) (x.ul b) (y.ul b)) ?_)))))
  rintro A _ D Y E ⟨a,d,rfl,F,G⟩
  have H:Ow (α:=List (Sh Vm.File)) D 2 [0] [a] A.1:=F.sub O
  have B:=b.n E
  refine mv (.tuple [a,d].toArray) O (Lw.r O (R.ext (vs:=[a,d]) (v:=a) O O) (Lw.r O (R.ext (vs:=[a,d]) (v:=d) O O) (Gv a O (Nv d O (ssr (mv d O (Lw.ln A.2 G.rd O (Lw.gt O (nl (cn Y (fun Y=>?_) fun Y=>?_))))))))))
  ·refine sr (Gv (.slice none 0 0) O (Nb O ?_))
   cases Y
   exact Cw.ret (zom O O (Res.mk B ⟨.slice none 0 0,O,(zqu [0]).sub O O⟩))
  ·refine sk (sr (mv a O (Gv a O (Nb O ?_))))
   cases Y
   exact Cw.ret (zom O O (Res.mk B ⟨a,O,H.s.sub O O⟩))
theorem p50 {x0 b x1 d x2 f k0 r}(h:Rd W K [b] x0)(i:Rd W K [d] x1)(k:Rd W K [f] x2)(x:Gl 0 W K)(Y:Vm.zd4 x0 x1 x2=some r):Q1 50 [b,d,f] W [] fun W' v=> ∃ a,v = .tuple [a,vB r.2].toArray/\Ow (α:=List (Sh Vm.File)) W' k0 (0::K) [a] r.1:=
 (c50 (h.view _) (i.view _) (k.view _) (x.view _) Y).ad (fk k0) fun _ _ ⟨a,e,y⟩=>⟨a,e,y.backS (zk0 _) O⟩
theorem c118 {x0 b x1 e r}(d:Rd W0 [0] [b] x0)(f:Rd W0 [0] [e] x1)(Y:Vm.zhW x0 x1=some r):Q0 118 [b,e] W0 fun Wf v=>v=vB r:=by
 unfold Vm.zhW at Y
 refine zaY.of Tryz.func118 O O O O (sr (Nb O (ssr (mv b O (Lw.ln x0 d O (mv e O (Lw.ln x1 f O (Lw.ne O (nl (cn Y (fun Y=>?_) fun Y=>?_))))))))))
 ·exact sr (Nb O (.ret (rt Y (Le.refl _ _))))
 ·refine sk (ssr (Ni O (Cw.block ?_)))
  obtain⟨B,C,Y⟩:=zdY Y
  refine Cw.loop 11 25 [4,5] (fun m l w=> ∃ h i k,CW.w k=w/\Le [] W0 k/\l=[vB h,vI i]/\Vm.zdW x0 x1 B m h i=some r) _ ⟨false,0,W0,O,Le.refl _ _,O,Y⟩ ?_
  rintro(_ |E) _ _ σ ⟨h,i,k,rfl,A,rfl,Y⟩
  ·cases Y
  unfold Vm.zdW at Y
  have x:=A.o
  refine ssr (mi O (mv b O (Lw.ln x0 (d.ul x) O (Lw.lt O (nl (cn Y (fun Y=>?_) fun Y=>?_))))))
  ·refine sk (Cw.seq (Cw.block (Cw.seq (Cw.draw [] [(0,0),(1,0),(2,0),(3,1),(4,0),(5,0),(6,0),(7,1),(8,0)] mixed (by kernel_rfl) fun D l10=>?_))))
   have a:=x.n l10
   refine Dv b O (Di O ?_)
   obtain⟨F,y,Y⟩:=ob Y
   refine Mw.p O O (fun _=>R.ix (α:=Str) (d.ul a) y O O O) (Mw.q O O (fun _ c=>R.ld O O (zaW ((d.ul a).at_ y).1 O ((d.ul a).at_ y).str c)) (Dv e O (Di O ?_)))
   obtain⟨G,z,Y⟩:=ob Y
   refine Mw.p O O (fun _=>R.ix (α:=Str) (f.ul a) z O O O) (Mw.q O O (fun _ c=>R.ld O O (zaW ((f.ul a).at_ z).1 O ((f.ul a).at_ z).str c)) (Mw.p O O (fun _=>R.sne O O) (Mw.nil (cn Y (fun Y=>?_) fun Y=>?_))))
   ·exact sr (Nb O (.ret (rt Y a)))
   ·exact sk (rg (mi O (Lw.add O (Ni O ((agm) ⟨h,w64 (i+1),D,O,(A.j l10).w,O,Y⟩)))))
  ·refine Cw.exit ?_
   rw[C]at Y
   exact sr (Nb O (.ret (rt Y x)))
theorem p118 {x0 a x1 b r}(d:Rd W K [a] x0)(f:Rd W K [b] x1)(Y:Vm.zhW x0 x1=some r):Q1 118 [a,b] W [] fun W' v=>v=vB r:=
 (c118 (d.view _) (f.view _) Y).ad (fk 0) fun _ _ e=>e
theorem c48 {x0 b x1 h r}(z:Rd W0 [0] [b] x0)(G:Rd W0 [0] [h] x1)(Y:Vm.zfG x0 x1=some r):Q0 48 [b,h] W0 fun Wf v=>v=vB r:=by
 unfold Vm.zfG at Y
 refine zaY.of Tryz.func48 O O O O (sr (Nb O (ssr (mv b O (Lw.ln x0 z O (mv h O (Lw.ln x1 G O (Lw.ne O (nl (cn Y (fun Y=>?_) fun Y=>?_))))))))))
 ·exact sr (Nb O (.ret (rt Y (Le.refl _ _))))
 ·refine sk (ssr (Ni O (Cw.block ?_)))
  obtain⟨M,N,Y⟩:=zdY Y
  refine Cw.loop 11 41 [4,5] (fun m l w=> ∃ i d k,CW.w k=w/\Le [] W0 k/\l=[vB i,vI d]/\Vm.zel x0 x1 M m i d=some r) _ ⟨false,0,W0,O,Le.refl _ _,O,Y⟩ ?_
  rintro(_ |X) _ _ σ ⟨i,d,k,rfl,H,rfl,Y⟩
  ·cases Y
  unfold Vm.zel at Y
  have x:=H.o
  refine ssr (mi O (mv b O (Lw.ln x0 (z.ul x) O (Lw.lt O (nl (cn Y (fun Y=>?_) fun Y=>?_))))))
  ·refine sk (Cw.seq (Cw.block ?_))
   obtain⟨P,Q,Y⟩:=zdY Y
   refine Cw.join 17 41 [41] (fun l w=> ∃ A y,CW.w y=w/\Le [] k y/\l=[vB A]/\P A=some r) ?_ ?_
   ·rintro _ _ σ ⟨A,y,rfl,I,rfl,Y⟩
    rw[Q]at Y
    have S:=x.n I
    refine cn Y (fun Y=>?_) fun Y=>?_
    ·exact sr (Nb O (.ret (rt Y S)))
    ·exact sk (rg (mi O (Lw.add O (Ni O ((agm) ⟨i,w64 (d+1),y,O,(H.j I).w,O,Y⟩)))))
   ·refine Cw.draw [] [(0,0),(1,0),(2,0),(3,0),(4,1),(5,0),(6,0),(7,0),(8,0),(9,1),(10,0),(11,0),(12,0),(13,0),(14,0),(15,0),(16,1),(17,0),(18,0),(19,0),(20,0),(21,1),(22,2),(23,0),(24,0)] mixed (by kernel_rfl) fun U B=>?_
    have J:=x.n B
    refine Dv b O (Di O ?_)
    obtain⟨Z,C,Y⟩:=ob Y
    have e:=z.ul J
    refine Mw.p O O (fun _=>R.ix (α:=File) e C O O O) (Df O (Mw.q O O (fun _ c=>R.ld O O (zaW (File.at0 (e.at_ C)).1 O (File.at0 (e.at_ C)).str c)) (Dv h O (Di O ?_))))
    obtain⟨aa,D,Y⟩:=ob Y
    have f:=G.ul J
    refine Mw.p O O (fun _=>R.ix (α:=File) f D O O O) (Df O (Mw.q O O (fun _ c=>R.ld O O (zaW (File.at0 (f.at_ D)).1 O (File.at0 (f.at_ D)).str c)) (Mw.p O O (fun _=>R.sne O O) (Db O (bs Y (fun a Y=>?_) fun a Y=>?_)))))
    ·exact dps 12 a O (Mw.p O O (fun _=>R.pk a O (v:=vB true) O) (Mw.nil ((ag) ⟨true,U,O,B,O,Y⟩)))
    ·refine Wp a O (fun _=>R.mv (v:=b) O) (Wp a O (fun _=>R.mv (v:=vI d) O) ?_)
     obtain⟨ac,E,Y⟩:=ob Y
     refine Wp a O (fun _=>R.ix (α:=File) e E O O O) (Wp a O (fun _=>R.fa O) ?_)
     obtain⟨ae,c27,r28⟩:=(File.at1 (e.at_ E)).cell O
     refine Wq a O (fun _ c=>R.ld O O (zaW (File.at1 (e.at_ E)).1 O c27 c)) (Wp a O (fun _=>R.mv (v:=h) O) (Wp a O (fun _=>R.mv (v:=vI d) O) ?_))
     obtain⟨af,F,Y⟩:=ob Y
     refine Wp a O (fun _=>R.ix (α:=File) f F O O O) (Wp a O (fun _=>R.fa O) ?_)
     obtain⟨ah,c32,r33⟩:=(File.at1 (f.at_ F)).cell O
     refine Wq a O (fun _ c=>R.ld O O (zaW (File.at1 (f.at_ F)).1 O c32 c)) ?_
     obtain⟨K,V,Y⟩:=ob Y
     refine Wt a O (T.call O (p118 r28 r33 V)) ?_
     rintro _ _ ⟨W,rfl,L,rfl⟩
     exact m0 L fun ai=>Wp a O (fun _=>R.not O) (Mw.p O O (fun _=>R.pk a O (v:=vB (!K)) O) (Mw.nil ((ag) ⟨(!K),W,O,(B.j L).w,O,Y⟩)))
  ·refine Cw.exit ?_
   rw[N]at Y
   exact sr (Nb O (.ret (rt Y x)))
theorem p48 {x0 a x1 b r}(d:Rd W K [a] x0)(f:Rd W K [b] x1)(Y:Vm.zfG x0 x1=some r):Q1 48 [a,b] W [] fun W' v=>v=vB r:=
 (c48 (d.view _) (f.view _) Y).ad (fk 0) fun _ _ e=>e
theorem c45 {x0 y z x1 r}(F:Rd W0 [0] [y,z] x0)(G:Gl 0 W0 [0])(Y:Vm.zfk x0 x1=some r):Q0 45 [.agg [y,z].toArray,vI x1] W0 fun Wf v=> ∃ A,v = .tuple [A,vB r.2].toArray/\OwS Wf LL [] [A] r.1:=by
 unfold Vm.zfk at Y
 obtain⟨ac,ae,B,f,h⟩:=Repo.split F
 simp only[List.cons.injEq,and_true,true_and]at B
 obtain⟨rfl,rfl⟩:=B
 refine zaY.of Tryz.func45 O O O O (sr (bo 2 O fun g1 H I i=>?_))
 have a:=I.o
 refine Gv (.slice none 0 0) O (Nb O (Cw.seq ?_))
 obtain⟨J,L,Y⟩:=zdY Y
 refine Cw.join 6 14 [14] (fun l w=> ∃ k x,CW.w x=w/\Le [] H x/\l=[vB k]/\J k=some r) ?_ ?_
 ·rintro _ _ σ ⟨k,x,rfl,C,rfl,Y⟩
  rw[L]at Y
  have d:=a.n C
  refine cn Y (fun Y=>?_) fun Y=>?_
  ·refine sr (Gv (.slice none 0 0) O (Nb O ?_))
   cases Y
   exact Cw.ret (zom O O (Res.mk d ⟨.slice none 0 0,O,(zoR []).sub O O⟩))
  ·refine sk (sr (la (i.up C) (mi O (cr Y (fun _=>p105 (Repo.rd (K:=[0]) x0.Commits x0.Heads (f.ul d) (h.ul d))) ?_))))
   rintro ah ai aj Y N ⟨_,rfl,P⟩
   have Q:=P.sub (M:=[0]) O
   have S:=d.n N
   refine cr Y (fun _=>p117 (k0:=3) Q) ?_
   rintro ak D am Y T ⟨_,rfl,U⟩
   have V:=S.n T
   refine Gv D O (Nb O ?_)
   cases Y
   exact Cw.ret (zom O O (Res.mk V ⟨D,O,U.s.sub O O⟩))
 ·refine rg (la i (ca Y (fun _=>p43 (Repo.rd (K:=[0]) x0.Commits x0.Heads (f.ul a) (h.ul a)) (G.ul a)) fun an W Y e=>?_))
  have E:=a.n e
  refine Lw.r O (R.not O) (mb O (bs Y (fun b Y=>?_) fun b Y=>?_))
  ·exact psk 4 b O (Pb b O (nl ((ag) ⟨true,W,O,e,O,Y⟩)))
  ·exact wak 4 b (la (i.up e) (mi O (ca Y (fun _=>p89 (Repo.rd (K:=[0]) x0.Commits x0.Heads (f.ul E) (h.ul E))) fun X Z Y aa=>Lw.r O (R.not O) (Pb b O (nl ((ag) ⟨(!X),Z,O,(e.j aa).w,O,Y⟩))))))
theorem p45 {x0 b d x1 k0 r}(f:Rd W K [b,d] x0)(h:Gl 0 W K)(Y:Vm.zfk x0 x1=some r):Q1 45 [.agg [b,d].toArray,vI x1] W [] fun W' v=> ∃ a,v = .tuple [a,vB r.2].toArray/\Ow W' k0 [] [a] r.1:=
 (c45 (f.view _) (h.view _) Y).ad (fk k0) fun _ _ ⟨a,e,i⟩=>⟨a,e,i.back (zk0 _)⟩
end Go.Sx
