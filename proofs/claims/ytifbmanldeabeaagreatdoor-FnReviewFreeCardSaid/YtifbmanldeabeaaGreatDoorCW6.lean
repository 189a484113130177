/- Walks: each function answers as its model, printed by a program of ours. Conditions: the arguments read as they are given. -/
import Derived.Test.YtifbmanldeabeaaGreatDoorCTs
import Derived.Test.YtifbmanldeabeaaGreatDoorCM0
import Derived.Test.YtifbmanldeabeaaGreatDoorCW4
import Derived.Test.YtifbmanldeabeaaGreatDoorCW5
import Derived.Test.YtifbmanldeabeaaGreatDoorCE
namespace Go.Sx
open Go Go.Proofs Go.Vm Rp
set_option linter.unusedVariables false
set_option linter.unusedSimpArgs false
variable {W W0:CW}{K:List Nat}
theorem c118 {x0 x x1 i r}(y:Rd W0 [0] [x] x0)(H:Rd W0 [0] [i] x1)(Y:Vm.zgG x0 x1=some r):Q0 118 [x,i] W0 fun Wf v=> ∃ X,v=X/\OwS Wf LL [] [X] r:=by
 unfold Vm.zgG at Y
 refine zak.of Tryz.func118 O O O O (sr (Nv (.slice none 0 0) O (sr (mv x O (mv i O (cr Y (fun _=>p157 (k0:=2) y H) ?_))))))
 rintro z1 I Z Y l3 ⟨_,rfl,ar⟩
 have a4:=l3.o
 refine Nv I O (sr (Nv (.slice none 0 0) O (ssr (Gi O (Ni O (Cw.block ?_))))))
 obtain⟨av,aw,Y⟩:=zaT Y
 refine Cw.loop 12 70 [6,7,8] (fun m l w=> ∃ A e d f z,CW.w z=w/\Le [3] Z z/\l=[f,vI e,vI d]/\Ow z 3 [] [f] A/\Vm.zdV x0 x1 z1 av m A e d=some r) _ ⟨([]:List Int),0,0, .slice none 0 0,Z,O,Le.refl _ _,O,owN 3 [],Y⟩ ?_
 rintro(_ |bi) _ _ σ ⟨A,e,d,f,z,rfl,l10,rfl,J,Y⟩
 ·cases Y
 unfold Vm.zdV at Y
 have B:=a4.t l10
 refine ssr (mi O (mv x O (Lw.ln x0 (y.ul B) O (Lw.lt O (nl (cn Y (fun Y=>?_) fun Y=>?_))))))
 ·refine sk (Cw.block (Cw.block ?_))
  obtain⟨ax,ay,Y⟩:=zaT Y
  refine Cw.join 18 33 [18] (fun l w=> ∃ K C,CW.w C=w/\Le [] z C/\l=[vB K]/\ax K=some r) ?_ ?_
  ·rintro _ _ σ ⟨K,C,rfl,h,rfl,Y⟩
   rw[ay]at Y
   have az:=B.n h
   refine cn Y (fun Y=>?_) fun Y=>?_
   ·refine sr (mv f O (mi O (Lw.t O (T.bs 4 [vI d] (cs:=[vI d]) O O (bsv O)) ?_)))
    rintro _ _ ⟨bj,bk,rfl,rfl,aa,a0⟩
    obtain⟨a1,a2,Y⟩:=ob Y
    refine Lw.t O (T.app1S (α:=Int) (K':=[]) ((J.up h).up aa) a0 (rdI _) O O a2) ?_
    rintro ac _ ⟨a3,rfl,a5,a6⟩
    exact Nv ac O (sr (mi O (Lw.add O (Ni O (rg (mi O (Lw.add O (Ni O ((agm) ⟨a1,w64 (e+1),w64 (d+1),ac,a3,O,(((l10.j h).j aa).j a5).w,O,a6,Y⟩)))))))))
   ·obtain⟨a7,a8,Y⟩:=zaT Y
    refine Cw.join 42 65 [42] (fun l w=> ∃ L D,CW.w D=w/\Le [] C D/\l=[vB L]/\a7 L=some r) ?_ ?_
    ·rintro _ _ σ ⟨L,D,rfl,M,rfl,Y⟩
     rw[a8]at Y
     have ae:=(J.up h).up M
     refine cn Y (fun Y=>?_) fun Y=>?_
     ·refine sr (mv f O (Lw.t O (T.bs 5 [vI (-1)] (cs:=[vI (-1)]) O O (bsv O)) ?_))
      rintro _ _ ⟨bl,bm,rfl,rfl,af,a9⟩
      obtain⟨ba,bb,Y⟩:=ob Y
      refine Lw.t O (T.app1S (α:=Int) (K':=[]) (ae.up af) a9 (rdI _) O O bb) ?_
      rintro ah _ ⟨bc,rfl,be,bg⟩
      exact Nv ah O (rg (mi O (Lw.add O (Ni O ((agm) ⟨ba,w64 (e+1),d,ah,bc,O,((((l10.j h).j M).j af).j be).w,O,bg,Y⟩)))))
     ·exact rg (mi O (Lw.add O (Ni O ((agm) ⟨A,e,w64 (d+1),f,D,O,((l10.j h).j M).w,O,ae,Y⟩))))
    ·refine Cw.draw [] [(0,0),(1,0),(2,0),(3,0),(4,0),(5,0),(6,0),(7,0),(8,0),(9,1),(10,0),(11,0),(12,1),(13,0),(14,0),(15,0),(16,1),(17,0),(18,0),(19,0),(20,1),(21,0),(22,0),(23,0)] mixed (by kernel_rfl) fun ai E=>?_
     have bh:=az.n E
     have k:=((ar.up l10).up h).up E
     refine Di O (Dv i O (Mw.p O O (fun _=>zte (xs:=x1) (H.ul bh) O) (Mw.p O O (fun _=>R.eq O O) (Db O (bs Y (fun a Y=>?_) fun a Y=>?_)))))
     ·exact dps 17 a O (Mw.p O O (fun _=>R.pk a O (v:=vB true) O) (Hb O (Mw.nil ((ag) ⟨true,ai,O,E,O,Y⟩))))
     ·refine Wp a O (fun _=>R.mv (v:=I) O) (Wp a O (fun _=>R.mv (v:=vI e) O) (Wp a O (fun _=>R.add O O) ?_))
      obtain⟨bn,N,Y⟩:=ob Y
      refine Wp a O (fun _=>R.ix (α:=List Int) k.rd N O O O) ?_
      obtain⟨bp,c60,r61⟩:=(k.rd.at_ N).cell O
      refine Wq a O (fun _ c=>R.ld O O (zao (k.rd.at_ N).1 O c60 c)) (Wp a O (fun _=>R.mv (v:=vI d) O) ?_)
      obtain⟨aj,P,Y⟩:=ob Y
      refine Wp a O (fun _=>R.ix (α:=Int) r61 P O O O) (Wq a O (fun _ c=>R.ld O O (zao (r61.at_ P).1 O (r61.at_ P).int c)) (Wp a O (fun _=>R.mv (v:=I) O) (Wp a O (fun _=>R.mv (v:=vI e) O) ?_)))
      obtain⟨u64,Q,Y⟩:=ob Y
      refine Wp a O (fun _=>R.ix (α:=List Int) k.rd Q O O O) ?_
      obtain⟨bq,c67,r68⟩:=(k.rd.at_ Q).cell O
      refine Wq a O (fun _ c=>R.ld O O (zao (k.rd.at_ Q).1 O c67 c)) (Wp a O (fun _=>R.mv (v:=vI d) O) (Wp a O (fun _=>R.add O O) ?_))
      obtain⟨ak,S,Y⟩:=ob Y
      exact Wp a O (fun _=>R.ix (α:=Int) r68 S O O O) (Wq a O (fun _ c=>R.ld O O (zao (r68.at_ S).1 O (r68.at_ S).int c)) (Wp a O (fun _=>R.ge O O) (Mw.p O O (fun _=>R.pk a O (v:=vB (decide (ak<=(aj:Int)))) O) (Hb O (Mw.nil ((ag) ⟨decide (ak<=(aj:Int)),ai,O,E,O,Y⟩))))))
  ·refine Cw.draw [] [(0,0),(1,0),(2,0),(3,0),(4,0),(5,0),(6,0),(7,0),(8,1),(9,0),(10,0),(11,0),(12,1),(13,0),(14,0),(15,0)] mixed (by kernel_rfl) fun am U=>?_
   have F:=B.n U
   have G:=H.ul F
   refine Di O (Dv i O (Mw.p O O (fun _=>zte (xs:=x1) G O) (Mw.p O O (fun _=>R.lt O O) (Db O (bs Y (fun b Y=>?_) fun b Y=>?_)))))
   ·refine Wp b O (fun _=>R.mv (v:=x) O) (Wp b O (fun _=>R.mv (v:=vI e) O) ?_)
    obtain⟨an,V,Y⟩:=ob Y
    refine Wp b O (fun _=>R.ix (α:=Str) (y.ul F) V O O O) (Wq b O (fun _ c=>R.ld O O (zao ((y.ul F).at_ V).1 O ((y.ul F).at_ V).str c)) (Wp b O (fun _=>R.mv (v:=i) O) (Wp b O (fun _=>R.mv (v:=vI d) O) ?_)))
    obtain⟨ao,W,Y⟩:=ob Y
    exact Wp b O (fun _=>R.ix (α:=Str) G W O O O) (Wq b O (fun _ c=>R.ld O O (zao (G.at_ W).1 O (G.at_ W).str c)) (Wp b O (fun _=>R.seq O O) (Mw.p O O (fun _=>R.pk b O (v:=vB (an==ao)) O) (Hb O (Mw.nil ((ag) ⟨(an==ao),am,O,U,O,Y⟩))))))
   ·exact dps 9 b O (Mw.p O O (fun _=>R.pk b O (v:=vB false) O) (Hb O (Mw.nil ((ag) ⟨false,am,O,U,O,Y⟩))))
 ·refine Cw.exit ?_
  rw[aw]at Y
  refine sr (mv f O (Nv f O ?_))
  cases Y
  exact Cw.ret (zhX O (Res.mk B ⟨f,O,J.s.sub O O⟩))
theorem p118 {x0 b x1 d k0 r}(f:Rd W K [b] x0)(h:Rd W K [d] x1)(Y:Vm.zgG x0 x1=some r):Q1 118 [b,d] W [] fun W' v=> ∃ a,v=a/\Ow W' k0 [] [a] r:=
 (c118 (f.view _) (h.view _) Y).ad (fk k0) fun _ _ ⟨a,e,i⟩=>⟨a,e,i.back (zgC _)⟩
theorem c124 {x0 A x1 f r}(V:Rd W0 [0] [A] x0)(B:Rd W0 [0] [f] x1)(Y:Vm.zjv x0 x1=some r):Q0 124 [A,f] W0 fun Wf v=> ∃ u0,v=u0/\OwS Wf LL [] [u0] r:=by
 unfold Vm.zjv at Y
 refine zak.of Tryz.func124 O O O O (sr (Nv (.slice none 0 0) O (sr (mv A O (mv f O (cr Y (fun _=>p118 (k0:=2) V B) ?_))))))
 rintro z1 b3 W3 Y l3 ⟨_,rfl,az⟩
 have a4:=l3.o
 refine mv f O (Lw.ln x1 (B.ul a4) O (Lw.t O (T.bs 3 [vI (x1.length:Int)] (cs:=[vI (x1.length:Int)]) O O (bsv O)) ?_))
 rintro _ _ ⟨g6,W6,rfl,rfl,l6,b6⟩
 have a7:=a4.n l6
 obtain⟨q9,a2,Y⟩:=ob Y
 refine Lw.t O (T.app1S (α:=Int) (K':=[]) (az.up l6) b6 (rdI _) O O a2) ?_
 rintro ak _ ⟨am,rfl,a3,W⟩
 have a5:=a7.t a3
 refine Nv ak O (sr (Nv (.slice none 0 0) O (sr (Gi O (Ni O (ssr (mv ak O (Lw.ln q9 W.rd O (mi O (nl (Cw.block ?_)))))))))))
 obtain⟨a6,a8,Y⟩:=zaT Y
 refine Cw.loop 20 54 [6,7,8,9,10,20] (fun m l w=> ∃ h b i e d an ao a,CW.w a=w/\Le [4,5,6] am a/\l=[d,vI b,vI i,an,ao,vI e]/\Ow a 4 [] [d] h/\Vm.zeh x0 x1 q9 a6 m h b i e=some r) _ ⟨([]:List Hunk),0,0,0, .slice none 0 0,undef,undef,am,O,Le.refl _ _,O,owN 4 [],Y⟩ ?_
 rintro(_ |b8) _ _ σ ⟨h,b,i,e,d,an,ao,a,rfl,C,rfl,D,Y⟩
 ·cases Y
 unfold Vm.zeh at Y
 have ap:=a5.t C
 refine sr (Lw.lt O (nl (Cw.seq (cn Y (fun Y=>?_) fun Y=>?_))))
 ·refine sk ?_
  obtain⟨a9,ba,Y⟩:=zaT Y
  refine Cw.join 22 53 [6,7,8,9,10] (fun l w=> ∃ E F G H X Z k,CW.w k=w/\Le [4,5,6] a k/\l=[H,vI F,vI G,X,Z]/\Ow k 4 [] [H] E/\a9 E F G=some r) ?_ ?_
  ·rintro _ _ σ ⟨E,F,G,H,X,Z,k,rfl,bb,rfl,bc,Y⟩
   rw[ba]at Y
   exact rg (Lw.add O (mi O (nl ((agm) ⟨E,F,G,w64 (e+1),H,X,Z,k,O,(C.j bb).w,O,bc,Y⟩))))
  ·refine Cw.block (sr (mi O ?_))
   obtain⟨I,aq,Y⟩:=ob Y
   refine Lw.r O (R.ix (α:=Int) (W.up C).rd aq O O O) (Lw.r O (R.ld O O ((W.up C).rd.at_ aq).int) (Gi O (Ni O (ssr (mi O (Lw.lt O (nl (cn Y (fun Y=>?_) fun Y=>?_))))))))
   ·exact Cw.exit ((ag) ⟨h,b,i,d,vI e,vI I,a,O,Le.refl _ _,O,D,Y⟩)
   ·refine sk ?_
    obtain⟨be,bg,Y⟩:=zaT Y
    refine Cw.join 27 49 [6] (fun l w=> ∃ K L x,CW.w x=w/\Le [4,5,6] a x/\l=[L]/\Ow x 4 [] [L] K/\be K=some r) ?_ ?_
    ·rintro _ _ σ ⟨K,L,x,rfl,bh,rfl,bi,Y⟩
     rw[bg]at Y
     exact rg (mi O (Lw.add O (mi O (Lw.add O (Gi O (Ni O ((ag) ⟨K,w64 (e+1),w64 (I+1),L,vI e,vI I,x,O,bh,O,bi,Y⟩)))))))
    ·obtain⟨bj,bk,Y⟩:=zaT Y
     refine Cw.join 27 34 [34] (fun l w=> ∃ aa M,CW.w M=w/\Le [] a M/\l=[vB aa]/\bj aa=some r) ?_ ?_
     ·rintro _ _ σ ⟨aa,M,rfl,y,rfl,Y⟩
      rw[bk]at Y
      have bl:=ap.n y
      refine cn Y (fun Y=>?_) fun Y=>?_
      ·refine Cw.draw [] [(0,0),(1,0),(2,0),(3,0),(4,0),(5,0),(7,0),(8,0),(9,0),(10,0),(6,3),(11,3),(12,0),(13,3),(14,3),(15,0)] mixed (by kernel_rfl) fun b9 ac=>?_
       have N:=bl.n ac
       refine Dv d O (Di O (Dv A O (Di O (Di O ?_))))
       obtain⟨cb,ar,Y⟩:=ob Y
       have r69:=(V.ul N).cutV ar
       refine Mw.p O O (fun _=>R.sl (V.ul N) ar O (.inr O) (.inr O)) (Dv f O (Di O (Di O ?_)))
       obtain⟨cc,au,Y⟩:=ob Y
       have r74:=(B.ul N).cutV au
       refine Mw.p O O (fun _=>R.sl (B.ul N) au O (.inr O) (.inr O)) ?_
       obtain⟨bm,bn,Y⟩:=ob Y
       refine Mw.l O O (T.call O (p125 (k0:=5) r69 bn)) ?_
       rintro P _ ⟨cd,rfl,ae,⟨_,rfl,av⟩⟩
       have bp:=ae.o
       obtain⟨bq,br,Y⟩:=ob Y
       refine Mw.l O O (T.call O (p125 (k0:=6) (r74.ul bp) br)) ?_
       rintro Q _ ⟨ce,rfl,S,⟨_,rfl,aw⟩⟩
       refine Mw.p O O (fun _=>R.bd (zs:=[vI 0, .slice none 0 0, .slice none 0 0]) (cs:=[vI b,P,Q]) [(0,vI b),(1,P),(2,Q)] O O O (zax O O (zax (av.up S).oc O (zax aw.oc O zcd)))) (Mw.l O O (T.bs 7 [.agg [vI b,P,Q].toArray] (cs:=[vI b,P,Q]) O O (bsA O)) ?_)
       rintro _ _ ⟨cf,cg,rfl,rfl,U,bu⟩
       obtain⟨bv,bw,Y⟩:=ob Y
       refine Mw.l O O (T.app1 (α:=Hunk) (J:=[5,6]) (K':=[]) (((((D.up y).up ac).up ae).up S).up U) bu (Hunk.own b bm bq ((av.up S).up U).s (aw.up U).s) O O bw) ?_
       rintro ax _ ⟨bz,rfl,b0,b1⟩
       exact Hv ax O (Mw.nil ((ag) ⟨bv,ax,bz,O,(((((y.j ac).j ae).j S).j U).j b0).w,O,b1,Y⟩))
      ·exact sk ((ag) ⟨h,d,M,O,y.w,O,(D.up y),Y⟩)
     ·refine rg (mi O (mi O (Lw.gt O (mb O (bs Y (fun z Y=>?_) fun z Y=>?_)))))
      ·exact psk 3 z O (Pb z O (nl ((ag) ⟨true,a,O,Le.refl _ _,O,Y⟩)))
      ·exact wak 3 z (mi O (mi O (Lw.gt O (Pb z O (nl ((ag) ⟨decide (i< (I:Int)),a,O,Le.refl _ _,O,Y⟩))))))
 ·refine Cw.exit ?_
  rw[a8]at Y
  refine sr (mv d O (Nv d O ?_))
  cases Y
  exact Cw.ret (zhX O (Res.mk ap ⟨d,O,D.s.sub O O⟩))
theorem p124 {x0 b x1 d k0 r}(f:Rd W K [b] x0)(h:Rd W K [d] x1)(Y:Vm.zjv x0 x1=some r):Q1 124 [b,d] W [] fun W' v=> ∃ a,v=a/\Ow W' k0 [] [a] r:=
 (c124 (f.view _) (h.view _) Y).ad (fk k0) fun _ _ ⟨a,e,i⟩=>⟨a,e,i.back (zgC _)⟩
theorem c128 {x0 b x1 r}(h:Rd W0 [0] [b] x0)(Y:Vm.zbf x0 x1=some r):Q0 128 [b,vS x1] W0 fun Wf v=>v=vI r:=by
 unfold Vm.zbf at Y
 refine zak.of Tryz.func128 O O O O (sr (Ni O (ssr (mv b O (Lw.ln x0 h O (mi O (nl (Cw.block ?_))))))))
 obtain⟨y,z,Y⟩:=zaT Y
 refine Cw.loop 8 18 [4,5,8] (fun m l w=> ∃ d a i e,CW.w e=w/\Le [] W0 e/\l=[vI d,i,vI a]/\Vm.zas x0 x1 y m d a=some r) _ ⟨0,0,undef,W0,O,Le.refl _ _,O,Y⟩ ?_
 rintro(_ |A) _ _ σ ⟨d,a,i,e,rfl,k,rfl,Y⟩
 ·cases Y
 unfold Vm.zas at Y
 have f:=k.o
 refine sr (Lw.lt O (nl (Cw.seq (cn Y (fun Y=>?_) fun Y=>?_))))
 ·refine sk (Cw.seq (Cw.block (sr (mi O (Ni O (sr (ms O (mv b O (mi O ?_)))))))))
  obtain⟨B,x,Y⟩:=ob Y
  refine Lw.r O (R.ix (α:=Str) (h.ul f) x O O O) (Lw.r O (R.ld O O ((h.ul f).at_ x).str) (Lw.seq O (nl (cn Y (fun Y=>?_) fun Y=>?_))))
  ·exact sr (mi O (Ni O (.ret (rt Y f))))
  ·exact sk (rg (Lw.add O (mi O (nl ((agm) ⟨d,w64 (a+1),vI a,e,O,k,O,Y⟩)))))
 ·refine Cw.exit ?_
  rw[z]at Y
  exact sr (Ni O (.ret (rt Y f)))
theorem p128 {x0 a x1 r}(b:Rd W K [a] x0)(Y:Vm.zbf x0 x1=some r):Q1 128 [a,vS x1] W [] fun W' v=>v=vI r:=
 (c128 (b.view _) Y).ad (fk 0) fun _ _ e=>e
theorem c73 {x0 a x1 r}(b:Rd W0 [0] [a] x0)(Y:Vm.zaJ x0 x1=some r):Q0 73 [a,vS x1] W0 fun Wf v=>v=vB r:=by
 unfold Vm.zaJ at Y
 refine zak.of Tryz.func73 O O O O (sr (Nb O (sr (mv a O (ms O (ca Y (fun _=>p128 b) fun f h Y d=>?_))))))
 have e:=d.o
 exact Lw.ge O (Nb O (.ret (rt Y e)))
theorem p73 {x0 a x1 r}(b:Rd W K [a] x0)(Y:Vm.zaJ x0 x1=some r):Q1 73 [a,vS x1] W [] fun W' v=>v=vB r:=
 (c73 (b.view _) Y).ad (fk 0) fun _ _ e=>e
theorem c69 {x0 ac x1 ae r}(h0:Rd W0 [0] [ac] x0)(G:Rd W0 [0] [ae] x1)(d6:Gl 0 W0 [0])(Y:Vm.zej x0 x1=some r):Q0 69 [ac,ae] W0 fun Wf v=> ∃ u0,v=u0/\OwS Wf LL [] [u0] r:=by
 unfold Vm.zej at Y
 refine zak.of Tryz.func69 O O O O (sr (Nv (.slice none 0 0) O (Cw.seq ?_)))
 obtain⟨K3,fq,Y⟩:=zaT Y
 refine Cw.join 20 27 [27] (fun l w=> ∃ y1 W2,CW.w W2=w/\Le [] W0 W2/\l=[vB y1]/\K3 y1=some r) ?_ ?_
 ·rintro _ _ σ ⟨y1,W2,rfl,l2,rfl,Y⟩
  rw[fq]at Y
  have a4:=l2.o
  refine cn Y (fun Y=>?_) fun Y=>?_
  ·refine sr (Nv (.slice none 0 0) O ?_)
   cases Y
   exact Cw.ret (zhX O (Res.mk a4 ⟨.slice none 0 0,O,(zoT []).sub O O⟩))
  ·refine sk (sr (Nv (.slice none 0 0) O (sr (Nv (.slice none 0 0) O (ssr (mv ac O (Lw.ln x0 (h0.ul a4) O (mi O (nl (Cw.block ?_))))))))))
   obtain⟨fs,ft,Y⟩:=zaT Y
   refine Cw.loop 30 111 [5,6,8,9,10,11,13,14,15,30] (fun m l w=> ∃ y7 H b2 I L d8 d9 ea b3 aw ax ay x,CW.w x=w/\Le [2,3,4,6,8,9,10,12,13] W2 x/\l=[I,L,d8,d9,ea,b3,aw,ax,ay,vI b2]/\Ow x 2 [] [I] y7/\Ow x 3 [] [L] H/\Vm.zbS x0 x1 fs m y7 H b2=some r) _ ⟨([]:List Change),([]:List Str),0, .slice none 0 0, .slice none 0 0,undef,undef,undef,undef,undef,undef,undef,W2,O,Le.refl _ _,O,owN 2 [],owN 3 [],Y⟩ ?_
   rintro(_ |im) _ _ σ ⟨y7,H,b2,I,L,d8,d9,ea,b3,aw,ax,ay,x,rfl,eb,rfl,o9,ed,Y⟩
   ·cases Y
   unfold Vm.zbS at Y
   have y:=a4.t eb
   refine sr (Lw.lt O (nl (Cw.seq (cn Y (fun Y=>?_) fun Y=>?_))))
   ·refine sk ?_
    obtain⟨fu,fv,Y⟩:=zaT Y
    refine Cw.join 32 110 [5,6,8,9,10,11,13,14,15] (fun l w=> ∃ b4 b5 b6 b7 cz c0 c1 c2 c3 c4 c5 ah,CW.w ah=w/\Le [2,3,4,6,8,9,10,12,13] x ah/\l=[b6,b7,cz,c0,c1,c2,c3,c4,c5]/\Ow ah 2 [] [b6] b4/\Ow ah 3 [] [b7] b5/\fu b4 b5=some r) ?_ ?_
    ·rintro _ _ σ ⟨b4,b5,b6,b7,cz,c0,c1,c2,c3,c4,c5,ah,rfl,fw,rfl,fx,fy,Y⟩
     rw[fv]at Y
     exact rg (Lw.add O (mi O (nl ((agm) ⟨b4,b5,w64 (b2+1),b6,b7,cz,c0,c1,c2,c3,c4,c5,ah,O,(eb.j fw).w,O,fx,fy,Y⟩))))
    ·refine Cw.block (sr ?_)
     obtain⟨a,ee,Y⟩:=ob Y
     refine Lw.r O (R.ix (α:=File) (h0.ul y) ee O O O) ?_
     obtain⟨x45,c46,_,r47⟩:=((h0.ul y).at_ ee).cells
     obtain⟨b8,rfl,r49⟩:=File.split r47
     refine Lw.r O (R.lda c46 O O) (al 4 [vS ([]:Str), .slice none 0 0] fun k io ai fz=>?_)
     have z:=ai.o
     refine sta fz (zaa O (zaa r49.oc zaC)) fun ip aj c6=>?_
     have A:=aj.s
     refine nl (sr (mv ae O (fl c6 O (cr Y (fun _=>p116 (k0:=5) (G.ul ((y.trans z).trans A))) ?_))))
     rintro N _ ef Y B ⟨f,rfl,eg⟩
     have P:=B.o
     refine mv (.tuple [f,vB N.2].toArray) O (Lw.r O (R.ext (vs:=[f,vB N.2]) (v:=f) O O) (Lw.r O (R.ext (vs:=[f,vB N.2]) (v:=vB N.2) O O) (Gv f O (Nb O (Cw.block ?_)))))
     obtain⟨f0,f1,Y⟩:=zaT Y
     refine Cw.join 91 98 [91] (fun l w=> ∃ c7 b9,CW.w b9=w/\Le [] ef b9/\l=[vB c7]/\f0 c7=some r) ?_ ?_
     ·rintro _ _ σ ⟨c7,b9,rfl,C,rfl,Y⟩
      rw[f1]at Y
      have ak:=C.o
      have c8:=(((o9.up ai).up aj).up B).up C
      have c9:=(((ed.up ai).up aj).up B).up C
      have da:=(c6.up B).up C
      refine cn Y (fun Y=>?_) fun Y=>?_
      ·exact sk ((ag) ⟨y7,H,I,L,ptr (bx k),f,vB N.2,b3,aw,ax,ay,b9,O,(((ai.j aj).j B).j C).w,O,c8,c9,Y⟩)
      ·refine sr (mb O (Nb O (cn Y (fun Y=>?_) fun Y=>?_)))
       ·refine Cw.draw [2,6] [(0,0),(1,0),(2,1),(3,0),(4,1),(5,0),(6,2),(7,0),(8,2),(9,2),(10,0)] mixed (by kernel_rfl) fun iq Q=>?_
        have f2:=(((z.trans A).trans P).trans ak).n Q
        refine Dv I O (Dfl (da.up Q) O O O (Dfl (da.up Q) O O O (Dv f O (Dc Y (Le.refl _ _) (fun _=>p124 (K:=[0,5]) (k0:=6) ((r49.ul f2).sub (M:=[0,5]) O) (((eg.up C).up Q).rd.sub (M:=[0,5]) O)) O ?_))))
        rintro f3 cb ir Y db ⟨_,rfl,eh⟩ f4
        refine Mw.p O O (fun _=>R.bd (zs:=[vI 0,vS ([]:Str),vS ([]:Str), .slice none 0 0, .slice none 0 0]) (cs:=[vI 3,vS a.Path,vS ([]:Str), .slice none 0 0,cb]) [(0,vI 3),(1,vS a.Path),(4,cb)] O O O (zax O O (zax O O (zax eh.oc O zcd)))) (Mw.t O O (T.bs 7 [.agg [vI 3,vS a.Path,vS ([]:Str), .slice none 0 0,cb].toArray] (cs:=[vI 3,vS a.Path,vS ([]:Str), .slice none 0 0,cb]) O O (bsA O)) ?_)
        rintro _ _ ⟨it,iu,rfl,rfl,az,f5⟩
        refine mc f4 az fun f6=>?_
        obtain⟨f7,f8,Y⟩:=ob Y
        refine Mw.t O O (T.app1 (α:=Change) (J:=[6]) (K':=[]) (((c8.up Q).up db).up az) f5 (Change.own 3 a.Path ([]:Str) ([]:List Str) f3 (zoT []) (eh.up az).s) O O f8) ?_
        rintro ei _ ⟨f9,rfl,dc,ga⟩
        exact mc f6 dc fun iv=>Hv ei O (Mw.nil ((ag) ⟨f7,H,ei,L,ptr (bx k),f,vB N.2,b3,aw,ax,ay,f9,O,(((((((ai.j aj).j B).j C).j Q).j db).j az).j dc).w,O,ga,((((c9.up Q).up db).up az).up dc),Y⟩))
       ·refine Cw.seq ?_
        obtain⟨am,gb,Y⟩:=ob Y
        refine Cw.par [[],[0],[],[2],[2,3],[0,1,2,3,4],[],[0,1,2,3,4,5,6]] [[],[0],[],[2],[3],[1,4],[],[4,5,6]] [[],[],[],[],[],[],[],[9]] [[0],[1],[2],[3],[4],[4,5],[6],[4,6]] [[],[],[],[],[8],[],[9],[9]] [0,1,2,3,4,5,7] [9] [fun vs W=>(vs 0)=ptr ((bx k).add 0),fun vs W=>(vs 1)=vS a.Path,fun vs W=>(vs 2)=ptr ((bx k).add 1),fun vs W=>(vs 3)=b8,fun vs W=>Ow W 8 [] [(vs 4)] am,fun vs W=>(vs 5) = .agg [vI 2,vS a.Path,vS ([]:Str),(vs 4), .slice none 0 0].toArray,fun vs W=>(vs 6)=ptr (bx (pg (vs 6)))/\Bx W 9 (pg (vs 6)) [vI 0,vS ([]:Str),vS ([]:Str), .slice none 0 0, .slice none 0 0],fun vs W=>(vs 6)=ptr (bx (pg (vs 6)))/\Bx W 9 (pg (vs 6)) [vI 2,vS a.Path,vS ([]:Str),(vs 4), .slice none 0 0]] [] mixed (by kernel_rfl) O zrK.nil ?_
        intro iw a0
        have a1:=a0.o
        have dd:=da.up a0
        refine⟨(zaZ.cons ?_ (zaZ.cons ?_ (zaZ.cons ?_ (zaZ.cons ?_ (zaZ.cons ?_ (zaZ.cons ?_ (zaZ.cons ?_ (zaZ.cons ?_ zaZ.nil)))))))),(zdI.cons SE (zdI.cons SE (zdI.cons SE (zdI.cons SE (zdI.cons SO (zdI.cons (fun vs vs' W W' _ hv l hd h=>by(show(vs' 5) = .agg [vI 2,vS a.Path,vS ([]:Str),(vs' 4), .slice none 0 0].toArray);rw[hv 4 (zaD O),hv 5 (zaD O)];exact h) (zdI.cons (fun vs vs' W W' _ hv l hd h=>by(show(vs' 6)=ptr (bx (pg (vs' 6)))/\Bx W' 9 (pg (vs' 6)) [vI 0,vS ([]:Str),vS ([]:Str), .slice none 0 0, .slice none 0 0]);rw[hv 6 (zaD O)];exact⟨h.1,h.2.up l (zca hd (c:=9) O)⟩) (zdI.cons (fun vs vs' W W' _ hv l hd h=>by(show(vs' 6)=ptr (bx (pg (vs' 6)))/\Bx W' 9 (pg (vs' 6)) [vI 2,vS a.Path,vS ([]:Str),(vs' 4), .slice none 0 0]);rw[hv 4 (zaD O),hv 6 (zaD O)];exact⟨h.1,h.2.up l (zca hd (c:=9) O)⟩) zdI.nil)))))))),?_⟩
        ·intro vs iy lW hN hV
         exact Trq (R.fa O) O
        ·intro vs iz lW hN hV
         have de:vs 0=ptr ((bx k).add 0):=(hN 0 (zaD O))
         obtain⟨vs,rfl⟩:=zav de
         exact Trq (R.ld (v:=vS a.Path) O O ((dd.up lW O).cell O)) O
        ·intro vs i0 lW hN hV
         exact Trq (R.fa O) O
        ·intro vs i1 lW hN hV
         have df:vs 2=ptr ((bx k).add 1):=(hN 2 (zaD O))
         obtain⟨vs,rfl⟩:=zav df
         exact Trq (R.ld (v:=b8) O O ((dd.up lW O).cell O)) O
        ·intro vs i2 lW hN hV
         have gc:=((((z.trans A).trans P).trans ak).trans a1).t lW O
         have dg:vs 3=b8:=(hN 3 (zaD O))
         obtain⟨vs,rfl⟩:=zav dg
         refine Tr.mono (T.call O (p125 (k0:=8) (r49.ul gc) gb)) ?_
         rintro gd _ ⟨ej,rfl,gf,⟨_,rfl,gg⟩⟩
         exact⟨ej,O,gf,(show Ow ej 8 [] [gd] am from gg)⟩
        ·intro vs gh lW hN hV
         have dh:vs 1=vS a.Path:=(hN 1 (zaD O))
         obtain⟨vs,rfl⟩:=zav dh
         obtain⟨b,a2⟩: ∃ v,vs 4=v:=⟨_,O⟩
         obtain⟨vs,rfl⟩:=zav a2
         have gj:Ow gh 8 [] [b] am:=(hN 4 (zaD O))
         exact Trq (R.bd (zs:=[vI 0,vS ([]:Str),vS ([]:Str), .slice none 0 0, .slice none 0 0]) (cs:=[vI 2,vS a.Path,vS ([]:Str),b, .slice none 0 0]) [(0,vI 2),(1,vS a.Path),(3,b)] O O O (zax O O (zax O O (zax gj.oc O zcd)))) O
        ·intro vs i3 lW hN hV
         refine Tr.mono (T.alloc 9 (cs:=[vI 0,vS ([]:Str),vS ([]:Str), .slice none 0 0, .slice none 0 0]) O) ?_
         rintro _ _ ⟨di,ek,rfl,rfl,gk,gm⟩
         exact⟨ek,O,gk,(show(ptr (bx di):Value)=ptr (bx di)/\Bx ek 9 di [vI 0,vS ([]:Str),vS ([]:Str), .slice none 0 0, .slice none 0 0] from⟨O,gm⟩)⟩
        ·intro vs el lW hN hV
         obtain⟨b,a2⟩: ∃ v,vs 4=v:=⟨_,O⟩
         obtain⟨vs,rfl⟩:=zav a2
         have gn:Ow el 8 [] [b] am:=(hN 4 (zaD O))
         have dj:vs 5 = .agg [vI 2,vS a.Path,vS ([]:Str),b, .slice none 0 0].toArray:=(hN 5 (zaD O))
         obtain⟨vs,rfl⟩:=zav dj
         obtain⟨d,dk⟩: ∃ d,vs 6=ptr (bx d):=⟨_,((hN 6 (zaD O))).1⟩
         obtain⟨vs,rfl⟩:=zav dk
         have go:Bx el 9 d [vI 0,vS ([]:Str),vS ([]:Str), .slice none 0 0, .slice none 0 0]:=(hN 6 (zaD O)).2
         refine Tr.mono (T.sta (vs:=[vI 2,vS a.Path,vS ([]:Str),b, .slice none 0 0]) go O O (zaa O (zaa O (zaa O (zaa gn.oc (zaa O zaC))))) O O) ?_
         rintro _ _ ⟨em,rfl,gr,gs⟩
         exact⟨em,O,gr,(show(ptr (bx d))=ptr (bx d)/\Bx em 9 d [vI 2,vS a.Path,vS ([]:Str),b, .slice none 0 0] from⟨O,gs⟩)⟩
        ·intro vs a3 a5 hN
         have cc:=a5.s
         have de:vs 0=ptr ((bx k).add 0):=(hN 0 (zaD O))
         obtain⟨vs,rfl⟩:=zav de
         have dh:vs 1=vS a.Path:=(hN 1 (zaD O))
         obtain⟨vs,rfl⟩:=zav dh
         have df:vs 2=ptr ((bx k).add 1):=(hN 2 (zaD O))
         obtain⟨vs,rfl⟩:=zav df
         have dg:vs 3=b8:=(hN 3 (zaD O))
         obtain⟨vs,rfl⟩:=zav dg
         obtain⟨b,a2⟩: ∃ v,vs 4=v:=⟨_,O⟩
         obtain⟨vs,rfl⟩:=zav a2
         have gu:Ow a3 8 [] [b] am:=(hN 4 (zaD O))
         have dj:vs 5 = .agg [vI 2,vS a.Path,vS ([]:Str),b, .slice none 0 0].toArray:=(hN 5 (zaD O))
         obtain⟨vs,rfl⟩:=zav dj
         obtain⟨d,dk⟩: ∃ d,vs 6=ptr (bx d):=⟨_,(hN 7 (zaD O)).1⟩
         obtain⟨vs,rfl⟩:=zav dk
         have gv:Bx a3 9 d [vI 2,vS a.Path,vS ([]:Str),b, .slice none 0 0]:=(hN 7 (zaD O)).2
         obtain⟨en,gw,Y⟩:=zaT Y
         refine Cw.join 47 86 [6,13,14,15] (fun l w=> ∃ cd an ao ap ce cf cg dl dm dn a6 a7 S,CW.w S=w/\Le [3,9,12,13] a3 S/\l=[cg,dl,dm,dn]/\Ow S 3 [] [cg] cd/\Ow S 8 [] [a6] ce/\Ow S 10 [] [a7] cf/\Bx S 9 d [vI an,vS ao,vS ap,a6,a7]/\en cd an ao ap ce cf=some r) ?_ ?_
         ·rintro _ _ σ ⟨cd,an,ao,ap,ce,cf,cg,dl,dm,dn,a6,a7,S,rfl,eo,rfl,gx,gy,gz,g0,Y⟩
          rw[gw]at Y
          refine rg (mv I O (la g0 (Lw.t O (T.bs 11 [.agg [vI an,vS ao,vS ap,a6,a7].toArray] (cs:=[vI an,vS ao,vS ap,a6,a7]) O O (bsA O)) ?_)))
          rintro _ _ ⟨i4,i5,rfl,rfl,a8,g1⟩
          obtain⟨g2,g3,Y⟩:=ob Y
          refine Lw.t O (T.app1 (α:=Change) (J:=[8,10]) (K':=[]) ((((c8.up a0).up a5).up eo).up a8) g1 (Change.own an ao ap ce cf (gy.up a8).s (gz.up a8).s) O O g3) ?_
          rintro ep _ ⟨g4,rfl,er,g5⟩
          exact Nv ep O ((ag) ⟨g2,cd,ep,cg,ptr (bx k),f,vB N.2,ptr (bx d),dl,dm,dn,g4,O,((((((((ai.j aj).j B).j C).j a0).j a5).j eo).j a8).j er).w,O,g5,((gx.up a8).up er),Y⟩)
         ·refine sr (mv ae O (Lw.ln x1 (G.ul ((((((y.trans z).trans A).trans P).trans ak).trans a1).trans cc)) O (mi O (nl (Cw.block (Cw.loop 49 86 [6,13,14,15,49] (fun m l w=> ∃ a9 ch ba bb bc be bg U dp dq dr bh bi V,CW.w V=w/\Le [3,9,13] a3 V/\l=[U,dp,dq,dr,vI ch]/\Ow V 3 [] [U] a9/\Ow V 8 [] [bh] be/\Ow V 12 [] [bi] bg/\Bx V 9 d [vI ba,vS bb,vS bc,bh,bi]/\Vm.zbR x0 x1 a en m a9 ch ba bb bc be bg=some r) _ ⟨H,0,2,a.Path,([]:Str),am,([]:List Hunk),L,aw,ax,ay,b, .slice none 0 0,a3,O,Le.refl _ _,O,((c9.up a0).up a5),gu,owN 12 [],gv,Y⟩ ?_))))))
          rintro(_ |i6) _ _ σ ⟨a9,ch,ba,bb,bc,be,bg,U,dp,dq,dr,bh,bi,V,rfl,bj,rfl,es,et,eu,ew,Y⟩
          ·cases Y
          unfold Vm.zbR at Y
          have ds:=bj.s
          refine sr (Lw.lt O (nl (Cw.seq (cn Y (fun Y=>?_) fun Y=>?_))))
          ·refine sk (Cw.seq (Cw.block (sr ?_)))
           obtain⟨bk,ex,Y⟩:=ob Y
           have ey:=G.ul (((((((y.trans z).trans A).trans P).trans ak).trans a1).trans cc).trans ds)
           refine Lw.r O (R.ix (α:=File) ey ex O O O) ?_
           obtain⟨x289,c290,_,r291⟩:=(ey.at_ ex).cells
           obtain⟨i7,rfl,r293⟩:=File.split r291
           refine Lw.r O (R.lda c290 O O) (al 13 [vS ([]:Str), .slice none 0 0] fun ez i8 D g6=>?_)
           have dt:=D.o
           refine sta g6 (zaa O (zaa r293.oc zaC)) fun i9 E bl=>?_
           have du:=E.s
           refine nl (sr (mv ac O (fl bl O (cr Y (fun _=>p116 (k0:=14) (h0.ul (((((((((y.trans z).trans A).trans P).trans ak).trans a1).trans cc).trans ds).trans dt).trans du))) ?_))))
           rintro aq _ e0 Y e ⟨X,rfl,ja⟩
           have e1:=e.o
           have dv:=((es.up D).up E).up e
           have e2:=((((dd.up a5).up bj).up D).up E).up e
           refine mv (.tuple [X,vB aq.2].toArray) O (Lw.r O (R.ext (vs:=[X,vB aq.2]) (v:=X) O O) (Lw.r O (R.ext (vs:=[X,vB aq.2]) (v:=vB aq.2) O O) (Gv X O (Nb O ?_))))
           obtain⟨g7,g8,Y⟩:=zaT Y
           refine Cw.join 60 75 [75] (fun l w=> ∃ dw ci,CW.w ci=w/\Le [] e0 ci/\l=[vB dw]/\g7 dw=some r) ?_ ?_
           ·rintro _ _ σ ⟨dw,ci,rfl,i,rfl,Y⟩
            rw[g8]at Y
            have e3:=(((ew.up D).up E).up e).up i
            refine cn Y (fun Y=>?_) fun Y=>?_
            ·refine sr (fl (e2.up i) O (fl ((bl.up e).up i) O (Lw.r O (R.bd (zs:=[vI 0,vS ([]:Str),vS ([]:Str), .slice none 0 0, .slice none 0 0]) (cs:=[vI 4,vS a.Path,vS bk.Path, .slice none 0 0, .slice none 0 0]) [(0,vI 4),(1,vS a.Path),(2,vS bk.Path)] O O O (zax O O (zax O O (zax O O zcd)))) (sta e3 (zaa O (zaa O (zaa O (zaa O (zaa O zaC))))) fun jb dx g9=>nl (sr (mv U O (fl (((bl.up e).up i).up dx) O (Lw.t O (T.bs 15 [vS bk.Path] (cs:=[vS bk.Path]) O O (bsv O)) ?_))))))))
             rintro _ _ ⟨jc,jd,rfl,rfl,dy,ha⟩
             obtain⟨hb,hc,Y⟩:=ob Y
             refine Lw.t O (T.app1S (α:=Str) (K':=[]) (((dv.up i).up dx).up dy) ha (rdS _) O O hc) ?_
             rintro e4 _ ⟨he,rfl,e5,hf⟩
             exact Nv e4 O (Cw.exit ((ag) ⟨hb,4,a.Path,bk.Path,([]:List Str),([]:List Hunk),e4,ptr (bx ez),X,vB aq.2, .slice none 0 0, .slice none 0 0,he,O,(((((((bj.j D).j E).j e).j i).j dx).j dy).j e5).w,O,hf,owN 8 [],owN 10 [],((g9.up dy).up e5),Y⟩))
            ·exact sk (rg (Lw.add O (mi O (nl ((agm) ⟨a9,w64 (ch+1),ba,bb,bc,be,bg,U,ptr (bx ez),X,vB aq.2,bh,bi,ci,O,((((bj.j D).j E).j e).j i).w,O,(dv.up i),((((et.up D).up E).up e).up i),((((eu.up D).up E).up e).up i),e3,Y⟩)))))
           ·refine rg (mb O (Lw.r O (R.not O) (mb O (bs Y (fun bm Y=>?_) fun bm Y=>?_))))
            ·refine wak 5 bm (fl (bl.up e) O (fl e2 O (ca Y (fun _=>p123 (r293.ul ((dt.trans du).trans e1)) (r49.ul (((((((((z.trans A).trans P).trans ak).trans a1).trans cc).trans ds).trans dt).trans du).trans e1))) fun je hg Y cj=>Pb bm O (mb O (bs Y (fun bn Y=>?_) fun bn Y=>?_)))))
             ·exact wak 5 bn (mv U O (fl ((bl.up e).up cj) O (ca Y (fun _=>p73 (K:=[3]) (dv.up cj).rd) fun hh hi Y hj=>Lw.r O (R.not O) (Pb bn O (nl ((ag) ⟨(!hh),hi,O,(cj.j hj).w,O,Y⟩))))))
             ·exact psk 5 bn O (Pb bn O (nl ((ag) ⟨false,hg,O,cj,O,Y⟩)))
            ·exact psk 5 bm O (Pb bm O (mb O (psk 5 O O (Pb O O (nl ((ag) ⟨false,e0,O,Le.refl _ _,O,Y⟩))))))
          ·refine Cw.exit ?_
           obtain⟨hk,hl,ck,hn⟩:=eu.dyeO 10
           exact(ag) ⟨a9,ba,bb,bc,be,bg,U,dp,dq,dr,bh,bi,hk,hl,(bj.j ck).w,O,(es.up ck),(et.up ck),hn,(ew.up ck),Y⟩
     ·refine rg (mb O (mb O (bs Y (fun bp Y=>?_) fun bp Y=>?_)))
      ·exact wak 4 bp (mv f O (fl (c6.up B) O (ca Y (fun _=>p123 (K:=[0,5]) (eg.rd.sub (M:=[0,5]) O) ((r49.ul ((z.trans A).trans P)).sub (M:=[0,5]) O)) fun ho hp Y hq=>Pb bp O (Nb O ((ag) ⟨ho,hp,O,hq,O,Y⟩)))))
      ·exact psk 4 bp O (Pb bp O (Nb O ((ag) ⟨false,ef,O,Le.refl _ _,O,Y⟩)))
   ·refine Cw.exit ?_
    rw[ft]at Y
    refine ssr (mv ae O (Lw.ln x1 (G.ul y) O (mi O (nl (Cw.block ?_)))))
    obtain⟨hr,hs,Y⟩:=zaT Y
    refine Cw.loop 114 143 [5,17,18,19,114] (fun m l w=> ∃ cl cm F e6 e7 e8 bq,CW.w bq=w/\Le [2,16,18] x bq/\l=[F,e6,e7,e8,vI cm]/\Ow bq 2 [] [F] cl/\Vm.zaM x0 x1 H hr m cl cm=some r) _ ⟨y7,0,I,undef,undef,undef,x,O,Le.refl _ _,O,o9,Y⟩ ?_
    rintro(_ |jf) _ _ σ ⟨cl,cm,F,e6,e7,e8,bq,rfl,dz,rfl,e9,Y⟩
    ·cases Y
    unfold Vm.zaM at Y
    have co:=y.t dz
    refine sr (Lw.lt O (nl (Cw.seq (cn Y (fun Y=>?_) fun Y=>?_))))
    ·refine sk ?_
     obtain⟨ht,hu,Y⟩:=zaT Y
     refine Cw.join 116 142 [5,17,18,19] (fun l w=> ∃ cp cq d0 d1 d2 br,CW.w br=w/\Le [2,16,18] bq br/\l=[cq,d0,d1,d2]/\Ow br 2 [] [cq] cp/\ht cp=some r) ?_ ?_
     ·rintro _ _ σ ⟨cp,cq,d0,d1,d2,br,rfl,hw,rfl,hx,Y⟩
      rw[hu]at Y
      exact rg (Lw.add O (mi O (nl ((agm) ⟨cp,w64 (cm+1),cq,d0,d1,d2,br,O,(dz.j hw).w,O,hx,Y⟩))))
     ·refine Cw.block (sr ?_)
      obtain⟨bu,fb,Y⟩:=ob Y
      refine Lw.r O (R.ix (α:=File) (G.ul co) fb O O O) ?_
      obtain⟨x448,c449,_,r450⟩:=((G.ul co).at_ fb).cells
      obtain⟨jg,rfl,r452⟩:=File.split r450
      refine Lw.r O (R.lda c449 O O) (al 16 [vS ([]:Str), .slice none 0 0] fun fc jh bv hy=>?_)
      have fd:=bv.o
      refine sta hy (zaa O (zaa r452.oc zaC)) fun ji bw d3=>?_
      have fe:=bw.s
      refine nl (sr (mv ac O (fl d3 O (cr Y (fun _=>p116 (k0:=17) (h0.ul ((co.trans fd).trans fe))) ?_))))
      rintro ar _ ff Y Z ⟨aa,rfl,jj⟩
      have hz:=(fd.trans fe).n Z
      refine mv (.tuple [aa,vB ar.2].toArray) O (Lw.r O (R.ext (vs:=[aa,vB ar.2]) (v:=aa) O O) (Lw.r O (R.ext (vs:=[aa,vB ar.2]) (v:=vB ar.2) O O) (Gv aa O (Nb O ?_))))
      obtain⟨h2,h3,Y⟩:=zaT Y
      refine Cw.join 125 133 [133] (fun l w=> ∃ d4 ct,CW.w ct=w/\Le [] ff ct/\l=[vB d4]/\h2 d4=some r) ?_ ?_
      ·rintro _ _ σ ⟨d4,ct,rfl,bz,rfl,Y⟩
       rw[h3]at Y
       have h4:=hz.n bz
       have fg:=(((e9.up bv).up bw).up Z).up bz
       refine cn Y (fun Y=>?_) fun Y=>?_
       ·refine Cw.draw [2,18] [(0,0),(1,0),(2,1),(3,0),(4,1),(5,2),(6,0),(7,2),(8,2),(9,0)] mixed (by kernel_rfl) fun jk cu=>?_
        have h5:=h4.n cu
        have fh:=((d3.up Z).up bz).up cu
        refine Dv F O (Dfl fh O O O (Dfl fh O O O (Dc Y (Le.refl _ _) (fun _=>p125 (k0:=18) (r452.ul h5)) O ?_)))
        rintro h6 cv jl Y fi ⟨_,rfl,fj⟩ h7
        refine Mw.p O O (fun _=>R.bd (zs:=[vI 0,vS ([]:Str),vS ([]:Str), .slice none 0 0, .slice none 0 0]) (cs:=[vI 1,vS bu.Path,vS ([]:Str),cv, .slice none 0 0]) [(0,vI 1),(1,vS bu.Path),(3,cv)] O O O (zax O O (zax O O (zax fj.oc O zcd)))) (Mw.t O O (T.bs 19 [.agg [vI 1,vS bu.Path,vS ([]:Str),cv, .slice none 0 0].toArray] (cs:=[vI 1,vS bu.Path,vS ([]:Str),cv, .slice none 0 0]) O O (bsA O)) ?_)
        rintro _ _ ⟨jm,jo,rfl,rfl,cw,h8⟩
        refine mc h7 cw fun h9=>?_
        obtain⟨ia,ib,Y⟩:=ob Y
        refine Mw.t O O (T.app1 (α:=Change) (J:=[18]) (K':=[]) (((fg.up cu).up fi).up cw) h8 (Change.own 1 bu.Path ([]:Str) h6 ([]:List Hunk) (fj.up cw).s (zoT [])) O O ib) ?_
        rintro fm _ ⟨ic,rfl,fn,id⟩
        exact mc h9 fn fun jp=>Hv fm O (Mw.nil ((ag) ⟨ia,fm,ptr (bx fc),aa,vB ar.2,ic,O,(((((((bv.j bw).j Z).j bz).j cu).j fi).j cw).j fn).w,O,id,Y⟩))
       ·exact sk ((ag) ⟨cl,F,ptr (bx fc),aa,vB ar.2,ct,O,(((bv.j bw).j Z).j bz).w,O,fg,Y⟩)
      ·refine rg (mb O (Lw.r O (R.not O) (mb O (bs Y (fun b0 Y=>?_) fun b0 Y=>?_))))
       ·exact wak 5 b0 (mv L O (fl (d3.up Z) O (ca Y (fun _=>p73 (K:=[3]) ((((ed.up dz).up bv).up bw).up Z).rd) fun ie ig Y ih=>Lw.r O (R.not O) (Pb b0 O (nl ((ag) ⟨(!ie),ig,O,ih,O,Y⟩))))))
       ·exact psk 5 b0 O (Pb b0 O (nl ((ag) ⟨false,ff,O,Le.refl _ _,O,Y⟩)))
    ·refine Cw.exit ?_
     rw[hs]at Y
     refine sr (mv F O (Nv F O ?_))
     cases Y
     exact Cw.ret (zhX O (Res.mk co ⟨F,O,e9.s.sub O O⟩))
 ·refine rg (mv ac O (ca Y (fun _=>p93 h0 d6) fun jq ii Y d5=>?_))
  have fo:=d5.o
  refine Lw.r O (R.not O) (mb O (bs Y (fun b1 Y=>?_) fun b1 Y=>?_))
  ·exact psk 3 b1 O (Pb b1 O (nl ((ag) ⟨true,ii,O,d5,O,Y⟩)))
  ·exact wak 3 b1 (mv ae O (ca Y (fun _=>p93 (G.ul fo) (d6.ul fo)) fun ij ik Y il=>Lw.r O (R.not O) (Pb b1 O (nl ((ag) ⟨(!ij),ik,O,(d5.j il).w,O,Y⟩)))))
theorem p69 {x0 b x1 d k0 r}(f:Rd W K [b] x0)(h:Rd W K [d] x1)(i:Gl 0 W K)(Y:Vm.zej x0 x1=some r):Q1 69 [b,d] W [] fun W' v=> ∃ a,v=a/\Ow W' k0 [] [a] r:=
 (c69 (f.view _) (h.view _) (i.view _) Y).ad (fk k0) fun _ _ ⟨a,e,k⟩=>⟨a,e,k.back (zgC _)⟩
theorem c68 {x0 x r}(y:Rd W0 [0] [x] x0)(Y:Vm.zf6 x0=some r):Q0 68 [x] W0 fun Wf v=> ∃ G,v=G/\OwS Wf LL [] [G] r:=by
 unfold Vm.zf6 at Y
 refine zak.of Tryz.func68 O O O O (sr (Nv (.slice none 0 0) O (sr (Nv (.slice none 0 0) O (ssr (mv x O (Lw.ln x0 y O (mi O (nl (Cw.block ?_))))))))))
 obtain⟨V,W,Y⟩:=zaT Y
 refine Cw.loop 8 25 [3,5,8] (fun m l w=> ∃ z e a H b,CW.w b=w/\Le [2,3] W0 b/\l=[a,H,vI e]/\Ow b 2 [] [a] z/\Vm.zct x0 V m z e=some r) _ ⟨([]:List Str),0, .slice none 0 0,undef,W0,O,Le.refl _ _,O,owN 2 [],Y⟩ ?_
 rintro(_ |m8) _ _ σ ⟨z,e,a,H,b,rfl,I,rfl,J,Y⟩
 ·cases Y
 unfold Vm.zct at Y
 have A:=I.s
 refine sr (Lw.lt O (nl (Cw.seq (cn Y (fun Y=>?_) fun Y=>?_))))
 ·refine sk ?_
  obtain⟨X,Z,Y⟩:=zaT Y
  refine Cw.join 10 24 [3,5] (fun l w=> ∃ f h B d,CW.w d=w/\Le [2,3] b d/\l=[h,B]/\Ow d 2 [] [h] f/\X f=some r) ?_ ?_
  ·rintro _ _ σ ⟨f,h,B,d,rfl,aa,rfl,ac,Y⟩
   rw[Z]at Y
   exact rg (Lw.add O (mi O (nl ((agm) ⟨f,w64 (e+1),h,B,d,O,(I.j aa).w,O,ac,Y⟩))))
  ·refine Cw.block (sr ?_)
   obtain⟨i,L,Y⟩:=ob Y
   refine Lw.r O (R.ix (α:=Change) (y.ul A) L O O O) ?_
   obtain⟨x21,c22,_,r23⟩:=((y.ul A).at_ L).cells
   obtain⟨ax,ay,rfl,r25,r27⟩:=Change.split r23
   refine Lw.r O (R.lda c22 O O) (al 3 [vI 0,vS ([]:Str),vS ([]:Str), .slice none 0 0, .slice none 0 0] fun M az C ae=>sta ae (zaa O (zaa O (zaa O (zaa r25.oc (zaa r27.oc zaC))))) fun a0 D N=>nl (sr (mv a O (fl N O (Lw.t O (T.bs 4 [vS i.Path] (cs:=[vS i.Path]) O O (bsv O)) ?_)))))
   rintro _ _ ⟨a1,a2,rfl,rfl,k,af⟩
   obtain⟨ah,ai,Y⟩:=ob Y
   refine Lw.t O (T.app1S (α:=Str) (K':=[]) (((J.up C).up D).up k) af (rdS _) O O ai) ?_
   rintro E _ ⟨aj,rfl,F,P⟩
   have Q:=(N.up k).up F
   refine Nv E O (sr (fl Q O (Lw.eq O (nl (cn Y (fun Y=>?_) fun Y=>?_)))))
   ·refine rg (mv E O (fl Q O (Lw.t O (T.bs 5 [vS i.To] (cs:=[vS i.To]) O O (bsv O)) ?_)))
    rintro _ _ ⟨a3,a4,rfl,rfl,S,ak⟩
    obtain⟨am,an,Y⟩:=ob Y
    refine Lw.t O (T.app1S (α:=Str) (K':=[]) (P.up S) ak (rdS _) O O an) ?_
    rintro U _ ⟨ao,rfl,ap,aq⟩
    exact Nv U O ((ag) ⟨am,U,ptr (bx M),ao,O,(((((C.j D).j k).j F).j S).j ap).w,O,aq,Y⟩)
   ·exact sk ((ag) ⟨ah,E,ptr (bx M),aj,O,(((C.j D).j k).j F).w,O,P,Y⟩)
 ·refine Cw.exit ?_
  rw[W]at Y
  refine sr (mv a O (cr Y (fun _=>p113 (K:=[0]) (c0:=2) J O) ?_))
  rintro a5 _ a6 Y ar ⟨rfl,au⟩
  have av:=A.t ar
  refine nl (sr (mv a O (Nv a O ?_)))
  cases Y
  exact Cw.ret (zhX O (Res.mk av ⟨a,O,au.s.sub O O⟩))
theorem p68 {x0 b k0 r}(d:Rd W K [b] x0)(Y:Vm.zf6 x0=some r):Q1 68 [b] W [] fun W' v=> ∃ a,v=a/\Ow W' k0 [] [a] r:=
 (c68 (d.view _) Y).ad (fk k0) fun _ _ ⟨a,e,f⟩=>⟨a,e,f.back (zgC _)⟩
theorem c72 {x0 x x1 r}(y:Rd W0 [0] [x] x0)(K:Gl 0 W0 [0])(Y:Vm.zf7 x0 x1=some r):Q0 72 [x,vS x1] W0 fun Wf v=>v=vS r:=by
 unfold Vm.zf7 at Y
 refine zak.of Tryz.func72 O O O O (sr (Ns O (Cw.seq ?_)))
 obtain⟨K3,ai,Y⟩:=zaT Y
 refine Cw.join 8 15 [15] (fun l w=> ∃ L M,CW.w M=w/\Le [] W0 M/\l=[vB L]/\K3 L=some r) ?_ ?_
 ·rintro _ _ σ ⟨L,M,rfl,l2,rfl,Y⟩
  rw[ai]at Y
  have S:=l2.o
  refine cn Y (fun Y=>?_) fun Y=>?_
  ·exact sr (Ns O (.ret (rt Y S)))
  ·refine sk (sr (al 2 [vS ([]:Str),vS ([]:Str)] fun T U l6 b6=>?_))
   have V:=S.n l6
   refine nl (ssr (mv x O (Lw.ln x0 (y.ul V) O (mi O (nl (Cw.block ?_))))))
   obtain⟨an,ao,Y⟩:=zaT Y
   refine Cw.loop 18 42 [7,18] (fun m l w=> ∃ z a A W b,CW.w b=w/\Le [2,3] U b/\l=[W,vI z]/\Bx b 2 T [vS a,vS A]/\Vm.zcu x0 x1 an m z a A=some r) _ ⟨0,([]:Str),([]:Str),undef,U,O,Le.refl _ _,O,b6,Y⟩ ?_
   rintro(_ |ba) _ _ σ ⟨z,a,A,W,b,rfl,X,rfl,Z,Y⟩
   ·cases Y
   unfold Vm.zcu at Y
   have B:=V.t X
   refine sr (Lw.lt O (nl (Cw.seq (cn Y (fun Y=>?_) fun Y=>?_))))
   ·refine sk ?_
    obtain⟨ap,aq,Y⟩:=zaT Y
    refine Cw.join 20 41 [7] (fun l w=> ∃ C D N d,CW.w d=w/\Le [2,3] b d/\l=[N]/\Bx d 2 T [vS C,vS D]/\ap C D=some r) ?_ ?_
    ·rintro _ _ σ ⟨C,D,N,d,rfl,ar,rfl,au,Y⟩
     rw[aq]at Y
     exact rg (Lw.add O (mi O (nl ((agm) ⟨w64 (z+1),C,D,N,d,O,(X.j ar).w,O,au,Y⟩))))
    ·refine Cw.block (sr ?_)
     obtain⟨E,aa,Y⟩:=ob Y
     refine Lw.r O (R.ix (α:=Owner) (y.ul B) aa O O O) ?_
     obtain⟨x29,c30,_,r31⟩:=((y.ul B).at_ aa).cells
     obtain rfl:=Owner.split r31
     refine Lw.r O (R.lda c30 O O) (al 3 [vS ([]:Str),vS ([]:Str)] fun ac bb F av=>?_)
     have aw:=B.n F
     refine sta av (zaa O (zaa O zaC)) fun ae G e=>?_
     have ax:=aw.t G
     have H:=(Z.up F).up G
     refine nl ?_
     obtain⟨ay,az,Y⟩:=zaT Y
     refine Cw.join 22 40 [40] (fun l w=> ∃ P I,CW.w I=w/\Le [] ae I/\l=[vB P]/\ay P=some r) ?_ ?_
     ·rintro _ _ σ ⟨P,I,rfl,f,rfl,Y⟩
      rw[az]at Y
      refine cn Y (fun Y=>?_) fun Y=>?_
      ·exact rg (la (e.up f) (sta (H.up f) (zaa O (zaa O zaC)) fun a0 a1 a2=>nl ((ag) ⟨E.Path,E.Who,ptr (bx ac),a0,O,(((F.j G).j f).j a1).w,O,a2,Y⟩)))
      ·exact sk ((ag) ⟨a,A,ptr (bx ac),I,O,((F.j G).j f).w,O,(H.up f),Y⟩)
     ·refine rg (fl e O (ms O (Lw.seq O (mb O (bs Y (fun h Y=>?_) fun h Y=>?_)))))
      ·exact psk 4 h O (Pb h O (mb O (wak 7 O (fl e O (Lw.r O (R.lenS O) (fl H O (Lw.r O (R.lenS O) (Lw.gt O (Pb O O (nl ((ag) ⟨decide (a.length< (E.Path.length:Int)),ae,O,Le.refl _ _,O,Y⟩)))))))))))
      ·refine wak 4 h (fl e O (ms O (ca Y (fun _=>p127 (K.ul ax)) fun bc af Y J=>Pb h O (mb O (bs Y (fun i Y=>?_) fun i Y=>?_)))))
       ·exact wak 7 i (fl (e.up J) O (Lw.r O (R.lenS O) (fl (H.up J) O (Lw.r O (R.lenS O) (Lw.gt O (Pb i O (nl ((ag) ⟨decide (a.length< (E.Path.length:Int)),af,O,J,O,Y⟩))))))))
       ·exact psk 7 i O (Pb i O (nl ((ag) ⟨false,af,O,J,O,Y⟩)))
   ·refine Cw.exit ?_
    rw[ao]at Y
    exact sr (fl Z O (Ns O (.ret (rt Y B))))
 ·refine rg (mv x O (ca Y (fun _=>p66 y K) fun be a3 Y Q=>?_))
  have a5:=Q.o
  refine Lw.r O (R.not O) (mb O (bs Y (fun k Y=>?_) fun k Y=>?_))
  ·exact psk 3 k O (Pb k O (nl ((ag) ⟨true,a3,O,Q,O,Y⟩)))
  ·exact wak 3 k (ms O (ca Y (fun _=>p121 (K.ul a5)) fun a6 a8 Y a9=>Lw.r O (R.not O) (Pb k O (nl ((ag) ⟨(!a6),a8,O,(Q.j a9).w,O,Y⟩)))))
theorem p72 {x0 a x1 r}(b:Rd W K [a] x0)(d:Gl 0 W K)(Y:Vm.zf7 x0 x1=some r):Q1 72 [a,vS x1] W [] fun W' v=>v=vS r:=
 (c72 (b.view _) (d.view _) Y).ad (fk 0) fun _ _ e=>e
theorem c74 {x0 a x1 r}(i:Rd W0 [0] [a] x0)(Y:Vm.zf8 x0 x1=some r):Q0 74 [a,vS x1] W0 fun Wf v=> ∃ d,v=d/\OwS Wf LL [] [d] r:=by
 unfold Vm.zf8 at Y
 refine zak.of Tryz.func74 O O O O (sr (Nv (.slice none 0 0) O (sr (Lw.t O (T.lit0 (α:=Str) 2 []) ?_))))
 rintro Q _ ⟨R,rfl,k,x⟩
 have e:=k.o
 refine mv a O ?_
 obtain⟨S,y,Y⟩:=ob Y
 refine Lw.t O (T.appP (α:=Str) x (i.ul e) O O y) ?_
 rintro U _ ⟨V,rfl,z,A⟩
 have B:=e.t z
 refine ms O (Lw.t O (T.bs 3 [vS x1] (cs:=[vS x1]) O O (bsv O)) ?_)
 rintro _ _ ⟨W,X,rfl,rfl,f,C⟩
 have D:=B.n f
 obtain⟨Z,E,Y⟩:=ob Y
 refine Lw.t O (T.app1S (α:=Str) (K':=[]) (A.up f) C (rdS _) O O E) ?_
 rintro b _ ⟨aa,rfl,F,G⟩
 have H:=D.t F
 refine Nv b O (sr (mv b O (cr Y (fun _=>p113 (K:=[0]) (c0:=2) G O) ?_)))
 rintro ac _ ae Y I ⟨rfl,J⟩
 have L:=H.t I
 refine nl (sr (mv b O (cr Y (fun _=>p129 (K:=[0]) (k0:=4) (c0:=2) J O) ?_)))
 rintro af h ah Y M ⟨_,rfl,N⟩
 have P:=L.t M
 refine Nv h O ?_
 cases Y
 exact Cw.ret (zhX O (Res.mk P ⟨h,O,N.s.sub O O⟩))
theorem p74 {x0 b x1 k0 r}(d:Rd W K [b] x0)(Y:Vm.zf8 x0 x1=some r):Q1 74 [b,vS x1] W [] fun W' v=> ∃ a,v=a/\Ow W' k0 [] [a] r:=
 (c74 (d.view _) Y).ad (fk k0) fun _ _ ⟨a,e,f⟩=>⟨a,e,f.back (zgC _)⟩
theorem c27 {x0 i k x1 J x2 a7 r}(h0:Rd W0 [0] [i,k] x0)(h1:Rd W0 [0] [J] x1)(h2:Rd W0 [0] [vS x2.Branch,vS x2.Into,vS x2.By,a7] x2)(L:Gl 0 W0 [0])(Y:Vm.zbK x0 x1 x2=some r):Q0 27 [.agg [i,k].toArray,J, .agg [vS x2.Branch,vS x2.Into,vS x2.By,a7].toArray] W0 fun Wf v=> ∃ u0,v = .tuple [u0,vB r.2].toArray/\OwS Wf LL [] [u0] r.1:=by
 unfold Vm.zbK at Y
 obtain⟨dm,dn,bb,d,e⟩:=Repo.split h0
 simp only[List.cons.injEq,and_true,true_and]at bb
 obtain⟨rfl,rfl⟩:=bb
 obtain⟨dp,bc,be⟩:=Review.split h2
 simp only[List.cons.injEq,and_true,true_and]at bc
 obtain rfl:=bc
 refine zak.of Tryz.func27 O O O O (sr (bo 2 O fun g1 W1 l1 b1=>?_))
 have a2:=l1.o
 refine bo 3 O fun g3 W3 l3 b3=>?_
 have x:=a2.n l3
 have b5:=b1.up l3
 refine Gv (.slice none 0 0) O (Nb O (Cw.seq ?_))
 obtain⟨K8,ce,Y⟩:=zaT Y
 refine Cw.join 14 40 [40] (fun l w=> ∃ y6 W7,CW.w W7=w/\Le [] W3 W7/\l=[vB y6]/\K8 y6=some r) ?_ ?_
 ·rintro _ _ σ ⟨y6,W7,rfl,l7,rfl,Y⟩
  rw[ce]at Y
  have a9:=x.n l7
  refine cn Y (fun Y=>?_) fun Y=>?_
  ·refine sr (Gv (.slice none 0 0) O (Nb O ?_))
   cases Y
   exact Cw.ret (zow O O (Res.mk a9 ⟨.slice none 0 0,O,(zoT []).sub O O⟩))
  ·refine sk (Cw.seq (Cw.draw [] [(0,1),(1,0),(2,1),(4,1),(5,0),(6,1),(3,2),(7,3),(8,0),(9,0)] mixed (by kernel_rfl) fun dt ah=>?_))
   have ai:=a9.n ah
   have aj:=(b5.up l7).up ah
   have ak:=(b3.up l7).up ah
   refine Mw.q O O (fun _ c=>R.lda (cs:=[i,k]) (aj.clcs O c) O O) (Dfl ak O O O (Mw.q O O (fun _ c=>R.lda (cs:=[i,k]) (aj.clcs O c) O O) (Dfl ak O O O ?_)))
   obtain⟨du,cf,Y⟩:=ob Y
   refine Mw.t O O (T.call O (p45 (Repo.rd (K:=[0]) x0.Commits x0.Heads (d.ul ai) (e.ul ai)) cf)) ?_
   rintro _ _ ⟨dv,rfl,N,rfl⟩
   have am:=ai.n N
   refine m0 N fun dw=>?_
   obtain⟨dx,cg,Y⟩:=ob Y
   refine Mw.l O O (T.call O (p45 (Repo.rd (K:=[0]) x0.Commits x0.Heads (d.ul am) (e.ul am)) cg)) ?_
   rintro _ _ ⟨dy,rfl,an,rfl⟩
   have ch:=am.n an
   refine Hi O (Hi O (Mw.nil (sr (Nv (.slice none 0 0) O (Cw.seq (Cw.seq (Cw.draw [] [(0,1),(1,0),(2,0),(4,1),(5,0),(10,0),(3,2),(6,3),(7,3),(8,2),(9,0)] mixed (by kernel_rfl) fun dz ao=>?_)))))))
   have ap:=ch.n ao
   have bj:=((aj.up N).up an).up ao
   refine Mw.q O O (fun _ c=>R.lda (cs:=[i,k]) (bj.clcs O c) O O) (Di O (Di O (Mw.q O O (fun _ c=>R.lda (cs:=[i,k]) (bj.clcs O c) O O) (Di O (Di O ?_)))))
   obtain⟨d0,ci,Y⟩:=ob Y
   refine Mw.t O O (T.call O (p70 (Repo.rd (K:=[0]) x0.Commits x0.Heads (d.ul ap) (e.ul ap)) ci)) ?_
   rintro d1 _ ⟨d2,rfl,P,⟨_,rfl,cj⟩⟩
   have ck:=cj.sub (M:=[0]) O
   have Q:=ap.n P
   refine m0 P fun d3=>?_
   obtain⟨d4,cl,Y⟩:=ob Y
   refine Mw.l O O (T.call O (p71 (Repo.rd (K:=[0]) x0.Commits x0.Heads (d.ul Q) (e.ul Q)) cl)) ?_
   rintro d5 _ ⟨d6,rfl,aq,⟨_,rfl,cm⟩⟩
   have co:=cm.sub (M:=[0]) O
   have ar:=aq.o
   obtain⟨d7,cp,Y⟩:=ob Y
   refine Mw.l O O (T.call O (p69 (k0:=4) (ck.ul ar) co (L.ul (Q.trans ar)) cp)) ?_
   rintro d8 _ ⟨d9,rfl,au,⟨_,rfl,cq⟩⟩
   have ct:=(Q.trans ar).n au
   obtain⟨bk,cu,Y⟩:=ob Y
   refine Mw.t O O (T.call O (p68 (K:=[4]) (k0:=5) cq.rd cu)) ?_
   rintro ea _ ⟨bl,rfl,av,⟨_,rfl,aw⟩⟩
   have cv:=ct.n av
   refine⟨⟨_,O,((P.sub (M:=[]) O).trans ((aq.sub (M:=[]) O).trans ((au.sub (M:=[]) O).trans (av.sub (M:=[]) O))))⟩,?_⟩
   refine Mw.p O O (fun _=>zte (xs:=bk) aw.rd O) (Mw.nil (Cw.block ?_))
   obtain⟨cw,cx,Y⟩:=zaT Y
   refine Cw.loop 59 84 [10,12,13,59] (fun m l w=> ∃ S U a bm bn y,CW.w y=w/\Le [7] bl y/\l=[a,bm,bn,vI U]/\Ow y 6 [] [a] S/\Vm.za4 x1 x2 bk cw m S U=some r) _ ⟨([]:List Str),0, .slice none 0 0,undef,undef,bl,O,Le.refl _ _,O,owN 6 [],Y⟩ ?_
   rintro(_ |eb) _ _ σ ⟨S,U,a,bm,bn,y,rfl,z,rfl,bp,Y⟩
   ·cases Y
   unfold Vm.za4 at Y
   have V:=cv.t z
   refine sr (Lw.lt O (nl (Cw.seq (cn Y (fun Y=>?_) fun Y=>?_))))
   ·refine sk ?_
    obtain⟨cy,cz,Y⟩:=zaT Y
    refine Cw.join 61 83 [10,12,13] (fun l w=> ∃ W X ax ay A,CW.w A=w/\Le [7] y A/\l=[X,ax,ay]/\Ow A 6 [] [X] W/\cy W=some r) ?_ ?_
    ·rintro _ _ σ ⟨W,X,ax,ay,A,rfl,c0,rfl,c1,Y⟩
     rw[cz]at Y
     exact rg (Lw.add O (mi O (nl ((agm) ⟨W,w64 (U+1),X,ax,ay,A,O,(z.j c0).w,O,c1,Y⟩))))
    ·refine Cw.block (sr ?_)
     obtain⟨bq,br,Y⟩:=ob Y
     refine Lw.r O (R.ix (α:=Str) (aw.up z).rd br O O O) (Lw.r O (R.ld O O ((aw.up z).rd.at_ br).str) (Ns O (sr (mv J O (ms O (ca Y (fun _=>p72 (h1.ul V) (L.ul V)) fun bu az Y B=>?_))))))
     have c2:=V.n B
     have bv:=((((((((ak.up N).up an).up ao).up P).up aq).up au).up av).up z).up B
     refine Ns O ?_
     obtain⟨c3,c4,Y⟩:=zaT Y
     refine Cw.join 66 80 [80] (fun l w=> ∃ a0 Z,CW.w Z=w/\Le [] az Z/\l=[vB a0]/\c3 a0=some r) ?_ ?_
     ·rintro _ _ σ ⟨a0,Z,rfl,a1,rfl,Y⟩
      rw[c4]at Y
      have bw:=(bp.up B).up a1
      refine cn Y (fun Y=>?_) fun Y=>?_
      ·refine rg (mv a O (ms O (cr Y (fun _=>p74 (K:=[6]) (k0:=7) bw.rd) ?_)))
       rintro c5 bz ec Y c6 ⟨_,rfl,c7⟩
       refine Nv bz O ?_
       obtain⟨c8,c9,da,db⟩:=c7.dyeO 6
       exact(ag) ⟨c5,bz,vS bq,vS bu,c8,c9,(((B.j a1).j c6).j da).w,O,db,Y⟩
      ·exact sk ((ag) ⟨S,a,vS bq,vS bu,Z,O,(B.j a1).w,O,bw,Y⟩)
     ·refine rg (ms O (Lw.sne O (mb O (bs Y (fun C Y=>?_) fun C Y=>?_))))
      ·refine wak 4 C (ms O (fl bv O (Lw.sne O (Pb C O (mb O (bs Y (fun D Y=>?_) fun D Y=>?_))))))
       ·exact wak 5 D (fl bv O (ms O (ca Y (fun _=>p73 (be.ul c2)) fun dc dd Y de=>Lw.r O (R.not O) (Pb D O (nl ((ag) ⟨(!dc),dd,O,de,O,Y⟩))))))
       ·exact psk 5 D O (Pb D O (nl ((ag) ⟨false,az,O,Le.refl _ _,O,Y⟩)))
      ·exact psk 4 C O (Pb C O (mb O (psk 5 O O (Pb O O (nl ((ag) ⟨false,az,O,Le.refl _ _,O,Y⟩))))))
   ·refine Cw.exit ?_
    rw[cx]at Y
    refine sr (mv a O (Gv a O (Nb O ?_)))
    cases Y
    exact Cw.ret (zow O O (Res.mk V ⟨a,O,bp.s.sub O O⟩))
 ·refine rg (la b5 (ca Y (fun _=>p42 (Repo.rd (K:=[0]) x0.Commits x0.Heads (d.ul x) (e.ul x)) (L.ul x)) fun ed df Y b=>?_))
  have a3:=x.n b
  refine Lw.r O (R.not O) (mb O (bs Y (fun E Y=>?_) fun E Y=>?_))
  ·exact psk 3 E O (Pb E O (mb O (psk 3 O O (Pb O O (mb O (psk 5 O O (Pb O O (mb O (psk 5 O O (Pb O O (nl ((ag) ⟨true,df,O,b,O,Y⟩))))))))))))
  ·refine wak 3 E (mv J O (ca Y (fun _=>p66 (h1.ul a3) (L.ul a3)) fun ee dg Y f=>?_))
   have b0:=a3.n f
   have a5:=(b3.up b).up f
   refine Lw.r O (R.not O) (Pb E O (mb O (bs Y (fun F Y=>?_) fun F Y=>?_)))
   ·exact psk 3 F O (Pb F O (mb O (psk 5 O O (Pb O O (mb O (psk 5 O O (Pb O O (nl ((ag) ⟨true,dg,O,(b.j f).w,O,Y⟩)))))))))
   ·refine wak 3 F (la a5 (ca Y (fun _=>p67 (Review.rd (K:=[0]) x2.Branch x2.Into x2.By x2.Yes (be.ul b0))) fun ef dh Y h=>?_))
    have a6:=b0.n h
    have b2:=((b5.up b).up f).up h
    refine Lw.r O (R.not O) (Pb F O (mb O (bs Y (fun G Y=>?_) fun G Y=>?_)))
    ·exact psk 5 G O (Pb G O (mb O (psk 5 O O (Pb O O (nl ((ag) ⟨true,dh,O,((b.j f).j h).w,O,Y⟩))))))
    ·refine wak 5 G (la b2 (fl (a5.up h) O (ca Y (fun _=>p45 (Repo.rd (K:=[0]) x0.Commits x0.Heads (d.ul a6) (e.ul a6))) fun eg di Y H=>?_)))
     have b4:=a6.n H
     refine Lw.lt O (Pb G O (mb O (bs Y (fun I Y=>?_) fun I Y=>?_)))
     ·exact psk 5 I O (Pb I O (nl ((ag) ⟨true,di,O,(((b.j f).j h).j H).w,O,Y⟩)))
     ·exact wak 5 I (la (b2.up H) (fl ((a5.up h).up H) O (ca Y (fun _=>p45 (Repo.rd (K:=[0]) x0.Commits x0.Heads (d.ul b4) (e.ul b4))) fun dj dk Y dl=>Lw.lt O (Pb I O (nl ((ag) ⟨decide (dj< (0:Int)),dk,O,((((b.j f).j h).j H).j dl).w,O,Y⟩))))))
theorem p27 {x0 b d x1 f x2 h k0 r}(i:Rd W K [b,d] x0)(k:Rd W K [f] x1)(x:Rd W K [vS x2.Branch,vS x2.Into,vS x2.By,h] x2)(y:Gl 0 W K)(Y:Vm.zbK x0 x1 x2=some r):Q1 27 [.agg [b,d].toArray,f, .agg [vS x2.Branch,vS x2.Into,vS x2.By,h].toArray] W [] fun W' v=> ∃ a,v = .tuple [a,vB r.2].toArray/\Ow W' k0 [] [a] r.1:=
 (c27 (i.view _) (k.view _) (x.view _) (y.view _) Y).ad (fk k0) fun _ _ ⟨a,e,z⟩=>⟨a,e,z.back (zgC _)⟩
end Go.Sx
