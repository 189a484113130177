/- Walks: each function answers as its model, printed by a program of ours. Conditions: the arguments read as they are given. -/
import Derived.Test.YtiahldhbknpmiaaGreatDoorATs
import Derived.Test.YtiahldhbknpmiaaGreatDoorAM2
namespace Go.Sx
open Go Go.Proofs Go.Vm Rp
set_option linter.unusedVariables false
set_option linter.unusedSimpArgs false
variable {W W0:CW}{K:List Nat}
theorem c138 {x0 S U x1 r}(h0:Rd W0 [0] [S,U] x0)(Y:Vm.zfu x0 x1=some r):Q0 138 [.agg [S,U].toArray,vI x1] W0 fun Wf v=> ∃ V,v=V/\OwS Wf LL [] [V] r:=by
 unfold Vm.zfu at Y
 obtain⟨cc,cd,W,k,ce⟩:=Repo.split h0
 simp only[List.cons.injEq,and_true,true_and]at W
 obtain⟨rfl,rfl⟩:=W
 refine zaz.of Tryz.func138 O O O O (sr (bo 2 O fun g1 W1 l1 X=>?_))
 have Z:=l1.o
 refine Nv (.slice none 0 0) O (sr (fl X O (Lw.ln x0.Commits (k.ul Z) O ?_)))
 obtain⟨q4,e5,Y⟩:=ob Y
 refine Lw.t O (T.mk (α:=Bool) 3 [] (n:=(x0.Commits.length:Int)) O O e5) ?_
 rintro a _ ⟨W6,rfl,l6,o6⟩
 have a7:=Z.n l6
 refine Nv a O (sr (mv a O (mi O ?_)))
 obtain⟨u9,a4,Y⟩:=ob Y
 refine Lw.r O (R.ix (α:=Bool) o6.rd a4 O O O) ?_
 obtain⟨a5,a6,Y⟩:=ob Y
 refine Lw.u (T.stS (K':=[]) o6 (rdB _) a6 O O O) ?_
 rintro _ _ ⟨ae,rfl,af,a8⟩
 have a9:=a7.t af
 refine nl (ssr (mi O (Ni O (Cw.block ?_))))
 obtain⟨ba,bb,Y⟩:=zbM Y
 refine Cw.loop 18 49 [6,7] (fun m l w=> ∃ x e ah f,CW.w f=w/\Le [3] ae f/\l=[vI x,ah]/\Ow f 3 [] [a] e/\Vm.zcV x0 ba m x e=some r) _ ⟨x1,a5,undef,ae,O,Le.refl _ _,O,a8,Y⟩ ?_
 rintro(_ |ck) _ _ σ ⟨x,e,ah,f,rfl,I,rfl,ai,Y⟩
 ·cases Y
 unfold Vm.zcV at Y
 have aj:=a9.t I
 refine ssr (mi O (Lw.ge O (nl (cn Y (fun Y=>?_) fun Y=>?_))))
 ·refine sk (Cw.seq (Cw.block (sr (Ni O (Cw.block ?_)))))
  obtain⟨bc,be,Y⟩:=zbM Y
  refine Cw.loop 22 49 [7] (fun m l w=> ∃ y C d,CW.w d=w/\Le [3] f d/\l=[vI y]/\Ow d 3 [] [a] C/\Vm.zdP x0 x bc m y C=some r) _ ⟨0,e,f,O,Le.refl _ _,O,ai,Y⟩ ?_
  rintro(_ |cl) _ _ σ ⟨y,C,d,rfl,D,rfl,J,Y⟩
  ·cases Y
  unfold Vm.zdP at Y
  have K:=aj.t D
  have ak:=(((X.up l6).up af).up I).up D
  refine Cw.seq ?_
  obtain⟨bg,bh,Y⟩:=zbM Y
  refine Cw.join 22 36 [36] (fun l w=> ∃ L E,CW.w E=w/\Le [] d E/\l=[vB L]/\bg L=some r) ?_ ?_
  ·rintro _ _ σ ⟨L,E,rfl,z,rfl,Y⟩
   rw[bh]at Y
   have am:=K.n z
   have M:=J.up z
   refine cn Y (fun Y=>?_) fun Y=>?_
   ·refine sk (Cw.seq (Cw.block (rg (mv a O (fl (ak.up z) O (mi O ?_))))))
    obtain⟨cm,an,Y⟩:=ob Y
    refine Lw.r O (R.ix (α:=Commit) (k.ul am) an O O O) (Lw.fa O ?_)
    obtain⟨co,c45,r46⟩:=(Commit.at0 ((k.ul am).at_ an)).cell O
    refine Lw.r O (R.ld O O c45) (mi O ?_)
    obtain⟨cp,ao,Y⟩:=ob Y
    refine Lw.r O (R.ix (α:=Int) r46 ao O O O) (Lw.r O (R.ld O O (r46.at_ ao).int) ?_)
    obtain⟨cq,bi,Y⟩:=ob Y
    refine Lw.r O (R.ix (α:=Bool) M.rd bi O O O) ?_
    obtain⟨bj,bk,Y⟩:=ob Y
    refine Lw.u (T.stS (K':=[]) M (rdB _) bk O O O) ?_
    rintro _ _ ⟨bl,rfl,bm,bn⟩
    exact nl (rg (mi O (Lw.add O (Ni O ((agm) ⟨w64 (y+1),bj,bl,O,((D.j z).j bm).w,O,bn,Y⟩)))))
   ·refine Cw.exit ?_
    rw[be]at Y
    exact rg (mi O (Lw.sub O (Ni O ((agm) ⟨w64 (x-1),C,vI y,E,O,((I.j D).j z).w,O,M,Y⟩))))
  ·refine rg (mi O (fl ak O (mi O ?_)))
   obtain⟨bp,ap,Y⟩:=ob Y
   refine Lw.r O (R.ix (α:=Commit) (k.ul K) ap O O O) (Lw.fa O ?_)
   obtain⟨ct,c60,r61⟩:=(Commit.at0 ((k.ul K).at_ ap)).cell O
   refine Lw.r O (R.ld O O c60) (Lw.ln bp.Parents r61 O (Lw.lt O (mb O (bs Y (fun A Y=>?_) fun A Y=>?_))))
   ·refine wak 4 A (mv a O (mi O ?_))
    obtain⟨bq,aq,Y⟩:=ob Y
    exact Lw.r O (R.ix (α:=Bool) J.rd aq O O O) (Lw.r O (R.ld O O (J.rd.at_ aq).bool) (Pb A O (nl ((ag) ⟨bq,d,O,Le.refl _ _,O,Y⟩))))
   ·exact psk 4 A O (Pb A O (nl ((ag) ⟨false,d,O,Le.refl _ _,O,Y⟩)))
 ·refine Cw.exit ?_
  rw[bb]at Y
  refine sr (Lw.t O (T.lit0 (α:=Int) 4 []) ?_)
  rintro ar _ ⟨au,rfl,av,br⟩
  have bu:=aj.n av
  refine Nv ar O (ssr (Ni O (Cw.block ?_)))
  obtain⟨bv,bw,Y⟩:=zbM Y
  refine Cw.loop 51 64 [8,9] (fun m l w=> ∃ F h b i,CW.w i=w/\Le [4] au i/\l=[b,vI h]/\Ow i 4 [] [b] F/\Vm.zcU e bv m F h=some r) _ ⟨([]:List Int),0,ar,au,O,Le.refl _ _,O,br,Y⟩ ?_
  rintro(_ |cu) _ _ σ ⟨F,h,b,i,rfl,N,rfl,P,Y⟩
  ·cases Y
  unfold Vm.zcU at Y
  have bz:=bu.t N
  have Q:=(ai.up av).up N
  refine ssr (mi O (mv a O (Lw.ln e Q.rd O (Lw.lt O (nl (cn Y (fun Y=>?_) fun Y=>?_))))))
  ·refine sk ?_
   obtain⟨b0,b2,Y⟩:=zbM Y
   refine Cw.join 57 64 [8] (fun l w=> ∃ G H B,CW.w B=w/\Le [4] i B/\l=[H]/\Ow B 4 [] [H] G/\b0 G=some r) ?_ ?_
   ·rintro _ _ σ ⟨G,H,B,rfl,b3,rfl,b4,Y⟩
    rw[b2]at Y
    exact rg (mi O (Lw.add O (Ni O ((agm) ⟨G,w64 (h+1),H,B,O,(N.j b3).w,O,b4,Y⟩))))
   ·refine Cw.block (sr (mv a O (mi O ?_)))
    obtain⟨cv,aw,Y⟩:=ob Y
    refine Lw.r O (R.ix (α:=Bool) Q.rd aw O O O) (Lw.r O (R.ld O O (Q.rd.at_ aw).bool) (nl (cn Y (fun Y=>?_) fun Y=>?_)))
    ·refine rg (mv b O (mi O (Lw.t O (T.bs 5 [vI h] (cs:=[vI h]) O O (bsv O)) ?_)))
     rintro _ _ ⟨cw,cx,rfl,rfl,ax,b5⟩
     obtain⟨b6,b7,Y⟩:=ob Y
     refine Lw.t O (T.app1S (α:=Int) (K':=[]) (P.up ax) b5 (rdI _) O O b7) ?_
     rintro ay _ ⟨b8,rfl,b9,cb⟩
     exact Nv ay O ((ag) ⟨b6,ay,b8,O,(ax.j b9).w,O,cb,Y⟩)
    ·exact sk ((ag) ⟨F,b,i,O,Le.refl _ _,O,P,Y⟩)
  ·refine Cw.exit ?_
   rw[bw]at Y
   refine sr (mv b O (Nv b O ?_))
   cases Y
   exact Cw.ret (zkN O (Res.mk bz ⟨b,O,P.s.sub O O⟩))
theorem p138 {x0 b d x1 k0 r}(f:Rd W K [b,d] x0)(Y:Vm.zfu x0 x1=some r):Q1 138 [.agg [b,d].toArray,vI x1] W [] fun W' v=> ∃ a,v=a/\Ow W' k0 [] [a] r:=
 (c138 (f.view _) Y).ad (fk k0) fun _ _ ⟨a,e,h⟩=>⟨a,e,h.back (ziQ _)⟩
theorem c154 {x0 a x1 r}(x:Rd W0 [0] [a] x0)(Y:Vm.zgm x0 x1=some r):Q0 154 [a,vI x1] W0 fun Wf v=>v=vB r:=by
 unfold Vm.zgm at Y
 refine zaz.of Tryz.func154 O O O O (sr (Nb O (ssr (Ni O (Cw.block ?_)))))
 obtain⟨y,z,Y⟩:=zbM Y
 refine Cw.loop 6 17 [4,5] (fun m l w=> ∃ b d e,CW.w e=w/\Le [] W0 e/\l=[vB b,vI d]/\Vm.zdQ x0 x1 y m b d=some r) _ ⟨false,0,W0,O,Le.refl _ _,O,Y⟩ ?_
 rintro(_ |A) _ _ σ ⟨b,d,e,rfl,i,rfl,Y⟩
 ·cases Y
 unfold Vm.zdQ at Y
 have f:=i.o
 refine ssr ?_
 have h:=x.ul f
 refine mi O (mv a O (Lw.ln x0 h O (Lw.lt O (nl (cn Y (fun Y=>?_) fun Y=>?_)))))
 ·refine sk (Cw.seq (Cw.block (sr (mv a O (mi O ?_)))))
  obtain⟨B,k,Y⟩:=ob Y
  refine Lw.r O (R.ix (α:=Int) h k O O O) (Lw.r O (R.ld O O (h.at_ k).int) (mi O (Lw.eq O (nl (cn Y (fun Y=>?_) fun Y=>?_)))))
  ·exact sr (Nb O (.ret (rt Y f)))
  ·exact sk (rg (mi O (Lw.add O (Ni O ((agm) ⟨b,w64 (d+1),e,O,i,O,Y⟩)))))
 ·refine Cw.exit ?_
  rw[z]at Y
  exact sr (Nb O (.ret (rt Y f)))
theorem p154 {x0 a x1 r}(b:Rd W K [a] x0)(Y:Vm.zgm x0 x1=some r):Q1 154 [a,vI x1] W [] fun W' v=>v=vB r:=
 (c154 (b.view _) Y).ad (fk 0) fun _ _ e=>e
theorem c126 {x0 H I x1 r}(h0:Rd W0 [0] [H,I] x0)(Y:Vm.za2 x0 x1=some r):Q0 126 [.agg [H,I].toArray,vI x1] W0 fun Wf v=> ∃ J,v=J/\OwS Wf LL [] [J] r:=by
 unfold Vm.za2 at Y
 obtain⟨a3,a4,K,A,a5⟩:=Repo.split h0
 simp only[List.cons.injEq,and_true,true_and]at K
 obtain⟨rfl,rfl⟩:=K
 refine zaz.of Tryz.func126 O O O O (sr (bo 2 O fun g1 W1 l1 L=>?_))
 have M:=l1.o
 refine Nv (.slice none 0 0) O (sr (fl L O (Lw.ln x0.Commits (A.ul M) O ?_)))
 obtain⟨q4,e5,Y⟩:=ob Y
 refine Lw.t O (T.mk (α:=Bool) 3 [] (n:=(x0.Commits.length:Int)) O O e5) ?_
 rintro a _ ⟨W6,rfl,N,P⟩
 have a7:=M.n N
 refine Nv a O (sr (mv a O (mi O ?_)))
 obtain⟨u9,ai,Y⟩:=ob Y
 refine Lw.r O (R.ix (α:=Bool) P.rd ai O O O) ?_
 obtain⟨aj,ak,Y⟩:=ob Y
 refine Lw.u (T.stS (K':=[]) P (rdB _) ak O O O) ?_
 rintro _ _ ⟨Q,rfl,S,am⟩
 have an:=a7.t S
 refine nl (ssr (mi O (Ni O (Cw.block ?_))))
 obtain⟨ao,ap,Y⟩:=zbM Y
 refine Cw.loop 17 39 [6,8] (fun m l w=> ∃ i d k b,CW.w b=w/\Le [3] Q b/\l=[vI i,k]/\Ow b 3 [] [a] d/\Vm.zaT x0 ao m i d=some r) _ ⟨x1,aj,undef,Q,O,Le.refl _ _,O,am,Y⟩ ?_
 rintro(_ |bc) _ _ σ ⟨i,d,k,b,rfl,B,rfl,e,Y⟩
 ·cases Y
 unfold Vm.zaT at Y
 have C:=an.t B
 refine ssr (mi O (Lw.ge O (nl (cn Y (fun Y=>?_) fun Y=>?_))))
 ·refine sk ?_
  obtain⟨U,aq,Y⟩:=zbM Y
  refine Cw.join 21 39 [8] (fun l w=> ∃ x D f,CW.w f=w/\Le [3] b f/\l=[D]/\Ow f 3 [] [a] x/\U x=some r) ?_ ?_
  ·rintro _ _ σ ⟨x,D,f,rfl,ar,rfl,au,Y⟩
   rw[aq]at Y
   exact rg (mi O (Lw.sub O (Ni O ((agm) ⟨w64 (i-1),x,D,f,O,(B.j ar).w,O,au,Y⟩))))
  ·refine Cw.block (sr (mv a O (mi O ?_)))
   obtain⟨be,V,Y⟩:=ob Y
   refine Lw.r O (R.ix (α:=Bool) e.rd V O O O) (Lw.r O (R.ld O O (e.rd.at_ V).bool) (nl (cn Y (fun Y=>?_) fun Y=>?_)))
   ·refine sr (fl (((L.up N).up S).up B) O (mi O ?_))
    obtain⟨W,X,Y⟩:=ob Y
    refine Lw.r O (R.ix (α:=Commit) (A.ul C) X O O O) (Lw.fa O ?_)
    obtain⟨bg,c40,r41⟩:=(Commit.at0 ((A.ul C).at_ X)).cell O
    refine Lw.r O (R.ld O O c40) (Lw.ln W.Parents r41 O (mi O (nl (Cw.block (Cw.loop 32 39 [8,32] (fun m l w=> ∃ y z E h,CW.w h=w/\Le [3] b h/\l=[E,vI y]/\Ow h 3 [] [a] z/\Vm.zbg U W m y z=some r) _ ⟨0,d,k,b,O,Le.refl _ _,O,e,Y⟩ ?_)))))
    rintro(_ |bh) _ _ σ ⟨y,z,E,h,rfl,F,rfl,G,Y⟩
    ·cases Y
    unfold Vm.zbg at Y
    have Z:=F.s
    refine sr (Lw.lt O (nl (Cw.seq (cn Y (fun Y=>?_) fun Y=>?_))))
    ·refine sk (Cw.seq (Cw.block (sr ?_)))
     obtain⟨av,aa,Y⟩:=ob Y
     refine Lw.r O (R.ix (α:=Int) (r41.ul Z) aa O O O) (Lw.r O (R.ld O O ((r41.ul Z).at_ aa).int) (Ni O (rg (mv a O (mi O ?_)))))
     obtain⟨bi,aw,Y⟩:=ob Y
     refine Lw.r O (R.ix (α:=Bool) G.rd aw O O O) ?_
     obtain⟨ax,ay,Y⟩:=ob Y
     refine Lw.u (T.stS (K':=[]) G (rdB _) ay O O O) ?_
     rintro _ _ ⟨az,rfl,a0,a1⟩
     exact nl (rg (Lw.add O (mi O (nl ((agm) ⟨w64 (y+1),ax,vI av,az,O,(F.j a0).w,O,a1,Y⟩)))))
    ·exact Cw.exit ((ag) ⟨z,E,h,O,F,O,G,Y⟩)
   ·exact sk ((ag) ⟨d,k,b,O,Le.refl _ _,O,e,Y⟩)
 ·refine Cw.exit ?_
  rw[ap]at Y
  refine sr (mv a O (Nv a O ?_))
  cases Y
  exact Cw.ret (zkN O (Res.mk C ⟨a,O,e.s.sub O O⟩))
theorem p126 {x0 b d x1 k0 r}(f:Rd W K [b,d] x0)(Y:Vm.za2 x0 x1=some r):Q1 126 [.agg [b,d].toArray,vI x1] W [] fun W' v=> ∃ a,v=a/\Ow W' k0 [] [a] r:=
 (c126 (f.view _) Y).ad (fk k0) fun _ _ ⟨a,e,h⟩=>⟨a,e,h.back (ziQ _)⟩
theorem c134 {x0 k r}(x:Rd W0 [0] [k] x0)(Y:Vm.zbL x0=some r):Q0 134 [k] W0 fun Wf v=> ∃ C,v=C/\OwS Wf LL [] [C] r:=by
 unfold Vm.zbL at Y
 refine zaz.of Tryz.func134 O O O O (sr (Nv (.slice none 0 0) O (sr (Nv (.slice none 0 0) O (ssr (mv k O (Lw.ln x0 x O (mi O (nl (Cw.block ?_))))))))))
 obtain⟨K,L,Y⟩:=zbM Y
 refine Cw.loop 8 18 [3,4,5,8] (fun m l w=> ∃ f a b D E d,CW.w d=w/\Le [2] W0 d/\l=[b,D,E,vI a]/\Ow d 2 [] [b] f/\Vm.zdl x0 K m f a=some r) _ ⟨([]:List Int),0, .slice none 0 0,undef,undef,W0,O,Le.refl _ _,O,owN 2 [],Y⟩ ?_
 rintro(_ |m9) _ _ σ ⟨f,a,b,D,E,d,rfl,F,rfl,y,Y⟩
 ·cases Y
 unfold Vm.zdl at Y
 have z:=F.s
 refine sr (Lw.lt O (nl (Cw.seq (cn Y (fun Y=>?_) fun Y=>?_))))
 ·refine sk ?_
  obtain⟨M,N,Y⟩:=zbM Y
  refine Cw.join 10 17 [3,4,5] (fun l w=> ∃ h i A B e,CW.w e=w/\Le [2] d e/\l=[i,A,B]/\Ow e 2 [] [i] h/\M h=some r) ?_ ?_
  ·rintro _ _ σ ⟨h,i,A,B,e,rfl,P,rfl,Q,Y⟩
   rw[N]at Y
   exact rg (Lw.add O (mi O (nl ((agm) ⟨h,w64 (a+1),i,A,B,e,O,(F.j P).w,O,Q,Y⟩))))
  ·refine Cw.block (sr (mi O ?_))
   obtain⟨G,H,Y⟩:=ob Y
   refine Lw.r O (R.ix (α:=Bool) (x.ul z) H O O O) (Lw.r O (R.ld O O ((x.ul z).at_ H).bool) (Gi O (Nb O (sr (mb O (nl (cn Y (fun Y=>?_) fun Y=>?_)))))))
   ·refine rg (mv b O (mi O (Lw.t O (T.bs 3 [vI a] (cs:=[vI a]) O O (bsv O)) ?_)))
    rintro _ _ ⟨ac,ae,rfl,rfl,I,S⟩
    obtain⟨U,V,Y⟩:=ob Y
    refine Lw.t O (T.app1S (α:=Int) (K':=[]) (y.up I) S (rdI _) O O V) ?_
    rintro J _ ⟨W,rfl,X,Z⟩
    exact Nv J O ((ag) ⟨U,J,vI a,vB G,W,O,(I.j X).w,O,Z,Y⟩)
   ·exact sk ((ag) ⟨f,b,vI a,vB G,d,O,Le.refl _ _,O,y,Y⟩)
 ·refine Cw.exit ?_
  rw[L]at Y
  refine sr (mv b O (Nv b O ?_))
  cases Y
  exact Cw.ret (zkN O (Res.mk z ⟨b,O,y.s.sub O O⟩))
theorem p134 {x0 b k0 r}(d:Rd W K [b] x0)(Y:Vm.zbL x0=some r):Q1 134 [b] W [] fun W' v=> ∃ a,v=a/\Ow W' k0 [] [a] r:=
 (c134 (d.view _) Y).ad (fk k0) fun _ _ ⟨a,e,f⟩=>⟨a,e,f.back (ziQ _)⟩
end Go.Sx
