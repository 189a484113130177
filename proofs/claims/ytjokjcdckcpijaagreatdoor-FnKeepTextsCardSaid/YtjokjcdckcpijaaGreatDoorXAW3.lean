/- Walks: each function answers as its model, printed by a program of ours. Conditions: the arguments read as they are given. -/
import Derived.Test.YtjokjcdckcpijaaGreatDoorXATs
import Derived.Test.YtjokjcdckcpijaaGreatDoorXAM0
namespace Go.Sx
open Go Go.Proofs Go.Vm Rp
set_option linter.unusedVariables false
set_option linter.unusedSimpArgs false
variable {W W0:CW}{K:List Nat}
theorem c87 {x0 S U x1 r}(h0:Rd W0 [0] [S,U] x0)(Y:Vm.zdi x0 x1=some r):Q0 87 [.agg [S,U].toArray,vI x1] W0 fun Wf v=> ∃ V,v=V/\OwS Wf LL [] [V] r:=by
 unfold Vm.zdi at Y
 obtain⟨cc,cd,W,k,ce⟩:=Repo.split h0
 simp only[List.cons.injEq,and_true,true_and]at W
 obtain⟨rfl,rfl⟩:=W
 refine zap.of Tryz.func87 O O O O (sr (bo 2 O fun g1 W1 l1 X=>?_))
 have Z:=l1.o
 refine Nv (.slice none 0 0) O (sr (fl X O (Lw.ln x0.Commits (k.ul Z) O ?_)))
 obtain⟨q4,e5,Y⟩:=ob Y
 refine Lw.t O (T.mk (α:=Bool) 3 [] (n:=(x0.Commits.length:Int)) O O e5) ?_
 rintro a _ ⟨W6,rfl,l6,o6⟩
 have a7:=Z.n l6
 refine Nv a O (sr (mv a O (mi O ?_)))
 obtain⟨u9,a4,Y⟩:=ob Y
 refine Lw.r O (R.ix (α:=Bool) o6.rd a4 O O O) ?_
 obtain⟨a5,a6,Y⟩:=ob Y
 refine Lw.u (T.stS (K':=[]) o6 (rdB _) a6 O O O) ?_
 rintro _ _ ⟨ae,rfl,af,a8⟩
 have a9:=a7.t af
 refine nl (ssr (mi O (Ni O (Cw.block ?_))))
 obtain⟨ba,bb,Y⟩:=za1 Y
 refine Cw.loop 18 49 [6,7] (fun m l w=> ∃ x e ah f,CW.w f=w/\Le [3] ae f/\l=[vI x,ah]/\Ow f 3 [] [a] e/\Vm.zbJ x0 ba m x e=some r) _ ⟨x1,a5,undef,ae,O,Le.refl _ _,O,a8,Y⟩ ?_
 rintro(_ |ck) _ _ σ ⟨x,e,ah,f,rfl,I,rfl,ai,Y⟩
 ·cases Y
 unfold Vm.zbJ at Y
 have aj:=a9.t I
 refine ssr (mi O (Lw.ge O (nl (cn Y (fun Y=>?_) fun Y=>?_))))
 ·refine sk (Cw.seq (Cw.block (sr (Ni O (Cw.block ?_)))))
  obtain⟨bc,be,Y⟩:=za1 Y
  refine Cw.loop 22 49 [7] (fun m l w=> ∃ y C d,CW.w d=w/\Le [3] f d/\l=[vI y]/\Ow d 3 [] [a] C/\Vm.zcy x0 x bc m y C=some r) _ ⟨0,e,f,O,Le.refl _ _,O,ai,Y⟩ ?_
  rintro(_ |cl) _ _ σ ⟨y,C,d,rfl,D,rfl,J,Y⟩
  ·cases Y
  unfold Vm.zcy at Y
  have K:=aj.t D
  have ak:=(((X.up l6).up af).up I).up D
  refine Cw.seq ?_
  obtain⟨bg,bh,Y⟩:=za1 Y
  refine Cw.join 22 36 [36] (fun l w=> ∃ L E,CW.w E=w/\Le [] d E/\l=[vB L]/\bg L=some r) ?_ ?_
  ·rintro _ _ σ ⟨L,E,rfl,z,rfl,Y⟩
   rw[bh]at Y
   have am:=K.n z
   have M:=J.up z
   refine cn Y (fun Y=>?_) fun Y=>?_
   ·refine sk (Cw.seq (Cw.block (rg (mv a O (fl (ak.up z) O (mi O ?_))))))
    obtain⟨cm,an,Y⟩:=ob Y
    refine Lw.r O (R.ix (α:=Commit) (k.ul am) an O O O) (Lw.fa O ?_)
    obtain⟨co,c45,r46⟩:=(Commit.at0 ((k.ul am).at_ an)).cell O
    refine Lw.r O (R.ld O O c45) (mi O ?_)
    obtain⟨cp,ao,Y⟩:=ob Y
    refine Lw.r O (R.ix (α:=Int) r46 ao O O O) (Lw.r O (R.ld O O (r46.at_ ao).int) ?_)
    obtain⟨cq,bi,Y⟩:=ob Y
    refine Lw.r O (R.ix (α:=Bool) M.rd bi O O O) ?_
    obtain⟨bj,bk,Y⟩:=ob Y
    refine Lw.u (T.stS (K':=[]) M (rdB _) bk O O O) ?_
    rintro _ _ ⟨bl,rfl,bm,bn⟩
    exact nl (rg (mi O (Lw.add O (Ni O ((agm) ⟨w64 (y+1),bj,bl,O,((D.j z).j bm).w,O,bn,Y⟩)))))
   ·refine Cw.exit ?_
    rw[be]at Y
    exact rg (mi O (Lw.sub O (Ni O ((agm) ⟨w64 (x-1),C,vI y,E,O,((I.j D).j z).w,O,M,Y⟩))))
  ·refine rg (mi O (fl ak O (mi O ?_)))
   obtain⟨bp,ap,Y⟩:=ob Y
   refine Lw.r O (R.ix (α:=Commit) (k.ul K) ap O O O) (Lw.fa O ?_)
   obtain⟨ct,c60,r61⟩:=(Commit.at0 ((k.ul K).at_ ap)).cell O
   refine Lw.r O (R.ld O O c60) (Lw.ln bp.Parents r61 O (Lw.lt O (mb O (bs Y (fun A Y=>?_) fun A Y=>?_))))
   ·refine wak 4 A (mv a O (mi O ?_))
    obtain⟨bq,aq,Y⟩:=ob Y
    exact Lw.r O (R.ix (α:=Bool) J.rd aq O O O) (Lw.r O (R.ld O O (J.rd.at_ aq).bool) (Pb A O (nl ((ag) ⟨bq,d,O,Le.refl _ _,O,Y⟩))))
   ·exact psk 4 A O (Pb A O (nl ((ag) ⟨false,d,O,Le.refl _ _,O,Y⟩)))
 ·refine Cw.exit ?_
  rw[bb]at Y
  refine sr (Lw.t O (T.lit0 (α:=Int) 4 []) ?_)
  rintro ar _ ⟨au,rfl,av,br⟩
  have bu:=aj.n av
  refine Nv ar O (ssr (Ni O (Cw.block ?_)))
  obtain⟨bv,bw,Y⟩:=za1 Y
  refine Cw.loop 51 64 [8,9] (fun m l w=> ∃ F h b i,CW.w i=w/\Le [4] au i/\l=[b,vI h]/\Ow i 4 [] [b] F/\Vm.zbI e bv m F h=some r) _ ⟨([]:List Int),0,ar,au,O,Le.refl _ _,O,br,Y⟩ ?_
  rintro(_ |cu) _ _ σ ⟨F,h,b,i,rfl,N,rfl,P,Y⟩
  ·cases Y
  unfold Vm.zbI at Y
  have bz:=bu.t N
  have Q:=(ai.up av).up N
  refine ssr (mi O (mv a O (Lw.ln e Q.rd O (Lw.lt O (nl (cn Y (fun Y=>?_) fun Y=>?_))))))
  ·refine sk ?_
   obtain⟨b0,b2,Y⟩:=za1 Y
   refine Cw.join 57 64 [8] (fun l w=> ∃ G H B,CW.w B=w/\Le [4] i B/\l=[H]/\Ow B 4 [] [H] G/\b0 G=some r) ?_ ?_
   ·rintro _ _ σ ⟨G,H,B,rfl,b3,rfl,b4,Y⟩
    rw[b2]at Y
    exact rg (mi O (Lw.add O (Ni O ((agm) ⟨G,w64 (h+1),H,B,O,(N.j b3).w,O,b4,Y⟩))))
   ·refine Cw.block (sr (mv a O (mi O ?_)))
    obtain⟨cv,aw,Y⟩:=ob Y
    refine Lw.r O (R.ix (α:=Bool) Q.rd aw O O O) (Lw.r O (R.ld O O (Q.rd.at_ aw).bool) (nl (cn Y (fun Y=>?_) fun Y=>?_)))
    ·refine rg (mv b O (mi O (Lw.t O (T.bs 5 [vI h] (cs:=[vI h]) O O (bsv O)) ?_)))
     rintro _ _ ⟨cw,cx,rfl,rfl,ax,b5⟩
     obtain⟨b6,b7,Y⟩:=ob Y
     refine Lw.t O (T.app1S (α:=Int) (K':=[]) (P.up ax) b5 (rdI _) O O b7) ?_
     rintro ay _ ⟨b8,rfl,b9,cb⟩
     exact Nv ay O ((ag) ⟨b6,ay,b8,O,(ax.j b9).w,O,cb,Y⟩)
    ·exact sk ((ag) ⟨F,b,i,O,Le.refl _ _,O,P,Y⟩)
  ·refine Cw.exit ?_
   rw[bw]at Y
   refine sr (mv b O (Nv b O ?_))
   cases Y
   exact Cw.ret (zhg O (Res.mk bz ⟨b,O,P.s.sub O O⟩))
theorem p87 {x0 b d x1 k0 r}(f:Rd W K [b,d] x0)(Y:Vm.zdi x0 x1=some r):Q1 87 [.agg [b,d].toArray,vI x1] W [] fun W' v=> ∃ a,v=a/\Ow W' k0 [] [a] r:=
 (c87 (f.view _) Y).ad (fk k0) fun _ _ ⟨a,e,h⟩=>⟨a,e,h.back (zhe _)⟩
theorem c86 {x0 a x1 r}(x:Rd W0 [0] [a] x0)(Y:Vm.zdT x0 x1=some r):Q0 86 [a,vI x1] W0 fun Wf v=>v=vB r:=by
 unfold Vm.zdT at Y
 refine zap.of Tryz.func86 O O O O (sr (Nb O (ssr (Ni O (Cw.block ?_)))))
 obtain⟨y,z,Y⟩:=za1 Y
 refine Cw.loop 6 17 [4,5] (fun m l w=> ∃ b d e,CW.w e=w/\Le [] W0 e/\l=[vB b,vI d]/\Vm.zcz x0 x1 y m b d=some r) _ ⟨false,0,W0,O,Le.refl _ _,O,Y⟩ ?_
 rintro(_ |A) _ _ σ ⟨b,d,e,rfl,i,rfl,Y⟩
 ·cases Y
 unfold Vm.zcz at Y
 have f:=i.o
 refine ssr ?_
 have h:=x.ul f
 refine mi O (mv a O (Lw.ln x0 h O (Lw.lt O (nl (cn Y (fun Y=>?_) fun Y=>?_)))))
 ·refine sk (Cw.seq (Cw.block (sr (mv a O (mi O ?_)))))
  obtain⟨B,k,Y⟩:=ob Y
  refine Lw.r O (R.ix (α:=Int) h k O O O) (Lw.r O (R.ld O O (h.at_ k).int) (mi O (Lw.eq O (nl (cn Y (fun Y=>?_) fun Y=>?_)))))
  ·exact sr (Nb O (.ret (rt Y f)))
  ·exact sk (rg (mi O (Lw.add O (Ni O ((agm) ⟨b,w64 (d+1),e,O,i,O,Y⟩)))))
 ·refine Cw.exit ?_
  rw[z]at Y
  exact sr (Nb O (.ret (rt Y f)))
theorem p86 {x0 a x1 r}(b:Rd W K [a] x0)(Y:Vm.zdT x0 x1=some r):Q1 86 [a,vI x1] W [] fun W' v=>v=vB r:=
 (c86 (b.view _) Y).ad (fk 0) fun _ _ e=>e
theorem c95 {x0 W X x1 x2 r}(h0:Rd W0 [0] [W,X] x0)(Y:Vm.zdY x0 x1 x2=some r):Q0 95 [.agg [W,X].toArray,vI x1,vI x2] W0 fun Wf v=> ∃ u0,v=u0/\OwS Wf LL [] [u0] r:=by
 unfold Vm.zdY at Y
 obtain⟨c4,c5,av,Z,aa⟩:=Repo.split h0
 simp only[List.cons.injEq,and_true,true_and]at av
 obtain⟨rfl,rfl⟩:=av
 refine zap.of Tryz.func95 O O O O (sr (bo 2 O fun g1 W1 l1 b1=>?_))
 have a2:=l1.o
 refine Nv (.slice none 0 0) O (sr (la b1 (mi O (cr Y (fun _=>p87 (k0:=3) (Repo.rd (K:=[0]) x0.Commits x0.Heads (Z.ul a2) (aa.ul a2))) ?_))))
 rintro z5 H W7 Y l7 ⟨_,rfl,bp⟩
 have a8:=a2.n l7
 refine Nv H O (sr (la (b1.up l7) (mi O (cr Y (fun _=>p87 (k0:=4) (Repo.rd (K:=[0]) x0.Commits x0.Heads (Z.ul a8) (aa.ul a8))) ?_))))
 rintro bq ax c9 Y ai ⟨_,rfl,br⟩
 have bu:=a8.n ai
 refine Nv ax O (sr (Lw.t O (T.lit0 (α:=Int) 5 []) ?_))
 rintro ay _ ⟨az,rfl,I,bv⟩
 have bw:=bu.n I
 refine Nv ay O (ssr (Ni O (Cw.block ?_)))
 obtain⟨bz,b0,Y⟩:=za1 Y
 refine Cw.loop 22 40 [9,10] (fun m l w=> ∃ h J e B,CW.w B=w/\Le [5] az B/\l=[e,vI J]/\Ow B 5 [] [e] h/\Vm.zbz z5 bq bz m h J=some r) _ ⟨([]:List Int),0,ay,az,O,Le.refl _ _,O,bv,Y⟩ ?_
 rintro(_ |da) _ _ σ ⟨h,J,e,B,rfl,C,rfl,aj,Y⟩
 ·cases Y
 unfold Vm.zbz at Y
 have b2:=bw.t C
 have D:=((bp.up ai).up I).up C
 refine ssr (mi O (mv H O (Lw.ln z5 D.rd O (Lw.lt O (nl (cn Y (fun Y=>?_) fun Y=>?_))))))
 ·refine sk ?_
  obtain⟨b3,b4,Y⟩:=za1 Y
  refine Cw.join 28 40 [9] (fun l w=> ∃ L M E,CW.w E=w/\Le [5] B E/\l=[M]/\Ow E 5 [] [M] L/\b3 L=some r) ?_ ?_
  ·rintro _ _ σ ⟨L,M,E,rfl,b5,rfl,b6,Y⟩
   rw[b4]at Y
   exact rg (mi O (Lw.add O (Ni O ((agm) ⟨L,w64 (J+1),M,E,O,(C.j b5).w,O,b6,Y⟩))))
  ·refine Cw.block (sr (mv ax O (mv H O (mi O ?_))))
   obtain⟨db,a0,Y⟩:=ob Y
   refine Lw.r O (R.ix (α:=Int) D.rd a0 O O O) (Lw.r O (R.ld O O (D.rd.at_ a0).int) (ca Y (fun _=>p86 (K:=[4]) ((br.up I).up C).rd) fun dc b7 Y y=>nl (cn Y (fun Y=>?_) fun Y=>?_)))
   ·refine rg (mv e O (mv H O (mi O ?_)))
    obtain⟨a1,a3,Y⟩:=ob Y
    refine Lw.r O (R.ix (α:=Int) (D.up y).rd a3 O O O) (Lw.r O (R.ld O O ((D.up y).rd.at_ a3).int) (Lw.t O (T.bs 6 [vI a1] (cs:=[vI a1]) O O (bsv O)) ?_))
    rintro _ _ ⟨dd,de,rfl,rfl,a4,b8⟩
    obtain⟨b9,cb,Y⟩:=ob Y
    refine Lw.t O (T.app1S (α:=Int) (K':=[]) ((aj.up y).up a4) b8 (rdI _) O O cb) ?_
    rintro a5 _ ⟨cc,rfl,cd,ce⟩
    exact Nv a5 O ((ag) ⟨b9,a5,cc,O,((y.j a4).j cd).w,O,ce,Y⟩)
   ·exact sk ((ag) ⟨h,e,b7,O,y.w,O,(aj.up y),Y⟩)
 ·refine Cw.exit ?_
  rw[b0]at Y
  refine sr (Lw.t O (T.lit0 (α:=Int) 7 []) ?_)
  rintro a6 _ ⟨a7,rfl,ak,cf⟩
  have cg:=b2.n ak
  refine Nv a6 O (ssr (Ni O (Cw.block ?_)))
  obtain⟨ch,ci,Y⟩:=za1 Y
  refine Cw.loop 42 81 [11,12,13,14] (fun m l w=> ∃ N i k a9 ba x,CW.w x=w/\Le [7] a7 x/\l=[k,vI i,a9,ba]/\Ow x 7 [] [k] N/\Vm.zaH x0 h ch m N i=some r) _ ⟨([]:List Int),0,a6,undef,undef,a7,O,Le.refl _ _,O,cf,Y⟩ ?_
  rintro(_ |df) _ _ σ ⟨N,i,k,a9,ba,x,rfl,P,rfl,am,Y⟩
  ·cases Y
  unfold Vm.zaH at Y
  have bb:=cg.t P
  have bc:=(aj.up ak).up P
  refine ssr (mi O (mv e O (Lw.ln h bc.rd O (Lw.lt O (nl (cn Y (fun Y=>?_) fun Y=>?_))))))
  ·refine sk ?_
   obtain⟨cj,ck,Y⟩:=za1 Y
   refine Cw.join 48 81 [11,13,14] (fun l w=> ∃ Q S an ao F,CW.w F=w/\Le [7] x F/\l=[S,an,ao]/\Ow F 7 [] [S] Q/\cj Q=some r) ?_ ?_
   ·rintro _ _ σ ⟨Q,S,an,ao,F,rfl,cl,rfl,cm,Y⟩
    rw[ck]at Y
    exact rg (mi O (Lw.add O (Ni O ((agm) ⟨Q,w64 (i+1),S,an,ao,F,O,(P.j cl).w,O,cm,Y⟩))))
   ·refine Cw.block (sr (Nb O (ssr (Ni O (Cw.block ?_)))))
    obtain⟨co,cp,Y⟩:=za1 Y
    refine Cw.loop 48 73 [13,14] (fun m l w=> ∃ G d U,CW.w U=w/\Le [] x U/\l=[vB G,vI d]/\Vm.za8 x0 h i co m G d=some r) _ ⟨true,0,x,O,Le.refl _ _,O,Y⟩ ?_
    rintro(_ |dg) _ _ σ ⟨G,d,U,rfl,f,rfl,Y⟩
    ·cases Y
    unfold Vm.za8 at Y
    have cq:=bb.n f
    have V:=bc.up f
    refine ssr (mi O (mv e O (Lw.ln h V.rd O (Lw.lt O (nl (cn Y (fun Y=>?_) fun Y=>?_))))))
    ·refine sk (Cw.seq (Cw.block (Cw.draw [] [(0,0),(1,0),(2,0),(3,0),(4,0),(5,0),(6,1),(7,0),(8,0),(9,0),(10,1),(12,0),(13,0),(14,0),(15,1),(11,2),(16,3),(17,0),(18,0),(19,0),(20,0)] mixed (by kernel_rfl) fun be z=>?_)))
     have bg:=cq.n z
     have A:=V.up z
     refine Db O (Db O (bs Y (fun b Y=>?_) fun b Y=>?_))
     ·refine Wp b O (fun _=>R.mv (v:=vI d) O) (Wp b O (fun _=>R.mv (v:=vI i) O) (Wp b O (fun _=>R.eq O O) (Wp b O (fun _=>R.mv (v:=vB ((d:Int)==(i:Int))) O) (bs Y (fun a Y=>?_) fun a Y=>?_))))
      ·exact dps 12 a O (Wp b O (fun _=>R.pk a O (v:=vB true) O) (Mw.p O O (fun _=>R.pk b O (v:=vB true) O) (Hb O (Mw.nil (rg (mi O (Lw.add O (Ni O ((agm) ⟨true,w64 (d+1),be,O,(f.j z).w,O,Y⟩)))))))))
      ·refine Wq a O (fun _ c=>R.lda (cs:=[W,X]) (((((((((b1.up l7).up ai).up I).up C).up ak).up P).up f).up z).clcs O c) O O) (Wp a O (fun _=>R.mv (v:=e) O) (Wp a O (fun _=>R.mv (v:=vI d) O) ?_))
       obtain⟨dh,ap,Y⟩:=ob Y
       refine Wp a O (fun _=>R.ix (α:=Int) A.rd ap O O O) (Wq a O (fun _ c=>R.ld O O (zam (A.rd.at_ ap).1 O (A.rd.at_ ap).int c)) (Wp a O (fun _=>R.mv (v:=e) O) (Wp a O (fun _=>R.mv (v:=vI i) O) ?_)))
       obtain⟨di,aq,Y⟩:=ob Y
       refine Wp a O (fun _=>R.ix (α:=Int) A.rd aq O O O) (Wq a O (fun _ c=>R.ld O O (zam (A.rd.at_ aq).1 O (A.rd.at_ aq).int c)) ?_)
       obtain⟨dj,ct,Y⟩:=ob Y
       refine Wt a O (T.call O (p87 (k0:=8) (Repo.rd (K:=[0]) x0.Commits x0.Heads (Z.ul bg) (aa.ul bg)) ct)) ?_
       rintro dk _ ⟨dl,rfl,bh,⟨_,rfl,cu⟩⟩
       refine m0 bh fun dm=>?_
       obtain⟨ar,cv,Y⟩:=ob Y
       refine Mw.gl a O O O O O (T.call O (p86 (K:=[8]) cu.rd cv)) ?_
       rintro _ _ ⟨cw,rfl,cx,rfl⟩
       exact Wp a O (fun _=>R.not O) (Wp b O (fun _=>R.pk a O (v:=vB (!ar)) O) (Mw.p O O (fun _=>R.pk b O (v:=vB (!ar)) O) (Hb O (Mw.nil (rg (mi O (Lw.add O (Ni O ((agm) ⟨(!ar),w64 (d+1),cw,O,(((f.j z).j bh).j cx).w,O,Y⟩)))))))))
     ·exact dps 4 b O (dpu 12 O (dps 1 b O (Mw.p O O (fun _=>R.pk b O (v:=vB false) O) (Hb O (Mw.nil (rg (mi O (Lw.add O (Ni O ((agm) ⟨false,w64 (d+1),be,O,(f.j z).w,O,Y⟩))))))))))
    ·refine Cw.exit ?_
     rw[cp]at Y
     refine sr (mb O (nl (cn Y (fun Y=>?_) fun Y=>?_)))
     ·refine rg (mv k O (mv e O (mi O ?_)))
      obtain⟨bi,bj,Y⟩:=ob Y
      refine Lw.r O (R.ix (α:=Int) V.rd bj O O O) (Lw.r O (R.ld O O (V.rd.at_ bj).int) (Lw.t O (T.bs 9 [vI bi] (cs:=[vI bi]) O O (bsv O)) ?_))
      rintro _ _ ⟨dn,dp,rfl,rfl,bk,cy⟩
      obtain⟨cz,c0,Y⟩:=ob Y
      refine Lw.t O (T.app1S (α:=Int) (K':=[]) ((am.up f).up bk) cy (rdI _) O O c0) ?_
      rintro bl _ ⟨c1,rfl,c2,c3⟩
      exact Nv bl O ((ag) ⟨cz,bl,vB G,vI d,c1,O,((f.j bk).j c2).w,O,c3,Y⟩)
     ·exact sk ((ag) ⟨N,k,vB G,vI d,U,O,f.w,O,(am.up f),Y⟩)
  ·refine Cw.exit ?_
   rw[ci]at Y
   refine sr (mv k O (Nv k O ?_))
   cases Y
   exact Cw.ret (zhg O (Res.mk bb ⟨k,O,am.s.sub O O⟩))
theorem p95 {x0 b d x1 x2 k0 r}(f:Rd W K [b,d] x0)(Y:Vm.zdY x0 x1 x2=some r):Q1 95 [.agg [b,d].toArray,vI x1,vI x2] W [] fun W' v=> ∃ a,v=a/\Ow W' k0 [] [a] r:=
 (c95 (f.view _) Y).ad (fk k0) fun _ _ ⟨a,e,h⟩=>⟨a,e,h.back (zhe _)⟩
theorem c89 {x0 k x x1 x2 r}(I:Rd W0 [0] [k,x] x0)(Y:Vm.zey x0 x1 x2=some r):Q0 89 [.agg [k,x].toArray,vI x1,vI x2] W0 fun Wf v=> ∃ y,v=y/\Rd Wf [0] [y] r:=by
 unfold Vm.zey at Y
 obtain⟨M,N,z,A,J⟩:=Repo.split I
 simp only[List.cons.injEq,and_true,true_and]at z
 obtain⟨rfl,rfl⟩:=z
 refine zap.of Tryz.func89 O O O O (sr (bo 2 O fun P Q L B=>?_))
 have d:=L.o
 refine Nv (.slice none 0 0) O (sr (la B (mi O (mi O (cr Y (fun _=>p95 (k0:=3) (Repo.rd (K:=[0]) x0.Commits x0.Heads (A.ul d) (J.ul d))) ?_)))))
 rintro C a S Y D ⟨_,rfl,E⟩
 have F:=d.n D
 refine Nv a O (ssr (mv a O (Lw.ln C E.rd O (Lw.eq O (nl (cn Y (fun Y=>?_) fun Y=>?_))))))
 ·refine sr (Nv (.slice none 0 0) O ?_)
  cases Y
  exact Cw.ret (zhg O (Res.mk F ⟨.slice none 0 0,O,(rdN (K:=[0]))⟩))
 ·refine sk (Cw.seq (Cw.draw [] [(0,0),(1,1),(2,0),(3,0),(4,0),(5,0),(6,0),(7,1),(8,0),(9,0),(10,1),(11,0)] mixed (by kernel_rfl) fun T e=>?_))
  have G:=F.n e
  have b:=E.up e
  refine Dfl ((B.up D).up e) O O O (Dv a O (Dv a O (Mw.p O O (fun _=>zpZ (xs:=C) b.rd O) (Mw.p O O (fun _=>R.sub O O) ?_))))
  obtain⟨U,f,Y⟩:=ob Y
  refine Mw.p O O (fun _=>R.ix (α:=Int) b.rd f O O O) (Mw.q O O (fun _ c=>R.ld O O (zam (b.rd.at_ f).1 O (b.rd.at_ f).int c)) ?_)
  obtain⟨V,h,Y⟩:=ob Y
  have i:=A.ul G
  refine Mw.p O O (fun _=>R.ix (α:=Commit) i h O O O) (Df O ?_)
  obtain⟨H,c21,r22⟩:=(Commit.at2 (i.at_ h)).cell O
  refine Mw.q O O (fun _ c=>R.ld O O (zam (Commit.at2 (i.at_ h)).1 O c21 c)) (Hv H O (Mw.nil ?_))
  cases Y
  exact Cw.ret (zhg O (Res.mk G ⟨H,O,r22⟩))
theorem p89 {x0 b d x1 x2 r}(f:Rd W K [b,d] x0)(Y:Vm.zey x0 x1 x2=some r):Q1 89 [.agg [b,d].toArray,vI x1,vI x2] W [] fun W' v=> ∃ a,v=a/\Rd W' (0::K) [a] r:=
 (c89 (f.view _) Y).ad (fk 0) fun _ _ ⟨a,e,h⟩=>⟨a,e,h.back O⟩
theorem c105 {x0 a x1 r}(b:Rd W0 [0] [a] x0)(Y:Vm.zdj x0 x1=some r):Q0 105 [a,vS x1] W0 fun Wf v=> ∃ F,v=F/\Rd Wf [0] [F] r:=by
 unfold Vm.zdj at Y
 refine zap.of Tryz.func105 O O O O (sr (Nv (.slice none 0 0) O (sr (Ni O (Cw.seq (Cw.block ?_))))))
 obtain⟨S,U,Y⟩:=za1 Y
 refine Cw.loop 7 20 [5] (fun m l w=> ∃ i e,CW.w e=w/\Le [] W0 e/\l=[vI i]/\Vm.zcA x0 x1 S m i=some r) _ ⟨0,W0,O,Le.refl _ _,O,Y⟩ ?_
 rintro(_ |m4) _ _ σ ⟨i,e,rfl,G,rfl,Y⟩
 ·cases Y
 unfold Vm.zcA at Y
 have k:=G.o
 refine Cw.seq ?_
 obtain⟨V,W,Y⟩:=za1 Y
 refine Cw.join 7 18 [18] (fun l w=> ∃ y d,CW.w d=w/\Le [] e d/\l=[vB y]/\V y=some r) ?_ ?_
 ·rintro _ _ σ ⟨y,d,rfl,H,rfl,Y⟩
  rw[W]at Y
  have x:=k.n H
  refine cn Y (fun Y=>?_) fun Y=>?_
  ·exact sk (Cw.block (rg (mi O (Lw.add O (Ni O ((agm) ⟨w64 (i+1),d,O,(G.j H).w,O,Y⟩))))))
  ·refine Cw.exit ?_
   rw[U]at Y
   refine Cw.seq ?_
   obtain⟨X,Z,Y⟩:=za1 Y
   refine Cw.join 21 32 [32] (fun l w=> ∃ z A,CW.w A=w/\Le [] d A/\l=[vB z]/\X z=some r) ?_ ?_
   ·rintro _ _ σ ⟨z,A,rfl,aa,rfl,Y⟩
    rw[Z]at Y
    have B:=x.n aa
    refine cn Y (fun Y=>?_) fun Y=>?_
    ·refine sr (mv a O (Nv a O ?_))
     cases Y
     exact Cw.ret (zhg O (Res.mk B ⟨a,O,(b.ul B)⟩))
    ·refine sk (sr (Lw.t O (T.lit0 (α:=Str) 2 []) ?_))
     rintro a7 _ ⟨a8,rfl,ac,ae⟩
     have C:=B.n ac
     refine mv a O (mi O ?_)
     obtain⟨ba,I,Y⟩:=ob Y
     have r23:=(b.ul C).cutV I
     refine Lw.r O (R.sl (b.ul C) I O (.inl ⟨O,O⟩) (.inr O)) ?_
     obtain⟨bb,af,Y⟩:=ob Y
     refine Lw.t O (T.appP (α:=Str) ae r23 O O af) ?_
     rintro J _ ⟨bc,rfl,ah,ai⟩
     have aj:=C.t ah
     refine Nv J O (sr (mv J O (ms O (Lw.t O (T.bs 3 [vS x1] (cs:=[vS x1]) O O (bsv O)) ?_))))
     rintro _ _ ⟨be,bg,rfl,rfl,K,ak⟩
     have am:=aj.n K
     obtain⟨bh,an,Y⟩:=ob Y
     refine Lw.t O (T.app1S (α:=Str) (K':=[]) (ai.up K) ak (rdS _) O O an) ?_
     rintro L _ ⟨bi,rfl,ao,ap⟩
     have D:=am.t ao
     refine Nv L O (sr (mv L O (mv a O (mi O ?_))))
     obtain⟨bj,N,Y⟩:=ob Y
     have r40:=(b.ul D).cutV N
     refine Lw.r O (R.sl (b.ul D) N O (.inr O) (.inl ⟨O,O⟩)) ?_
     obtain⟨aq,ar,Y⟩:=ob Y
     refine Lw.t O (T.appP (α:=Str) ap r40 O O ar) ?_
     rintro E _ ⟨bk,rfl,au,av⟩
     have aw:=D.t au
     refine Nv E O ?_
     obtain⟨ax,ay,az,a0⟩:=zgV _ 2
     have a1:Rd (α:=List Str) ax [0] [E] aq:=by rw[a0];exact(av.rd.dye 2).sub (M:=[0]) O
     have a2:=aw.t az
     cases Y
     rw[<- ay]
     exact Cw.ret (zhg O (Res.mk a2 ⟨E,O,a1⟩))
   ·refine rg (mi O (mv a O (Lw.ln x0 (b.ul x) O (Lw.lt O (mb O (bs Y (fun f Y=>?_) fun f Y=>?_))))))
    ·refine wak 6 f (mv a O (mi O ?_))
     obtain⟨a3,P,Y⟩:=ob Y
     exact Lw.r O (R.ix (α:=Str) (b.ul x) P O O O) (Lw.r O (R.ld O O ((b.ul x).at_ P).str) (ms O (Lw.seq O (Pb f O (nl ((ag) ⟨(a3==x1),d,O,Le.refl _ _,O,Y⟩))))))
    ·exact psk 6 f O (Pb f O (nl ((ag) ⟨false,d,O,Le.refl _ _,O,Y⟩)))
 ·refine rg (mi O (mv a O (Lw.ln x0 (b.ul k) O (Lw.lt O (mb O (bs Y (fun h Y=>?_) fun h Y=>?_))))))
  ·refine wak 6 h (mv a O (mi O ?_))
   obtain⟨a4,Q,Y⟩:=ob Y
   exact Lw.r O (R.ix (α:=Str) (b.ul k) Q O O O) (Lw.r O (R.ld O O ((b.ul k).at_ Q).str) (ms O (Lw.r O (R.slt O O) (Pb h O (nl ((ag) ⟨Op.bytesLess a4 x1,e,O,Le.refl _ _,O,Y⟩))))))
  ·exact psk 6 h O (Pb h O (nl ((ag) ⟨false,e,O,Le.refl _ _,O,Y⟩)))
theorem p105 {x0 b x1 r}(d:Rd W K [b] x0)(Y:Vm.zdj x0 x1=some r):Q1 105 [b,vS x1] W [] fun W' v=> ∃ a,v=a/\Rd W' (0::K) [a] r:=
 (c105 (d.view _) Y).ad (fk 0) fun _ _ ⟨a,e,f⟩=>⟨a,e,f.back O⟩
theorem c101 {x0 h x1 i x2 k r}(G:Rd W0 [0] [h] x0)(H:Rd W0 [0] [i] x1)(I:Rd W0 [0] [k] x2)(Y:Vm.zdZ x0 x1 x2=some r):Q0 101 [h,i,k] W0 fun Wf v=> ∃ N,v=N/\Rd Wf [0] [N] r:=by
 unfold Vm.zdZ at Y
 refine zap.of Tryz.func101 O O O O (sr (Nv (.slice none 0 0) O (sr (Lw.t O (T.lit0 (α:=Str) 2 []) ?_))))
 rintro J _ ⟨W1,rfl,l1,o1⟩
 have a2:=l1.o
 refine Nv J O (ssr (Ni O (Cw.block ?_)))
 obtain⟨K,af,l3,ai⟩:=zgV _ 2
 rw[<- af]
 have s4:Rd (α:=List Str) K [0] [J] ([]:List Str):=by rw[ai];exact(o1.rd.dye 2).sub (M:=[0]) O
 have a5:=a2.t l3
 obtain⟨am,an,Y⟩:=za1 Y
 refine Cw.loop 12 24 [7,8] (fun m l w=> ∃ x y e b,CW.w b=w/\Le [] K b/\l=[e,vI y]/\Rd b [0] [e] x/\Vm.zbA x0 am m x y=some r) _ ⟨([]:List Str),0,J,K,O,Le.refl _ _,O,s4,Y⟩ ?_
 rintro(_ |bc) _ _ σ ⟨x,y,e,b,rfl,l10,rfl,r8,Y⟩
 ·cases Y
 unfold Vm.zbA at Y
 have z:=a5.n l10
 refine ssr (mi O (mv h O (Lw.ln x0 (G.ul z) O (Lw.lt O (nl (cn Y (fun Y=>?_) fun Y=>?_))))))
 ·refine sk (Cw.seq (Cw.block (rg (mv e O (mv h O (mi O ?_))))))
  obtain⟨be,P,Y⟩:=ob Y
  refine Lw.r O (R.ix (α:=File) (G.ul z) P O O O) (Lw.fa O (Lw.r O (R.ld O O (File.at0 ((G.ul z).at_ P)).str) (cr Y (fun _=>p105 r8) ?_)))
  rintro ao Q ap Y aq ⟨_,rfl,ar⟩
  have au:=ar.sub (M:=[0]) O
  exact Nv Q O (rg (mi O (Lw.add O (Ni O ((agm) ⟨ao,w64 (y+1),Q,ap,O,(l10.j aq).w,O,au,Y⟩)))))
 ·refine Cw.exit ?_
  rw[an]at Y
  refine ssr (Ni O (Cw.block ?_))
  obtain⟨av,aw,Y⟩:=za1 Y
  refine Cw.loop 25 37 [7,9] (fun m l w=> ∃ A B f d,CW.w d=w/\Le [] b d/\l=[f,vI B]/\Rd d [0] [f] A/\Vm.zaW x1 av m A B=some r) _ ⟨x,0,e,b,O,Le.refl _ _,O,r8,Y⟩ ?_
  rintro(_ |bg) _ _ σ ⟨A,B,f,d,rfl,S,rfl,r25,Y⟩
  ·cases Y
  unfold Vm.zaW at Y
  have C:=z.n S
  refine ssr (mi O (mv i O (Lw.ln x1 (H.ul C) O (Lw.lt O (nl (cn Y (fun Y=>?_) fun Y=>?_))))))
  ·refine sk (Cw.seq (Cw.block (rg (mv f O (mv i O (mi O ?_))))))
   obtain⟨bh,U,Y⟩:=ob Y
   refine Lw.r O (R.ix (α:=File) (H.ul C) U O O O) (Lw.fa O (Lw.r O (R.ld O O (File.at0 ((H.ul C).at_ U)).str) (cr Y (fun _=>p105 r25) ?_)))
   rintro ax V ay Y az ⟨_,rfl,a0⟩
   have a1:=a0.sub (M:=[0]) O
   exact Nv V O (rg (mi O (Lw.add O (Ni O ((agm) ⟨ax,w64 (B+1),V,ay,O,(S.j az).w,O,a1,Y⟩)))))
  ·refine Cw.exit ?_
   rw[aw]at Y
   refine ssr (Ni O (Cw.block ?_))
   obtain⟨a3,a4,Y⟩:=za1 Y
   refine Cw.loop 38 50 [7,10] (fun m l w=> ∃ L D a E,CW.w E=w/\Le [] d E/\l=[a,vI D]/\Rd E [0] [a] L/\Vm.zaz x2 a3 m L D=some r) _ ⟨A,0,f,d,O,Le.refl _ _,O,r25,Y⟩ ?_
   rintro(_ |bi) _ _ σ ⟨L,D,a,E,rfl,W,rfl,r42,Y⟩
   ·cases Y
   unfold Vm.zaz at Y
   have F:=C.n W
   refine ssr (mi O (mv k O (Lw.ln x2 (I.ul F) O (Lw.lt O (nl (cn Y (fun Y=>?_) fun Y=>?_))))))
   ·refine sk (Cw.seq (Cw.block (rg (mv a O (mv k O (mi O ?_))))))
    obtain⟨bj,X,Y⟩:=ob Y
    refine Lw.r O (R.ix (α:=File) (I.ul F) X O O O) (Lw.fa O (Lw.r O (R.ld O O (File.at0 ((I.ul F).at_ X)).str) (cr Y (fun _=>p105 r42) ?_)))
    rintro a6 Z a7 Y a8 ⟨_,rfl,a9⟩
    have ba:=a9.sub (M:=[0]) O
    exact Nv Z O (rg (mi O (Lw.add O (Ni O ((agm) ⟨a6,w64 (D+1),Z,a7,O,(W.j a8).w,O,ba,Y⟩)))))
   ·refine Cw.exit ?_
    rw[a4]at Y
    refine sr (mv a O (Nv a O ?_))
    cases Y
    exact Cw.ret (zhg O (Res.mk F ⟨a,O,r42⟩))
theorem p101 {x0 b x1 d x2 f r}(h:Rd W K [b] x0)(i:Rd W K [d] x1)(k:Rd W K [f] x2)(Y:Vm.zdZ x0 x1 x2=some r):Q1 101 [b,d,f] W [] fun W' v=> ∃ a,v=a/\Rd W' (0::K) [a] r:=
 (c101 (h.view _) (i.view _) (k.view _) Y).ad (fk 0) fun _ _ ⟨a,e,x⟩=>⟨a,e,x.back O⟩
theorem c106 {x0 a x1 r}(C:Rd W0 [0] [a] x0)(Y:Vm.zei x0 x1=some r):Q0 106 [a,vS x1] W0 fun Wf v=> ∃ x,v = .tuple [x,vB r.2].toArray/\Rd Wf [0] [x] r.1:=by
 unfold Vm.zei at Y
 refine zap.of Tryz.func106 O O O O (sr (Gv (.slice none 0 0) O (Nb O (ssr (Ni O (Cw.block ?_))))))
 obtain⟨D,E,Y⟩:=za1 Y
 refine Cw.loop 7 24 [4,5,6] (fun m l w=> ∃ e f h i b,CW.w b=w/\Le [] W0 b/\l=[i,vB f,vI h]/\Ow b 2 [] [i] e/\Vm.zcB x0 x1 D m e f h=some r) _ ⟨([]:List Str),false,0, .slice none 0 0,W0,O,Le.refl _ _,O,owN 2 [],Y⟩ ?_
 rintro(_ |G) _ _ σ ⟨e,f,h,i,b,rfl,y,rfl,F,Y⟩
 ·cases Y
 unfold Vm.zcB at Y
 have k:=y.o
 refine ssr ?_
 have d:=C.ul k
 refine mi O (mv a O (Lw.ln x0 d O (Lw.lt O (nl (cn Y (fun Y=>?_) fun Y=>?_)))))
 ·refine sk (Cw.seq (Cw.block (sr (mv a O (mi O ?_)))))
  obtain⟨H,z,Y⟩:=ob Y
  refine Lw.r O (R.ix (α:=File) d z O O O) (Lw.fa O (Lw.r O (R.ld O O (File.at0 (d.at_ z)).str) (ms O (Lw.seq O (nl (cn Y (fun Y=>?_) fun Y=>?_))))))
  ·refine sr (mv a O (mi O ?_))
   obtain⟨I,A,Y⟩:=ob Y
   refine Lw.r O (R.ix (α:=File) d A O O O) (Lw.fa O ?_)
   obtain⟨B,c18,r19⟩:=(File.at1 (d.at_ A)).cell O
   refine Lw.r O (R.ld O O c18) (Gv B O (Nb O ?_))
   cases Y
   exact Cw.ret (zit O O (Res.mk k ⟨B,O,r19⟩))
  ·exact sk (rg (mi O (Lw.add O (Ni O ((agm) ⟨e,f,w64 (h+1),i,b,O,y,O,F,Y⟩)))))
 ·refine Cw.exit ?_
  rw[E]at Y
  refine sr (Gv (.slice none 0 0) O (Nb O ?_))
  cases Y
  exact Cw.ret (zit O O (Res.mk k ⟨.slice none 0 0,O,(rdN (K:=[0]))⟩))
theorem p106 {x0 b x1 r}(d:Rd W K [b] x0)(Y:Vm.zei x0 x1=some r):Q1 106 [b,vS x1] W [] fun W' v=> ∃ a,v = .tuple [a,vB r.2].toArray/\Rd W' (0::K) [a] r.1:=
 (c106 (d.view _) Y).ad (fk 0) fun _ _ ⟨a,e,f⟩=>⟨a,e,f.back O⟩
theorem c18 {x0 b x1 e r}(d:Rd W0 [0] [b] x0)(f:Rd W0 [0] [e] x1)(Y:Vm.zcP x0 x1=some r):Q0 18 [b,e] W0 fun Wf v=>v=vB r:=by
 unfold Vm.zcP at Y
 refine zap.of Tryz.func18 O O O O (sr (Nb O (ssr (mv b O (Lw.ln x0 d O (mv e O (Lw.ln x1 f O (Lw.ne O (nl (cn Y (fun Y=>?_) fun Y=>?_))))))))))
 ·exact sr (Nb O (.ret (rt Y (Le.refl _ _))))
 ·refine sk (ssr (Ni O (Cw.block ?_)))
  obtain⟨B,C,Y⟩:=za1 Y
  refine Cw.loop 11 25 [4,5] (fun m l w=> ∃ h i k,CW.w k=w/\Le [] W0 k/\l=[vB h,vI i]/\Vm.zbX x0 x1 B m h i=some r) _ ⟨false,0,W0,O,Le.refl _ _,O,Y⟩ ?_
  rintro(_ |E) _ _ σ ⟨h,i,k,rfl,A,rfl,Y⟩
  ·cases Y
  unfold Vm.zbX at Y
  have x:=A.o
  refine ssr (mi O (mv b O (Lw.ln x0 (d.ul x) O (Lw.lt O (nl (cn Y (fun Y=>?_) fun Y=>?_))))))
  ·refine sk (Cw.seq (Cw.block (Cw.seq (Cw.draw [] [(0,0),(1,0),(2,0),(3,1),(4,0),(5,0),(6,0),(7,1),(8,0)] mixed (by kernel_rfl) fun D l10=>?_))))
   have a:=x.n l10
   refine Dv b O (Di O ?_)
   obtain⟨F,y,Y⟩:=ob Y
   refine Mw.p O O (fun _=>R.ix (α:=Str) (d.ul a) y O O O) (Mw.q O O (fun _ c=>R.ld O O (zam ((d.ul a).at_ y).1 O ((d.ul a).at_ y).str c)) (Dv e O (Di O ?_)))
   obtain⟨G,z,Y⟩:=ob Y
   refine Mw.p O O (fun _=>R.ix (α:=Str) (f.ul a) z O O O) (Mw.q O O (fun _ c=>R.ld O O (zam ((f.ul a).at_ z).1 O ((f.ul a).at_ z).str c)) (Mw.p O O (fun _=>R.sne O O) (Mw.nil (cn Y (fun Y=>?_) fun Y=>?_))))
   ·exact sr (Nb O (.ret (rt Y a)))
   ·exact sk (rg (mi O (Lw.add O (Ni O ((agm) ⟨h,w64 (i+1),D,O,(A.j l10).w,O,Y⟩)))))
  ·refine Cw.exit ?_
   rw[C]at Y
   exact sr (Nb O (.ret (rt Y x)))
theorem p18 {x0 a x1 b r}(d:Rd W K [a] x0)(f:Rd W K [b] x1)(Y:Vm.zcP x0 x1=some r):Q1 18 [a,b] W [] fun W' v=>v=vB r:=
 (c18 (d.view _) (f.view _) Y).ad (fk 0) fun _ _ e=>e
theorem c107 {x0 d x1 x2 e x3 r}(i:Rd W0 [0] [d] x0)(k:Rd W0 [0] [e] x2)(Y:Vm.zdB x0 x1 x2 x3=some r):Q0 107 [d,vB x1,e,vB x3] W0 fun Wf v=>v=vB r:=by
 unfold Vm.zdB at Y
 refine zap.of Tryz.func107 O O O O (sr (Nb O ?_))
 obtain⟨x,y,Y⟩:=za1 Y
 refine Cw.join 9 20 [8] (fun l w=> ∃ f h,CW.w h=w/\Le [] W0 h/\l=[vB f]/\x f=some r) ?_ ?_
 ·rintro _ _ σ ⟨f,h,rfl,z,rfl,Y⟩
  rw[y]at Y
  have A:=z.o
  exact .ret (rt Y A)
 ·refine rg (mb O (mb O (Lw.r O (R.beq O O) (mb O (bs Y (fun a Y=>?_) fun a Y=>?_)))))
  ·refine wak 3 a (mb O (Lw.r O (R.not O) (mb O (bs Y (fun b Y=>?_) fun b Y=>?_))))
   ·exact psk 3 b O (wak 1 a (Pb b O (Pb a O (Nb O ((ag) ⟨true,W0,O,Le.refl _ _,O,Y⟩)))))
   ·exact wak 3 b (mv d O (mv e O (ca Y (fun _=>p18 i k) fun B C Y D=>wak 1 a (Pb b O (Pb a O (Nb O ((ag) ⟨B,C,O,D,O,Y⟩)))))))
  ·exact psk 3 a O (puk 3 O (psk 1 a O (Pb a O (Nb O ((ag) ⟨false,W0,O,Le.refl _ _,O,Y⟩)))))
theorem p107 {x0 a x1 x2 b x3 r}(d:Rd W K [a] x0)(f:Rd W K [b] x2)(Y:Vm.zdB x0 x1 x2 x3=some r):Q1 107 [a,vB x1,b,vB x3] W [] fun W' v=>v=vB r:=
 (c107 (d.view _) (f.view _) Y).ad (fk 0) fun _ _ e=>e
theorem c113 {x0 z x1 A r}(B:Rd W0 [0] [z] x0)(C:Rd W0 [0] [A] x1)(Y:Vm.zd0 x0 x1=some r):Q0 113 [z,A] W0 fun Wf v=> ∃ u0,v=u0/\OwS Wf LL [] [u0] r:=by
 unfold Vm.zd0 at Y
 refine zap.of Tryz.func113 O O O O (sr (Nv (.slice none 0 0) O (sr (Lw.t O (T.lit0 (α:=List Int) 2 []) ?_))))
 rintro v1 _ ⟨W1,rfl,l1,o1⟩
 have a2:=l1.o
 refine Nv v1 O (ssr (Ni O (Cw.block ?_)))
 obtain⟨K8,bj,Y⟩:=za1 Y
 refine Cw.loop 10 22 [5,6] (fun m l w=> ∃ G H a h,CW.w h=w/\Le [2,3] W1 h/\l=[a,vI H]/\Ow h 2 [] [a] G/\Vm.zbC x0 x1 K8 m G H=some r) _ ⟨([]:List (List Int)),0,v1,W1,O,Le.refl _ _,O,o1,Y⟩ ?_
 rintro(_ |m9) _ _ σ ⟨G,H,a,h,rfl,l7,rfl,o5,Y⟩
 ·cases Y
 unfold Vm.zbC at Y
 have I:=a2.t l7
 refine ssr (mi O (mv z O (Lw.ln x0 (B.ul I) O (Lw.le O (nl (cn Y (fun Y=>?_) fun Y=>?_))))))
 ·refine sk (Cw.seq (Cw.block (rg (mv a O (mv A O (Lw.ln x1 (C.ul I) O (Lw.add O ?_)))))))
  obtain⟨c7,bk,Y⟩:=ob Y
  refine Lw.t O (T.mk (α:=Int) 3 [] (n:=w64 ((x1.length:Int)+1)) O O bk) ?_
  rintro ax _ ⟨c8,rfl,ay,S⟩
  refine Lw.t O (T.bs 4 [ax] (cs:=[ax]) (bsc S.oc) O (bsv S.oc)) ?_
  rintro _ _ ⟨c9,da,rfl,rfl,U,bl⟩
  obtain⟨bm,bn,Y⟩:=ob Y
  refine Lw.t O (T.app1 (α:=List Int) (J:=[3]) (K':=[]) ((o5.up ay).up U) bl (S.up U).s O O bn) ?_
  rintro az _ ⟨bp,rfl,bq,br⟩
  exact Nv az O (rg (mi O (Lw.add O (Ni O ((agm) ⟨bm,w64 (H+1),az,bp,O,(((l7.j ay).j U).j bq).w,O,br,Y⟩)))))
 ·refine Cw.exit ?_
  rw[bj]at Y
  refine ssr (mv z O (Lw.ln x0 (B.ul I) O (Lw.sub O (Ni O (Cw.block ?_)))))
  obtain⟨bu,bv,Y⟩:=za1 Y
  refine Cw.loop 26 108 [7,8] (fun m l w=> ∃ D K a0 i,CW.w i=w/\Le [2,5,6,7] h i/\l=[vI D,a0]/\Ow i 2 [] [a] K/\Vm.za9 x0 x1 bu m D K=some r) _ ⟨w64 ((x0.length:Int)-1),G,undef,h,O,Le.refl _ _,O,o5,Y⟩ ?_
  rintro(_ |db) _ _ σ ⟨D,K,a0,i,rfl,a1,rfl,a3,Y⟩
  ·cases Y
  unfold Vm.za9 at Y
  have V:=I.t a1
  refine ssr (mi O (Lw.ge O (nl (cn Y (fun Y=>?_) fun Y=>?_))))
  ·refine sk (Cw.seq (Cw.block (sr (mv A O (Lw.ln x1 (C.ul V) O (Lw.sub O (Ni O (Cw.block ?_))))))))
   obtain⟨bw,bz,Y⟩:=za1 Y
   refine Cw.loop 33 108 [8] (fun m l w=> ∃ E L k,CW.w k=w/\Le [2,5,6,7] i k/\l=[vI E]/\Ow k 2 [] [a] L/\Vm.zbB x0 x1 D bw m E L=some r) _ ⟨w64 ((x1.length:Int)-1),K,i,O,Le.refl _ _,O,a3,Y⟩ ?_
   rintro(_ |dc) _ _ σ ⟨E,L,k,rfl,W,rfl,X,Y⟩
   ·cases Y
   unfold Vm.zbB at Y
   have b0:=V.t W
   refine ssr (mi O (Lw.ge O (nl (cn Y (fun Y=>?_) fun Y=>?_))))
   ·refine sk ?_
    obtain⟨b1,b2,Y⟩:=za1 Y
    refine Cw.join 37 108 [] (fun l w=> ∃ M F,CW.w F=w/\Le [2,5,6,7] k F/\l=[]/\Ow F 2 [] [a] M/\b1 M=some r) ?_ ?_
    ·rintro _ _ σ ⟨M,F,rfl,b3,rfl,b4,Y⟩
     rw[b2]at Y
     exact rg (mi O (Lw.sub O (Ni O ((agm) ⟨w64 (E-1),M,F,O,(W.j b3).w,O,b4,Y⟩))))
    ·refine Cw.block (Cw.block (Cw.seq (Cw.draw [] [(0,0),(1,0),(2,0),(3,1),(4,0),(5,0),(6,0),(7,1),(8,0),(9,0)] mixed (by kernel_rfl) fun dd x=>?_)))
     have y:=b0.n x
     refine Dv z O (Di O ?_)
     obtain⟨de,Z,Y⟩:=ob Y
     refine Mw.p O O (fun _=>R.ix (α:=Str) (B.ul y) Z O O O) (Mw.q O O (fun _ c=>R.ld O O (zam ((B.ul y).at_ Z).1 O ((B.ul y).at_ Z).str c)) (Dv A O (Di O ?_)))
     obtain⟨df,aa,Y⟩:=ob Y
     refine Mw.p O O (fun _=>R.ix (α:=Str) (C.ul y) aa O O O) (Mw.q O O (fun _ c=>R.ld O O (zam ((C.ul y).at_ aa).1 O ((C.ul y).at_ aa).str c)) (Mw.p O O (fun _=>R.seq O O) (Hb O (Mw.nil (cn Y (fun Y=>?_) fun Y=>?_)))))
     ·refine Cw.draw [] [(0,0),(1,0),(2,0),(3,1),(4,0),(5,0),(6,0),(7,0),(8,0),(9,1),(10,0),(11,0),(12,0),(13,1),(14,0),(15,0),(16,3)] mixed (by kernel_rfl) fun dg a4=>?_
      have d:=(X.up x).up a4
      refine Dv a O (Di O ?_)
      obtain⟨u64,N,Y⟩:=ob Y
      refine Mw.p O O (fun _=>R.ix (α:=List Int) d.rd N O O O) ?_
      obtain⟨dh,c67,r68⟩:=(d.rd.at_ N).cell O
      refine Mw.q O O (fun _ c=>R.ld O O (zam (d.rd.at_ N).1 O c67 c)) (Di O (Dv a O (Di O (Mw.p O O (fun _=>R.add O O) ?_))))
      obtain⟨di,ac,Y⟩:=ob Y
      refine Mw.p O O (fun _=>R.ix (α:=List Int) d.rd ac O O O) ?_
      obtain⟨dj,c72,r73⟩:=(d.rd.at_ ac).cell O
      refine Mw.q O O (fun _ c=>R.ld O O (zam (d.rd.at_ ac).1 O c72 c)) (Di O (Mw.p O O (fun _=>R.add O O) ?_))
      obtain⟨dk,ae,Y⟩:=ob Y
      refine Mw.p O O (fun _=>R.ix (α:=Int) r73 ae O O O) (Mw.q O O (fun _ c=>R.ld O O (zam (r73.at_ ae).1 O (r73.at_ ae).int c)) (Mw.p O O (fun _=>R.add O O) ?_))
      obtain⟨dl,b5,Y⟩:=ob Y
      refine Mw.p O O (fun _=>R.ix (α:=Int) r68 b5 O O O) ?_
      obtain⟨dm,b6,b7,b8,gb78⟩:=Ow.lend (α:=List Int) (β:=List Int) (j:=5) (jf:=0) d N (by rw[zhd];exact c67) O
      rw[<- b6]
      obtain⟨dn,b9,Y⟩:=ob Y
      refine Mw.lu O (T.stS (K':=[]) b8 (rdI _) b9 O O O) ?_
      rintro _ _ ⟨dp,rfl,a5,cb⟩
      obtain⟨cc,cd,ce,cf,eq85,cg⟩:=gb78 _ _ a5 cb
      obtain⟨a6,eqm85,Y⟩:=ob Y
      obtain rfl:a6=cf:=Option.some.inj (eqm85.symm.trans eq85)
      rw[<- cd]
      exact Mw.nil ((ag) ⟨a6,cc,O,((((x.j a4).j b7).j a5).j ce).w,O,cg,Y⟩)
     ·refine Cw.seq (Cw.draw [] [(0,0),(1,0),(2,0),(3,0),(4,1),(5,0),(6,0),(7,1),(8,0),(9,0),(10,0),(11,1),(12,0),(13,0),(14,0),(15,1),(16,0),(17,0)] mixed (by kernel_rfl) fun dq af=>?_)
      have b:=(X.up x).up af
      refine Dv a O (Di O (Mw.p O O (fun _=>R.add O O) ?_))
      obtain⟨dr,ah,Y⟩:=ob Y
      refine Mw.p O O (fun _=>R.ix (α:=List Int) b.rd ah O O O) ?_
      obtain⟨ds,c93,r94⟩:=(b.rd.at_ ah).cell O
      refine Mw.q O O (fun _ c=>R.ld O O (zam (b.rd.at_ ah).1 O c93 c)) (Di O ?_)
      obtain⟨dt,ai,Y⟩:=ob Y
      refine Mw.p O O (fun _=>R.ix (α:=Int) r94 ai O O O) (Mw.q O O (fun _ c=>R.ld O O (zam (r94.at_ ai).1 O (r94.at_ ai).int c)) (Dv a O (Di O ?_)))
      obtain⟨du,aj,Y⟩:=ob Y
      refine Mw.p O O (fun _=>R.ix (α:=List Int) b.rd aj O O O) ?_
      obtain⟨dv,c100,r101⟩:=(b.rd.at_ aj).cell O
      refine Mw.q O O (fun _ c=>R.ld O O (zam (b.rd.at_ aj).1 O c100 c)) (Di O (Mw.p O O (fun _=>R.add O O) ?_))
      obtain⟨dw,ak,Y⟩:=ob Y
      refine Mw.p O O (fun _=>R.ix (α:=Int) r101 ak O O O) (Mw.q O O (fun _ c=>R.ld O O (zam (r101.at_ ak).1 O (r101.at_ ak).int c)) (Mw.p O O (fun _=>R.ge O O) (Hb O (Mw.nil (cn Y (fun Y=>?_) fun Y=>?_)))))
      ·refine Cw.draw [] [(0,0),(1,0),(2,0),(3,1),(4,0),(5,0),(6,0),(7,0),(8,0),(9,1),(10,0),(11,0),(12,1),(13,0),(14,3)] mixed (by kernel_rfl) fun dx a7=>?_
       have e:=b.up a7
       refine Dv a O (Di O ?_)
       obtain⟨dy,P,Y⟩:=ob Y
       refine Mw.p O O (fun _=>R.ix (α:=List Int) e.rd P O O O) ?_
       obtain⟨dz,c111,r112⟩:=(e.rd.at_ P).cell O
       refine Mw.q O O (fun _ c=>R.ld O O (zam (e.rd.at_ P).1 O c111 c)) (Di O (Dv a O (Di O (Mw.p O O (fun _=>R.add O O) ?_))))
       obtain⟨d0,am,Y⟩:=ob Y
       refine Mw.p O O (fun _=>R.ix (α:=List Int) e.rd am O O O) ?_
       obtain⟨d1,c116,r117⟩:=(e.rd.at_ am).cell O
       refine Mw.q O O (fun _ c=>R.ld O O (zam (e.rd.at_ am).1 O c116 c)) (Di O ?_)
       obtain⟨d2,an,Y⟩:=ob Y
       refine Mw.p O O (fun _=>R.ix (α:=Int) r117 an O O O) (Mw.q O O (fun _ c=>R.ld O O (zam (r117.at_ an).1 O (r117.at_ an).int c)) ?_)
       obtain⟨d3,ch,Y⟩:=ob Y
       refine Mw.p O O (fun _=>R.ix (α:=Int) r112 ch O O O) ?_
       obtain⟨d4,ci,cj,ck,gb122⟩:=Ow.lend (α:=List Int) (β:=List Int) (j:=6) (jf:=0) e P (by rw[zhd];exact c111) O
       rw[<- ci]
       obtain⟨d5,cl,Y⟩:=ob Y
       refine Mw.lu O (T.stS (K':=[]) ck (rdI _) cl O O O) ?_
       rintro _ _ ⟨d6,rfl,a8,cm⟩
       obtain⟨co,cp,cq,ct,eq129,cu⟩:=gb122 _ _ a8 cm
       obtain⟨a9,eqm129,Y⟩:=ob Y
       obtain rfl:a9=ct:=Option.some.inj (eqm129.symm.trans eq129)
       rw[<- cp]
       exact Mw.nil ((ag) ⟨a9,co,O,(((((x.j af).j a7).j cj).j a8).j cq).w,O,cu,Y⟩)
      ·refine Cw.draw [] [(0,0),(1,0),(2,0),(3,1),(4,0),(5,0),(6,0),(7,0),(8,1),(9,0),(10,0),(11,0),(12,1),(13,0),(14,3)] mixed (by kernel_rfl) fun d7 ba=>?_
       have f:=b.up ba
       refine Dv a O (Di O ?_)
       obtain⟨d8,Q,Y⟩:=ob Y
       refine Mw.p O O (fun _=>R.ix (α:=List Int) f.rd Q O O O) ?_
       obtain⟨d9,c137,r138⟩:=(f.rd.at_ Q).cell O
       refine Mw.q O O (fun _ c=>R.ld O O (zam (f.rd.at_ Q).1 O c137 c)) (Di O (Dv a O (Di O ?_)))
       obtain⟨ea,ao,Y⟩:=ob Y
       refine Mw.p O O (fun _=>R.ix (α:=List Int) f.rd ao O O O) ?_
       obtain⟨eb,c142,r143⟩:=(f.rd.at_ ao).cell O
       refine Mw.q O O (fun _ c=>R.ld O O (zam (f.rd.at_ ao).1 O c142 c)) (Di O (Mw.p O O (fun _=>R.add O O) ?_))
       obtain⟨ec,ap,Y⟩:=ob Y
       refine Mw.p O O (fun _=>R.ix (α:=Int) r143 ap O O O) (Mw.q O O (fun _ c=>R.ld O O (zam (r143.at_ ap).1 O (r143.at_ ap).int c)) ?_)
       obtain⟨ed,cv,Y⟩:=ob Y
       refine Mw.p O O (fun _=>R.ix (α:=Int) r138 cv O O O) ?_
       obtain⟨ee,cw,cx,cy,gb148⟩:=Ow.lend (α:=List Int) (β:=List Int) (j:=7) (jf:=0) f Q (by rw[zhd];exact c137) O
       rw[<- cw]
       obtain⟨ef,cz,Y⟩:=ob Y
       refine Mw.lu O (T.stS (K':=[]) cy (rdI _) cz O O O) ?_
       rintro _ _ ⟨eg,rfl,bb,c0⟩
       obtain⟨c1,c2,c3,c4,eq155,c5⟩:=gb148 _ _ bb c0
       obtain⟨bc,eqm155,Y⟩:=ob Y
       obtain rfl:bc=c4:=Option.some.inj (eqm155.symm.trans eq155)
       rw[<- c2]
       exact Mw.nil ((ag) ⟨bc,c1,O,(((((x.j af).j ba).j cx).j bb).j c3).w,O,c5,Y⟩)
   ·refine Cw.exit ?_
    rw[bz]at Y
    exact rg (mi O (Lw.sub O (Ni O ((agm) ⟨w64 (D-1),L,vI E,k,O,(a1.j W).w,O,X,Y⟩))))
  ·refine Cw.exit ?_
   rw[bv]at Y
   refine sr (mv a O (Nv a O ?_))
   cases Y
   exact Cw.ret (zhg O (Res.mk V ⟨a,O,a3.s.sub O O⟩))
theorem p113 {x0 b x1 d k0 r}(f:Rd W K [b] x0)(h:Rd W K [d] x1)(Y:Vm.zd0 x0 x1=some r):Q1 113 [b,d] W [] fun W' v=> ∃ a,v=a/\Ow W' k0 [] [a] r:=
 (c113 (f.view _) (h.view _) Y).ad (fk k0) fun _ _ ⟨a,e,i⟩=>⟨a,e,i.back (zhe _)⟩
theorem c110 {x0 x x1 i r}(y:Rd W0 [0] [x] x0)(I:Rd W0 [0] [i] x1)(Y:Vm.zdt x0 x1=some r):Q0 110 [x,i] W0 fun Wf v=> ∃ Z,v=Z/\OwS Wf LL [] [Z] r:=by
 unfold Vm.zdt at Y
 refine zap.of Tryz.func110 O O O O (sr (Nv (.slice none 0 0) O (sr (mv x O (mv i O (cr Y (fun _=>p113 (k0:=2) y I) ?_))))))
 rintro z1 J W3 Y l3 ⟨_,rfl,aw⟩
 have a4:=l3.o
 refine Nv J O (sr (Lw.t O (T.lit0 (α:=Int) 3 []) ?_))
 rintro v5 _ ⟨W5,rfl,l5,o5⟩
 have a6:=a4.n l5
 refine Nv v5 O (sr (Ni O (ssr (Ni O (Cw.block ?_)))))
 obtain⟨a0,a1,Y⟩:=za1 Y
 refine Cw.loop 13 71 [6,7,8] (fun m l w=> ∃ B d e f z,CW.w z=w/\Le [3] W5 z/\l=[f,vI d,vI e]/\Ow z 3 [] [f] B/\Vm.zbD x0 x1 z1 a0 m B d e=some r) _ ⟨([]:List Int),0,0,v5,W5,O,Le.refl _ _,O,o5,Y⟩ ?_
 rintro(_ |bq) _ _ σ ⟨B,d,e,f,z,rfl,A,rfl,K,Y⟩
 ·cases Y
 unfold Vm.zbD at Y
 have C:=a6.t A
 refine ssr (mi O (mv x O (Lw.ln x0 (y.ul C) O (Lw.lt O (nl (cn Y (fun Y=>?_) fun Y=>?_))))))
 ·refine sk (Cw.block (Cw.block ?_))
  obtain⟨a2,a3,Y⟩:=za1 Y
  refine Cw.join 19 34 [19] (fun l w=> ∃ L D,CW.w D=w/\Le [] z D/\l=[vB L]/\a2 L=some r) ?_ ?_
  ·rintro _ _ σ ⟨L,D,rfl,h,rfl,Y⟩
   rw[a3]at Y
   have a5:=C.n h
   refine cn Y (fun Y=>?_) fun Y=>?_
   ·refine sr (mv f O (mi O (Lw.t O (T.bs 4 [vI d] (cs:=[vI d]) O O (bsv O)) ?_)))
    rintro _ _ ⟨br,bu,rfl,rfl,af,a7⟩
    obtain⟨a8,a9,Y⟩:=ob Y
    refine Lw.t O (T.app1S (α:=Int) (K':=[]) ((K.up h).up af) a7 (rdI _) O O a9) ?_
    rintro ah _ ⟨ba,rfl,bb,bc⟩
    exact Nv ah O (sr (mi O (Lw.add O (Ni O (rg (mi O (Lw.add O (Ni O ((agm) ⟨a8,w64 (d+1),w64 (e+1),ah,ba,O,(((A.j h).j af).j bb).w,O,bc,Y⟩)))))))))
   ·obtain⟨be,bg,Y⟩:=za1 Y
    refine Cw.join 43 66 [43] (fun l w=> ∃ M E,CW.w E=w/\Le [] D E/\l=[vB M]/\be M=some r) ?_ ?_
    ·rintro _ _ σ ⟨M,E,rfl,N,rfl,Y⟩
     rw[bg]at Y
     have ai:=(K.up h).up N
     refine cn Y (fun Y=>?_) fun Y=>?_
     ·refine sr (mv f O (Lw.t O (T.bs 5 [vI (-1)] (cs:=[vI (-1)]) O O (bsv O)) ?_))
      rintro _ _ ⟨bv,bw,rfl,rfl,aj,bh⟩
      obtain⟨bi,bj,Y⟩:=ob Y
      refine Lw.t O (T.app1S (α:=Int) (K':=[]) (ai.up aj) bh (rdI _) O O bj) ?_
      rintro ak _ ⟨bk,rfl,bl,bm⟩
      exact Nv ak O (rg (mi O (Lw.add O (Ni O ((agm) ⟨bi,d,w64 (e+1),ak,bk,O,((((A.j h).j N).j aj).j bl).w,O,bm,Y⟩)))))
     ·exact rg (mi O (Lw.add O (Ni O ((agm) ⟨B,w64 (d+1),e,f,E,O,((A.j h).j N).w,O,ai,Y⟩))))
    ·refine Cw.draw [] [(0,0),(1,0),(2,0),(3,0),(4,0),(5,0),(6,0),(7,0),(8,0),(9,1),(10,0),(11,0),(12,1),(13,0),(14,0),(15,0),(16,1),(17,0),(18,0),(19,0),(20,1),(21,0),(22,0),(23,0)] mixed (by kernel_rfl) fun am F=>?_
     have bn:=a5.n F
     have k:=(((aw.up l5).up A).up h).up F
     refine Di O (Dv i O (Mw.p O O (fun _=>zpZ (xs:=x1) (I.ul bn) O) (Mw.p O O (fun _=>R.ge O O) (Db O (bs Y (fun a Y=>?_) fun a Y=>?_)))))
     ·exact dps 17 a O (Mw.p O O (fun _=>R.pk a O (v:=vB true) O) (Hb O (Mw.nil ((ag) ⟨true,am,O,F,O,Y⟩))))
     ·refine Wp a O (fun _=>R.mv (v:=J) O) (Wp a O (fun _=>R.mv (v:=vI e) O) (Wp a O (fun _=>R.add O O) ?_))
      obtain⟨bz,P,Y⟩:=ob Y
      refine Wp a O (fun _=>R.ix (α:=List Int) k.rd P O O O) ?_
      obtain⟨b0,c63,r64⟩:=(k.rd.at_ P).cell O
      refine Wq a O (fun _ c=>R.ld O O (zam (k.rd.at_ P).1 O c63 c)) (Wp a O (fun _=>R.mv (v:=vI d) O) ?_)
      obtain⟨an,Q,Y⟩:=ob Y
      refine Wp a O (fun _=>R.ix (α:=Int) r64 Q O O O) (Wq a O (fun _ c=>R.ld O O (zam (r64.at_ Q).1 O (r64.at_ Q).int c)) (Wp a O (fun _=>R.mv (v:=J) O) (Wp a O (fun _=>R.mv (v:=vI e) O) ?_)))
      obtain⟨b1,S,Y⟩:=ob Y
      refine Wp a O (fun _=>R.ix (α:=List Int) k.rd S O O O) ?_
      obtain⟨b2,c70,r71⟩:=(k.rd.at_ S).cell O
      refine Wq a O (fun _ c=>R.ld O O (zam (k.rd.at_ S).1 O c70 c)) (Wp a O (fun _=>R.mv (v:=vI d) O) (Wp a O (fun _=>R.add O O) ?_))
      obtain⟨ao,U,Y⟩:=ob Y
      exact Wp a O (fun _=>R.ix (α:=Int) r71 U O O O) (Wq a O (fun _ c=>R.ld O O (zam (r71.at_ U).1 O (r71.at_ U).int c)) (Wp a O (fun _=>R.ge O O) (Mw.p O O (fun _=>R.pk a O (v:=vB (decide (ao<=(an:Int)))) O) (Hb O (Mw.nil ((ag) ⟨decide (ao<=(an:Int)),am,O,F,O,Y⟩))))))
  ·refine Cw.draw [] [(0,0),(1,0),(2,0),(3,0),(4,0),(5,0),(6,0),(7,0),(8,1),(9,0),(10,0),(11,0),(12,1),(13,0),(14,0),(15,0)] mixed (by kernel_rfl) fun ap V=>?_
   have G:=C.n V
   have H:=I.ul G
   refine Di O (Dv i O (Mw.p O O (fun _=>zpZ (xs:=x1) H O) (Mw.p O O (fun _=>R.lt O O) (Db O (bs Y (fun b Y=>?_) fun b Y=>?_)))))
   ·refine Wp b O (fun _=>R.mv (v:=x) O) (Wp b O (fun _=>R.mv (v:=vI e) O) ?_)
    obtain⟨aq,W,Y⟩:=ob Y
    refine Wp b O (fun _=>R.ix (α:=Str) (y.ul G) W O O O) (Wq b O (fun _ c=>R.ld O O (zam ((y.ul G).at_ W).1 O ((y.ul G).at_ W).str c)) (Wp b O (fun _=>R.mv (v:=i) O) (Wp b O (fun _=>R.mv (v:=vI d) O) ?_)))
    obtain⟨ar,X,Y⟩:=ob Y
    exact Wp b O (fun _=>R.ix (α:=Str) H X O O O) (Wq b O (fun _ c=>R.ld O O (zam (H.at_ X).1 O (H.at_ X).str c)) (Wp b O (fun _=>R.seq O O) (Mw.p O O (fun _=>R.pk b O (v:=vB (aq==ar)) O) (Hb O (Mw.nil ((ag) ⟨(aq==ar),ap,O,V,O,Y⟩))))))
   ·exact dps 9 b O (Mw.p O O (fun _=>R.pk b O (v:=vB false) O) (Hb O (Mw.nil ((ag) ⟨false,ap,O,V,O,Y⟩))))
 ·refine Cw.exit ?_
  rw[a1]at Y
  refine sr (mv f O (Nv f O ?_))
  cases Y
  exact Cw.ret (zhg O (Res.mk C ⟨f,O,K.s.sub O O⟩))
theorem p110 {x0 b x1 d k0 r}(f:Rd W K [b] x0)(h:Rd W K [d] x1)(Y:Vm.zdt x0 x1=some r):Q1 110 [b,d] W [] fun W' v=> ∃ a,v=a/\Ow W' k0 [] [a] r:=
 (c110 (f.view _) (h.view _) Y).ad (fk k0) fun _ _ ⟨a,e,i⟩=>⟨a,e,i.back (zhe _)⟩
theorem c112 {x0 d x1 a x2 b r}(C:Rd W0 [0] [d] x0)(e:Rd W0 [0] [a] x1)(f:Rd W0 [0] [b] x2)(Y:Vm.zez x0 x1 x2=some r):Q0 112 [d,a,b] W0 fun Wf v=> ∃ W X Z aa,v = .agg [vB r.Clash,W,X,Z,aa].toArray/\OwS Wf [31] [] [W] r.Lines/\OwS Wf [32] [] [X] r.Old/\OwS Wf [33] [] [Z] r.One/\OwS Wf [34] [] [aa] r.Two:=by
 unfold Vm.zez at Y
 refine zap.of Tryz.func112 O O O O (sr (al 2 [vB false, .slice none 0 0, .slice none 0 0, .slice none 0 0, .slice none 0 0] fun g1 W1 l1 b1=>?_))
 have h:=l1.o
 refine nl (Cw.seq (Cw.block ?_))
 obtain⟨K5,a5,Y⟩:=za1 Y
 refine Cw.join 7 13 [7] (fun l w=> ∃ D E,CW.w E=w/\Le [] W1 E/\l=[vB D]/\K5 D=some r) ?_ ?_
 ·rintro _ _ σ ⟨D,E,rfl,F,rfl,Y⟩
  rw[a5]at Y
  have i:=h.n F
  refine cn Y (fun Y=>?_) fun Y=>?_
  ·refine sr (Lw.t O (T.lit0 (α:=Str) 3 []) ?_)
   rintro v9 _ ⟨W9,rfl,l9,o9⟩
   have af:=i.n l9
   refine mv b O ?_
   obtain⟨ct,a8,Y⟩:=ob Y
   refine Lw.t O (T.appP (α:=Str) o9 (f.ul af) O O a8) ?_
   rintro G _ ⟨cu,rfl,ah,H⟩
   have a9:=af.t ah
   refine Lw.r O (R.bd (zs:=[vB false, .slice none 0 0, .slice none 0 0, .slice none 0 0, .slice none 0 0]) (cs:=[vB false,G, .slice none 0 0, .slice none 0 0, .slice none 0 0]) [(1,G)] O O O (zaD H.oc O zcU)) (sta (((b1.up F).up l9).up ah) (zaa O (zaa H.oc (zaa O (zaa O (zaa O zaw))))) fun cv ai ba=>?_)
   have bb:=a9.t ai
   refine nl ?_
   obtain⟨cw,bc,aj,be⟩:=(H.up ai).dyeO 31
   have bg:=bb.t aj
   cases Y
   rw[<- bc]
   exact Cw.ret (zkj O (ba.up aj) (Res.mk bg ⟨G, .slice none 0 0, .slice none 0 0, .slice none 0 0,O,be.s,(zmG []).sub O O,(zmG []).sub O O,(zmG []).sub O O⟩))
  ·refine sr (mv b O (mv d O (ca Y (fun _=>p18 (f.ul i) (C.ul i)) fun cx cy Y ak=>?_)))
   have am:=i.n ak
   have an:=(b1.up F).up ak
   refine Nb O (cn Y (fun Y=>?_) fun Y=>?_)
   ·refine sr (Lw.t O (T.lit0 (α:=Str) 4 []) ?_)
    rintro cz _ ⟨c0,rfl,ao,bh⟩
    have ap:=am.n ao
    refine mv a O ?_
    obtain⟨c1,bi,Y⟩:=ob Y
    refine Lw.t O (T.appP (α:=Str) bh (e.ul ap) O O bi) ?_
    rintro I _ ⟨c2,rfl,aq,J⟩
    have bj:=ap.t aq
    refine Lw.r O (R.bd (zs:=[vB false, .slice none 0 0, .slice none 0 0, .slice none 0 0, .slice none 0 0]) (cs:=[vB false,I, .slice none 0 0, .slice none 0 0, .slice none 0 0]) [(1,I)] O O O (zaD J.oc O zcU)) (sta ((an.up ao).up aq) (zaa O (zaa J.oc (zaa O (zaa O (zaa O zaw))))) fun c3 ar bk=>?_)
    have bl:=bj.t ar
    refine nl ?_
    obtain⟨c4,bm,au,bn⟩:=(J.up ar).dyeO 31
    have bp:=bl.t au
    cases Y
    rw[<- bm]
    exact Cw.ret (zkj O (bk.up au) (Res.mk bp ⟨I, .slice none 0 0, .slice none 0 0, .slice none 0 0,O,bn.s,(zmG []).sub O O,(zmG []).sub O O,(zmG []).sub O O⟩))
   ·refine sk (sr (Lw.t O (T.lit0 (α:=Str) 5 []) ?_))
    rintro c5 _ ⟨c6,rfl,av,bq⟩
    have aw:=am.n av
    refine mv d O ?_
    obtain⟨c7,br,Y⟩:=ob Y
    refine Lw.t O (T.appP (α:=Str) bq (C.ul aw) O O br) ?_
    rintro K _ ⟨c8,rfl,ax,bu⟩
    have bv:=aw.t ax
    refine Lw.t O (T.lit0 (α:=Str) 6 []) ?_
    rintro c9 _ ⟨da,rfl,L,bw⟩
    have ay:=bv.n L
    refine mv a O ?_
    obtain⟨db,bz,Y⟩:=ob Y
    refine Lw.t O (T.appP (α:=Str) bw (e.ul ay) O O bz) ?_
    rintro M _ ⟨dc,rfl,N,b0⟩
    have b2:=ay.t N
    refine Lw.t O (T.lit0 (α:=Str) 7 []) ?_
    rintro dd _ ⟨de,rfl,k,b3⟩
    have az:=b2.n k
    refine mv b O ?_
    obtain⟨df,b4,Y⟩:=ob Y
    refine Lw.t O (T.appP (α:=Str) b3 (f.ul az) O O b4) ?_
    rintro P _ ⟨dg,rfl,x,Q⟩
    have b5:=az.t x
    have S:=(((bu.up L).up N).up k).up x
    have U:=(b0.up k).up x
    refine Lw.r O (R.bd (zs:=[vB false, .slice none 0 0, .slice none 0 0, .slice none 0 0, .slice none 0 0]) (cs:=[vB true, .slice none 0 0,K,M,P]) [(0,vB true),(2,K),(3,M),(4,P)] O O O (zaD O O (zaD S.oc O (zaD U.oc O (zaD Q.oc O zcU))))) (sta ((((((an.up av).up ax).up L).up N).up k).up x) (zaa O (zaa O (zaa S.oc (zaa U.oc (zaa Q.oc zaw))))) fun dh y b6=>?_)
    have b7:=b5.t y
    refine nl ?_
    obtain⟨di,b8,z,b9⟩:=(S.up y).dyeO 32
    have cb:=b7.t z
    obtain⟨dj,cc,A,cd⟩:=((U.up y).up z).dyeO 33
    have ce:=cb.t A
    obtain⟨dk,cf,B,cg⟩:=(((Q.up y).up z).up A).dyeO 34
    have ch:=ce.t B
    cases Y
    rw[<- cf.trans (cc.trans (b8))]
    exact Cw.ret (zkj O (((b6.up z).up A).up B) (Res.mk ch ⟨.slice none 0 0,K,M,P,O,(zmG []).sub O O,((b9.up A).up B).s,(cd.up B).s,cg.s⟩))
 ·refine sr (mv a O (mv d O (ca Y (fun _=>p18 (e.ul h) (C.ul h)) fun ci cj Y V=>?_)))
  have a0:=h.n V
  refine Nb O (cn Y (fun Y=>?_) fun Y=>?_)
  ·exact sk ((ag) ⟨ci,cj,O,V,O,Y⟩)
  ·exact rg (mv a O (mv b O (ca Y (fun _=>p18 (e.ul a0) (f.ul a0)) fun ck cl Y cm=>Nb O ((ag) ⟨ck,cl,O,(V.j cm).w,O,Y⟩))))
theorem p112 {x0 h x1 i x2 k k0 k1 k2 k3 r}(x:Rd W K [h] x0)(y:Rd W K [i] x1)(z:Rd W K [k] x2)(Y:Vm.zez x0 x1 x2=some r):Q1 112 [h,i,k] W [] fun W' v=> ∃ a b d f,v = .agg [vB r.Clash,a,b,d,f].toArray/\Ow W' k0 [] [a] r.Lines/\Ow W' k1 [] [b] r.Old/\Ow W' k2 [] [d] r.One/\Ow W' k3 [] [f] r.Two:=
 zap.adJ (J:=[]) (fun c=>bif Nat.beq c 0 then 0 else bif Nat.beq c 31 then k0 else bif Nat.beq c 32 then k1 else bif Nat.beq c 33 then k2 else bif Nat.beq c 34 then k3 else 0) (c112 (x.view _) (y.view _) (z.view _) Y) fun _ _ ⟨a,b,d,f,e,A,B,C,D⟩=>⟨a,b,d,f,e,A.one1.backN O,B.one1.backN O,C.one1.backN O,D.one1.backN O⟩
end Go.Sx
