/- Walks: each function answers as its model, printed by a program of ours. Conditions: the arguments read as they are given. -/
import Derived.Test.YtpijdodljeieaaaGreatDoorBTs
import Derived.Test.YtpijdodljeieaaaGreatDoorBM1
import Derived.Test.YtpijdodljeieaaaGreatDoorBW0
import Derived.Test.YtpijdodljeieaaaGreatDoorBW5
namespace Go.Sx
open Go Go.Proofs Go.Vm Rp
set_option linter.unusedVariables false
set_option linter.unusedSimpArgs false
variable {W W0:CW}{K:List Nat}
theorem c76 {x0 E F r}(hB0:Bx W0 2 E [F,vI x0.p])(ac:Rd W0 [0] [F] x0.b)(Y:Vm.zdm x0=some r):Q0 76 [ptr (bx E)] W0 fun Wf v=> ∃ am an,v = .agg [am,an].toArray/\OwS Wf [31] [] [am] r.1.Commits/\OwS Wf [32] [] [an] r.1.Heads/\Bx Wf 2 E [F,vI r.2]:=by
 unfold Vm.zdm at Y
 refine zaT.of Tryz.func76 O O O O (sr (al 3 [.slice none 0 0, .slice none 0 0] fun g1 W1 l1 b1=>?_))
 have a2:=l1.o
 have b3:=hB0.up l1
 refine nl (sr (mp O (cr Y (fun _=>p122 (k0:=4) (k1:=5) (c0:=2) (x0:=x0) b3 (ac.ul a2) O) ?_)))
 rintro a _ W7 Y l7 ⟨A,G,rfl,ar,au,bc⟩
 have a8:=a2.t l7
 refine al 6 [.slice none 0 0, .slice none 0 0] fun bg cp l10 bh=>?_
 have bi:=a8.n l10
 refine sta bh (zaf (ar.up l10).oc (zaf (au.up l10).oc zaW)) fun av B H=>?_
 have ae:=bi.t B
 have I:=(ar.up l10).up B
 have aw:=(au.up l10).up B
 have ax:=(bc.up l10).up B
 refine nl ?_
 obtain⟨bj,bk,Y⟩:=zc4 Y
 refine Cw.join 7 44 [4] (fun l w=> ∃ af ah ai ay L M e,CW.w e=w/\Le [2,4,5,6,7] av e/\l=[ay]/\Bx e 2 E [F,vI af]/\Ow e 4 [] [L] ah/\Ow e 5 [] [M] ai/\Bx e 6 bg [L,M]/\bj af ah ai=some r) ?_ ?_
 ·rintro _ _ σ ⟨af,ah,ai,ay,L,M,e,rfl,az,rfl,bl,a0,a1,bm,Y⟩
  rw[bk]at Y
  have bn:=ae.t az
  refine sr (la bm (sta ((((b1.up l7).up l10).up B).up az) (zaf a0.oc (zaf a1.oc zaW)) fun cq N bp=>?_))
  have bq:=bn.t N
  refine nl ?_
  obtain⟨ct,br,P,bu⟩:=(a0.up N).dyeO 31
  have bv:=bq.t P
  obtain⟨cu,bw,Q,bz⟩:=((a1.up N).up P).dyeO 32
  have b0:=bv.t Q
  cases Y
  rw[<- bw.trans (br)]
  exact Cw.ret (zoh O ((bp.up P).up Q) (Res.mk b0 ⟨L,M,O,(bu.up Q).s,bz.s,(((bl.up N).up P).up Q)⟩))
 ·refine sr (fl H O (Lw.ln a.1.Commits I.rd O (Lw.gt O (nl (cn Y (fun Y=>?_) fun Y=>?_)))))
  ·refine sr (mp O (fl H O (Lw.ln a.1.Commits I.rd O (cr Y (fun _=>p78 (c0:=2) (x0:=(Vm.l30Rd.mk x0.b a.2)) ax (ac.ul ae) O) ?_))))
   rintro f _ cv Y d ⟨rfl,b2⟩
   have b4:=ae.t d
   refine Ni O (sr (mp O (cr Y (fun _=>p78 (c0:=2) (x0:=(Vm.l30Rd.mk x0.b f.2)) b2 (ac.ul b4) O) ?_)))
   rintro S _ a3 Y h ⟨rfl,U⟩
   have i:=(I.up d).up h
   have V:=(aw.up d).up h
   have k:=(H.up d).up h
   refine nl (Cw.block (sr (Lw.eq O (Nb O (cn Y (fun Y=>?_) fun Y=>?_)))))
   ·refine rg (fl k O (mi O (mi O (Lw.t O (T.bsS (α:=Int) (xs:=[f.1]) 7 [] (W:=a3) [vI f.1] (Each.cons ((rdI _)) Each.nil) O) ?_))))
    rintro cw _ ⟨cx,rfl,x,b5⟩
    obtain⟨cy,a4,Y⟩:=ob Y
    refine Lw.r O (R.ix (α:=Commit) (i.up x).rd a4 O O O) (Lw.fa O ?_)
    obtain⟨b6,b7,Y⟩:=ob Y
    refine Lw.u (T.stH (α:=Commit) (β:=List Int) (J:=[7]) (Ow.hole (α:=Commit) (β:=List Int) (jf:=0) (i.up x) a4) b5.s b7 O O O O) ?_
    rintro _ _ ⟨b8,rfl,X,b9⟩
    exact nl ((ag) ⟨S.2,b6,a.1.Heads,vI f.1,A,G,b8,O,(((d.j h).j x).j X).w,O,((U.up x).up X),b9,((V.up x).up X),((k.up x).up X),Y⟩)
   ·refine sr (Lw.eq O (Nb O (cn Y (fun Y=>?_) fun Y=>?_)))
    ·refine rg (fl k O (mi O ?_))
     obtain⟨cz,a5,Y⟩:=ob Y
     refine Lw.r O (R.ix (α:=Commit) i.rd a5 O O O) (Lw.fa O ?_)
     obtain⟨cb,cc,Y⟩:=ob Y
     refine Lw.u (T.stH (α:=Commit) (β:=Str) (J:=[]) (Ow.hole (α:=Commit) (β:=Str) (jf:=1) i a5) (OwS.atm (K:=[]) (rdS _)) cc O O O O) ?_
     rintro _ _ ⟨cd,rfl,Z,ce⟩
     exact nl ((ag) ⟨S.2,cb,a.1.Heads,vI f.1,A,G,cd,O,((d.j h).j Z).w,O,(U.up Z),ce,(V.up Z),(k.up Z),Y⟩)
    ·refine sr (Lw.eq O (Nb O (cn Y (fun Y=>?_) fun Y=>?_)))
     ·refine Cw.draw [5] [(0,0),(1,1),(2,0),(3,1),(4,0),(5,2),(6,2),(7,2),(8,0),(9,3)] mixed (by kernel_rfl) fun c1 C=>?_
      have aj:=V.up C
      have ak:=k.up C
      refine Dfl ak O O O (Dfl ak O O O ?_)
      obtain⟨y,a6,Y⟩:=ob Y
      refine Mw.p O O (fun _=>R.ix (α:=Head) aj.rd a6 O O O) ?_
      obtain⟨x112,c113,_,r114⟩:=(aj.rd.at_ a6).cells
      obtain rfl:=Head.split r114
      refine Mw.t O O (Run.tr (R.lda c113 O O)) ?_
      rintro _ _ ⟨hu,rfl⟩
      obtain rfl:=hu.symm
      refine⟨⟨_,O,(Le.refl _ _)⟩,?_⟩
      refine Mw.t O O (T.bs 8 [.agg [vS y.Name,vI y.At].toArray] (cs:=[vS y.Name,vI y.At]) O O (bsA O)) ?_
      rintro _ _ ⟨c2,c3,rfl,rfl,z,cf⟩
      refine m0 z fun cg=>?_
      obtain⟨ch,ci,Y⟩:=ob Y
      refine Mw.t O O (T.app1S (α:=Head) (K':=[]) (aj.up z) cf (Head.rd (K:=[]) y.Name y.At) O O ci) ?_
      rintro a7 _ ⟨c4,rfl,D,a9⟩
      refine mc cg D fun c5=>Df O (Mw.lu O (T.st (j:=1) (v:=a7) ((ak.up z).up D) O O a9.oc O O) ?_)
      rintro _ _ ⟨cj,rfl,aa,ck⟩
      exact Mw.nil ((ag) ⟨S.2,a.1.Commits,ch,vI f.1,A,a7,cj,O,(((((d.j h).j C).j z).j D).j aa).w,O,((((U.up C).up z).up D).up aa),((((i.up C).up z).up D).up aa),(a9.up aa),ck,Y⟩)
     ·exact sk ((ag) ⟨S.2,a.1.Commits,a.1.Heads,vI f.1,A,G,a3,O,(d.j h).w,O,U,i,V,k,Y⟩)
  ·exact sk ((ag) ⟨a.2,a.1.Commits,a.1.Heads,undef,A,G,av,O,Le.refl _ _,O,ax,I,aw,H,Y⟩)
theorem p76 {x0 f h k0 k1 c0 r}(hB0:Bx W c0 f [h,vI x0.p])(i:Rd W K [h] x0.b)(hJ:okJ K [c0]=true)(Y:Vm.zdm x0=some r):Q1 76 [ptr (bx f)] W [c0] fun W' v=> ∃ a d,v = .agg [a,d].toArray/\Ow W' k0 [] [a] r.1.Commits/\Ow W' k1 [] [d] r.1.Heads/\Bx W' c0 f [h,vI r.2]:=
 zaT.adJ (J:=[c0]) (fun c=>bif Nat.beq c 0 then 0 else bif Nat.beq c 2 then c0 else bif Nat.beq c 31 then k0 else bif Nat.beq c 32 then k1 else 0) (c76 (hB0.viewJ 0 hJ) (i.view _) Y) fun _ _ ⟨a,d,e,k,x,y⟩=>⟨a,d,e,k.one1.backN O,x.one1.backN O,Bx.backJ 0 y O⟩
theorem c108 {x0 H I x1 r}(h0:Rd W0 [0] [H,I] x0)(Y:Vm.zbA x0 x1=some r):Q0 108 [.agg [H,I].toArray,vI x1] W0 fun Wf v=> ∃ J,v=J/\OwS Wf LL [] [J] r:=by
 unfold Vm.zbA at Y
 obtain⟨a3,a4,K,A,a5⟩:=Repo.split h0
 simp only[List.cons.injEq,and_true,true_and]at K
 obtain⟨rfl,rfl⟩:=K
 refine zaT.of Tryz.func108 O O O O (sr (bo 2 O fun g1 W1 l1 L=>?_))
 have M:=l1.o
 refine Nv (.slice none 0 0) O (sr (fl L O (Lw.ln x0.Commits (A.ul M) O ?_)))
 obtain⟨q4,e5,Y⟩:=ob Y
 refine Lw.t O (T.mk (α:=Bool) 3 [] (n:=(x0.Commits.length:Int)) O O e5) ?_
 rintro a _ ⟨W6,rfl,N,P⟩
 have a7:=M.n N
 refine Nv a O (sr (mv a O (mi O ?_)))
 obtain⟨u9,ai,Y⟩:=ob Y
 refine Lw.r O (R.ix (α:=Bool) P.rd ai O O O) ?_
 obtain⟨aj,ak,Y⟩:=ob Y
 refine Lw.u (T.stS (K':=[]) P (rdB _) ak O O O) ?_
 rintro _ _ ⟨Q,rfl,S,am⟩
 have an:=a7.t S
 refine nl (ssr (mi O (Ni O (Cw.block ?_))))
 obtain⟨ao,ap,Y⟩:=zc4 Y
 refine Cw.loop 17 39 [6,8] (fun m l w=> ∃ i d k b,CW.w b=w/\Le [3] Q b/\l=[vI i,k]/\Ow b 3 [] [a] d/\Vm.zaz x0 ao m i d=some r) _ ⟨x1,aj,undef,Q,O,Le.refl _ _,O,am,Y⟩ ?_
 rintro(_ |bc) _ _ σ ⟨i,d,k,b,rfl,B,rfl,e,Y⟩
 ·cases Y
 unfold Vm.zaz at Y
 have C:=an.t B
 refine ssr (mi O (Lw.ge O (nl (cn Y (fun Y=>?_) fun Y=>?_))))
 ·refine sk ?_
  obtain⟨U,aq,Y⟩:=zc4 Y
  refine Cw.join 21 39 [8] (fun l w=> ∃ x D f,CW.w f=w/\Le [3] b f/\l=[D]/\Ow f 3 [] [a] x/\U x=some r) ?_ ?_
  ·rintro _ _ σ ⟨x,D,f,rfl,ar,rfl,au,Y⟩
   rw[aq]at Y
   exact rg (mi O (Lw.sub O (Ni O ((agm) ⟨w64 (i-1),x,D,f,O,(B.j ar).w,O,au,Y⟩))))
  ·refine Cw.block (sr (mv a O (mi O ?_)))
   obtain⟨be,V,Y⟩:=ob Y
   refine Lw.r O (R.ix (α:=Bool) e.rd V O O O) (Lw.r O (R.ld O O (e.rd.at_ V).bool) (nl (cn Y (fun Y=>?_) fun Y=>?_)))
   ·refine sr (fl (((L.up N).up S).up B) O (mi O ?_))
    obtain⟨W,X,Y⟩:=ob Y
    refine Lw.r O (R.ix (α:=Commit) (A.ul C) X O O O) (Lw.fa O ?_)
    obtain⟨bg,c40,r41⟩:=(Commit.at0 ((A.ul C).at_ X)).cell O
    refine Lw.r O (R.ld O O c40) (Lw.ln W.Parents r41 O (mi O (nl (Cw.block (Cw.loop 32 39 [8,32] (fun m l w=> ∃ y z E h,CW.w h=w/\Le [3] b h/\l=[E,vI y]/\Ow h 3 [] [a] z/\Vm.zaU U W m y z=some r) _ ⟨0,d,k,b,O,Le.refl _ _,O,e,Y⟩ ?_)))))
    rintro(_ |bh) _ _ σ ⟨y,z,E,h,rfl,F,rfl,G,Y⟩
    ·cases Y
    unfold Vm.zaU at Y
    have Z:=F.s
    refine sr (Lw.lt O (nl (Cw.seq (cn Y (fun Y=>?_) fun Y=>?_))))
    ·refine sk (Cw.seq (Cw.block (sr ?_)))
     obtain⟨av,aa,Y⟩:=ob Y
     refine Lw.r O (R.ix (α:=Int) (r41.ul Z) aa O O O) (Lw.r O (R.ld O O ((r41.ul Z).at_ aa).int) (Ni O (rg (mv a O (mi O ?_)))))
     obtain⟨bi,aw,Y⟩:=ob Y
     refine Lw.r O (R.ix (α:=Bool) G.rd aw O O O) ?_
     obtain⟨ax,ay,Y⟩:=ob Y
     refine Lw.u (T.stS (K':=[]) G (rdB _) ay O O O) ?_
     rintro _ _ ⟨az,rfl,a0,a1⟩
     exact nl (rg (Lw.add O (mi O (nl ((agm) ⟨w64 (y+1),ax,vI av,az,O,(F.j a0).w,O,a1,Y⟩)))))
    ·exact Cw.exit ((ag) ⟨z,E,h,O,F,O,G,Y⟩)
   ·exact sk ((ag) ⟨d,k,b,O,Le.refl _ _,O,e,Y⟩)
 ·refine Cw.exit ?_
  rw[ap]at Y
  refine sr (mv a O (Nv a O ?_))
  cases Y
  exact Cw.ret (zmk O (Res.mk C ⟨a,O,e.s.sub O O⟩))
theorem p108 {x0 b d x1 k0 r}(f:Rd W K [b,d] x0)(Y:Vm.zbA x0 x1=some r):Q1 108 [.agg [b,d].toArray,vI x1] W [] fun W' v=> ∃ a,v=a/\Ow W' k0 [] [a] r:=
 (c108 (f.view _) Y).ad (fk k0) fun _ _ ⟨a,e,h⟩=>⟨a,e,h.back (zlS _)⟩
theorem c103 {x0 k r}(x:Rd W0 [0] [k] x0)(Y:Vm.zdf x0=some r):Q0 103 [k] W0 fun Wf v=> ∃ C,v=C/\OwS Wf LL [] [C] r:=by
 unfold Vm.zdf at Y
 refine zaT.of Tryz.func103 O O O O (sr (Nv (.slice none 0 0) O (sr (Nv (.slice none 0 0) O (ssr (mv k O (Lw.ln x0 x O (mi O (nl (Cw.block ?_))))))))))
 obtain⟨K,L,Y⟩:=zc4 Y
 refine Cw.loop 8 18 [3,4,5,8] (fun m l w=> ∃ f a b D E d,CW.w d=w/\Le [2] W0 d/\l=[b,D,E,vI a]/\Ow d 2 [] [b] f/\Vm.zc7 x0 K m f a=some r) _ ⟨([]:List Int),0, .slice none 0 0,undef,undef,W0,O,Le.refl _ _,O,owN 2 [],Y⟩ ?_
 rintro(_ |m9) _ _ σ ⟨f,a,b,D,E,d,rfl,F,rfl,y,Y⟩
 ·cases Y
 unfold Vm.zc7 at Y
 have z:=F.s
 refine sr (Lw.lt O (nl (Cw.seq (cn Y (fun Y=>?_) fun Y=>?_))))
 ·refine sk ?_
  obtain⟨M,N,Y⟩:=zc4 Y
  refine Cw.join 10 17 [3,4,5] (fun l w=> ∃ h i A B e,CW.w e=w/\Le [2] d e/\l=[i,A,B]/\Ow e 2 [] [i] h/\M h=some r) ?_ ?_
  ·rintro _ _ σ ⟨h,i,A,B,e,rfl,P,rfl,Q,Y⟩
   rw[N]at Y
   exact rg (Lw.add O (mi O (nl ((agm) ⟨h,w64 (a+1),i,A,B,e,O,(F.j P).w,O,Q,Y⟩))))
  ·refine Cw.block (sr (mi O ?_))
   obtain⟨G,H,Y⟩:=ob Y
   refine Lw.r O (R.ix (α:=Bool) (x.ul z) H O O O) (Lw.r O (R.ld O O ((x.ul z).at_ H).bool) (Gi O (Nb O (sr (mb O (nl (cn Y (fun Y=>?_) fun Y=>?_)))))))
   ·refine rg (mv b O (mi O (Lw.t O (T.bs 3 [vI a] (cs:=[vI a]) O O (bsv O)) ?_)))
    rintro _ _ ⟨ac,ae,rfl,rfl,I,S⟩
    obtain⟨U,V,Y⟩:=ob Y
    refine Lw.t O (T.app1S (α:=Int) (K':=[]) (y.up I) S (rdI _) O O V) ?_
    rintro J _ ⟨W,rfl,X,Z⟩
    exact Nv J O ((ag) ⟨U,J,vI a,vB G,W,O,(I.j X).w,O,Z,Y⟩)
   ·exact sk ((ag) ⟨f,b,vI a,vB G,d,O,Le.refl _ _,O,y,Y⟩)
 ·refine Cw.exit ?_
  rw[L]at Y
  refine sr (mv b O (Nv b O ?_))
  cases Y
  exact Cw.ret (zmk O (Res.mk z ⟨b,O,y.s.sub O O⟩))
theorem p103 {x0 b k0 r}(d:Rd W K [b] x0)(Y:Vm.zdf x0=some r):Q1 103 [b] W [] fun W' v=> ∃ a,v=a/\Ow W' k0 [] [a] r:=
 (c103 (d.view _) Y).ad (fk k0) fun _ _ ⟨a,e,f⟩=>⟨a,e,f.back (zlS _)⟩
theorem c100 {x0 b d x1 r}(x:Rd W0 [0] [b,d] x0)(Y:Vm.za4 x0 x1=some r):Q0 100 [.agg [b,d].toArray,vI x1] W0 fun Wf v=> ∃ e,v=e/\Rd Wf [0] [e] r:=by
 unfold Vm.za4 at Y
 obtain⟨A,B,f,h,C⟩:=Repo.split x
 simp only[List.cons.injEq,and_true,true_and]at f
 obtain⟨rfl,rfl⟩:=f
 refine zaT.of Tryz.func100 O O O O (sr (bo 2 O fun D E y z=>?_))
 have a:=y.o
 refine Nv (.slice none 0 0) O (ssr (mi O (Lw.lt O (nl (cn Y (fun Y=>?_) fun Y=>?_)))))
 ·refine sr (Nv (.slice none 0 0) O ?_)
  cases Y
  exact Cw.ret (zmk O (Res.mk a ⟨.slice none 0 0,O,(rdN (K:=[0]))⟩))
 ·refine sk (sr (fl z O (mi O ?_)))
  obtain⟨F,i,Y⟩:=ob Y
  refine Lw.r O (R.ix (α:=Commit) (h.ul a) i O O O) (Lw.fa O ?_)
  obtain⟨k,c8,r9⟩:=(Commit.at2 ((h.ul a).at_ i)).cell O
  refine Lw.r O (R.ld O O c8) (Nv k O ?_)
  cases Y
  exact Cw.ret (zmk O (Res.mk a ⟨k,O,r9⟩))
theorem p100 {x0 b d x1 r}(f:Rd W K [b,d] x0)(Y:Vm.za4 x0 x1=some r):Q1 100 [.agg [b,d].toArray,vI x1] W [] fun W' v=> ∃ a,v=a/\Rd W' (0::K) [a] r:=
 (c100 (f.view _) Y).ad (fk 0) fun _ _ ⟨a,e,h⟩=>⟨a,e,h.back O⟩
end Go.Sx
