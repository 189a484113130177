/- Walks: each function answers as its model, printed by a program of ours. Conditions: the arguments read as they are given. -/
import Derived.Test.YtifbmanldeabeaaGreatDoorGTs
import Derived.Test.YtifbmanldeabeaaGreatDoorGM2
import Derived.Test.YtifbmanldeabeaaGreatDoorGW10
import Derived.Test.YtifbmanldeabeaaGreatDoorGW8
namespace Go.Sx
open Go Go.Proofs Go.Vm Rp
set_option linter.unusedVariables false
set_option linter.unusedSimpArgs false
variable {W W0:CW}{K:List Nat}
theorem c63 {x0 E F r}(hB0:Bx W0 2 E [F,vI x0.p])(ac:Rd W0 [0] [F] x0.b)(Y:Vm.zer x0=some r):Q0 63 [ptr (bx E)] W0 fun Wf v=> ∃ am an,v = .agg [am,an].toArray/\OwS Wf [31] [] [am] r.1.Commits/\OwS Wf [32] [] [an] r.1.Heads/\Bx Wf 2 E [F,vI r.2]:=by
 unfold Vm.zer at Y
 refine zao.of Tryz.func63 O O O O (sr (al 3 [.slice none 0 0, .slice none 0 0] fun g1 W1 l1 b1=>?_))
 have a2:=l1.o
 have b3:=hB0.up l1
 refine nl (sr (mp O (cr Y (fun _=>p119 (k0:=4) (k1:=5) (c0:=2) (x0:=x0) b3 (ac.ul a2) O) ?_)))
 rintro a _ W7 Y l7 ⟨A,G,rfl,ar,au,bc⟩
 have a8:=a2.t l7
 refine al 6 [.slice none 0 0, .slice none 0 0] fun bg cp l10 bh=>?_
 have bi:=a8.n l10
 refine sta bh (zaa (ar.up l10).oc (zaa (au.up l10).oc zaG)) fun av B H=>?_
 have ae:=bi.t B
 have I:=(ar.up l10).up B
 have aw:=(au.up l10).up B
 have ax:=(bc.up l10).up B
 refine nl ?_
 obtain⟨bj,bk,Y⟩:=zaY Y
 refine Cw.join 7 44 [4] (fun l w=> ∃ af ah ai ay L M e,CW.w e=w/\Le [2,4,5,6,7] av e/\l=[ay]/\Bx e 2 E [F,vI af]/\Ow e 4 [] [L] ah/\Ow e 5 [] [M] ai/\Bx e 6 bg [L,M]/\bj af ah ai=some r) ?_ ?_
 ·rintro _ _ σ ⟨af,ah,ai,ay,L,M,e,rfl,az,rfl,bl,a0,a1,bm,Y⟩
  rw[bk]at Y
  have bn:=ae.t az
  refine sr (la bm (sta ((((b1.up l7).up l10).up B).up az) (zaa a0.oc (zaa a1.oc zaG)) fun cq N bp=>?_))
  have bq:=bn.t N
  refine nl ?_
  obtain⟨ct,br,P,bu⟩:=(a0.up N).dyeO 31
  have bv:=bq.t P
  obtain⟨cu,bw,Q,bz⟩:=((a1.up N).up P).dyeO 32
  have b0:=bv.t Q
  cases Y
  rw[<- bw.trans (br)]
  exact Cw.ret (zn3 O ((bp.up P).up Q) (Res.mk b0 ⟨L,M,O,(bu.up Q).s,bz.s,(((bl.up N).up P).up Q)⟩))
 ·refine sr (fl H O (Lw.ln a.1.Commits I.rd O (Lw.gt O (nl (cn Y (fun Y=>?_) fun Y=>?_)))))
  ·refine sr (mp O (fl H O (Lw.ln a.1.Commits I.rd O (cr Y (fun _=>p110 (c0:=2) (x0:=(Vm.l30Rd.mk x0.b a.2)) ax (ac.ul ae) O) ?_))))
   rintro f _ cv Y d ⟨rfl,b2⟩
   have b4:=ae.t d
   refine Ni O (sr (mp O (cr Y (fun _=>p110 (c0:=2) (x0:=(Vm.l30Rd.mk x0.b f.2)) b2 (ac.ul b4) O) ?_)))
   rintro S _ a3 Y h ⟨rfl,U⟩
   have i:=(I.up d).up h
   have V:=(aw.up d).up h
   have k:=(H.up d).up h
   refine nl (Cw.block (sr (Lw.eq O (Nb O (cn Y (fun Y=>?_) fun Y=>?_)))))
   ·refine rg (fl k O (mi O (mi O (Lw.t O (T.bsS (α:=Int) (xs:=[f.1]) 7 [] (W:=a3) [vI f.1] (Each.cons ((rdI _)) Each.nil) O) ?_))))
    rintro cw _ ⟨cx,rfl,x,b5⟩
    obtain⟨cy,a4,Y⟩:=ob Y
    refine Lw.r O (R.ix (α:=Commit) (i.up x).rd a4 O O O) (Lw.fa O ?_)
    obtain⟨b6,b7,Y⟩:=ob Y
    refine Lw.u (T.stH (α:=Commit) (β:=List Int) (J:=[7]) (Ow.hole (α:=Commit) (β:=List Int) (jf:=0) (i.up x) a4) b5.s b7 O O O O) ?_
    rintro _ _ ⟨b8,rfl,X,b9⟩
    exact nl ((ag) ⟨S.2,b6,a.1.Heads,vI f.1,A,G,b8,O,(((d.j h).j x).j X).w,O,((U.up x).up X),b9,((V.up x).up X),((k.up x).up X),Y⟩)
   ·refine sr (Lw.eq O (Nb O (cn Y (fun Y=>?_) fun Y=>?_)))
    ·refine rg (fl k O (mi O ?_))
     obtain⟨cz,a5,Y⟩:=ob Y
     refine Lw.r O (R.ix (α:=Commit) i.rd a5 O O O) (Lw.fa O ?_)
     obtain⟨cb,cc,Y⟩:=ob Y
     refine Lw.u (T.stH (α:=Commit) (β:=Str) (J:=[]) (Ow.hole (α:=Commit) (β:=Str) (jf:=1) i a5) (OwS.atm (K:=[]) (rdS _)) cc O O O O) ?_
     rintro _ _ ⟨cd,rfl,Z,ce⟩
     exact nl ((ag) ⟨S.2,cb,a.1.Heads,vI f.1,A,G,cd,O,((d.j h).j Z).w,O,(U.up Z),ce,(V.up Z),(k.up Z),Y⟩)
    ·refine sr (Lw.eq O (Nb O (cn Y (fun Y=>?_) fun Y=>?_)))
     ·refine Cw.draw [5] [(0,0),(1,1),(2,0),(3,1),(4,0),(5,2),(6,2),(7,2),(8,0),(9,3)] mixed (by kernel_rfl) fun c1 C=>?_
      have aj:=V.up C
      have ak:=k.up C
      refine Dfl ak O O O (Dfl ak O O O ?_)
      obtain⟨y,a6,Y⟩:=ob Y
      refine Mw.p O O (fun _=>R.ix (α:=Head) aj.rd a6 O O O) ?_
      obtain⟨x112,c113,_,r114⟩:=(aj.rd.at_ a6).cells
      obtain rfl:=Head.split r114
      refine Mw.t O O (Run.tr (R.lda c113 O O)) ?_
      rintro _ _ ⟨hu,rfl⟩
      obtain rfl:=hu.symm
      refine⟨⟨_,O,(Le.refl _ _)⟩,?_⟩
      refine Mw.t O O (T.bs 8 [.agg [vS y.Name,vI y.At].toArray] (cs:=[vS y.Name,vI y.At]) O O (bsA O)) ?_
      rintro _ _ ⟨c2,c3,rfl,rfl,z,cf⟩
      refine m0 z fun cg=>?_
      obtain⟨ch,ci,Y⟩:=ob Y
      refine Mw.t O O (T.app1S (α:=Head) (K':=[]) (aj.up z) cf (Head.rd (K:=[]) y.Name y.At) O O ci) ?_
      rintro a7 _ ⟨c4,rfl,D,a9⟩
      refine mc cg D fun c5=>Df O (Mw.lu O (T.st (j:=1) (v:=a7) ((ak.up z).up D) O O a9.oc O O) ?_)
      rintro _ _ ⟨cj,rfl,aa,ck⟩
      exact Mw.nil ((ag) ⟨S.2,a.1.Commits,ch,vI f.1,A,a7,cj,O,(((((d.j h).j C).j z).j D).j aa).w,O,((((U.up C).up z).up D).up aa),((((i.up C).up z).up D).up aa),(a9.up aa),ck,Y⟩)
     ·exact sk ((ag) ⟨S.2,a.1.Commits,a.1.Heads,vI f.1,A,G,a3,O,(d.j h).w,O,U,i,V,k,Y⟩)
  ·exact sk ((ag) ⟨a.2,a.1.Commits,a.1.Heads,undef,A,G,av,O,Le.refl _ _,O,ax,I,aw,H,Y⟩)
theorem p63 {x0 f h k0 k1 c0 r}(hB0:Bx W c0 f [h,vI x0.p])(i:Rd W K [h] x0.b)(hJ:okJ K [c0]=true)(Y:Vm.zer x0=some r):Q1 63 [ptr (bx f)] W [c0] fun W' v=> ∃ a d,v = .agg [a,d].toArray/\Ow W' k0 [] [a] r.1.Commits/\Ow W' k1 [] [d] r.1.Heads/\Bx W' c0 f [h,vI r.2]:=
 zao.adJ (J:=[c0]) (fun c=>bif Nat.beq c 0 then 0 else bif Nat.beq c 2 then c0 else bif Nat.beq c 31 then k0 else bif Nat.beq c 32 then k1 else 0) (c63 (hB0.viewJ 0 hJ) (i.view _) Y) fun _ _ ⟨a,d,e,k,x,y⟩=>⟨a,d,e,k.one1.backN O,x.one1.backN O,Bx.backJ 0 y O⟩
end Go.Sx
