/- Walks: each function answers as its model, printed by a program of ours. Conditions: the arguments read as they are given. -/
import Derived.Test.YtjokjcdckcpijaaDoorATs
import Derived.Test.YtjokjcdckcpijaaDoorAM1
import Derived.Test.YtjokjcdckcpijaaDoorAW0
import Derived.Test.YtjokjcdckcpijaaDoorAW1
import Derived.Test.YtjokjcdckcpijaaDoorAW2
namespace Go.Sx
open Go Go.Proofs Go.Vm Rp
set_option linter.unusedVariables false
set_option linter.unusedSimpArgs false
variable {W W0:CW}{K:List Nat}
theorem c34 {x0 B C r}(hB0:Bx W0 2 B [C,vI x0.p])(h:Rd W0 [0] [C] x0.b)(Y:Vm.zbZ x0=some r):Q0 34 [ptr (bx B)] W0 fun Wf v=> ∃ ap,v = .agg [vI r.1.Kind,vS r.1.Branch,vS r.1.Who,vS r.1.Path,vS r.1.To,vI r.1.At,ap].toArray/\OwS Wf [31] [] [ap] r.1.Text/\Bx Wf 2 B [C,vI r.2]:=by
 unfold Vm.zbZ at Y
 refine zaq.of Tryd.func34 O O O O (sr (al 3 [vI 0,vS ([]:Str),vS ([]:Str),vS ([]:Str),vS ([]:Str),vI 0, .slice none 0 0] fun g1 W1 l1 b1=>?_))
 have a2:=l1.o
 have b3:=hB0.up l1
 refine nl (sr (mp O (cr Y (fun _=>p19 (k0:=4) (c0:=2) (x0:=x0) b3 (h.ul a2) O) ?_)))
 rintro a _ W7 Y l7 ⟨D,rfl,av,a3⟩
 have a8:=a2.t l7
 refine al 5 [vI 0,vS ([]:Str),vS ([]:Str),vS ([]:Str),vS ([]:Str),vI 0, .slice none 0 0] fun a5 ci l10 a6=>?_
 have a7:=a8.n l10
 refine sta a6 (zaa O (zaa O (zaa O (zaa O (zaa O (zaa O (zaa (av.up l10).oc zdw))))))) fun a9 E ba=>?_
 have I:=a7.t E
 refine nl ?_
 obtain⟨bb,bc,Y⟩:=zcR Y
 refine Cw.join 6 32 [] (fun l w=> ∃ J L N P Q R S U F e,CW.w e=w/\Le [2,4,5] a9 e/\l=[]/\Bx e 2 B [C,vI J]/\Ow e 4 [] [F] U/\Bx e 5 a5 [vI L,vS N,vS P,vS Q,vS R,vI S,F]/\bb J L N P Q R S U=some r) ?_ ?_
 ·rintro _ _ σ ⟨J,L,N,P,Q,R,S,U,F,e,rfl,aw,rfl,be,ax,bg,Y⟩
  rw[bc]at Y
  have bh:=I.t aw
  refine sr (la bg (sta ((((b1.up l7).up l10).up E).up aw) (zaa O (zaa O (zaa O (zaa O (zaa O (zaa O (zaa ax.oc zdw))))))) fun cj V bi=>?_))
  have bj:=bh.t V
  refine nl ?_
  obtain⟨ck,bk,X,bl⟩:=(ax.up V).dyeO 31
  have bm:=bj.t X
  cases Y
  rw[<- bk]
  exact Cw.ret (zoX O (bi.up X) (Res.mk bm ⟨F,O,bl.s,((be.up V).up X)⟩))
 ·refine sr (mp O (cr Y (fun _=>p20 (c0:=2) (x0:=(Vm.l30Rd.mk x0.b a.2)) ((a3.up l10).up E) (h.ul I) O) ?_))
  rintro i _ G Y d ⟨rfl,k⟩
  have Z:=I.t d
  have x:=((av.up l10).up E).up d
  have f:=ba.up d
  refine nl (Cw.block (sr (Lw.eq O (Nb O (cn Y (fun Y=>?_) fun Y=>?_)))))
  ·refine rg (mp O (Lw.t O (T.bsS (α:=Int) (xs:=[0,8,1]) 6 [] (W:=G) [vI 0,vI 8,vI 1] (Each.cons ((rdI _)) (Each.cons ((rdI _)) (Each.cons ((rdI _)) Each.nil))) O) ?_))
   rintro cl _ ⟨cm,rfl,y,bn⟩
   have bp:=Z.n y
   refine cr Y (fun _=>p59 (K:=[0,6]) (c0:=2) (x0:=(Vm.l30Rd.mk x0.b i.2)) (k.up y) ((h.ul bp).sub (M:=[0,6]) O) (bn.rd.sub (M:=[0,6]) O) O) ?_
   rintro aa _ co Y ac ⟨rfl,bq⟩
   refine Lw.fa O (Lw.u (T.st (j:=0) (v:=vI aa.1) ((f.up y).up ac) O O O O O) ?_)
   rintro _ _ ⟨br,rfl,ae,bu⟩
   exact nl ((ag) ⟨aa.2,aa.1,a.1.Branch,a.1.Who,a.1.Path,a.1.To,a.1.At,a.1.Text,D,br,O,(((d.j y).j ac).j ae).w,O,(bq.up ae),(((x.up y).up ac).up ae),bu,Y⟩)
  ·refine sr (Lw.eq O (Nb O (cn Y (fun Y=>?_) fun Y=>?_)))
   ·refine rg (mp O (Lw.t O (T.bsS (α:=Str) (xs:=[([]:Str),([77,97,105,110]:Str)]) 7 [] (W:=G) [vS ([]:Str),vS ([77,97,105,110]:Str)] (Each.cons ((rdS _)) (Each.cons ((rdS _)) Each.nil)) O) ?_))
    rintro cp _ ⟨cq,rfl,z,bv⟩
    have bw:=Z.n z
    refine cr Y (fun _=>p45 (K:=[0,7]) (c0:=2) (x0:=(Vm.l30Rd.mk x0.b i.2)) (k.up z) ((h.ul bw).sub (M:=[0,7]) O) (bv.rd.sub (M:=[0,7]) O) O) ?_
    rintro af _ ct Y ah ⟨rfl,bz⟩
    refine Lw.fa O (Lw.u (T.st (j:=1) (v:=vS af.1) ((f.up z).up ah) O O O O O) ?_)
    rintro _ _ ⟨b0,rfl,ai,b2⟩
    exact nl ((ag) ⟨af.2,a.1.Kind,af.1,a.1.Who,a.1.Path,a.1.To,a.1.At,a.1.Text,D,b0,O,(((d.j z).j ah).j ai).w,O,(bz.up ai),(((x.up z).up ah).up ai),b2,Y⟩)
   ·refine sr (Lw.eq O (Nb O (cn Y (fun Y=>?_) fun Y=>?_)))
    ·refine rg (fl f O (Lw.t O (T.bs 8 [vS ([97,124,98]:Str)] (cs:=[vS ([97,124,98]:Str)]) O O (bsv O)) ?_))
     rintro _ _ ⟨cu,cv,rfl,rfl,H,b4⟩
     obtain⟨b5,b6,Y⟩:=ob Y
     refine Lw.t O (T.app1S (α:=Str) (K':=[]) (x.up H) b4 (rdS _) O O b6) ?_
     rintro ay _ ⟨cw,rfl,aj,az⟩
     refine Lw.fa O (Lw.u (T.st (j:=6) (v:=ay) ((f.up H).up aj) O O az.oc O O) ?_)
     rintro _ _ ⟨b7,rfl,ak,b8⟩
     exact nl ((ag) ⟨i.2,a.1.Kind,a.1.Branch,a.1.Who,a.1.Path,a.1.To,a.1.At,b5,ay,b7,O,(((d.j H).j aj).j ak).w,O,(((k.up H).up aj).up ak),(az.up ak),b8,Y⟩)
    ·refine sr (Lw.eq O (Nb O (cn Y (fun Y=>?_) fun Y=>?_)))
     ·refine rg (mp O (Lw.t O (T.bsS (α:=Int) (xs:=[(-1),16]) 9 [] (W:=G) [vI (-1),vI 16] (Each.cons ((rdI _)) (Each.cons ((rdI _)) Each.nil)) O) ?_))
      rintro cx _ ⟨cy,rfl,A,b9⟩
      have cb:=Z.n A
      refine cr Y (fun _=>p59 (K:=[0,9]) (c0:=2) (x0:=(Vm.l30Rd.mk x0.b i.2)) (k.up A) ((h.ul cb).sub (M:=[0,9]) O) (b9.rd.sub (M:=[0,9]) O) O) ?_
      rintro am _ cz Y an ⟨rfl,cc⟩
      refine Lw.fa O (Lw.u (T.st (j:=5) (v:=vI am.1) ((f.up A).up an) O O O O O) ?_)
      rintro _ _ ⟨cd,rfl,ao,ce⟩
      exact nl ((ag) ⟨am.2,a.1.Kind,a.1.Branch,a.1.Who,a.1.Path,a.1.To,am.1,a.1.Text,D,cd,O,(((d.j A).j an).j ao).w,O,(cc.up ao),(((x.up A).up an).up ao),ce,Y⟩)
     ·exact sk ((ag) ⟨i.2,a.1.Kind,a.1.Branch,a.1.Who,a.1.Path,a.1.To,a.1.At,a.1.Text,D,G,O,d.w,O,k,x,f,Y⟩)
theorem p34 {x0 d f k0 c0 r}(hB0:Bx W c0 d [f,vI x0.p])(h:Rd W K [f] x0.b)(hJ:okJ K [c0]=true)(Y:Vm.zbZ x0=some r):Q1 34 [ptr (bx d)] W [c0] fun W' v=> ∃ a,v = .agg [vI r.1.Kind,vS r.1.Branch,vS r.1.Who,vS r.1.Path,vS r.1.To,vI r.1.At,a].toArray/\Ow W' k0 [] [a] r.1.Text/\Bx W' c0 d [f,vI r.2]:=
 zaq.adJ (J:=[c0]) (fun c=>bif Nat.beq c 0 then 0 else bif Nat.beq c 2 then c0 else bif Nat.beq c 31 then k0 else 0) (c34 (hB0.viewJ 0 hJ) (h.view _) Y) fun _ _ ⟨a,e,i,k⟩=>⟨a,e,i.one1.backN O,Bx.backJ 0 k O⟩
theorem c11 {x0 a r}(k:Rd W0 [0] [a] x0)(Y:Vm.zbK x0=some r):Q0 11 [a] W0 fun Wf v=> ∃ b,v = .agg [vI r.Kind,vS r.Branch,vS r.Who,vS r.Path,vS r.To,vI r.At,b].toArray/\OwS Wf LL [] [b] r.Text:=by
 unfold Vm.zbK at Y
 refine zaq.of Tryd.func11 O O O O (sr (al 2 [vI 0,vS ([]:Str),vS ([]:Str),vS ([]:Str),vS ([]:Str),vI 0, .slice none 0 0] fun I J x y=>?_))
 have d:=x.o
 refine nl (sr (mv a O (cr Y (fun _=>p18 (k0:=3) (k.ul d)) ?_)))
 rintro z _ K Y e ⟨L,N,rfl,A,B⟩
 have C:=B.sub (M:=[0]) O
 have D:=d.n e
 refine cr Y (fun _=>p34 (k0:=4) (c0:=3) (x0:=z) A C O) ?_
 rintro P _ Q Y f ⟨E,rfl,h,R⟩
 have F:=D.t f
 refine sta ((y.up e).up f) (zaa O (zaa O (zaa O (zaa O (zaa O (zaa O (zaa h.oc zdw))))))) fun S i G=>?_
 have H:=F.t i
 refine nl ?_
 cases Y
 exact Cw.ret (zoX O G (Res.mk H ⟨E,O,(h.up i).s.sub O O⟩))
theorem p11 {x0 b k0 r}(d:Rd W K [b] x0)(Y:Vm.zbK x0=some r):Q1 11 [b] W [] fun W' v=> ∃ a,v = .agg [vI r.Kind,vS r.Branch,vS r.Who,vS r.Path,vS r.To,vI r.At,a].toArray/\Ow W' k0 [] [a] r.Text:=
 (c11 (d.view _) Y).ad (fk k0) fun _ _ ⟨a,e,f⟩=>⟨a,e,f.back (zl3 _)⟩
theorem c14 {x0 a r}(e:Rd W0 [0] [vI x0.Kind,vS x0.Branch,vS x0.Who,vS x0.Path,vS x0.To,vI x0.At,a] x0)(Y:Vm.zdi x0=some r):Q0 14 [.agg [vI x0.Kind,vS x0.Branch,vS x0.Who,vS x0.Path,vS x0.To,vI x0.At,a].toArray] W0 fun Wf v=>v=vB r:=by
 unfold Vm.zdi at Y
 obtain⟨y,b,f⟩:=Op.split e
 simp only[List.cons.injEq,and_true,true_and]at b
 obtain rfl:=b
 refine zaq.of Tryd.func14 O O O O (sr (bo 2 O fun z A h i=>?_))
 have d:=h.o
 refine Nb O (sr (la i (ca Y (fun _=>p31 (Op.rd (K:=[0]) x0.Kind x0.Branch x0.Who x0.Path x0.To x0.At x0.Text (f.ul d))) fun B C Y k=>?_)))
 have x:=d.n k
 exact Nb O (.ret (rt Y x))
theorem p14 {x0 a r}(b:Rd W K [vI x0.Kind,vS x0.Branch,vS x0.Who,vS x0.Path,vS x0.To,vI x0.At,a] x0)(Y:Vm.zdi x0=some r):Q1 14 [.agg [vI x0.Kind,vS x0.Branch,vS x0.Who,vS x0.Path,vS x0.To,vI x0.At,a].toArray] W [] fun W' v=>v=vB r:=
 (c14 (b.view _) Y).ad (fk 0) fun _ _ e=>e
theorem c4 {x0 H r}(h0:Rd W0 [0] [H] x0)(B:Gk 2 0 1 W0 [0])(Y:Vm.zcN x0=some r):Q0 4 [H] W0 fun Wf v=>v=vB r:=by
 unfold Vm.zcN at Y
 refine zaq.of Tryd.func4 O O O O (sr (Nb O (ssr (mv H O (Lw.ln x0 h0 O (Lw.gt O (nl (cn Y (fun Y=>?_) fun Y=>?_))))))))
 ·exact sr (Nb O (.ret (rt Y (Le.refl _ _))))
 ·refine sk (sr (mv H O (cr Y (fun _=>p11 (k0:=2) h0) ?_)))
  rintro a _ W4 Y l4 ⟨f,rfl,ap⟩
  have a5:=l4.o
  refine al 3 [vI 0,vS ([]:Str),vS ([]:Str),vS ([]:Str),vS ([]:Str),vI 0, .slice none 0 0] fun g6 W6 Q b6=>?_
  have a7:=a5.n Q
  refine sta b6 (zaa O (zaa O (zaa O (zaa O (zaa O (zaa O (zaa (ap.up Q).oc zdw))))))) fun W9 l9 S=>?_
  have ar:=a7.t l9
  have U:=(ap.up Q).up l9
  refine nl (sr (la S (ca Y (fun _=>p10 (K:=[0,2]) (x0:=(Vm.Op.mk a.Kind a.Branch a.Who a.Path a.To a.At a.Text)) ((Op.rd (K:=[2]) a.Kind a.Branch a.Who a.Path a.To a.At a.Text U.rd).sub (M:=[0,2]) O) ((B.ul ar).sub (M:=[0,2]) O)) fun V a6 Y C=>?_)))
  have au:=ar.n C
  refine Ns O (Cw.seq ?_)
  obtain⟨a8,a9,Y⟩:=zcR Y
  refine Cw.join 14 28 [28] (fun l w=> ∃ W I,CW.w I=w/\Le [] a6 I/\l=[vB W]/\a8 W=some r) ?_ ?_
  ·rintro _ _ σ ⟨W,I,rfl,X,rfl,Y⟩
   rw[a9]at Y
   have J:=au.n X
   have Z:=(U.up C).up X
   have av:=(S.up C).up X
   refine cn Y (fun Y=>?_) fun Y=>?_
   ·obtain⟨ba,bb,Y⟩:=zcR Y
    refine Cw.join 29 44 [2] (fun l w=> ∃ aa ac,CW.w ac=w/\Le [] I ac/\l=[vB aa]/\ba aa=some r) ?_ ?_
    ·rintro _ _ σ ⟨aa,ac,rfl,bc,rfl,Y⟩
     rw[bb]at Y
     have be:=J.n bc
     exact .ret (rt Y be)
    ·refine Cw.draw [] [(0,0),(1,1),(2,2),(3,0),(4,0),(5,1),(7,1),(6,2),(8,2),(9,0),(10,0),(11,0),(12,1),(13,2),(14,0),(15,0),(16,0)] mixed (by kernel_rfl) fun cx h=>?_
     have bg:=J.n h
     have L:=av.up h
     refine Ds O (Mw.q O O (fun _ c=>R.lda (cs:=[vI a.Kind,vS a.Branch,vS a.Who,vS a.Path,vS a.To,vI a.At,f]) (L.clcs O c) O O) ?_)
     obtain⟨cy,bh,Y⟩:=ob Y
     refine Mw.t O O (T.call O (p12 (K:=[2]) (x0:=(Vm.Op.mk a.Kind a.Branch a.Who a.Path a.To a.At a.Text)) (Op.rd (K:=[2]) a.Kind a.Branch a.Who a.Path a.To a.At a.Text (Z.up h).rd) bh)) ?_
     rintro _ _ ⟨bi,rfl,x,rfl⟩
     have aw:=bg.n x
     have ae:=(Z.up h).up x
     refine m0 x fun bj=>Mw.p O O (fun _=>R.seq O O) (Db O (bs Y (fun d Y=>?_) fun d Y=>?_))
     ·refine Wq d O (fun _ c=>R.lda (cs:=[vI a.Kind,vS a.Branch,vS a.Who,vS a.Path,vS a.To,vI a.At,f]) (L.clcs O c) O O) (Wq d O (fun _ c=>R.lda (cs:=[vI a.Kind,vS a.Branch,vS a.Who,vS a.Path,vS a.To,vI a.At,f]) (L.clcs O c) O O) ?_)
      obtain⟨bk,bl,Y⟩:=ob Y
      refine Wt d O (T.call O (p13 (K:=[0,2]) (x0:=(Vm.Op.mk a.Kind a.Branch a.Who a.Path a.To a.At a.Text)) ((Op.rd (K:=[2]) a.Kind a.Branch a.Who a.Path a.To a.At a.Text ae.rd).sub (M:=[0,2]) O) ((B.ul aw).sub (M:=[0,2]) O) bl)) ?_
      rintro _ _ ⟨cz,rfl,y,rfl⟩
      have bm:=aw.n y
      refine mc bj y fun bn=>?_
      obtain⟨bp,bq,Y⟩:=ob Y
      refine Wt d O (T.call O (p14 (K:=[2]) (x0:=(Vm.Op.mk a.Kind a.Branch a.Who a.Path a.To a.At a.Text)) (Op.rd (K:=[2]) a.Kind a.Branch a.Who a.Path a.To a.At a.Text (ae.up y).rd) bq)) ?_
      rintro _ _ ⟨br,rfl,D,rfl⟩
      have bu:=bm.n D
      refine mc bn D fun bv=>Wp d O (fun _=>R.beq O O) (Mw.p O O (fun _=>R.pk d O (v:=vB (bk==bp)) O) (Db O (bs Y (fun i Y=>?_) fun i Y=>?_)))
      ·refine Wq i O (fun _ c=>R.lda (cs:=[vI a.Kind,vS a.Branch,vS a.Who,vS a.Path,vS a.To,vI a.At,f]) (L.clcs O c) O O) ?_
       obtain⟨ax,bw,Y⟩:=ob Y
       refine Wt i O (T.call O (p13 (K:=[0,2]) (x0:=(Vm.Op.mk a.Kind a.Branch a.Who a.Path a.To a.At a.Text)) ((Op.rd (K:=[2]) a.Kind a.Branch a.Who a.Path a.To a.At a.Text ((ae.up y).up D).rd).sub (M:=[0,2]) O) ((B.ul bu).sub (M:=[0,2]) O) bw)) ?_
       rintro _ _ ⟨bz,rfl,ay,rfl⟩
       exact mc bv ay fun c0=>Wp i O (fun _=>R.not O) (Mw.p O O (fun _=>R.pk i O (v:=vB (!ax)) O) (Hb O (Mw.nil ((ag) ⟨(!ax),bz,O,((((h.j x).j y).j D).j ay).w,O,Y⟩))))
      ·exact dps 3 i O (Mw.p O O (fun _=>R.pk i O (v:=vB false) O) (Hb O (Mw.nil ((ag) ⟨false,br,O,(((h.j x).j y).j D).w,O,Y⟩))))
     ·exact dps 5 d O (Mw.p O O (fun _=>R.pk d O (v:=vB false) O) (Db O (dps 3 O O (Mw.p O O (fun _=>R.pk O O (v:=vB false) O) (Hb O (Mw.nil ((ag) ⟨false,bi,O,(h.j x).w,O,Y⟩)))))))
   ·refine sk (sr (ms O (cr Y (fun _=>p7 (k0:=4) (B.ul J)) ?_)))
    rintro b _ c1 Y af ⟨E,rfl,az⟩
    have b0:=J.n af
    refine mv (.tuple [.agg [vI b.1.Kind,vS b.1.Branch,vS b.1.Who,vS b.1.Path,vS b.1.To,vI b.1.At,E].toArray,vB b.2].toArray) O (Lw.r O (R.ext (vs:=[.agg [vI b.1.Kind,vS b.1.Branch,vS b.1.Who,vS b.1.Path,vS b.1.To,vI b.1.At,E].toArray,vB b.2]) (v:= .agg [vI b.1.Kind,vS b.1.Branch,vS b.1.Who,vS b.1.Path,vS b.1.To,vI b.1.At,E].toArray) O O) (Lw.r O (R.ext (vs:=[.agg [vI b.1.Kind,vS b.1.Branch,vS b.1.Who,vS b.1.Path,vS b.1.To,vI b.1.At,E].toArray,vB b.2]) (v:=vB b.2) O O) (al 5 [vI 0,vS ([]:Str),vS ([]:Str),vS ([]:Str),vS ([]:Str),vI 0, .slice none 0 0] fun c2 c3 F b1=>?_)))
    have b2:=b0.n F
    refine sta b1 (zaa O (zaa O (zaa O (zaa O (zaa O (zaa O (zaa (az.up F).oc zdw))))))) fun ah N b3=>?_
    have b4:=b2.t N
    refine Nb O ?_
    obtain⟨b5,b7,Y⟩:=zcR Y
    refine Cw.join 50 55 [2] (fun l w=> ∃ ai aj,CW.w aj=w/\Le [] ah aj/\l=[vB ai]/\b5 ai=some r) ?_ ?_
    ·rintro _ _ σ ⟨ai,aj,rfl,b8,rfl,Y⟩
     rw[b7]at Y
     have cb:=b4.n b8
     exact .ret (rt Y cb)
    ·refine rg (mb O (mb O (bs Y (fun G Y=>?_) fun G Y=>?_)))
     ·refine wak 3 G (la b3 (la (((av.up af).up F).up N) ?_))
      have cc:Rd (α:=List Str) ah [4] [E] b.1.Text:=Ow.rdTl ((az.up F).up N)
      exact ca Y (fun _=>p9 (K:=[2,4]) (x0:=(Vm.Op.mk b.1.Kind b.1.Branch b.1.Who b.1.Path b.1.To b.1.At b.1.Text)) (x1:=(Vm.Op.mk a.Kind a.Branch a.Who a.Path a.To a.At a.Text)) ((Op.rd (K:=[4]) b.1.Kind b.1.Branch b.1.Who b.1.Path b.1.To b.1.At b.1.Text cc).sub (M:=[2,4]) O) ((Op.rd (K:=[2]) a.Kind a.Branch a.Who a.Path a.To a.At a.Text (((Z.up af).up F).up N).rd).sub (M:=[2,4]) O)) fun cd ce Y cf=>Pb G O (Nb O ((ag) ⟨cd,ce,O,cf,O,Y⟩))
     ·exact psk 3 G O (Pb G O (Nb O ((ag) ⟨false,ah,O,Le.refl _ _,O,Y⟩)))
  ·refine Cw.draw [] [(0,0),(1,1),(2,2),(3,0),(4,0),(5,1),(7,1),(6,2),(8,2),(9,0),(10,0),(11,0),(12,0),(13,0),(14,0)] mixed (by kernel_rfl) fun c5 z=>?_
   have cg:=au.n z
   have ak:=(U.up C).up z
   have am:=(S.up C).up z
   refine Ds O (Mw.q O O (fun _ c=>R.lda (cs:=[vI a.Kind,vS a.Branch,vS a.Who,vS a.Path,vS a.To,vI a.At,f]) (am.clcs O c) O O) ?_)
   obtain⟨c6,ch,Y⟩:=ob Y
   refine Mw.t O O (T.call O (p12 (K:=[2]) (x0:=(Vm.Op.mk a.Kind a.Branch a.Who a.Path a.To a.At a.Text)) (Op.rd (K:=[2]) a.Kind a.Branch a.Who a.Path a.To a.At a.Text ak.rd) ch)) ?_
   rintro _ _ ⟨ci,rfl,k,rfl⟩
   have cj:=cg.n k
   refine m0 k fun ck=>Mw.p O O (fun _=>R.sne O O) (Db O (bs Y (fun e Y=>?_) fun e Y=>?_))
   ·exact dps 5 e O (Mw.p O O (fun _=>R.pk e O (v:=vB true) O) (Db O (dps 2 O O (Mw.p O O (fun _=>R.pk O O (v:=vB true) O) (Mw.nil ((ag) ⟨true,ci,O,(z.j k).w,O,Y⟩))))))
   ·refine Wq e O (fun _ c=>R.lda (cs:=[vI a.Kind,vS a.Branch,vS a.Who,vS a.Path,vS a.To,vI a.At,f]) (am.clcs O c) O O) (Wq e O (fun _ c=>R.lda (cs:=[vI a.Kind,vS a.Branch,vS a.Who,vS a.Path,vS a.To,vI a.At,f]) (am.clcs O c) O O) ?_)
    obtain⟨cl,cm,Y⟩:=ob Y
    refine Wt e O (T.call O (p13 (K:=[0,2]) (x0:=(Vm.Op.mk a.Kind a.Branch a.Who a.Path a.To a.At a.Text)) ((Op.rd (K:=[2]) a.Kind a.Branch a.Who a.Path a.To a.At a.Text (ak.up k).rd).sub (M:=[0,2]) O) ((B.ul cj).sub (M:=[0,2]) O) cm)) ?_
    rintro _ _ ⟨c7,rfl,P,rfl⟩
    refine mc ck P fun co=>?_
    obtain⟨cp,cq,Y⟩:=ob Y
    refine Wt e O (T.call O (p14 (K:=[2]) (x0:=(Vm.Op.mk a.Kind a.Branch a.Who a.Path a.To a.At a.Text)) (Op.rd (K:=[2]) a.Kind a.Branch a.Who a.Path a.To a.At a.Text ((ak.up k).up P).rd) cq)) ?_
    rintro _ _ ⟨a0,rfl,an,rfl⟩
    refine mc co an fun c8=>Wp e O (fun _=>R.bne O O) (Mw.p O O (fun _=>R.pk e O (v:=vB (cl !=cp)) O) (Db O (bs Y (fun A Y=>?_) fun A Y=>?_)))
    ·exact dps 2 A O (Mw.p O O (fun _=>R.pk A O (v:=vB true) O) (Mw.nil ((ag) ⟨true,a0,O,(((z.j k).j P).j an).w,O,Y⟩)))
    ·exact Wp A O (fun _=>R.mv (v:=vS V) O) (Wp A O (fun _=>R.seq O O) (Mw.p O O (fun _=>R.pk A O (v:=vB (V==([]:Str))) O) (Mw.nil ((ag) ⟨(V==([]:Str)),a0,O,(((z.j k).j P).j an).w,O,Y⟩))))
theorem p4 {x0 a r}(b:Rd W K [a] x0)(d:Gk 2 0 1 W K)(Y:Vm.zcN x0=some r):Q1 4 [a] W [] fun W' v=>v=vB r:=
 (c4 (b.view _) (d.view _) Y).ad (fk 0) fun _ _ e=>e
end Go.Sx
