/- Walks: each function answers as its model, printed by a program of ours. Conditions: the arguments read as they are given. -/
import Derived.Test.YtifbmanldeabeaaGreatDoorCTs
import Derived.Test.YtifbmanldeabeaaGreatDoorCM0
import Derived.Test.YtifbmanldeabeaaGreatDoorCW0
import Derived.Test.YtifbmanldeabeaaGreatDoorCW1
import Derived.Test.YtifbmanldeabeaaGreatDoorCW2
namespace Go.Sx
open Go Go.Proofs Go.Vm Rp
set_option linter.unusedVariables false
set_option linter.unusedSimpArgs false
variable {W W0:CW}{K:List Nat}
theorem c77 {x0 ak am x1 N x2 an r}(h0:Rd W0 [0] [ak,am] x0)(h1:Rd W0 [0] [N] x1)(h2:Rd W0 [0] [vS x2.Branch,vS x2.Into,vS x2.By,an] x2)(Y:Vm.ziU x0 x1 x2=some r):Q0 77 [.agg [ak,am].toArray,N, .agg [vS x2.Branch,vS x2.Into,vS x2.By,an].toArray] W0 fun Wf v=> ∃ u0,v=u0/\Rd Wf [0] [u0] r:=by
 unfold Vm.ziU at Y
 obtain⟨cd,ce,ap,bc,be⟩:=Repo.split h0
 simp only[List.cons.injEq,and_true,true_and]at ap
 obtain⟨rfl,rfl⟩:=ap
 obtain⟨cf,aq,ar⟩:=Review.split h2
 simp only[List.cons.injEq,and_true,true_and]at aq
 obtain rfl:=aq
 refine zak.of Tryz.func77 O O O O (sr (bo 2 O fun g1 W1 l1 b1=>?_))
 have a2:=l1.o
 refine bo 3 O fun g3 W3 l3 b3=>?_
 have a4:=a2.n l3
 refine Nv (.slice none 0 0) O (sr (Lw.t O (T.lit0 (α:=Str) 4 []) ?_))
 rintro P _ ⟨W6,rfl,A,o6⟩
 have B:=a4.n A
 refine Nv P O (sr (la ((b1.up l3).up A) (la (b3.up A) (cr Y (fun _=>p131 (Repo.rd (K:=[0]) x0.Commits x0.Heads (bc.ul B) (be.ul B)) (Review.rd (K:=[0]) x2.Branch x2.Into x2.By x2.Yes (ar.ul B))) ?_))))
 rintro aw Q cl Y S ⟨_,rfl,bl⟩
 have bm:=bl.sub (M:=[0]) O
 have U:=B.n S
 refine Nv Q O (ssr (Ni O (Cw.block ?_)))
 obtain⟨V,bn,ax,bp⟩:=zkA _ 4
 rw[<- bn]
 have bq:Rd (α:=List Str) V [0] [P] ([]:List Str):=by rw[bp];exact((o6.up S).rd.dye 4).sub (M:=[0]) O
 have C:=ax.s
 obtain⟨br,bu,Y⟩:=zaT Y
 refine Cw.loop 17 58 [7,9,10,11,12] (fun m l w=> ∃ D E a ay az a0 f,CW.w f=w/\Le [] V f/\l=[a,vI E,ay,az,a0]/\Rd f [0] [a] D/\Vm.zbJ x1 x2 aw br m D E=some r) _ ⟨([]:List Str),0,P,undef,undef,undef,V,O,Le.refl _ _,O,bq,Y⟩ ?_
 rintro(_ |cm) _ _ σ ⟨D,E,a,ay,az,a0,f,rfl,W,rfl,r28,Y⟩
 ·cases Y
 unfold Vm.zbJ at Y
 have F:=W.o
 refine ssr ?_
 have X:=bm.ul (C.trans F)
 refine mi O (mv Q O (Lw.ln aw X O (Lw.lt O (nl (cn Y (fun Y=>?_) fun Y=>?_)))))
 ·refine sk ?_
  obtain⟨bv,bw,Y⟩:=zaT Y
  refine Cw.join 23 58 [7,10,11,12] (fun l w=> ∃ G H Z aa ac h,CW.w h=w/\Le [] f h/\l=[H,Z,aa,ac]/\Rd h [0] [H] G/\bv G=some r) ?_ ?_
  ·rintro _ _ σ ⟨G,H,Z,aa,ac,h,rfl,bz,rfl,r43,Y⟩
   rw[bw]at Y
   exact rg (mi O (Lw.add O (Ni O ((agm) ⟨G,w64 (E+1),H,Z,aa,ac,h,O,(W.j bz).w,O,r43,Y⟩))))
  ·refine Cw.block (sr (mv N O (mv Q O (mi O ?_))))
   obtain⟨co,a1,Y⟩:=ob Y
   refine Lw.r O (R.ix (α:=Str) X a1 O O O) (Lw.r O (R.ld O O (X.at_ a1).str) (ca Y (fun _=>p132 (h1.ul ((U.trans C).trans F))) fun i ae Y I=>?_))
   have af:=I.o
   have a3:=((((b3.up A).up S).up ax).up W).up I
   refine Ns O ?_
   obtain⟨b0,b2,Y⟩:=zaT Y
   refine Cw.join 29 36 [11] (fun l w=> ∃ J k,CW.w k=w/\Le [] ae k/\l=[vB J]/\b0 J=some r) ?_ ?_
   ·rintro _ _ σ ⟨J,k,rfl,L,rfl,Y⟩
    rw[b2]at Y
    have ah:=L.o
    refine ssr (Ni O (Cw.block ?_))
    obtain⟨b4,b5,Y⟩:=zaT Y
    refine Cw.loop 37 53 [11,12] (fun m l w=> ∃ x b d,CW.w d=w/\Le [] k d/\l=[vB x,vI b]/\Vm.zbv x2 i b4 m x b=some r) _ ⟨J,0,k,O,Le.refl _ _,O,Y⟩ ?_
    rintro(_ |cp) _ _ σ ⟨x,b,d,rfl,e,rfl,Y⟩
    ·cases Y
    unfold Vm.zbv at Y
    have ai:=e.o
    have a5:=(a3.up L).up e
    refine ssr ?_
    have aj:=ar.ul (((((U.trans C).trans F).trans af).trans ah).trans ai)
    refine mi O (fl a5 O (Lw.ln x2.Yes aj O (Lw.lt O (nl (cn Y (fun Y=>?_) fun Y=>?_)))))
    ·refine sk (Cw.seq (Cw.block (rg (mb O (mb O (bs Y (fun y Y=>?_) fun y Y=>?_))))))
     ·exact psk 7 y O (Pb y O (Nb O (rg (mi O (Lw.add O (Ni O ((agm) ⟨true,w64 (b+1),d,O,e,O,Y⟩)))))))
     ·refine wak 7 y (fl a5 O (mi O ?_))
      obtain⟨b6,a6,Y⟩:=ob Y
      exact Lw.r O (R.ix (α:=Str) aj a6 O O O) (Lw.r O (R.ld O O (aj.at_ a6).str) (ms O (Lw.seq O (Pb y O (Nb O (rg (mi O (Lw.add O (Ni O ((agm) ⟨(b6==i),w64 (b+1),d,O,e,O,Y⟩))))))))))
    ·refine Cw.exit ?_
     rw[b5]at Y
     refine sr (mb O (Lw.r O (R.not O) (nl (cn Y (fun Y=>?_) fun Y=>?_))))
     ·refine rg (mv a O (ms O (cr Y (fun _=>p133 (r28.ul ((af.trans ah).trans ai))) ?_)))
      rintro b7 a8 b8 Y b9 ⟨_,rfl,cb⟩
      have cc:=cb.sub (M:=[0]) O
      exact Nv a8 O ((ag) ⟨b7,a8,vS i,vB x,vI b,b8,O,(((I.j L).j e).j b9).w,O,cc,Y⟩)
     ·exact sk ((ag) ⟨D,a,vS i,vB x,vI b,d,O,((I.j L).j e).w,O,(r28.ul ((af.trans ah).trans ai)),Y⟩)
   ·refine rg (ms O (Lw.seq O (mb O (bs Y (fun z Y=>?_) fun z Y=>?_))))
    ·exact psk 4 z O (Pb z O (Nb O ((ag) ⟨true,ae,O,Le.refl _ _,O,Y⟩)))
    ·exact wak 4 z (ms O (fl a3 O (Lw.seq O (Pb z O (Nb O ((ag) ⟨(i==x2.By),ae,O,Le.refl _ _,O,Y⟩))))))
 ·refine Cw.exit ?_
  rw[bu]at Y
  refine sr (mv a O (Nv a O ?_))
  cases Y
  exact Cw.ret (zhX O (Res.mk ((U.trans C).trans F) ⟨a,O,r28⟩))
theorem p77 {x0 b d x1 f x2 h r}(i:Rd W K [b,d] x0)(k:Rd W K [f] x1)(x:Rd W K [vS x2.Branch,vS x2.Into,vS x2.By,h] x2)(Y:Vm.ziU x0 x1 x2=some r):Q1 77 [.agg [b,d].toArray,f, .agg [vS x2.Branch,vS x2.Into,vS x2.By,h].toArray] W [] fun W' v=> ∃ a,v=a/\Rd W' (0::K) [a] r:=
 (c77 (i.view _) (k.view _) (x.view _) Y).ad (fk 0) fun _ _ ⟨a,e,y⟩=>⟨a,e,y.back O⟩
theorem c28 {x0 I J x1 y x2 L r}(h0:Rd W0 [0] [I,J] x0)(N:Rd W0 [0] [y] x1)(h2:Rd W0 [0] [vS x2.Branch,vS x2.Into,vS x2.By,L] x2)(Y:Vm.zdq x0 x1 x2=some r):Q0 28 [.agg [I,J].toArray,y, .agg [vS x2.Branch,vS x2.Into,vS x2.By,L].toArray] W0 fun Wf v=> ∃ P,v = .tuple [P,vB r.2].toArray/\Rd Wf [0] [P] r.1:=by
 unfold Vm.zdq at Y
 obtain⟨a1,a3,Q,z,A⟩:=Repo.split h0
 simp only[List.cons.injEq,and_true,true_and]at Q
 obtain⟨rfl,rfl⟩:=Q
 obtain⟨a5,S,T⟩:=Review.split h2
 simp only[List.cons.injEq,and_true,true_and]at S
 obtain rfl:=S
 refine zak.of Tryz.func28 O O O O (sr (bo 2 O fun g1 W1 l1 b1=>?_))
 have a2:=l1.o
 refine bo 3 O fun g3 W3 U V=>?_
 have B:=a2.n U
 have C:=b1.up U
 refine Gv (.slice none 0 0) O (Nb O (Cw.seq ?_))
 obtain⟨K8,an,Y⟩:=zaT Y
 refine Cw.join 8 34 [34] (fun l w=> ∃ D E,CW.w E=w/\Le [] W3 E/\l=[vB D]/\K8 D=some r) ?_ ?_
 ·rintro _ _ σ ⟨D,E,rfl,F,rfl,Y⟩
  rw[an]at Y
  have e:=B.n F
  refine cn Y (fun Y=>?_) fun Y=>?_
  ·refine sr (Gv (.slice none 0 0) O (Nb O ?_))
   cases Y
   exact Cw.ret (zow O O (Res.mk e ⟨.slice none 0 0,O,(rdN (K:=[0]))⟩))
  ·refine sk (sr (la (C.up F) (mv y O (la (V.up F) (cr Y (fun _=>p77 (Repo.rd (K:=[0]) x0.Commits x0.Heads (z.ul e) (A.ul e)) (N.ul e) (Review.rd (K:=[0]) x2.Branch x2.Into x2.By x2.Yes (T.ul e))) ?_)))))
   rintro ba W bb Y ao ⟨_,rfl,ap⟩
   have aq:=ap.sub (M:=[0]) O
   have ar:=e.n ao
   refine Gv W O (Nb O ?_)
   cases Y
   exact Cw.ret (zow O O (Res.mk ar ⟨W,O,aq⟩))
 ·refine rg (la C (ca Y (fun _=>p34 (Repo.rd (K:=[0]) x0.Commits x0.Heads (z.ul B) (A.ul B))) fun bc au Y a=>?_))
  have X:=B.n a
  refine Lw.r O (R.not O) (mb O (bs Y (fun f Y=>?_) fun f Y=>?_))
  ·exact psk 3 f O (Pb f O (mb O (psk 3 O O (Pb O O (mb O (psk 5 O O (Pb O O (mb O (psk 5 O O (Pb O O (nl ((ag) ⟨true,au,O,a,O,Y⟩))))))))))))
  ·refine wak 3 f (mv y O (ca Y (fun _=>p75 (N.ul X)) fun be av Y b=>?_))
   have Z:=X.n b
   have G:=(V.up a).up b
   refine Lw.r O (R.not O) (Pb f O (mb O (bs Y (fun h Y=>?_) fun h Y=>?_)))
   ·exact psk 3 h O (Pb h O (mb O (psk 5 O O (Pb O O (mb O (psk 5 O O (Pb O O (nl ((ag) ⟨true,av,O,(a.j b).w,O,Y⟩)))))))))
   ·refine wak 3 h (la G (ca Y (fun _=>p76 (Review.rd (K:=[0]) x2.Branch x2.Into x2.By x2.Yes (T.ul Z))) fun bg aw Y d=>?_))
    have H:=Z.n d
    have aa:=((C.up a).up b).up d
    refine Lw.r O (R.not O) (Pb h O (mb O (bs Y (fun i Y=>?_) fun i Y=>?_)))
    ·exact psk 5 i O (Pb i O (mb O (psk 5 O O (Pb O O (nl ((ag) ⟨true,aw,O,((a.j b).j d).w,O,Y⟩))))))
    ·refine wak 5 i (la aa (fl (G.up d) O (ca Y (fun _=>p37 (Repo.rd (K:=[0]) x0.Commits x0.Heads (z.ul H) (A.ul H))) fun bh ax Y k=>?_)))
     have ac:=H.n k
     refine Lw.lt O (Pb i O (mb O (bs Y (fun x Y=>?_) fun x Y=>?_)))
     ·exact psk 5 x O (Pb x O (nl ((ag) ⟨true,ax,O,(((a.j b).j d).j k).w,O,Y⟩)))
     ·exact wak 5 x (la (aa.up k) (fl ((G.up d).up k) O (ca Y (fun _=>p37 (Repo.rd (K:=[0]) x0.Commits x0.Heads (z.ul ac) (A.ul ac))) fun ay az Y a0=>Lw.lt O (Pb x O (nl ((ag) ⟨decide (ay< (0:Int)),az,O,((((a.j b).j d).j k).j a0).w,O,Y⟩))))))
theorem p28 {x0 b d x1 f x2 h r}(i:Rd W K [b,d] x0)(k:Rd W K [f] x1)(x:Rd W K [vS x2.Branch,vS x2.Into,vS x2.By,h] x2)(Y:Vm.zdq x0 x1 x2=some r):Q1 28 [.agg [b,d].toArray,f, .agg [vS x2.Branch,vS x2.Into,vS x2.By,h].toArray] W [] fun W' v=> ∃ a,v = .tuple [a,vB r.2].toArray/\Rd W' (0::K) [a] r.1:=
 (c28 (i.view _) (k.view _) (x.view _) Y).ad (fk 0) fun _ _ ⟨a,e,y⟩=>⟨a,e,y.back O⟩
theorem c138 {x0 d r}(E:Rd W0 [0] [d] x0)(Y:Vm.zdi x0=some r):Q0 138 [d] W0 fun Wf v=> ∃ F,v=F/\OwS Wf LL [] [F] r:=by
 unfold Vm.zdi at Y
 refine zak.of Tryz.func138 O O O O (sr (Nv (.slice none 0 0) O (sr (Lw.t O (T.lit0 (α:=File) 2 []) ?_))))
 rintro G _ ⟨H,rfl,P,Q⟩
 have S:=P.o
 refine Nv G O (ssr (Ni O (Cw.block ?_)))
 obtain⟨U,V,Y⟩:=zaT Y
 refine Cw.loop 6 27 [3,4] (fun m l w=> ∃ y f a h,CW.w h=w/\Le [2,3] H h/\l=[a,vI f]/\Ow h 2 [] [a] y/\Vm.zcV x0 U m y f=some r) _ ⟨([]:List File),0,G,H,O,Le.refl _ _,O,Q,Y⟩ ?_
 rintro(_ |m9) _ _ σ ⟨y,f,a,h,rfl,I,rfl,K,Y⟩
 ·cases Y
 unfold Vm.zcV at Y
 have z:=S.t I
 refine ssr (mi O (mv d O (Lw.ln x0 (E.ul z) O (Lw.lt O (nl (cn Y (fun Y=>?_) fun Y=>?_))))))
 ·refine sk (Cw.seq (Cw.block (Cw.draw [2,3] [(0,0),(1,0),(2,0),(3,0),(4,0),(5,1),(7,0),(8,0),(9,0),(10,0),(11,1),(6,2),(12,2),(13,0),(14,2),(15,2),(16,0)] mixed (by kernel_rfl) fun ap A=>?_)))
  have W:=z.n A
  refine Dv a O (Dv d O (Di O ?_))
  obtain⟨e,B,Y⟩:=ob Y
  have b:=E.ul W
  refine Mw.p O O (fun _=>R.ix (α:=File) b B O O O) (Df O (Mw.q O O (fun _ c=>R.ld O O (zao (File.at0 (b.at_ B)).1 O (File.at0 (b.at_ B)).str c)) (Dv d O (Di O ?_))))
  obtain⟨aq,C,Y⟩:=ob Y
  refine Mw.p O O (fun _=>R.ix (α:=File) b C O O O) (Df O ?_)
  obtain⟨ar,c22,r23⟩:=(File.at1 (b.at_ C)).cell O
  refine Mw.q O O (fun _ c=>R.ld O O (zao (File.at1 (b.at_ C)).1 O c22 c)) (Mw.t O O (T.lit0 (α:=Str) 3 []) ?_)
  rintro au _ ⟨av,rfl,i,X⟩
  have Z:=i.o
  refine m0 i fun aa=>?_
  obtain⟨ac,ae,Y⟩:=ob Y
  refine Mw.t O O (T.appP (α:=Str) X (r23.ul Z) O O ae) ?_
  rintro k _ ⟨aw,rfl,D,L⟩
  refine mc aa D fun af=>Mw.p O O (fun _=>R.bd (zs:=[vS ([]:Str), .slice none 0 0]) (cs:=[vS e.Path,k]) [(0,vS e.Path),(1,k)] O O O (zax O O (zax L.oc O zcd))) (Mw.t O O (T.bs 4 [.agg [vS e.Path,k].toArray] (cs:=[vS e.Path,k]) O O (bsA O)) ?_)
  rintro _ _ ⟨ax,ay,rfl,rfl,x,ah⟩
  refine mc af x fun ai=>?_
  obtain⟨aj,ak,Y⟩:=ob Y
  refine Mw.t O O (T.app1 (α:=File) (J:=[3]) (K':=[]) ((((K.up A).up i).up D).up x) ah (File.own e.Path ac (L.up x).s) O O ak) ?_
  rintro M _ ⟨am,rfl,N,an⟩
  exact mc ai N fun az=>Hv M O (Mw.nil (rg (mi O (Lw.add O (Ni O ((agm) ⟨aj,w64 (f+1),M,am,O,(((((I.j A).j i).j D).j x).j N).w,O,an,Y⟩))))))
 ·refine Cw.exit ?_
  rw[V]at Y
  refine sr (mv a O (Nv a O ?_))
  cases Y
  exact Cw.ret (zhX O (Res.mk z ⟨a,O,K.s.sub O O⟩))
theorem p138 {x0 b k0 r}(d:Rd W K [b] x0)(Y:Vm.zdi x0=some r):Q1 138 [b] W [] fun W' v=> ∃ a,v=a/\Ow W' k0 [] [a] r:=
 (c138 (d.view _) Y).ad (fk k0) fun _ _ ⟨a,e,f⟩=>⟨a,e,f.back (zgC _)⟩
theorem c83 {x0 A B r}(I:Rd W0 [0] [A,vS x0.Who,B] x0)(Y:Vm.zcW x0=some r):Q0 83 [.agg [A,vS x0.Who,B].toArray] W0 fun Wf v=> ∃ C D,v = .agg [C,vS r.Who,D].toArray/\OwS Wf [31] [] [C] r.Parents/\OwS Wf [32] [] [D] r.Tree:=by
 unfold Vm.zcW at Y
 obtain⟨ao,ap,E,J,K⟩:=Commit.split I
 simp only[List.cons.injEq,and_true,true_and]at E
 obtain⟨rfl,rfl⟩:=E
 refine zak.of Tryz.func83 O O O O (sr (bo 2 O fun g1 W1 L M=>?_))
 have N:=L.o
 refine al 3 [.slice none 0 0,vS ([]:Str), .slice none 0 0] fun g3 W3 F P=>?_
 have Q:=N.n F
 refine nl (Cw.seq (Cw.draw [4] [(1,0),(2,1),(4,0),(5,1),(6,0),(7,1),(0,2),(3,2),(8,2),(9,0),(10,3)] mixed (by kernel_rfl) fun W6 e=>?_))
 have S:=Q.n e
 have f:=(M.up F).up e
 refine Dfl f O O O (Dfl f O O O (Dfl f O O O (Mw.t O O (T.lit0 (α:=Int) 4 []) ?_)))
 rintro ax _ ⟨ay,rfl,l10,U⟩
 have G:=S.n l10
 refine m0 l10 fun V=>?_
 obtain⟨az,W,Y⟩:=ob Y
 refine Mw.t O O (T.appP (α:=Int) U (J.ul G) O O W) ?_
 rintro a _ ⟨a0,rfl,h,X⟩
 have H:=G.t h
 refine mc V h fun Z=>?_
 obtain⟨a1,aa,Y⟩:=ob Y
 refine Mw.t O O (T.call O (p138 (k0:=5) (K.ul H) aa)) ?_
 rintro b _ ⟨a3,rfl,d,⟨_,rfl,i⟩⟩
 have ac:=H.n d
 have k:=X.up d
 refine mc Z d fun a5=>Mw.p O O (fun _=>R.bd (zs:=[.slice none 0 0,vS ([]:Str), .slice none 0 0]) (cs:=[a,vS x0.Who,b]) [(0,a),(1,vS x0.Who),(2,b)] O O O (zax k.oc O (zax O O (zax i.oc O zcd)))) (Mw.lu O (T.sta (vs:=[a,vS x0.Who,b]) ((((P.up e).up l10).up h).up d) O O (zaa k.oc (zaa O (zaa i.oc zaC))) O O) ?_)
 rintro _ _ ⟨a6,rfl,x,ae⟩
 have af:=ac.t x
 refine Mw.nil ?_
 obtain⟨a8,ah,y,ai⟩:=(k.up x).dyeO 31
 have aj:=af.t y
 obtain⟨a9,ak,z,am⟩:=((i.up x).up y).dyeO 32
 have an:=aj.t z
 cases Y
 rw[<- ak.trans (ah)]
 exact Cw.ret (zmg O ((ae.up y).up z) (Res.mk an ⟨a,b,O,(ai.up z).s,am.s⟩))
theorem p83 {x0 d f k0 k1 r}(h:Rd W K [d,vS x0.Who,f] x0)(Y:Vm.zcW x0=some r):Q1 83 [.agg [d,vS x0.Who,f].toArray] W [] fun W' v=> ∃ a b,v = .agg [a,vS r.Who,b].toArray/\Ow W' k0 [] [a] r.Parents/\Ow W' k1 [] [b] r.Tree:=
 zak.adJ (J:=[]) (fun c=>bif Nat.beq c 0 then 0 else bif Nat.beq c 31 then k0 else bif Nat.beq c 32 then k1 else 0) (c83 (h.view _) Y) fun _ _ ⟨a,b,e,i,k⟩=>⟨a,b,e,i.one1.backN O,k.one1.backN O⟩
theorem c35 {x0 X Z r}(h0:Rd W0 [0] [X,Z] x0)(Y:Vm.zbn x0=some r):Q0 35 [.agg [X,Z].toArray] W0 fun Wf v=> ∃ aa ac,v = .agg [aa,ac].toArray/\OwS Wf [31] [] [aa] r.Commits/\OwS Wf [32] [] [ac] r.Heads:=by
 unfold Vm.zbn at Y
 obtain⟨b5,b6,ae,af,au⟩:=Repo.split h0
 simp only[List.cons.injEq,and_true,true_and]at ae
 obtain⟨rfl,rfl⟩:=ae
 refine zak.of Tryz.func35 O O O O (sr (bo 2 O fun g1 W1 l1 b1=>?_))
 have a2:=l1.o
 refine al 3 [.slice none 0 0, .slice none 0 0] fun g3 W3 l3 b3=>?_
 have a4:=a2.n l3
 refine nl (sr (Lw.t O (T.lit0 (α:=Head) 4 []) ?_))
 rintro v6 _ ⟨W6,rfl,C,o6⟩
 have a7:=a4.n C
 have b8:=(b1.up l3).up C
 refine fl b8 O ?_
 obtain⟨a1,a3,Y⟩:=ob Y
 refine Lw.t O (T.appP (α:=Head) o6 (au.ul a7) O O a3) ?_
 rintro D _ ⟨cf,rfl,E,F⟩
 have a5:=a7.t E
 refine Lw.r O (R.bd (zs:=[.slice none 0 0, .slice none 0 0]) (cs:=[.slice none 0 0,D]) [(1,D)] O O O (zax F.oc O zcd)) (al 5 [.slice none 0 0, .slice none 0 0] fun a6 cg e a8=>?_)
 have a9:=a5.n e
 refine sta a8 (zaa O (zaa (F.up e).oc zaC)) fun ak i ba=>?_
 have bb:=a9.t i
 refine nl (ssr (Ni O (Cw.block ?_)))
 obtain⟨bc,be,Y⟩:=zaT Y
 refine Cw.loop 10 27 [4] (fun m l w=> ∃ k G x y f d,CW.w d=w/\Le [5,6,7,8] ak d/\l=[vI k]/\Ow d 6 [] [y] G/\Ow d 4 [] [f] x/\Bx d 5 a6 [y,f]/\Vm.zcX x0 bc m k G x=some r) _ ⟨0,([]:List Commit),a1, .slice none 0 0,D,ak,O,Le.refl _ _,O,owN 6 [],((F.up e).up i),ba,Y⟩ ?_
 rintro(_ |ch) _ _ σ ⟨k,G,x,y,f,d,rfl,z,rfl,H,I,L,Y⟩
 ·cases Y
 unfold Vm.zcX at Y
 have M:=bb.t z
 have am:=(((b8.up E).up e).up i).up z
 refine ssr (mi O (fl am O (Lw.ln x0.Commits (af.ul M) O (Lw.lt O (nl (cn Y (fun Y=>?_) fun Y=>?_))))))
 ·refine sk (Cw.seq (Cw.block (Cw.draw [6,7,8] [(0,0),(1,1),(2,0),(3,1),(4,0),(5,0),(6,1),(7,2),(8,2),(9,2),(10,0),(11,3)] mixed (by kernel_rfl) fun ci a=>?_)))
  have bg:=M.n a
  refine Dfl (L.up a) O O O (Dfl (am.up a) O O O (Di O ?_))
  obtain⟨N,P,Y⟩:=ob Y
  have Q:=af.ul bg
  refine Mw.p O O (fun _=>R.ix (α:=Commit) Q P O O O) ?_
  obtain⟨x53,c54,_,r55⟩:=(Q.at_ P).cells
  obtain⟨cj,ck,rfl,r57,r59⟩:=Commit.split r55
  refine Mw.q O O (fun _ c=>R.lda (zkt (Q.at_ P).1 O c54 c) O O) (Dc Y (Le.refl _ _) (fun _=>p83 (k0:=7) (k1:=8) (Commit.rd (K:=[0]) N.Parents N.Who N.Tree r57 r59)) O ?_)
  rintro h _ cl Y A ⟨an,ao,rfl,bh,bi⟩ bj
  refine Mw.t O O (T.bs 9 [.agg [an,vS h.Who,ao].toArray] (cs:=[an,vS h.Who,ao]) O O (bsA O)) ?_
  rintro _ _ ⟨cm,co,rfl,rfl,b,bk⟩
  refine mc bj b fun bl=>?_
  obtain⟨bm,bn,Y⟩:=ob Y
  refine Mw.t O O (T.app1 (α:=Commit) (J:=[7,8]) (K':=[]) (((H.up a).up A).up b) bk (Commit.own h.Parents h.Who h.Tree (bh.up b).s (bi.up b).s) O O bn) ?_
  rintro ap _ ⟨cp,rfl,B,aq⟩
  refine mc bl B fun cq=>Df O (Mw.lu O (T.st (j:=0) (v:=ap) ((((L.up a).up A).up b).up B) O O aq.oc O O) ?_)
  rintro _ _ ⟨bp,rfl,S,bq⟩
  exact Mw.nil (rg (mi O (Lw.add O (Ni O ((agm) ⟨w64 (k+1),bm,x,ap,f,bp,O,(((((z.j a).j A).j b).j B).j S).w,O,(aq.up S),(((((I.up a).up A).up b).up B).up S),bq,Y⟩)))))
 ·refine Cw.exit ?_
  rw[be]at Y
  refine sr (la L (sta (((((b3.up C).up E).up e).up i).up z) (zaa H.oc (zaa I.oc zaC)) fun ct U br=>?_))
  have bu:=M.t U
  refine nl ?_
  obtain⟨cu,bv,V,bw⟩:=(H.up U).dyeO 31
  have bz:=bu.t V
  obtain⟨cv,b0,W,b2⟩:=((I.up U).up V).dyeO 32
  have b4:=bz.t W
  cases Y
  rw[<- b0.trans (bv)]
  exact Cw.ret (zmg O ((br.up V).up W) (Res.mk b4 ⟨y,f,O,(bw.up W).s,b2.s⟩))
theorem p35 {x0 d f k0 k1 r}(h:Rd W K [d,f] x0)(Y:Vm.zbn x0=some r):Q1 35 [.agg [d,f].toArray] W [] fun W' v=> ∃ a b,v = .agg [a,b].toArray/\Ow W' k0 [] [a] r.Commits/\Ow W' k1 [] [b] r.Heads:=
 zak.adJ (J:=[]) (fun c=>bif Nat.beq c 0 then 0 else bif Nat.beq c 31 then k0 else bif Nat.beq c 32 then k1 else 0) (c35 (h.view _) Y) fun _ _ ⟨a,b,e,i,k⟩=>⟨a,b,e,i.one1.backN O,k.one1.backN O⟩
theorem c86 {x0 y a9 x1 x2 r}(h0:Rd W0 [0] [y,a9] x0)(Y:Vm.zfz x0 x1 x2=some r):Q0 86 [.agg [y,a9].toArray,vS x1,vI x2] W0 fun Wf v=> ∃ ba bb,v = .agg [ba,bb].toArray/\Rd Wf [0] [ba] r.Commits/\Rd Wf [0] [bb] r.Heads:=by
 unfold Vm.zfz at Y
 obtain⟨du,dv,bc,an,I⟩:=Repo.split h0
 simp only[List.cons.injEq,and_true,true_and]at bc
 obtain⟨rfl,rfl⟩:=bc
 refine zak.of Tryz.func86 O O O O (sr (bo 2 O fun g1 W1 l1 b1=>?_))
 have a2:=l1.o
 refine al 3 [.slice none 0 0, .slice none 0 0] fun g3 W3 l3 b3=>?_
 have a4:=a2.n l3
 refine nl (sr (fl (b1.up l3) O (Lw.r O (R.bd (zs:=[.slice none 0 0, .slice none 0 0]) (cs:=[y, .slice none 0 0]) [(0,y)] O O O (zax an.oc O zcd)) (al 4 [.slice none 0 0, .slice none 0 0] fun J W6 l6 b6=>?_))))
 have a7:=a4.n l6
 refine sta b6 (zaa an.oc (zaa O zaC)) fun bg l10 cf=>?_
 have bh:=a7.t l10
 refine nl (sr (Nb O (ssr (Ni O (Cw.block ?_)))))
 obtain⟨cg,ch,Y⟩:=zaT Y
 refine Cw.loop 13 57 [8,9] (fun m l w=> ∃ L N b z d A a,CW.w a=w/\Le [4,5] bg a/\l=[vB L,vI N]/\Rd a [0] [d] b/\Ow a 5 [] [A] z/\Bx a 4 J [d,A]/\Vm.zcY x0 x1 x2 cg m L N b z=some r) _ ⟨false,0,x0.Commits,([]:List Head),y, .slice none 0 0,bg,O,Le.refl _ _,O,(an.ul bh),owN 5 [],cf,Y⟩ ?_
 rintro(_ |d1) _ _ σ ⟨L,N,b,z,d,A,a,rfl,P,rfl,r18,Q,S,Y⟩
 ·cases Y
 unfold Vm.zcY at Y
 have aq:=bh.t P
 have U:=(((b1.up l3).up l6).up l10).up P
 refine ssr ?_
 have ar:=I.ul aq
 refine mi O (fl U O (Lw.ln x0.Heads ar O (Lw.lt O (nl (cn Y (fun Y=>?_) fun Y=>?_)))))
 ·refine sk ?_
  obtain⟨ci,cj,Y⟩:=zaT Y
  refine Cw.join 20 57 [8] (fun l w=> ∃ V W X Z aa e,CW.w e=w/\Le [4,5] a e/\l=[vB V]/\Rd e [0] [Z] W/\Ow e 5 [] [aa] X/\Bx e 4 J [Z,aa]/\ci V W X=some r) ?_ ?_
  ·rintro _ _ σ ⟨V,W,X,Z,aa,e,rfl,ck,rfl,r35,cl,cm,Y⟩
   rw[cj]at Y
   exact rg (mi O (Lw.add O (Ni O ((agm) ⟨V,w64 (N+1),W,X,Z,aa,e,O,(P.j ck).w,O,r35,cl,cm,Y⟩))))
  ·refine Cw.block ?_
   obtain⟨co,cp,Y⟩:=zaT Y
   refine Cw.join 20 39 [8] (fun l w=> ∃ B C ac D ae f,CW.w f=w/\Le [4,5] a f/\l=[vB B]/\Rd f [0] [D] C/\Ow f 5 [] [ae] ac/\Bx f 4 J [D,ae]/\co B C ac=some r) ?_ ?_
   ·rintro _ _ σ ⟨B,C,ac,D,ae,f,rfl,E,rfl,r48,bi,au,Y⟩
    rw[cp]at Y
    have av:=aq.t E
    refine sr (fl (U.up E) O (mi O ?_))
    obtain⟨d2,bj,Y⟩:=ob Y
    refine Lw.r O (R.ix (α:=Head) (I.ul av) bj O O O) (Lw.fa O (Lw.r O (R.ld O O (Head.at0 ((I.ul av).at_ bj)).str) (ms O (Lw.sne O (nl (cn Y (fun Y=>?_) fun Y=>?_))))))
    ·refine Cw.draw [5] [(0,0),(1,1),(2,0),(3,1),(4,0),(5,0),(6,1),(7,2),(8,2),(9,0),(10,3)] mixed (by kernel_rfl) fun d3 h=>?_
     have bk:=h.o
     refine Dfl (au.up h) O O O (Dfl ((U.up E).up h) O O O (Di O ?_))
     obtain⟨i,aw,Y⟩:=ob Y
     have ax:=I.ul (av.trans bk)
     refine Mw.p O O (fun _=>R.ix (α:=Head) ax aw O O O) ?_
     obtain⟨x71,c72,_,r73⟩:=(ax.at_ aw).cells
     obtain rfl:=Head.split r73
     refine Mw.q O O (fun _ c=>R.lda (zkt (ax.at_ aw).1 O c72 c) O O) (Mw.t O O (T.bs 6 [.agg [vS i.Name,vI i.At].toArray] (cs:=[vS i.Name,vI i.At]) O O (bsA O)) ?_)
     rintro _ _ ⟨d4,d5,rfl,rfl,F,cq⟩
     have ct:=bk.n F
     refine m0 F fun cu=>?_
     obtain⟨cv,cw,Y⟩:=ob Y
     refine Mw.t O O (T.app1S (α:=Head) (K':=[]) ((bi.up h).up F) cq (Head.rd (K:=[]) i.Name i.At) O O cw) ?_
     rintro bl _ ⟨d6,rfl,af,bm⟩
     have cx:=ct.t af
     refine mc cu af fun d7=>Df O (Mw.lu O (T.st (j:=1) (v:=bl) (((au.up h).up F).up af) O O bm.oc O O) ?_)
     rintro _ _ ⟨cy,rfl,ay,cz⟩
     have c0:=cx.t ay
     exact Mw.nil ((ag) ⟨B,C,cv,D,bl,cy,O,((((E.j h).j F).j af).j ay).w,O,(r48.ul c0),(bm.up ay),cz,Y⟩)
    ·exact sk ((ag) ⟨B,C,ac,D,ae,f,O,E,O,r48,bi,au,Y⟩)
   ·obtain⟨c1,c2,Y⟩:=zaT Y
    refine Cw.join 20 31 [31] (fun l w=> ∃ az ah,CW.w ah=w/\Le [] a ah/\l=[vB az]/\c1 az=some r) ?_ ?_
    ·rintro _ _ σ ⟨az,ah,rfl,k,rfl,Y⟩
     rw[c2]at Y
     have bn:=k.o
     have a0:=S.up k
     refine cn Y (fun Y=>?_) fun Y=>?_
     ·refine sr (fl a0 O (ms O (mi O (Lw.r O (R.bd (zs:=[vS ([]:Str),vI 0]) (cs:=[vS x1,vI x2]) [(0,vS x1),(1,vI x2)] O O O (zax O O (zax O O zcd))) (Lw.t O (T.bs 7 [.agg [vS x1,vI x2].toArray] (cs:=[vS x1,vI x2]) O O (bsA O)) ?_)))))
      rintro _ _ ⟨d8,d9,rfl,rfl,ai,c3⟩
      have c4:=bn.n ai
      obtain⟨c5,c6,Y⟩:=ob Y
      refine Lw.t O (T.app1S (α:=Head) (K':=[]) ((Q.up k).up ai) c3 (Head.rd (K:=[]) x1 x2) O O c6) ?_
      rintro bp _ ⟨ea,rfl,a1,bq⟩
      have c7:=c4.t a1
      refine Lw.fa O (Lw.u (T.st (j:=1) (v:=bp) ((a0.up ai).up a1) O O bq.oc O O) ?_)
      rintro _ _ ⟨c8,rfl,a3,c9⟩
      have da:=c7.t a3
      exact nl (rg (Nb O ((ag) ⟨true,b,c5,d,bp,c8,O,(((k.j ai).j a1).j a3).w,O,(r18.ul da),(bq.up a3),c9,Y⟩)))
     ·exact sk ((ag) ⟨L,b,z,d,A,ah,O,k.w,O,(r18.ul bn),(Q.up k),a0,Y⟩)
    ·refine rg (mb O (Lw.r O (R.not O) (mb O (bs Y (fun G Y=>?_) fun G Y=>?_))))
     ·refine wak 8 G (fl U O (mi O ?_))
      obtain⟨db,br,Y⟩:=ob Y
      exact Lw.r O (R.ix (α:=Head) ar br O O O) (Lw.fa O (Lw.r O (R.ld O O (Head.at0 (ar.at_ br)).str) (ms O (Lw.r O (R.sge O O) (Pb G O (nl ((ag) ⟨(!Op.bytesLess db.Name x1),a,O,Le.refl _ _,O,Y⟩)))))))
     ·exact psk 8 G O (Pb G O (nl ((ag) ⟨false,a,O,Le.refl _ _,O,Y⟩)))
 ·refine Cw.exit ?_
  rw[ch]at Y
  obtain⟨dc,dd,Y⟩:=zaT Y
  refine Cw.join 58 67 [] (fun l w=> ∃ a5 aj ak H x,CW.w x=w/\Le [4,5] a x/\l=[]/\Rd x [0] [ak] a5/\Ow x 5 [] [H] aj/\Bx x 4 J [ak,H]/\dc a5 aj=some r) ?_ ?_
  ·rintro _ _ σ ⟨a5,aj,ak,H,x,rfl,bu,rfl,r131,bv,de,Y⟩
   rw[dd]at Y
   have df:=aq.t bu
   refine sr (la de (sta ((((b3.up l6).up l10).up P).up bu) (zaa r131.oc (zaa bv.oc zaC)) fun eb bw dg=>?_))
   have bz:=bw.s
   refine nl ?_
   obtain⟨dh,di,b0,dj⟩:=zkA _ 5
   have dk:Rd (α:=List Vm.Head) dh [0] [H] aj:=by rw[dj];exact((bv.up bw).rd.dye 5).sub (M:=[0]) O
   have b2:=b0.s
   cases Y
   rw[<- di]
   exact Cw.ret (zmg O (dg.up b0) (Res.mk ((df.trans bz).trans b2) ⟨ak,H,O,(r131.ul (bz.trans b2)),dk⟩))
  ·refine sr (mb O (Lw.r O (R.not O) (nl (cn Y (fun Y=>?_) fun Y=>?_))))
   ·refine rg (fl S O (ms O (mi O (Lw.r O (R.bd (zs:=[vS ([]:Str),vI 0]) (cs:=[vS x1,vI x2]) [(0,vS x1),(1,vI x2)] O O O (zax O O (zax O O zcd))) (Lw.t O (T.bs 8 [.agg [vS x1,vI x2].toArray] (cs:=[vS x1,vI x2]) O O (bsA O)) ?_)))))
    rintro _ _ ⟨ec,ed,rfl,rfl,am,dl⟩
    have dm:=am.o
    obtain⟨dn,dp,Y⟩:=ob Y
    refine Lw.t O (T.app1S (α:=Head) (K':=[]) (Q.up am) dl (Head.rd (K:=[]) x1 x2) O O dp) ?_
    rintro b4 _ ⟨ee,rfl,a6,b5⟩
    have dq:=dm.t a6
    refine Lw.fa O (Lw.u (T.st (j:=1) (v:=b4) ((S.up am).up a6) O O b5.oc O O) ?_)
    rintro _ _ ⟨dr,rfl,a8,ds⟩
    have dt:=dq.t a8
    exact nl ((ag) ⟨b,dn,d,b4,dr,O,((am.j a6).j a8).w,O,(r18.ul dt),(b5.up a8),ds,Y⟩)
   ·exact sk ((ag) ⟨b,z,d,A,a,O,Le.refl _ _,O,r18,Q,S,Y⟩)
theorem p86 {x0 d f x1 x2 r}(h:Rd W K [d,f] x0)(Y:Vm.zfz x0 x1 x2=some r):Q1 86 [.agg [d,f].toArray,vS x1,vI x2] W [] fun W' v=> ∃ a b,v = .agg [a,b].toArray/\Rd W' (0::K) [a] r.Commits/\Rd W' (0::K) [b] r.Heads:=
 (c86 (h.view _) Y).ad (fk 0) fun _ _ ⟨a,b,e,i,k⟩=>⟨a,b,e,i.back O,k.back O⟩
theorem c169 {x0 h x1 i x2 k r}(G:Rd W0 [0] [h] x0)(H:Rd W0 [0] [i] x1)(I:Rd W0 [0] [k] x2)(Y:Vm.zf3 x0 x1 x2=some r):Q0 169 [h,i,k] W0 fun Wf v=> ∃ N,v=N/\Rd Wf [0] [N] r:=by
 unfold Vm.zf3 at Y
 refine zak.of Tryz.func169 O O O O (sr (Nv (.slice none 0 0) O (sr (Lw.t O (T.lit0 (α:=Str) 2 []) ?_))))
 rintro J _ ⟨W1,rfl,l1,o1⟩
 have a2:=l1.o
 refine Nv J O (ssr (Ni O (Cw.block ?_)))
 obtain⟨K,af,l3,ai⟩:=zkA _ 2
 rw[<- af]
 have s4:Rd (α:=List Str) K [0] [J] ([]:List Str):=by rw[ai];exact(o1.rd.dye 2).sub (M:=[0]) O
 have a5:=a2.t l3
 obtain⟨am,an,Y⟩:=zaT Y
 refine Cw.loop 12 24 [7,8] (fun m l w=> ∃ x y e b,CW.w b=w/\Le [] K b/\l=[e,vI y]/\Rd b [0] [e] x/\Vm.zcn x0 am m x y=some r) _ ⟨([]:List Str),0,J,K,O,Le.refl _ _,O,s4,Y⟩ ?_
 rintro(_ |bc) _ _ σ ⟨x,y,e,b,rfl,l10,rfl,r8,Y⟩
 ·cases Y
 unfold Vm.zcn at Y
 have z:=a5.n l10
 refine ssr (mi O (mv h O (Lw.ln x0 (G.ul z) O (Lw.lt O (nl (cn Y (fun Y=>?_) fun Y=>?_))))))
 ·refine sk (Cw.seq (Cw.block (rg (mv e O (mv h O (mi O ?_))))))
  obtain⟨be,P,Y⟩:=ob Y
  refine Lw.r O (R.ix (α:=File) (G.ul z) P O O O) (Lw.fa O (Lw.r O (R.ld O O (File.at0 ((G.ul z).at_ P)).str) (cr Y (fun _=>p133 r8) ?_)))
  rintro ao Q ap Y aq ⟨_,rfl,ar⟩
  have au:=ar.sub (M:=[0]) O
  exact Nv Q O (rg (mi O (Lw.add O (Ni O ((agm) ⟨ao,w64 (y+1),Q,ap,O,(l10.j aq).w,O,au,Y⟩)))))
 ·refine Cw.exit ?_
  rw[an]at Y
  refine ssr (Ni O (Cw.block ?_))
  obtain⟨av,aw,Y⟩:=zaT Y
  refine Cw.loop 25 37 [7,9] (fun m l w=> ∃ A B f d,CW.w d=w/\Le [] b d/\l=[f,vI B]/\Rd d [0] [f] A/\Vm.zba x1 av m A B=some r) _ ⟨x,0,e,b,O,Le.refl _ _,O,r8,Y⟩ ?_
  rintro(_ |bg) _ _ σ ⟨A,B,f,d,rfl,S,rfl,r25,Y⟩
  ·cases Y
  unfold Vm.zba at Y
  have C:=z.n S
  refine ssr (mi O (mv i O (Lw.ln x1 (H.ul C) O (Lw.lt O (nl (cn Y (fun Y=>?_) fun Y=>?_))))))
  ·refine sk (Cw.seq (Cw.block (rg (mv f O (mv i O (mi O ?_))))))
   obtain⟨bh,U,Y⟩:=ob Y
   refine Lw.r O (R.ix (α:=File) (H.ul C) U O O O) (Lw.fa O (Lw.r O (R.ld O O (File.at0 ((H.ul C).at_ U)).str) (cr Y (fun _=>p133 r25) ?_)))
   rintro ax V ay Y az ⟨_,rfl,a0⟩
   have a1:=a0.sub (M:=[0]) O
   exact Nv V O (rg (mi O (Lw.add O (Ni O ((agm) ⟨ax,w64 (B+1),V,ay,O,(S.j az).w,O,a1,Y⟩)))))
  ·refine Cw.exit ?_
   rw[aw]at Y
   refine ssr (Ni O (Cw.block ?_))
   obtain⟨a3,a4,Y⟩:=zaT Y
   refine Cw.loop 38 50 [7,10] (fun m l w=> ∃ L D a E,CW.w E=w/\Le [] d E/\l=[a,vI D]/\Rd E [0] [a] L/\Vm.zaO x2 a3 m L D=some r) _ ⟨A,0,f,d,O,Le.refl _ _,O,r25,Y⟩ ?_
   rintro(_ |bi) _ _ σ ⟨L,D,a,E,rfl,W,rfl,r42,Y⟩
   ·cases Y
   unfold Vm.zaO at Y
   have F:=C.n W
   refine ssr (mi O (mv k O (Lw.ln x2 (I.ul F) O (Lw.lt O (nl (cn Y (fun Y=>?_) fun Y=>?_))))))
   ·refine sk (Cw.seq (Cw.block (rg (mv a O (mv k O (mi O ?_))))))
    obtain⟨bj,X,Y⟩:=ob Y
    refine Lw.r O (R.ix (α:=File) (I.ul F) X O O O) (Lw.fa O (Lw.r O (R.ld O O (File.at0 ((I.ul F).at_ X)).str) (cr Y (fun _=>p133 r42) ?_)))
    rintro a6 Z a7 Y a8 ⟨_,rfl,a9⟩
    have ba:=a9.sub (M:=[0]) O
    exact Nv Z O (rg (mi O (Lw.add O (Ni O ((agm) ⟨a6,w64 (D+1),Z,a7,O,(W.j a8).w,O,ba,Y⟩)))))
   ·refine Cw.exit ?_
    rw[a4]at Y
    refine sr (mv a O (Nv a O ?_))
    cases Y
    exact Cw.ret (zhX O (Res.mk F ⟨a,O,r42⟩))
theorem p169 {x0 b x1 d x2 f r}(h:Rd W K [b] x0)(i:Rd W K [d] x1)(k:Rd W K [f] x2)(Y:Vm.zf3 x0 x1 x2=some r):Q1 169 [b,d,f] W [] fun W' v=> ∃ a,v=a/\Rd W' (0::K) [a] r:=
 (c169 (h.view _) (i.view _) (k.view _) Y).ad (fk 0) fun _ _ ⟨a,e,x⟩=>⟨a,e,x.back O⟩
theorem c199 {x0 d x1 x2 e x3 r}(i:Rd W0 [0] [d] x0)(k:Rd W0 [0] [e] x2)(Y:Vm.zfA x0 x1 x2 x3=some r):Q0 199 [d,vB x1,e,vB x3] W0 fun Wf v=>v=vB r:=by
 unfold Vm.zfA at Y
 refine zak.of Tryz.func199 O O O O (sr (Nb O ?_))
 obtain⟨x,y,Y⟩:=zaT Y
 refine Cw.join 9 20 [8] (fun l w=> ∃ f h,CW.w h=w/\Le [] W0 h/\l=[vB f]/\x f=some r) ?_ ?_
 ·rintro _ _ σ ⟨f,h,rfl,z,rfl,Y⟩
  rw[y]at Y
  have A:=z.o
  exact .ret (rt Y A)
 ·refine rg (mb O (mb O (Lw.r O (R.beq O O) (mb O (bs Y (fun a Y=>?_) fun a Y=>?_)))))
  ·refine wak 3 a (mb O (Lw.r O (R.not O) (mb O (bs Y (fun b Y=>?_) fun b Y=>?_))))
   ·exact psk 3 b O (wak 1 a (Pb b O (Pb a O (Nb O ((ag) ⟨true,W0,O,Le.refl _ _,O,Y⟩)))))
   ·exact wak 3 b (mv d O (mv e O (ca Y (fun _=>p196 i k) fun B C Y D=>wak 1 a (Pb b O (Pb a O (Nb O ((ag) ⟨B,C,O,D,O,Y⟩)))))))
  ·exact psk 3 a O (puk 3 O (psk 1 a O (Pb a O (Nb O ((ag) ⟨false,W0,O,Le.refl _ _,O,Y⟩)))))
theorem p199 {x0 a x1 x2 b x3 r}(d:Rd W K [a] x0)(f:Rd W K [b] x2)(Y:Vm.zfA x0 x1 x2 x3=some r):Q1 199 [a,vB x1,b,vB x3] W [] fun W' v=>v=vB r:=
 (c199 (d.view _) (f.view _) Y).ad (fk 0) fun _ _ e=>e
theorem c230 {x0 d x1 a x2 b r}(C:Rd W0 [0] [d] x0)(e:Rd W0 [0] [a] x1)(f:Rd W0 [0] [b] x2)(Y:Vm.zg1 x0 x1 x2=some r):Q0 230 [d,a,b] W0 fun Wf v=> ∃ W X Z aa,v = .agg [vB r.Clash,W,X,Z,aa].toArray/\OwS Wf [31] [] [W] r.Lines/\OwS Wf [32] [] [X] r.Old/\OwS Wf [33] [] [Z] r.One/\OwS Wf [34] [] [aa] r.Two:=by
 unfold Vm.zg1 at Y
 refine zak.of Tryz.func230 O O O O (sr (al 2 [vB false, .slice none 0 0, .slice none 0 0, .slice none 0 0, .slice none 0 0] fun g1 W1 l1 b1=>?_))
 have h:=l1.o
 refine nl (Cw.seq (Cw.block ?_))
 obtain⟨K5,a5,Y⟩:=zaT Y
 refine Cw.join 7 13 [7] (fun l w=> ∃ D E,CW.w E=w/\Le [] W1 E/\l=[vB D]/\K5 D=some r) ?_ ?_
 ·rintro _ _ σ ⟨D,E,rfl,F,rfl,Y⟩
  rw[a5]at Y
  have i:=h.n F
  refine cn Y (fun Y=>?_) fun Y=>?_
  ·refine sr (Lw.t O (T.lit0 (α:=Str) 3 []) ?_)
   rintro v9 _ ⟨W9,rfl,l9,o9⟩
   have af:=i.n l9
   refine mv b O ?_
   obtain⟨ct,a8,Y⟩:=ob Y
   refine Lw.t O (T.appP (α:=Str) o9 (f.ul af) O O a8) ?_
   rintro G _ ⟨cu,rfl,ah,H⟩
   have a9:=af.t ah
   refine Lw.r O (R.bd (zs:=[vB false, .slice none 0 0, .slice none 0 0, .slice none 0 0, .slice none 0 0]) (cs:=[vB false,G, .slice none 0 0, .slice none 0 0, .slice none 0 0]) [(1,G)] O O O (zax H.oc O zcd)) (sta (((b1.up F).up l9).up ah) (zaa O (zaa H.oc (zaa O (zaa O (zaa O zaC))))) fun cv ai ba=>?_)
   have bb:=a9.t ai
   refine nl ?_
   obtain⟨cw,bc,aj,be⟩:=(H.up ai).dyeO 31
   have bg:=bb.t aj
   cases Y
   rw[<- bc]
   exact Cw.ret (zmg O (ba.up aj) (Res.mk bg ⟨G, .slice none 0 0, .slice none 0 0, .slice none 0 0,O,be.s,(zoT []).sub O O,(zoT []).sub O O,(zoT []).sub O O⟩))
  ·refine sr (mv b O (mv d O (ca Y (fun _=>p196 (f.ul i) (C.ul i)) fun cx cy Y ak=>?_)))
   have am:=i.n ak
   have an:=(b1.up F).up ak
   refine Nb O (cn Y (fun Y=>?_) fun Y=>?_)
   ·refine sr (Lw.t O (T.lit0 (α:=Str) 4 []) ?_)
    rintro cz _ ⟨c0,rfl,ao,bh⟩
    have ap:=am.n ao
    refine mv a O ?_
    obtain⟨c1,bi,Y⟩:=ob Y
    refine Lw.t O (T.appP (α:=Str) bh (e.ul ap) O O bi) ?_
    rintro I _ ⟨c2,rfl,aq,J⟩
    have bj:=ap.t aq
    refine Lw.r O (R.bd (zs:=[vB false, .slice none 0 0, .slice none 0 0, .slice none 0 0, .slice none 0 0]) (cs:=[vB false,I, .slice none 0 0, .slice none 0 0, .slice none 0 0]) [(1,I)] O O O (zax J.oc O zcd)) (sta ((an.up ao).up aq) (zaa O (zaa J.oc (zaa O (zaa O (zaa O zaC))))) fun c3 ar bk=>?_)
    have bl:=bj.t ar
    refine nl ?_
    obtain⟨c4,bm,au,bn⟩:=(J.up ar).dyeO 31
    have bp:=bl.t au
    cases Y
    rw[<- bm]
    exact Cw.ret (zmg O (bk.up au) (Res.mk bp ⟨I, .slice none 0 0, .slice none 0 0, .slice none 0 0,O,bn.s,(zoT []).sub O O,(zoT []).sub O O,(zoT []).sub O O⟩))
   ·refine sk (sr (Lw.t O (T.lit0 (α:=Str) 5 []) ?_))
    rintro c5 _ ⟨c6,rfl,av,bq⟩
    have aw:=am.n av
    refine mv d O ?_
    obtain⟨c7,br,Y⟩:=ob Y
    refine Lw.t O (T.appP (α:=Str) bq (C.ul aw) O O br) ?_
    rintro K _ ⟨c8,rfl,ax,bu⟩
    have bv:=aw.t ax
    refine Lw.t O (T.lit0 (α:=Str) 6 []) ?_
    rintro c9 _ ⟨da,rfl,L,bw⟩
    have ay:=bv.n L
    refine mv a O ?_
    obtain⟨db,bz,Y⟩:=ob Y
    refine Lw.t O (T.appP (α:=Str) bw (e.ul ay) O O bz) ?_
    rintro M _ ⟨dc,rfl,N,b0⟩
    have b2:=ay.t N
    refine Lw.t O (T.lit0 (α:=Str) 7 []) ?_
    rintro dd _ ⟨de,rfl,k,b3⟩
    have az:=b2.n k
    refine mv b O ?_
    obtain⟨df,b4,Y⟩:=ob Y
    refine Lw.t O (T.appP (α:=Str) b3 (f.ul az) O O b4) ?_
    rintro P _ ⟨dg,rfl,x,Q⟩
    have b5:=az.t x
    have S:=(((bu.up L).up N).up k).up x
    have U:=(b0.up k).up x
    refine Lw.r O (R.bd (zs:=[vB false, .slice none 0 0, .slice none 0 0, .slice none 0 0, .slice none 0 0]) (cs:=[vB true, .slice none 0 0,K,M,P]) [(0,vB true),(2,K),(3,M),(4,P)] O O O (zax O O (zax S.oc O (zax U.oc O (zax Q.oc O zcd))))) (sta ((((((an.up av).up ax).up L).up N).up k).up x) (zaa O (zaa O (zaa S.oc (zaa U.oc (zaa Q.oc zaC))))) fun dh y b6=>?_)
    have b7:=b5.t y
    refine nl ?_
    obtain⟨di,b8,z,b9⟩:=(S.up y).dyeO 32
    have cb:=b7.t z
    obtain⟨dj,cc,A,cd⟩:=((U.up y).up z).dyeO 33
    have ce:=cb.t A
    obtain⟨dk,cf,B,cg⟩:=(((Q.up y).up z).up A).dyeO 34
    have ch:=ce.t B
    cases Y
    rw[<- cf.trans (cc.trans (b8))]
    exact Cw.ret (zmg O (((b6.up z).up A).up B) (Res.mk ch ⟨.slice none 0 0,K,M,P,O,(zoT []).sub O O,((b9.up A).up B).s,(cd.up B).s,cg.s⟩))
 ·refine sr (mv a O (mv d O (ca Y (fun _=>p196 (e.ul h) (C.ul h)) fun ci cj Y V=>?_)))
  have a0:=h.n V
  refine Nb O (cn Y (fun Y=>?_) fun Y=>?_)
  ·exact sk ((ag) ⟨ci,cj,O,V,O,Y⟩)
  ·exact rg (mv a O (mv b O (ca Y (fun _=>p196 (e.ul a0) (f.ul a0)) fun ck cl Y cm=>Nb O ((ag) ⟨ck,cl,O,(V.j cm).w,O,Y⟩))))
theorem p230 {x0 h x1 i x2 k k0 k1 k2 k3 r}(x:Rd W K [h] x0)(y:Rd W K [i] x1)(z:Rd W K [k] x2)(Y:Vm.zg1 x0 x1 x2=some r):Q1 230 [h,i,k] W [] fun W' v=> ∃ a b d f,v = .agg [vB r.Clash,a,b,d,f].toArray/\Ow W' k0 [] [a] r.Lines/\Ow W' k1 [] [b] r.Old/\Ow W' k2 [] [d] r.One/\Ow W' k3 [] [f] r.Two:=
 zak.adJ (J:=[]) (fun c=>bif Nat.beq c 0 then 0 else bif Nat.beq c 31 then k0 else bif Nat.beq c 32 then k1 else bif Nat.beq c 33 then k2 else bif Nat.beq c 34 then k3 else 0) (c230 (x.view _) (y.view _) (z.view _) Y) fun _ _ ⟨a,b,d,f,e,A,B,C,D⟩=>⟨a,b,d,f,e,A.one1.backN O,B.one1.backN O,C.one1.backN O,D.one1.backN O⟩
theorem c229 {x0 a x1 A B C D r}(N:Ow W0 2 [] [a] x0)(P:Ow W0 3 [] [A] x1.Lines)(ae:Ow W0 4 [] [B] x1.Old)(af:Ow W0 5 [] [C] x1.One)(ah:Ow W0 6 [] [D] x1.Two)(Y:Vm.zht x0 x1=some r):Q0 229 [a, .agg [vB x1.Clash,A,B,C,D].toArray] W0 fun Wf v=> ∃ Q,v=Q/\OwS Wf [31] [] [Q] r:=by
 unfold Vm.zht at Y
 refine zak.of Tryz.func229 O O O O (sr (bo 7 O fun g1 H b E=>?_))
 have a2:=b.o
 refine Nv (.slice none 0 0) O (sr (mv a O (Lw.ln x0 (N.up b).rd O (Ni O (Cw.seq ?_)))))
 obtain⟨aj,ak,Y⟩:=zaT Y
 refine Cw.join 8 16 [16] (fun l w=> ∃ I f,CW.w f=w/\Le [] H f/\l=[vB I]/\aj I=some r) ?_ ?_
 ·rintro _ _ σ ⟨I,f,rfl,d,rfl,Y⟩
  rw[ak]at Y
  have S:=a2.n d
  have i:=(N.up b).up d
  refine cn Y (fun Y=>?_) fun Y=>?_
  ·refine sr (mv a O (Nv a O ?_))
   obtain⟨br,am,an,ao⟩:=i.dyeO 31
   have ap:=S.t an
   cases Y
   rw[<- am]
   exact Cw.ret (zhX O (Res.mk ap ⟨a,O,ao.s⟩))
  ·refine sk (Cw.seq ?_)
   obtain⟨aq,ar,Y⟩:=zaT Y
   refine Cw.join 18 33 [33] (fun l w=> ∃ K L,CW.w L=w/\Le [] f L/\l=[vB K]/\aq K=some r) ?_ ?_
   ·rintro _ _ σ ⟨K,L,rfl,e,rfl,Y⟩
    rw[ar]at Y
    have U:=S.n e
    have V:=((P.up b).up d).up e
    have W:=(E.up d).up e
    refine cn Y (fun Y=>?_) fun Y=>?_
    ·refine Cw.seq (Cw.draw [] [(0,0),(1,0),(2,0),(3,0),(4,0),(5,0),(6,0),(7,0),(8,1),(9,0),(10,1),(11,3),(12,0),(13,0),(14,3)] mixed (by kernel_rfl) fun bu F=>?_)
     have au:=U.n F
     have k:=(i.up e).up F
     refine Dv a O (Di O (Mw.p O O (fun _=>R.sub O O) (Dv a O (Di O (Mw.p O O (fun _=>R.sub O O) ?_)))))
     obtain⟨bv,G,Y⟩:=ob Y
     refine Mw.p O O (fun _=>R.ix (α:=Part) k.rd G O O O) (Df O ?_)
     obtain⟨bw,c48,r49⟩:=(Part.at1 (k.rd.at_ G)).cell O
     refine Mw.q O O (fun _ c=>R.ld O O (zao (Part.at1 (k.rd.at_ G)).1 O c48 c)) (Dfl (W.up F) O O O ?_)
     obtain⟨bz,av,X,aw,ax⟩:=Ow.take (α:=Part) (β:=List Str) (j:=8) (jf:=1) k G c48 O
     rw[<- av]
     have ay:=au.t X
     obtain⟨b0,az,Y⟩:=ob Y
     refine Mw.l O O (T.appP (α:=Str) aw ((V.up F).up X).rd O O az) ?_
     rintro b2 _ ⟨b3,rfl,Z,a0⟩
     have a1:=ay.t Z
     obtain⟨b4,a3,Y⟩:=ob Y
     refine Mw.p O O (fun _=>R.ix (α:=Part) k.rd a3 O O O) (Df O ?_)
     obtain⟨b5,a4,Y⟩:=ob Y
     refine Mw.lu O (T.stH (α:=Part) (β:=List Str) (J:=[8]) (ax.up (Z.sub (M:=[8]) O) O) a0.s a4 O O O O) ?_
     rintro _ _ ⟨b6,rfl,a5,a6⟩
     have a7:=a1.t a5
     refine Mw.nil (sr (mv a O (Nv a O ?_)))
     obtain⟨b7,a8,a9,ba⟩:=a6.dyeO 31
     have bb:=a7.t a9
     cases Y
     rw[<- a8]
     exact Cw.ret (zhX O (Res.mk bb ⟨a,O,ba.s⟩))
    ·refine sk (sr (mv a O (la W (Lw.t O (T.bs 9 [.agg [vB x1.Clash,A,B,C,D].toArray] (cs:=[vB x1.Clash,A,B,C,D]) O O (bsA O)) ?_))))
     rintro _ _ ⟨b8,b9,rfl,rfl,h,bc⟩
     have be:=U.n h
     obtain⟨cb,bg,Y⟩:=ob Y
     refine Lw.t O (T.app1 (α:=Part) (J:=[3,4,5,6]) (K':=[]) ((i.up e).up h) bc (Part.own x1.Clash x1.Lines x1.Old x1.One x1.Two (V.up h).s ((((ae.up b).up d).up e).up h).s ((((af.up b).up d).up e).up h).s ((((ah.up b).up d).up e).up h).s) O O bg) ?_
     rintro aa _ ⟨cc,rfl,bh,bi⟩
     have bj:=be.t bh
     refine Nv aa O ?_
     obtain⟨cd,bk,bl,bm⟩:=bi.dyeO 31
     have bn:=bj.t bl
     cases Y
     rw[<- bk]
     exact Cw.ret (zhX O (Res.mk bn ⟨aa,O,bm.s⟩))
   ·refine rg (mi O (Lw.gt O (mb O (bs Y (fun x Y=>?_) fun x Y=>?_))))
    ·refine wak 3 x (fl (E.up d) O (Lw.r O (R.not O) (Pb x O (mb O (bs Y (fun y Y=>?_) fun y Y=>?_)))))
     ·refine wak 7 y (mv a O (mi O (Lw.sub O ?_)))
      obtain⟨bp,ac,Y⟩:=ob Y
      exact Lw.r O (R.ix (α:=Part) i.rd ac O O O) (Lw.fa O (Lw.r O (R.ld O O (Part.at0 (i.rd.at_ ac)).bool) (Lw.r O (R.not O) (Pb y O (nl ((ag) ⟨(!bp.Clash),f,O,Le.refl _ _,O,Y⟩))))))
     ·exact psk 7 y O (Pb y O (nl ((ag) ⟨false,f,O,Le.refl _ _,O,Y⟩)))
    ·exact psk 3 x O (Pb x O (mb O (psk 7 O O (Pb O O (nl ((ag) ⟨false,f,O,Le.refl _ _,O,Y⟩))))))
 ·refine rg (fl E O (Lw.r O (R.not O) (mb O (bs Y (fun z Y=>?_) fun z Y=>?_))))
  ·exact wak 4 z (fl E O (Lw.ln x1.Lines (P.up b).rd O (Lw.eq O (Pb z O (nl ((ag) ⟨((x1.Lines.length:Int)==0),H,O,Le.refl _ _,O,Y⟩))))))
  ·exact psk 4 z O (Pb z O (nl ((ag) ⟨false,H,O,Le.refl _ _,O,Y⟩)))
theorem p229 {x0 b x1 d f h i k0 c0 c1 c2 c3 c4 r}(k:Ow W c0 [] [b] x0)(x:Ow W c1 [] [d] x1.Lines)(y:Ow W c2 [] [f] x1.Old)(z:Ow W c3 [] [h] x1.One)(A:Ow W c4 [] [i] x1.Two)(hJ:okJ K [c0,c1,c2,c3,c4]=true)(Y:Vm.zht x0 x1=some r):Q1 229 [b, .agg [vB x1.Clash,d,f,h,i].toArray] W [c0,c1,c2,c3,c4] fun W' v=> ∃ a,v=a/\Ow W' k0 [] [a] r:=
 zak.adJ (J:=[c0,c1,c2,c3,c4]) (fun c=>bif Nat.beq c 0 then 0 else bif Nat.beq c 2 then c0 else bif Nat.beq c 3 then c1 else bif Nat.beq c 4 then c2 else bif Nat.beq c 5 then c3 else bif Nat.beq c 6 then c4 else bif Nat.beq c 31 then k0 else 0) (c229 (k.viewJ 0 hJ) (x.viewJ 1 hJ) (y.viewJ 2 hJ) (z.viewJ 3 hJ) (A.viewJ 4 hJ) Y) fun _ _ ⟨a,e,B⟩=>⟨a,e,B.one1.backN O⟩
theorem c201 {x0 d x1 k x2 x r}(e:Rd W0 [0] [d] x0)(F:Rd W0 [0] [k] x1)(G:Rd W0 [0] [x] x2)(Y:Vm.zjt x0 x1 x2=some r):Q0 201 [d,k,x] W0 fun Wf v=> ∃ u0,v=u0/\OwS Wf LL [] [u0] r:=by
 unfold Vm.zjt at Y
 refine zak.of Tryz.func201 O O O O (sr (Nv (.slice none 0 0) O (sr (Lw.t O (T.lit0 (α:=Part) 2 []) ?_))))
 rintro v1 _ ⟨W1,rfl,l1,o1⟩
 have a2:=l1.o
 refine Nv v1 O (sr (mv d O (mv k O (cr Y (fun _=>p156 (k0:=3) (e.ul a2) (F.ul a2)) ?_))))
 rintro z5 dm W7 Y l7 ⟨_,rfl,b1⟩
 have a8:=a2.n l7
 refine mv k O (Lw.ln x1 (F.ul a8) O (Lw.t O (T.bs 4 [vI (x1.length:Int)] (cs:=[vI (x1.length:Int)]) O O (bsv O)) ?_))
 rintro _ _ ⟨dp,dq,rfl,rfl,am,b2⟩
 have b3:=a8.n am
 obtain⟨a7,b4,Y⟩:=ob Y
 refine Lw.t O (T.app1S (α:=Int) (K':=[]) (b1.up am) b2 (rdI _) O O b4) ?_
 rintro y _ ⟨dr,rfl,a9,b5⟩
 have an:=b3.t a9
 refine Nv y O (sr (mv d O (mv x O (cr Y (fun _=>p156 (k0:=5) (e.ul an) (G.ul an)) ?_))))
 rintro ds dt du Y ao ⟨_,rfl,b6⟩
 have ba:=an.n ao
 refine mv x O (Lw.ln x2 (G.ul ba) O (Lw.t O (T.bs 6 [vI (x2.length:Int)] (cs:=[vI (x2.length:Int)]) O O (bsv O)) ?_))
 rintro _ _ ⟨dv,dw,rfl,rfl,H,b7⟩
 have b8:=ba.n H
 obtain⟨b9,cb,Y⟩:=ob Y
 refine Lw.t O (T.app1S (α:=Int) (K':=[]) (b6.up H) b7 (rdI _) O O cb) ?_
 rintro I _ ⟨bb,rfl,ap,cc⟩
 have cd:=b8.t ap
 refine Nv I O (sr (Ni O (sr (Ni O (sr (Ni O (ssr (Ni O (Cw.block ?_)))))))))
 obtain⟨ce,cf,Y⟩:=zaT Y
 refine Cw.loop 29 91 [7,10,11,12,13] (fun m l w=> ∃ J L N P z a b,CW.w b=w/\Le [2,7,8,9,10,11,12,13,14,15,16] bb b/\l=[a,vI L,vI N,vI P,vI z]/\Ow b 2 [] [a] J/\Vm.zdf x0 x1 x2 a7 b9 ce m J L N P z=some r) _ ⟨([]:List Part),0,0,0,0,v1,bb,O,Le.refl _ _,O,((((((o1.up l7).up am).up a9).up ao).up H).up ap),Y⟩ ?_
 rintro(_ |dx) _ _ σ ⟨J,L,N,P,z,a,b,rfl,Q,rfl,aq,Y⟩
 ·cases Y
 unfold Vm.zdf at Y
 have bc:=cd.t Q
 have S:=(((b5.up ao).up H).up ap).up Q
 have ar:=cc.up Q
 refine ssr (mi O (mv y O (Lw.ln a7 S.rd O (Lw.lt O (nl (cn Y (fun Y=>?_) fun Y=>?_))))))
 ·refine sk ?_
  obtain⟨cg,ch,Y⟩:=zaT Y
  refine Cw.join 35 91 [7,10,11,12] (fun l w=> ∃ U V X Z aa A,CW.w A=w/\Le [2,7,8,9,10,11,12,13,14,15,16] b A/\l=[aa,vI V,vI X,vI Z]/\Ow A 2 [] [aa] U/\cg U V X Z=some r) ?_ ?_
  ·rintro _ _ σ ⟨U,V,X,Z,aa,A,rfl,ci,rfl,cj,Y⟩
   rw[ch]at Y
   exact rg (mi O (Lw.add O (Ni O ((agm) ⟨U,V,X,Z,w64 (z+1),aa,A,O,(Q.j ci).w,O,cj,Y⟩))))
  ·refine Cw.block (Cw.seq ?_)
   obtain⟨ck,cl,Y⟩:=zaT Y
   refine Cw.join 35 46 [46] (fun l w=> ∃ au ac,CW.w ac=w/\Le [] b ac/\l=[vB au]/\ck au=some r) ?_ ?_
   ·rintro _ _ σ ⟨au,ac,rfl,f,rfl,Y⟩
    rw[cl]at Y
    have cm:=bc.n f
    refine cn Y (fun Y=>?_) fun Y=>?_
    ·exact Cw.exit ((ag) ⟨J,L,N,P,a,ac,O,f.w,O,(aq.up f),Y⟩)
    ·refine sk (Cw.seq (Cw.draw [2,7,8,9,10] [(0,0),(1,0),(2,0),(3,0),(4,0),(5,0),(6,0),(7,0),(8,0),(9,0),(10,1),(11,0),(12,0),(13,0),(14,0),(15,0),(16,0),(17,1),(18,0),(19,3),(20,2),(21,0)] mixed (by kernel_rfl) fun dy B=>?_))
     have h:=cm.n B
     have ae:=(S.up f).up B
     have af:=(ar.up f).up B
     refine Dv a O (Dv d O (Di O (Di O ?_)))
     obtain⟨dz,be,Y⟩:=ob Y
     have r95:=(e.ul h).cutV be
     refine Mw.p O O (fun _=>R.sl (e.ul h) be O (.inr O) (.inr O)) (Dv k O (Di O (Dv y O (Di O ?_))))
     obtain⟨d0,av,Y⟩:=ob Y
     refine Mw.p O O (fun _=>R.ix (α:=Int) ae.rd av O O O) (Mw.q O O (fun _ c=>R.ld O O (zao (ae.rd.at_ av).1 O (ae.rd.at_ av).int c)) ?_)
     obtain⟨d1,bg,Y⟩:=ob Y
     have r102:=(F.ul h).cutV bg
     refine Mw.p O O (fun _=>R.sl (F.ul h) bg O (.inr O) (.inr O)) (Dv x O (Di O (Dv I O (Di O ?_))))
     obtain⟨d2,aw,Y⟩:=ob Y
     refine Mw.p O O (fun _=>R.ix (α:=Int) af.rd aw O O O) (Mw.q O O (fun _ c=>R.ld O O (zao (af.rd.at_ aw).1 O (af.rd.at_ aw).int c)) ?_)
     obtain⟨d3,bh,Y⟩:=ob Y
     have r109:=(G.ul h).cutV bh
     refine Mw.p O O (fun _=>R.sl (G.ul h) bh O (.inr O) (.inr O)) ?_
     obtain⟨C,co,Y⟩:=ob Y
     refine Mw.l O O (T.call O (p230 (k0:=7) (k1:=8) (k2:=9) (k3:=10) r95 r102 r109 co)) ?_
     rintro _ _ ⟨d4,rfl,i,⟨d5,d6,d7,d8,rfl,cp,cq,ct,cu⟩⟩
     have cv:=h.n i
     obtain⟨cw,cx,Y⟩:=ob Y
     refine Mw.t O O (T.call O (p229 (K:=[0]) (k0:=11) (c0:=2) (c1:=7) (c2:=8) (c3:=9) (c4:=10) (x1:=(Vm.Part.mk C.Clash C.Lines C.Old C.One C.Two)) (((aq.up f).up B).up i) cp cq ct cu O cx)) ?_
     rintro ax _ ⟨ay,rfl,D,⟨_,rfl,bi⟩⟩
     have az:=cv.t D
     refine⟨⟨_,O,((i.sub (M:=[2,7,8,9,10]) O).trans (D.sub (M:=[2,7,8,9,10]) O))⟩,?_⟩
     refine Hv ax O (Mw.nil ?_)
     obtain⟨cy,cz,Y⟩:=zaT Y
     refine Cw.join 68 79 [7] (fun l w=> ∃ ah ai aj,CW.w aj=w/\Le [11,12,13,14,15,16] ay aj/\l=[ai]/\Ow aj 11 [] [ai] ah/\cy ah=some r) ?_ ?_
     ·rintro _ _ σ ⟨ah,ai,aj,rfl,a0,rfl,c5,Y⟩
      rw[cz]at Y
      have bj:=((ae.up i).up D).up a0
      have bk:=((af.up i).up D).up a0
      refine sr (mi O (Lw.add O (Ni O (sr (mv y O (mi O ?_))))))
      obtain⟨c6,bl,Y⟩:=ob Y
      refine Lw.r O (R.ix (α:=Int) bj.rd bl O O O) (Lw.r O (R.ld O O (bj.rd.at_ bl).int) (Lw.add O (Ni O (rg (mv I O (mi O ?_))))))
      obtain⟨c7,bm,Y⟩:=ob Y
      refine Lw.r O (R.ix (α:=Int) bk.rd bm O O O) (Lw.r O (R.ld O O (bk.rd.at_ bm).int) (Lw.add O (Ni O ?_)))
      obtain⟨c8,c9,da,db⟩:=c5.dyeO 2
      exact(ag) ⟨ah,w64 (z+1),w64 (c6+1),w64 (c7+1),ai,c8,c9,(((((f.j B).j i).j D).j a0).j da).w,O,db,Y⟩
     ·refine sr (mi O (mv d O (Lw.ln x0 (e.ul az) O (Lw.lt O (nl (cn Y (fun Y=>?_) fun Y=>?_))))))
      ·refine rg (mv ax O (mv d O (mi O ?_)))
       obtain⟨a1,bn,Y⟩:=ob Y
       refine Lw.r O (R.ix (α:=Str) (e.ul az) bn O O O) (Lw.r O (R.ld O O ((e.ul az).at_ bn).str) (Lw.t O (T.bsS (α:=Str) (xs:=[a1]) 12 [] (W:=ay) [vS a1] (Each.cons ((rdS _)) Each.nil) O) ?_))
       rintro bp _ ⟨d9,rfl,bq,br⟩
       refine Lw.r O (R.bd (zs:=[vB false, .slice none 0 0, .slice none 0 0, .slice none 0 0, .slice none 0 0]) (cs:=[vB false,bp, .slice none 0 0, .slice none 0 0, .slice none 0 0]) [(1,bp)] O O O (zax br.oc O zcd)) (cr Y (fun _=>p229 (K:=[0]) (k0:=16) (c0:=11) (c1:=12) (c2:=13) (c3:=14) (c4:=15) (x1:=(Vm.Part.mk false ([a1]:List Str) ([]:List Str) ([]:List Str) ([]:List Str))) (bi.up bq) br (owN 13 []) (owN 14 []) (owN 15 []) O) ?_)
       rintro dc bu ea Y dd ⟨_,rfl,de⟩
       refine Nv bu O ?_
       obtain⟨df,dg,dh,di⟩:=de.dyeO 11
       exact(ag) ⟨dc,bu,df,dg,((bq.j dd).j dh).w,O,di,Y⟩
      ·exact sk ((ag) ⟨cw,ax,ay,O,Le.refl _ _,O,bi,Y⟩)
   ·refine rg (mv y O (mi O ?_))
    obtain⟨eb,bv,Y⟩:=ob Y
    refine Lw.r O (R.ix (α:=Int) S.rd bv O O O) (Lw.r O (R.ld O O (S.rd.at_ bv).int) (Lw.lt O (mb O (bs Y (fun E Y=>?_) fun E Y=>?_))))
    ·exact psk 5 E O (Pb E O (nl ((ag) ⟨true,b,O,Le.refl _ _,O,Y⟩)))
    ·refine wak 5 E (mv I O (mi O ?_))
     obtain⟨dj,bw,Y⟩:=ob Y
     exact Lw.r O (R.ix (α:=Int) ar.rd bw O O O) (Lw.r O (R.ld O O (ar.rd.at_ bw).int) (Lw.lt O (Pb E O (nl ((ag) ⟨decide (dj< (0:Int)),b,O,Le.refl _ _,O,Y⟩)))))
 ·refine Cw.exit ?_
  rw[cf]at Y
  refine sr (mv a O (Nv a O ?_))
  cases Y
  exact Cw.ret (zhX O (Res.mk bc ⟨a,O,aq.s.sub O O⟩))
theorem p201 {x0 b x1 d x2 f k0 r}(h:Rd W K [b] x0)(i:Rd W K [d] x1)(k:Rd W K [f] x2)(Y:Vm.zjt x0 x1 x2=some r):Q1 201 [b,d,f] W [] fun W' v=> ∃ a,v=a/\Ow W' k0 [] [a] r:=
 (c201 (h.view _) (i.view _) (k.view _) Y).ad (fk k0) fun _ _ ⟨a,e,x⟩=>⟨a,e,x.back (zgC _)⟩
end Go.Sx
