/- Walks: each function answers as its model, printed by a program of ours. Conditions: the arguments read as they are given. -/
import Derived.Test.YtiahldhbknpmiaaGreatDoorATs
import Derived.Test.YtiahldhbknpmiaaGreatDoorAM1
import Derived.Test.YtiahldhbknpmiaaGreatDoorAW0
import Derived.Test.YtiahldhbknpmiaaGreatDoorAW1
namespace Go.Sx
open Go Go.Proofs Go.Vm Rp
set_option linter.unusedVariables false
set_option linter.unusedSimpArgs false
variable {W W0:CW}{K:List Nat}
theorem c125 {x0 d r}(E:Rd W0 [0] [d] x0)(Y:Vm.zfF x0=some r):Q0 125 [d] W0 fun Wf v=> ∃ F,v=F/\OwS Wf LL [] [F] r:=by
 unfold Vm.zfF at Y
 refine zaz.of Tryz.func125 O O O O (sr (Nv (.slice none 0 0) O (sr (Lw.t O (T.lit0 (α:=File) 2 []) ?_))))
 rintro G _ ⟨H,rfl,P,Q⟩
 have S:=P.o
 refine Nv G O (ssr (Ni O (Cw.block ?_)))
 obtain⟨U,V,Y⟩:=zbM Y
 refine Cw.loop 6 27 [3,4] (fun m l w=> ∃ y f a h,CW.w h=w/\Le [2,3] H h/\l=[a,vI f]/\Ow h 2 [] [a] y/\Vm.zcA x0 U m y f=some r) _ ⟨([]:List File),0,G,H,O,Le.refl _ _,O,Q,Y⟩ ?_
 rintro(_ |m9) _ _ σ ⟨y,f,a,h,rfl,I,rfl,K,Y⟩
 ·cases Y
 unfold Vm.zcA at Y
 have z:=S.t I
 refine ssr (mi O (mv d O (Lw.ln x0 (E.ul z) O (Lw.lt O (nl (cn Y (fun Y=>?_) fun Y=>?_))))))
 ·refine sk (Cw.seq (Cw.block (Cw.draw [2,3] [(0,0),(1,0),(2,0),(3,0),(4,0),(5,1),(7,0),(8,0),(9,0),(10,0),(11,1),(6,2),(12,2),(13,0),(14,2),(15,2),(16,0)] mixed (by kernel_rfl) fun ap A=>?_)))
  have W:=z.n A
  refine Dv a O (Dv d O (Di O ?_))
  obtain⟨e,B,Y⟩:=ob Y
  have b:=E.ul W
  refine Mw.p O O (fun _=>R.ix (α:=File) b B O O O) (Df O (Mw.q O O (fun _ c=>R.ld O O (zaB (File.at0 (b.at_ B)).1 O (File.at0 (b.at_ B)).str c)) (Dv d O (Di O ?_))))
  obtain⟨aq,C,Y⟩:=ob Y
  refine Mw.p O O (fun _=>R.ix (α:=File) b C O O O) (Df O ?_)
  obtain⟨ar,c22,r23⟩:=(File.at1 (b.at_ C)).cell O
  refine Mw.q O O (fun _ c=>R.ld O O (zaB (File.at1 (b.at_ C)).1 O c22 c)) (Mw.t O O (T.lit0 (α:=Str) 3 []) ?_)
  rintro au _ ⟨av,rfl,i,X⟩
  have Z:=i.o
  refine m0 i fun aa=>?_
  obtain⟨ac,ae,Y⟩:=ob Y
  refine Mw.t O O (T.appP (α:=Str) X (r23.ul Z) O O ae) ?_
  rintro k _ ⟨aw,rfl,D,L⟩
  refine mc aa D fun af=>Mw.p O O (fun _=>R.bd (zs:=[vS ([]:Str), .slice none 0 0]) (cs:=[vS e.Path,k]) [(0,vS e.Path),(1,k)] O O O (zbc O O (zbc L.oc O ze4))) (Mw.t O O (T.bs 4 [.agg [vS e.Path,k].toArray] (cs:=[vS e.Path,k]) O O (bsA O)) ?_)
  rintro _ _ ⟨ax,ay,rfl,rfl,x,ah⟩
  refine mc af x fun ai=>?_
  obtain⟨aj,ak,Y⟩:=ob Y
  refine Mw.t O O (T.app1 (α:=File) (J:=[3]) (K':=[]) ((((K.up A).up i).up D).up x) ah (File.own e.Path ac (L.up x).s) O O ak) ?_
  rintro M _ ⟨am,rfl,N,an⟩
  exact mc ai N fun az=>Hv M O (Mw.nil (rg (mi O (Lw.add O (Ni O ((agm) ⟨aj,w64 (f+1),M,am,O,(((((I.j A).j i).j D).j x).j N).w,O,an,Y⟩))))))
 ·refine Cw.exit ?_
  rw[V]at Y
  refine sr (mv a O (Nv a O ?_))
  cases Y
  exact Cw.ret (zkN O (Res.mk z ⟨a,O,K.s.sub O O⟩))
theorem p125 {x0 b k0 r}(d:Rd W K [b] x0)(Y:Vm.zfF x0=some r):Q1 125 [b] W [] fun W' v=> ∃ a,v=a/\Ow W' k0 [] [a] r:=
 (c125 (d.view _) Y).ad (fk k0) fun _ _ ⟨a,e,f⟩=>⟨a,e,f.back (ziQ _)⟩
theorem c142 {x0 A B r}(I:Rd W0 [0] [A,vS x0.Who,B] x0)(Y:Vm.zcT x0=some r):Q0 142 [.agg [A,vS x0.Who,B].toArray] W0 fun Wf v=> ∃ C D,v = .agg [C,vS r.Who,D].toArray/\OwS Wf [31] [] [C] r.Parents/\OwS Wf [32] [] [D] r.Tree:=by
 unfold Vm.zcT at Y
 obtain⟨ao,ap,E,J,K⟩:=Commit.split I
 simp only[List.cons.injEq,and_true,true_and]at E
 obtain⟨rfl,rfl⟩:=E
 refine zaz.of Tryz.func142 O O O O (sr (bo 2 O fun g1 W1 L M=>?_))
 have N:=L.o
 refine al 3 [.slice none 0 0,vS ([]:Str), .slice none 0 0] fun g3 W3 F P=>?_
 have Q:=N.n F
 refine nl (Cw.seq (Cw.draw [4] [(1,0),(2,1),(4,0),(5,1),(6,0),(7,1),(0,2),(3,2),(8,2),(9,0),(10,3)] mixed (by kernel_rfl) fun W6 e=>?_))
 have S:=Q.n e
 have f:=(M.up F).up e
 refine Dfl f O O O (Dfl f O O O (Dfl f O O O (Mw.t O O (T.lit0 (α:=Int) 4 []) ?_)))
 rintro ax _ ⟨ay,rfl,l10,U⟩
 have G:=S.n l10
 refine m0 l10 fun V=>?_
 obtain⟨az,W,Y⟩:=ob Y
 refine Mw.t O O (T.appP (α:=Int) U (J.ul G) O O W) ?_
 rintro a _ ⟨a0,rfl,h,X⟩
 have H:=G.t h
 refine mc V h fun Z=>?_
 obtain⟨a1,aa,Y⟩:=ob Y
 refine Mw.t O O (T.call O (p125 (k0:=5) (K.ul H) aa)) ?_
 rintro b _ ⟨a3,rfl,d,⟨_,rfl,i⟩⟩
 have ac:=H.n d
 have k:=X.up d
 refine mc Z d fun a5=>Mw.p O O (fun _=>R.bd (zs:=[.slice none 0 0,vS ([]:Str), .slice none 0 0]) (cs:=[a,vS x0.Who,b]) [(0,a),(1,vS x0.Who),(2,b)] O O O (zbc k.oc O (zbc O O (zbc i.oc O ze4)))) (Mw.lu O (T.sta (vs:=[a,vS x0.Who,b]) ((((P.up e).up l10).up h).up d) O O (zaa k.oc (zaa O (zaa i.oc za0))) O O) ?_)
 rintro _ _ ⟨a6,rfl,x,ae⟩
 have af:=ac.t x
 refine Mw.nil ?_
 obtain⟨a8,ah,y,ai⟩:=(k.up x).dyeO 31
 have aj:=af.t y
 obtain⟨a9,ak,z,am⟩:=((i.up x).up y).dyeO 32
 have an:=aj.t z
 cases Y
 rw[<- ak.trans (ah)]
 exact Cw.ret (zn1 O ((ae.up y).up z) (Res.mk an ⟨a,b,O,(ai.up z).s,am.s⟩))
theorem p142 {x0 d f k0 k1 r}(h:Rd W K [d,vS x0.Who,f] x0)(Y:Vm.zcT x0=some r):Q1 142 [.agg [d,vS x0.Who,f].toArray] W [] fun W' v=> ∃ a b,v = .agg [a,vS r.Who,b].toArray/\Ow W' k0 [] [a] r.Parents/\Ow W' k1 [] [b] r.Tree:=
 zaz.adJ (J:=[]) (fun c=>bif Nat.beq c 0 then 0 else bif Nat.beq c 31 then k0 else bif Nat.beq c 32 then k1 else 0) (c142 (h.view _) Y) fun _ _ ⟨a,b,e,i,k⟩=>⟨a,b,e,i.one1.backN O,k.one1.backN O⟩
theorem c72 {x0 X Z r}(h0:Rd W0 [0] [X,Z] x0)(Y:Vm.zdr x0=some r):Q0 72 [.agg [X,Z].toArray] W0 fun Wf v=> ∃ aa ac,v = .agg [aa,ac].toArray/\OwS Wf [31] [] [aa] r.Commits/\OwS Wf [32] [] [ac] r.Heads:=by
 unfold Vm.zdr at Y
 obtain⟨b5,b6,ae,af,au⟩:=Repo.split h0
 simp only[List.cons.injEq,and_true,true_and]at ae
 obtain⟨rfl,rfl⟩:=ae
 refine zaz.of Tryz.func72 O O O O (sr (bo 2 O fun g1 W1 l1 b1=>?_))
 have a2:=l1.o
 refine al 3 [.slice none 0 0, .slice none 0 0] fun g3 W3 l3 b3=>?_
 have a4:=a2.n l3
 refine nl (sr (Lw.t O (T.lit0 (α:=Head) 4 []) ?_))
 rintro v6 _ ⟨W6,rfl,C,o6⟩
 have a7:=a4.n C
 have b8:=(b1.up l3).up C
 refine fl b8 O ?_
 obtain⟨a1,a3,Y⟩:=ob Y
 refine Lw.t O (T.appP (α:=Head) o6 (au.ul a7) O O a3) ?_
 rintro D _ ⟨cf,rfl,E,F⟩
 have a5:=a7.t E
 refine Lw.r O (R.bd (zs:=[.slice none 0 0, .slice none 0 0]) (cs:=[.slice none 0 0,D]) [(1,D)] O O O (zbc F.oc O ze4)) (al 5 [.slice none 0 0, .slice none 0 0] fun a6 cg e a8=>?_)
 have a9:=a5.n e
 refine sta a8 (zaa O (zaa (F.up e).oc za0)) fun ak i ba=>?_
 have bb:=a9.t i
 refine nl (ssr (Ni O (Cw.block ?_)))
 obtain⟨bc,be,Y⟩:=zbM Y
 refine Cw.loop 10 27 [4] (fun m l w=> ∃ k G x y f d,CW.w d=w/\Le [5,6,7,8] ak d/\l=[vI k]/\Ow d 6 [] [y] G/\Ow d 4 [] [f] x/\Bx d 5 a6 [y,f]/\Vm.zcB x0 bc m k G x=some r) _ ⟨0,([]:List Commit),a1, .slice none 0 0,D,ak,O,Le.refl _ _,O,owN 6 [],((F.up e).up i),ba,Y⟩ ?_
 rintro(_ |ch) _ _ σ ⟨k,G,x,y,f,d,rfl,z,rfl,H,I,L,Y⟩
 ·cases Y
 unfold Vm.zcB at Y
 have M:=bb.t z
 have am:=(((b8.up E).up e).up i).up z
 refine ssr (mi O (fl am O (Lw.ln x0.Commits (af.ul M) O (Lw.lt O (nl (cn Y (fun Y=>?_) fun Y=>?_))))))
 ·refine sk (Cw.seq (Cw.block (Cw.draw [6,7,8] [(0,0),(1,1),(2,0),(3,1),(4,0),(5,0),(6,1),(7,2),(8,2),(9,2),(10,0),(11,3)] mixed (by kernel_rfl) fun ci a=>?_)))
  have bg:=M.n a
  refine Dfl (L.up a) O O O (Dfl (am.up a) O O O (Di O ?_))
  obtain⟨N,P,Y⟩:=ob Y
  have Q:=af.ul bg
  refine Mw.p O O (fun _=>R.ix (α:=Commit) Q P O O O) ?_
  obtain⟨x53,c54,_,r55⟩:=(Q.at_ P).cells
  obtain⟨cj,ck,rfl,r57,r59⟩:=Commit.split r55
  refine Mw.q O O (fun _ c=>R.lda (zkX (Q.at_ P).1 O c54 c) O O) (Dc Y (Le.refl _ _) (fun _=>p142 (k0:=7) (k1:=8) (Commit.rd (K:=[0]) N.Parents N.Who N.Tree r57 r59)) O ?_)
  rintro h _ cl Y A ⟨an,ao,rfl,bh,bi⟩ bj
  refine Mw.t O O (T.bs 9 [.agg [an,vS h.Who,ao].toArray] (cs:=[an,vS h.Who,ao]) O O (bsA O)) ?_
  rintro _ _ ⟨cm,co,rfl,rfl,b,bk⟩
  refine mc bj b fun bl=>?_
  obtain⟨bm,bn,Y⟩:=ob Y
  refine Mw.t O O (T.app1 (α:=Commit) (J:=[7,8]) (K':=[]) (((H.up a).up A).up b) bk (Commit.own h.Parents h.Who h.Tree (bh.up b).s (bi.up b).s) O O bn) ?_
  rintro ap _ ⟨cp,rfl,B,aq⟩
  refine mc bl B fun cq=>Df O (Mw.lu O (T.st (j:=0) (v:=ap) ((((L.up a).up A).up b).up B) O O aq.oc O O) ?_)
  rintro _ _ ⟨bp,rfl,S,bq⟩
  exact Mw.nil (rg (mi O (Lw.add O (Ni O ((agm) ⟨w64 (k+1),bm,x,ap,f,bp,O,(((((z.j a).j A).j b).j B).j S).w,O,(aq.up S),(((((I.up a).up A).up b).up B).up S),bq,Y⟩)))))
 ·refine Cw.exit ?_
  rw[be]at Y
  refine sr (la L (sta (((((b3.up C).up E).up e).up i).up z) (zaa H.oc (zaa I.oc za0)) fun ct U br=>?_))
  have bu:=M.t U
  refine nl ?_
  obtain⟨cu,bv,V,bw⟩:=(H.up U).dyeO 31
  have bz:=bu.t V
  obtain⟨cv,b0,W,b2⟩:=((I.up U).up V).dyeO 32
  have b4:=bz.t W
  cases Y
  rw[<- b0.trans (bv)]
  exact Cw.ret (zn1 O ((br.up V).up W) (Res.mk b4 ⟨y,f,O,(bw.up W).s,b2.s⟩))
theorem p72 {x0 d f k0 k1 r}(h:Rd W K [d,f] x0)(Y:Vm.zdr x0=some r):Q1 72 [.agg [d,f].toArray] W [] fun W' v=> ∃ a b,v = .agg [a,b].toArray/\Ow W' k0 [] [a] r.Commits/\Ow W' k1 [] [b] r.Heads:=
 zaz.adJ (J:=[]) (fun c=>bif Nat.beq c 0 then 0 else bif Nat.beq c 31 then k0 else bif Nat.beq c 32 then k1 else 0) (c72 (h.view _) Y) fun _ _ ⟨a,b,e,i,k⟩=>⟨a,b,e,i.one1.backN O,k.one1.backN O⟩
theorem c205 {x0 h x1 i x2 k r}(G:Rd W0 [0] [h] x0)(H:Rd W0 [0] [i] x1)(I:Rd W0 [0] [k] x2)(Y:Vm.zfo x0 x1 x2=some r):Q0 205 [h,i,k] W0 fun Wf v=> ∃ N,v=N/\Rd Wf [0] [N] r:=by
 unfold Vm.zfo at Y
 refine zaz.of Tryz.func205 O O O O (sr (Nv (.slice none 0 0) O (sr (Lw.t O (T.lit0 (α:=Str) 2 []) ?_))))
 rintro J _ ⟨W1,rfl,l1,o1⟩
 have a2:=l1.o
 refine Nv J O (ssr (Ni O (Cw.block ?_)))
 obtain⟨K,af,l3,ai⟩:=zn3 _ 2
 rw[<- af]
 have s4:Rd (α:=List Str) K [0] [J] ([]:List Str):=by rw[ai];exact(o1.rd.dye 2).sub (M:=[0]) O
 have a5:=a2.t l3
 obtain⟨am,an,Y⟩:=zbM Y
 refine Cw.loop 12 24 [7,8] (fun m l w=> ∃ x y e b,CW.w b=w/\Le [] K b/\l=[e,vI y]/\Rd b [0] [e] x/\Vm.zce x0 am m x y=some r) _ ⟨([]:List Str),0,J,K,O,Le.refl _ _,O,s4,Y⟩ ?_
 rintro(_ |bc) _ _ σ ⟨x,y,e,b,rfl,l10,rfl,r8,Y⟩
 ·cases Y
 unfold Vm.zce at Y
 have z:=a5.n l10
 refine ssr (mi O (mv h O (Lw.ln x0 (G.ul z) O (Lw.lt O (nl (cn Y (fun Y=>?_) fun Y=>?_))))))
 ·refine sk (Cw.seq (Cw.block (rg (mv e O (mv h O (mi O ?_))))))
  obtain⟨be,P,Y⟩:=ob Y
  refine Lw.r O (R.ix (α:=File) (G.ul z) P O O O) (Lw.fa O (Lw.r O (R.ld O O (File.at0 ((G.ul z).at_ P)).str) (cr Y (fun _=>p161 r8) ?_)))
  rintro ao Q ap Y aq ⟨_,rfl,ar⟩
  have au:=ar.sub (M:=[0]) O
  exact Nv Q O (rg (mi O (Lw.add O (Ni O ((agm) ⟨ao,w64 (y+1),Q,ap,O,(l10.j aq).w,O,au,Y⟩)))))
 ·refine Cw.exit ?_
  rw[an]at Y
  refine ssr (Ni O (Cw.block ?_))
  obtain⟨av,aw,Y⟩:=zbM Y
  refine Cw.loop 25 37 [7,9] (fun m l w=> ∃ A B f d,CW.w d=w/\Le [] b d/\l=[f,vI B]/\Rd d [0] [f] A/\Vm.za6 x1 av m A B=some r) _ ⟨x,0,e,b,O,Le.refl _ _,O,r8,Y⟩ ?_
  rintro(_ |bg) _ _ σ ⟨A,B,f,d,rfl,S,rfl,r25,Y⟩
  ·cases Y
  unfold Vm.za6 at Y
  have C:=z.n S
  refine ssr (mi O (mv i O (Lw.ln x1 (H.ul C) O (Lw.lt O (nl (cn Y (fun Y=>?_) fun Y=>?_))))))
  ·refine sk (Cw.seq (Cw.block (rg (mv f O (mv i O (mi O ?_))))))
   obtain⟨bh,U,Y⟩:=ob Y
   refine Lw.r O (R.ix (α:=File) (H.ul C) U O O O) (Lw.fa O (Lw.r O (R.ld O O (File.at0 ((H.ul C).at_ U)).str) (cr Y (fun _=>p161 r25) ?_)))
   rintro ax V ay Y az ⟨_,rfl,a0⟩
   have a1:=a0.sub (M:=[0]) O
   exact Nv V O (rg (mi O (Lw.add O (Ni O ((agm) ⟨ax,w64 (B+1),V,ay,O,(S.j az).w,O,a1,Y⟩)))))
  ·refine Cw.exit ?_
   rw[aw]at Y
   refine ssr (Ni O (Cw.block ?_))
   obtain⟨a3,a4,Y⟩:=zbM Y
   refine Cw.loop 38 50 [7,10] (fun m l w=> ∃ L D a E,CW.w E=w/\Le [] d E/\l=[a,vI D]/\Rd E [0] [a] L/\Vm.zaD x2 a3 m L D=some r) _ ⟨A,0,f,d,O,Le.refl _ _,O,r25,Y⟩ ?_
   rintro(_ |bi) _ _ σ ⟨L,D,a,E,rfl,W,rfl,r42,Y⟩
   ·cases Y
   unfold Vm.zaD at Y
   have F:=C.n W
   refine ssr (mi O (mv k O (Lw.ln x2 (I.ul F) O (Lw.lt O (nl (cn Y (fun Y=>?_) fun Y=>?_))))))
   ·refine sk (Cw.seq (Cw.block (rg (mv a O (mv k O (mi O ?_))))))
    obtain⟨bj,X,Y⟩:=ob Y
    refine Lw.r O (R.ix (α:=File) (I.ul F) X O O O) (Lw.fa O (Lw.r O (R.ld O O (File.at0 ((I.ul F).at_ X)).str) (cr Y (fun _=>p161 r42) ?_)))
    rintro a6 Z a7 Y a8 ⟨_,rfl,a9⟩
    have ba:=a9.sub (M:=[0]) O
    exact Nv Z O (rg (mi O (Lw.add O (Ni O ((agm) ⟨a6,w64 (D+1),Z,a7,O,(W.j a8).w,O,ba,Y⟩)))))
   ·refine Cw.exit ?_
    rw[a4]at Y
    refine sr (mv a O (Nv a O ?_))
    cases Y
    exact Cw.ret (zkN O (Res.mk F ⟨a,O,r42⟩))
theorem p205 {x0 b x1 d x2 f r}(h:Rd W K [b] x0)(i:Rd W K [d] x1)(k:Rd W K [f] x2)(Y:Vm.zfo x0 x1 x2=some r):Q1 205 [b,d,f] W [] fun W' v=> ∃ a,v=a/\Rd W' (0::K) [a] r:=
 (c205 (h.view _) (i.view _) (k.view _) Y).ad (fk 0) fun _ _ ⟨a,e,x⟩=>⟨a,e,x.back O⟩
theorem c236 {x0 d x1 x2 e x3 r}(i:Rd W0 [0] [d] x0)(k:Rd W0 [0] [e] x2)(Y:Vm.zfh x0 x1 x2 x3=some r):Q0 236 [d,vB x1,e,vB x3] W0 fun Wf v=>v=vB r:=by
 unfold Vm.zfh at Y
 refine zaz.of Tryz.func236 O O O O (sr (Nb O ?_))
 obtain⟨x,y,Y⟩:=zbM Y
 refine Cw.join 9 20 [8] (fun l w=> ∃ f h,CW.w h=w/\Le [] W0 h/\l=[vB f]/\x f=some r) ?_ ?_
 ·rintro _ _ σ ⟨f,h,rfl,z,rfl,Y⟩
  rw[y]at Y
  have A:=z.o
  exact .ret (rt Y A)
 ·refine rg (mb O (mb O (Lw.r O (R.beq O O) (mb O (bs Y (fun a Y=>?_) fun a Y=>?_)))))
  ·refine wak 3 a (mb O (Lw.r O (R.not O) (mb O (bs Y (fun b Y=>?_) fun b Y=>?_))))
   ·exact psk 3 b O (wak 1 a (Pb b O (Pb a O (Nb O ((ag) ⟨true,W0,O,Le.refl _ _,O,Y⟩)))))
   ·exact wak 3 b (mv d O (mv e O (ca Y (fun _=>p217 i k) fun B C Y D=>wak 1 a (Pb b O (Pb a O (Nb O ((ag) ⟨B,C,O,D,O,Y⟩)))))))
  ·exact psk 3 a O (puk 3 O (psk 1 a O (Pb a O (Nb O ((ag) ⟨false,W0,O,Le.refl _ _,O,Y⟩)))))
theorem p236 {x0 a x1 x2 b x3 r}(d:Rd W K [a] x0)(f:Rd W K [b] x2)(Y:Vm.zfh x0 x1 x2 x3=some r):Q1 236 [a,vB x1,b,vB x3] W [] fun W' v=>v=vB r:=
 (c236 (d.view _) (f.view _) Y).ad (fk 0) fun _ _ e=>e
theorem c258 {x0 d x1 a x2 b r}(C:Rd W0 [0] [d] x0)(e:Rd W0 [0] [a] x1)(f:Rd W0 [0] [b] x2)(Y:Vm.zgc x0 x1 x2=some r):Q0 258 [d,a,b] W0 fun Wf v=> ∃ W X Z aa,v = .agg [vB r.Clash,W,X,Z,aa].toArray/\OwS Wf [31] [] [W] r.Lines/\OwS Wf [32] [] [X] r.Old/\OwS Wf [33] [] [Z] r.One/\OwS Wf [34] [] [aa] r.Two:=by
 unfold Vm.zgc at Y
 refine zaz.of Tryz.func258 O O O O (sr (al 2 [vB false, .slice none 0 0, .slice none 0 0, .slice none 0 0, .slice none 0 0] fun g1 W1 l1 b1=>?_))
 have h:=l1.o
 refine nl (Cw.seq (Cw.block ?_))
 obtain⟨K5,a5,Y⟩:=zbM Y
 refine Cw.join 7 13 [7] (fun l w=> ∃ D E,CW.w E=w/\Le [] W1 E/\l=[vB D]/\K5 D=some r) ?_ ?_
 ·rintro _ _ σ ⟨D,E,rfl,F,rfl,Y⟩
  rw[a5]at Y
  have i:=h.n F
  refine cn Y (fun Y=>?_) fun Y=>?_
  ·refine sr (Lw.t O (T.lit0 (α:=Str) 3 []) ?_)
   rintro v9 _ ⟨W9,rfl,l9,o9⟩
   have af:=i.n l9
   refine mv b O ?_
   obtain⟨ct,a8,Y⟩:=ob Y
   refine Lw.t O (T.appP (α:=Str) o9 (f.ul af) O O a8) ?_
   rintro G _ ⟨cu,rfl,ah,H⟩
   have a9:=af.t ah
   refine Lw.r O (R.bd (zs:=[vB false, .slice none 0 0, .slice none 0 0, .slice none 0 0, .slice none 0 0]) (cs:=[vB false,G, .slice none 0 0, .slice none 0 0, .slice none 0 0]) [(1,G)] O O O (zbc H.oc O ze4)) (sta (((b1.up F).up l9).up ah) (zaa O (zaa H.oc (zaa O (zaa O (zaa O za0))))) fun cv ai ba=>?_)
   have bb:=a9.t ai
   refine nl ?_
   obtain⟨cw,bc,aj,be⟩:=(H.up ai).dyeO 31
   have bg:=bb.t aj
   cases Y
   rw[<- bc]
   exact Cw.ret (zn1 O (ba.up aj) (Res.mk bg ⟨G, .slice none 0 0, .slice none 0 0, .slice none 0 0,O,be.s,(znU []).sub O O,(znU []).sub O O,(znU []).sub O O⟩))
  ·refine sr (mv b O (mv d O (ca Y (fun _=>p217 (f.ul i) (C.ul i)) fun cx cy Y ak=>?_)))
   have am:=i.n ak
   have an:=(b1.up F).up ak
   refine Nb O (cn Y (fun Y=>?_) fun Y=>?_)
   ·refine sr (Lw.t O (T.lit0 (α:=Str) 4 []) ?_)
    rintro cz _ ⟨c0,rfl,ao,bh⟩
    have ap:=am.n ao
    refine mv a O ?_
    obtain⟨c1,bi,Y⟩:=ob Y
    refine Lw.t O (T.appP (α:=Str) bh (e.ul ap) O O bi) ?_
    rintro I _ ⟨c2,rfl,aq,J⟩
    have bj:=ap.t aq
    refine Lw.r O (R.bd (zs:=[vB false, .slice none 0 0, .slice none 0 0, .slice none 0 0, .slice none 0 0]) (cs:=[vB false,I, .slice none 0 0, .slice none 0 0, .slice none 0 0]) [(1,I)] O O O (zbc J.oc O ze4)) (sta ((an.up ao).up aq) (zaa O (zaa J.oc (zaa O (zaa O (zaa O za0))))) fun c3 ar bk=>?_)
    have bl:=bj.t ar
    refine nl ?_
    obtain⟨c4,bm,au,bn⟩:=(J.up ar).dyeO 31
    have bp:=bl.t au
    cases Y
    rw[<- bm]
    exact Cw.ret (zn1 O (bk.up au) (Res.mk bp ⟨I, .slice none 0 0, .slice none 0 0, .slice none 0 0,O,bn.s,(znU []).sub O O,(znU []).sub O O,(znU []).sub O O⟩))
   ·refine sk (sr (Lw.t O (T.lit0 (α:=Str) 5 []) ?_))
    rintro c5 _ ⟨c6,rfl,av,bq⟩
    have aw:=am.n av
    refine mv d O ?_
    obtain⟨c7,br,Y⟩:=ob Y
    refine Lw.t O (T.appP (α:=Str) bq (C.ul aw) O O br) ?_
    rintro K _ ⟨c8,rfl,ax,bu⟩
    have bv:=aw.t ax
    refine Lw.t O (T.lit0 (α:=Str) 6 []) ?_
    rintro c9 _ ⟨da,rfl,L,bw⟩
    have ay:=bv.n L
    refine mv a O ?_
    obtain⟨db,bz,Y⟩:=ob Y
    refine Lw.t O (T.appP (α:=Str) bw (e.ul ay) O O bz) ?_
    rintro M _ ⟨dc,rfl,N,b0⟩
    have b2:=ay.t N
    refine Lw.t O (T.lit0 (α:=Str) 7 []) ?_
    rintro dd _ ⟨de,rfl,k,b3⟩
    have az:=b2.n k
    refine mv b O ?_
    obtain⟨df,b4,Y⟩:=ob Y
    refine Lw.t O (T.appP (α:=Str) b3 (f.ul az) O O b4) ?_
    rintro P _ ⟨dg,rfl,x,Q⟩
    have b5:=az.t x
    have S:=(((bu.up L).up N).up k).up x
    have U:=(b0.up k).up x
    refine Lw.r O (R.bd (zs:=[vB false, .slice none 0 0, .slice none 0 0, .slice none 0 0, .slice none 0 0]) (cs:=[vB true, .slice none 0 0,K,M,P]) [(0,vB true),(2,K),(3,M),(4,P)] O O O (zbc O O (zbc S.oc O (zbc U.oc O (zbc Q.oc O ze4))))) (sta ((((((an.up av).up ax).up L).up N).up k).up x) (zaa O (zaa O (zaa S.oc (zaa U.oc (zaa Q.oc za0))))) fun dh y b6=>?_)
    have b7:=b5.t y
    refine nl ?_
    obtain⟨di,b8,z,b9⟩:=(S.up y).dyeO 32
    have cb:=b7.t z
    obtain⟨dj,cc,A,cd⟩:=((U.up y).up z).dyeO 33
    have ce:=cb.t A
    obtain⟨dk,cf,B,cg⟩:=(((Q.up y).up z).up A).dyeO 34
    have ch:=ce.t B
    cases Y
    rw[<- cf.trans (cc.trans (b8))]
    exact Cw.ret (zn1 O (((b6.up z).up A).up B) (Res.mk ch ⟨.slice none 0 0,K,M,P,O,(znU []).sub O O,((b9.up A).up B).s,(cd.up B).s,cg.s⟩))
 ·refine sr (mv a O (mv d O (ca Y (fun _=>p217 (e.ul h) (C.ul h)) fun ci cj Y V=>?_)))
  have a0:=h.n V
  refine Nb O (cn Y (fun Y=>?_) fun Y=>?_)
  ·exact sk ((ag) ⟨ci,cj,O,V,O,Y⟩)
  ·exact rg (mv a O (mv b O (ca Y (fun _=>p217 (e.ul a0) (f.ul a0)) fun ck cl Y cm=>Nb O ((ag) ⟨ck,cl,O,(V.j cm).w,O,Y⟩))))
theorem p258 {x0 h x1 i x2 k k0 k1 k2 k3 r}(x:Rd W K [h] x0)(y:Rd W K [i] x1)(z:Rd W K [k] x2)(Y:Vm.zgc x0 x1 x2=some r):Q1 258 [h,i,k] W [] fun W' v=> ∃ a b d f,v = .agg [vB r.Clash,a,b,d,f].toArray/\Ow W' k0 [] [a] r.Lines/\Ow W' k1 [] [b] r.Old/\Ow W' k2 [] [d] r.One/\Ow W' k3 [] [f] r.Two:=
 zaz.adJ (J:=[]) (fun c=>bif Nat.beq c 0 then 0 else bif Nat.beq c 31 then k0 else bif Nat.beq c 32 then k1 else bif Nat.beq c 33 then k2 else bif Nat.beq c 34 then k3 else 0) (c258 (x.view _) (y.view _) (z.view _) Y) fun _ _ ⟨a,b,d,f,e,A,B,C,D⟩=>⟨a,b,d,f,e,A.one1.backN O,B.one1.backN O,C.one1.backN O,D.one1.backN O⟩
theorem c257 {x0 a x1 A B C D r}(N:Ow W0 2 [] [a] x0)(P:Ow W0 3 [] [A] x1.Lines)(ae:Ow W0 4 [] [B] x1.Old)(af:Ow W0 5 [] [C] x1.One)(ah:Ow W0 6 [] [D] x1.Two)(Y:Vm.zgB x0 x1=some r):Q0 257 [a, .agg [vB x1.Clash,A,B,C,D].toArray] W0 fun Wf v=> ∃ Q,v=Q/\OwS Wf [31] [] [Q] r:=by
 unfold Vm.zgB at Y
 refine zaz.of Tryz.func257 O O O O (sr (bo 7 O fun g1 H b E=>?_))
 have a2:=b.o
 refine Nv (.slice none 0 0) O (sr (mv a O (Lw.ln x0 (N.up b).rd O (Ni O (Cw.seq ?_)))))
 obtain⟨aj,ak,Y⟩:=zbM Y
 refine Cw.join 8 16 [16] (fun l w=> ∃ I f,CW.w f=w/\Le [] H f/\l=[vB I]/\aj I=some r) ?_ ?_
 ·rintro _ _ σ ⟨I,f,rfl,d,rfl,Y⟩
  rw[ak]at Y
  have S:=a2.n d
  have i:=(N.up b).up d
  refine cn Y (fun Y=>?_) fun Y=>?_
  ·refine sr (mv a O (Nv a O ?_))
   obtain⟨br,am,an,ao⟩:=i.dyeO 31
   have ap:=S.t an
   cases Y
   rw[<- am]
   exact Cw.ret (zkN O (Res.mk ap ⟨a,O,ao.s⟩))
  ·refine sk (Cw.seq ?_)
   obtain⟨aq,ar,Y⟩:=zbM Y
   refine Cw.join 18 33 [33] (fun l w=> ∃ K L,CW.w L=w/\Le [] f L/\l=[vB K]/\aq K=some r) ?_ ?_
   ·rintro _ _ σ ⟨K,L,rfl,e,rfl,Y⟩
    rw[ar]at Y
    have U:=S.n e
    have V:=((P.up b).up d).up e
    have W:=(E.up d).up e
    refine cn Y (fun Y=>?_) fun Y=>?_
    ·refine Cw.seq (Cw.draw [] [(0,0),(1,0),(2,0),(3,0),(4,0),(5,0),(6,0),(7,0),(8,1),(9,0),(10,1),(11,3),(12,0),(13,0),(14,3)] mixed (by kernel_rfl) fun bu F=>?_)
     have au:=U.n F
     have k:=(i.up e).up F
     refine Dv a O (Di O (Mw.p O O (fun _=>R.sub O O) (Dv a O (Di O (Mw.p O O (fun _=>R.sub O O) ?_)))))
     obtain⟨bv,G,Y⟩:=ob Y
     refine Mw.p O O (fun _=>R.ix (α:=Part) k.rd G O O O) (Df O ?_)
     obtain⟨bw,c48,r49⟩:=(Part.at1 (k.rd.at_ G)).cell O
     refine Mw.q O O (fun _ c=>R.ld O O (zaB (Part.at1 (k.rd.at_ G)).1 O c48 c)) (Dfl (W.up F) O O O ?_)
     obtain⟨bz,av,X,aw,ax⟩:=Ow.take (α:=Part) (β:=List Str) (j:=8) (jf:=1) k G c48 O
     rw[<- av]
     have ay:=au.t X
     obtain⟨b0,az,Y⟩:=ob Y
     refine Mw.l O O (T.appP (α:=Str) aw ((V.up F).up X).rd O O az) ?_
     rintro b2 _ ⟨b3,rfl,Z,a0⟩
     have a1:=ay.t Z
     obtain⟨b4,a3,Y⟩:=ob Y
     refine Mw.p O O (fun _=>R.ix (α:=Part) k.rd a3 O O O) (Df O ?_)
     obtain⟨b5,a4,Y⟩:=ob Y
     refine Mw.lu O (T.stH (α:=Part) (β:=List Str) (J:=[8]) (ax.up (Z.sub (M:=[8]) O) O) a0.s a4 O O O O) ?_
     rintro _ _ ⟨b6,rfl,a5,a6⟩
     have a7:=a1.t a5
     refine Mw.nil (sr (mv a O (Nv a O ?_)))
     obtain⟨b7,a8,a9,ba⟩:=a6.dyeO 31
     have bb:=a7.t a9
     cases Y
     rw[<- a8]
     exact Cw.ret (zkN O (Res.mk bb ⟨a,O,ba.s⟩))
    ·refine sk (sr (mv a O (la W (Lw.t O (T.bs 9 [.agg [vB x1.Clash,A,B,C,D].toArray] (cs:=[vB x1.Clash,A,B,C,D]) O O (bsA O)) ?_))))
     rintro _ _ ⟨b8,b9,rfl,rfl,h,bc⟩
     have be:=U.n h
     obtain⟨cb,bg,Y⟩:=ob Y
     refine Lw.t O (T.app1 (α:=Part) (J:=[3,4,5,6]) (K':=[]) ((i.up e).up h) bc (Part.own x1.Clash x1.Lines x1.Old x1.One x1.Two (V.up h).s ((((ae.up b).up d).up e).up h).s ((((af.up b).up d).up e).up h).s ((((ah.up b).up d).up e).up h).s) O O bg) ?_
     rintro aa _ ⟨cc,rfl,bh,bi⟩
     have bj:=be.t bh
     refine Nv aa O ?_
     obtain⟨cd,bk,bl,bm⟩:=bi.dyeO 31
     have bn:=bj.t bl
     cases Y
     rw[<- bk]
     exact Cw.ret (zkN O (Res.mk bn ⟨aa,O,bm.s⟩))
   ·refine rg (mi O (Lw.gt O (mb O (bs Y (fun x Y=>?_) fun x Y=>?_))))
    ·refine wak 3 x (fl (E.up d) O (Lw.r O (R.not O) (Pb x O (mb O (bs Y (fun y Y=>?_) fun y Y=>?_)))))
     ·refine wak 7 y (mv a O (mi O (Lw.sub O ?_)))
      obtain⟨bp,ac,Y⟩:=ob Y
      exact Lw.r O (R.ix (α:=Part) i.rd ac O O O) (Lw.fa O (Lw.r O (R.ld O O (Part.at0 (i.rd.at_ ac)).bool) (Lw.r O (R.not O) (Pb y O (nl ((ag) ⟨(!bp.Clash),f,O,Le.refl _ _,O,Y⟩))))))
     ·exact psk 7 y O (Pb y O (nl ((ag) ⟨false,f,O,Le.refl _ _,O,Y⟩)))
    ·exact psk 3 x O (Pb x O (mb O (psk 7 O O (Pb O O (nl ((ag) ⟨false,f,O,Le.refl _ _,O,Y⟩))))))
 ·refine rg (fl E O (Lw.r O (R.not O) (mb O (bs Y (fun z Y=>?_) fun z Y=>?_))))
  ·exact wak 4 z (fl E O (Lw.ln x1.Lines (P.up b).rd O (Lw.eq O (Pb z O (nl ((ag) ⟨((x1.Lines.length:Int)==0),H,O,Le.refl _ _,O,Y⟩))))))
  ·exact psk 4 z O (Pb z O (nl ((ag) ⟨false,H,O,Le.refl _ _,O,Y⟩)))
theorem p257 {x0 b x1 d f h i k0 c0 c1 c2 c3 c4 r}(k:Ow W c0 [] [b] x0)(x:Ow W c1 [] [d] x1.Lines)(y:Ow W c2 [] [f] x1.Old)(z:Ow W c3 [] [h] x1.One)(A:Ow W c4 [] [i] x1.Two)(hJ:okJ K [c0,c1,c2,c3,c4]=true)(Y:Vm.zgB x0 x1=some r):Q1 257 [b, .agg [vB x1.Clash,d,f,h,i].toArray] W [c0,c1,c2,c3,c4] fun W' v=> ∃ a,v=a/\Ow W' k0 [] [a] r:=
 zaz.adJ (J:=[c0,c1,c2,c3,c4]) (fun c=>bif Nat.beq c 0 then 0 else bif Nat.beq c 2 then c0 else bif Nat.beq c 3 then c1 else bif Nat.beq c 4 then c2 else bif Nat.beq c 5 then c3 else bif Nat.beq c 6 then c4 else bif Nat.beq c 31 then k0 else 0) (c257 (k.viewJ 0 hJ) (x.viewJ 1 hJ) (y.viewJ 2 hJ) (z.viewJ 3 hJ) (A.viewJ 4 hJ) Y) fun _ _ ⟨a,e,B⟩=>⟨a,e,B.one1.backN O⟩
theorem c238 {x0 d x1 k x2 x r}(e:Rd W0 [0] [d] x0)(F:Rd W0 [0] [k] x1)(G:Rd W0 [0] [x] x2)(Y:Vm.ziB x0 x1 x2=some r):Q0 238 [d,k,x] W0 fun Wf v=> ∃ u0,v=u0/\OwS Wf LL [] [u0] r:=by
 unfold Vm.ziB at Y
 refine zaz.of Tryz.func238 O O O O (sr (Nv (.slice none 0 0) O (sr (Lw.t O (T.lit0 (α:=Part) 2 []) ?_))))
 rintro v1 _ ⟨W1,rfl,l1,o1⟩
 have a2:=l1.o
 refine Nv v1 O (sr (mv d O (mv k O (cr Y (fun _=>p245 (k0:=3) (e.ul a2) (F.ul a2)) ?_))))
 rintro z5 dm W7 Y l7 ⟨_,rfl,b1⟩
 have a8:=a2.n l7
 refine mv k O (Lw.ln x1 (F.ul a8) O (Lw.t O (T.bs 4 [vI (x1.length:Int)] (cs:=[vI (x1.length:Int)]) O O (bsv O)) ?_))
 rintro _ _ ⟨dp,dq,rfl,rfl,am,b2⟩
 have b3:=a8.n am
 obtain⟨a7,b4,Y⟩:=ob Y
 refine Lw.t O (T.app1S (α:=Int) (K':=[]) (b1.up am) b2 (rdI _) O O b4) ?_
 rintro y _ ⟨dr,rfl,a9,b5⟩
 have an:=b3.t a9
 refine Nv y O (sr (mv d O (mv x O (cr Y (fun _=>p245 (k0:=5) (e.ul an) (G.ul an)) ?_))))
 rintro ds dt du Y ao ⟨_,rfl,b6⟩
 have ba:=an.n ao
 refine mv x O (Lw.ln x2 (G.ul ba) O (Lw.t O (T.bs 6 [vI (x2.length:Int)] (cs:=[vI (x2.length:Int)]) O O (bsv O)) ?_))
 rintro _ _ ⟨dv,dw,rfl,rfl,H,b7⟩
 have b8:=ba.n H
 obtain⟨b9,cb,Y⟩:=ob Y
 refine Lw.t O (T.app1S (α:=Int) (K':=[]) (b6.up H) b7 (rdI _) O O cb) ?_
 rintro I _ ⟨bb,rfl,ap,cc⟩
 have cd:=b8.t ap
 refine Nv I O (sr (Ni O (sr (Ni O (sr (Ni O (ssr (Ni O (Cw.block ?_)))))))))
 obtain⟨ce,cf,Y⟩:=zbM Y
 refine Cw.loop 29 91 [7,10,11,12,13] (fun m l w=> ∃ J L N P z a b,CW.w b=w/\Le [2,7,8,9,10,11,12,13,14,15,16] bb b/\l=[a,vI L,vI N,vI P,vI z]/\Ow b 2 [] [a] J/\Vm.zcw x0 x1 x2 a7 b9 ce m J L N P z=some r) _ ⟨([]:List Part),0,0,0,0,v1,bb,O,Le.refl _ _,O,((((((o1.up l7).up am).up a9).up ao).up H).up ap),Y⟩ ?_
 rintro(_ |dx) _ _ σ ⟨J,L,N,P,z,a,b,rfl,Q,rfl,aq,Y⟩
 ·cases Y
 unfold Vm.zcw at Y
 have bc:=cd.t Q
 have S:=(((b5.up ao).up H).up ap).up Q
 have ar:=cc.up Q
 refine ssr (mi O (mv y O (Lw.ln a7 S.rd O (Lw.lt O (nl (cn Y (fun Y=>?_) fun Y=>?_))))))
 ·refine sk ?_
  obtain⟨cg,ch,Y⟩:=zbM Y
  refine Cw.join 35 91 [7,10,11,12] (fun l w=> ∃ U V X Z aa A,CW.w A=w/\Le [2,7,8,9,10,11,12,13,14,15,16] b A/\l=[aa,vI V,vI X,vI Z]/\Ow A 2 [] [aa] U/\cg U V X Z=some r) ?_ ?_
  ·rintro _ _ σ ⟨U,V,X,Z,aa,A,rfl,ci,rfl,cj,Y⟩
   rw[ch]at Y
   exact rg (mi O (Lw.add O (Ni O ((agm) ⟨U,V,X,Z,w64 (z+1),aa,A,O,(Q.j ci).w,O,cj,Y⟩))))
  ·refine Cw.block (Cw.seq ?_)
   obtain⟨ck,cl,Y⟩:=zbM Y
   refine Cw.join 35 46 [46] (fun l w=> ∃ au ac,CW.w ac=w/\Le [] b ac/\l=[vB au]/\ck au=some r) ?_ ?_
   ·rintro _ _ σ ⟨au,ac,rfl,f,rfl,Y⟩
    rw[cl]at Y
    have cm:=bc.n f
    refine cn Y (fun Y=>?_) fun Y=>?_
    ·exact Cw.exit ((ag) ⟨J,L,N,P,a,ac,O,f.w,O,(aq.up f),Y⟩)
    ·refine sk (Cw.seq (Cw.draw [2,7,8,9,10] [(0,0),(1,0),(2,0),(3,0),(4,0),(5,0),(6,0),(7,0),(8,0),(9,0),(10,1),(11,0),(12,0),(13,0),(14,0),(15,0),(16,0),(17,1),(18,0),(19,3),(20,2),(21,0)] mixed (by kernel_rfl) fun dy B=>?_))
     have h:=cm.n B
     have ae:=(S.up f).up B
     have af:=(ar.up f).up B
     refine Dv a O (Dv d O (Di O (Di O ?_)))
     obtain⟨dz,be,Y⟩:=ob Y
     have r95:=(e.ul h).cutV be
     refine Mw.p O O (fun _=>R.sl (e.ul h) be O (.inr O) (.inr O)) (Dv k O (Di O (Dv y O (Di O ?_))))
     obtain⟨d0,av,Y⟩:=ob Y
     refine Mw.p O O (fun _=>R.ix (α:=Int) ae.rd av O O O) (Mw.q O O (fun _ c=>R.ld O O (zaB (ae.rd.at_ av).1 O (ae.rd.at_ av).int c)) ?_)
     obtain⟨d1,bg,Y⟩:=ob Y
     have r102:=(F.ul h).cutV bg
     refine Mw.p O O (fun _=>R.sl (F.ul h) bg O (.inr O) (.inr O)) (Dv x O (Di O (Dv I O (Di O ?_))))
     obtain⟨d2,aw,Y⟩:=ob Y
     refine Mw.p O O (fun _=>R.ix (α:=Int) af.rd aw O O O) (Mw.q O O (fun _ c=>R.ld O O (zaB (af.rd.at_ aw).1 O (af.rd.at_ aw).int c)) ?_)
     obtain⟨d3,bh,Y⟩:=ob Y
     have r109:=(G.ul h).cutV bh
     refine Mw.p O O (fun _=>R.sl (G.ul h) bh O (.inr O) (.inr O)) ?_
     obtain⟨C,co,Y⟩:=ob Y
     refine Mw.l O O (T.call O (p258 (k0:=7) (k1:=8) (k2:=9) (k3:=10) r95 r102 r109 co)) ?_
     rintro _ _ ⟨d4,rfl,i,⟨d5,d6,d7,d8,rfl,cp,cq,ct,cu⟩⟩
     have cv:=h.n i
     obtain⟨cw,cx,Y⟩:=ob Y
     refine Mw.t O O (T.call O (p257 (K:=[0]) (k0:=11) (c0:=2) (c1:=7) (c2:=8) (c3:=9) (c4:=10) (x1:=(Vm.Part.mk C.Clash C.Lines C.Old C.One C.Two)) (((aq.up f).up B).up i) cp cq ct cu O cx)) ?_
     rintro ax _ ⟨ay,rfl,D,⟨_,rfl,bi⟩⟩
     have az:=cv.t D
     refine⟨⟨_,O,((i.sub (M:=[2,7,8,9,10]) O).trans (D.sub (M:=[2,7,8,9,10]) O))⟩,?_⟩
     refine Hv ax O (Mw.nil ?_)
     obtain⟨cy,cz,Y⟩:=zbM Y
     refine Cw.join 68 79 [7] (fun l w=> ∃ ah ai aj,CW.w aj=w/\Le [11,12,13,14,15,16] ay aj/\l=[ai]/\Ow aj 11 [] [ai] ah/\cy ah=some r) ?_ ?_
     ·rintro _ _ σ ⟨ah,ai,aj,rfl,a0,rfl,c5,Y⟩
      rw[cz]at Y
      have bj:=((ae.up i).up D).up a0
      have bk:=((af.up i).up D).up a0
      refine sr (mi O (Lw.add O (Ni O (sr (mv y O (mi O ?_))))))
      obtain⟨c6,bl,Y⟩:=ob Y
      refine Lw.r O (R.ix (α:=Int) bj.rd bl O O O) (Lw.r O (R.ld O O (bj.rd.at_ bl).int) (Lw.add O (Ni O (rg (mv I O (mi O ?_))))))
      obtain⟨c7,bm,Y⟩:=ob Y
      refine Lw.r O (R.ix (α:=Int) bk.rd bm O O O) (Lw.r O (R.ld O O (bk.rd.at_ bm).int) (Lw.add O (Ni O ?_)))
      obtain⟨c8,c9,da,db⟩:=c5.dyeO 2
      exact(ag) ⟨ah,w64 (z+1),w64 (c6+1),w64 (c7+1),ai,c8,c9,(((((f.j B).j i).j D).j a0).j da).w,O,db,Y⟩
     ·refine sr (mi O (mv d O (Lw.ln x0 (e.ul az) O (Lw.lt O (nl (cn Y (fun Y=>?_) fun Y=>?_))))))
      ·refine rg (mv ax O (mv d O (mi O ?_)))
       obtain⟨a1,bn,Y⟩:=ob Y
       refine Lw.r O (R.ix (α:=Str) (e.ul az) bn O O O) (Lw.r O (R.ld O O ((e.ul az).at_ bn).str) (Lw.t O (T.bsS (α:=Str) (xs:=[a1]) 12 [] (W:=ay) [vS a1] (Each.cons ((rdS _)) Each.nil) O) ?_))
       rintro bp _ ⟨d9,rfl,bq,br⟩
       refine Lw.r O (R.bd (zs:=[vB false, .slice none 0 0, .slice none 0 0, .slice none 0 0, .slice none 0 0]) (cs:=[vB false,bp, .slice none 0 0, .slice none 0 0, .slice none 0 0]) [(1,bp)] O O O (zbc br.oc O ze4)) (cr Y (fun _=>p257 (K:=[0]) (k0:=16) (c0:=11) (c1:=12) (c2:=13) (c3:=14) (c4:=15) (x1:=(Vm.Part.mk false ([a1]:List Str) ([]:List Str) ([]:List Str) ([]:List Str))) (bi.up bq) br (owN 13 []) (owN 14 []) (owN 15 []) O) ?_)
       rintro dc bu ea Y dd ⟨_,rfl,de⟩
       refine Nv bu O ?_
       obtain⟨df,dg,dh,di⟩:=de.dyeO 11
       exact(ag) ⟨dc,bu,df,dg,((bq.j dd).j dh).w,O,di,Y⟩
      ·exact sk ((ag) ⟨cw,ax,ay,O,Le.refl _ _,O,bi,Y⟩)
   ·refine rg (mv y O (mi O ?_))
    obtain⟨eb,bv,Y⟩:=ob Y
    refine Lw.r O (R.ix (α:=Int) S.rd bv O O O) (Lw.r O (R.ld O O (S.rd.at_ bv).int) (Lw.lt O (mb O (bs Y (fun E Y=>?_) fun E Y=>?_))))
    ·exact psk 5 E O (Pb E O (nl ((ag) ⟨true,b,O,Le.refl _ _,O,Y⟩)))
    ·refine wak 5 E (mv I O (mi O ?_))
     obtain⟨dj,bw,Y⟩:=ob Y
     exact Lw.r O (R.ix (α:=Int) ar.rd bw O O O) (Lw.r O (R.ld O O (ar.rd.at_ bw).int) (Lw.lt O (Pb E O (nl ((ag) ⟨decide (dj< (0:Int)),b,O,Le.refl _ _,O,Y⟩)))))
 ·refine Cw.exit ?_
  rw[cf]at Y
  refine sr (mv a O (Nv a O ?_))
  cases Y
  exact Cw.ret (zkN O (Res.mk bc ⟨a,O,aq.s.sub O O⟩))
theorem p238 {x0 b x1 d x2 f k0 r}(h:Rd W K [b] x0)(i:Rd W K [d] x1)(k:Rd W K [f] x2)(Y:Vm.ziB x0 x1 x2=some r):Q1 238 [b,d,f] W [] fun W' v=> ∃ a,v=a/\Ow W' k0 [] [a] r:=
 (c238 (h.view _) (i.view _) (k.view _) Y).ad (fk k0) fun _ _ ⟨a,e,x⟩=>⟨a,e,x.back (ziQ _)⟩
theorem c237 {x0 b r}(L:Rd W0 [0] [b] x0)(Y:Vm.zgd x0=some r):Q0 237 [b] W0 fun Wf v=> ∃ A,v = .tuple [A,vB r.2].toArray/\OwS Wf LL [] [A] r.1:=by
 unfold Vm.zgd at Y
 refine zaz.of Tryz.func237 O O O O (sr (Gv (.slice none 0 0) O (Nb O (sr (Lw.t O (T.lit0 (α:=Str) 2 []) ?_)))))
 rintro B _ ⟨C,rfl,M,N⟩
 have P:=M.o
 refine Nv B O (ssr (Ni O (Cw.block ?_)))
 obtain⟨Q,S,Y⟩:=zbM Y
 refine Cw.loop 7 24 [2,3,4,5] (fun m l w=> ∃ f h x i k a d,CW.w d=w/\Le [2] C d/\l=[k,vB h,a,vI i]/\Ow d 3 [] [k] f/\Ow d 2 [] [a] x/\Vm.zcC x0 Q m f h x i=some r) _ ⟨([]:List Str),false,([]:List Str),0, .slice none 0 0,B,C,O,Le.refl _ _,O,owN 3 [],N,Y⟩ ?_
 rintro(_ |aa) _ _ σ ⟨f,h,x,i,k,a,d,rfl,D,rfl,U,y,Y⟩
 ·cases Y
 unfold Vm.zcC at Y
 have z:=P.t D
 refine ssr ?_
 have e:=L.ul z
 refine mi O (mv b O (Lw.ln x0 e O (Lw.lt O (nl (cn Y (fun Y=>?_) fun Y=>?_)))))
 ·refine sk (Cw.seq (Cw.block (ssr (mv b O (mi O ?_)))))
  obtain⟨ac,E,Y⟩:=ob Y
  refine Lw.r O (R.ix (α:=Part) e E O O O) (Lw.fa O (Lw.r O (R.ld O O (Part.at0 (e.at_ E)).bool) (nl (cn Y (fun Y=>?_) fun Y=>?_))))
  ·refine sr (Gv (.slice none 0 0) O (Nb O ?_))
   cases Y
   exact Cw.ret (zp3 O O (Res.mk z ⟨.slice none 0 0,O,(znU []).sub O O⟩))
  ·refine sk (rg (mv a O (mv b O (mi O ?_))))
   obtain⟨ae,F,Y⟩:=ob Y
   refine Lw.r O (R.ix (α:=Part) e F O O O) (Lw.fa O ?_)
   obtain⟨af,c23,r24⟩:=(Part.at1 (e.at_ F)).cell O
   refine Lw.r O (R.ld O O c23) ?_
   obtain⟨V,W,Y⟩:=ob Y
   refine Lw.t O (T.appP (α:=Str) y r24 O O W) ?_
   rintro G _ ⟨X,rfl,H,Z⟩
   exact Nv G O (rg (mi O (Lw.add O (Ni O ((agm) ⟨f,h,V,w64 (i+1),k,G,X,O,(D.j H).w,O,(U.up H),Z,Y⟩)))))
 ·refine Cw.exit ?_
  rw[S]at Y
  refine ssr (mv a O (ca Y (fun _=>p186 (K:=[2]) y.rd) fun ah ai Y I=>?_))
  have J:=z.n I
  refine Lw.r O (R.not O) (nl (cn Y (fun Y=>?_) fun Y=>?_))
  ·refine sr (Gv (.slice none 0 0) O (Nb O ?_))
   cases Y
   exact Cw.ret (zp3 O O (Res.mk J ⟨.slice none 0 0,O,(znU []).sub O O⟩))
  ·refine sk (sr (mv a O (Gv a O (Nb O ?_))))
   cases Y
   exact Cw.ret (zp3 O O (Res.mk J ⟨a,O,(y.up I).s.sub O O⟩))
theorem p237 {x0 b k0 r}(d:Rd W K [b] x0)(Y:Vm.zgd x0=some r):Q1 237 [b] W [] fun W' v=> ∃ a,v = .tuple [a,vB r.2].toArray/\Ow W' k0 [] [a] r.1:=
 (c237 (d.view _) Y).ad (fk k0) fun _ _ ⟨a,e,f⟩=>⟨a,e,f.back (ziQ _)⟩
theorem c206 {x0 H x1 I x2 J x3 r}(Z:Rd W0 [0] [H] x0)(h1:Rd W0 [0] [I] x1)(h2:Rd W0 [0] [J] x2)(Y:Vm.zhc x0 x1 x2 x3=some r):Q0 206 [H,I,J,vS x3] W0 fun Wf v=> ∃ W,v = .tuple [W,vB r.2.1,vI r.2.2].toArray/\Rd Wf [0] [W] r.1:=by
 unfold Vm.zhc at Y
 refine zaz.of Tryz.func206 O O O O (sr (Gv (.slice none 0 0) O (Gb O (Ni O (sr (mv H O (ms O (cr Y (fun _=>p216 Z) ?_))))))))
 rintro D _ W3 Y l3 ⟨d,rfl,af⟩
 have z:=af.sub (M:=[0]) O
 have y:=l3.o
 refine mv (.tuple [d,vB D.2].toArray) O (Lw.r O (R.ext (vs:=[d,vB D.2]) (v:=d) O O) (Lw.r O (R.ext (vs:=[d,vB D.2]) (v:=vB D.2) O O) (Gv d O (Nb O (sr (mv I O (ms O (cr Y (fun _=>p216 (h1.ul y)) ?_))))))))
 rintro E _ W9 Y l9 ⟨f,rfl,ai⟩
 have F:=ai.sub (M:=[0]) O
 have e:=l9.o
 refine mv (.tuple [f,vB E.2].toArray) O (Lw.r O (R.ext (vs:=[f,vB E.2]) (v:=f) O O) (Lw.r O (R.ext (vs:=[f,vB E.2]) (v:=vB E.2) O O) (Gv f O (Nb O (sr (mv J O (ms O (cr Y (fun _=>p216 (h2.ul (y.trans e))) ?_))))))))
 rintro A _ aj Y ak ⟨h,rfl,am⟩
 have G:=am.sub (M:=[0]) O
 have a:=ak.o
 refine mv (.tuple [h,vB A.2].toArray) O (Lw.r O (R.ext (vs:=[h,vB A.2]) (v:=h) O O) (Lw.r O (R.ext (vs:=[h,vB A.2]) (v:=vB A.2) O O) (Gv h O (Nb O (Cw.seq (Cw.block ?_))))))
 obtain⟨an,ao,Y⟩:=zbM Y
 refine Cw.join 37 47 [37] (fun l w=> ∃ L N,CW.w N=w/\Le [] aj N/\l=[vB L]/\an L=some r) ?_ ?_
 ·rintro _ _ σ ⟨L,N,rfl,ap,rfl,Y⟩
  rw[ao]at Y
  have b:=ap.o
  refine cn Y (fun Y=>?_) fun Y=>?_
  ·refine sr (mv h O (mb O (Gv h O (Gb O (Ni O ?_)))))
   cases Y
   exact Cw.ret (zyx O O O (Res.mk (((y.trans e).trans a).trans b) ⟨h,O,(G.ul b)⟩))
  ·refine sr (mv h O (mb O (mv d O (mb O (ca Y (fun _=>p236 (G.ul b) (z.ul ((e.trans a).trans b))) fun bg P Y aq=>?_)))))
   have i:=aq.o
   refine Nb O (cn Y (fun Y=>?_) fun Y=>?_)
   ·refine sr (mv f O (mb O (Gv f O (Gb O (Ni O ?_)))))
    cases Y
    exact Cw.ret (zyx O O O (Res.mk ((((y.trans e).trans a).trans b).trans i) ⟨f,O,(F.ul ((a.trans b).trans i))⟩))
   ·obtain⟨ar,au,Y⟩:=zbM Y
    refine Cw.join 58 64 [58] (fun l w=> ∃ Q S,CW.w S=w/\Le [] P S/\l=[vB Q]/\ar Q=some r) ?_ ?_
    ·rintro _ _ σ ⟨Q,S,rfl,av,rfl,Y⟩
     rw[au]at Y
     have k:=av.o
     refine cn Y (fun Y=>?_) fun Y=>?_
     ·refine sr (mv d O (mb O (Gv d O (Gb O (Ni O ?_)))))
      cases Y
      exact Cw.ret (zyx O O O (Res.mk (((((y.trans e).trans a).trans b).trans i).trans k) ⟨d,O,(z.ul ((((e.trans a).trans b).trans i).trans k))⟩))
     ·refine sr (mb O (Lw.r O (R.not O) (Nb O (cn Y (fun Y=>?_) fun Y=>?_))))
      ·refine sr (Gv (.slice none 0 0) O (Gb O (Ni O ?_)))
       cases Y
       exact Cw.ret (zyx O O O (Res.mk (((((y.trans e).trans a).trans b).trans i).trans k) ⟨.slice none 0 0,O,(rdN (K:=[0]))⟩))
      ·refine sk (sr (mv d O (mv f O (mv h O (cr Y (fun _=>p238 (k0:=2) (z.ul ((((e.trans a).trans b).trans i).trans k)) (F.ul (((a.trans b).trans i).trans k)) (G.ul ((b.trans i).trans k))) ?_)))))
       rintro bh bi bj Y aw ⟨_,rfl,ax⟩
       have T:=aw.o
       refine cr Y (fun _=>p237 (K:=[2]) (k0:=3) ax.rd) ?_
       rintro B _ bk Y ay ⟨x,rfl,az⟩
       have U:=ay.o
       refine mv (.tuple [x,vB B.2].toArray) O (Lw.r O (R.ext (vs:=[x,vB B.2]) (v:=x) O O) (Lw.r O (R.ext (vs:=[x,vB B.2]) (v:=vB B.2) O O) (Gv x O (Nb O (ssr (mb O (Lw.r O (R.not O) (nl (cn Y (fun Y=>?_) fun Y=>?_)))))))))
       ·refine sr (mv d O (Gv d O (Gb O (Ni O ?_))))
        cases Y
        exact Cw.ret (zyx O O O (Res.mk (((((((y.trans e).trans a).trans b).trans i).trans k).trans T).trans U) ⟨d,O,(z.ul ((((((e.trans a).trans b).trans i).trans k).trans T).trans U))⟩))
       ·refine sk (sr (mv x O (Gv x O (Gb O (Ni O ?_)))))
        obtain⟨a0,a1,a2,a3⟩:=zn3 _ 3
        have a4:Rd (α:=List Str) a0 [0] [x] B.1:=by rw[a3];exact(az.rd.dye 3).sub (M:=[0]) O
        have a6:=(((((((y.trans e).trans a).trans b).trans i).trans k).trans T).trans U).t a2
        cases Y
        rw[<- a1]
        exact Cw.ret (zyx O O O (Res.mk a6 ⟨x,O,a4⟩))
    ·refine rg (mb O (Lw.r O (R.not O) (mb O (bs Y (fun C Y=>?_) fun C Y=>?_))))
     ·exact psk 2 C O (Pb C O (Nb O ((ag) ⟨true,P,O,Le.refl _ _,O,Y⟩)))
     ·exact wak 2 C (mb O (Lw.r O (R.not O) (Pb C O (Nb O ((ag) ⟨(!A.2),P,O,Le.refl _ _,O,Y⟩)))))
 ·refine sr (mv f O (mb O (mv d O (mb O (ca Y (fun _=>p236 (F.ul a) (z.ul (e.trans a))) fun a7 a8 Y V=>?_)))))
  have X:=V.o
  refine Nb O (cn Y (fun Y=>?_) fun Y=>?_)
  ·exact sk ((ag) ⟨a7,a8,O,V,O,Y⟩)
  ·exact rg (mv f O (mb O (mv h O (mb O (ca Y (fun _=>p236 (F.ul (a.trans X)) (G.ul X)) fun a9 ba Y bb=>Nb O ((ag) ⟨a9,ba,O,(V.j bb).w,O,Y⟩))))))
theorem p206 {x0 b x1 d x2 f x3 r}(h:Rd W K [b] x0)(i:Rd W K [d] x1)(k:Rd W K [f] x2)(Y:Vm.zhc x0 x1 x2 x3=some r):Q1 206 [b,d,f,vS x3] W [] fun W' v=> ∃ a,v = .tuple [a,vB r.2.1,vI r.2.2].toArray/\Rd W' (0::K) [a] r.1:=
 (c206 (h.view _) (i.view _) (k.view _) Y).ad (fk 0) fun _ _ ⟨a,e,x⟩=>⟨a,e,x.back O⟩
theorem c178 {x0 G x1 H x2 I r}(h0:Rd W0 [0] [G] x0)(h1:Rd W0 [0] [H] x1)(h2:Rd W0 [0] [I] x2)(Y:Vm.ziC x0 x1 x2=some r):Q0 178 [G,H,I] W0 fun Wf v=> ∃ u0 u1,v = .tuple [u0,u1].toArray/\OwS Wf [31] [] [u0] r.1/\OwS Wf [32] [] [u1] r.2:=by
 unfold Vm.ziC at Y
 refine zaz.of Tryz.func178 O O O O (sr (Gv (.slice none 0 0) O (Nv (.slice none 0 0) O (sr (Lw.t O (T.lit0 (α:=File) 2 []) ?_)))))
 rintro v1 _ ⟨W1,rfl,l1,o1⟩
 have a2:=l1.o
 refine Nv v1 O (sr (Lw.t O (T.lit0 (α:=Clash) 3 []) ?_))
 rintro v3 _ ⟨W3,rfl,l3,o3⟩
 have L:=a2.n l3
 refine Nv v3 O (sr (mv G O (mv H O (mv I O (cr Y (fun _=>p205 (h0.ul L) (h1.ul L) (h2.ul L)) ?_)))))
 rintro z9 y a3 Y af ⟨_,rfl,bw⟩
 have N:=bw.sub (M:=[0]) O
 have P:=L.n af
 refine Nv y O (ssr (Ni O (Cw.block ?_)))
 obtain⟨bz,b0,Y⟩:=zbM Y
 refine Cw.loop 21 61 [8,9,11,12,13,14] (fun m l w=> ∃ Q S U d e a5 a6 a7 f,CW.w f=w/\Le [2,3,4] a3 f/\l=[d,e,vI U,a5,a6,a7]/\Ow f 2 [] [d] Q/\Ow f 3 [] [e] S/\Vm.zdA x0 x1 x2 z9 bz m Q S U=some r) _ ⟨([]:List File),([]:List Clash),0,v1,v3,undef,undef,undef,a3,O,Le.refl _ _,O,((o1.up l3).up af),(o3.up af),Y⟩ ?_
 rintro(_ |c2) _ _ σ ⟨Q,S,U,d,e,a5,a6,a7,f,rfl,a8,rfl,a9,ah,Y⟩
 ·cases Y
 unfold Vm.zdA at Y
 have h:=a8.s
 refine ssr ?_
 have ai:=N.ul h
 refine mi O (mv y O (Lw.ln z9 ai O (Lw.lt O (nl (cn Y (fun Y=>?_) fun Y=>?_)))))
 ·refine sk ?_
  obtain⟨b1,b2,Y⟩:=zbM Y
  refine Cw.join 27 61 [8,9,12,13,14] (fun l w=> ∃ V W X Z aj ak am i,CW.w i=w/\Le [2,3,4] f i/\l=[X,Z,aj,ak,am]/\Ow i 2 [] [X] V/\Ow i 3 [] [Z] W/\b1 V W=some r) ?_ ?_
  ·rintro _ _ σ ⟨V,W,X,Z,aj,ak,am,i,rfl,b3,rfl,b4,b5,Y⟩
   rw[b2]at Y
   exact rg (mi O (Lw.add O (Ni O ((agm) ⟨V,W,w64 (U+1),X,Z,aj,ak,am,i,O,(a8.j b3).w,O,b4,b5,Y⟩))))
  ·refine Cw.block (sr (mv G O (mv H O (mv I O (mv y O (mi O ?_))))))
   obtain⟨c3,ba,Y⟩:=ob Y
   refine Lw.r O (R.ix (α:=Str) ai ba O O O) (Lw.r O (R.ld O O (ai.at_ ba).str) (cr Y (fun _=>p206 (h0.ul (P.trans h)) (h1.ul (P.trans h)) (h2.ul (P.trans h))) ?_))
   rintro a _ bb Y k ⟨b,rfl,b6⟩
   have b7:=b6.sub (M:=[0]) O
   have an:=h.n k
   refine mv (.tuple [b,vB a.2.1,vI a.2.2].toArray) O (Lw.r O (R.ext (vs:=[b,vB a.2.1,vI a.2.2]) (v:=b) O O) (Lw.r O (R.ext (vs:=[b,vB a.2.1,vI a.2.2]) (v:=vB a.2.1) O O) (Lw.r O (R.ext (vs:=[b,vB a.2.1,vI a.2.2]) (v:=vI a.2.2) O O) (Gv b O (Gb O (Ni O ?_))))))
   obtain⟨b8,b9,Y⟩:=zbM Y
   refine Cw.join 39 49 [9] (fun l w=> ∃ z A B,CW.w B=w/\Le [3] bb B/\l=[A]/\Ow B 3 [] [A] z/\b8 z=some r) ?_ ?_
   ·rintro _ _ σ ⟨z,A,B,rfl,aa,rfl,bc,Y⟩
    rw[b9]at Y
    have be:=aa.s
    have bg:=(a9.up k).up aa
    refine sr (mb O (nl (cn Y (fun Y=>?_) fun Y=>?_)))
    ·refine Cw.draw [2,4] [(0,0),(1,0),(2,0),(3,0),(4,1),(6,0),(5,2),(7,2),(8,0),(9,3),(10,2),(11,0)] mixed (by kernel_rfl) fun c4 ac=>?_
     have bh:=ac.o
     refine Dv d O (Dv y O (Di O ?_))
     obtain⟨C,ao,Y⟩:=ob Y
     have ap:=N.ul ((an.trans be).trans bh)
     refine Mw.p O O (fun _=>R.ix (α:=Str) ap ao O O O) (Mw.q O O (fun _ c=>R.ld O O (zaB (ap.at_ ao).1 O (ap.at_ ao).str c)) (Dv b O (Mw.t O O (T.lit0 (α:=Str) 4 []) ?_)))
     rintro c5 _ ⟨c6,rfl,x,cb⟩
     have cc:=(be.trans bh).n x
     refine m0 x fun cd=>?_
     obtain⟨ce,cf,Y⟩:=ob Y
     refine Mw.t O O (T.appP (α:=Str) cb (b7.ul cc) O O cf) ?_
     rintro ae _ ⟨c7,rfl,D,bi⟩
     refine mc cd D fun c8=>Mw.p O O (fun _=>R.bd (zs:=[vS ([]:Str), .slice none 0 0]) (cs:=[vS C,ae]) [(0,vS C),(1,ae)] O O O (zbc O O (zbc bi.oc O ze4))) (Mw.l O O (T.bs 5 [.agg [vS C,ae].toArray] (cs:=[vS C,ae]) O O (bsA O)) ?_)
     rintro _ _ ⟨c9,da,rfl,rfl,E,cg⟩
     obtain⟨ch,ci,Y⟩:=ob Y
     refine Mw.t O O (T.app1 (α:=File) (J:=[4]) (K':=[]) ((((bg.up ac).up x).up D).up E) cg (File.own C ce (bi.up E).s) O O ci) ?_
     rintro bj _ ⟨cj,rfl,aq,ck⟩
     refine⟨⟨_,O,((x.sub (M:=[2,4]) O).trans ((D.sub (M:=[2,4]) O).trans ((E.sub (M:=[2,4]) O).trans (aq.sub (M:=[2,4]) O))))⟩,?_⟩
     exact Hv bj O (Mw.nil ((ag) ⟨ch,z,bj,A,b,vB a.2.1,vI a.2.2,cj,O,((((((k.j aa).j ac).j x).j D).j E).j aq).w,O,ck,(((((bc.up ac).up x).up D).up E).up aq),Y⟩))
    ·exact sk ((ag) ⟨Q,z,d,A,b,vB a.2.1,vI a.2.2,B,O,(k.j aa).w,O,bg,bc,Y⟩)
   ·refine sr (mi O (Lw.gt O (nl (cn Y (fun Y=>?_) fun Y=>?_))))
    ·refine rg (mv e O (mv y O (mi O ?_)))
     obtain⟨F,bk,Y⟩:=ob Y
     refine Lw.r O (R.ix (α:=Str) (N.ul an) bk O O O) (Lw.r O (R.ld O O ((N.ul an).at_ bk).str) (mi O (Lw.r O (R.bd (zs:=[vS ([]:Str),vI 0]) (cs:=[vS F,vI a.2.2]) [(0,vS F),(1,vI a.2.2)] O O O (zbc O O (zbc O O ze4))) (Lw.t O (T.bs 6 [.agg [vS F,vI a.2.2].toArray] (cs:=[vS F,vI a.2.2]) O O (bsA O)) ?_))))
     rintro _ _ ⟨db,dc,rfl,rfl,bl,cl⟩
     obtain⟨cm,co,Y⟩:=ob Y
     refine Lw.t O (T.app1S (α:=Clash) (K':=[]) ((ah.up k).up bl) cl (Clash.rd (K:=[]) F a.2.2) O O co) ?_
     rintro bm _ ⟨cp,rfl,cq,ct⟩
     exact Nv bm O ((ag) ⟨cm,bm,cp,O,(bl.j cq).w,O,ct,Y⟩)
    ·exact sk ((ag) ⟨S,e,bb,O,Le.refl _ _,O,(ah.up k),Y⟩)
 ·refine Cw.exit ?_
  rw[b0]at Y
  refine sr (mv d O (mv e O (Gv d O (Nv e O ?_))))
  obtain⟨dd,cu,bn,cv⟩:=a9.dyeO 31
  have cw:=(P.trans h).t bn
  obtain⟨de,cx,bp,cy⟩:=(ah.up bn).dyeO 32
  have cz:=cw.t bp
  cases Y
  rw[<- cx.trans (cu)]
  exact Cw.ret (zp3 O O (Res.mk cz ⟨d,e,O,(cv.up bp).s,cy.s⟩))
theorem p178 {x0 d x1 f x2 h k0 k1 r}(i:Rd W K [d] x0)(k:Rd W K [f] x1)(x:Rd W K [h] x2)(Y:Vm.ziC x0 x1 x2=some r):Q1 178 [d,f,h] W [] fun W' v=> ∃ a b,v = .tuple [a,b].toArray/\Ow W' k0 [] [a] r.1/\Ow W' k1 [] [b] r.2:=
 zaz.adJ (J:=[]) (fun c=>bif Nat.beq c 0 then 0 else bif Nat.beq c 31 then k0 else bif Nat.beq c 32 then k1 else 0) (c178 (i.view _) (k.view _) (x.view _) Y) fun _ _ ⟨a,b,e,y,z⟩=>⟨a,b,e,y.one1.backN O,z.one1.backN O⟩
theorem c123 {x0 e x1 f x2 h r}(A:Rd W0 [0] [e] x0)(Q:Rd W0 [0] [f] x1)(S:Rd W0 [0] [h] x2)(Y:Vm.zfG x0 x1 x2=some r):Q0 123 [e,f,h] W0 fun Wf v=> ∃ B C,v = .tuple [B,C].toArray/\OwS Wf [31] [] [B] r.1/\OwS Wf [32] [] [C] r.2:=by
 unfold Vm.zfG at Y
 refine zaz.of Tryz.func123 O O O O (sr (Gv (.slice none 0 0) O (Nv (.slice none 0 0) O (sr (mv e O (mv f O (mv h O (cr Y (fun _=>p178 (k0:=2) (k1:=3) A Q S) ?_))))))))
 rintro U _ D Y V ⟨a,b,rfl,E,F⟩
 have W:=V.o
 refine mv (.tuple [a,b].toArray) O (Lw.r O (R.ext (vs:=[a,b]) (v:=a) O O) (Lw.r O (R.ext (vs:=[a,b]) (v:=b) O O) (Gv a O (Nv b O (Cw.seq ?_)))))
 obtain⟨X,Z,Y⟩:=zbM Y
 refine Cw.join 17 24 [24] (fun l w=> ∃ i k,CW.w k=w/\Le [] D k/\l=[vB i]/\X i=some r) ?_ ?_
 ·rintro _ _ σ ⟨i,k,rfl,y,rfl,Y⟩
  rw[Z]at Y
  have z:=W.n y
  refine cn Y (fun Y=>?_) fun Y=>?_
  ·refine sr (mv e O (cr Y (fun _=>p125 (k0:=4) (A.ul z)) ?_))
   rintro a0 G a1 Y aa ⟨_,rfl,ac⟩
   have ae:=z.n aa
   refine Lw.r O (R.bd (zs:=[vS ([]:Str),vI 0]) (cs:=[vS ([]:Str),vI 4]) [(1,vI 4)] O O O (zbc O O ze4)) (Lw.t O (T.bsO (α:=Clash) (J:=[]) (xs:=[Vm.Clash.mk ([]:Str) 4]) 5 [.agg [vS ([]:Str),vI 4].toArray] (bsL [[vS ([]:Str),vI 4]] (zCh O zBn) (OwL.cons (x:=(Vm.Clash.mk ([]:Str) 4)) (OwS.atm (K:=[]) (Clash.rd (K:=[]) ([]:Str) 4)) OwL.nil)) O) ?_)
   rintro H _ ⟨a2,rfl,I,af⟩
   have ah:=ae.n I
   refine Gv G O (Nv H O ?_)
   obtain⟨a3,ai,L,aj⟩:=(ac.up I).dyeO 31
   have ak:=ah.t L
   obtain⟨a5,am,M,an⟩:=(af.up L).dyeO 32
   have ao:=ak.t M
   cases Y
   rw[<- am.trans (ai)]
   exact Cw.ret (zp3 O O (Res.mk ao ⟨G,H,O,(aj.up M).s,an.s⟩))
  ·refine sk (sr (mv a O (mv b O (Gv a O (Nv b O ?_)))))
   obtain⟨a6,ap,N,aq⟩:=(E.up y).dyeO 31
   have ar:=z.t N
   obtain⟨a7,au,P,av⟩:=((F.up y).up N).dyeO 32
   have aw:=ar.t P
   cases Y
   rw[<- au.trans (ap)]
   exact Cw.ret (zp3 O O (Res.mk aw ⟨a,b,O,(aq.up P).s,av.s⟩))
 ·refine rg (mv b O (Lw.ln U.2 F.rd O (Lw.eq O (mb O (bs Y (fun d Y=>?_) fun d Y=>?_)))))
  ·exact wak 3 d (mv a O (ca Y (fun _=>p141 (K:=[2]) E.rd) fun ax ay Y az=>Lw.r O (R.not O) (Pb d O (nl ((ag) ⟨(!ax),ay,O,az,O,Y⟩)))))
  ·exact psk 3 d O (Pb d O (nl ((ag) ⟨false,D,O,Le.refl _ _,O,Y⟩)))
theorem p123 {x0 d x1 f x2 h k0 k1 r}(i:Rd W K [d] x0)(k:Rd W K [f] x1)(x:Rd W K [h] x2)(Y:Vm.zfG x0 x1 x2=some r):Q1 123 [d,f,h] W [] fun W' v=> ∃ a b,v = .tuple [a,b].toArray/\Ow W' k0 [] [a] r.1/\Ow W' k1 [] [b] r.2:=
 zaz.adJ (J:=[]) (fun c=>bif Nat.beq c 0 then 0 else bif Nat.beq c 31 then k0 else bif Nat.beq c 32 then k1 else 0) (c123 (i.view _) (k.view _) (x.view _) Y) fun _ _ ⟨a,b,e,y,z⟩=>⟨a,b,e,y.one1.backN O,z.one1.backN O⟩
end Go.Sx
