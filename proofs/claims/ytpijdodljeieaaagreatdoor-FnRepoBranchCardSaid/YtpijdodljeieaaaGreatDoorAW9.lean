/- Walks: each function answers as its model, printed by a program of ours. Conditions: the arguments read as they are given. -/
import Derived.Test.YtpijdodljeieaaaGreatDoorATs
import Derived.Test.YtpijdodljeieaaaGreatDoorAM3
import Derived.Test.YtpijdodljeieaaaGreatDoorAW6
namespace Go.Sx
open Go Go.Proofs Go.Vm Rp
set_option linter.unusedVariables false
set_option linter.unusedSimpArgs false
variable {W W0:CW}{K:List Nat}
theorem c88 {x0 h i x1 r}(F:Rd W0 [0] [h,i] x0)(Y:Vm.zgD x0 x1=some r):Q0 88 [.agg [h,i].toArray,vS x1] W0 fun Wf v=>v=vI r:=by
 unfold Vm.zgD at Y
 obtain⟨Q,S,k,T,e⟩:=Repo.split F
 simp only[List.cons.injEq,and_true,true_and]at k
 obtain⟨rfl,rfl⟩:=k
 refine zaO.of Tryz.func88 O O O O (sr (bo 2 O fun U x G H=>?_))
 have y:=G.o
 refine Ni O (ssr (fl H O (Lw.ln x0.Heads (e.ul y) O (mi O (nl (Cw.block ?_))))))
 obtain⟨I,J,Y⟩:=zdC Y
 refine Cw.loop 10 20 [4,6,10] (fun m l w=> ∃ a b z f,CW.w f=w/\Le [3] x f/\l=[vI a,z,vI b]/\Vm.zdS x0 x1 I m a b=some r) _ ⟨0,0,undef,x,O,Le.refl _ _,O,Y⟩ ?_
 rintro(_ |V) _ _ σ ⟨a,b,z,f,rfl,A,rfl,Y⟩
 ·cases Y
 unfold Vm.zdS at Y
 have d:=y.t A
 refine sr (Lw.lt O (nl (Cw.seq (cn Y (fun Y=>?_) fun Y=>?_))))
 ·refine sk (Cw.seq (Cw.block (sr ?_)))
  obtain⟨W,B,Y⟩:=ob Y
  refine Lw.r O (R.ix (α:=Head) (e.ul d) B O O O) ?_
  obtain⟨x16,c17,_,r18⟩:=((e.ul d).at_ B).cells
  obtain rfl:=Head.split r18
  refine Lw.r O (R.lda c17 O O) (al 3 [vS ([]:Str),vI 0] fun K X C L=>?_)
  have M:=d.n C
  refine sta L (zah O (zah O za4)) fun N D E=>?_
  have P:=M.t D
  refine nl (sr (fl E O (ms O (Lw.seq O (nl (cn Y (fun Y=>?_) fun Y=>?_))))))
  ·exact sr (fl E O (Ni O (.ret (rt Y P))))
  ·exact sk (rg (Lw.add O (mi O (nl ((agm) ⟨a,w64 (b+1),ptr (bx K),N,O,((A.j C).j D).w,O,Y⟩)))))
 ·refine Cw.exit ?_
  rw[J]at Y
  exact sr (Ni O (.ret (rt Y d)))
theorem p88 {x0 a b x1 r}(d:Rd W K [a,b] x0)(Y:Vm.zgD x0 x1=some r):Q1 88 [.agg [a,b].toArray,vS x1] W [] fun W' v=>v=vI r:=
 (c88 (d.view _) Y).ad (fk 0) fun _ _ e=>e
theorem c99 {x0 k r}(x:Rd W0 [0] [k] x0)(Y:Vm.zf3 x0=some r):Q0 99 [k] W0 fun Wf v=> ∃ C,v=C/\OwS Wf LL [] [C] r:=by
 unfold Vm.zf3 at Y
 refine zaO.of Tryz.func99 O O O O (sr (Nv (.slice none 0 0) O (sr (Nv (.slice none 0 0) O (ssr (mv k O (Lw.ln x0 x O (mi O (nl (Cw.block ?_))))))))))
 obtain⟨N,P,Y⟩:=zdC Y
 refine Cw.loop 8 21 [3,5,8] (fun m l w=> ∃ y e a D f,CW.w f=w/\Le [2,3,4] W0 f/\l=[a,D,vI e]/\Ow f 2 [] [a] y/\Vm.zdn x0 N m y e=some r) _ ⟨([]:List File),0, .slice none 0 0,undef,W0,O,Le.refl _ _,O,owN 2 [],Y⟩ ?_
 rintro(_ |m8) _ _ σ ⟨y,e,a,D,f,rfl,E,rfl,F,Y⟩
 ·cases Y
 unfold Vm.zdn at Y
 have z:=E.s
 refine sr (Lw.lt O (nl (Cw.seq (cn Y (fun Y=>?_) fun Y=>?_))))
 ·refine sk (Cw.seq (Cw.block (sr ?_)))
  obtain⟨b,G,Y⟩:=ob Y
  refine Lw.r O (R.ix (α:=File) (x.ul z) G O O O) ?_
  obtain⟨x14,c15,_,r16⟩:=((x.ul z).at_ G).cells
  obtain⟨ak,rfl,r18⟩:=File.split r16
  refine Lw.r O (R.lda c15 O O) (al 3 [vS ([]:Str), .slice none 0 0] fun Q am A S=>?_)
  have U:=A.o
  refine sta S (zah O (zah r18.oc za4)) fun an B H=>?_
  have V:=U.t B
  refine nl (Cw.draw [2,4] [(0,0),(1,0),(2,1),(3,0),(4,1),(5,2),(6,0),(7,2),(8,2),(9,0)] mixed (by kernel_rfl) fun ao d=>?_)
  have W:=V.n d
  refine Dv a O (Dfl (H.up d) O O O (Dfl (H.up d) O O O (Dc Y (Le.refl _ _) (fun _=>p127 (k0:=4) (r18.ul W)) O ?_)))
  rintro X h ap Y I ⟨_,rfl,K⟩ Z
  refine Mw.p O O (fun _=>R.bd (zs:=[vS ([]:Str), .slice none 0 0]) (cs:=[vS b.Path,h]) [(0,vS b.Path),(1,h)] O O O (zc0 O O (zc0 K.oc O zhs))) (Mw.t O O (T.bs 5 [.agg [vS b.Path,h].toArray] (cs:=[vS b.Path,h]) O O (bsA O)) ?_)
  rintro _ _ ⟨aq,ar,rfl,rfl,i,aa⟩
  refine mc Z i fun ac=>?_
  obtain⟨ae,af,Y⟩:=ob Y
  refine Mw.t O O (T.app1 (α:=File) (J:=[4]) (K':=[]) (((((F.up A).up B).up d).up I).up i) aa (File.own b.Path X (K.up i).s) O O af) ?_
  rintro L _ ⟨ah,rfl,M,ai⟩
  exact mc ac M fun au=>Hv L O (Mw.nil (rg (Lw.add O (mi O (nl ((agm) ⟨ae,w64 (e+1),L,ptr (bx Q),ah,O,((((((E.j A).j B).j d).j I).j i).j M).w,O,ai,Y⟩))))))
 ·refine Cw.exit ?_
  rw[P]at Y
  refine sr (mv a O (Nv a O ?_))
  cases Y
  exact Cw.ret (zj5 O (Res.mk z ⟨a,O,F.s.sub O O⟩))
theorem p99 {x0 b k0 r}(d:Rd W K [b] x0)(Y:Vm.zf3 x0=some r):Q1 99 [b] W [] fun W' v=> ∃ a,v=a/\Ow W' k0 [] [a] r:=
 (c99 (d.view _) Y).ad (fk k0) fun _ _ ⟨a,e,f⟩=>⟨a,e,f.back (zkx _)⟩
theorem c90 {x0 ac ae r}(h0:Rd W0 [0] [ac,ae] x0)(Y:Vm.zdZ x0=some r):Q0 90 [.agg [ac,ae].toArray] W0 fun Wf v=> ∃ af ah,v = .agg [af,ah].toArray/\OwS Wf [31] [] [af] r.Commits/\OwS Wf [32] [] [ah] r.Heads:=by
 unfold Vm.zdZ at Y
 obtain⟨co,cp,ai,H,a1⟩:=Repo.split h0
 simp only[List.cons.injEq,and_true,true_and]at ai
 obtain⟨rfl,rfl⟩:=ai
 refine zaO.of Tryz.func90 O O O O (sr (bo 2 O fun g1 W1 l1 b1=>?_))
 have a2:=l1.o
 refine al 3 [.slice none 0 0, .slice none 0 0] fun g3 W3 l3 b3=>?_
 have a4:=a2.n l3
 refine nl (sr (Lw.t O (T.lit0 (α:=Head) 4 []) ?_))
 rintro v6 _ ⟨W6,rfl,I,o6⟩
 have a7:=a4.n I
 have b8:=(b1.up l3).up I
 refine fl b8 O ?_
 obtain⟨bb,bc,Y⟩:=ob Y
 refine Lw.t O (T.appP (α:=Head) o6 (a1.ul a7) O O bc) ?_
 rintro K _ ⟨cy,rfl,L,M⟩
 have be:=a7.t L
 refine Lw.r O (R.bd (zs:=[.slice none 0 0, .slice none 0 0]) (cs:=[.slice none 0 0,K]) [(1,K)] O O O (zc0 M.oc O zhs)) (al 5 [.slice none 0 0, .slice none 0 0] fun bg cz i bh=>?_)
 have bi:=be.n i
 refine sta bh (zah O (zah (M.up i).oc za4)) fun an A bj=>?_
 have ao:=bi.t A
 refine nl (ssr (fl (((b8.up L).up i).up A) O (Lw.ln x0.Commits (H.ul ao) O (mi O (nl (Cw.block ?_))))))
 obtain⟨bk,bl,Y⟩:=zdC Y
 refine Cw.loop 14 33 [5,14] (fun m l w=> ∃ B N C ap D k b,CW.w b=w/\Le [5,6,7,8,9] an b/\l=[ap,vI B]/\Ow b 6 [] [D] N/\Ow b 4 [] [k] C/\Bx b 5 bg [D,k]/\Vm.zdo x0 bk m B N C=some r) _ ⟨0,([]:List Commit),bb,undef, .slice none 0 0,K,an,O,Le.refl _ _,O,owN 6 [],((M.up i).up A),bj,Y⟩ ?_
 rintro(_ |c0) _ _ σ ⟨B,N,C,ap,D,k,b,rfl,P,rfl,Q,S,aq,Y⟩
 ·cases Y
 unfold Vm.zdo at Y
 have U:=ao.t P
 refine sr (Lw.lt O (nl (Cw.seq (cn Y (fun Y=>?_) fun Y=>?_))))
 ·refine sk (Cw.seq (Cw.block (sr ?_)))
  obtain⟨x,ar,Y⟩:=ob Y
  refine Lw.r O (R.ix (α:=Commit) (H.ul U) ar O O O) ?_
  obtain⟨x47,c48,_,r49⟩:=((H.ul U).at_ ar).cells
  obtain⟨c1,c2,rfl,r51,r53⟩:=Commit.split r49
  refine Lw.r O (R.lda c48 O O) (al 7 [.slice none 0 0,vS ([]:Str), .slice none 0 0] fun bm c3 y bn=>?_)
  have bp:=y.o
  refine sta bn (zah r51.oc (zah O (zah r53.oc za4))) fun c4 z bq=>?_
  have br:=bp.t z
  refine nl (Cw.draw [6,8,9] [(0,0),(1,1),(3,0),(4,1),(6,0),(7,1),(8,0),(9,1),(2,2),(5,2),(10,2),(11,0),(12,2),(13,2),(14,0),(15,3)] mixed (by kernel_rfl) fun c5 d=>?_)
  have bu:=br.n d
  have au:=((aq.up y).up z).up d
  have V:=bq.up d
  refine Dfl au O O O (Dfl V O O O (Dfl V O O O (Dfl V O O O (Mw.t O O (T.lit0 (α:=Int) 8 []) ?_))))
  rintro c6 _ ⟨c7,rfl,e,bv⟩
  have av:=bu.n e
  refine m0 e fun bw=>?_
  obtain⟨bz,b0,Y⟩:=ob Y
  refine Mw.t O O (T.appP (α:=Int) bv (r51.ul av) O O b0) ?_
  rintro E _ ⟨c8,rfl,f,aw⟩
  have b2:=av.t f
  refine mc bw f fun b4=>Dc Y b4 (fun _=>p99 (k0:=9) (r53.ul b2)) O ?_
  rintro b5 F c9 Y h ⟨_,rfl,ax⟩ b6
  refine Mw.p O O (fun _=>R.bd (zs:=[.slice none 0 0,vS ([]:Str), .slice none 0 0]) (cs:=[E,vS x.Who,F]) [(0,E),(1,vS x.Who),(2,F)] O O O (zc0 (aw.up h).oc O (zc0 O O (zc0 ax.oc O zhs)))) (Mw.t O O (T.bs 10 [.agg [E,vS x.Who,F].toArray] (cs:=[E,vS x.Who,F]) O O (bsA O)) ?_)
  rintro _ _ ⟨da,db,rfl,rfl,a,b7⟩
  refine mc b6 a fun b9=>?_
  obtain⟨cb,cc,Y⟩:=ob Y
  refine Mw.t O O (T.app1 (α:=Commit) (J:=[8,9]) (K':=[]) (((((((Q.up y).up z).up d).up e).up f).up h).up a) b7 (Commit.own bz x.Who b5 ((aw.up h).up a).s (ax.up a).s) O O cc) ?_
  rintro ay _ ⟨dc,rfl,G,az⟩
  refine mc b9 G fun dd=>Df O (Mw.lu O (T.st (j:=0) (v:=ay) (((((au.up e).up f).up h).up a).up G) O O az.oc O O) ?_)
  rintro _ _ ⟨cd,rfl,W,ce⟩
  exact Mw.nil (rg (Lw.add O (mi O (nl ((agm) ⟨w64 (B+1),cb,C,ptr (bx bm),ay,k,cd,O,(((((((((P.j y).j z).j d).j e).j f).j h).j a).j G).j W).w,O,(az.up W),(((((((((S.up y).up z).up d).up e).up f).up h).up a).up G).up W),ce,Y⟩)))))
 ·refine Cw.exit ?_
  rw[bl]at Y
  refine sr (la aq (sta (((((b3.up I).up L).up i).up A).up P) (zah Q.oc (zah S.oc za4)) fun de X cf=>?_))
  have cg:=U.t X
  refine nl ?_
  obtain⟨df,ch,Z,ci⟩:=(Q.up X).dyeO 31
  have cj:=cg.t Z
  obtain⟨dg,ck,aa,cl⟩:=((S.up X).up Z).dyeO 32
  have cm:=cj.t aa
  cases Y
  rw[<- ck.trans (ch)]
  exact Cw.ret (zoh O ((cf.up Z).up aa) (Res.mk cm ⟨D,k,O,(ci.up aa).s,cl.s⟩))
theorem p90 {x0 d f k0 k1 r}(h:Rd W K [d,f] x0)(Y:Vm.zdZ x0=some r):Q1 90 [.agg [d,f].toArray] W [] fun W' v=> ∃ a b,v = .agg [a,b].toArray/\Ow W' k0 [] [a] r.Commits/\Ow W' k1 [] [b] r.Heads:=
 zaO.adJ (J:=[]) (fun c=>bif Nat.beq c 0 then 0 else bif Nat.beq c 31 then k0 else bif Nat.beq c 32 then k1 else 0) (c90 (h.view _) Y) fun _ _ ⟨a,b,e,i,k⟩=>⟨a,b,e,i.one1.backN O,k.one1.backN O⟩
theorem c101 {x0 b x1 e r}(d:Rd W0 [0] [b] x0)(f:Rd W0 [0] [e] x1)(Y:Vm.zhC x0 x1=some r):Q0 101 [b,e] W0 fun Wf v=>v=vB r:=by
 unfold Vm.zhC at Y
 refine zaO.of Tryz.func101 O O O O (sr (Nb O (ssr (mv b O (Lw.ln x0 d O (mv e O (Lw.ln x1 f O (Lw.ne O (nl (cn Y (fun Y=>?_) fun Y=>?_))))))))))
 ·exact sr (Nb O (.ret (rt Y (Le.refl _ _))))
 ·refine sk (ssr (Ni O (Cw.block ?_)))
  obtain⟨B,C,Y⟩:=zdC Y
  refine Cw.loop 11 25 [4,5] (fun m l w=> ∃ h i k,CW.w k=w/\Le [] W0 k/\l=[vB h,vI i]/\Vm.zdT x0 x1 B m h i=some r) _ ⟨false,0,W0,O,Le.refl _ _,O,Y⟩ ?_
  rintro(_ |E) _ _ σ ⟨h,i,k,rfl,A,rfl,Y⟩
  ·cases Y
  unfold Vm.zdT at Y
  have x:=A.o
  refine ssr (mi O (mv b O (Lw.ln x0 (d.ul x) O (Lw.lt O (nl (cn Y (fun Y=>?_) fun Y=>?_))))))
  ·refine sk (Cw.seq (Cw.block (Cw.seq (Cw.draw [] [(0,0),(1,0),(2,0),(3,1),(4,0),(5,0),(6,0),(7,1),(8,0)] mixed (by kernel_rfl) fun D l10=>?_))))
   have a:=x.n l10
   refine Dv b O (Di O ?_)
   obtain⟨F,y,Y⟩:=ob Y
   refine Mw.p O O (fun _=>R.ix (α:=Str) (d.ul a) y O O O) (Mw.q O O (fun _ c=>R.ld O O (zaR ((d.ul a).at_ y).1 O ((d.ul a).at_ y).str c)) (Dv e O (Di O ?_)))
   obtain⟨G,z,Y⟩:=ob Y
   refine Mw.p O O (fun _=>R.ix (α:=Str) (f.ul a) z O O O) (Mw.q O O (fun _ c=>R.ld O O (zaR ((f.ul a).at_ z).1 O ((f.ul a).at_ z).str c)) (Mw.p O O (fun _=>R.sne O O) (Mw.nil (cn Y (fun Y=>?_) fun Y=>?_))))
   ·exact sr (Nb O (.ret (rt Y a)))
   ·exact sk (rg (mi O (Lw.add O (Ni O ((agm) ⟨h,w64 (i+1),D,O,(A.j l10).w,O,Y⟩)))))
  ·refine Cw.exit ?_
   rw[C]at Y
   exact sr (Nb O (.ret (rt Y x)))
theorem p101 {x0 a x1 b r}(d:Rd W K [a] x0)(f:Rd W K [b] x1)(Y:Vm.zhC x0 x1=some r):Q1 101 [a,b] W [] fun W' v=>v=vB r:=
 (c101 (d.view _) (f.view _) Y).ad (fk 0) fun _ _ e=>e
theorem c37 {x0 b x1 h r}(z:Rd W0 [0] [b] x0)(G:Rd W0 [0] [h] x1)(Y:Vm.zh2 x0 x1=some r):Q0 37 [b,h] W0 fun Wf v=>v=vB r:=by
 unfold Vm.zh2 at Y
 refine zaO.of Tryz.func37 O O O O (sr (Nb O (ssr (mv b O (Lw.ln x0 z O (mv h O (Lw.ln x1 G O (Lw.ne O (nl (cn Y (fun Y=>?_) fun Y=>?_))))))))))
 ·exact sr (Nb O (.ret (rt Y (Le.refl _ _))))
 ·refine sk (ssr (Ni O (Cw.block ?_)))
  obtain⟨M,N,Y⟩:=zdC Y
  refine Cw.loop 11 41 [4,5] (fun m l w=> ∃ i d k,CW.w k=w/\Le [] W0 k/\l=[vB i,vI d]/\Vm.zen x0 x1 M m i d=some r) _ ⟨false,0,W0,O,Le.refl _ _,O,Y⟩ ?_
  rintro(_ |X) _ _ σ ⟨i,d,k,rfl,H,rfl,Y⟩
  ·cases Y
  unfold Vm.zen at Y
  have x:=H.o
  refine ssr (mi O (mv b O (Lw.ln x0 (z.ul x) O (Lw.lt O (nl (cn Y (fun Y=>?_) fun Y=>?_))))))
  ·refine sk (Cw.seq (Cw.block ?_))
   obtain⟨P,Q,Y⟩:=zdC Y
   refine Cw.join 17 41 [41] (fun l w=> ∃ A y,CW.w y=w/\Le [] k y/\l=[vB A]/\P A=some r) ?_ ?_
   ·rintro _ _ σ ⟨A,y,rfl,I,rfl,Y⟩
    rw[Q]at Y
    have S:=x.n I
    refine cn Y (fun Y=>?_) fun Y=>?_
    ·exact sr (Nb O (.ret (rt Y S)))
    ·exact sk (rg (mi O (Lw.add O (Ni O ((agm) ⟨i,w64 (d+1),y,O,(H.j I).w,O,Y⟩)))))
   ·refine Cw.draw [] [(0,0),(1,0),(2,0),(3,0),(4,1),(5,0),(6,0),(7,0),(8,0),(9,1),(10,0),(11,0),(12,0),(13,0),(14,0),(15,0),(16,1),(17,0),(18,0),(19,0),(20,0),(21,1),(22,2),(23,0),(24,0)] mixed (by kernel_rfl) fun U B=>?_
    have J:=x.n B
    refine Dv b O (Di O ?_)
    obtain⟨Z,C,Y⟩:=ob Y
    have e:=z.ul J
    refine Mw.p O O (fun _=>R.ix (α:=File) e C O O O) (Df O (Mw.q O O (fun _ c=>R.ld O O (zaR (File.at0 (e.at_ C)).1 O (File.at0 (e.at_ C)).str c)) (Dv h O (Di O ?_))))
    obtain⟨aa,D,Y⟩:=ob Y
    have f:=G.ul J
    refine Mw.p O O (fun _=>R.ix (α:=File) f D O O O) (Df O (Mw.q O O (fun _ c=>R.ld O O (zaR (File.at0 (f.at_ D)).1 O (File.at0 (f.at_ D)).str c)) (Mw.p O O (fun _=>R.sne O O) (Db O (bs Y (fun a Y=>?_) fun a Y=>?_)))))
    ·exact dps 12 a O (Mw.p O O (fun _=>R.pk a O (v:=vB true) O) (Mw.nil ((ag) ⟨true,U,O,B,O,Y⟩)))
    ·refine Wp a O (fun _=>R.mv (v:=b) O) (Wp a O (fun _=>R.mv (v:=vI d) O) ?_)
     obtain⟨ac,E,Y⟩:=ob Y
     refine Wp a O (fun _=>R.ix (α:=File) e E O O O) (Wp a O (fun _=>R.fa O) ?_)
     obtain⟨ae,c27,r28⟩:=(File.at1 (e.at_ E)).cell O
     refine Wq a O (fun _ c=>R.ld O O (zaR (File.at1 (e.at_ E)).1 O c27 c)) (Wp a O (fun _=>R.mv (v:=h) O) (Wp a O (fun _=>R.mv (v:=vI d) O) ?_))
     obtain⟨af,F,Y⟩:=ob Y
     refine Wp a O (fun _=>R.ix (α:=File) f F O O O) (Wp a O (fun _=>R.fa O) ?_)
     obtain⟨ah,c32,r33⟩:=(File.at1 (f.at_ F)).cell O
     refine Wq a O (fun _ c=>R.ld O O (zaR (File.at1 (f.at_ F)).1 O c32 c)) ?_
     obtain⟨K,V,Y⟩:=ob Y
     refine Wt a O (T.call O (p101 r28 r33 V)) ?_
     rintro _ _ ⟨W,rfl,L,rfl⟩
     exact m0 L fun ai=>Wp a O (fun _=>R.not O) (Mw.p O O (fun _=>R.pk a O (v:=vB (!K)) O) (Mw.nil ((ag) ⟨(!K),W,O,(B.j L).w,O,Y⟩)))
  ·refine Cw.exit ?_
   rw[N]at Y
   exact sr (Nb O (.ret (rt Y x)))
theorem p37 {x0 a x1 b r}(d:Rd W K [a] x0)(f:Rd W K [b] x1)(Y:Vm.zh2 x0 x1=some r):Q1 37 [a,b] W [] fun W' v=>v=vB r:=
 (c37 (d.view _) (f.view _) Y).ad (fk 0) fun _ _ e=>e
theorem c58 {x0 x y x1 z A r}(G:Rd W0 [0] [x,vS x0.Who,y] x0)(H:Rd W0 [0] [z,vS x1.Who,A] x1)(Y:Vm.zgy x0 x1=some r):Q0 58 [.agg [x,vS x0.Who,y].toArray, .agg [z,vS x1.Who,A].toArray] W0 fun Wf v=>v=vB r:=by
 unfold Vm.zgy at Y
 obtain⟨Z,aa,B,I,J⟩:=Commit.split G
 simp only[List.cons.injEq,and_true,true_and]at B
 obtain⟨rfl,rfl⟩:=B
 obtain⟨ac,ae,C,K,L⟩:=Commit.split H
 simp only[List.cons.injEq,and_true,true_and]at C
 obtain⟨rfl,rfl⟩:=C
 refine zaO.of Tryz.func58 O O O O (sr (bo 2 O fun g1 W1 M N=>?_))
 have P:=M.o
 refine bo 3 O fun g3 D E f=>?_
 have e:=P.n E
 have h:=N.up E
 refine Nb O ?_
 obtain⟨Q,R,Y⟩:=zdC Y
 refine Cw.join 5 23 [4] (fun l w=> ∃ i k,CW.w k=w/\Le [] D k/\l=[vB i]/\Q i=some r) ?_ ?_
 ·rintro _ _ σ ⟨i,k,rfl,S,rfl,Y⟩
  rw[R]at Y
  have T:=e.n S
  exact .ret (rt Y T)
 ·refine rg (fl h O (fl f O (Lw.seq O (mb O (bs Y (fun a Y=>?_) fun a Y=>?_)))))
  ·refine wak 5 a (fl h O (fl f O (ca Y (fun _=>p17 (I.ul e) (K.ul e)) fun aj U Y b=>?_)))
   have F:=e.n b
   refine Pb a O (mb O (bs Y (fun d Y=>?_) fun d Y=>?_))
   ·exact wak 5 d (fl (h.up b) O (fl (f.up b) O (ca Y (fun _=>p37 (J.ul F) (L.ul F)) fun V W Y X=>Pb d O (Nb O ((ag) ⟨V,W,O,(b.j X).w,O,Y⟩)))))
   ·exact psk 5 d O (Pb d O (Nb O ((ag) ⟨false,U,O,b,O,Y⟩)))
  ·exact psk 5 a O (Pb a O (mb O (psk 5 O O (Pb O O (Nb O ((ag) ⟨false,D,O,Le.refl _ _,O,Y⟩))))))
theorem p58 {x0 a b x1 d f r}(h:Rd W K [a,vS x0.Who,b] x0)(i:Rd W K [d,vS x1.Who,f] x1)(Y:Vm.zgy x0 x1=some r):Q1 58 [.agg [a,vS x0.Who,b].toArray, .agg [d,vS x1.Who,f].toArray] W [] fun W' v=>v=vB r:=
 (c58 (h.view _) (i.view _) Y).ad (fk 0) fun _ _ e=>e
theorem c31 {x0 af ah x1 ai aj r}(h0:Rd W0 [0] [af,ah] x0)(h1:Rd W0 [0] [ai,aj] x1)(Y:Vm.zff x0 x1=some r):Q0 31 [.agg [af,ah].toArray, .agg [ai,aj].toArray] W0 fun Wf v=>v=vB r:=by
 unfold Vm.zff at Y
 obtain⟨bb,bc,ak,F,b⟩:=Repo.split h0
 simp only[List.cons.injEq,and_true,true_and]at ak
 obtain⟨rfl,rfl⟩:=ak
 obtain⟨be,bg,am,an,x⟩:=Repo.split h1
 simp only[List.cons.injEq,and_true,true_and]at am
 obtain⟨rfl,rfl⟩:=am
 refine zaO.of Tryz.func31 O O O O (sr (bo 2 O fun g1 W1 l1 b1=>?_))
 have a2:=l1.o
 refine bo 3 O fun g3 G l3 H=>?_
 have d:=a2.n l3
 have I:=b1.up l3
 refine Nb O (Cw.seq ?_)
 obtain⟨K8,az,Y⟩:=zdC Y
 refine Cw.join 7 22 [22] (fun l w=> ∃ J e,CW.w e=w/\Le [] G e/\l=[vB J]/\K8 J=some r) ?_ ?_
 ·rintro _ _ σ ⟨J,e,rfl,L,rfl,Y⟩
  rw[az]at Y
  have a9:=d.n L
  refine cn Y (fun Y=>?_) fun Y=>?_
  ·exact sr (Nb O (.ret (rt Y a9)))
  ·refine sk (ssr (Ni O (Cw.block ?_)))
   obtain⟨a0,a1,Y⟩:=zdC Y
   refine Cw.loop 23 41 [4,5] (fun m l w=> ∃ f y h,CW.w h=w/\Le [] e h/\l=[vB f,vI y]/\Vm.zep x0 x1 a0 m f y=some r) _ ⟨false,0,e,O,Le.refl _ _,O,Y⟩ ?_
   rintro(_ |bk) _ _ σ ⟨f,y,h,rfl,z,rfl,Y⟩
   ·cases Y
   unfold Vm.zep at Y
   have M:=a9.n z
   have A:=(I.up L).up z
   have aq:=(H.up L).up z
   refine ssr (mi O (fl A O (Lw.ln x0.Commits (F.ul M) O (Lw.lt O (nl (cn Y (fun Y=>?_) fun Y=>?_))))))
   ·refine sk (Cw.seq (Cw.block (Cw.seq (Cw.draw [] [(0,0),(1,1),(2,0),(3,0),(4,1),(5,0),(6,1),(7,0),(8,0),(9,1),(10,2),(11,0)] mixed (by kernel_rfl) fun bl B=>?_))))
    have N:=M.n B
    refine Dfl (A.up B) O O O (Di O ?_)
    obtain⟨P,Q,Y⟩:=ob Y
    have S:=F.ul N
    refine Mw.p O O (fun _=>R.ix (α:=Commit) S Q O O O) ?_
    obtain⟨x30,c31,_,r32⟩:=(S.at_ Q).cells
    obtain⟨bm,bn,rfl,r34,r36⟩:=Commit.split r32
    refine Mw.q O O (fun _ c=>R.lda (zmg (S.at_ Q).1 O c31 c) O O) (Dfl (aq.up B) O O O (Di O ?_))
    obtain⟨U,V,Y⟩:=ob Y
    have W:=an.ul N
    refine Mw.p O O (fun _=>R.ix (α:=Commit) W V O O O) ?_
    obtain⟨x40,c41,_,r42⟩:=(W.at_ V).cells
    obtain⟨bp,bq,rfl,r44,r46⟩:=Commit.split r42
    refine Mw.q O O (fun _ c=>R.lda (zmg (W.at_ V).1 O c41 c) O O) ?_
    obtain⟨br,a3,Y⟩:=ob Y
    refine Mw.t O O (T.call O (p58 (Commit.rd (K:=[0]) P.Parents P.Who P.Tree r34 r36) (Commit.rd (K:=[0]) U.Parents U.Who U.Tree r44 r46) a3)) ?_
    rintro _ _ ⟨a5,rfl,X,rfl⟩
    have a6:=N.n X
    refine m0 X fun bu=>Mw.p O O (fun _=>R.not O) (Mw.nil (cn Y (fun Y=>?_) fun Y=>?_))
    ·exact sr (Nb O (.ret (rt Y a6)))
    ·exact sk (rg (mi O (Lw.add O (Ni O ((agm) ⟨f,w64 (y+1),a5,O,((z.j B).j X).w,O,Y⟩)))))
   ·refine Cw.exit ?_
    rw[a1]at Y
    refine ssr (Ni O (Cw.block ?_))
    obtain⟨a7,a8,Y⟩:=zdC Y
    refine Cw.loop 42 59 [4,6] (fun m l w=> ∃ C D Z,CW.w Z=w/\Le [] h Z/\l=[vB C,vI D]/\Vm.zeo x0 x1 a7 m C D=some r) _ ⟨f,0,h,O,Le.refl _ _,O,Y⟩ ?_
    rintro(_ |bv) _ _ σ ⟨C,D,Z,rfl,i,rfl,Y⟩
    ·cases Y
    unfold Vm.zeo at Y
    have aa:=M.n i
    refine ssr (mi O (fl (A.up i) O (Lw.ln x0.Heads (b.ul aa) O (Lw.lt O (nl (cn Y (fun Y=>?_) fun Y=>?_))))))
    ·refine sk (Cw.seq (Cw.block (Cw.seq (Cw.draw [] [(0,0),(1,1),(2,0),(3,0),(4,1),(5,0),(6,1),(7,0),(8,0),(9,1),(10,0)] mixed (by kernel_rfl) fun ba E=>?_))))
     have a:=aa.n E
     refine Dfl ((A.up i).up E) O O O (Di O ?_)
     obtain⟨bw,ac,Y⟩:=ob Y
     refine Mw.p O O (fun _=>R.ix (α:=Head) (b.ul a) ac O O O) ?_
     obtain⟨x71,c72,_,r73⟩:=((b.ul a).at_ ac).cells
     obtain rfl:=Head.split r73
     refine Mw.q O O (fun _ c=>R.lda (zmg ((b.ul a).at_ ac).1 O c72 c) O O) (Dfl ((aq.up i).up E) O O O (Di O ?_))
     obtain⟨bz,ae,Y⟩:=ob Y
     refine Mw.p O O (fun _=>R.ix (α:=Head) (x.ul a) ae O O O) ?_
     obtain⟨x77,c78,_,r79⟩:=((x.ul a).at_ ae).cells
     obtain rfl:=Head.split r79
     refine Mw.q O O (fun _ c=>R.lda (zmg ((x.ul a).at_ ae).1 O c78 c) O O) (Mw.p O O (fun _=>R.hne O O) (Mw.nil (cn Y (fun Y=>?_) fun Y=>?_)))
     ·exact sr (Nb O (.ret (rt Y a)))
     ·exact sk (rg (mi O (Lw.add O (Ni O ((agm) ⟨C,w64 (D+1),ba,O,(i.j E).w,O,Y⟩)))))
    ·refine Cw.exit ?_
     rw[a8]at Y
     exact sr (Nb O (.ret (rt Y aa)))
 ·refine rg (fl I O (Lw.ln x0.Commits (F.ul d) O (fl H O (Lw.ln x1.Commits (an.ul d) O (Lw.ne O (mb O (bs Y (fun k Y=>?_) fun k Y=>?_)))))))
  ·exact psk 7 k O (Pb k O (nl ((ag) ⟨true,G,O,Le.refl _ _,O,Y⟩)))
  ·exact wak 7 k (fl I O (Lw.ln x0.Heads (b.ul d) O (fl H O (Lw.ln x1.Heads (x.ul d) O (Lw.ne O (Pb k O (nl ((ag) ⟨((x0.Heads.length:Int) !=(x1.Heads.length:Int)),G,O,Le.refl _ _,O,Y⟩))))))))
theorem p31 {x0 a b x1 d f r}(h:Rd W K [a,b] x0)(i:Rd W K [d,f] x1)(Y:Vm.zff x0 x1=some r):Q1 31 [.agg [a,b].toArray, .agg [d,f].toArray] W [] fun W' v=>v=vB r:=
 (c31 (h.view _) (i.view _) Y).ad (fk 0) fun _ _ e=>e
theorem c34 {x0 d e x1 r}(y:Rd W0 [0] [d,e] x0)(z:Gl 0 W0 [0])(Y:Vm.zgo x0 x1=some r):Q0 34 [.agg [d,e].toArray,vS x1] W0 fun Wf v=>v=vI r:=by
 unfold Vm.zgo at Y
 obtain⟨D,E,f,h,i⟩:=Repo.split y
 simp only[List.cons.injEq,and_true,true_and]at f
 obtain⟨rfl,rfl⟩:=f
 refine zaO.of Tryz.func34 O O O O (sr (bo 2 O fun F G A k=>?_))
 have a:=A.o
 refine Ni O (ssr (la k (ca Y (fun _=>p32 (Repo.rd (K:=[0]) x0.Commits x0.Heads (h.ul a) (i.ul a)) (z.ul a)) fun H I Y x=>?_)))
 have b:=a.n x
 refine Lw.r O (R.not O) (nl (cn Y (fun Y=>?_) fun Y=>?_))
 ·exact sr (Ni O (.ret (rt Y b)))
 ·refine sk (sr (la (k.up x) (ms O (ca Y (fun _=>p88 (Repo.rd (K:=[0]) x0.Commits x0.Heads (h.ul b) (i.ul b))) fun J L Y B=>?_))))
  have C:=b.n B
  exact Ni O (.ret (rt Y C))
theorem p34 {x0 a b x1 r}(d:Rd W K [a,b] x0)(f:Gl 0 W K)(Y:Vm.zgo x0 x1=some r):Q1 34 [.agg [a,b].toArray,vS x1] W [] fun W' v=>v=vI r:=
 (c34 (d.view _) (f.view _) Y).ad (fk 0) fun _ _ e=>e
end Go.Sx
