/- Walks: each function answers as its model, printed by a program of ours. Conditions: the arguments read as they are given. -/
import Derived.Test.YtifbmanldeabeaaGreatDoorETs
import Derived.Test.YtifbmanldeabeaaGreatDoorEM0
import Derived.Test.YtifbmanldeabeaaGreatDoorEW0
import Derived.Test.YtifbmanldeabeaaGreatDoorEW1
import Derived.Test.YtifbmanldeabeaaGreatDoorEW3
import Derived.Test.YtifbmanldeabeaaGreatDoorEW6
import Derived.Test.YtifbmanldeabeaaGreatDoorEE
namespace Go.Sx
open Go Go.Proofs Go.Vm Rp
set_option linter.unusedVariables false
set_option linter.unusedSimpArgs false
variable {W W0:CW}{K:List Nat}
theorem c116 {x0 i x1 r}(k:Rd W0 [0] [i] x0)(Y:Vm.zeP x0 x1=some r):Q0 116 [i,vS x1] W0 fun Wf v=> ∃ z,v = .tuple [z,vB r.2].toArray/\OwS Wf LL [] [z] r.1:=by
 unfold Vm.zeP at Y
 refine zak.of Tryz.func116 O O O O (sr (Gv (.slice none 0 0) O (Nb O (ssr (mv i O (Lw.ln x0 k O (mi O (nl (Cw.block ?_)))))))))
 obtain⟨H,I,Y⟩:=za4 Y
 refine Cw.loop 10 21 [4,5,7,10] (fun m l w=> ∃ a b d e A f,CW.w f=w/\Le [3] W0 f/\l=[e,vB b,A,vI d]/\Ow f 2 [] [e] a/\Vm.zcg x0 x1 H m a b d=some r) _ ⟨([]:List Str),false,0, .slice none 0 0,undef,W0,O,Le.refl _ _,O,owN 2 [],Y⟩ ?_
 rintro(_ |S) _ _ σ ⟨a,b,d,e,A,f,rfl,B,rfl,J,Y⟩
 ·cases Y
 unfold Vm.zcg at Y
 have h:=B.s
 refine sr (Lw.lt O (nl (Cw.seq (cn Y (fun Y=>?_) fun Y=>?_))))
 ·refine sk (Cw.seq (Cw.block (sr ?_)))
  obtain⟨T,C,Y⟩:=ob Y
  refine Lw.r O (R.ix (α:=File) (k.ul h) C O O O) ?_
  obtain⟨x15,c16,_,r17⟩:=((k.ul h).at_ C).cells
  obtain⟨U,rfl,r19⟩:=File.split r17
  refine Lw.r O (R.lda c16 O O) (al 3 [vS ([]:Str), .slice none 0 0] fun K V x L=>?_)
  have D:=x.o
  refine sta L (zaa O (zaa r19.oc zau)) fun M y E=>?_
  have F:=y.s
  refine nl (sr (fl E O (ms O (Lw.seq O (nl (cn Y (fun Y=>?_) fun Y=>?_))))))
  ·refine sr (fl E O (cr Y (fun _=>p125 (k0:=4) (r19.ul (D.trans F))) ?_))
   rintro W G X Y N ⟨_,rfl,P⟩
   have Q:=((h.trans D).trans F).n N
   refine Gv G O (Nb O ?_)
   cases Y
   exact Cw.ret (zlu O O (Res.mk Q ⟨G,O,P.s.sub O O⟩))
  ·exact sk (rg (Lw.add O (mi O (nl ((agm) ⟨a,b,w64 (d+1),e,ptr (bx K),M,O,((B.j x).j y).w,O,((J.up x).up y),Y⟩)))))
 ·refine Cw.exit ?_
  rw[I]at Y
  refine sr (Gv (.slice none 0 0) O (Nb O ?_))
  cases Y
  exact Cw.ret (zlu O O (Res.mk h ⟨.slice none 0 0,O,(zpO []).sub O O⟩))
theorem p116 {x0 b x1 k0 r}(d:Rd W K [b] x0)(Y:Vm.zeP x0 x1=some r):Q1 116 [b,vS x1] W [] fun W' v=> ∃ a,v = .tuple [a,vB r.2].toArray/\Ow W' k0 [] [a] r.1:=
 (c116 (d.view _) Y).ad (fk k0) fun _ _ ⟨a,e,f⟩=>⟨a,e,f.back (zf7 _)⟩
theorem c117 {x0 d e x1 r}(y:Rd W0 [0] [d,e] x0)(Y:Vm.zbf x0 x1=some r):Q0 117 [.agg [d,e].toArray,vI x1] W0 fun Wf v=>v=vI r:=by
 unfold Vm.zbf at Y
 obtain⟨C,D,f,z,E⟩:=Repo.split y
 simp only[List.cons.injEq,and_true,true_and]at f
 obtain⟨rfl,rfl⟩:=f
 refine zak.of Tryz.func117 O O O O (sr (bo 2 O fun F G A h=>?_))
 have b:=A.o
 refine Ni O (ssr (fl h O (mi O ?_)))
 obtain⟨B,i,Y⟩:=ob Y
 have a:=z.ul b
 refine Lw.r O (R.ix (α:=Commit) a i O O O) (Lw.fa O ?_)
 obtain⟨H,c7,r8⟩:=(Commit.at0 (a.at_ i)).cell O
 refine Lw.r O (R.ld O O c7) (Lw.ln B.Parents r8 O (Lw.eq O (nl (cn Y (fun Y=>?_) fun Y=>?_))))
 ·exact sr (Ni O (.ret (rt Y b)))
 ·refine sk (sr (fl h O (mi O ?_)))
  obtain⟨I,k,Y⟩:=ob Y
  refine Lw.r O (R.ix (α:=Commit) a k O O O) (Lw.fa O ?_)
  obtain⟨J,c13,r14⟩:=(Commit.at0 (a.at_ k)).cell O
  refine Lw.r O (R.ld O O c13) ?_
  obtain⟨K,x,Y⟩:=ob Y
  exact Lw.r O (R.ix (α:=Int) r14 x O O O) (Lw.r O (R.ld O O (r14.at_ x).int) (Ni O (.ret (rt Y b))))
theorem p117 {x0 a b x1 r}(d:Rd W K [a,b] x0)(Y:Vm.zbf x0 x1=some r):Q1 117 [.agg [a,b].toArray,vI x1] W [] fun W' v=>v=vI r:=
 (c117 (d.view _) Y).ad (fk 0) fun _ _ e=>e
theorem c157 {x0 k x1 x r}(y:Rd W0 [0] [k] x0)(z:Rd W0 [0] [x] x1)(Y:Vm.zgU x0 x1=some r):Q0 157 [k,x] W0 fun Wf v=> ∃ u0,v=u0/\OwS Wf LL [] [u0] r:=by
 unfold Vm.zgU at Y
 refine zak.of Tryz.func157 O O O O (sr (Nv (.slice none 0 0) O (sr (mv k O (Lw.ln x0 y O (Lw.add O ?_))))))
 obtain⟨M,e2,Y⟩:=ob Y
 refine Lw.t O (T.mk (α:=List Int) 2 [] (n:=w64 ((x0.length:Int)+1)) O O e2) ?_
 rintro a _ ⟨W3,rfl,l3,o3⟩
 have a4:=l3.o
 refine Nv a O (ssr (mv a O (Lw.ln M o3.rd O (mi O (nl (Cw.block ?_))))))
 obtain⟨a3,a5,Y⟩:=za4 Y
 refine Cw.loop 15 25 [6,15] (fun m l w=> ∃ A F j5 e,CW.w e=w/\Le [2,3] W3 e/\l=[j5,vI A]/\Ow e 2 [] [a] F/\Vm.zdz x1 M a3 m A F=some r) _ ⟨0,M,undef,W3,O,Le.refl _ _,O,o3,Y⟩ ?_
 rintro(_ |cg) _ _ σ ⟨A,F,j5,e,rfl,l9,rfl,N,Y⟩
 ·cases Y
 unfold Vm.zdz at Y
 have P:=a4.t l9
 refine sr (Lw.lt O (nl (Cw.seq (cn Y (fun Y=>?_) fun Y=>?_))))
 ·refine sk (Cw.seq (Cw.block (sr (mi O (Ni O (rg (mv a O (mi O (mv x O (Lw.ln x1 (z.ul P) O (Lw.add O ?_)))))))))))
  obtain⟨ch,a6,Y⟩:=ob Y
  refine Lw.t O (T.mk (α:=Int) 3 [] (n:=w64 ((x1.length:Int)+1)) O O a6) ?_
  rintro ci _ ⟨cj,rfl,Q,ao⟩
  obtain⟨ck,a7,Y⟩:=ob Y
  refine Lw.r O (R.ix (α:=List Int) (N.up Q).rd a7 O O O) ?_
  obtain⟨a8,a9,Y⟩:=ob Y
  refine Lw.u (T.stO (J:=[3]) (N.up Q) ao.s a9 O O (zpP ao.oc)) ?_
  rintro _ _ ⟨ba,rfl,bb,bc⟩
  exact nl (rg (Lw.add O (mi O (nl ((agm) ⟨w64 (A+1),a8,vI A,ba,O,((l9.j Q).j bb).w,O,bc,Y⟩)))))
 ·refine Cw.exit ?_
  rw[a5]at Y
  refine ssr (mv k O (Lw.ln x0 (y.ul P) O (Lw.sub O (Ni O (Cw.block ?_)))))
  obtain⟨be,bg,Y⟩:=za4 Y
  refine Cw.loop 29 87 [7,8] (fun m l w=> ∃ B G ap f,CW.w f=w/\Le [2,4,5] e f/\l=[vI B,ap]/\Ow f 2 [] [a] G/\Vm.zcF x0 x1 be m B G=some r) _ ⟨w64 ((x0.length:Int)-1),F,undef,e,O,Le.refl _ _,O,N,Y⟩ ?_
  rintro(_ |cl) _ _ σ ⟨B,G,ap,f,rfl,aq,rfl,ar,Y⟩
  ·cases Y
  unfold Vm.zcF at Y
  have S:=P.t aq
  refine ssr (mi O (Lw.ge O (nl (cn Y (fun Y=>?_) fun Y=>?_))))
  ·refine sk (Cw.seq (Cw.block (sr (mv x O (Lw.ln x1 (z.ul S) O (Lw.sub O (Ni O (Cw.block ?_))))))))
   obtain⟨bh,bi,Y⟩:=za4 Y
   refine Cw.loop 36 87 [8] (fun m l w=> ∃ C H h,CW.w h=w/\Le [2,4,5] f h/\l=[vI C]/\Ow h 2 [] [a] H/\Vm.zdy x0 x1 B bh m C H=some r) _ ⟨w64 ((x1.length:Int)-1),G,f,O,Le.refl _ _,O,ar,Y⟩ ?_
   rintro(_ |cm) _ _ σ ⟨C,H,h,rfl,U,rfl,V,Y⟩
   ·cases Y
   unfold Vm.zdy at Y
   have bj:=S.t U
   refine ssr (mi O (Lw.ge O (nl (cn Y (fun Y=>?_) fun Y=>?_))))
   ·refine sk ?_
    obtain⟨bk,bl,Y⟩:=za4 Y
    refine Cw.join 40 87 [] (fun l w=> ∃ I D,CW.w D=w/\Le [2,4,5] h D/\l=[]/\Ow D 2 [] [a] I/\bk I=some r) ?_ ?_
    ·rintro _ _ σ ⟨I,D,rfl,bm,rfl,bn,Y⟩
     rw[bl]at Y
     exact rg (mi O (Lw.sub O (Ni O ((agm) ⟨w64 (C-1),I,D,O,(U.j bm).w,O,bn,Y⟩))))
    ·refine Cw.block (Cw.seq (Cw.draw [] [(0,0),(1,0),(2,0),(3,1),(4,0),(5,0),(6,0),(7,1),(8,0)] mixed (by kernel_rfl) fun co E=>?_))
     have i:=bj.n E
     refine Dv k O (Di O ?_)
     obtain⟨cp,W,Y⟩:=ob Y
     refine Mw.p O O (fun _=>R.ix (α:=Str) (y.ul i) W O O O) (Mw.q O O (fun _ c=>R.ld O O (zae ((y.ul i).at_ W).1 O ((y.ul i).at_ W).str c)) (Dv x O (Di O ?_)))
     obtain⟨cq,X,Y⟩:=ob Y
     refine Mw.p O O (fun _=>R.ix (α:=Str) (z.ul i) X O O O) (Mw.q O O (fun _ c=>R.ld O O (zae ((z.ul i).at_ X).1 O ((z.ul i).at_ X).str c)) (Mw.p O O (fun _=>R.seq O O) (Mw.nil (cn Y (fun Y=>?_) fun Y=>?_))))
     ·refine Cw.draw [] [(0,0),(1,0),(2,0),(3,1),(4,0),(5,0),(6,0),(7,0),(8,0),(9,1),(10,0),(11,0),(12,0),(13,1),(14,0),(15,0),(16,3)] mixed (by kernel_rfl) fun cs au=>?_
      have d:=(V.up E).up au
      refine Dv a O (Di O ?_)
      obtain⟨ct,K,Y⟩:=ob Y
      refine Mw.p O O (fun _=>R.ix (α:=List Int) d.rd K O O O) ?_
      obtain⟨cu,c66,r67⟩:=(d.rd.at_ K).cell O
      refine Mw.q O O (fun _ c=>R.ld O O (zae (d.rd.at_ K).1 O c66 c)) (Di O (Dv a O (Di O (Mw.p O O (fun _=>R.add O O) ?_))))
      obtain⟨cv,Z,Y⟩:=ob Y
      refine Mw.p O O (fun _=>R.ix (α:=List Int) d.rd Z O O O) ?_
      obtain⟨cw,c71,r72⟩:=(d.rd.at_ Z).cell O
      refine Mw.q O O (fun _ c=>R.ld O O (zae (d.rd.at_ Z).1 O c71 c)) (Di O (Mw.p O O (fun _=>R.add O O) ?_))
      obtain⟨cx,aa,Y⟩:=ob Y
      refine Mw.p O O (fun _=>R.ix (α:=Int) r72 aa O O O) (Mw.q O O (fun _ c=>R.ld O O (zae (r72.at_ aa).1 O (r72.at_ aa).int c)) (Mw.p O O (fun _=>R.add O O) ?_))
      obtain⟨cy,bp,Y⟩:=ob Y
      refine Mw.p O O (fun _=>R.ix (α:=Int) r67 bp O O O) ?_
      obtain⟨cz,bq,br,bu,gb77⟩:=Ow.lend (α:=List Int) (β:=List Int) (j:=4) (jf:=0) d K (by rw[zfy];exact c66) O
      rw[<- bq]
      obtain⟨c0,bv,Y⟩:=ob Y
      refine Mw.lu O (T.stS (K':=[]) bu (rdI _) bv O O O) ?_
      rintro _ _ ⟨c1,rfl,av,bw⟩
      obtain⟨bz,b0,b1,b2,eq84,b3⟩:=gb77 _ _ av bw
      obtain⟨aw,eqm84,Y⟩:=ob Y
      obtain rfl:aw=b2:=Option.some.inj (eqm84.symm.trans eq84)
      rw[<- b0]
      exact Mw.nil ((ag) ⟨aw,bz,O,((((E.j au).j br).j av).j b1).w,O,b3,Y⟩)
     ·refine Cw.draw [] [(0,0),(1,0),(2,0),(3,1),(4,0),(5,0),(6,0),(7,0),(8,0),(9,1),(10,0),(11,0),(12,1),(13,0),(14,0),(15,0),(16,1),(17,0),(18,0),(19,0),(20,1),(21,0),(22,0),(23,3)] mixed (by kernel_rfl) fun c2 ax=>?_
      have b:=(V.up E).up ax
      refine Dv a O (Di O ?_)
      obtain⟨c3,L,Y⟩:=ob Y
      refine Mw.p O O (fun _=>R.ix (α:=List Int) b.rd L O O O) ?_
      obtain⟨c4,c92,r93⟩:=(b.rd.at_ L).cell O
      refine Mw.q O O (fun _ c=>R.ld O O (zae (b.rd.at_ L).1 O c92 c)) (Di O (Dv a O (Di O (Mw.p O O (fun _=>R.add O O) ?_))))
      obtain⟨c5,ac,Y⟩:=ob Y
      refine Mw.p O O (fun _=>R.ix (α:=List Int) b.rd ac O O O) ?_
      obtain⟨c6,c97,r98⟩:=(b.rd.at_ ac).cell O
      refine Mw.q O O (fun _ c=>R.ld O O (zae (b.rd.at_ ac).1 O c97 c)) (Di O ?_)
      obtain⟨c7,ae,Y⟩:=ob Y
      refine Mw.p O O (fun _=>R.ix (α:=Int) r98 ae O O O) (Mw.q O O (fun _ c=>R.ld O O (zae (r98.at_ ae).1 O (r98.at_ ae).int c)) (Dv a O (Di O ?_)))
      obtain⟨c8,af,Y⟩:=ob Y
      refine Mw.p O O (fun _=>R.ix (α:=List Int) b.rd af O O O) ?_
      obtain⟨c9,c104,r105⟩:=(b.rd.at_ af).cell O
      refine Mw.q O O (fun _ c=>R.ld O O (zae (b.rd.at_ af).1 O c104 c)) (Di O (Mw.p O O (fun _=>R.add O O) ?_))
      obtain⟨da,ah,Y⟩:=ob Y
      refine Mw.p O O (fun _=>R.ix (α:=Int) r105 ah O O O) (Mw.q O O (fun _ c=>R.ld O O (zae (r105.at_ ah).1 O (r105.at_ ah).int c)) (Mw.p O O (fun _=>R.max O O) ?_))
      obtain⟨db,b4,Y⟩:=ob Y
      refine Mw.p O O (fun _=>R.ix (α:=Int) r93 b4 O O O) ?_
      obtain⟨dc,b5,b6,b7,gb110⟩:=Ow.lend (α:=List Int) (β:=List Int) (j:=5) (jf:=0) b L (by rw[zfy];exact c92) O
      rw[<- b5]
      obtain⟨dd,b8,Y⟩:=ob Y
      refine Mw.lu O (T.stS (K':=[]) b7 (rdI _) b8 O O O) ?_
      rintro _ _ ⟨de,rfl,ay,b9⟩
      obtain⟨cb,cc,cd,ce,eq117,cf⟩:=gb110 _ _ ay b9
      obtain⟨az,eqm117,Y⟩:=ob Y
      obtain rfl:az=ce:=Option.some.inj (eqm117.symm.trans eq117)
      rw[<- cc]
      exact Mw.nil ((ag) ⟨az,cb,O,((((E.j ax).j b6).j ay).j cd).w,O,cf,Y⟩)
   ·refine Cw.exit ?_
    rw[bi]at Y
    exact rg (mi O (Lw.sub O (Ni O ((agm) ⟨w64 (B-1),H,vI C,h,O,(aq.j U).w,O,V,Y⟩))))
  ·refine Cw.exit ?_
   rw[bg]at Y
   refine sr (mv a O (Nv a O ?_))
   cases Y
   exact Cw.ret (zgk O (Res.mk S ⟨a,O,ar.s.sub O O⟩))
theorem p157 {x0 b x1 d k0 r}(f:Rd W K [b] x0)(h:Rd W K [d] x1)(Y:Vm.zgU x0 x1=some r):Q1 157 [b,d] W [] fun W' v=> ∃ a,v=a/\Ow W' k0 [] [a] r:=
 (c157 (f.view _) (h.view _) Y).ad (fk k0) fun _ _ ⟨a,e,i⟩=>⟨a,e,i.back (zf7 _)⟩
theorem c118 {x0 x x1 i r}(y:Rd W0 [0] [x] x0)(H:Rd W0 [0] [i] x1)(Y:Vm.zdd x0 x1=some r):Q0 118 [x,i] W0 fun Wf v=> ∃ X,v=X/\OwS Wf LL [] [X] r:=by
 unfold Vm.zdd at Y
 refine zak.of Tryz.func118 O O O O (sr (Nv (.slice none 0 0) O (sr (mv x O (mv i O (cr Y (fun _=>p157 (k0:=2) y H) ?_))))))
 rintro z1 I Z Y l3 ⟨_,rfl,ar⟩
 have a4:=l3.o
 refine Nv I O (sr (Nv (.slice none 0 0) O (ssr (Gi O (Ni O (Cw.block ?_))))))
 obtain⟨av,aw,Y⟩:=za4 Y
 refine Cw.loop 12 70 [6,7,8] (fun m l w=> ∃ A e d f z,CW.w z=w/\Le [3] Z z/\l=[f,vI e,vI d]/\Ow z 3 [] [f] A/\Vm.zcs x0 x1 z1 av m A e d=some r) _ ⟨([]:List Int),0,0, .slice none 0 0,Z,O,Le.refl _ _,O,owN 3 [],Y⟩ ?_
 rintro(_ |bi) _ _ σ ⟨A,e,d,f,z,rfl,l10,rfl,J,Y⟩
 ·cases Y
 unfold Vm.zcs at Y
 have B:=a4.t l10
 refine ssr (mi O (mv x O (Lw.ln x0 (y.ul B) O (Lw.lt O (nl (cn Y (fun Y=>?_) fun Y=>?_))))))
 ·refine sk (Cw.block (Cw.block ?_))
  obtain⟨ax,ay,Y⟩:=za4 Y
  refine Cw.join 18 33 [18] (fun l w=> ∃ K C,CW.w C=w/\Le [] z C/\l=[vB K]/\ax K=some r) ?_ ?_
  ·rintro _ _ σ ⟨K,C,rfl,h,rfl,Y⟩
   rw[ay]at Y
   have az:=B.n h
   refine cn Y (fun Y=>?_) fun Y=>?_
   ·refine sr (mv f O (mi O (Lw.t O (T.bs 4 [vI d] (cs:=[vI d]) O O (bsv O)) ?_)))
    rintro _ _ ⟨bj,bk,rfl,rfl,aa,a0⟩
    obtain⟨a1,a2,Y⟩:=ob Y
    refine Lw.t O (T.app1S (α:=Int) (K':=[]) ((J.up h).up aa) a0 (rdI _) O O a2) ?_
    rintro ac _ ⟨a3,rfl,a5,a6⟩
    exact Nv ac O (sr (mi O (Lw.add O (Ni O (rg (mi O (Lw.add O (Ni O ((agm) ⟨a1,w64 (e+1),w64 (d+1),ac,a3,O,(((l10.j h).j aa).j a5).w,O,a6,Y⟩)))))))))
   ·obtain⟨a7,a8,Y⟩:=za4 Y
    refine Cw.join 42 65 [42] (fun l w=> ∃ L D,CW.w D=w/\Le [] C D/\l=[vB L]/\a7 L=some r) ?_ ?_
    ·rintro _ _ σ ⟨L,D,rfl,M,rfl,Y⟩
     rw[a8]at Y
     have ae:=(J.up h).up M
     refine cn Y (fun Y=>?_) fun Y=>?_
     ·refine sr (mv f O (Lw.t O (T.bs 5 [vI (-1)] (cs:=[vI (-1)]) O O (bsv O)) ?_))
      rintro _ _ ⟨bl,bm,rfl,rfl,af,a9⟩
      obtain⟨ba,bb,Y⟩:=ob Y
      refine Lw.t O (T.app1S (α:=Int) (K':=[]) (ae.up af) a9 (rdI _) O O bb) ?_
      rintro ah _ ⟨bc,rfl,be,bg⟩
      exact Nv ah O (rg (mi O (Lw.add O (Ni O ((agm) ⟨ba,w64 (e+1),d,ah,bc,O,((((l10.j h).j M).j af).j be).w,O,bg,Y⟩)))))
     ·exact rg (mi O (Lw.add O (Ni O ((agm) ⟨A,e,w64 (d+1),f,D,O,((l10.j h).j M).w,O,ae,Y⟩))))
    ·refine Cw.draw [] [(0,0),(1,0),(2,0),(3,0),(4,0),(5,0),(6,0),(7,0),(8,0),(9,1),(10,0),(11,0),(12,1),(13,0),(14,0),(15,0),(16,1),(17,0),(18,0),(19,0),(20,1),(21,0),(22,0),(23,0)] mixed (by kernel_rfl) fun ai E=>?_
     have bh:=az.n E
     have k:=((ar.up l10).up h).up E
     refine Di O (Dv i O (Mw.p O O (fun _=>zpN (xs:=x1) (H.ul bh) O) (Mw.p O O (fun _=>R.eq O O) (Db O (bs Y (fun a Y=>?_) fun a Y=>?_)))))
     ·exact dps 17 a O (Mw.p O O (fun _=>R.pk a O (v:=vB true) O) (Hb O (Mw.nil ((ag) ⟨true,ai,O,E,O,Y⟩))))
     ·refine Wp a O (fun _=>R.mv (v:=I) O) (Wp a O (fun _=>R.mv (v:=vI e) O) (Wp a O (fun _=>R.add O O) ?_))
      obtain⟨bn,N,Y⟩:=ob Y
      refine Wp a O (fun _=>R.ix (α:=List Int) k.rd N O O O) ?_
      obtain⟨bp,c60,r61⟩:=(k.rd.at_ N).cell O
      refine Wq a O (fun _ c=>R.ld O O (zae (k.rd.at_ N).1 O c60 c)) (Wp a O (fun _=>R.mv (v:=vI d) O) ?_)
      obtain⟨aj,P,Y⟩:=ob Y
      refine Wp a O (fun _=>R.ix (α:=Int) r61 P O O O) (Wq a O (fun _ c=>R.ld O O (zae (r61.at_ P).1 O (r61.at_ P).int c)) (Wp a O (fun _=>R.mv (v:=I) O) (Wp a O (fun _=>R.mv (v:=vI e) O) ?_)))
      obtain⟨u64,Q,Y⟩:=ob Y
      refine Wp a O (fun _=>R.ix (α:=List Int) k.rd Q O O O) ?_
      obtain⟨bq,c67,r68⟩:=(k.rd.at_ Q).cell O
      refine Wq a O (fun _ c=>R.ld O O (zae (k.rd.at_ Q).1 O c67 c)) (Wp a O (fun _=>R.mv (v:=vI d) O) (Wp a O (fun _=>R.add O O) ?_))
      obtain⟨ak,S,Y⟩:=ob Y
      exact Wp a O (fun _=>R.ix (α:=Int) r68 S O O O) (Wq a O (fun _ c=>R.ld O O (zae (r68.at_ S).1 O (r68.at_ S).int c)) (Wp a O (fun _=>R.ge O O) (Mw.p O O (fun _=>R.pk a O (v:=vB (decide (ak<=(aj:Int)))) O) (Hb O (Mw.nil ((ag) ⟨decide (ak<=(aj:Int)),ai,O,E,O,Y⟩))))))
  ·refine Cw.draw [] [(0,0),(1,0),(2,0),(3,0),(4,0),(5,0),(6,0),(7,0),(8,1),(9,0),(10,0),(11,0),(12,1),(13,0),(14,0),(15,0)] mixed (by kernel_rfl) fun am U=>?_
   have F:=B.n U
   have G:=H.ul F
   refine Di O (Dv i O (Mw.p O O (fun _=>zpN (xs:=x1) G O) (Mw.p O O (fun _=>R.lt O O) (Db O (bs Y (fun b Y=>?_) fun b Y=>?_)))))
   ·refine Wp b O (fun _=>R.mv (v:=x) O) (Wp b O (fun _=>R.mv (v:=vI e) O) ?_)
    obtain⟨an,V,Y⟩:=ob Y
    refine Wp b O (fun _=>R.ix (α:=Str) (y.ul F) V O O O) (Wq b O (fun _ c=>R.ld O O (zae ((y.ul F).at_ V).1 O ((y.ul F).at_ V).str c)) (Wp b O (fun _=>R.mv (v:=i) O) (Wp b O (fun _=>R.mv (v:=vI d) O) ?_)))
    obtain⟨ao,W,Y⟩:=ob Y
    exact Wp b O (fun _=>R.ix (α:=Str) G W O O O) (Wq b O (fun _ c=>R.ld O O (zae (G.at_ W).1 O (G.at_ W).str c)) (Wp b O (fun _=>R.seq O O) (Mw.p O O (fun _=>R.pk b O (v:=vB (an==ao)) O) (Hb O (Mw.nil ((ag) ⟨(an==ao),am,O,U,O,Y⟩))))))
   ·exact dps 9 b O (Mw.p O O (fun _=>R.pk b O (v:=vB false) O) (Hb O (Mw.nil ((ag) ⟨false,am,O,U,O,Y⟩))))
 ·refine Cw.exit ?_
  rw[aw]at Y
  refine sr (mv f O (Nv f O ?_))
  cases Y
  exact Cw.ret (zgk O (Res.mk B ⟨f,O,J.s.sub O O⟩))
theorem p118 {x0 b x1 d k0 r}(f:Rd W K [b] x0)(h:Rd W K [d] x1)(Y:Vm.zdd x0 x1=some r):Q1 118 [b,d] W [] fun W' v=> ∃ a,v=a/\Ow W' k0 [] [a] r:=
 (c118 (f.view _) (h.view _) Y).ad (fk k0) fun _ _ ⟨a,e,i⟩=>⟨a,e,i.back (zf7 _)⟩
theorem c61 (m:Nat): ∀ {W0:CW} {x0:Vm.Repo} {b:Value} {d:Value} {x1:Int} {x2:Str} {r:(List Int)×Bool} (i:Rd W0 [0] [b,d] x0) (Y:Vm.impl_Repo_blame_r m x0 x1 x2=some r),zak Tryz.prog 61 [.agg [b,d].toArray,vI x1,vS x2].toArray W0.w (Res W0 LL fun Wf v=> ∃ (f:Value),v = .tuple [f,vB r.2].toArray/\OwS Wf LL [] [f] r.1):=by
 induction m with
 |zero=>intro W0 x0 b d x1 x2 r i Y;exact absurd Y (by unfold Vm.impl_Repo_blame_r;exact nofun)
 |succ m ih=>
  have p61: ∀ {W:CW} {K:List Nat} {x0:Vm.Repo} {b:Value} {d:Value} {x1:Int} {x2:Str} {k0:Nat} {r:(List Int)×Bool} (i:Rd W K [b,d] x0) (Y:Vm.impl_Repo_blame_r m x0 x1 x2=some r),zak Tryz.prog 61 [.agg [b,d].toArray,vI x1,vS x2].toArray W.w (Res W [] fun W' v=> ∃ (f:Value),v = .tuple [f,vB r.2].toArray/\Ow W' k0 [] [f] r.1):=fun {W} {K} {x0} {b} {d} {x1} {x2} {k0} {r} i Y=>(ih (W0:=W.view K []) (i.view _) Y).ad (fk k0) fun _ _ ⟨f,e,f0⟩=>⟨f,e,f0.back (zf7 _)⟩
  intro W0 x0 b d x1 x2 r i Y
  unfold Vm.impl_Repo_blame_r at Y
  obtain⟨cj,ck,ap,G,H⟩:=Repo.split i
  simp only[List.cons.injEq,and_true,true_and]at ap
  obtain⟨rfl,rfl⟩:=ap
  refine zak.of Tryz.func61 O O O O (sr (bo 2 O fun g1 W1 l1 b1=>?_))
  have a2:=l1.o
  refine Gv (.slice none 0 0) O (Nb O (sr (la b1 (mi O (cr Y (fun _=>p71 (Repo.rd (K:=[0]) x0.Commits x0.Heads (G.ul a2) (H.ul a2))) ?_)))))
  rintro z5 cp W7 Y l7 ⟨_,rfl,be⟩
  have s8:=be.sub (M:=[0]) O
  have a9:=a2.n l7
  refine ms O (cr Y (fun _=>p116 (k0:=3) s8) ?_)
  rintro k _ cs Y au ⟨h,rfl,av⟩
  have aw:=a9.n au
  refine mv (.tuple [h,vB k.2].toArray) O (Lw.r O (R.ext (vs:=[h,vB k.2]) (v:=h) O O) (Lw.r O (R.ext (vs:=[h,vB k.2]) (v:=vB k.2) O O) (Gv h O (Nb O (ssr (mb O (Lw.r O (R.not O) (nl (cn Y (fun Y=>?_) fun Y=>?_)))))))))
  ·refine sr (Gv (.slice none 0 0) O (Nb O ?_))
   cases Y
   exact Cw.ret (zlu O O (Res.mk aw ⟨.slice none 0 0,O,(zpO []).sub O O⟩))
  ·refine sk (sr (mv h O (Lw.ln k.1 av.rd O ?_)))
   obtain⟨af,bi,Y⟩:=ob Y
   refine Lw.t O (T.mk (α:=Int) 4 [] (n:=(k.1.length:Int)) O O bi) ?_
   rintro a _ ⟨ax,rfl,ah,ay⟩
   have bj:=aw.n ah
   refine Nv a O (ssr (mv a O (Lw.ln af ay.rd O (mi O (nl (Cw.block ?_))))))
   obtain⟨bk,bl,Y⟩:=za4 Y
   refine Cw.loop 34 41 [11,34] (fun m l w=> ∃ C I az J,CW.w J=w/\Le [4] ax J/\l=[az,vI C]/\Ow J 4 [] [a] I/\Vm.za1 x1 af bk m C I=some r) _ ⟨0,af,undef,ax,O,Le.refl _ _,O,ay,Y⟩ ?_
   rintro(_ |ct) _ _ σ ⟨C,I,az,J,rfl,L,rfl,N,Y⟩
   ·cases Y
   unfold Vm.za1 at Y
   have ai:=bj.t L
   have aj:=(((b1.up l7).up au).up ah).up L
   refine sr (Lw.lt O (nl (Cw.seq (cn Y (fun Y=>?_) fun Y=>?_))))
   ·refine sk (Cw.seq (Cw.block (sr (mi O (Ni O (rg (mv a O (mi O (mi O ?_)))))))))
    obtain⟨cu,bm,Y⟩:=ob Y
    refine Lw.r O (R.ix (α:=Int) N.rd bm O O O) ?_
    obtain⟨bn,bp,Y⟩:=ob Y
    refine Lw.u (T.stS (K':=[]) N (rdI _) bp O O O) ?_
    rintro _ _ ⟨bq,rfl,br,bu⟩
    exact nl (rg (Lw.add O (mi O (nl ((agm) ⟨w64 (C+1),bn,vI C,bq,O,(L.j br).w,O,bu,Y⟩)))))
   ·refine Cw.exit ?_
    rw[bl]at Y
    refine sr (la aj (mi O (ca Y (fun _=>p117 (Repo.rd (K:=[0]) x0.Commits x0.Heads (G.ul ai) (H.ul ai))) fun cv cw Y x=>?_)))
    have P:=ai.n x
    refine Ni O (ssr (mi O (Lw.lt O (nl (cn Y (fun Y=>?_) fun Y=>?_)))))
    ·refine sr (mv a O (Gv a O (Nb O ?_)))
     cases Y
     exact Cw.ret (zlu O O (Res.mk P ⟨a,O,(N.up x).s.sub O O⟩))
    ·refine sk (sr (la (aj.up x) (mi O (ms O (cr Y (fun _=>p61 (k0:=5) (Repo.rd (K:=[0]) x0.Commits x0.Heads (G.ul P) (H.ul P))) ?_)))))
     rintro D _ cx Y Q ⟨y,rfl,bv⟩
     have S:=P.n Q
     have a0:=(N.up x).up Q
     refine mv (.tuple [y,vB D.2].toArray) O (Lw.r O (R.ext (vs:=[y,vB D.2]) (v:=y) O O) (Lw.r O (R.ext (vs:=[y,vB D.2]) (v:=vB D.2) O O) (Gv y O (Nb O (ssr (mb O (Lw.r O (R.not O) (nl (cn Y (fun Y=>?_) fun Y=>?_)))))))))
     ·refine sr (mv a O (Gv a O (Nb O ?_)))
      cases Y
      exact Cw.ret (zlu O O (Res.mk S ⟨a,O,a0.s.sub O O⟩))
     ·refine sk (sr (la ((aj.up x).up Q) (mi O (cr Y (fun _=>p71 (Repo.rd (K:=[0]) x0.Commits x0.Heads (G.ul S) (H.ul S))) ?_))))
      rintro cy cz c0 Y U ⟨_,rfl,bw⟩
      have bz:=bw.sub (M:=[0]) O
      have b0:=S.n U
      refine ms O (cr Y (fun _=>p116 (k0:=6) bz) ?_)
      rintro V _ c1 Y X ⟨z,rfl,b2⟩
      have b3:=b0.n X
      refine mv (.tuple [z,vB V.2].toArray) O (Lw.r O (R.ext (vs:=[z,vB V.2]) (v:=z) O O) (Lw.r O (R.ext (vs:=[z,vB V.2]) (v:=vB V.2) O O) (Gv z O (Nb O (ssr (mv z O (mv h O (cr Y (fun _=>p118 (K:=[3,6]) (k0:=7) (b2.rd.sub (M:=[3,6]) O) (((((((av.up ah).up L).up x).up Q).up U).up X).rd.sub (M:=[3,6]) O)) ?_))))))))
      rintro a1 c2 a3 Y ak ⟨_,rfl,am⟩
      have b4:=b3.n ak
      refine Lw.ln a1 am.rd O (mi O (nl (Cw.block ?_)))
      obtain⟨b5,b6,Y⟩:=za4 Y
      refine Cw.loop 70 84 [17,18,70] (fun m l w=> ∃ A Z a4 a5 B,CW.w B=w/\Le [4] a3 B/\l=[a4,a5,vI A]/\Ow B 4 [] [a] Z/\Vm.zas D a1 b5 m A Z=some r) _ ⟨0,I,undef,undef,a3,O,Le.refl _ _,O,(((a0.up U).up X).up ak),Y⟩ ?_
      rintro(_ |c3) _ _ σ ⟨A,Z,a4,a5,B,rfl,E,rfl,aa,Y⟩
      ·cases Y
      unfold Vm.zas at Y
      have b7:=b4.t E
      have a6:=(((bv.up U).up X).up ak).up E
      refine sr (Lw.lt O (nl (Cw.seq (cn Y (fun Y=>?_) fun Y=>?_))))
      ·refine sk ?_
       obtain⟨b8,b9,Y⟩:=za4 Y
       refine Cw.join 72 83 [17,18] (fun l w=> ∃ ac an ao F,CW.w F=w/\Le [4] B F/\l=[an,ao]/\Ow F 4 [] [a] ac/\b8 ac=some r) ?_ ?_
       ·rintro _ _ σ ⟨ac,an,ao,F,rfl,cb,rfl,cc,Y⟩
        rw[b9]at Y
        exact rg (Lw.add O (mi O (nl ((agm) ⟨w64 (A+1),ac,an,ao,F,O,(E.j cb).w,O,cc,Y⟩))))
       ·refine Cw.block (sr (mi O ?_))
        obtain⟨a7,a8,Y⟩:=ob Y
        refine Lw.r O (R.ix (α:=Int) (am.up E).rd a8 O O O) (Lw.r O (R.ld O O ((am.up E).rd.at_ a8).int) (Gi O (Ni O (sr (mi O (Lw.ge O (nl (cn Y (fun Y=>?_) fun Y=>?_))))))))
        ·refine rg (mv a O (mi O (mv y O (mi O ?_))))
         obtain⟨c4,ba,Y⟩:=ob Y
         refine Lw.r O (R.ix (α:=Int) a6.rd ba O O O) (Lw.r O (R.ld O O (a6.rd.at_ ba).int) ?_)
         obtain⟨c5,cd,Y⟩:=ob Y
         refine Lw.r O (R.ix (α:=Int) aa.rd cd O O O) ?_
         obtain⟨ce,cf,Y⟩:=ob Y
         refine Lw.u (T.stS (K':=[]) aa (rdI _) cf O O O) ?_
         rintro _ _ ⟨cg,rfl,ch,ci⟩
         exact nl ((ag) ⟨ce,vI A,vI a7,cg,O,ch,O,ci,Y⟩)
        ·exact sk ((ag) ⟨Z,vI A,vI a7,B,O,Le.refl _ _,O,aa,Y⟩)
      ·refine Cw.exit ?_
       rw[b6]at Y
       refine sr (mv a O (Gv a O (Nb O ?_)))
       cases Y
       exact Cw.ret (zlu O O (Res.mk b7 ⟨a,O,aa.s.sub O O⟩))
theorem p61 {x0 b d x1 x2 k0 r}(f:Rd W K [b,d] x0)(Y:Vm.zfz x0 x1 x2=some r):Q1 61 [.agg [b,d].toArray,vI x1,vS x2] W [] fun W' v=> ∃ a,v = .tuple [a,vB r.2].toArray/\Ow W' k0 [] [a] r.1:=
 (c61 (x1.toNat+2) (W0:=W.view K []) (f.view _) Y).ad (fk k0) fun _ _ ⟨a,e,h⟩=>⟨a,e,h.back (zf7 _)⟩
theorem c25 {x0 f h x1 x2 r}(C:Rd W0 [0] [f,h] x0)(D:Gl 0 W0 [0])(Y:Vm.zdo x0 x1 x2=some r):Q0 25 [.agg [f,h].toArray,vI x1,vS x2] W0 fun Wf v=> ∃ i,v=i/\OwS Wf LL [] [i] r:=by
 unfold Vm.zdo at Y
 obtain⟨N,P,k,x,y⟩:=Repo.split C
 simp only[List.cons.injEq,and_true,true_and]at k
 obtain⟨rfl,rfl⟩:=k
 refine zak.of Tryz.func25 O O O O (sr (bo 2 O fun Q E F z=>?_))
 have G:=F.o
 refine Nv (.slice none 0 0) O (ssr (la z (mi O (Lw.t O (T.bsS (α:=Int) (xs:=[x1]) 3 [] (W:=E) [vI x1] (Each.cons ((rdI _)) Each.nil) O) ?_))))
 rintro S _ ⟨U,rfl,A,H⟩
 have b:=G.n A
 refine ca Y (fun _=>p60 (K:=[0,3]) ((Repo.rd (K:=[0]) x0.Commits x0.Heads (x.ul b) (y.ul b)).sub (M:=[0,3]) O) (H.rd.sub (M:=[0,3]) O) ((D.ul b).sub (M:=[0,3]) O)) fun V X Y B=>?_
 have d:=b.n B
 refine Lw.r O (R.not O) (nl (cn Y (fun Y=>?_) fun Y=>?_))
 ·refine sr (Nv (.slice none 0 0) O ?_)
  cases Y
  exact Cw.ret (zgk O (Res.mk d ⟨.slice none 0 0,O,(zpO []).sub O O⟩))
 ·refine sk (sr (la ((z.up A).up B) (mi O (ms O (cr Y (fun _=>p61 (k0:=4) (Repo.rd (K:=[0]) x0.Commits x0.Heads (x.ul d) (y.ul d))) ?_)))))
  rintro e _ Z Y I ⟨a,rfl,J⟩
  have L:=d.n I
  refine mv (.tuple [a,vB e.2].toArray) O (Lw.r O (R.ext (vs:=[a,vB e.2]) (v:=a) O O) (Lw.r O (R.ext (vs:=[a,vB e.2]) (v:=vB e.2) O O) (Gv a O (Nb O (sr (mv a O (Nv a O ?_)))))))
  cases Y
  exact Cw.ret (zgk O (Res.mk L ⟨a,O,J.s.sub O O⟩))
theorem p25 {x0 b d x1 x2 k0 r}(f:Rd W K [b,d] x0)(h:Gl 0 W K)(Y:Vm.zdo x0 x1 x2=some r):Q1 25 [.agg [b,d].toArray,vI x1,vS x2] W [] fun W' v=> ∃ a,v=a/\Ow W' k0 [] [a] r:=
 (c25 (f.view _) (h.view _) Y).ad (fk k0) fun _ _ ⟨a,e,i⟩=>⟨a,e,i.back (zf7 _)⟩
theorem c22 {x0 L M x1 x2 r}(h0:Rd W0 [0] [L,M] x0)(am:Gl 0 W0 [0])(Y:Vm.zdp x0 x1 x2=some r):Q0 22 [.agg [L,M].toArray,vI x1,vS x2] W0 fun Wf v=> ∃ N,v=N/\OwS Wf LL [] [N] r:=by
 unfold Vm.zdp at Y
 obtain⟨bk,bl,P,C,an⟩:=Repo.split h0
 simp only[List.cons.injEq,and_true,true_and]at P
 obtain⟨rfl,rfl⟩:=P
 refine zak.of Tryz.func22 O O O O (sr (bo 2 O fun g1 W1 l1 Q=>?_))
 have a2:=l1.o
 refine Nv (.slice none 0 0) O (sr (Lw.t O (T.mkMap 3 O) ?_))
 rintro d _ ⟨W3,rfl,D,o3⟩
 have k:=a2.n D
 refine Nv d O (ssr (la (Q.up D) (mi O (ms O (cr Y (fun _=>p25 (k0:=4) (Repo.rd (K:=[0]) x0.Commits x0.Heads (C.ul k) (an.ul k)) (am.ul k)) ?_)))))
 rintro S bq U Y E ⟨_,rfl,F⟩
 have ar:=k.n E
 refine Lw.ln S F.rd O (mi O (nl (Cw.block ?_)))
 obtain⟨au,av,Y⟩:=za4 Y
 refine Cw.loop 19 32 [9,19] (fun m l w=> ∃ x y V z,CW.w z=w/\Le [3] U z/\l=[V,vI x]/\Ow (α:=Mp) z 3 [] [d] y/\Vm.zaW x0 S au m x y=some r) _ ⟨0,([]:List (Str×Int)),undef,U,O,Le.refl _ _,O,(o3.up E),Y⟩ ?_
 rintro(_ |br) _ _ σ ⟨x,y,V,z,rfl,e,rfl,f,Y⟩
 ·cases Y
 unfold Vm.zaW at Y
 have G:=ar.t e
 refine sr (Lw.lt O (nl (Cw.seq (cn Y (fun Y=>?_) fun Y=>?_))))
 ·refine sk (Cw.seq (Cw.block (sr ?_)))
  obtain⟨aw,W,Y⟩:=ob Y
  refine Lw.r O (R.ix (α:=Int) (F.up e).rd W O O O) (Lw.r O (R.ld O O ((F.up e).rd.at_ W).int) (Ni O (rg (mv d O (fl (((Q.up D).up E).up e) O (mi O ?_))))))
  obtain⟨bu,X,Y⟩:=ob Y
  refine Lw.r O (R.ix (α:=Commit) (C.ul G) X O O O) (Lw.fa O (Lw.r O (R.ld O O (Commit.at1 ((C.ul G).at_ X)).str) ?_))
  obtain⟨bv,ax,Y⟩:=ob Y
  refine Lw.r O (R.lookM f ax O O) (Lw.add O ?_)
  obtain⟨ay,az,Y⟩:=ob Y
  refine Lw.u (T.putM f az O O O) ?_
  rintro _ _ ⟨a0,rfl,a1,a3⟩
  exact nl (rg (Lw.add O (mi O (nl ((agm) ⟨w64 (x+1),ay,vI aw,a0,O,(e.j a1).w,O,a3,Y⟩)))))
 ·refine Cw.exit ?_
  rw[av]at Y
  refine sr (Nv (.slice none 0 0) O (ssr (mv d O (Lw.t O (T.call O (p58 (K:=[]) (k0:=5) f)) ?_))))
  rintro _ _ ⟨bw,rfl,H,⟨bz,rfl,a5⟩⟩
  have a6:=G.n H
  refine cr Y (fun _=>p57 (K:=[]) (k0:=6) a5 (f.up H)) ?_
  rintro Z b0 aa Y ac ⟨_,rfl,I⟩
  have a7:=a6.n ac
  refine Lw.ln Z I.rd O (mi O (nl (Cw.block ?_)))
  obtain⟨a8,a9,Y⟩:=za4 Y
  refine Cw.loop 37 49 [10,12,37] (fun m l w=> ∃ J A a ae B,CW.w B=w/\Le [7] aa B/\l=[a,ae,vI A]/\Ow B 7 [] [a] J/\Vm.zaV y Z a8 m J A=some r) _ ⟨([]:List Share),0, .slice none 0 0,undef,aa,O,Le.refl _ _,O,owN 7 [],Y⟩ ?_
  rintro(_ |b2) _ _ σ ⟨J,A,a,ae,B,rfl,h,rfl,af,Y⟩
  ·cases Y
  unfold Vm.zaV at Y
  have ba:=a7.t h
  refine sr (Lw.lt O (nl (Cw.seq (cn Y (fun Y=>?_) fun Y=>?_))))
  ·refine sk (Cw.seq (Cw.block (sr ?_)))
   obtain⟨b,ah,Y⟩:=ob Y
   refine Lw.r O (R.ix (α:=Str) (I.up h).rd ah O O O) (Lw.r O (R.ld O O ((I.up h).rd.at_ ah).str) (Ns O (rg (mv a O (ms O (mv d O (ms O ?_)))))))
   obtain⟨i,bb,Y⟩:=ob Y
   refine Lw.r O (R.lookM (((f.up H).up ac).up h) bb O O) (Lw.r O (R.bd (zs:=[vS ([]:Str),vI 0]) (cs:=[vS b,vI i]) [(0,vS b),(1,vI i)] O O O (zaA O O (zaA O O zcZ))) (Lw.t O (T.bs 8 [.agg [vS b,vI i].toArray] (cs:=[vS b,vI i]) O O (bsA O)) ?_))
   rintro _ _ ⟨b3,b4,rfl,rfl,ai,bc⟩
   obtain⟨be,bg,Y⟩:=ob Y
   refine Lw.t O (T.app1S (α:=Share) (K':=[]) (af.up ai) bc (Share.rd (K:=[]) b i) O O bg) ?_
   rintro aj _ ⟨bh,rfl,bi,bj⟩
   exact Nv aj O (rg (Lw.add O (mi O (nl ((agm) ⟨be,w64 (A+1),aj,vS b,bh,O,((h.j ai).j bi).w,O,bj,Y⟩)))))
  ·refine Cw.exit ?_
   rw[a9]at Y
   refine sr (mv a O (Nv a O ?_))
   cases Y
   exact Cw.ret (zgk O (Res.mk ba ⟨a,O,af.s.sub O O⟩))
theorem p22 {x0 b d x1 x2 k0 r}(f:Rd W K [b,d] x0)(h:Gl 0 W K)(Y:Vm.zdp x0 x1 x2=some r):Q1 22 [.agg [b,d].toArray,vI x1,vS x2] W [] fun W' v=> ∃ a,v=a/\Ow W' k0 [] [a] r:=
 (c22 (f.view _) (h.view _) Y).ad (fk k0) fun _ _ ⟨a,e,i⟩=>⟨a,e,i.back (zf7 _)⟩
theorem c115 (m:Nat): ∀ {W0:CW} {x0:Vm.Repo} {d:Value} {f:Value} {x1:Int} {x2:Str} {r:(List Int)} (z:Rd W0 [0] [d,f] x0) (Y:Vm.spec_l11Of_r m x0 x1 x2=some r),zak Tryz.prog 115 [.agg [d,f].toArray,vI x1,vS x2].toArray W0.w (Res W0 LL fun Wf v=> ∃ (i:Value),v=i/\OwS Wf LL [] [i] r):=by
 induction m with
 |zero=>intro W0 x0 d f x1 x2 r z Y;exact absurd Y (by unfold Vm.spec_l11Of_r;exact nofun)
 |succ m ih=>
  have p115: ∀ {W:CW} {K:List Nat} {x0:Vm.Repo} {d:Value} {f:Value} {x1:Int} {x2:Str} {k0:Nat} {r:(List Int)} (z:Rd W K [d,f] x0) (Y:Vm.spec_l11Of_r m x0 x1 x2=some r),zak Tryz.prog 115 [.agg [d,f].toArray,vI x1,vS x2].toArray W.w (Res W [] fun W' v=> ∃ (i:Value),v=i/\Ow W' k0 [] [i] r):=fun {W} {K} {x0} {d} {f} {x1} {x2} {k0} {r} z Y=>(ih (W0:=W.view K []) (z.view _) Y).ad (fk k0) fun _ _ ⟨i,e,f0⟩=>⟨i,e,f0.back (zf7 _)⟩
  intro W0 x0 d f x1 x2 r z Y
  unfold Vm.spec_l11Of_r at Y
  obtain⟨cf,cg,ao,I,bb⟩:=Repo.split z
  simp only[List.cons.injEq,and_true,true_and]at ao
  obtain⟨rfl,rfl⟩:=ao
  refine zak.of Tryz.func115 O O O O (sr (bo 2 O fun g1 W1 l1 b1=>?_))
  have a2:=l1.o
  refine Nv (.slice none 0 0) O (sr (fl b1 O (mi O ?_)))
  obtain⟨u3,e4,Y⟩:=ob Y
  refine Lw.r O (R.ix (α:=Commit) (I.ul a2) e4 O O O) (Lw.fa O ?_)
  obtain⟨v6,c7,r8⟩:=(Commit.at2 ((I.ul a2).at_ e4)).cell O
  refine Lw.r O (R.ld O O c7) (ms O (cr Y (fun _=>p155 r8) ?_))
  rintro A _ cl Y ar ⟨k,rfl,be⟩
  have au:=be.sub (M:=[0]) O
  have x:=a2.n ar
  refine mv (.tuple [k,vB A.2].toArray) O (Lw.r O (R.ext (vs:=[k,vB A.2]) (v:=k) O O) (Lw.r O (R.ext (vs:=[k,vB A.2]) (v:=vB A.2) O O) (Gv k O (Nb O (sr (Lw.t O (T.lit0 (α:=Int) 3 []) ?_))))))
  rintro F _ ⟨av,rfl,aw,ax⟩
  have b:=aw.o
  refine Nv F O (ssr (mb O (Lw.r O (R.not O) (nl (cn Y (fun Y=>?_) fun Y=>?_)))))
  ·refine sr (mv F O (Nv F O ?_))
   cases Y
   exact Cw.ret (zgk O (Res.mk (x.trans b) ⟨F,O,ax.s.sub O O⟩))
  ·refine sk (ssr (Ni O (Cw.block ?_)))
   obtain⟨bg,bh,Y⟩:=za4 Y
   refine Cw.loop 32 41 [9,10] (fun m l w=> ∃ J L a N,CW.w N=w/\Le [3] av N/\l=[a,vI L]/\Ow N 3 [] [a] J/\Vm.zct x1 A bg m J L=some r) _ ⟨([]:List Int),0,F,av,O,Le.refl _ _,O,ax,Y⟩ ?_
   rintro(_ |cm) _ _ σ ⟨J,L,a,N,rfl,ah,rfl,P,Y⟩
   ·cases Y
   unfold Vm.zct at Y
   have h:=ah.s
   have Q:=((b1.up ar).up aw).up ah
   refine ssr (mi O (mv k O (Lw.ln A.1 (au.ul (b.trans h)) O (Lw.lt O (nl (cn Y (fun Y=>?_) fun Y=>?_))))))
   ·refine sk (Cw.seq (Cw.block (rg (mv a O (mi O (Lw.t O (T.bs 4 [vI x1] (cs:=[vI x1]) O O (bsv O)) ?_))))))
    rintro _ _ ⟨co,cp,rfl,rfl,ay,bi⟩
    obtain⟨bj,bk,Y⟩:=ob Y
    refine Lw.t O (T.app1S (α:=Int) (K':=[]) (P.up ay) bi (rdI _) O O bk) ?_
    rintro az _ ⟨bl,rfl,bm,bn⟩
    exact Nv az O (rg (mi O (Lw.add O (Ni O ((agm) ⟨bj,w64 (L+1),az,bl,O,((ah.j ay).j bm).w,O,bn,Y⟩)))))
   ·refine Cw.exit ?_
    rw[bh]at Y
    refine ssr (fl Q O (mi O ?_))
    obtain⟨bp,a0,Y⟩:=ob Y
    have B:=I.ul ((x.trans b).trans h)
    refine Lw.r O (R.ix (α:=Commit) B a0 O O O) (Lw.fa O ?_)
    obtain⟨cq,c44,r45⟩:=(Commit.at0 (B.at_ a0)).cell O
    refine Lw.r O (R.ld O O c44) (Lw.ln bp.Parents r45 O (Lw.eq O (nl (cn Y (fun Y=>?_) fun Y=>?_))))
    ·refine sr (mv a O (Nv a O ?_))
     cases Y
     exact Cw.ret (zgk O (Res.mk ((x.trans b).trans h) ⟨a,O,P.s.sub O O⟩))
    ·refine sk (sr (fl Q O (mi O ?_)))
     obtain⟨ct,a1,Y⟩:=ob Y
     refine Lw.r O (R.ix (α:=Commit) B a1 O O O) (Lw.fa O ?_)
     obtain⟨cu,c50,r51⟩:=(Commit.at0 (B.at_ a1)).cell O
     refine Lw.r O (R.ld O O c50) ?_
     obtain⟨cv,a3,Y⟩:=ob Y
     refine Lw.r O (R.ix (α:=Int) r51 a3 O O O) (Lw.r O (R.ld O O (r51.at_ a3).int) (Ni O (sr (fl Q O (mi O ?_)))))
     obtain⟨cw,a4,Y⟩:=ob Y
     refine Lw.r O (R.ix (α:=Commit) B a4 O O O) (Lw.fa O ?_)
     obtain⟨cx,c57,r58⟩:=(Commit.at2 (B.at_ a4)).cell O
     refine Lw.r O (R.ld O O c57) (ms O (cr Y (fun _=>p155 r58) ?_))
     rintro S _ cy Y U ⟨C,rfl,bq⟩
     have br:=bq.sub (M:=[0]) O
     have G:=U.o
     refine mv (.tuple [C,vB S.2].toArray) O (Lw.r O (R.ext (vs:=[C,vB S.2]) (v:=C) O O) (Lw.r O (R.ext (vs:=[C,vB S.2]) (v:=vB S.2) O O) (Gv C O (Nb O (ssr (mb O (Lw.r O (R.not O) (nl (cn Y (fun Y=>?_) fun Y=>?_)))))))))
     ·refine sr (mv a O (Nv a O ?_))
      cases Y
      exact Cw.ret (zgk O (Res.mk (((x.trans b).trans h).trans G) ⟨a,O,(P.up U).s.sub O O⟩))
     ·refine sk (sr (la (Q.up U) (mi O (ms O (cr Y (fun _=>p115 (k0:=5) (Repo.rd (K:=[0]) x0.Commits x0.Heads (I.ul (((x.trans b).trans h).trans G)) (bb.ul (((x.trans b).trans h).trans G)))) ?_)))))
      rintro bu a5 cz Y a6 ⟨_,rfl,bv⟩
      have ai:=a6.o
      refine Nv a5 O (sr (mv C O (mv k O (cr Y (fun _=>p156 (k0:=6) (br.ul ai) (au.ul (((b.trans h).trans G).trans ai))) ?_))))
      rintro a7 V a8 Y aj ⟨_,rfl,bw⟩
      have bz:=((((x.trans b).trans h).trans G).trans ai).n aj
      refine Nv V O (ssr (Ni O (Cw.block ?_)))
      obtain⟨b0,b2,Y⟩:=za4 Y
      refine Cw.loop 80 100 [16] (fun m l w=> ∃ X Z D,CW.w D=w/\Le [3] a8 D/\l=[vI X]/\Ow D 3 [] [a] Z/\Vm.zba bu a7 b0 m X Z=some r) _ ⟨0,J,a8,O,Le.refl _ _,O,(((P.up U).up a6).up aj),Y⟩ ?_
      rintro(_ |c0) _ _ σ ⟨X,Z,D,rfl,aa,rfl,ac,Y⟩
      ·cases Y
      unfold Vm.zba at Y
      have b3:=bz.t aa
      have E:=bw.up aa
      refine ssr (mi O (mv V O (Lw.ln a7 E.rd O (Lw.lt O (nl (cn Y (fun Y=>?_) fun Y=>?_))))))
      ·refine sk ?_
       obtain⟨b4,b5,Y⟩:=za4 Y
       refine Cw.join 86 100 [] (fun l w=> ∃ ae H,CW.w H=w/\Le [3] D H/\l=[]/\Ow H 3 [] [a] ae/\b4 ae=some r) ?_ ?_
       ·rintro _ _ σ ⟨ae,H,rfl,b6,rfl,b7,Y⟩
        rw[b5]at Y
        exact rg (mi O (Lw.add O (Ni O ((agm) ⟨w64 (X+1),ae,H,O,(aa.j b6).w,O,b7,Y⟩))))
       ·refine Cw.block (sr (mv V O (mi O ?_)))
        obtain⟨c1,a9,Y⟩:=ob Y
        refine Lw.r O (R.ix (α:=Int) E.rd a9 O O O) (Lw.r O (R.ld O O (E.rd.at_ a9).int) (Lw.ge O (nl (cn Y (fun Y=>?_) fun Y=>?_))))
        ·refine Cw.draw [] [(0,0),(1,0),(2,0),(3,0),(4,1),(5,0),(6,0),(7,0),(8,1),(9,0),(10,3)] mixed (by kernel_rfl) fun c2 y=>?_
         have ak:=((bv.up aj).up aa).up y
         refine Dv a O (Dv V O (Di O ?_))
         obtain⟨c3,am,Y⟩:=ob Y
         refine Mw.p O O (fun _=>R.ix (α:=Int) (E.up y).rd am O O O) (Mw.q O O (fun _ c=>R.ld O O (zae ((E.up y).rd.at_ am).1 O ((E.up y).rd.at_ am).int c)) (Dv a5 O (Di O ?_)))
         obtain⟨c4,an,Y⟩:=ob Y
         refine Mw.p O O (fun _=>R.ix (α:=Int) ak.rd an O O O) (Mw.q O O (fun _ c=>R.ld O O (zae (ak.rd.at_ an).1 O (ak.rd.at_ an).int c)) ?_)
         obtain⟨c5,b8,Y⟩:=ob Y
         refine Mw.p O O (fun _=>R.ix (α:=Int) (ac.up y).rd b8 O O O) ?_
         obtain⟨b9,cb,Y⟩:=ob Y
         refine Mw.lu O (T.stS (K':=[]) (ac.up y) (rdI _) cb O O O) ?_
         rintro _ _ ⟨cc,rfl,cd,ce⟩
         exact Mw.nil ((ag) ⟨b9,cc,O,(y.j cd).w,O,ce,Y⟩)
        ·exact sk ((ag) ⟨Z,D,O,Le.refl _ _,O,ac,Y⟩)
      ·refine Cw.exit ?_
       rw[b2]at Y
       refine sr (mv a O (Nv a O ?_))
       cases Y
       exact Cw.ret (zgk O (Res.mk b3 ⟨a,O,ac.s.sub O O⟩))
theorem p115 {x0 b d x1 x2 k0 r}(f:Rd W K [b,d] x0)(Y:Vm.zgl x0 x1 x2=some r):Q1 115 [.agg [b,d].toArray,vI x1,vS x2] W [] fun W' v=> ∃ a,v=a/\Ow W' k0 [] [a] r:=
 (c115 (x1.toNat+2) (W0:=W.view K []) (f.view _) Y).ad (fk k0) fun _ _ ⟨a,e,h⟩=>⟨a,e,h.back (zf7 _)⟩
theorem c59 {x0 x y x1 x2 r}(E:Rd W0 [0] [x,y] x0)(Y:Vm.zd1 x0 x1 x2=some r):Q0 59 [.agg [x,y].toArray,vI x1,vS x2] W0 fun Wf v=> ∃ z,v=z/\OwS Wf LL [] [z] r:=by
 unfold Vm.zd1 at Y
 obtain⟨U,V,A,f,B⟩:=Repo.split E
 simp only[List.cons.injEq,and_true,true_and]at A
 obtain⟨rfl,rfl⟩:=A
 refine zak.of Tryz.func59 O O O O (sr (bo 2 O fun W F G h=>?_))
 have b:=G.o
 refine Nv (.slice none 0 0) O (Cw.seq ?_)
 obtain⟨H,I,Y⟩:=za4 Y
 refine Cw.join 7 18 [18] (fun l w=> ∃ i k,CW.w k=w/\Le [] F k/\l=[vB i]/\H i=some r) ?_ ?_
 ·rintro _ _ σ ⟨i,k,rfl,C,rfl,Y⟩
  rw[I]at Y
  have d:=b.n C
  refine cn Y (fun Y=>?_) fun Y=>?_
  ·refine sr (Nv (.slice none 0 0) O ?_)
   cases Y
   exact Cw.ret (zgk O (Res.mk d ⟨.slice none 0 0,O,(zpO []).sub O O⟩))
  ·refine sk (sr (la (h.up C) (mi O (ms O (cr Y (fun _=>p115 (k0:=3) (Repo.rd (K:=[0]) x0.Commits x0.Heads (f.ul d) (B.ul d))) ?_)))))
   rintro X D Z Y J ⟨_,rfl,L⟩
   have M:=d.n J
   refine Nv D O ?_
   cases Y
   exact Cw.ret (zgk O (Res.mk M ⟨D,O,L.s.sub O O⟩))
 ·refine rg (la h (ca Y (fun _=>p34 (Repo.rd (K:=[0]) x0.Commits x0.Heads (f.ul b) (B.ul b))) fun aa N Y e=>?_))
  have P:=b.n e
  refine Lw.r O (R.not O) (mb O (bs Y (fun a Y=>?_) fun a Y=>?_))
  ·exact psk 7 a O (Pb a O (nl ((ag) ⟨true,N,O,e,O,Y⟩)))
  ·exact wak 7 a (mi O (fl (h.up e) O (Lw.ln x0.Commits (f.ul P) O (Lw.sub O (ca Y (fun _=>p80) fun Q S Y T=>Lw.r O (R.not O) (Pb a O (nl ((ag) ⟨(!Q),S,O,(e.j T).w,O,Y⟩))))))))
theorem p59 {x0 b d x1 x2 k0 r}(f:Rd W K [b,d] x0)(Y:Vm.zd1 x0 x1 x2=some r):Q1 59 [.agg [b,d].toArray,vI x1,vS x2] W [] fun W' v=> ∃ a,v=a/\Ow W' k0 [] [a] r:=
 (c59 (f.view _) Y).ad (fk k0) fun _ _ ⟨a,e,h⟩=>⟨a,e,h.back (zf7 _)⟩
theorem c24 {x0 ak am x1 x2 r}(h0:Rd W0 [0] [ak,am] x0)(Y:Vm.zdq x0 x1 x2=some r):Q0 24 [.agg [ak,am].toArray,vI x1,vS x2] W0 fun Wf v=> ∃ u0,v=u0/\OwS Wf LL [] [u0] r:=by
 unfold Vm.zdq at Y
 obtain⟨cw,cx,ao,ap,bj⟩:=Repo.split h0
 simp only[List.cons.injEq,and_true,true_and]at ao
 obtain⟨rfl,rfl⟩:=ao
 refine zak.of Tryz.func24 O O O O (sr (bo 2 O fun g1 W1 l1 b1=>?_))
 have a2:=l1.o
 refine Nv (.slice none 0 0) O (sr (Lw.t O (T.lit0 (α:=Share) 3 []) ?_))
 rintro v3 _ ⟨W3,rfl,L,o3⟩
 have M:=a2.n L
 refine Nv v3 O (sr (la (b1.up L) (mi O (ms O (cr Y (fun _=>p59 (k0:=4) (Repo.rd (K:=[0]) x0.Commits x0.Heads (ap.ul M) (bj.ul M))) ?_)))))
 rintro z8 N av Y l10 ⟨_,rfl,aw⟩
 have bn:=M.n l10
 refine Nv N O (ssr (Ni O (Cw.block ?_)))
 obtain⟨bp,bq,Y⟩:=za4 Y
 refine Cw.loop 18 85 [7,9,10,11,12] (fun m l w=> ∃ e C a ax ay P k,CW.w k=w/\Le [3,5] av k/\l=[a,vI C,ax,ay,P]/\Ow k 3 [] [a] e/\Vm.zaX x0 z8 bp m e C=some r) _ ⟨([]:List Share),0,v3,undef,undef,undef,av,O,Le.refl _ _,O,(o3.up l10),Y⟩ ?_
 rintro(_ |c1) _ _ σ ⟨e,C,a,ax,ay,P,k,rfl,x,rfl,az,Y⟩
 ·cases Y
 unfold Vm.zaX at Y
 have a0:=bn.t x
 refine ssr (mi O (mv N O (Lw.ln z8 (aw.up x).rd O (Lw.lt O (nl (cn Y (fun Y=>?_) fun Y=>?_))))))
 ·refine sk ?_
  obtain⟨br,bu,Y⟩:=za4 Y
  refine Cw.join 24 85 [7,10,11,12] (fun l w=> ∃ D E Q S U y,CW.w y=w/\Le [3,5] k y/\l=[E,Q,S,U]/\Ow y 3 [] [E] D/\br D=some r) ?_ ?_
  ·rintro _ _ σ ⟨D,E,Q,S,U,y,rfl,bv,rfl,bw,Y⟩
   rw[bu]at Y
   exact rg (mi O (Lw.add O (Ni O ((agm) ⟨D,w64 (C+1),E,Q,S,U,y,O,(x.j bv).w,O,bw,Y⟩))))
  ·refine Cw.block (Cw.seq (Cw.draw [] [(0,0),(1,1),(2,0),(3,0),(4,0),(5,1),(6,0),(7,0),(8,1),(9,0)] mixed (by kernel_rfl) fun a1 f=>?_))
   have bz:=a0.n f
   have V:=(aw.up x).up f
   refine Dfl ((((b1.up L).up l10).up x).up f) O O O (Dv N O (Di O ?_))
   obtain⟨c2,W,Y⟩:=ob Y
   refine Mw.p O O (fun _=>R.ix (α:=Int) V.rd W O O O) (Mw.q O O (fun _ c=>R.ld O O (zae (V.rd.at_ W).1 O (V.rd.at_ W).int c)) ?_)
   obtain⟨b,X,Y⟩:=ob Y
   have Z:=ap.ul bz
   refine Mw.p O O (fun _=>R.ix (α:=Commit) Z X O O O) (Df O (Mw.q O O (fun _ c=>R.ld O O (zae (Commit.at1 (Z.at_ X)).1 O (Commit.at1 (Z.at_ X)).str c)) (Hs O (Mw.nil (sr (Ni O (Cw.seq (Cw.block ?_))))))))
   obtain⟨b0,b2,Y⟩:=za4 Y
   refine Cw.loop 33 47 [11] (fun m l w=> ∃ h i,CW.w i=w/\Le [] a1 i/\l=[vI h]/\Vm.zbm e b b0 m h=some r) _ ⟨0,a1,O,Le.refl _ _,O,Y⟩ ?_
   rintro(_ |c3) _ _ σ ⟨h,i,rfl,F,rfl,Y⟩
   ·cases Y
   unfold Vm.zbm at Y
   have G:=(az.up f).up F
   refine Cw.seq ?_
   obtain⟨b3,b4,Y⟩:=za4 Y
   refine Cw.join 33 45 [45] (fun l w=> ∃ aa d,CW.w d=w/\Le [] i d/\l=[vB aa]/\b3 aa=some r) ?_ ?_
   ·rintro _ _ σ ⟨aa,d,rfl,H,rfl,Y⟩
    rw[b4]at Y
    have I:=G.up H
    refine cn Y (fun Y=>?_) fun Y=>?_
    ·exact sk (Cw.block (rg (mi O (Lw.add O (Ni O ((agm) ⟨w64 (h+1),d,O,(F.j H).w,O,Y⟩))))))
    ·refine Cw.exit ?_
     rw[b2]at Y
     refine Cw.seq ?_
     obtain⟨b5,b6,Y⟩:=za4 Y
     refine Cw.join 48 60 [60] (fun l w=> ∃ ac ae,CW.w ae=w/\Le [] d ae/\l=[vB ac]/\b5 ac=some r) ?_ ?_
     ·rintro _ _ σ ⟨ac,ae,rfl,af,rfl,Y⟩
      rw[b6]at Y
      have z:=I.up af
      refine cn Y (fun Y=>?_) fun Y=>?_
      ·refine sr (mv a O (mi O (mv a O (mi O ?_))))
       obtain⟨c4,a3,Y⟩:=ob Y
       refine Lw.r O (R.ix (α:=Share) z.rd a3 O O O) (Lw.fa O (Lw.r O (R.ld O O (Share.at1 (z.rd.at_ a3)).int) (Lw.add O ?_)))
       obtain⟨c5,a5,Y⟩:=ob Y
       refine Lw.r O (R.ix (α:=Share) z.rd a5 O O O) (Lw.fa O ?_)
       obtain⟨b7,b8,Y⟩:=ob Y
       refine Lw.u (T.stH (α:=Share) (β:=Int) (J:=[]) (Ow.hole (α:=Share) (β:=Int) (jf:=1) z a5) (OwS.atm (K:=[]) (rdI _)) b8 O O O O) ?_
       rintro _ _ ⟨b9,rfl,cb,cc⟩
       exact nl (Cw.exit ((ag) ⟨b7,a,vS b.Who,vI h,P,b9,O,((((f.j F).j H).j af).j cb).w,O,cc,Y⟩))
      ·refine sk (sr (Lw.t O (T.lit0 (α:=Share) 5 []) ?_))
       rintro c6 _ ⟨c7,rfl,a6,cd⟩
       have ah:=z.up a6
       refine mv a O (mi O ?_)
       obtain⟨c8,a7,Y⟩:=ob Y
       have r91:=ah.rd.cutV a7
       refine Lw.r O (R.sl ah.rd a7 O (.inl ⟨O,O⟩) (.inr O)) ?_
       obtain⟨c9,ce,Y⟩:=ob Y
       refine Lw.t O (T.appP (α:=Share) cd r91 O O ce) ?_
       rintro a8 _ ⟨da,rfl,a9,cf⟩
       refine Nv a8 O (sr (mv a8 O (ms O (Lw.r O (R.bd (zs:=[vS ([]:Str),vI 0]) (cs:=[vS b.Who,vI 1]) [(0,vS b.Who),(1,vI 1)] O O O (zaA O O (zaA O O zcZ))) (Lw.t O (T.bs 6 [.agg [vS b.Who,vI 1].toArray] (cs:=[vS b.Who,vI 1]) O O (bsA O)) ?_)))))
       rintro _ _ ⟨db,dc,rfl,rfl,ai,cg⟩
       obtain⟨dd,ch,Y⟩:=ob Y
       refine Lw.t O (T.app1S (α:=Share) (K':=[]) (cf.up ai) cg (Share.rd (K:=[]) b.Who 1) O O ch) ?_
       rintro aj _ ⟨de,rfl,ba,ci⟩
       have bb:=((ah.up a9).up ai).up ba
       refine Nv aj O (rg (mv aj O (mv a O (mi O ?_))))
       obtain⟨df,bc,Y⟩:=ob Y
       have r116:=bb.rd.cutV bc
       refine Lw.r O (R.sl bb.rd bc O (.inr O) (.inl ⟨O,O⟩)) ?_
       obtain⟨cj,ck,Y⟩:=ob Y
       refine Lw.t O (T.appP (α:=Share) ci r116 O O ck) ?_
       rintro be _ ⟨dg,rfl,cl,cm⟩
       refine Nv be O ?_
       obtain⟨co,cp,cq,ct⟩:=cm.dyeO 3
       exact(ag) ⟨cj,be,vS b.Who,vI h,aj,co,cp,(((((((((f.j F).j H).j af).j a6).j a9).j ai).j ba).j cl).j cq).w,O,ct,Y⟩
     ·refine rg (mi O (mv a O (Lw.ln e I.rd O (Lw.lt O (mb O (bs Y (fun A Y=>?_) fun A Y=>?_))))))
      ·refine wak 7 A (mv a O (mi O ?_))
       obtain⟨cu,bg,Y⟩:=ob Y
       exact Lw.r O (R.ix (α:=Share) I.rd bg O O O) (Lw.fa O (Lw.r O (R.ld O O (Share.at0 (I.rd.at_ bg)).str) (ms O (Lw.seq O (Pb A O (nl ((ag) ⟨(cu.Who==b.Who),d,O,Le.refl _ _,O,Y⟩)))))))
      ·exact psk 7 A O (Pb A O (nl ((ag) ⟨false,d,O,Le.refl _ _,O,Y⟩)))
   ·refine rg (mi O (mv a O (Lw.ln e G.rd O (Lw.lt O (mb O (bs Y (fun B Y=>?_) fun B Y=>?_))))))
    ·refine wak 7 B (mv a O (mi O ?_))
     obtain⟨cv,bh,Y⟩:=ob Y
     exact Lw.r O (R.ix (α:=Share) G.rd bh O O O) (Lw.fa O (Lw.r O (R.ld O O (Share.at0 (G.rd.at_ bh)).str) (ms O (Lw.r O (R.slt O O) (Pb B O (nl ((ag) ⟨Op.bytesLess cv.Who b.Who,i,O,Le.refl _ _,O,Y⟩)))))))
    ·exact psk 7 B O (Pb B O (nl ((ag) ⟨false,i,O,Le.refl _ _,O,Y⟩)))
 ·refine Cw.exit ?_
  rw[bq]at Y
  refine sr (mv a O (Nv a O ?_))
  cases Y
  exact Cw.ret (zgk O (Res.mk a0 ⟨a,O,az.s.sub O O⟩))
theorem p24 {x0 b d x1 x2 k0 r}(f:Rd W K [b,d] x0)(Y:Vm.zdq x0 x1 x2=some r):Q1 24 [.agg [b,d].toArray,vI x1,vS x2] W [] fun W' v=> ∃ a,v=a/\Ow W' k0 [] [a] r:=
 (c24 (f.view _) Y).ad (fk k0) fun _ _ ⟨a,e,h⟩=>⟨a,e,h.back (zf7 _)⟩
theorem c23 {x0 b x1 e r}(d:Rd W0 [0] [b] x0)(f:Rd W0 [0] [e] x1)(Y:Vm.zdr x0 x1=some r):Q0 23 [b,e] W0 fun Wf v=>v=vB r:=by
 unfold Vm.zdr at Y
 refine zak.of Tryz.func23 O O O O (sr (Nb O (ssr (mv b O (Lw.ln x0 d O (mv e O (Lw.ln x1 f O (Lw.ne O (nl (cn Y (fun Y=>?_) fun Y=>?_))))))))))
 ·exact sr (Nb O (.ret (rt Y (Le.refl _ _))))
 ·refine sk (ssr (Ni O (Cw.block ?_)))
  obtain⟨B,C,Y⟩:=za4 Y
  refine Cw.loop 11 25 [4,5] (fun m l w=> ∃ h i k,CW.w k=w/\Le [] W0 k/\l=[vB h,vI i]/\Vm.zbn x0 x1 B m h i=some r) _ ⟨false,0,W0,O,Le.refl _ _,O,Y⟩ ?_
  rintro(_ |E) _ _ σ ⟨h,i,k,rfl,A,rfl,Y⟩
  ·cases Y
  unfold Vm.zbn at Y
  have x:=A.o
  refine ssr (mi O (mv b O (Lw.ln x0 (d.ul x) O (Lw.lt O (nl (cn Y (fun Y=>?_) fun Y=>?_))))))
  ·refine sk (Cw.seq (Cw.block (Cw.seq (Cw.draw [] [(0,0),(1,0),(2,0),(3,1),(4,0),(5,0),(6,0),(7,1),(8,0)] mixed (by kernel_rfl) fun D l10=>?_))))
   have a:=x.n l10
   refine Dv b O (Di O ?_)
   obtain⟨F,y,Y⟩:=ob Y
   refine Mw.p O O (fun _=>R.ix (α:=Share) (d.ul a) y O O O) ?_
   obtain⟨x15,c16,_,r17⟩:=((d.ul a).at_ y).cells
   obtain rfl:=Share.split r17
   refine Mw.q O O (fun _ c=>R.lda (zkD ((d.ul a).at_ y).1 O c16 c) O O) (Dv e O (Di O ?_))
   obtain⟨G,z,Y⟩:=ob Y
   refine Mw.p O O (fun _=>R.ix (α:=Share) (f.ul a) z O O O) ?_
   obtain⟨x21,c22,_,r23⟩:=((f.ul a).at_ z).cells
   obtain rfl:=Share.split r23
   refine Mw.q O O (fun _ c=>R.lda (zkD ((f.ul a).at_ z).1 O c22 c) O O) (Mw.p O O (fun _=>R.hne O O) (Mw.nil (cn Y (fun Y=>?_) fun Y=>?_)))
   ·exact sr (Nb O (.ret (rt Y a)))
   ·exact sk (rg (mi O (Lw.add O (Ni O ((agm) ⟨h,w64 (i+1),D,O,(A.j l10).w,O,Y⟩)))))
  ·refine Cw.exit ?_
   rw[C]at Y
   exact sr (Nb O (.ret (rt Y x)))
theorem p23 {x0 a x1 b r}(d:Rd W K [a] x0)(f:Rd W K [b] x1)(Y:Vm.zdr x0 x1=some r):Q1 23 [a,b] W [] fun W' v=>v=vB r:=
 (c23 (d.view _) (f.view _) Y).ad (fk 0) fun _ _ e=>e
end Go.Sx
