/- Walks: each function answers as its model, printed by a program of ours. Conditions: the arguments read as they are given. -/
import Derived.Test.YtiahldhbknpmiaaGreatDoorATs
import Derived.Test.YtiahldhbknpmiaaGreatDoorAM5
import Derived.Test.YtiahldhbknpmiaaGreatDoorAW0
import Derived.Test.YtiahldhbknpmiaaGreatDoorAW1
import Derived.Test.YtiahldhbknpmiaaGreatDoorAW4
import Derived.Test.YtiahldhbknpmiaaGreatDoorAW5
import Derived.Test.YtiahldhbknpmiaaGreatDoorAW7
import Derived.Test.YtiahldhbknpmiaaGreatDoorAW8
namespace Go.Sx
open Go Go.Proofs Go.Vm Rp
set_option linter.unusedVariables false
set_option linter.unusedSimpArgs false
variable {W W0:CW}{K:List Nat}
theorem c86 {x0 U V x1 x2 r}(h0:Rd W0 [0] [U,V] x0)(Y:Vm.zke x0 x1 x2=some r):Q0 86 [.agg [U,V].toArray,vI x1,vI x2] W0 fun Wf v=> ∃ W,v=W/\OwS Wf LL [] [W] r:=by
 unfold Vm.zke at Y
 obtain⟨bu,bv,X,e,J⟩:=Repo.split h0
 simp only[List.cons.injEq,and_true,true_and]at X
 obtain⟨rfl,rfl⟩:=X
 refine zaz.of Tryz.func86 O O O O (sr (bo 2 O fun g1 W1 l1 b1=>?_))
 have a2:=l1.o
 refine Nv (.slice none 0 0) O (sr (Lw.t O (T.lit0 (α:=Int) 3 []) ?_))
 rintro Z _ ⟨W3,rfl,l3,o3⟩
 have z:=a2.n l3
 have f:=b1.up l3
 refine Nv Z O (Cw.seq ?_)
 obtain⟨K8,ax,Y⟩:=zbM Y
 refine Cw.join 12 32 [32] (fun l w=> ∃ L M,CW.w M=w/\Le [] W3 M/\l=[vB L]/\K8 L=some r) ?_ ?_
 ·rintro _ _ σ ⟨L,M,rfl,A,rfl,Y⟩
  rw[ax]at Y
  have B:=z.n A
  refine cn Y (fun Y=>?_) fun Y=>?_
  ·refine sr (Nv (.slice none 0 0) O ?_)
   cases Y
   exact Cw.ret (zkN O (Res.mk B ⟨.slice none 0 0,O,(znU []).sub O O⟩))
  ·refine sk (sr (la (f.up A) (mi O (cr Y (fun _=>p138 (k0:=4) (Repo.rd (K:=[0]) x0.Commits x0.Heads (e.ul B) (J.ul B))) ?_))))
   rintro ay ac b0 Y N ⟨_,rfl,az⟩
   have P:=B.n N
   refine Nv ac O (sr (la ((f.up A).up N) (mi O (cr Y (fun _=>p138 (k0:=5) (Repo.rd (K:=[0]) x0.Commits x0.Heads (e.ul P) (J.ul P))) ?_))))
   rintro ae C af Y Q ⟨_,rfl,a0⟩
   have a1:=P.n Q
   refine Nv C O (ssr (Ni O (Cw.block ?_)))
   obtain⟨a3,a5,Y⟩:=zbM Y
   refine Cw.loop 39 58 [7,10] (fun m l w=> ∃ D E a h,CW.w h=w/\Le [3] af h/\l=[a,vI E]/\Ow h 3 [] [a] D/\Vm.zfT ay ae a3 m D E=some r) _ ⟨([]:List Int),0,Z,af,O,Le.refl _ _,O,(((o3.up A).up N).up Q),Y⟩ ?_
   rintro(_ |b2) _ _ σ ⟨D,E,a,h,rfl,F,rfl,S,Y⟩
   ·cases Y
   unfold Vm.zfT at Y
   have a6:=a1.t F
   have i:=a0.up F
   refine ssr (mi O (mv C O (Lw.ln ae i.rd O (Lw.lt O (nl (cn Y (fun Y=>?_) fun Y=>?_))))))
   ·refine sk ?_
    obtain⟨a7,a8,Y⟩:=zbM Y
    refine Cw.join 45 58 [7] (fun l w=> ∃ G H k,CW.w k=w/\Le [3] h k/\l=[H]/\Ow k 3 [] [H] G/\a7 G=some r) ?_ ?_
    ·rintro _ _ σ ⟨G,H,k,rfl,ba,rfl,bb,Y⟩
     rw[a8]at Y
     exact rg (mi O (Lw.add O (Ni O ((agm) ⟨G,w64 (E+1),H,k,O,(F.j ba).w,O,bb,Y⟩))))
    ·refine Cw.block (sr (mv ac O (mv C O (mi O ?_))))
     obtain⟨b3,ah,Y⟩:=ob Y
     refine Lw.r O (R.ix (α:=Int) i.rd ah O O O) (Lw.r O (R.ld O O (i.rd.at_ ah).int) (ca Y (fun _=>p154 (K:=[4]) ((az.up Q).up F).rd) fun b4 bc Y b=>Lw.r O (R.not O) (nl (cn Y (fun Y=>?_) fun Y=>?_))))
     ·refine rg (mv a O (mv C O (mi O ?_)))
      obtain⟨ai,aj,Y⟩:=ob Y
      refine Lw.r O (R.ix (α:=Int) (i.up b).rd aj O O O) (Lw.r O (R.ld O O ((i.up b).rd.at_ aj).int) (Lw.t O (T.bs 6 [vI ai] (cs:=[vI ai]) O O (bsv O)) ?_))
      rintro _ _ ⟨b6,b7,rfl,rfl,ak,be⟩
      obtain⟨bg,bh,Y⟩:=ob Y
      refine Lw.t O (T.app1S (α:=Int) (K':=[]) ((S.up b).up ak) be (rdI _) O O bh) ?_
      rintro am _ ⟨bi,rfl,bj,bk⟩
      exact Nv am O ((ag) ⟨bg,am,bi,O,((b.j ak).j bj).w,O,bk,Y⟩)
     ·exact sk ((ag) ⟨D,a,bc,O,b.w,O,(S.up b),Y⟩)
   ·refine Cw.exit ?_
    rw[a5]at Y
    refine sr (mv a O (Nv a O ?_))
    cases Y
    exact Cw.ret (zkN O (Res.mk a6 ⟨a,O,S.s.sub O O⟩))
 ·refine rg (la f (ca Y (fun _=>p68 (Repo.rd (K:=[0]) x0.Commits x0.Heads (e.ul z) (J.ul z))) fun b8 bl Y d=>?_))
  have an:=z.n d
  refine Lw.r O (R.not O) (mb O (bs Y (fun x Y=>?_) fun x Y=>?_))
  ·exact psk 7 x O (Pb x O (mb O (psk 7 O O (Pb O O (nl ((ag) ⟨true,bl,O,d,O,Y⟩))))))
  ·refine wak 7 x (mi O (fl (f.up d) O (Lw.ln x0.Commits (e.ul an) O (Lw.sub O (ca Y (fun _=>p71) fun b9 bm Y I=>?_)))))
   have bn:=an.n I
   refine Lw.r O (R.not O) (Pb x O (mb O (bs Y (fun y Y=>?_) fun y Y=>?_)))
   ·exact psk 7 y O (Pb y O (nl ((ag) ⟨true,bm,O,(d.j I).w,O,Y⟩)))
   ·exact wak 7 y (mi O (fl ((f.up d).up I) O (Lw.ln x0.Commits (e.ul bn) O (Lw.sub O (ca Y (fun _=>p71) fun bp bq Y br=>Lw.r O (R.not O) (Pb y O (nl ((ag) ⟨(!bp),bq,O,((d.j I).j br).w,O,Y⟩))))))))
theorem p86 {x0 b d x1 x2 k0 r}(f:Rd W K [b,d] x0)(Y:Vm.zke x0 x1 x2=some r):Q1 86 [.agg [b,d].toArray,vI x1,vI x2] W [] fun W' v=> ∃ a,v=a/\Ow W' k0 [] [a] r:=
 (c86 (f.view _) Y).ad (fk k0) fun _ _ ⟨a,e,h⟩=>⟨a,e,h.back (ziQ _)⟩
theorem c26 {x0 az a0 x1 x2 r}(h0:Rd W0 [0] [az,a0] x0)(Y:Vm.ziD x0 x1 x2=some r):Q0 26 [.agg [az,a0].toArray,vS x1,vI x2] W0 fun Wf v=> ∃ dn dp,v = .tuple [.agg [dn,dp].toArray,vI r.2].toArray/\Rd Wf [0] [dn] r.1.Commits/\Rd Wf [0] [dp] r.1.Heads:=by
 unfold Vm.ziD at Y
 obtain⟨io,ip,dq,B,S⟩:=Repo.split h0
 simp only[List.cons.injEq,and_true,true_and]at dq
 obtain⟨rfl,rfl⟩:=dq
 refine zaz.of Tryz.func26 O O O O (sr (bo 2 O fun g1 W1 l1 b1=>?_))
 have a2:=l1.o
 refine al 3 [.slice none 0 0, .slice none 0 0] fun g3 W3 l3 b3=>?_
 have a4:=a2.n l3
 refine Ni O (ssr (la (b1.up l3) (ca Y (fun _=>p68 (Repo.rd (K:=[0]) x0.Commits x0.Heads (B.ul a4) (S.ul a4))) fun z8 fd Y l10=>?_)))
 have ae:=a4.n l10
 have a1:=(b1.up l3).up l10
 refine Lw.r O (R.not O) (nl (cn Y (fun Y=>?_) fun Y=>?_))
 ·refine sr (Lw.r O (R.bd (zs:=[.slice none 0 0, .slice none 0 0]) (cs:=[.slice none 0 0, .slice none 0 0]) [] O O O ze4) (sta (b3.up l10) (zaa O (zaa O za0)) fun iv fe ff=>?_))
  have fg:=ae.t fe
  refine Ni O ?_
  cases Y
  exact Cw.ret (zhl O ff O (Res.mk fg ⟨.slice none 0 0, .slice none 0 0,O,(rdN (K:=[0])),(rdN (K:=[0]))⟩))
 ·refine sk (Cw.seq ?_)
  obtain⟨fh,fi,Y⟩:=zbM Y
  refine Cw.join 18 30 [30] (fun l w=> ∃ br bu,CW.w bu=w/\Le [] fd bu/\l=[vB br]/\fh br=some r) ?_ ?_
  ·rintro _ _ σ ⟨br,bu,rfl,a3,rfl,Y⟩
   rw[fi]at Y
   have a5:=ae.n a3
   have du:=(b3.up l10).up a3
   refine cn Y (fun Y=>?_) fun Y=>?_
   ·refine sr (la (a1.up a3) (cr Y (fun _=>p72 (k0:=4) (k1:=5) (Repo.rd (K:=[0]) x0.Commits x0.Heads (B.ul a5) (S.ul a5))) ?_))
    rintro dv _ iw Y dw ⟨dx,dy,rfl,dz,d0⟩
    have fj:=a5.n dw
    refine sta (du.up dw) (zaa dz.oc (zaa d0.oc za0)) fun iy bv fm=>?_
    have fn:=fj.t bv
    refine Ni O ?_
    obtain⟨fo,fp,bw,fq⟩:=zn3 _ 4
    have fr:Rd (α:=List Vm.Commit) fo [0] [dx] dv.Commits:=by rw[fq];exact((dz.up bv).rd.dye 4).sub (M:=[0]) O
    have fs:=fn.t bw
    obtain⟨ft,fu,d1,fv⟩:=zn3 _ 5
    have fw:Rd (α:=List Vm.Head) ft [0] [dy] dv.Heads:=by rw[fv];exact(((d0.up bv).up bw).rd.dye 5).sub (M:=[0]) O
    have d2:=d1.s
    cases Y
    rw[<- fu.trans (fp)]
    exact Cw.ret (zhl O ((fm.up bw).up d1) O (Res.mk (fs.trans d2) ⟨dx,dy,O,(fr.ul d2),fw⟩))
   ·refine sk (Cw.seq (Cw.draw [] [(0,1),(1,0),(2,1),(3,0),(4,2),(5,3),(6,0)] mixed (by kernel_rfl) fun iz bz=>?_))
    have b0:=a5.n bz
    have b2:=(a1.up a3).up bz
    refine Mw.q O O (fun _ c=>R.lda (cs:=[az,a0]) (b2.clcs O c) O O) (Di O (Mw.q O O (fun _ c=>R.lda (cs:=[az,a0]) (b2.clcs O c) O O) (Ds O ?_)))
    obtain⟨i0,fx,Y⟩:=ob Y
    refine Mw.t O O (T.call O (p69 (Repo.rd (K:=[0]) x0.Commits x0.Heads (B.ul b0) (S.ul b0)) fx)) ?_
    rintro _ _ ⟨i1,rfl,a6,rfl⟩
    have b4:=b0.n a6
    refine m0 a6 fun i2=>?_
    obtain⟨d3,fy,Y⟩:=ob Y
    refine Mw.l O O (T.call O (p86 (k0:=6) (Repo.rd (K:=[0]) x0.Commits x0.Heads (B.ul b4) (S.ul b4)) fy)) ?_
    rintro i _ ⟨i3,rfl,b5,⟨_,rfl,fz⟩⟩
    have b6:=b4.n b5
    have d4:=(b2.up a6).up b5
    refine Hv i O (Mw.nil (sr (la d4 (cr Y (fun _=>p72 (k0:=7) (k1:=8) (Repo.rd (K:=[0]) x0.Commits x0.Heads (B.ul b6) (S.ul b6))) ?_))))
    rintro V _ i4 Y a7 ⟨f0,f1,rfl,d5,d6⟩
    have f2:=b6.n a7
    refine ms O (mi O (cr Y (fun _=>p87 (K:=[7,8]) (x0:=(Vm.Repo.mk V.Commits V.Heads)) (Repo.rd (K:=[7,8]) V.Commits V.Heads (d5.rd.sub (M:=[7,8]) O) (d6.rd.sub (M:=[7,8]) O))) ?_))
    rintro X _ i5 Y Z ⟨b7,b8,rfl,f3,f4⟩
    have d7:=f3.sub (M:=[0,7,8]) O
    have d8:=f4.sub (M:=[0,7,8]) O
    have f5:=f2.n Z
    refine al 9 [.slice none 0 0, .slice none 0 0] fun af i6 H f6=>?_
    have f7:=f5.n H
    refine sta f6 (zaa d7.oc (zaa d8.oc za0)) fun i7 I f8=>?_
    have f9:=f7.t I
    refine nl (ssr (Ni O (Cw.block ?_)))
    have ga:=d7.up ((H.sub (M:=[9]) O).trans (I.sub (M:=[9]) O)) O
    have gb:=d8.up ((H.sub (M:=[9]) O).trans (I.sub (M:=[9]) O)) O
    obtain⟨b9,gc,aa,cb⟩:=zn3 _ 7
    rw[<- gc]
    have gd:Rd b9 [0,8] [b7] X.Commits:=by rw[cb];exact(ga.dye 7).sub (M:=[0,8]) O
    have gf:Rd b9 [0,8] [b8] X.Heads:=by rw[cb];exact(gb.dye 7).sub (M:=[0,8]) O
    have i8:Rd (α:=List Vm.Commit) b9 [0] [f0] V.Commits:=by rw[cb];exact((((d5.up Z).up H).up I).rd.dye 7).sub (M:=[0]) O
    have gg:=f9.t aa
    obtain⟨ah,gh,ai,cc⟩:=zn3 _ 8
    rw[<- gh]
    have gj:Rd ah [0] [b7] X.Commits:=by rw[cc];exact(gd.dye 8).sub (M:=[0]) O
    have gk:Rd ah [0] [b8] X.Heads:=by rw[cc];exact(gf.dye 8).sub (M:=[0]) O
    have i9:Rd (α:=List Vm.Head) ah [0] [f1] V.Heads:=by rw[cc];exact(((((d6.up Z).up H).up I).up aa).rd.dye 8).sub (M:=[0]) O
    have gm:=gg.t ai
    obtain⟨gn,go,Y⟩:=zbM Y
    refine Cw.loop 44 90 [7,10,11,12,13] (fun m l w=> ∃ aj f ak am J L d9 cd ce an ao e k y,CW.w y=w/\Le [9,16,17] ah y/\l=[vI aj,vI f,d9,cd,ce]/\Ow y 14 [] [an] ak/\Ow y 15 [] [ao] am/\Bx y 3 g3 [an,ao]/\Rd y [0] [e] J/\Rd y [0] [k] L/\Bx y 9 af [e,k]/\Vm.zeY x0 x1 d3 gn m aj f ak am J L=some r) _ ⟨0,0,([]:List Commit),([]:List Head),X.Commits,X.Heads,undef,undef,undef, .slice none 0 0, .slice none 0 0,b7,b8,ah,O,Le.refl _ _,O,owN 14 [],owN 15 [],(((((((((du.up bz).up a6).up b5).up a7).up Z).up H).up I).up aa).up ai),gj,gk,((f8.up aa).up ai),Y⟩ ?_
    rintro(_ |ja) _ _ σ ⟨aj,f,ak,am,J,L,d9,cd,ce,an,ao,e,k,y,rfl,a8,rfl,gr,gs,ea,r139,r142,eb,Y⟩
    ·cases Y
    unfold Vm.zeY at Y
    have cf:=gm.t a8
    have ec:=((((((fz.up a7).up Z).up H).up I).up aa).up ai).up a8
    refine ssr (mi O (mv i O (Lw.ln d3 ec.rd O (Lw.lt O (nl (cn Y (fun Y=>?_) fun Y=>?_))))))
    ·refine sk ?_
     obtain⟨gu,gv,Y⟩:=zbM Y
     refine Cw.join 50 90 [7,11,12,13] (fun l w=> ∃ a9 ba bb bc be cg ch ci bg bh bi bj z,CW.w z=w/\Le [9,16,17] y z/\l=[vI a9,cg,ch,ci]/\Ow z 14 [] [bg] ba/\Ow z 15 [] [bh] bb/\Bx z 3 g3 [bg,bh]/\Rd z [0] [bi] bc/\Rd z [0] [bj] be/\Bx z 9 af [bi,bj]/\gu a9 ba bb bc be=some r) ?_ ?_
     ·rintro _ _ σ ⟨a9,ba,bb,bc,be,cg,ch,ci,bg,bh,bi,bj,z,rfl,gw,rfl,gx,gy,gz,r164,r167,g0,Y⟩
      rw[gv]at Y
      exact rg (mi O (Lw.add O (Ni O ((agm) ⟨a9,w64 (f+1),ba,bb,bc,be,cg,ch,ci,bg,bh,bi,bj,z,O,(a8.j gw).w,O,gx,gy,gz,r164,r167,g0,Y⟩))))
     ·refine Cw.block (Cw.seq (Cw.draw [] [(0,0),(1,1),(2,0),(3,0),(4,0),(5,1),(6,0),(7,1),(8,2),(9,3)] mixed (by kernel_rfl) fun jb C=>?_))
      have N:=C.o
      have bk:=ec.up C
      have ed:=(((((((d4.up a7).up Z).up H).up I).up aa).up ai).up a8).up C
      refine Dfl ed O O O (Dv i O (Di O ?_))
      obtain⟨jc,cj,Y⟩:=ob Y
      refine Mw.p O O (fun _=>R.ix (α:=Int) bk.rd cj O O O) (Mw.q O O (fun _ c=>R.ld O O (zaB (bk.rd.at_ cj).1 O (bk.rd.at_ cj).int c)) ?_)
      obtain⟨ac,ck,Y⟩:=ob Y
      have cl:=B.ul (cf.trans N)
      refine Mw.p O O (fun _=>R.ix (α:=Commit) cl ck O O O) ?_
      obtain⟨x187,c188,_,r189⟩:=(cl.at_ ck).cells
      obtain⟨g2,g4,rfl,r191,r193⟩:=Commit.split r189
      refine Mw.q O O (fun _ c=>R.lda (zkX (cl.at_ ck).1 O c188 c) O O) (Mw.t O O (T.alloc 16 (cs:=[.slice none 0 0,vS ([]:Str), .slice none 0 0]) O) ?_)
      rintro _ _ ⟨ap,jd,rfl,rfl,A,g5⟩
      have P:=A.o
      refine m0 A fun je=>Mw.lu O (T.sta (vs:=[g2,vS ac.Who,g4]) g5 O O (zaa r191.oc (zaa O (zaa r193.oc za0))) O O) ?_
      rintro _ _ ⟨g6,rfl,D,ee⟩
      have Q:=D.s
      have ef:=((gr.up C).up A).up D
      have eg:=((gs.up C).up A).up D
      have eh:=((ea.up C).up A).up D
      have ei:=((eb.up C).up A).up D
      refine Mw.nil (ssr (fl ee O (Lw.ln ac.Parents (r191.ul (P.trans Q)) O (Lw.gt O (nl (cn Y (fun Y=>?_) fun Y=>?_))))))
      ·exact Cw.exit ((ag) ⟨aj,ak,am,J,L,ptr (bx ap),cd,ce,an,ao,e,k,g6,O,((C.j A).j D).w,O,ef,eg,eh,(r139.ul ((N.trans P).trans Q)),(r142.ul ((N.trans P).trans Q)),ei,Y⟩)
      ·refine sk (Cw.seq ?_)
       obtain⟨cm,ej,Y⟩:=ob Y
       obtain⟨aq,g7,Y⟩:=ob Y
       obtain⟨E,ek,Y⟩:=ob Y
       obtain⟨ar,el,Y⟩:=ob Y
       obtain⟨a,g8,Y⟩:=ob Y
       refine Cw.par [[],[],[],[2],[],[],[],[5,6],[5,6,7],[4,5,6,7,8],[],[10],[],[],[12,13],[12,13,14],[10,11,12,13,14,15],[10,11,12,13,14,15,16],[10,11,12,13,14,15,16,17],[0,1,2,3,4,5,6,7,8,9,10,11,12,13,14,15,16,17,18],[0,1,2,3,4,5,6,7,8,9,10,11,12,13,14,15,16,17,18,19],[0,1,2,3,4,5,6,7,8,9,10,11,12,13,14,15,16,17,18,19,20],[0,1,2,3,4,5,6,7,8,9,10,11,12,13,14,15,16,17,18,19,20],[],[0,1,2,3,4,5,6,7,8,9,10,11,12,13,14,15,16,17,18,19,20,21,23],[0,1,2,3,4,5,6,7,8,9,10,11,12,13,14,15,16,17,18,19,20,21,22,23,24]] [[],[],[],[2],[],[],[],[5,6],[7],[4,8],[],[10],[],[],[12,13],[14],[11,15],[16],[17],[0,1,3,9,18],[19],[19,20],[19,20],[],[19,21,23],[22]] [[],[],[],[],[],[],[],[],[],[],[],[],[],[],[],[],[],[],[],[],[],[],[],[],[17],[]] [[0],[1],[2],[3],[4],[5],[6],[7],[8],[9],[10],[11],[12],[13],[14],[15],[16],[17],[18],[19],[19,20],[19,21],[22],[23],[19,23],[25]] [[],[],[],[],[],[],[],[],[],[0],[],[],[],[],[],[],[],[],[0],[0],[],[],[],[17],[17],[]] [0,1,2,3,4,5,6,7,8,9,10,11,12,13,14,15,16,17,18,19,20,21,22,24,25] [17] [fun vs W=>(vs 0) = .agg [e,k].toArray,fun vs W=>(vs 1)=vS x1,fun vs W=>(vs 2)=ptr ((bx ap).add 1),fun vs W=>(vs 3)=vS ac.Who,fun vs W=>(vs 4) = .agg [e,k].toArray,fun vs W=>(vs 5)=i,fun vs W=>(vs 6)=vI f,fun vs W=>(vs 7)=ptr ((slA i).add ((f).toNat*Rp.sz (Int))),fun vs W=>(vs 8)=vI cm,fun vs W=>Rd W [0] [(vs 9)] aq,fun vs W=>(vs 10)=ptr ((bx af).add 0),fun vs W=>(vs 11)=e,fun vs W=>(vs 12)=i,fun vs W=>(vs 13)=vI f,fun vs W=>(vs 14)=ptr ((slA i).add ((f).toNat*Rp.sz (Int))),fun vs W=>(vs 15)=vI E,fun vs W=>(vs 16)=ptr ((slA e).add ((E).toNat*Rp.sz (Commit))),fun vs W=>(vs 17)=ptr (((slA e).add ((E).toNat*Rp.sz (Commit))).add 2),fun vs W=>Rd W [0] [(vs 18)] ar.Tree,fun vs W=>(vs 19) = .tuple [.agg [(zas (zas (vs 19) 0) 0),(zas (zas (vs 19) 0) 1)].toArray,vI a.2].toArray/\Rd W [0] [(zas (zas (vs 19) 0) 0)] a.1.Commits/\Rd W [0] [(zas (zas (vs 19) 0) 1)] a.1.Heads,fun vs W=>(vs 20) = .tuple [.agg [(zas (zas (vs 19) 0) 0),(zas (zas (vs 19) 0) 1)].toArray,vI a.2].toArray,fun vs W=>(vs 21) = .agg [(zas (zas (vs 19) 0) 0),(zas (zas (vs 19) 0) 1)].toArray,fun vs W=>(vs 22)=vI a.2,fun vs W=>(vs 23)=ptr (bx (pg (vs 23)))/\Bx W 17 (pg (vs 23)) [.slice none 0 0, .slice none 0 0],fun vs W=>(vs 23)=ptr (bx (pg (vs 23)))/\Bx W 17 (pg (vs 23)) [(zas (zas (vs 19) 0) 0),(zas (zas (vs 19) 0) 1)],fun vs W=>(vs 25)=vI a.2] [] mixed (by kernel_rfl) O zrl.nil ?_
       intro jf F
       have au:=F.o
       have bl:=((bk.up A).up D).up F
       have bm:=ei.up F
       refine⟨(zbu.cons ?_ (zbu.cons ?_ (zbu.cons ?_ (zbu.cons ?_ (zbu.cons ?_ (zbu.cons ?_ (zbu.cons ?_ (zbu.cons ?_ (zbu.cons ?_ (zbu.cons ?_ (zbu.cons ?_ (zbu.cons ?_ (zbu.cons ?_ (zbu.cons ?_ (zbu.cons ?_ (zbu.cons ?_ (zbu.cons ?_ (zbu.cons ?_ (zbu.cons ?_ (zbu.cons ?_ (zbu.cons ?_ (zbu.cons ?_ (zbu.cons ?_ (zbu.cons ?_ (zbu.cons ?_ (zbu.cons ?_ zbu.nil)))))))))))))))))))))))))),(zeJ.cons SE (zeJ.cons SE (zeJ.cons SE (zeJ.cons SE (zeJ.cons SE (zeJ.cons SE (zeJ.cons SE (zeJ.cons SE (zeJ.cons SE (zeJ.cons (fun vs vs' W W' _ hv l hd h=>by(show Rd W' [0] [(vs' 9)] aq);rw[hv 9 (zaY O)];exact h.up l (znb hd (K:=[0]) O)) (zeJ.cons SE (zeJ.cons SE (zeJ.cons SE (zeJ.cons SE (zeJ.cons SE (zeJ.cons SE (zeJ.cons SE (zeJ.cons SE (zeJ.cons (fun vs vs' W W' _ hv l hd h=>by(show Rd W' [0] [(vs' 18)] ar.Tree);rw[hv 18 (zaY O)];exact h.up l (znb hd (K:=[0]) O)) (zeJ.cons (fun vs vs' W W' _ hv l hd h=>by(show(vs' 19) = .tuple [.agg [(zas (zas (vs' 19) 0) 0),(zas (zas (vs' 19) 0) 1)].toArray,vI a.2].toArray/\Rd W' [0] [(zas (zas (vs' 19) 0) 0)] a.1.Commits/\Rd W' [0] [(zas (zas (vs' 19) 0) 1)] a.1.Heads);rw[hv 19 (zaY O)];exact⟨h.1,h.2.1.up l (znb hd (K:=[0]) O),h.2.2.up l (znb hd (K:=[0]) O)⟩) (zeJ.cons (fun vs vs' W W' _ hv l hd h=>by(show(vs' 20) = .tuple [.agg [(zas (zas (vs' 19) 0) 0),(zas (zas (vs' 19) 0) 1)].toArray,vI a.2].toArray);rw[hv 19 (zaY O),hv 20 (zaY O)];exact h) (zeJ.cons (fun vs vs' W W' _ hv l hd h=>by(show(vs' 21) = .agg [(zas (zas (vs' 19) 0) 0),(zas (zas (vs' 19) 0) 1)].toArray);rw[hv 19 (zaY O),hv 21 (zaY O)];exact h) (zeJ.cons SE (zeJ.cons (fun vs vs' W W' _ hv l hd h=>by(show(vs' 23)=ptr (bx (pg (vs' 23)))/\Bx W' 17 (pg (vs' 23)) [.slice none 0 0, .slice none 0 0]);rw[hv 23 (zaY O)];exact⟨h.1,h.2.up l (zeg hd (c:=17) O)⟩) (zeJ.cons (fun vs vs' W W' _ hv l hd h=>by(show(vs' 23)=ptr (bx (pg (vs' 23)))/\Bx W' 17 (pg (vs' 23)) [(zas (zas (vs' 19) 0) 0),(zas (zas (vs' 19) 0) 1)]);rw[hv 19 (zaY O),hv 23 (zaY O)];exact⟨h.1,h.2.up l (zeg hd (c:=17) O)⟩) (zeJ.cons SE zeJ.nil)))))))))))))))))))))))))),?_⟩
       ·intro vs jg lW hN hV
        exact Trq (R.lda (cs:=[e,k]) (bm.up lW O).cells O O) O
       ·intro vs jh lW hN hV
        exact Trq (R.mv (v:=vS x1) O) O
       ·intro vs ji lW hN hV
        exact Trq (R.fa O) O
       ·intro vs jj lW hN hV
        have co:vs 2=ptr ((bx ap).add 1):=(hN 2 (zaY O))
        obtain⟨vs,rfl⟩:=zaC co
        exact Trq (R.ld (v:=vS ac.Who) O O (((ee.up F).up lW O).cell O)) O
       ·intro vs jk lW hN hV
        exact Trq (R.lda (cs:=[e,k]) (bm.up lW O).cells O O) O
       ·intro vs jl lW hN hV
        exact Trq (R.mv (v:=i) O) O
       ·intro vs jm lW hN hV
        exact Trq (R.mv (v:=vI f) O) O
       ·intro vs jo lW hN hV
        have cp:vs 5=i:=(hN 5 (zaY O))
        obtain⟨vs,rfl⟩:=zaC cp
        have cq:vs 6=vI f:=(hN 6 (zaY O))
        obtain⟨vs,rfl⟩:=zaC cq
        exact Trq (R.ix (α:=Int) (bl.up lW O).rd ej O O O) O
       ·intro vs jp lW hN hV
        have ct:vs 7=ptr ((slA i).add ((f).toNat*Rp.sz (Int))):=(hN 7 (zaY O))
        obtain⟨vs,rfl⟩:=zaC ct
        exact Trq (R.ld O O ((bl.up lW O).rd.at_ ej).int) O
       ·intro vs jq lW hN hV
        have em:=(((N.trans P).trans Q).trans au).t lW O
        have cu:vs 4 = .agg [e,k].toArray:=(hN 4 (zaY O))
        obtain⟨vs,rfl⟩:=zaC cu
        have cv:vs 8=vI cm:=(hN 8 (zaY O))
        obtain⟨vs,rfl⟩:=zaC cv
        refine Tr.mono (T.call O (p74 (x0:=(Vm.Repo.mk J L)) (Repo.rd (K:=[0]) J L (r139.ul em) (r142.ul em)) g7)) ?_
        rintro g9 _ ⟨en,rfl,ha,⟨_,rfl,hb⟩⟩
        have hc:=hb.sub (M:=[0]) O
        exact⟨en,O,ha,(show Rd en [0] [g9] aq from hc)⟩
       ·intro vs jr lW hN hV
        exact Trq (R.fa O) O
       ·intro vs js lW hN hV
        have cw:vs 10=ptr ((bx af).add 0):=(hN 10 (zaY O))
        obtain⟨vs,rfl⟩:=zaC cw
        exact Trq (R.ld (v:=e) O O ((bm.up lW O).cell O)) O
       ·intro vs jt lW hN hV
        exact Trq (R.mv (v:=i) O) O
       ·intro vs ju lW hN hV
        exact Trq (R.mv (v:=vI f) O) O
       ·intro vs jv lW hN hV
        have cx:vs 12=i:=(hN 12 (zaY O))
        obtain⟨vs,rfl⟩:=zaC cx
        have cy:vs 13=vI f:=(hN 13 (zaY O))
        obtain⟨vs,rfl⟩:=zaC cy
        exact Trq (R.ix (α:=Int) (bl.up lW O).rd ek O O O) O
       ·intro vs jw lW hN hV
        have cz:vs 14=ptr ((slA i).add ((f).toNat*Rp.sz (Int))):=(hN 14 (zaY O))
        obtain⟨vs,rfl⟩:=zaC cz
        exact Trq (R.ld O O ((bl.up lW O).rd.at_ ek).int) O
       ·intro vs jx lW hN hV
        have he:=(((N.trans P).trans Q).trans au).t lW O
        have c0:vs 11=e:=(hN 11 (zaY O))
        obtain⟨vs,rfl⟩:=zaC c0
        have c1:vs 15=vI E:=(hN 15 (zaY O))
        obtain⟨vs,rfl⟩:=zaC c1
        exact Trq (R.ix (α:=Commit) (r139.ul he) el O O O) O
       ·intro vs jy lW hN hV
        have c2:vs 16=ptr ((slA e).add ((E).toNat*Rp.sz (Commit))):=(hN 16 (zaY O))
        obtain⟨vs,rfl⟩:=zaC c2
        exact Trq (R.fa O) O
       ·intro vs hf lW hN hV
        have hg:=(((N.trans P).trans Q).trans au).t lW O
        have c3:vs 17=ptr (((slA e).add ((E).toNat*Rp.sz (Commit))).add 2):=(hN 17 (zaY O))
        obtain⟨vs,rfl⟩:=zaC c3
        obtain⟨hh,c474,r475⟩:=(Commit.at2 ((r139.ul hg).at_ el)).cell O
        exact Trq (R.ld O O c474) (show Rd hf [0] [hh] ar.Tree from r475)
       ·intro vs eo lW hN hV
        have ep:=(((N.trans P).trans Q).trans au).t lW O
        have c4:vs 0 = .agg [e,k].toArray:=(hN 0 (zaY O))
        obtain⟨vs,rfl⟩:=zaC c4
        have c5:vs 1=vS x1:=(hN 1 (zaY O))
        obtain⟨vs,rfl⟩:=zaC c5
        have c6:vs 3=vS ac.Who:=(hN 3 (zaY O))
        obtain⟨vs,rfl⟩:=zaC c6
        obtain⟨c7,c8⟩: ∃ v,vs 9=v:=⟨_,O⟩
        obtain⟨vs,rfl⟩:=zaC c8
        have hi:Rd eo [0] [c7] aq:=(hN 9 (zaY O))
        obtain⟨c9,da⟩: ∃ v,vs 18=v:=⟨_,O⟩
        obtain⟨vs,rfl⟩:=zaC da
        have hj:Rd eo [0] [c9] ar.Tree:=(hN 18 (zaY O))
        refine Tr.mono (T.call O (p73 (x0:=(Vm.Repo.mk J L)) (Repo.rd (K:=[0]) J L (r139.ul ep) (r142.ul ep)) hi hj g8)) ?_
        rintro _ _ ⟨db,rfl,hk,⟨dc,dd,rfl,hl,hn⟩⟩
        have ho:=hl.sub (M:=[0]) O
        have hp:=hn.sub (M:=[0]) O
        exact⟨db,O,hk,(show(.tuple [.agg [dc,dd].toArray,vI a.2].toArray:Value) = .tuple [.agg [dc,dd].toArray,vI a.2].toArray/\Rd db [0] [dc] a.1.Commits/\Rd db [0] [dd] a.1.Heads from⟨O,ho,hp⟩)⟩
       ·intro vs er lW hN hV
        obtain⟨b,d,G⟩: ∃ b d:Value,vs 19 = .tuple [.agg [b,d].toArray,vI a.2].toArray:=⟨_,_,(hN 19 (zaY O)).1⟩
        obtain⟨vs,rfl⟩:=zaC G
        have jz:Rd er [0] [b] a.1.Commits:=(hN 19 (zaY O)).2.1
        have j0:Rd er [0] [d] a.1.Heads:=(hN 19 (zaY O)).2.2
        exact Trq (R.mv (v:= .tuple [Value.agg [b,d].toArray,vI a.2].toArray) O) O
       ·intro vs es lW hN hV
        obtain⟨b,d,G⟩: ∃ b d:Value,vs 19 = .tuple [.agg [b,d].toArray,vI a.2].toArray:=⟨_,_,(hN 19 (zaY O)).1⟩
        obtain⟨vs,rfl⟩:=zaC G
        have j1:Rd es [0] [b] a.1.Commits:=(hN 19 (zaY O)).2.1
        have j2:Rd es [0] [d] a.1.Heads:=(hN 19 (zaY O)).2.2
        have av:vs 20 = .tuple [.agg [b,d].toArray,vI a.2].toArray:=(hN 20 (zaY O))
        obtain⟨vs,rfl⟩:=zaC av
        exact Trq (R.ext (vs:=[Value.agg [b,d].toArray,vI a.2]) (v:= .agg [b,d].toArray) O O) O
       ·intro vs et lW hN hV
        obtain⟨b,d,G⟩: ∃ b d:Value,vs 19 = .tuple [.agg [b,d].toArray,vI a.2].toArray:=⟨_,_,(hN 19 (zaY O)).1⟩
        obtain⟨vs,rfl⟩:=zaC G
        have j3:Rd et [0] [b] a.1.Commits:=(hN 19 (zaY O)).2.1
        have j4:Rd et [0] [d] a.1.Heads:=(hN 19 (zaY O)).2.2
        have av:vs 20 = .tuple [.agg [b,d].toArray,vI a.2].toArray:=(hN 20 (zaY O))
        obtain⟨vs,rfl⟩:=zaC av
        exact Trq (R.ext (vs:=[Value.agg [b,d].toArray,vI a.2]) (v:=vI a.2) O O) O
       ·intro vs j5 lW hN hV
        refine Tr.mono (T.alloc 17 (cs:=[.slice none 0 0, .slice none 0 0]) O) ?_
        rintro _ _ ⟨de,eu,rfl,rfl,hq,hr⟩
        exact⟨eu,O,hq,(show(ptr (bx de):Value)=ptr (bx de)/\Bx eu 17 de [.slice none 0 0, .slice none 0 0] from⟨O,hr⟩)⟩
       ·intro vs df lW hN hV
        obtain⟨b,d,G⟩: ∃ b d:Value,vs 19 = .tuple [.agg [b,d].toArray,vI a.2].toArray:=⟨_,_,(hN 19 (zaY O)).1⟩
        obtain⟨vs,rfl⟩:=zaC G
        have hs:Rd df [0] [b] a.1.Commits:=(hN 19 (zaY O)).2.1
        have ht:Rd df [0] [d] a.1.Heads:=(hN 19 (zaY O)).2.2
        have dg:vs 21 = .agg [b,d].toArray:=(hN 21 (zaY O))
        obtain⟨vs,rfl⟩:=zaC dg
        obtain⟨x,dh⟩: ∃ x,vs 23=ptr (bx x):=⟨_,((hN 23 (zaY O))).1⟩
        obtain⟨vs,rfl⟩:=zaC dh
        have hu:Bx df 17 x [.slice none 0 0, .slice none 0 0]:=(hN 23 (zaY O)).2
        refine Tr.mono (T.sta (vs:=[b,d]) hu O O (zaa hs.oc (zaa ht.oc za0)) O O) ?_
        rintro _ _ ⟨ew,rfl,hw,hx⟩
        exact⟨ew,O,hw,(show(ptr (bx x))=ptr (bx x)/\Bx ew 17 x [b,d] from⟨O,hx⟩)⟩
       ·intro vs j6 lW hN hV
        have di:vs 22=vI a.2:=(hN 22 (zaY O))
        obtain⟨vs,rfl⟩:=zaC di
        exact Trq (R.as (v:=vI a.2) O) O
       ·intro vs aw U hN
        have dj:=((((cf.trans N).trans P).trans Q).trans au).t U
        have ex:=(eh.up F).up U
        have c4:vs 0 = .agg [e,k].toArray:=(hN 0 (zaY O))
        obtain⟨vs,rfl⟩:=zaC c4
        have c5:vs 1=vS x1:=(hN 1 (zaY O))
        obtain⟨vs,rfl⟩:=zaC c5
        have co:vs 2=ptr ((bx ap).add 1):=(hN 2 (zaY O))
        obtain⟨vs,rfl⟩:=zaC co
        have c6:vs 3=vS ac.Who:=(hN 3 (zaY O))
        obtain⟨vs,rfl⟩:=zaC c6
        have cu:vs 4 = .agg [e,k].toArray:=(hN 4 (zaY O))
        obtain⟨vs,rfl⟩:=zaC cu
        have cp:vs 5=i:=(hN 5 (zaY O))
        obtain⟨vs,rfl⟩:=zaC cp
        have cq:vs 6=vI f:=(hN 6 (zaY O))
        obtain⟨vs,rfl⟩:=zaC cq
        have ct:vs 7=ptr ((slA i).add ((f).toNat*Rp.sz (Int))):=(hN 7 (zaY O))
        obtain⟨vs,rfl⟩:=zaC ct
        have cv:vs 8=vI cm:=(hN 8 (zaY O))
        obtain⟨vs,rfl⟩:=zaC cv
        obtain⟨c7,c8⟩: ∃ v,vs 9=v:=⟨_,O⟩
        obtain⟨vs,rfl⟩:=zaC c8
        have j7:Rd aw [0] [c7] aq:=(hN 9 (zaY O))
        have cw:vs 10=ptr ((bx af).add 0):=(hN 10 (zaY O))
        obtain⟨vs,rfl⟩:=zaC cw
        have c0:vs 11=e:=(hN 11 (zaY O))
        obtain⟨vs,rfl⟩:=zaC c0
        have cx:vs 12=i:=(hN 12 (zaY O))
        obtain⟨vs,rfl⟩:=zaC cx
        have cy:vs 13=vI f:=(hN 13 (zaY O))
        obtain⟨vs,rfl⟩:=zaC cy
        have cz:vs 14=ptr ((slA i).add ((f).toNat*Rp.sz (Int))):=(hN 14 (zaY O))
        obtain⟨vs,rfl⟩:=zaC cz
        have c1:vs 15=vI E:=(hN 15 (zaY O))
        obtain⟨vs,rfl⟩:=zaC c1
        have c2:vs 16=ptr ((slA e).add ((E).toNat*Rp.sz (Commit))):=(hN 16 (zaY O))
        obtain⟨vs,rfl⟩:=zaC c2
        have c3:vs 17=ptr (((slA e).add ((E).toNat*Rp.sz (Commit))).add 2):=(hN 17 (zaY O))
        obtain⟨vs,rfl⟩:=zaC c3
        obtain⟨c9,da⟩: ∃ v,vs 18=v:=⟨_,O⟩
        obtain⟨vs,rfl⟩:=zaC da
        have j8:Rd aw [0] [c9] ar.Tree:=(hN 18 (zaY O))
        obtain⟨b,d,G⟩: ∃ b d:Value,vs 19 = .tuple [.agg [b,d].toArray,vI a.2].toArray:=⟨_,_,(hN 19 (zaY O)).1⟩
        obtain⟨vs,rfl⟩:=zaC G
        have ey:Rd aw [0] [b] a.1.Commits:=(hN 19 (zaY O)).2.1
        have ez:Rd aw [0] [d] a.1.Heads:=(hN 19 (zaY O)).2.2
        have av:vs 20 = .tuple [.agg [b,d].toArray,vI a.2].toArray:=(hN 20 (zaY O))
        obtain⟨vs,rfl⟩:=zaC av
        have dg:vs 21 = .agg [b,d].toArray:=(hN 21 (zaY O))
        obtain⟨vs,rfl⟩:=zaC dg
        have di:vs 22=vI a.2:=(hN 22 (zaY O))
        obtain⟨vs,rfl⟩:=zaC di
        obtain⟨x,dh⟩: ∃ x,vs 23=ptr (bx x):=⟨_,(hN 24 (zaY O)).1⟩
        obtain⟨vs,rfl⟩:=zaC dh
        have hy:Bx aw 17 x [b,d]:=(hN 24 (zaY O)).2
        have hz:vs 25=vI a.2:=(hN 25 (zaY O))
        obtain⟨vs,rfl⟩:=zaC hz
        refine ssr (mi O (Lw.ne O (nl (cn Y (fun Y=>?_) fun Y=>?_))))
        ·refine sr (la ((((ed.up A).up D).up F).up U) (cr Y (fun _=>p72 (k0:=18) (k1:=19) (Repo.rd (K:=[0]) x0.Commits x0.Heads (B.ul dj) (S.ul dj))) ?_))
         rintro e0 _ j9 Y e1 ⟨e2,e3,rfl,e4,e5⟩
         have h1:=dj.n e1
         refine mi O (sta (ex.up e1) (zaa e4.oc (zaa e5.oc za0)) fun ka dk h2=>?_)
         have h3:=h1.t dk
         refine Ni O ?_
         obtain⟨h4,h5,dl,h6⟩:=zn3 _ 18
         have h7:Rd (α:=List Vm.Commit) h4 [0] [e2] e0.Commits:=by rw[h6];exact((e4.up dk).rd.dye 18).sub (M:=[0]) O
         have h8:=h3.t dl
         obtain⟨h9,ia,e6,ib⟩:=zn3 _ 19
         have ic:Rd (α:=List Vm.Head) h9 [0] [e3] e0.Heads:=by rw[ib];exact(((e5.up dk).up dl).rd.dye 19).sub (M:=[0]) O
         have e7:=e6.s
         cases Y
         rw[<- ia.trans (h5)]
         exact Cw.ret (zhl O ((h2.up dl).up e6) O (Res.mk (h8.trans e7) ⟨e2,e3,O,(h7.ul e7),ic⟩))
        ·refine sk (rg (Lw.r O (R.lda (cs:=[b,d]) hy.cells O O) (sta (bm.up U) (zaa ey.oc (zaa ez.oc za0)) fun id ax ie=>?_)))
         have e8:=ax.s
         exact nl ((ag) ⟨aj,ak,am,a.1.Commits,a.1.Heads,ptr (bx ap),ptr (bx x),vI a.2,an,ao,b,d,id,O,(((((C.j A).j D).j F).j U).j ax).w,O,(((ef.up F).up U).up ax),(((eg.up F).up U).up ax),(ex.up ax),(ey.ul e8),(ez.ul e8),ie,Y⟩)
    ·refine Cw.exit ?_
     rw[go]at Y
     refine sr (la eb (sta ea (zaa r139.oc (zaa r142.oc za0)) fun kb ig ih=>?_))
     have dm:=ig.s
     refine Ni O ?_
     cases Y
     exact Cw.ret (zhl O ih O (Res.mk (cf.trans dm) ⟨e,k,O,(r139.ul dm),(r142.ul dm)⟩))
  ·refine rg (la a1 (ms O (ca Y (fun _=>p69 (Repo.rd (K:=[0]) x0.Commits x0.Heads (B.ul ae) (S.ul ae))) fun kc ii Y bn=>?_)))
   have ij:=ae.n bn
   refine Lw.lt O (mb O (bs Y (fun ay Y=>?_) fun ay Y=>?_))
   ·exact psk 7 ay O (Pb ay O (nl ((ag) ⟨true,ii,O,bn,O,Y⟩)))
   ·exact wak 7 ay (mi O (fl (a1.up bn) O (Lw.ln x0.Commits (B.ul ij) O (Lw.sub O (ca Y (fun _=>p71) fun ik il Y im=>Lw.r O (R.not O) (Pb ay O (nl ((ag) ⟨(!ik),il,O,(bn.j im).w,O,Y⟩))))))))
theorem p26 {x0 d f x1 x2 r}(h:Rd W K [d,f] x0)(Y:Vm.ziD x0 x1 x2=some r):Q1 26 [.agg [d,f].toArray,vS x1,vI x2] W [] fun W' v=> ∃ a b,v = .tuple [.agg [a,b].toArray,vI r.2].toArray/\Rd W' (0::K) [a] r.1.Commits/\Rd W' (0::K) [b] r.1.Heads:=
 (c26 (h.view _) Y).ad (fk 0) fun _ _ ⟨a,b,e,i,k⟩=>⟨a,b,e,i.back O,k.back O⟩
theorem c92 {x0 G H x1 x2 y r}(h0:Rd W0 [0] [G,H] x0)(z:Rd W0 [0] [y] x2)(Y:Vm.zg0 x0 x1 x2=some r):Q0 92 [.agg [G,H].toArray,vI x1,y] W0 fun Wf v=> ∃ I,v=I/\OwS Wf LL [] [I] r:=by
 unfold Vm.zg0 at Y
 obtain⟨a5,a6,J,L,M⟩:=Repo.split h0
 simp only[List.cons.injEq,and_true,true_and]at J
 obtain⟨rfl,rfl⟩:=J
 refine zaz.of Tryz.func92 O O O O (sr (bo 2 O fun g1 W1 l1 N=>?_))
 have A:=l1.o
 refine Nv (.slice none 0 0) O (sr (la N (mi O (cr Y (fun _=>p126 (k0:=3) (Repo.rd (K:=[0]) x0.Commits x0.Heads (L.ul A) (M.ul A))) ?_))))
 rintro z5 a P Y Q ⟨_,rfl,ak⟩
 have S:=A.n Q
 refine Nv a O (ssr (mv y O (Lw.ln x2 (z.ul S) O (mi O (nl (Cw.block ?_))))))
 obtain⟨am,an,Y⟩:=zbM Y
 refine Cw.loop 17 34 [9,11,17] (fun m l w=> ∃ e f U B h,CW.w h=w/\Le [3] P h/\l=[U,B,vI e]/\Ow h 3 [] [a] f/\Vm.zdb x0 x2 am m e f=some r) _ ⟨0,z5,undef,undef,P,O,Le.refl _ _,O,ak,Y⟩ ?_
 rintro(_ |ba) _ _ σ ⟨e,f,U,B,h,rfl,C,rfl,V,Y⟩
 ·cases Y
 unfold Vm.zdb at Y
 have b:=S.t C
 refine sr (Lw.lt O (nl (Cw.seq (cn Y (fun Y=>?_) fun Y=>?_))))
 ·refine sk (Cw.seq (Cw.block (sr ?_)))
  obtain⟨ao,W,Y⟩:=ob Y
  refine Lw.r O (R.ix (α:=Int) (z.ul b) W O O O) (Lw.r O (R.ld O O ((z.ul b).at_ W).int) (Ni O (sr (la ((N.up Q).up C) (mi O (cr Y (fun _=>p126 (k0:=4) (Repo.rd (K:=[0]) x0.Commits x0.Heads (L.ul b) (M.ul b))) ?_))))))
  rintro bb bc be Y X ⟨_,rfl,ap⟩
  refine cr Y (fun _=>p134 (K:=[4]) (k0:=5) ap.rd) ?_
  rintro Z bg aa Y ac ⟨_,rfl,D⟩
  refine Lw.ln Z D.rd O (mi O (nl (Cw.block ?_)))
  obtain⟨aq,ar,Y⟩:=zbM Y
  refine Cw.loop 26 33 [11,26] (fun m l w=> ∃ i k E d,CW.w d=w/\Le [3] aa d/\l=[E,vI i]/\Ow d 3 [] [a] k/\Vm.zdY Z aq m i k=some r) _ ⟨0,f,B,aa,O,Le.refl _ _,O,((V.up X).up ac),Y⟩ ?_
  rintro(_ |bh) _ _ σ ⟨i,k,E,d,rfl,x,rfl,F,Y⟩
  ·cases Y
  unfold Vm.zdY at Y
  refine sr (Lw.lt O (nl (Cw.seq (cn Y (fun Y=>?_) fun Y=>?_))))
  ·refine sk (Cw.seq (Cw.block (sr ?_)))
   obtain⟨au,ae,Y⟩:=ob Y
   refine Lw.r O (R.ix (α:=Int) (D.up x).rd ae O O O) (Lw.r O (R.ld O O ((D.up x).rd.at_ ae).int) (Ni O (rg (mv a O (mi O ?_)))))
   obtain⟨bi,av,Y⟩:=ob Y
   refine Lw.r O (R.ix (α:=Bool) F.rd av O O O) ?_
   obtain⟨aw,ax,Y⟩:=ob Y
   refine Lw.u (T.stS (K':=[]) F (rdB _) ax O O O) ?_
   rintro _ _ ⟨ay,rfl,az,a0⟩
   exact nl (rg (Lw.add O (mi O (nl ((agm) ⟨w64 (i+1),aw,vI au,ay,O,(x.j az).w,O,a0,Y⟩)))))
  ·refine Cw.exit ?_
   rw[ar]at Y
   exact rg (Lw.add O (mi O (nl ((agm) ⟨w64 (e+1),k,vI ao,E,d,O,(((C.j X).j ac).j x).w,O,F,Y⟩))))
 ·refine Cw.exit ?_
  rw[an]at Y
  refine sr (mv a O (cr Y (fun _=>p134 (K:=[3]) (k0:=6) V.rd) ?_))
  rintro bj af bk Y a1 ⟨_,rfl,a3⟩
  have a4:=b.n a1
  refine Nv af O ?_
  cases Y
  exact Cw.ret (zkN O (Res.mk a4 ⟨af,O,a3.s.sub O O⟩))
theorem p92 {x0 b d x1 x2 f k0 r}(h:Rd W K [b,d] x0)(i:Rd W K [f] x2)(Y:Vm.zg0 x0 x1 x2=some r):Q1 92 [.agg [b,d].toArray,vI x1,f] W [] fun W' v=> ∃ a,v=a/\Ow W' k0 [] [a] r:=
 (c92 (h.view _) (i.view _) Y).ad (fk k0) fun _ _ ⟨a,e,k⟩=>⟨a,e,k.back (ziQ _)⟩
end Go.Sx
