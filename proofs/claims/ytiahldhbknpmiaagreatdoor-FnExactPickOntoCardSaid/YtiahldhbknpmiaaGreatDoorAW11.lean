/- Walks: each function answers as its model, printed by a program of ours. Conditions: the arguments read as they are given. -/
import Derived.Test.YtiahldhbknpmiaaGreatDoorATs
import Derived.Test.YtiahldhbknpmiaaGreatDoorAM5
import Derived.Test.YtiahldhbknpmiaaGreatDoorAW0
import Derived.Test.YtiahldhbknpmiaaGreatDoorAW10
import Derived.Test.YtiahldhbknpmiaaGreatDoorAW2
import Derived.Test.YtiahldhbknpmiaaGreatDoorAW3
import Derived.Test.YtiahldhbknpmiaaGreatDoorAW5
import Derived.Test.YtiahldhbknpmiaaGreatDoorAW6
import Derived.Test.YtiahldhbknpmiaaGreatDoorAW8
namespace Go.Sx
open Go Go.Proofs Go.Vm Rp
set_option linter.unusedVariables false
set_option linter.unusedSimpArgs false
variable {W W0:CW}{K:List Nat}
theorem c27 {x0 f cu x1 x2 r}(h0:Rd W0 [0] [f,cu] x0)(cv:Gl 0 W0 [0])(Y:Vm.zhx x0 x1 x2=some r):Q0 27 [.agg [f,cu].toArray,vS x1,vI x2] W0 fun Wf v=> ∃ cw cx,v = .tuple [.agg [cw,cx].toArray,vI r.2].toArray/\OwS Wf [31] [] [cw] r.1.Commits/\OwS Wf [32] [] [cx] r.1.Heads:=by
 unfold Vm.zhx at Y
 obtain⟨gn,go,cy,i,D⟩:=Repo.split h0
 simp only[List.cons.injEq,and_true,true_and]at cy
 obtain⟨rfl,rfl⟩:=cy
 refine zaz.of Tryz.func27 O O O O (sr (bo 2 O fun g1 W1 l1 b1=>?_))
 have a2:=l1.o
 refine al 3 [.slice none 0 0, .slice none 0 0] fun g3 W3 l3 b3=>?_
 have a4:=a2.n l3
 refine Ni O (ssr (la (b1.up l3) (ca Y (fun _=>p43 (Repo.rd (K:=[0]) x0.Commits x0.Heads (i.ul a4) (D.ul a4)) (cv.ul a4)) fun z9 gv Y ai=>?_)))
 have aj:=a4.n ai
 have a7:=(b1.up l3).up ai
 refine Lw.r O (R.not O) (nl (cn Y (fun Y=>?_) fun Y=>?_))
 ·refine sr (Lw.r O (R.bd (zs:=[.slice none 0 0, .slice none 0 0]) (cs:=[.slice none 0 0, .slice none 0 0]) [] O O O ze4) (sta (b3.up ai) (zaa O (zaa O za0)) fun gw d2 d3=>?_))
  have d4:=aj.t d2
  refine Ni O ?_
  cases Y
  exact Cw.ret (zhl O d3 O (Res.mk d4 ⟨.slice none 0 0, .slice none 0 0,O,(znU []).sub O O,(znU []).sub O O⟩))
 ·refine sk (sr (la a7 (ms O (ca Y (fun _=>p88 (Repo.rd (K:=[0]) x0.Commits x0.Heads (i.ul aj) (D.ul aj))) fun gx c4 Y ak=>?_))))
  have a8:=aj.n ak
  refine Ni O (Cw.seq ?_)
  obtain⟨d5,d6,Y⟩:=zbM Y
  refine Cw.join 21 28 [28] (fun l w=> ∃ a9 ba,CW.w ba=w/\Le [] c4 ba/\l=[vB a9]/\d5 a9=some r) ?_ ?_
  ·rintro _ _ σ ⟨a9,ba,rfl,bb,rfl,Y⟩
   rw[d6]at Y
   have G:=a8.n bb
   have bc:=(a7.up ak).up bb
   have c5:=((b3.up ai).up ak).up bb
   refine cn Y (fun Y=>?_) fun Y=>?_
   ·refine sr (la bc (cr Y (fun _=>p90 (k0:=4) (k1:=5) (Repo.rd (K:=[0]) x0.Commits x0.Heads (i.ul G) (D.ul G))) ?_))
    rintro gy _ gz Y c6 ⟨d7,d8,rfl,c7,c8⟩
    have d9:=G.n c6
    refine sta (c5.up c6) (zaa c7.oc (zaa c8.oc za0)) fun g0 be ea=>?_
    have eb:=d9.t be
    refine Ni O ?_
    obtain⟨g2,ec,bg,ed⟩:=(c7.up be).dyeO 31
    have ee:=eb.t bg
    obtain⟨g4,ef,bh,eg⟩:=((c8.up be).up bg).dyeO 32
    have eh:=ee.t bh
    cases Y
    rw[<- ef.trans (ec)]
    exact Cw.ret (zhl O ((ea.up bg).up bh) O (Res.mk eh ⟨d7,d8,O,(ed.up bh).s,eg.s⟩))
   ·refine sk (sr (la bc (cr Y (fun _=>p90 (k0:=6) (k1:=7) (Repo.rd (K:=[0]) x0.Commits x0.Heads (i.ul G) (D.ul G))) ?_)))
    rintro c9 _ g5 Y bi ⟨g6,g7,rfl,ei,ej⟩
    have ek:=G.n bi
    refine ms O (mi O (cr Y (fun _=>p91 (K:=[0]) (k0:=8) (k1:=9) (c0:=6) (c1:=7) (x0:=(Vm.Repo.mk c9.Commits c9.Heads)) ei ej O) ?_))
    rintro da _ g8 Y bj ⟨el,em,rfl,db,dc⟩
    have en:=ek.t bj
    refine al 10 [.slice none 0 0, .slice none 0 0] fun dd g9 E eo=>?_
    have ep:=en.n E
    refine sta eo (zaa (db.up E).oc (zaa (dc.up E).oc za0)) fun er S es=>?_
    have et:=ep.t S
    have de:=(((bc.up bi).up bj).up E).up S
    refine nl (ssr (la de (mi O (mi O (Lw.t O (T.bsS (α:=Int) (xs:=[x2]) 11 [] (W:=er) [vI x2] (Each.cons ((rdI _)) Each.nil) O) ?_)))))
    rintro ha _ ⟨hb,rfl,H,eu⟩
    have bk:=et.n H
    refine cr Y (fun _=>p92 (K:=[0,11]) (k0:=12) ((Repo.rd (K:=[0]) x0.Commits x0.Heads (i.ul bk) (D.ul bk)).sub (M:=[0,11]) O) (eu.rd.sub (M:=[0,11]) O)) ?_
    rintro df hc dg Y I ⟨_,rfl,bl⟩
    have ew:=bk.n I
    refine Lw.ln df bl.rd O (mi O (nl (Cw.block ?_)))
    obtain⟨ex,ey,Y⟩:=zbM Y
    refine Cw.loop 42 73 [7,11,12,13,42] (fun m l w=> ∃ U am V X J L dh bm bn Z aa A B k,CW.w k=w/\Le [10,15,16,17] dg k/\l=[vI U,dh,bm,bn,vI am]/\Ow k 13 [] [Z] V/\Ow k 14 [] [aa] X/\Bx k 3 g3 [Z,aa]/\Ow k 8 [] [A] J/\Ow k 9 [] [B] L/\Bx k 10 dd [A,B]/\Vm.zeZ x0 x1 df ex m U am V X J L=some r) _ ⟨0,0,([]:List Commit),([]:List Head),da.Commits,da.Heads,undef,undef,undef, .slice none 0 0, .slice none 0 0,el,em,dg,O,Le.refl _ _,O,owN 13 [],owN 14 [],((((((c5.up bi).up bj).up E).up S).up H).up I),((((db.up E).up S).up H).up I),((((dc.up E).up S).up H).up I),((es.up H).up I),Y⟩ ?_
    rintro(_ |he) _ _ σ ⟨U,am,V,X,J,L,dh,bm,bn,Z,aa,A,B,k,rfl,ac,rfl,di,dj,bp,an,ao,ap,Y⟩
    ·cases Y
    unfold Vm.zeZ at Y
    have aq:=ew.t ac
    have bq:=((de.up H).up I).up ac
    refine sr (Lw.lt O (nl (Cw.seq (cn Y (fun Y=>?_) fun Y=>?_))))
    ·refine sk ?_
     obtain⟨ez,e0,Y⟩:=zbM Y
     refine Cw.join 44 72 [7,11,12,13] (fun l w=> ∃ ar au av aw ax br bu bv ay az a0 a1 z,CW.w z=w/\Le [10,15,16,17] k z/\l=[vI ar,br,bu,bv]/\Ow z 13 [] [ay] au/\Ow z 14 [] [az] av/\Bx z 3 g3 [ay,az]/\Ow z 8 [] [a0] aw/\Ow z 9 [] [a1] ax/\Bx z 10 dd [a0,a1]/\ez ar au av aw ax=some r) ?_ ?_
     ·rintro _ _ σ ⟨ar,au,av,aw,ax,br,bu,bv,ay,az,a0,a1,z,rfl,e1,rfl,e2,e3,e4,e5,e6,e7,Y⟩
      rw[e0]at Y
      exact rg (Lw.add O (mi O (nl ((agm) ⟨ar,w64 (am+1),au,av,aw,ax,br,bu,bv,ay,az,a0,a1,z,O,(ac.j e1).w,O,e2,e3,e4,e5,e6,e7,Y⟩))))
     ·refine Cw.block (sr ?_)
      obtain⟨e,dk,Y⟩:=ob Y
      refine Lw.r O (R.ix (α:=Int) (bl.up ac).rd dk O O O) (Lw.r O (R.ld O O ((bl.up ac).rd.at_ dk).int) (Ni O (ssr (fl bq O (mi O ?_)))))
      obtain⟨e8,dl,Y⟩:=ob Y
      refine Lw.r O (R.ix (α:=Commit) (i.ul aq) dl O O O) (Lw.fa O ?_)
      obtain⟨hf,c159,r160⟩:=(Commit.at0 ((i.ul aq).at_ dl)).cell O
      refine Lw.r O (R.ld O O c159) (Lw.ln e8.Parents r160 O (Lw.gt O (nl (cn Y (fun Y=>?_) fun Y=>?_))))
      ·exact Cw.exit ((ag) ⟨U,V,X,J,L,vI e,bm,bn,Z,aa,A,B,k,O,Le.refl _ _,O,di,dj,bp,an,ao,ap,Y⟩)
      ·refine sk (Cw.seq ?_)
       obtain⟨bw,dm,Y⟩:=ob Y
       obtain⟨a,e9,Y⟩:=ob Y
       refine Cw.par [[],[],[],[2],[],[2,3,4],[2,3,4,5],[2,3,4,5,6],[],[0,1,2,3,4,5,6,7,8],[0,1,2,3,4,5,6,7,8,9],[0,1,2,3,4,5,6,7,8,9,10],[0,1,2,3,4,5,6,7,8,9,10],[],[0,1,2,3,4,5,6,7,8,9,10,11,13],[0,1,2,3,4,5,6,7,8,9,10,11,12,13,14]] [[],[],[],[2],[],[3,4],[5],[6],[],[0,1,7,8],[9],[9,10],[9,10],[],[9,11,13],[12]] [[],[],[],[],[],[],[],[],[],[],[],[],[],[],[17],[]] [[0],[1],[2],[3],[4],[5],[6],[7],[8],[9],[9,10],[9,11],[12],[13],[9,13],[15]] [[],[],[],[],[],[],[],[],[],[15,16],[],[],[],[17],[17],[]] [0,1,2,3,4,5,6,7,8,9,10,11,12,14,15] [17] [fun vs W=>(vs 0) = .agg [A,B].toArray,fun vs W=>(vs 1)=vS x1,fun vs W=>(vs 2)=ptr ((bx g1).add 0),fun vs W=>(vs 3)=f,fun vs W=>(vs 4)=vI e,fun vs W=>(vs 5)=ptr ((slA f).add ((e).toNat*Rp.sz (Commit))),fun vs W=>(vs 6)=ptr (((slA f).add ((e).toNat*Rp.sz (Commit))).add 1),fun vs W=>(vs 7)=vS bw.Who,fun vs W=>(vs 8)=vI e,fun vs W=>(vs 9) = .tuple [.agg [(zas (zas (vs 9) 0) 0),(zas (zas (vs 9) 0) 1)].toArray,vI a.2].toArray/\Ow W 15 [] [(zas (zas (vs 9) 0) 0)] a.1.Commits/\Ow W 16 [] [(zas (zas (vs 9) 0) 1)] a.1.Heads,fun vs W=>(vs 10) = .tuple [.agg [(zas (zas (vs 9) 0) 0),(zas (zas (vs 9) 0) 1)].toArray,vI a.2].toArray,fun vs W=>(vs 11) = .agg [(zas (zas (vs 9) 0) 0),(zas (zas (vs 9) 0) 1)].toArray,fun vs W=>(vs 12)=vI a.2,fun vs W=>(vs 13)=ptr (bx (pg (vs 13)))/\Bx W 17 (pg (vs 13)) [.slice none 0 0, .slice none 0 0],fun vs W=>(vs 13)=ptr (bx (pg (vs 13)))/\Bx W 17 (pg (vs 13)) [(zas (zas (vs 9) 0) 0),(zas (zas (vs 9) 0) 1)],fun vs W=>(vs 15)=vI a.2] [] mixed (by kernel_rfl) O zrl.nil ?_
       intro hg x
       have a3:=aq.n x
       refine⟨(zbu.cons ?_ (zbu.cons ?_ (zbu.cons ?_ (zbu.cons ?_ (zbu.cons ?_ (zbu.cons ?_ (zbu.cons ?_ (zbu.cons ?_ (zbu.cons ?_ (zbu.cons ?_ (zbu.cons ?_ (zbu.cons ?_ (zbu.cons ?_ (zbu.cons ?_ (zbu.cons ?_ (zbu.cons ?_ zbu.nil)))))))))))))))),(zeJ.cons SE (zeJ.cons SE (zeJ.cons SE (zeJ.cons SE (zeJ.cons SE (zeJ.cons SE (zeJ.cons SE (zeJ.cons SE (zeJ.cons SE (zeJ.cons (fun vs vs' W W' _ hv l hd h=>by(show(vs' 9) = .tuple [.agg [(zas (zas (vs' 9) 0) 0),(zas (zas (vs' 9) 0) 1)].toArray,vI a.2].toArray/\Ow W' 15 [] [(zas (zas (vs' 9) 0) 0)] a.1.Commits/\Ow W' 16 [] [(zas (zas (vs' 9) 0) 1)] a.1.Heads);rw[hv 9 (zaY O)];exact⟨h.1,h.2.1.upv l (zeg hd (c:=15) O),h.2.2.upv l (zeg hd (c:=16) O)⟩) (zeJ.cons (fun vs vs' W W' _ hv l hd h=>by(show(vs' 10) = .tuple [.agg [(zas (zas (vs' 9) 0) 0),(zas (zas (vs' 9) 0) 1)].toArray,vI a.2].toArray);rw[hv 9 (zaY O),hv 10 (zaY O)];exact h) (zeJ.cons (fun vs vs' W W' _ hv l hd h=>by(show(vs' 11) = .agg [(zas (zas (vs' 9) 0) 0),(zas (zas (vs' 9) 0) 1)].toArray);rw[hv 9 (zaY O),hv 11 (zaY O)];exact h) (zeJ.cons SE (zeJ.cons (fun vs vs' W W' _ hv l hd h=>by(show(vs' 13)=ptr (bx (pg (vs' 13)))/\Bx W' 17 (pg (vs' 13)) [.slice none 0 0, .slice none 0 0]);rw[hv 13 (zaY O)];exact⟨h.1,h.2.up l (zeg hd (c:=17) O)⟩) (zeJ.cons (fun vs vs' W W' _ hv l hd h=>by(show(vs' 13)=ptr (bx (pg (vs' 13)))/\Bx W' 17 (pg (vs' 13)) [(zas (zas (vs' 9) 0) 0),(zas (zas (vs' 9) 0) 1)]);rw[hv 9 (zaY O),hv 13 (zaY O)];exact⟨h.1,h.2.up l (zeg hd (c:=17) O)⟩) (zeJ.cons SE zeJ.nil)))))))))))))))),?_⟩
       ·intro vs hh lW hN hV
        exact Trq (R.lda (cs:=[A,B]) ((ap.up x).up lW O).cells O O) O
       ·intro vs hi lW hN hV
        exact Trq (R.mv (v:=vS x1) O) O
       ·intro vs hj lW hN hV
        exact Trq (R.fa O) O
       ·intro vs hk lW hN hV
        have bz:vs 2=ptr ((bx g1).add 0):=(hN 2 (zaY O))
        obtain⟨vs,rfl⟩:=zaC bz
        exact Trq (R.ld (v:=f) O O (((bq.up x).up lW O).cell O)) O
       ·intro vs hl lW hN hV
        exact Trq (R.mv (v:=vI e) O) O
       ·intro vs hn lW hN hV
        have fb:=a3.t lW O
        have b0:vs 3=f:=(hN 3 (zaY O))
        obtain⟨vs,rfl⟩:=zaC b0
        have b2:vs 4=vI e:=(hN 4 (zaY O))
        obtain⟨vs,rfl⟩:=zaC b2
        exact Trq (R.ix (α:=Commit) (i.ul fb) dm O O O) O
       ·intro vs ho lW hN hV
        have b4:vs 5=ptr ((slA f).add ((e).toNat*Rp.sz (Commit))):=(hN 5 (zaY O))
        obtain⟨vs,rfl⟩:=zaC b4
        exact Trq (R.fa O) O
       ·intro vs hp lW hN hV
        have fc:=a3.t lW O
        have b5:vs 6=ptr (((slA f).add ((e).toNat*Rp.sz (Commit))).add 1):=(hN 6 (zaY O))
        obtain⟨vs,rfl⟩:=zaC b5
        exact Trq (R.ld O O (Commit.at1 ((i.ul fc).at_ dm)).str) O
       ·intro vs hq lW hN hV
        exact Trq (R.mv (v:=vI e) O) O
       ·intro vs hr lW hN hV
        have fd:=a3.t lW O
        have b6:vs 0 = .agg [A,B].toArray:=(hN 0 (zaY O))
        obtain⟨vs,rfl⟩:=zaC b6
        have b7:vs 1=vS x1:=(hN 1 (zaY O))
        obtain⟨vs,rfl⟩:=zaC b7
        have b8:vs 7=vS bw.Who:=(hN 7 (zaY O))
        obtain⟨vs,rfl⟩:=zaC b8
        have b9:vs 8=vI e:=(hN 8 (zaY O))
        obtain⟨vs,rfl⟩:=zaC b9
        refine Tr.mono (T.call O (p77 (K:=[0,8,9]) (k0:=15) (k1:=16) (x0:=(Vm.Repo.mk J L)) ((Repo.rd (K:=[8,9]) J L (((an.up x).up lW O).rd.sub (M:=[8,9]) O) (((ao.up x).up lW O).rd.sub (M:=[8,9]) O)).sub (M:=[0,8,9]) O) ((cv.ul fd).sub (M:=[0,8,9]) O) e9)) ?_
        rintro _ _ ⟨cb,rfl,fe,⟨cc,cd,rfl,ff,fg⟩⟩
        exact⟨cb,O,fe,(show(.tuple [.agg [cc,cd].toArray,vI a.2].toArray:Value) = .tuple [.agg [cc,cd].toArray,vI a.2].toArray/\Ow cb 15 [] [cc] a.1.Commits/\Ow cb 16 [] [cd] a.1.Heads from⟨O,ff,fg⟩)⟩
       ·intro vs dn lW hN hV
        obtain⟨b,d,C⟩: ∃ b d:Value,vs 9 = .tuple [.agg [b,d].toArray,vI a.2].toArray:=⟨_,_,(hN 9 (zaY O)).1⟩
        obtain⟨vs,rfl⟩:=zaC C
        have hs:Ow dn 15 [] [b] a.1.Commits:=(hN 9 (zaY O)).2.1
        have ht:Ow dn 16 [] [d] a.1.Heads:=(hN 9 (zaY O)).2.2
        exact Trq (R.mv (v:= .tuple [Value.agg [b,d].toArray,vI a.2].toArray) O) O
       ·intro vs dp lW hN hV
        obtain⟨b,d,C⟩: ∃ b d:Value,vs 9 = .tuple [.agg [b,d].toArray,vI a.2].toArray:=⟨_,_,(hN 9 (zaY O)).1⟩
        obtain⟨vs,rfl⟩:=zaC C
        have hu:Ow dp 15 [] [b] a.1.Commits:=(hN 9 (zaY O)).2.1
        have hw:Ow dp 16 [] [d] a.1.Heads:=(hN 9 (zaY O)).2.2
        have ae:vs 10 = .tuple [.agg [b,d].toArray,vI a.2].toArray:=(hN 10 (zaY O))
        obtain⟨vs,rfl⟩:=zaC ae
        exact Trq (R.ext (vs:=[Value.agg [b,d].toArray,vI a.2]) (v:= .agg [b,d].toArray) O O) O
       ·intro vs dq lW hN hV
        obtain⟨b,d,C⟩: ∃ b d:Value,vs 9 = .tuple [.agg [b,d].toArray,vI a.2].toArray:=⟨_,_,(hN 9 (zaY O)).1⟩
        obtain⟨vs,rfl⟩:=zaC C
        have hx:Ow dq 15 [] [b] a.1.Commits:=(hN 9 (zaY O)).2.1
        have hy:Ow dq 16 [] [d] a.1.Heads:=(hN 9 (zaY O)).2.2
        have ae:vs 10 = .tuple [.agg [b,d].toArray,vI a.2].toArray:=(hN 10 (zaY O))
        obtain⟨vs,rfl⟩:=zaC ae
        exact Trq (R.ext (vs:=[Value.agg [b,d].toArray,vI a.2]) (v:=vI a.2) O O) O
       ·intro vs hz lW hN hV
        refine Tr.mono (T.alloc 17 (cs:=[.slice none 0 0, .slice none 0 0]) O) ?_
        rintro _ _ ⟨ce,dr,rfl,rfl,fh,fi⟩
        exact⟨dr,O,fh,(show(ptr (bx ce):Value)=ptr (bx ce)/\Bx dr 17 ce [.slice none 0 0, .slice none 0 0] from⟨O,fi⟩)⟩
       ·intro vs cf lW hN hV
        obtain⟨b,d,C⟩: ∃ b d:Value,vs 9 = .tuple [.agg [b,d].toArray,vI a.2].toArray:=⟨_,_,(hN 9 (zaY O)).1⟩
        obtain⟨vs,rfl⟩:=zaC C
        have fj:Ow cf 15 [] [b] a.1.Commits:=(hN 9 (zaY O)).2.1
        have fm:Ow cf 16 [] [d] a.1.Heads:=(hN 9 (zaY O)).2.2
        have cg:vs 11 = .agg [b,d].toArray:=(hN 11 (zaY O))
        obtain⟨vs,rfl⟩:=zaC cg
        obtain⟨y,ch⟩: ∃ y,vs 13=ptr (bx y):=⟨_,((hN 13 (zaY O))).1⟩
        obtain⟨vs,rfl⟩:=zaC ch
        have fn:Bx cf 17 y [.slice none 0 0, .slice none 0 0]:=(hN 13 (zaY O)).2
        refine Tr.mono (T.sta (vs:=[b,d]) fn O O (zaa fj.oc (zaa fm.oc za0)) O O) ?_
        rintro _ _ ⟨ds,rfl,fo,fp⟩
        exact⟨ds,O,fo,(show(ptr (bx y))=ptr (bx y)/\Bx ds 17 y [b,d] from⟨O,fp⟩)⟩
       ·intro vs h1 lW hN hV
        have ci:vs 12=vI a.2:=(hN 12 (zaY O))
        obtain⟨vs,rfl⟩:=zaC ci
        exact Trq (R.as (v:=vI a.2) O) O
       ·intro vs cj F hN
        have ck:=a3.t F
        have dt:=(bp.up x).up F
        have b6:vs 0 = .agg [A,B].toArray:=(hN 0 (zaY O))
        obtain⟨vs,rfl⟩:=zaC b6
        have b7:vs 1=vS x1:=(hN 1 (zaY O))
        obtain⟨vs,rfl⟩:=zaC b7
        have bz:vs 2=ptr ((bx g1).add 0):=(hN 2 (zaY O))
        obtain⟨vs,rfl⟩:=zaC bz
        have b0:vs 3=f:=(hN 3 (zaY O))
        obtain⟨vs,rfl⟩:=zaC b0
        have b2:vs 4=vI e:=(hN 4 (zaY O))
        obtain⟨vs,rfl⟩:=zaC b2
        have b4:vs 5=ptr ((slA f).add ((e).toNat*Rp.sz (Commit))):=(hN 5 (zaY O))
        obtain⟨vs,rfl⟩:=zaC b4
        have b5:vs 6=ptr (((slA f).add ((e).toNat*Rp.sz (Commit))).add 1):=(hN 6 (zaY O))
        obtain⟨vs,rfl⟩:=zaC b5
        have b8:vs 7=vS bw.Who:=(hN 7 (zaY O))
        obtain⟨vs,rfl⟩:=zaC b8
        have b9:vs 8=vI e:=(hN 8 (zaY O))
        obtain⟨vs,rfl⟩:=zaC b9
        obtain⟨b,d,C⟩: ∃ b d:Value,vs 9 = .tuple [.agg [b,d].toArray,vI a.2].toArray:=⟨_,_,(hN 9 (zaY O)).1⟩
        obtain⟨vs,rfl⟩:=zaC C
        have du:Ow cj 15 [] [b] a.1.Commits:=(hN 9 (zaY O)).2.1
        have dv:Ow cj 16 [] [d] a.1.Heads:=(hN 9 (zaY O)).2.2
        have ae:vs 10 = .tuple [.agg [b,d].toArray,vI a.2].toArray:=(hN 10 (zaY O))
        obtain⟨vs,rfl⟩:=zaC ae
        have cg:vs 11 = .agg [b,d].toArray:=(hN 11 (zaY O))
        obtain⟨vs,rfl⟩:=zaC cg
        have ci:vs 12=vI a.2:=(hN 12 (zaY O))
        obtain⟨vs,rfl⟩:=zaC ci
        obtain⟨y,ch⟩: ∃ y,vs 13=ptr (bx y):=⟨_,(hN 14 (zaY O)).1⟩
        obtain⟨vs,rfl⟩:=zaC ch
        have fq:Bx cj 17 y [b,d]:=(hN 14 (zaY O)).2
        have fr:vs 15=vI a.2:=(hN 15 (zaY O))
        obtain⟨vs,rfl⟩:=zaC fr
        refine ssr (mi O (Lw.ne O (nl (cn Y (fun Y=>?_) fun Y=>?_))))
        ·refine sr (la ((bq.up x).up F) (cr Y (fun _=>p90 (k0:=18) (k1:=19) (Repo.rd (K:=[0]) x0.Commits x0.Heads (i.ul ck) (D.ul ck))) ?_))
         rintro h2 _ h3 Y dw ⟨fs,ft,rfl,dx,dy⟩
         have fu:=ck.n dw
         refine mi O (sta (dt.up dw) (zaa dx.oc (zaa dy.oc za0)) fun h4 cl fv=>?_)
         have fw:=fu.t cl
         refine Ni O ?_
         obtain⟨h5,fx,cm,fy⟩:=(dx.up cl).dyeO 31
         have fz:=fw.t cm
         obtain⟨h6,f0,co,f1⟩:=((dy.up cl).up cm).dyeO 32
         have f2:=fz.t co
         cases Y
         rw[<- f0.trans (fx)]
         exact Cw.ret (zhl O ((fv.up cm).up co) O (Res.mk f2 ⟨fs,ft,O,(fy.up co).s,f1.s⟩))
        ·refine sk (rg (Lw.r O (R.lda (cs:=[b,d]) fq.cells O O) (sta ((ap.up x).up F) (zaa du.oc (zaa dv.oc za0)) fun h7 N f3=>nl ?_)))
         obtain⟨h8,f4,P,f5⟩:=(du.up N).dyeO 8
         obtain⟨f6,f7,Q,f8⟩:=((dv.up N).up P).dyeO 9
         exact(ag) ⟨U,V,X,a.1.Commits,a.1.Heads,vI e,ptr (bx y),vI a.2,Z,aa,b,d,f6,f7.trans (f4),((((x.j F).j N).j P).j Q).w,O,(((((di.up x).up F).up N).up P).up Q),(((((dj.up x).up F).up N).up P).up Q),(((dt.up N).up P).up Q),(f5.up Q),f8,((f3.up P).up Q),Y⟩
    ·refine Cw.exit ?_
     rw[ey]at Y
     refine sr (la ap (sta bp (zaa an.oc (zaa ao.oc za0)) fun h9 cp f9=>?_))
     have ga:=aq.t cp
     refine Ni O ?_
     obtain⟨ia,gb,cq,gc⟩:=(an.up cp).dyeO 31
     have gd:=ga.t cq
     obtain⟨ib,gf,ct,gg⟩:=((ao.up cp).up cq).dyeO 32
     have gh:=gd.t ct
     cases Y
     rw[<- gf.trans (gb)]
     exact Cw.ret (zhl O ((f9.up cq).up ct) O (Res.mk gh ⟨A,B,O,(gc.up ct).s,gg.s⟩))
  ·refine rg (mi O (Lw.lt O (mb O (bs Y (fun af Y=>?_) fun af Y=>?_))))
   ·exact psk 4 af O (Pb af O (nl ((ag) ⟨true,c4,O,Le.refl _ _,O,Y⟩)))
   ·exact wak 4 af (la (a7.up ak) (mi O (ca Y (fun _=>p89 (Repo.rd (K:=[0]) x0.Commits x0.Heads (i.ul a8) (D.ul a8))) fun gj gk Y gm=>Lw.r O (R.not O) (Pb af O (nl ((ag) ⟨(!gj),gk,O,gm,O,Y⟩))))))
theorem p27 {x0 d f x1 x2 k0 k1 r}(h:Rd W K [d,f] x0)(i:Gl 0 W K)(Y:Vm.zhx x0 x1 x2=some r):Q1 27 [.agg [d,f].toArray,vS x1,vI x2] W [] fun W' v=> ∃ a b,v = .tuple [.agg [a,b].toArray,vI r.2].toArray/\Ow W' k0 [] [a] r.1.Commits/\Ow W' k1 [] [b] r.1.Heads:=
 zaz.adJ (J:=[]) (fun c=>bif Nat.beq c 0 then 0 else bif Nat.beq c 31 then k0 else bif Nat.beq c 32 then k1 else 0) (c27 (h.view _) (i.view _) Y) fun _ _ ⟨a,b,e,k,x⟩=>⟨a,b,e,k.one1.backN O,x.one1.backN O⟩
theorem c6 {x0 av aw x1 x2 r}(h0:Rd W0 [0] [av,aw] x0)(bb:Gl 0 W0 [0])(Y:Vm.zfj x0 x1 x2=some r):Q0 6 [.agg [av,aw].toArray,vS x1,vI x2] W0 fun Wf v=>v=vB r:=by
 unfold Vm.zfj at Y
 obtain⟨d9,ea,bc,S,U⟩:=Repo.split h0
 simp only[List.cons.injEq,and_true,true_and]at bc
 obtain⟨rfl,rfl⟩:=bc
 refine zaz.of Tryz.func6 O O O O (sr (bo 2 O fun g1 W1 l1 b1=>?_))
 have a2:=l1.o
 refine Nb O (ssr (ms O (Lw.r O (R.lenS O) (Lw.gt O (nl (cn Y (fun Y=>?_) fun Y=>?_))))))
 ·exact sr (Nb O (.ret (rt Y a2)))
 ·refine sk (sr (Ni O (sr (la b1 (mi O (ca Y (fun _=>p15 (Repo.rd (K:=[0]) x0.Commits x0.Heads (S.ul a2) (U.ul a2))) fun z6 W8 Y l8=>?_))))))
  have a9:=a2.n l8
  refine Ni O (ssr (mi O (Lw.lt O (nl (cn Y (fun Y=>?_) fun Y=>?_)))))
  ·exact sr (Nb O (.ret (rt Y a9)))
  ·refine sk (sr (la (b1.up l8) (cr Y (fun _=>p17 (k0:=3) (k1:=4) (Repo.rd (K:=[0]) x0.Commits x0.Heads (S.ul a9) (U.ul a9))) ?_)))
   rintro af _ ef Y be ⟨eg,eh,rfl,cu,cv⟩
   have cw:=a9.n be
   refine ms O (mi O (cr Y (fun _=>p26 (K:=[3,4]) (x0:=(Vm.Repo.mk af.Commits af.Heads)) (Repo.rd (K:=[3,4]) af.Commits af.Heads (cu.rd.sub (M:=[3,4]) O) (cv.rd.sub (M:=[3,4]) O))) ?_))
   rintro f _ ei Y bg ⟨ah,ai,rfl,cx,cy⟩
   have aj:=cx.sub (M:=[0,3,4]) O
   have ak:=cy.sub (M:=[0,3,4]) O
   have cz:=cw.n bg
   refine mv (.tuple [.agg [ah,ai].toArray,vI f.2].toArray) O (Lw.r O (R.ext (vs:=[.agg [ah,ai].toArray,vI f.2]) (v:= .agg [ah,ai].toArray) O O) (Lw.r O (R.ext (vs:=[.agg [ah,ai].toArray,vI f.2]) (v:=vI f.2) O O) (al 5 [.slice none 0 0, .slice none 0 0] fun ej ek H c2=>?_)))
   have c3:=cz.n H
   refine sta c2 (zaa aj.oc (zaa ak.oc za0)) fun el I c4=>?_
   have az:=c3.t I
   have bh:=((((b1.up l8).up be).up bg).up H).up I
   refine Ni O (sr (la bh (cr Y (fun _=>p17 (k0:=6) (k1:=7) (Repo.rd (K:=[0]) x0.Commits x0.Heads (S.ul az) (U.ul az))) ?_)))
   rintro B _ em Y D ⟨c5,c7,rfl,bi,bj⟩
   have c8:=az.n D
   refine al 8 [.slice none 0 0, .slice none 0 0] fun en eo h c9=>?_
   have da:=c8.n h
   refine sta c9 (zaa (bi.up h).oc (zaa (bj.up h).oc za0)) fun ep z bk=>?_
   have bl:=da.t z
   have bm:=(bi.up h).up z
   have bn:=(bj.up h).up z
   refine nl (sr (la bk (ms O (mi O (cr Y (fun _=>p27 (K:=[0,6,7]) (k0:=9) (k1:=10) (x0:=(Vm.Repo.mk B.Commits B.Heads)) ((Repo.rd (K:=[6,7]) B.Commits B.Heads (bm.rd.sub (M:=[6,7]) O) (bn.rd.sub (M:=[6,7]) O)).sub (M:=[0,6,7]) O) ((bb.ul bl).sub (M:=[0,6,7]) O)) ?_)))))
   rintro a _ er Y y ⟨am,an,rfl,bp,bq⟩
   have db:=bl.n y
   refine mv (.tuple [.agg [am,an].toArray,vI a.2].toArray) O (Lw.r O (R.ext (vs:=[.agg [am,an].toArray,vI a.2]) (v:= .agg [am,an].toArray) O O) (Lw.r O (R.ext (vs:=[.agg [am,an].toArray,vI a.2]) (v:=vI a.2) O O) (al 11 [.slice none 0 0, .slice none 0 0] fun es et b dc=>?_)))
   have dd:=db.n b
   refine sta dc (zaa (bp.up b).oc (zaa (bq.up b).oc za0)) fun de d br=>?_
   have df:=dd.t d
   have bu:=(bp.up b).up d
   have bv:=(bq.up b).up d
   have bw:=(((((c4.up D).up h).up z).up y).up b).up d
   refine Ni O (Cw.seq ?_)
   obtain⟨dg,dh,Y⟩:=zbM Y
   refine Cw.join 43 51 [51] (fun l w=> ∃ a0 a1,CW.w a1=w/\Le [] de a1/\l=[vB a0]/\dg a0=some r) ?_ ?_
   ·rintro _ _ σ ⟨a0,a1,rfl,i,rfl,Y⟩
    rw[dh]at Y
    have bz:=df.n i
    refine cn Y (fun Y=>?_) fun Y=>?_
    ·exact sr (Nb O (.ret (rt Y bz)))
    ·refine sk (Cw.seq (Cw.seq (Cw.draw [] [(0,1),(1,1),(2,2),(3,3),(4,0)] mixed (by kernel_rfl) fun eu k=>?_)))
     have a3:=bz.n k
     have b0:=(((((((bh.up D).up h).up z).up y).up b).up d).up i).up k
     have b2:=((((bk.up y).up b).up d).up i).up k
     refine Mw.q O O (fun _ c=>R.lda (cs:=[c5,c7]) (b2.clcs O c) O O) (Mw.q O O (fun _ c=>R.lda (cs:=[av,aw]) (b0.clcs O c) O O) ?_)
     obtain⟨ao,di,Y⟩:=ob Y
     refine Mw.t O O (T.call O (p17 (k0:=12) (k1:=13) (Repo.rd (K:=[0]) x0.Commits x0.Heads (S.ul a3) (U.ul a3)) di)) ?_
     rintro _ _ ⟨ew,rfl,e,⟨ex,ey,rfl,dj,dk⟩⟩
     have dl:=a3.n e
     have b3:=(((((bm.up y).up b).up d).up i).up k).up e
     have b4:=(((((bn.up y).up b).up d).up i).up k).up e
     refine m0 e fun ez=>?_
     obtain⟨e0,dm,Y⟩:=ob Y
     refine Mw.l O O (T.call O (p19 (K:=[6,7,12,13]) (x0:=(Vm.Repo.mk B.Commits B.Heads)) (x1:=(Vm.Repo.mk ao.Commits ao.Heads)) ((Repo.rd (K:=[6,7]) B.Commits B.Heads (b3.rd.sub (M:=[6,7]) O) (b4.rd.sub (M:=[6,7]) O)).sub (M:=[6,7,12,13]) O) ((Repo.rd (K:=[12,13]) ao.Commits ao.Heads (dj.rd.sub (M:=[12,13]) O) (dk.rd.sub (M:=[12,13]) O)).sub (M:=[6,7,12,13]) O) dm)) ?_
     rintro _ _ ⟨e1,rfl,x,rfl⟩
     have b5:=dl.n x
     refine Mw.p O O (fun _=>R.not O) (Mw.nil (cn Y (fun Y=>?_) fun Y=>?_))
     ·exact sr (Nb O (.ret (rt Y b5)))
     ·refine sk (sr (Ni O (sr (la ((b2.up e).up x) (mi O (cr Y (fun _=>p20 (K:=[0]) (c0:=6) (c1:=7) (x0:=(Vm.Repo.mk B.Commits B.Heads)) (b3.up x) (b4.up x) O) ?_))))))
      rintro e2 _ b6 Y C ⟨rfl,e3,e4⟩
      have dn:=b5.t C
      have b7:=((((bu.up i).up k).up e).up x).up C
      have b8:=((((bv.up i).up k).up e).up x).up C
      have b9:=((((bw.up i).up k).up e).up x).up C
      have a4:=((((br.up i).up k).up e).up x).up C
      refine Ni O (Cw.seq ?_)
      obtain⟨dp,dq,Y⟩:=zbM Y
      refine Cw.join 60 72 [72] (fun l w=> ∃ a5 a6,CW.w a6=w/\Le [] b6 a6/\l=[vB a5]/\dp a5=some r) ?_ ?_
      ·rintro _ _ σ ⟨a5,a6,rfl,E,rfl,Y⟩
       rw[dq]at Y
       have cb:=dn.n E
       refine cn Y (fun Y=>?_) fun Y=>?_
       ·exact sr (Nb O (.ret (rt Y cb)))
       ·refine sk (sr (Ni O (sr (la (a4.up E) (mi O (cr Y (fun _=>p20 (K:=[0]) (c0:=9) (c1:=10) (x0:=(Vm.Repo.mk a.1.Commits a.1.Heads)) (b7.up E) (b8.up E) O) ?_))))))
        rintro J _ e5 Y Q ⟨rfl,cc,cd⟩
        have dr:=cb.t Q
        have ce:=(a4.up E).up Q
        refine Ni O (sr (Ni O (sr (la ce (mi O (ca Y (fun _=>p21 (K:=[9,10]) (x0:=(Vm.Repo.mk J.2.Commits J.2.Heads)) (Repo.rd (K:=[9,10]) J.2.Commits J.2.Heads (cc.rd.sub (M:=[9,10]) O) (cd.rd.sub (M:=[9,10]) O))) fun e6 e7 Y L=>?_))))))
        have V:=dr.n L
        refine Ni O (ssr (mi O (Lw.lt O (nl (cn Y (fun Y=>?_) fun Y=>?_)))))
        ·exact sr (Nb O (.ret (rt Y V)))
        ·refine sk (ssr (mi O (mi O (Lw.ne O (nl (cn Y (fun Y=>?_) fun Y=>?_))))))
         ·exact sr (Nb O (.ret (rt Y V)))
         ·refine sk (sr (la ((((((b0.up e).up x).up C).up E).up Q).up L) (cr Y (fun _=>p17 (k0:=14) (k1:=15) (Repo.rd (K:=[0]) x0.Commits x0.Heads (S.ul V) (U.ul V))) ?_)))
          rintro ap _ e8 Y N ⟨e9,fb,rfl,ds,dt⟩
          have cf:=V.n N
          refine ms O (mi O (cr Y (fun _=>p27 (K:=[0,14,15]) (k0:=16) (k1:=17) (x0:=(Vm.Repo.mk ap.Commits ap.Heads)) ((Repo.rd (K:=[14,15]) ap.Commits ap.Heads (ds.rd.sub (M:=[14,15]) O) (dt.rd.sub (M:=[14,15]) O)).sub (M:=[0,14,15]) O) ((bb.ul cf).sub (M:=[0,14,15]) O)) ?_))
          rintro F _ fc Y P ⟨aq,ar,rfl,cg,ch⟩
          have du:=cf.n P
          refine mv (.tuple [.agg [aq,ar].toArray,vI F.2].toArray) O (Lw.r O (R.ext (vs:=[.agg [aq,ar].toArray,vI F.2]) (v:= .agg [aq,ar].toArray) O O) (Lw.r O (R.ext (vs:=[.agg [aq,ar].toArray,vI F.2]) (v:=vI F.2) O O) (al 18 [.slice none 0 0, .slice none 0 0] fun fd fe A dv=>?_)))
          have dw:=du.n A
          refine sta dv (zaa (cg.up A).oc (zaa (ch.up A).oc za0)) fun dx G dy=>?_
          have dz:=dw.t G
          refine Ni O (Cw.seq ?_)
          obtain⟨d0,d1,Y⟩:=zbM Y
          refine Cw.join 92 100 [100] (fun l w=> ∃ a7 a8,CW.w a8=w/\Le [] dx a8/\l=[vB a7]/\d0 a7=some r) ?_ ?_
          ·rintro _ _ σ ⟨a7,a8,rfl,au,rfl,Y⟩
           rw[d1]at Y
           have ci:=dz.n au
           refine cn Y (fun Y=>?_) fun Y=>?_
           ·exact sr (Nb O (.ret (rt Y ci)))
           ·refine sk (sr (Ni O (sr (la ((((((ce.up L).up N).up P).up A).up G).up au) (mi O (ca Y (fun _=>p21 (K:=[9,10]) (x0:=(Vm.Repo.mk J.2.Commits J.2.Heads)) (Repo.rd (K:=[9,10]) J.2.Commits J.2.Heads (((((((cc.up L).up N).up P).up A).up G).up au).rd.sub (M:=[9,10]) O) (((((((cd.up L).up N).up P).up A).up G).up au).rd.sub (M:=[9,10]) O))) fun ff fg Y d2=>?_))))))
            have ba:=ci.n d2
            refine Ni O (ssr (mi O (Lw.lt O (nl (cn Y (fun Y=>?_) fun Y=>?_)))))
            ·exact sr (Nb O (.ret (rt Y ba)))
            ·refine sk (ssr (mi O (mi O (Lw.ne O (nl (cn Y (fun Y=>?_) fun Y=>?_))))))
             ·exact sr (Nb O (.ret (rt Y ba)))
             ·exact sk (sr (Nb O (.ret (rt Y ba))))
          ·refine rg (la dy (la (((((((b9.up E).up Q).up L).up N).up P).up A).up G) ?_))
           have d3:=aj.up ((H.sub (M:=[5,6,7,8,9,10,11,18]) O).trans ((I.sub (M:=[5,6,7,8,9,10,11,18]) O).trans ((D.sub (M:=[5,6,7,8,9,10,11,18]) O).trans ((h.sub (M:=[5,6,7,8,9,10,11,18]) O).trans ((z.sub (M:=[5,6,7,8,9,10,11,18]) O).trans ((y.sub (M:=[5,6,7,8,9,10,11,18]) O).trans ((b.sub (M:=[5,6,7,8,9,10,11,18]) O).trans ((d.sub (M:=[5,6,7,8,9,10,11,18]) O).trans ((i.sub (M:=[5,6,7,8,9,10,11,18]) O).trans ((k.sub (M:=[5,6,7,8,9,10,11,18]) O).trans ((e.sub (M:=[5,6,7,8,9,10,11,18]) O).trans ((x.sub (M:=[5,6,7,8,9,10,11,18]) O).trans ((C.sub (M:=[5,6,7,8,9,10,11,18]) O).trans ((E.sub (M:=[5,6,7,8,9,10,11,18]) O).trans ((Q.sub (M:=[5,6,7,8,9,10,11,18]) O).trans ((L.sub (M:=[5,6,7,8,9,10,11,18]) O).trans ((N.sub (M:=[5,6,7,8,9,10,11,18]) O).trans ((P.sub (M:=[5,6,7,8,9,10,11,18]) O).trans ((A.sub (M:=[5,6,7,8,9,10,11,18]) O).trans (G.sub (M:=[5,6,7,8,9,10,11,18]) O)))))))))))))))))))) O
           have d4:=ak.up ((H.sub (M:=[5,6,7,8,9,10,11,18]) O).trans ((I.sub (M:=[5,6,7,8,9,10,11,18]) O).trans ((D.sub (M:=[5,6,7,8,9,10,11,18]) O).trans ((h.sub (M:=[5,6,7,8,9,10,11,18]) O).trans ((z.sub (M:=[5,6,7,8,9,10,11,18]) O).trans ((y.sub (M:=[5,6,7,8,9,10,11,18]) O).trans ((b.sub (M:=[5,6,7,8,9,10,11,18]) O).trans ((d.sub (M:=[5,6,7,8,9,10,11,18]) O).trans ((i.sub (M:=[5,6,7,8,9,10,11,18]) O).trans ((k.sub (M:=[5,6,7,8,9,10,11,18]) O).trans ((e.sub (M:=[5,6,7,8,9,10,11,18]) O).trans ((x.sub (M:=[5,6,7,8,9,10,11,18]) O).trans ((C.sub (M:=[5,6,7,8,9,10,11,18]) O).trans ((E.sub (M:=[5,6,7,8,9,10,11,18]) O).trans ((Q.sub (M:=[5,6,7,8,9,10,11,18]) O).trans ((L.sub (M:=[5,6,7,8,9,10,11,18]) O).trans ((N.sub (M:=[5,6,7,8,9,10,11,18]) O).trans ((P.sub (M:=[5,6,7,8,9,10,11,18]) O).trans ((A.sub (M:=[5,6,7,8,9,10,11,18]) O).trans (G.sub (M:=[5,6,7,8,9,10,11,18]) O)))))))))))))))))))) O
           refine ca Y (fun _=>p19 (K:=[0,3,4,16,17]) (x0:=(Vm.Repo.mk F.1.Commits F.1.Heads)) ((Repo.rd (K:=[16,17]) F.1.Commits F.1.Heads (((cg.up A).up G).rd.sub (M:=[16,17]) O) (((ch.up A).up G).rd.sub (M:=[16,17]) O)).sub (M:=[0,3,4,16,17]) O) ((Repo.rd (K:=[0,3,4]) f.1.Commits f.1.Heads d3 d4).sub (M:=[0,3,4,16,17]) O)) fun fh cj Y ck=>Lw.r O (R.not O) (mb O (bs Y (fun W Y=>?_) fun W Y=>?_))
           ·exact psk 3 W O (Pb W O (nl ((ag) ⟨true,cj,O,ck,O,Y⟩)))
           ·exact wak 3 W (mi O (mi O (Lw.ne O (Pb W O (nl ((ag) ⟨((F.2:Int) !=(f.2:Int)),cj,O,ck,O,Y⟩))))))
      ·refine rg (mi O (Lw.lt O (mb O (bs Y (fun X Y=>?_) fun X Y=>?_))))
       ·exact psk 4 X O (Pb X O (mb O (psk 3 O O (Pb O O (nl ((ag) ⟨true,b6,O,Le.refl _ _,O,Y⟩))))))
       ·refine wak 4 X (la a4 (la b9 ?_))
        have d5:=aj.up ((H.sub (M:=[5,6,7,8,11]) O).trans ((I.sub (M:=[5,6,7,8,11]) O).trans ((D.sub (M:=[5,6,7,8,11]) O).trans ((h.sub (M:=[5,6,7,8,11]) O).trans ((z.sub (M:=[5,6,7,8,11]) O).trans ((y.sub (M:=[5,6,7,8,11]) O).trans ((b.sub (M:=[5,6,7,8,11]) O).trans ((d.sub (M:=[5,6,7,8,11]) O).trans ((i.sub (M:=[5,6,7,8,11]) O).trans ((k.sub (M:=[5,6,7,8,11]) O).trans ((e.sub (M:=[5,6,7,8,11]) O).trans ((x.sub (M:=[5,6,7,8,11]) O).trans (C.sub (M:=[5,6,7,8,11]) O))))))))))))) O
        have d6:=ak.up ((H.sub (M:=[5,6,7,8,11]) O).trans ((I.sub (M:=[5,6,7,8,11]) O).trans ((D.sub (M:=[5,6,7,8,11]) O).trans ((h.sub (M:=[5,6,7,8,11]) O).trans ((z.sub (M:=[5,6,7,8,11]) O).trans ((y.sub (M:=[5,6,7,8,11]) O).trans ((b.sub (M:=[5,6,7,8,11]) O).trans ((d.sub (M:=[5,6,7,8,11]) O).trans ((i.sub (M:=[5,6,7,8,11]) O).trans ((k.sub (M:=[5,6,7,8,11]) O).trans ((e.sub (M:=[5,6,7,8,11]) O).trans ((x.sub (M:=[5,6,7,8,11]) O).trans (C.sub (M:=[5,6,7,8,11]) O))))))))))))) O
        refine ca Y (fun _=>p19 (K:=[0,3,4,9,10]) (x0:=(Vm.Repo.mk a.1.Commits a.1.Heads)) ((Repo.rd (K:=[9,10]) a.1.Commits a.1.Heads (b7.rd.sub (M:=[9,10]) O) (b8.rd.sub (M:=[9,10]) O)).sub (M:=[0,3,4,9,10]) O) ((Repo.rd (K:=[0,3,4]) f.1.Commits f.1.Heads d5 d6).sub (M:=[0,3,4,9,10]) O)) fun fi cl Y cm=>Lw.r O (R.not O) (Pb X O (mb O (bs Y (fun Z Y=>?_) fun Z Y=>?_)))
        ·exact psk 3 Z O (Pb Z O (nl ((ag) ⟨true,cl,O,cm,O,Y⟩)))
        ·exact wak 3 Z (mi O (mi O (Lw.ne O (Pb Z O (nl ((ag) ⟨((a.2:Int) !=(f.2:Int)),cl,O,cm,O,Y⟩))))))
   ·refine rg (la br (la bw ?_))
    have d7:=aj.up ((H.sub (M:=[5,8,11]) O).trans ((I.sub (M:=[5,8,11]) O).trans ((D.sub (M:=[5,8,11]) O).trans ((h.sub (M:=[5,8,11]) O).trans ((z.sub (M:=[5,8,11]) O).trans ((y.sub (M:=[5,8,11]) O).trans ((b.sub (M:=[5,8,11]) O).trans (d.sub (M:=[5,8,11]) O)))))))) O
    have d8:=ak.up ((H.sub (M:=[5,8,11]) O).trans ((I.sub (M:=[5,8,11]) O).trans ((D.sub (M:=[5,8,11]) O).trans ((h.sub (M:=[5,8,11]) O).trans ((z.sub (M:=[5,8,11]) O).trans ((y.sub (M:=[5,8,11]) O).trans ((b.sub (M:=[5,8,11]) O).trans (d.sub (M:=[5,8,11]) O)))))))) O
    refine ca Y (fun _=>p19 (K:=[0,3,4,9,10]) (x0:=(Vm.Repo.mk a.1.Commits a.1.Heads)) ((Repo.rd (K:=[9,10]) a.1.Commits a.1.Heads (bu.rd.sub (M:=[9,10]) O) (bv.rd.sub (M:=[9,10]) O)).sub (M:=[0,3,4,9,10]) O) ((Repo.rd (K:=[0,3,4]) f.1.Commits f.1.Heads d7 d8).sub (M:=[0,3,4,9,10]) O)) fun fj co Y cp=>Lw.r O (R.not O) (mb O (bs Y (fun aa Y=>?_) fun aa Y=>?_))
    ·exact psk 3 aa O (Pb aa O (nl ((ag) ⟨true,co,O,cp,O,Y⟩)))
    ·exact wak 3 aa (mi O (mi O (Lw.ne O (Pb aa O (nl ((ag) ⟨((a.2:Int) !=(f.2:Int)),co,O,cp,O,Y⟩))))))
theorem p6 {x0 a b x1 x2 r}(d:Rd W K [a,b] x0)(f:Gl 0 W K)(Y:Vm.zfj x0 x1 x2=some r):Q1 6 [.agg [a,b].toArray,vS x1,vI x2] W [] fun W' v=>v=vB r:=
 (c6 (d.view _) (f.view _) Y).ad (fk 0) fun _ _ e=>e
end Go.Sx
