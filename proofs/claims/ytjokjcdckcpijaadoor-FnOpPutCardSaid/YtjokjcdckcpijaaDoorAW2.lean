/- Walks: each function answers as its model, printed by a program of ours. Conditions: the arguments read as they are given. -/
import Derived.Test.YtjokjcdckcpijaaDoorATs
import Derived.Test.YtjokjcdckcpijaaDoorAM0
import Derived.Test.YtjokjcdckcpijaaDoorAW1
import Derived.Test.YtjokjcdckcpijaaDoorAE
namespace Go.Sx
open Go Go.Proofs Go.Vm Rp
set_option linter.unusedVariables false
set_option linter.unusedSimpArgs false
variable {W W0:CW}{K:List Nat}
theorem c7 {x0 r}(X:Gk 2 0 1 W0 [0])(Y:Vm.zcd x0=some r):Q0 7 [vS x0] W0 fun Wf v=> ∃ bn,v = .tuple [.agg [vI r.1.Kind,vS r.1.Branch,vS r.1.Who,vS r.1.Path,vS r.1.To,vI r.1.At,bn].toArray,vB r.2].toArray/\OwS (α:=Tl Str) Wf LL [] [bn] r.1.Text:=by
 unfold Vm.zcd at Y
 refine zaq.of Tryd.func7 O O O O (sr (al 2 [vI 0,vS ([]:Str),vS ([]:Str),vS ([]:Str),vS ([]:Str),vI 0, .slice none 0 0] fun g1 W1 l1 b1=>?_))
 have a2:=l1.o
 refine Nb O (sr (ms O (cr Y (fun _=>p22 (k0:=3) (X.ul a2)) ?_)))
 rintro z4 a W6 Y l6 ⟨_,rfl,br⟩
 have a7:=a2.n l6
 refine Nv a O (ssr (mv a O (Lw.ln z4 br.rd O (Lw.lt O (nl (cn Y (fun Y=>?_) fun Y=>?_))))))
 ·refine sr (Lw.r O (R.bd (zs:=[vI 0,vS ([]:Str),vS ([]:Str),vS ([]:Str),vS ([]:Str),vI 0, .slice none 0 0]) (cs:=[vI 0,vS ([]:Str),vS ([]:Str),vS ([]:Str),vS ([]:Str),vI 0, .slice none 0 0]) [] O O O zgw) (sta (b1.up l6) (zaa O (zaa O (zaa O (zaa O (zaa O (zaa O (zaa O zdw))))))) fun ey l10 c2=>?_))
  have c3:=a7.t l10
  refine Nb O ?_
  cases Y
  exact Cw.ret (zlj O c2 O (Res.mk c3 ⟨.slice none 0 0,O,(zoD []).sub O O⟩))
 ·refine sk (Cw.seq ?_)
  obtain⟨Z,c4,Y⟩:=ob Y
  obtain⟨an,bv,Y⟩:=ob Y
  obtain⟨b,c5,Y⟩:=ob Y
  obtain⟨d,bw,Y⟩:=ob Y
  obtain⟨e,bz,Y⟩:=ob Y
  refine Cw.par [[],[],[1],[1,2],[0,1,2,3],[],[5],[5,6],[],[8],[8,9],[0,1,2,3,4,5,6,7,8,9,10],[],[0,1,2,3,4,5,6,7,8,9,10,11,12]] [[],[],[1],[2],[0,3],[],[5],[6],[],[8],[9],[4,7,10],[],[11,12]] [[],[],[],[],[],[],[],[],[],[],[],[],[],[5]] [[0],[1],[2],[3],[4],[5],[6],[7],[8],[9],[10],[11],[12],[12]] [[4],[],[],[],[],[],[],[],[],[],[],[],[5],[5]] [0,1,2,3,4,5,6,7,8,9,10,11,13] [5] [fun vs W=>Ow W 4 [] [(vs 0)] Z,fun vs W=>(vs 1)=a,fun vs W=>(vs 2)=ptr ((slA a).add ((0:Int).toNat*Rp.sz (Str))),fun vs W=>(vs 3)=vS an,fun vs W=>(vs 4)=vI b,fun vs W=>(vs 5)=a,fun vs W=>(vs 6)=ptr ((slA a).add ((1:Int).toNat*Rp.sz (Str))),fun vs W=>(vs 7)=vS d,fun vs W=>(vs 8)=a,fun vs W=>(vs 9)=ptr ((slA a).add ((2:Int).toNat*Rp.sz (Str))),fun vs W=>(vs 10)=vS e,fun vs W=>(vs 11) = .agg [vI b,vS d,vS e,vS ([]:Str),vS ([]:Str),vI 0, .slice none 0 0].toArray,fun vs W=>(vs 12)=ptr (bx (pg (vs 12)))/\Bx W 5 (pg (vs 12)) [vI 0,vS ([]:Str),vS ([]:Str),vS ([]:Str),vS ([]:Str),vI 0, .slice none 0 0],fun vs W=>(vs 12)=ptr (bx (pg (vs 12)))/\Bx W 5 (pg (vs 12)) [vI b,vS d,vS e,vS ([]:Str),vS ([]:Str),vI 0, .slice none 0 0]] [] mixed (by kernel_rfl) O zjF.nil ?_
  intro ez ao
  have c6:=a7.n ao
  have x:=br.up ao
  refine⟨(zaI.cons ?_ (zaI.cons ?_ (zaI.cons ?_ (zaI.cons ?_ (zaI.cons ?_ (zaI.cons ?_ (zaI.cons ?_ (zaI.cons ?_ (zaI.cons ?_ (zaI.cons ?_ (zaI.cons ?_ (zaI.cons ?_ (zaI.cons ?_ (zaI.cons ?_ zaI.nil)))))))))))))),(zch.cons SO (zch.cons SE (zch.cons SE (zch.cons SE (zch.cons SE (zch.cons SE (zch.cons SE (zch.cons SE (zch.cons SE (zch.cons SE (zch.cons SE (zch.cons SE (zch.cons (fun vs vs' W W' _ hv l hd h=>by(show(vs' 12)=ptr (bx (pg (vs' 12)))/\Bx W' 5 (pg (vs' 12)) [vI 0,vS ([]:Str),vS ([]:Str),vS ([]:Str),vS ([]:Str),vI 0, .slice none 0 0]);rw[hv 12 (zaW O)];exact⟨h.1,h.2.up l (zkF hd (c:=5) O)⟩) (zch.cons (fun vs vs' W W' _ hv l hd h=>by(show(vs' 12)=ptr (bx (pg (vs' 12)))/\Bx W' 5 (pg (vs' 12)) [vI b,vS d,vS e,vS ([]:Str),vS ([]:Str),vI 0, .slice none 0 0]);rw[hv 12 (zaW O)];exact⟨h.1,h.2.up l (zkF hd (c:=5) O)⟩) zch.nil)))))))))))))),?_⟩
  ·intro vs e0 lW hN hV
   refine Tr.mono (T.call O (p24 (k0:=4) c4)) ?_
   rintro c8 _ ⟨b0,rfl,c9,⟨_,rfl,da⟩⟩
   exact⟨b0,O,c9,(show Ow b0 4 [] [c8] Z from da)⟩
  ·intro vs e1 lW hN hV
   exact Trq (R.mv (v:=a) O) O
  ·intro vs e2 lW hN hV
   have ap:vs 1=a:=(hN 1 (zaW O))
   obtain⟨vs,rfl⟩:=zai ap
   exact Trq (R.ix (α:=Str) (x.up lW O).rd bv O O O) O
  ·intro vs e3 lW hN hV
   have aq:vs 2=ptr ((slA a).add ((0:Int).toNat*Rp.sz (Str))):=(hN 2 (zaW O))
   obtain⟨vs,rfl⟩:=zai aq
   exact Trq (R.ld O O ((x.up lW O).rd.at_ bv).str) O
  ·intro vs db lW hN hV
   obtain⟨ar,au⟩: ∃ v,vs 0=v:=⟨_,O⟩
   obtain⟨vs,rfl⟩:=zai au
   have dc:Ow db 4 [] [ar] Z:=(hN 0 (zaW O))
   have av:vs 3=vS an:=(hN 3 (zaW O))
   obtain⟨vs,rfl⟩:=zai av
   refine Tr.mono (T.call O (p23 (K:=[4]) dc.rd c5)) ?_
   rintro _ _ ⟨dd,rfl,de,rfl⟩
   exact⟨dd,O,de,(show(vI b:Value)=vI b from O)⟩
  ·intro vs e4 lW hN hV
   exact Trq (R.mv (v:=a) O) O
  ·intro vs e5 lW hN hV
   have aw:vs 5=a:=(hN 5 (zaW O))
   obtain⟨vs,rfl⟩:=zai aw
   exact Trq (R.ix (α:=Str) (x.up lW O).rd bw O O O) O
  ·intro vs e6 lW hN hV
   have ax:vs 6=ptr ((slA a).add ((1:Int).toNat*Rp.sz (Str))):=(hN 6 (zaW O))
   obtain⟨vs,rfl⟩:=zai ax
   exact Trq (R.ld O O ((x.up lW O).rd.at_ bw).str) O
  ·intro vs e7 lW hN hV
   exact Trq (R.mv (v:=a) O) O
  ·intro vs e8 lW hN hV
   have ay:vs 8=a:=(hN 8 (zaW O))
   obtain⟨vs,rfl⟩:=zai ay
   exact Trq (R.ix (α:=Str) (x.up lW O).rd bz O O O) O
  ·intro vs e9 lW hN hV
   have az:vs 9=ptr ((slA a).add ((2:Int).toNat*Rp.sz (Str))):=(hN 9 (zaW O))
   obtain⟨vs,rfl⟩:=zai az
   exact Trq (R.ld O O ((x.up lW O).rd.at_ bz).str) O
  ·intro vs fb lW hN hV
   have a0:vs 4=vI b:=(hN 4 (zaW O))
   obtain⟨vs,rfl⟩:=zai a0
   have a1:vs 7=vS d:=(hN 7 (zaW O))
   obtain⟨vs,rfl⟩:=zai a1
   have a3:vs 10=vS e:=(hN 10 (zaW O))
   obtain⟨vs,rfl⟩:=zai a3
   exact Trq (R.bd (zs:=[vI 0,vS ([]:Str),vS ([]:Str),vS ([]:Str),vS ([]:Str),vI 0, .slice none 0 0]) (cs:=[vI b,vS d,vS e,vS ([]:Str),vS ([]:Str),vI 0, .slice none 0 0]) [(0,vI b),(1,vS d),(2,vS e)] O O O (zeR O O (zeR O O (zeR O O zgw)))) O
  ·intro vs fc lW hN hV
   refine Tr.mono (T.alloc 5 (cs:=[vI 0,vS ([]:Str),vS ([]:Str),vS ([]:Str),vS ([]:Str),vI 0, .slice none 0 0]) O) ?_
   rintro _ _ ⟨a4,b2,rfl,rfl,df,dg⟩
   exact⟨b2,O,df,(show(ptr (bx a4):Value)=ptr (bx a4)/\Bx b2 5 a4 [vI 0,vS ([]:Str),vS ([]:Str),vS ([]:Str),vS ([]:Str),vI 0, .slice none 0 0] from⟨O,dg⟩)⟩
  ·intro vs dh lW hN hV
   have a5:vs 11 = .agg [vI b,vS d,vS e,vS ([]:Str),vS ([]:Str),vI 0, .slice none 0 0].toArray:=(hN 11 (zaW O))
   obtain⟨vs,rfl⟩:=zai a5
   obtain⟨f,a6⟩: ∃ f,vs 12=ptr (bx f):=⟨_,((hN 12 (zaW O))).1⟩
   obtain⟨vs,rfl⟩:=zai a6
   have di:Bx dh 5 f [vI 0,vS ([]:Str),vS ([]:Str),vS ([]:Str),vS ([]:Str),vI 0, .slice none 0 0]:=(hN 12 (zaW O)).2
   refine Tr.mono (T.sta (vs:=[vI b,vS d,vS e,vS ([]:Str),vS ([]:Str),vI 0, .slice none 0 0]) di O O (zaa O (zaa O (zaa O (zaa O (zaa O (zaa O (zaa O zdw))))))) O O) ?_
   rintro _ _ ⟨b3,rfl,dj,dk⟩
   exact⟨b3,O,dj,(show(ptr (bx f))=ptr (bx f)/\Bx b3 5 f [vI b,vS d,vS e,vS ([]:Str),vS ([]:Str),vI 0, .slice none 0 0] from⟨O,dk⟩)⟩
  ·intro vs H a8 hN
   have a9:=c6.t a8
   have i:=x.up a8
   obtain⟨ar,au⟩: ∃ v,vs 0=v:=⟨_,O⟩
   obtain⟨vs,rfl⟩:=zai au
   have fd:Ow H 4 [] [ar] Z:=(hN 0 (zaW O))
   have ap:vs 1=a:=(hN 1 (zaW O))
   obtain⟨vs,rfl⟩:=zai ap
   have aq:vs 2=ptr ((slA a).add ((0:Int).toNat*Rp.sz (Str))):=(hN 2 (zaW O))
   obtain⟨vs,rfl⟩:=zai aq
   have av:vs 3=vS an:=(hN 3 (zaW O))
   obtain⟨vs,rfl⟩:=zai av
   have a0:vs 4=vI b:=(hN 4 (zaW O))
   obtain⟨vs,rfl⟩:=zai a0
   have aw:vs 5=a:=(hN 5 (zaW O))
   obtain⟨vs,rfl⟩:=zai aw
   have ax:vs 6=ptr ((slA a).add ((1:Int).toNat*Rp.sz (Str))):=(hN 6 (zaW O))
   obtain⟨vs,rfl⟩:=zai ax
   have a1:vs 7=vS d:=(hN 7 (zaW O))
   obtain⟨vs,rfl⟩:=zai a1
   have ay:vs 8=a:=(hN 8 (zaW O))
   obtain⟨vs,rfl⟩:=zai ay
   have az:vs 9=ptr ((slA a).add ((2:Int).toNat*Rp.sz (Str))):=(hN 9 (zaW O))
   obtain⟨vs,rfl⟩:=zai az
   have a3:vs 10=vS e:=(hN 10 (zaW O))
   obtain⟨vs,rfl⟩:=zai a3
   have a5:vs 11 = .agg [vI b,vS d,vS e,vS ([]:Str),vS ([]:Str),vI 0, .slice none 0 0].toArray:=(hN 11 (zaW O))
   obtain⟨vs,rfl⟩:=zai a5
   obtain⟨f,a6⟩: ∃ f,vs 12=ptr (bx f):=⟨_,(hN 13 (zaW O)).1⟩
   obtain⟨vs,rfl⟩:=zai a6
   have I:Bx H 5 f [vI b,vS d,vS e,vS ([]:Str),vS ([]:Str),vI 0, .slice none 0 0]:=(hN 13 (zaW O)).2
   obtain⟨dl,dm,Y⟩:=zcR Y
   refine Cw.join 24 83 [] (fun l w=> ∃ y z A B C D k J E,CW.w E=w/\Le [5,7] H E/\l=[]/\Ow (α:=Tl Str) E 6 [] [J] k/\Bx E 5 f [vI y,vS z,vS A,vS B,vS C,vI D,J]/\dl y z A B C D k=some r) ?_ ?_
   ·rintro _ _ σ ⟨y,z,A,B,C,D,k,J,E,rfl,b4,rfl,aa,ba,Y⟩
    rw[dm]at Y
    have b5:=a9.t b4
    refine Cw.seq ?_
    obtain⟨dn,dp,Y⟩:=zcR Y
    refine Cw.join 84 92 [92] (fun l w=> ∃ bb bc,CW.w bc=w/\Le [] E bc/\l=[vB bb]/\dn bb=some r) ?_ ?_
    ·rintro _ _ σ ⟨bb,bc,rfl,Q,rfl,Y⟩
     rw[dp]at Y
     have b6:=b5.n Q
     have b7:=((((b1.up l6).up ao).up a8).up b4).up Q
     refine cn Y (fun Y=>?_) fun Y=>?_
     ·refine sr (Lw.r O (R.bd (zs:=[vI 0,vS ([]:Str),vS ([]:Str),vS ([]:Str),vS ([]:Str),vI 0, .slice none 0 0]) (cs:=[vI 0,vS ([]:Str),vS ([]:Str),vS ([]:Str),vS ([]:Str),vI 0, .slice none 0 0]) [] O O O zgw) (sta b7 (zaa O (zaa O (zaa O (zaa O (zaa O (zaa O (zaa O zdw))))))) fun fe dq dr=>?_))
      have ds:=b6.t dq
      refine Nb O ?_
      cases Y
      exact Cw.ret (zlj O dr O (Res.mk ds ⟨.slice none 0 0,O,(zoD []).sub O O⟩))
     ·refine sk (sr (la (ba.up Q) (sta b7 (zaa O (zaa O (zaa O (zaa O (zaa O (zaa O (zaa (aa.up Q).oc zdw))))))) fun ff b8 dt=>?_)))
      have du:=b6.t b8
      refine Nb O ?_
      cases Y
      exact Cw.ret (zlj O dt O (Res.mk du ⟨J,O,((aa.up Q).up b8).s.sub O O⟩))
    ·refine rg (la ba ?_)
     have dv:Rd (α:=List Str) E [6] [J] k:=Ow.rdTl aa
     refine ca Y (fun _=>p13 (K:=[0,6]) (x0:=(Vm.Op.mk y z A B C D k)) ((Op.rd (K:=[6]) y z A B C D k dv).sub (M:=[0,6]) O) ((X.ul b5).sub (M:=[0,6]) O)) fun fg b9 Y ac=>Lw.r O (R.not O) (mb O (bs Y (fun S Y=>?_) fun S Y=>?_))
     ·exact psk 4 S O (Pb S O (nl ((ag) ⟨true,b9,O,ac,O,Y⟩)))
     ·refine wak 4 S (la (ba.up ac) ?_)
      have dw:Rd (α:=List Str) b9 [6] [J] k:=Ow.rdTl (aa.up ac)
      exact ca Y (fun _=>p27 (K:=[6]) (x0:=(Vm.Op.mk y z A B C D k)) (Op.rd (K:=[6]) y z A B C D k dw)) fun dx dy Y dz=>ms O (Lw.sne O (Pb S O (nl ((ag) ⟨(dx !=x0),dy,O,(ac.j dz).w,O,Y⟩))))
   ·refine sr (Lw.fa O (Lw.r O (R.ld (v:=vI b) O O (I.cell O)) (nl (Cw.block (sr (Lw.eq O (Nb O (cn Y (fun Y=>?_) fun Y=>?_))))))))
    ·refine sr (mv a O ?_)
     obtain⟨be,cb,Y⟩:=ob Y
     refine Lw.r O (R.ix (α:=Str) i.rd cb O O O) (Lw.r O (R.ld O O (i.rd.at_ cb).str) (Lw.fa O (Lw.u (T.st (j:=3) (v:=vS be) I O O O O O) ?_)))
     rintro _ _ ⟨bg,rfl,ae,cc⟩
     have d0:=a9.t ae
     have U:=i.up ae
     refine nl ?_
     obtain⟨d1,d2,Y⟩:=zcR Y
     refine Cw.join 32 40 [40] (fun l w=> ∃ bh af,CW.w af=w/\Le [] bg af/\l=[vB bh]/\d1 bh=some r) ?_ ?_
     ·rintro _ _ σ ⟨bh,af,rfl,F,rfl,Y⟩
      rw[d2]at Y
      have d3:=d0.n F
      refine cn Y (fun Y=>?_) fun Y=>?_
      ·refine rg (mv a O ?_)
       obtain⟨fh,cd,Y⟩:=ob Y
       refine Lw.r O (R.ix (α:=Str) (U.up F).rd cd O O O) (Lw.r O (R.ld O O ((U.up F).rd.at_ cd).str) (cr Y (fun _=>p25 (k0:=7) (X.ul d3)) ?_))
       rintro ce cf fi Y cg ⟨_,rfl,ch⟩
       obtain⟨d4,ci,Y⟩:=ob Y
       have cj:=Ow.tail (α:=Str) ch ci
       refine Lw.r O (R.sl ch.rd ci O (.inr O) (.inl ⟨O,O⟩)) (Lw.fa O (Lw.u (T.st (j:=6) (v:=(cutV cf (1:Int).toNat (ce.length:Int).toNat (Rp.sz (Str)))) ((cc.up F).up cg) O O cj.oc O O) ?_))
       rintro _ _ ⟨fj,rfl,ck,d5⟩
       refine nl ?_
       obtain⟨d6,d7,cl,d8⟩:=(cj.up ck).dyeO 6
       exact(ag) ⟨b,d,e,be,([]:Str),0,d4,(cutV cf (1:Int).toNat (ce.length:Int).toNat (Rp.sz (Str))),d6,d7,((((ae.j F).j cg).j ck).j cl).w,O,d8,(d5.up cl),Y⟩
      ·exact sk ((ag) ⟨b,d,e,be,([]:Str),0,([]:List Str), .slice none 0 0,af,O,(ae.j F).w,O,zjR 6,(cc.up F),Y⟩)
     ·refine rg (mv a O (Lw.ln z4 U.rd O (Lw.eq O (mb O (bs Y (fun V Y=>?_) fun V Y=>?_)))))
      ·refine wak 4 V (mv a O ?_)
       obtain⟨d9,cm,Y⟩:=ob Y
       exact Lw.r O (R.ix (α:=Str) U.rd cm O O O) (Lw.r O (R.ld O O (U.rd.at_ cm).str) (Lw.sne O (Pb V O (nl ((ag) ⟨(d9 !=([]:Str)),bg,O,Le.refl _ _,O,Y⟩)))))
      ·exact psk 4 V O (Pb V O (nl ((ag) ⟨false,bg,O,Le.refl _ _,O,Y⟩)))
    ·refine sr (Lw.eq O (Nb O (cn Y (fun Y=>?_) fun Y=>?_)))
     ·refine rg (mv a O ?_)
      obtain⟨co,cp,Y⟩:=ob Y
      refine Lw.r O (R.ix (α:=Str) i.rd cp O O O) (Lw.r O (R.ld O O (i.rd.at_ cp).str) (Lw.fa O (Lw.u (T.st (j:=3) (v:=vS co) I O O O O O) ?_)))
      rintro _ _ ⟨ea,rfl,eb,ec⟩
      exact nl ((ag) ⟨b,d,e,co,([]:Str),0,([]:List Str), .slice none 0 0,ea,O,eb.w,O,zjR 6,ec,Y⟩)
     ·refine sr (Lw.eq O (Nb O (cn Y (fun Y=>?_) fun Y=>?_)))
      ·refine sr (mv a O ?_)
       obtain⟨bi,cq,Y⟩:=ob Y
       refine Lw.r O (R.ix (α:=Str) i.rd cq O O O) (Lw.r O (R.ld O O (i.rd.at_ cq).str) (Lw.fa O (Lw.u (T.st (j:=3) (v:=vS bi) I O O O O O) ?_)))
       rintro _ _ ⟨ed,rfl,bj,ct⟩
       have bk:=i.up bj
       refine nl (sr (mv a O (Lw.ln z4 bk.rd O (Lw.eq O (nl (cn Y (fun Y=>?_) fun Y=>?_))))))
       ·refine rg (mv a O ?_)
        obtain⟨cu,cv,Y⟩:=ob Y
        refine Lw.r O (R.ix (α:=Str) bk.rd cv O O O) (Lw.r O (R.ld O O (bk.rd.at_ cv).str) (Lw.fa O (Lw.u (T.st (j:=4) (v:=vS cu) ct O O O O O) ?_)))
        rintro _ _ ⟨ee,rfl,ef,eg⟩
        exact nl ((ag) ⟨b,d,e,bi,cu,0,([]:List Str), .slice none 0 0,ee,O,(bj.j ef).w,O,zjR 6,eg,Y⟩)
       ·exact sk ((ag) ⟨b,d,e,bi,([]:Str),0,([]:List Str), .slice none 0 0,ed,O,bj.w,O,zjR 6,ct,Y⟩)
      ·obtain⟨eh,ei,Y⟩:=zcR Y
       refine Cw.join 66 68 [66] (fun l w=> ∃ bl L,CW.w L=w/\Le [] H L/\l=[vB bl]/\eh bl=some r) ?_ ?_
       ·rintro _ _ σ ⟨bl,L,rfl,G,rfl,Y⟩
        rw[ei]at Y
        have ej:=a9.n G
        have ah:=i.up G
        refine cn Y (fun Y=>?_) fun Y=>?_
        ·refine rg (mv a O ?_)
         obtain⟨cw,cx,Y⟩:=ob Y
         refine Lw.r O (R.ix (α:=Str) ah.rd cx O O O) (Lw.r O (R.ld O O (ah.rd.at_ cx).str) (Lw.fa O (Lw.u (T.st (j:=4) (v:=vS cw) (I.up G) O O O O O) ?_)))
         rintro _ _ ⟨ek,rfl,el,em⟩
         exact nl ((ag) ⟨b,d,e,([]:Str),cw,0,([]:List Str), .slice none 0 0,ek,O,(G.j el).w,O,zjR 6,em,Y⟩)
        ·obtain⟨en,eo,Y⟩:=zcR Y
         refine Cw.join 73 75 [73] (fun l w=> ∃ bm ai,CW.w ai=w/\Le [] L ai/\l=[vB bm]/\en bm=some r) ?_ ?_
         ·rintro _ _ σ ⟨bm,ai,rfl,N,rfl,Y⟩
          rw[eo]at Y
          have ep:=ej.n N
          have cy:=(I.up G).up N
          refine cn Y (fun Y=>?_) fun Y=>?_
          ·refine rg (mv a O ?_)
           obtain⟨fm,cz,Y⟩:=ob Y
           refine Lw.r O (R.ix (α:=Str) (ah.up N).rd cz O O O) (Lw.r O (R.ld O O ((ah.up N).rd.at_ cz).str) (cr Y (fun _=>p26 (X.ul ep)) ?_))
           rintro P _ fn Y c0 ⟨aj,rfl⟩
           refine mv (.tuple [vI P.1,aj].toArray) O (Lw.r O (R.ext (vs:=[vI P.1,aj]) (v:=vI P.1) O O) (Lw.r O (R.ext (vs:=[vI P.1,aj]) (v:=aj) O O) (Lw.fa O (Lw.u (T.st (j:=5) (v:=vI P.1) (cy.up c0) O O O O O) ?_))))
           rintro _ _ ⟨er,rfl,es,et⟩
           exact nl ((ag) ⟨b,d,e,([]:Str),([]:Str),P.1,([]:List Str), .slice none 0 0,er,O,(((G.j N).j c0).j es).w,O,zjR 6,et,Y⟩)
          ·exact sk ((ag) ⟨b,d,e,([]:Str),([]:Str),0,([]:List Str), .slice none 0 0,ai,O,(G.j N).w,O,zjR 6,cy,Y⟩)
         ·refine sr (Lw.eq O (Nb O (cn Y (fun Y=>?_) fun Y=>?_)))
          ·exact sk ((ag) ⟨(b==6),L,O,Le.refl _ _,O,Y⟩)
          ·exact rg (Lw.eq O (Nb O ((ag) ⟨(b==7),L,O,Le.refl _ _,O,Y⟩)))
       ·refine sr (Lw.eq O (Nb O (cn Y (fun Y=>?_) fun Y=>?_)))
        ·exact sk ((ag) ⟨(b==4),H,O,Le.refl _ _,O,Y⟩)
        ·exact rg (Lw.eq O (Nb O ((ag) ⟨(b==5),H,O,Le.refl _ _,O,Y⟩)))
theorem p7 {x0 k0 r}(b:Gk 2 0 1 W K)(Y:Vm.zcd x0=some r):Q1 7 [vS x0] W [] fun W' v=> ∃ a,v = .tuple [.agg [vI r.1.Kind,vS r.1.Branch,vS r.1.Who,vS r.1.Path,vS r.1.To,vI r.1.At,a].toArray,vB r.2].toArray/\Ow (α:=Tl Str) W' k0 [] [a] r.1.Text:=
 (c7 (b.view _) Y).ad (fk k0) fun _ _ ⟨a,e,d⟩=>⟨a,e,d.back (zl3 _)⟩
theorem c33 {x0 b x1 e r}(d:Rd W0 [0] [b] x0)(f:Rd W0 [0] [e] x1)(Y:Vm.zbJ x0 x1=some r):Q0 33 [b,e] W0 fun Wf v=>v=vB r:=by
 unfold Vm.zbJ at Y
 refine zaq.of Tryd.func33 O O O O (sr (Nb O (ssr (mv b O (Lw.ln x0 d O (mv e O (Lw.ln x1 f O (Lw.ne O (nl (cn Y (fun Y=>?_) fun Y=>?_))))))))))
 ·exact sr (Nb O (.ret (rt Y (Le.refl _ _))))
 ·refine sk (ssr (Ni O (Cw.block ?_)))
  obtain⟨B,C,Y⟩:=zcR Y
  refine Cw.loop 11 25 [4,5] (fun m l w=> ∃ h i k,CW.w k=w/\Le [] W0 k/\l=[vB h,vI i]/\Vm.zaH x0 x1 B m h i=some r) _ ⟨false,0,W0,O,Le.refl _ _,O,Y⟩ ?_
  rintro(_ |E) _ _ σ ⟨h,i,k,rfl,A,rfl,Y⟩
  ·cases Y
  unfold Vm.zaH at Y
  have x:=A.o
  refine ssr (mi O (mv b O (Lw.ln x0 (d.ul x) O (Lw.lt O (nl (cn Y (fun Y=>?_) fun Y=>?_))))))
  ·refine sk (Cw.seq (Cw.block (Cw.seq (Cw.draw [] [(0,0),(1,0),(2,0),(3,1),(4,0),(5,0),(6,0),(7,1),(8,0)] mixed (by kernel_rfl) fun D l10=>?_))))
   have a:=x.n l10
   refine Dv b O (Di O ?_)
   obtain⟨F,y,Y⟩:=ob Y
   refine Mw.p O O (fun _=>R.ix (α:=Str) (d.ul a) y O O O) (Mw.q O O (fun _ c=>R.ld O O (zgd ((d.ul a).at_ y).1 O ((d.ul a).at_ y).str c)) (Dv e O (Di O ?_)))
   obtain⟨G,z,Y⟩:=ob Y
   refine Mw.p O O (fun _=>R.ix (α:=Str) (f.ul a) z O O O) (Mw.q O O (fun _ c=>R.ld O O (zgd ((f.ul a).at_ z).1 O ((f.ul a).at_ z).str c)) (Mw.p O O (fun _=>R.sne O O) (Mw.nil (cn Y (fun Y=>?_) fun Y=>?_))))
   ·exact sr (Nb O (.ret (rt Y a)))
   ·exact sk (rg (mi O (Lw.add O (Ni O ((agm) ⟨h,w64 (i+1),D,O,(A.j l10).w,O,Y⟩)))))
  ·refine Cw.exit ?_
   rw[C]at Y
   exact sr (Nb O (.ret (rt Y x)))
theorem p33 {x0 a x1 b r}(d:Rd W K [a] x0)(f:Rd W K [b] x1)(Y:Vm.zbJ x0 x1=some r):Q1 33 [a,b] W [] fun W' v=>v=vB r:=
 (c33 (d.view _) (f.view _) Y).ad (fk 0) fun _ _ e=>e
theorem c9 {x0 B x1 C r}(G:Rd W0 [0] [vI x0.Kind,vS x0.Branch,vS x0.Who,vS x0.Path,vS x0.To,vI x0.At,B] x0)(H:Rd W0 [0] [vI x1.Kind,vS x1.Branch,vS x1.Who,vS x1.Path,vS x1.To,vI x1.At,C] x1)(Y:Vm.zcq x0 x1=some r):Q0 9 [.agg [vI x0.Kind,vS x0.Branch,vS x0.Who,vS x0.Path,vS x0.To,vI x0.At,B].toArray, .agg [vI x1.Kind,vS x1.Branch,vS x1.Who,vS x1.Path,vS x1.To,vI x1.At,C].toArray] W0 fun Wf v=>v=vB r:=by
 unfold Vm.zcq at Y
 obtain⟨V,D,I⟩:=Op.split G
 simp only[List.cons.injEq,and_true,true_and]at D
 obtain rfl:=D
 obtain⟨W,E,J⟩:=Op.split H
 simp only[List.cons.injEq,and_true,true_and]at E
 obtain rfl:=E
 refine zaq.of Tryd.func9 O O O O (sr (bo 2 O fun X Z K L=>?_))
 have M:=K.o
 refine bo 3 O fun g3 a F b=>?_
 have y:=M.n F
 have d:=L.up F
 refine Nb O ?_
 obtain⟨N,P,Y⟩:=zcR Y
 refine Cw.join 5 51 [4] (fun l w=> ∃ z A,CW.w A=w/\Le [] a A/\l=[vB z]/\N z=some r) ?_ ?_
 ·rintro _ _ σ ⟨z,A,rfl,Q,rfl,Y⟩
  rw[P]at Y
  have R:=y.n Q
  exact .ret (rt Y R)
 ·refine rg (fl d O (fl b O (Lw.eq O (mb O (bs Y (fun e Y=>?_) fun e Y=>?_)))))
  ·refine wak 5 e (fl d O (fl b O (Lw.seq O (Pb e O (mb O (bs Y (fun f Y=>?_) fun f Y=>?_))))))
   ·refine wak 5 f (fl d O (fl b O (Lw.seq O (Pb f O (mb O (bs Y (fun h Y=>?_) fun h Y=>?_))))))
    ·refine wak 5 h (fl d O (fl b O (Lw.seq O (Pb h O (mb O (bs Y (fun i Y=>?_) fun i Y=>?_))))))
     ·refine wak 5 i (fl d O (fl b O (Lw.seq O (Pb i O (mb O (bs Y (fun k Y=>?_) fun k Y=>?_))))))
      ·refine wak 5 k (fl d O (fl b O (Lw.eq O (Pb k O (mb O (bs Y (fun x Y=>?_) fun x Y=>?_))))))
       ·exact wak 5 x (fl d O (fl b O (ca Y (fun _=>p33 (I.ul y) (J.ul y)) fun S T Y U=>Pb x O (Nb O ((ag) ⟨S,T,O,U,O,Y⟩)))))
       ·exact psk 5 x O (Pb x O (Nb O ((ag) ⟨false,a,O,Le.refl _ _,O,Y⟩)))
      ·exact psk 5 k O (Pb k O (mb O (psk 5 O O (Pb O O (Nb O ((ag) ⟨false,a,O,Le.refl _ _,O,Y⟩))))))
     ·exact psk 5 i O (Pb i O (mb O (psk 5 O O (Pb O O (mb O (psk 5 O O (Pb O O (Nb O ((ag) ⟨false,a,O,Le.refl _ _,O,Y⟩)))))))))
    ·exact psk 5 h O (Pb h O (mb O (psk 5 O O (Pb O O (mb O (psk 5 O O (Pb O O (mb O (psk 5 O O (Pb O O (Nb O ((ag) ⟨false,a,O,Le.refl _ _,O,Y⟩))))))))))))
   ·exact psk 5 f O (Pb f O (mb O (psk 5 O O (Pb O O (mb O (psk 5 O O (Pb O O (mb O (psk 5 O O (Pb O O (mb O (psk 5 O O (Pb O O (Nb O ((ag) ⟨false,a,O,Le.refl _ _,O,Y⟩)))))))))))))))
  ·exact psk 5 e O (Pb e O (mb O (psk 5 O O (Pb O O (mb O (psk 5 O O (Pb O O (mb O (psk 5 O O (Pb O O (mb O (psk 5 O O (Pb O O (mb O (psk 5 O O (Pb O O (Nb O ((ag) ⟨false,a,O,Le.refl _ _,O,Y⟩))))))))))))))))))
theorem p9 {x0 a x1 b r}(d:Rd W K [vI x0.Kind,vS x0.Branch,vS x0.Who,vS x0.Path,vS x0.To,vI x0.At,a] x0)(f:Rd W K [vI x1.Kind,vS x1.Branch,vS x1.Who,vS x1.Path,vS x1.To,vI x1.At,b] x1)(Y:Vm.zcq x0 x1=some r):Q1 9 [.agg [vI x0.Kind,vS x0.Branch,vS x0.Who,vS x0.Path,vS x0.To,vI x0.At,a].toArray, .agg [vI x1.Kind,vS x1.Branch,vS x1.Who,vS x1.Path,vS x1.To,vI x1.At,b].toArray] W [] fun W' v=>v=vB r:=
 (c9 (d.view _) (f.view _) Y).ad (fk 0) fun _ _ e=>e
theorem c10 {x0 d r}(k:Rd W0 [0] [vI x0.Kind,vS x0.Branch,vS x0.Who,vS x0.Path,vS x0.To,vI x0.At,d] x0)(x:Gk 2 0 1 W0 [0])(Y:Vm.zce x0=some r):Q0 10 [.agg [vI x0.Kind,vS x0.Branch,vS x0.Who,vS x0.Path,vS x0.To,vI x0.At,d].toArray] W0 fun Wf v=>v=vS r:=by
 unfold Vm.zce at Y
 obtain⟨B,e,f⟩:=Op.split k
 simp only[List.cons.injEq,and_true,true_and]at e
 obtain rfl:=e
 refine zaq.of Tryd.func10 O O O O (sr (bo 2 O fun C D y h=>?_))
 have a:=y.o
 refine Ns O (ssr (la h (ca Y (fun _=>p13 (Op.rd (K:=[0]) x0.Kind x0.Branch x0.Who x0.Path x0.To x0.At x0.Text (f.ul a)) (x.ul a)) fun E F Y i=>?_)))
 have b:=a.n i
 refine Lw.r O (R.not O) (nl (cn Y (fun Y=>?_) fun Y=>?_))
 ·exact sr (Ns O (.ret (rt Y b)))
 ·refine sk (sr (la (h.up i) (ca Y (fun _=>p27 (Op.rd (K:=[0]) x0.Kind x0.Branch x0.Who x0.Path x0.To x0.At x0.Text (f.ul b))) fun G H Y z=>?_)))
  have A:=b.n z
  exact Ns O (.ret (rt Y A))
theorem p10 {x0 a r}(b:Rd W K [vI x0.Kind,vS x0.Branch,vS x0.Who,vS x0.Path,vS x0.To,vI x0.At,a] x0)(d:Gk 2 0 1 W K)(Y:Vm.zce x0=some r):Q1 10 [.agg [vI x0.Kind,vS x0.Branch,vS x0.Who,vS x0.Path,vS x0.To,vI x0.At,a].toArray] W [] fun W' v=>v=vS r:=
 (c10 (b.view _) (d.view _) Y).ad (fk 0) fun _ _ e=>e
end Go.Sx
