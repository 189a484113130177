/- Walks: each function answers as its model, printed by a program of ours. Conditions: the arguments read as they are given. -/
import Derived.Test.YtifbmanldeabeaaDoorATs
import Derived.Test.YtifbmanldeabeaaDoorAM0
import Derived.Test.YtifbmanldeabeaaDoorAW1
import Derived.Test.YtifbmanldeabeaaDoorAE
namespace Go.Sx
open Go Go.Proofs Go.Vm Rp
set_option linter.unusedVariables false
set_option linter.unusedSimpArgs false
variable {W W0:CW}{K:List Nat}
theorem c5 {x0 r}(X:Gk 2 0 1 W0 [0])(Y:Vm.zb4 x0=some r):Q0 5 [vS x0] W0 fun Wf v=> ∃ bn,v = .tuple [.agg [vI r.1.Kind,vS r.1.Branch,vS r.1.Who,vS r.1.Path,vS r.1.To,vI r.1.At,bn].toArray,vB r.2].toArray/\OwS (α:=Tl Str) Wf LL [] [bn] r.1.Text:=by
 unfold Vm.zb4 at Y
 refine zaz.of Tryd.func5 O O O O (sr (al 2 [vI 0,vS ([]:Str),vS ([]:Str),vS ([]:Str),vS ([]:Str),vI 0, .slice none 0 0] fun g1 W1 l1 b1=>?_))
 have a2:=l1.o
 refine Nb O (sr (ms O (cr Y (fun _=>p14 (k0:=3) (X.ul a2)) ?_)))
 rintro z4 a W6 Y l6 ⟨_,rfl,br⟩
 have a7:=a2.n l6
 refine Nv a O (ssr (mv a O (Lw.ln z4 br.rd O (Lw.lt O (nl (cn Y (fun Y=>?_) fun Y=>?_))))))
 ·refine sr (Lw.r O (R.bd (zs:=[vI 0,vS ([]:Str),vS ([]:Str),vS ([]:Str),vS ([]:Str),vI 0, .slice none 0 0]) (cs:=[vI 0,vS ([]:Str),vS ([]:Str),vS ([]:Str),vS ([]:Str),vI 0, .slice none 0 0]) [] O O O zgT) (sta (b1.up l6) (zab O (zab O (zab O (zab O (zab O (zab O (zab O zdO))))))) fun ey l10 c2=>?_))
  have c3:=a7.t l10
  refine Nb O ?_
  cases Y
  exact Cw.ret (zkF O c2 O (Res.mk c3 ⟨.slice none 0 0,O,(zoh []).sub O O⟩))
 ·refine sk (Cw.seq ?_)
  obtain⟨Z,c4,Y⟩:=ob Y
  obtain⟨an,bv,Y⟩:=ob Y
  obtain⟨b,c6,Y⟩:=ob Y
  obtain⟨d,bw,Y⟩:=ob Y
  obtain⟨e,bz,Y⟩:=ob Y
  refine Cw.par [[],[],[1],[1,2],[0,1,2,3],[],[5],[5,6],[],[8],[8,9],[0,1,2,3,4,5,6,7,8,9,10],[],[0,1,2,3,4,5,6,7,8,9,10,11,12]] [[],[],[1],[2],[0,3],[],[5],[6],[],[8],[9],[4,7,10],[],[11,12]] [[],[],[],[],[],[],[],[],[],[],[],[],[],[5]] [[0],[1],[2],[3],[4],[5],[6],[7],[8],[9],[10],[11],[12],[12]] [[4],[],[],[],[],[],[],[],[],[],[],[],[5],[5]] [0,1,2,3,4,5,6,7,8,9,10,11,13] [5] [fun vs W=>Ow W 4 [] [(vs 0)] Z,fun vs W=>(vs 1)=a,fun vs W=>(vs 2)=ptr ((slA a).add ((0:Int).toNat*Rp.sz (Str))),fun vs W=>(vs 3)=vS an,fun vs W=>(vs 4)=vI b,fun vs W=>(vs 5)=a,fun vs W=>(vs 6)=ptr ((slA a).add ((1:Int).toNat*Rp.sz (Str))),fun vs W=>(vs 7)=vS d,fun vs W=>(vs 8)=a,fun vs W=>(vs 9)=ptr ((slA a).add ((2:Int).toNat*Rp.sz (Str))),fun vs W=>(vs 10)=vS e,fun vs W=>(vs 11) = .agg [vI b,vS d,vS e,vS ([]:Str),vS ([]:Str),vI 0, .slice none 0 0].toArray,fun vs W=>(vs 12)=ptr (bx (pg (vs 12)))/\Bx W 5 (pg (vs 12)) [vI 0,vS ([]:Str),vS ([]:Str),vS ([]:Str),vS ([]:Str),vI 0, .slice none 0 0],fun vs W=>(vs 12)=ptr (bx (pg (vs 12)))/\Bx W 5 (pg (vs 12)) [vI b,vS d,vS e,vS ([]:Str),vS ([]:Str),vI 0, .slice none 0 0]] [] mixed (by kernel_rfl) O zi6.nil ?_
  intro ez ao
  have c7:=a7.n ao
  have x:=br.up ao
  refine⟨(zat.cons ?_ (zat.cons ?_ (zat.cons ?_ (zat.cons ?_ (zat.cons ?_ (zat.cons ?_ (zat.cons ?_ (zat.cons ?_ (zat.cons ?_ (zat.cons ?_ (zat.cons ?_ (zat.cons ?_ (zat.cons ?_ (zat.cons ?_ zat.nil)))))))))))))),(zbE.cons SO (zbE.cons SE (zbE.cons SE (zbE.cons SE (zbE.cons SE (zbE.cons SE (zbE.cons SE (zbE.cons SE (zbE.cons SE (zbE.cons SE (zbE.cons SE (zbE.cons SE (zbE.cons (fun vs vs' W W' _ hv l hd h=>by(show(vs' 12)=ptr (bx (pg (vs' 12)))/\Bx W' 5 (pg (vs' 12)) [vI 0,vS ([]:Str),vS ([]:Str),vS ([]:Str),vS ([]:Str),vI 0, .slice none 0 0]);rw[hv 12 (zaE O)];exact⟨h.1,h.2.up l (zj3 hd (c:=5) O)⟩) (zbE.cons (fun vs vs' W W' _ hv l hd h=>by(show(vs' 12)=ptr (bx (pg (vs' 12)))/\Bx W' 5 (pg (vs' 12)) [vI b,vS d,vS e,vS ([]:Str),vS ([]:Str),vI 0, .slice none 0 0]);rw[hv 12 (zaE O)];exact⟨h.1,h.2.up l (zj3 hd (c:=5) O)⟩) zbE.nil)))))))))))))),?_⟩
  ·intro vs e0 lW hN hV
   refine Tr.mono (T.call O (p16 (k0:=4) c4)) ?_
   rintro c8 _ ⟨b0,rfl,c9,⟨_,rfl,da⟩⟩
   exact⟨b0,O,c9,(show Ow b0 4 [] [c8] Z from da)⟩
  ·intro vs e1 lW hN hV
   exact Trq (R.mv (v:=a) O) O
  ·intro vs e2 lW hN hV
   have ap:vs 1=a:=(hN 1 (zaE O))
   obtain⟨vs,rfl⟩:=zac ap
   exact Trq (R.ix (α:=Str) (x.up lW O).rd bv O O O) O
  ·intro vs e3 lW hN hV
   have aq:vs 2=ptr ((slA a).add ((0:Int).toNat*Rp.sz (Str))):=(hN 2 (zaE O))
   obtain⟨vs,rfl⟩:=zac aq
   exact Trq (R.ld O O ((x.up lW O).rd.at_ bv).str) O
  ·intro vs db lW hN hV
   obtain⟨ar,au⟩: ∃ v,vs 0=v:=⟨_,O⟩
   obtain⟨vs,rfl⟩:=zac au
   have dc:Ow db 4 [] [ar] Z:=(hN 0 (zaE O))
   have av:vs 3=vS an:=(hN 3 (zaE O))
   obtain⟨vs,rfl⟩:=zac av
   refine Tr.mono (T.call O (p15 (K:=[4]) dc.rd c6)) ?_
   rintro _ _ ⟨dd,rfl,de,rfl⟩
   exact⟨dd,O,de,(show(vI b:Value)=vI b from O)⟩
  ·intro vs e4 lW hN hV
   exact Trq (R.mv (v:=a) O) O
  ·intro vs e5 lW hN hV
   have aw:vs 5=a:=(hN 5 (zaE O))
   obtain⟨vs,rfl⟩:=zac aw
   exact Trq (R.ix (α:=Str) (x.up lW O).rd bw O O O) O
  ·intro vs e6 lW hN hV
   have ax:vs 6=ptr ((slA a).add ((1:Int).toNat*Rp.sz (Str))):=(hN 6 (zaE O))
   obtain⟨vs,rfl⟩:=zac ax
   exact Trq (R.ld O O ((x.up lW O).rd.at_ bw).str) O
  ·intro vs e7 lW hN hV
   exact Trq (R.mv (v:=a) O) O
  ·intro vs e8 lW hN hV
   have ay:vs 8=a:=(hN 8 (zaE O))
   obtain⟨vs,rfl⟩:=zac ay
   exact Trq (R.ix (α:=Str) (x.up lW O).rd bz O O O) O
  ·intro vs e9 lW hN hV
   have az:vs 9=ptr ((slA a).add ((2:Int).toNat*Rp.sz (Str))):=(hN 9 (zaE O))
   obtain⟨vs,rfl⟩:=zac az
   exact Trq (R.ld O O ((x.up lW O).rd.at_ bz).str) O
  ·intro vs fb lW hN hV
   have a0:vs 4=vI b:=(hN 4 (zaE O))
   obtain⟨vs,rfl⟩:=zac a0
   have a1:vs 7=vS d:=(hN 7 (zaE O))
   obtain⟨vs,rfl⟩:=zac a1
   have a3:vs 10=vS e:=(hN 10 (zaE O))
   obtain⟨vs,rfl⟩:=zac a3
   exact Trq (R.bd (zs:=[vI 0,vS ([]:Str),vS ([]:Str),vS ([]:Str),vS ([]:Str),vI 0, .slice none 0 0]) (cs:=[vI b,vS d,vS e,vS ([]:Str),vS ([]:Str),vI 0, .slice none 0 0]) [(0,vI b),(1,vS d),(2,vS e)] O O O (zgb O O (zgb O O (zgb O O zgT)))) O
  ·intro vs fc lW hN hV
   refine Tr.mono (T.alloc 5 (cs:=[vI 0,vS ([]:Str),vS ([]:Str),vS ([]:Str),vS ([]:Str),vI 0, .slice none 0 0]) O) ?_
   rintro _ _ ⟨a4,b2,rfl,rfl,df,dg⟩
   exact⟨b2,O,df,(show(ptr (bx a4):Value)=ptr (bx a4)/\Bx b2 5 a4 [vI 0,vS ([]:Str),vS ([]:Str),vS ([]:Str),vS ([]:Str),vI 0, .slice none 0 0] from⟨O,dg⟩)⟩
  ·intro vs dh lW hN hV
   have a5:vs 11 = .agg [vI b,vS d,vS e,vS ([]:Str),vS ([]:Str),vI 0, .slice none 0 0].toArray:=(hN 11 (zaE O))
   obtain⟨vs,rfl⟩:=zac a5
   obtain⟨f,a6⟩: ∃ f,vs 12=ptr (bx f):=⟨_,((hN 12 (zaE O))).1⟩
   obtain⟨vs,rfl⟩:=zac a6
   have di:Bx dh 5 f [vI 0,vS ([]:Str),vS ([]:Str),vS ([]:Str),vS ([]:Str),vI 0, .slice none 0 0]:=(hN 12 (zaE O)).2
   refine Tr.mono (T.sta (vs:=[vI b,vS d,vS e,vS ([]:Str),vS ([]:Str),vI 0, .slice none 0 0]) di O O (zab O (zab O (zab O (zab O (zab O (zab O (zab O zdO))))))) O O) ?_
   rintro _ _ ⟨b3,rfl,dj,dk⟩
   exact⟨b3,O,dj,(show(ptr (bx f))=ptr (bx f)/\Bx b3 5 f [vI b,vS d,vS e,vS ([]:Str),vS ([]:Str),vI 0, .slice none 0 0] from⟨O,dk⟩)⟩
  ·intro vs H a8 hN
   have a9:=c7.t a8
   have i:=x.up a8
   obtain⟨ar,au⟩: ∃ v,vs 0=v:=⟨_,O⟩
   obtain⟨vs,rfl⟩:=zac au
   have fd:Ow H 4 [] [ar] Z:=(hN 0 (zaE O))
   have ap:vs 1=a:=(hN 1 (zaE O))
   obtain⟨vs,rfl⟩:=zac ap
   have aq:vs 2=ptr ((slA a).add ((0:Int).toNat*Rp.sz (Str))):=(hN 2 (zaE O))
   obtain⟨vs,rfl⟩:=zac aq
   have av:vs 3=vS an:=(hN 3 (zaE O))
   obtain⟨vs,rfl⟩:=zac av
   have a0:vs 4=vI b:=(hN 4 (zaE O))
   obtain⟨vs,rfl⟩:=zac a0
   have aw:vs 5=a:=(hN 5 (zaE O))
   obtain⟨vs,rfl⟩:=zac aw
   have ax:vs 6=ptr ((slA a).add ((1:Int).toNat*Rp.sz (Str))):=(hN 6 (zaE O))
   obtain⟨vs,rfl⟩:=zac ax
   have a1:vs 7=vS d:=(hN 7 (zaE O))
   obtain⟨vs,rfl⟩:=zac a1
   have ay:vs 8=a:=(hN 8 (zaE O))
   obtain⟨vs,rfl⟩:=zac ay
   have az:vs 9=ptr ((slA a).add ((2:Int).toNat*Rp.sz (Str))):=(hN 9 (zaE O))
   obtain⟨vs,rfl⟩:=zac az
   have a3:vs 10=vS e:=(hN 10 (zaE O))
   obtain⟨vs,rfl⟩:=zac a3
   have a5:vs 11 = .agg [vI b,vS d,vS e,vS ([]:Str),vS ([]:Str),vI 0, .slice none 0 0].toArray:=(hN 11 (zaE O))
   obtain⟨vs,rfl⟩:=zac a5
   obtain⟨f,a6⟩: ∃ f,vs 12=ptr (bx f):=⟨_,(hN 13 (zaE O)).1⟩
   obtain⟨vs,rfl⟩:=zac a6
   have I:Bx H 5 f [vI b,vS d,vS e,vS ([]:Str),vS ([]:Str),vI 0, .slice none 0 0]:=(hN 13 (zaE O)).2
   obtain⟨dl,dm,Y⟩:=zci Y
   refine Cw.join 24 83 [] (fun l w=> ∃ y z A B C D k J E,CW.w E=w/\Le [5,7] H E/\l=[]/\Ow (α:=Tl Str) E 6 [] [J] k/\Bx E 5 f [vI y,vS z,vS A,vS B,vS C,vI D,J]/\dl y z A B C D k=some r) ?_ ?_
   ·rintro _ _ σ ⟨y,z,A,B,C,D,k,J,E,rfl,b4,rfl,aa,ba,Y⟩
    rw[dm]at Y
    have b5:=a9.t b4
    refine Cw.seq ?_
    obtain⟨dn,dp,Y⟩:=zci Y
    refine Cw.join 84 92 [92] (fun l w=> ∃ bb bc,CW.w bc=w/\Le [] E bc/\l=[vB bb]/\dn bb=some r) ?_ ?_
    ·rintro _ _ σ ⟨bb,bc,rfl,Q,rfl,Y⟩
     rw[dp]at Y
     have b6:=b5.n Q
     have b7:=((((b1.up l6).up ao).up a8).up b4).up Q
     refine cn Y (fun Y=>?_) fun Y=>?_
     ·refine sr (Lw.r O (R.bd (zs:=[vI 0,vS ([]:Str),vS ([]:Str),vS ([]:Str),vS ([]:Str),vI 0, .slice none 0 0]) (cs:=[vI 0,vS ([]:Str),vS ([]:Str),vS ([]:Str),vS ([]:Str),vI 0, .slice none 0 0]) [] O O O zgT) (sta b7 (zab O (zab O (zab O (zab O (zab O (zab O (zab O zdO))))))) fun fe dq dr=>?_))
      have ds:=b6.t dq
      refine Nb O ?_
      cases Y
      exact Cw.ret (zkF O dr O (Res.mk ds ⟨.slice none 0 0,O,(zoh []).sub O O⟩))
     ·refine sk (sr (la (ba.up Q) (sta b7 (zab O (zab O (zab O (zab O (zab O (zab O (zab (aa.up Q).oc zdO))))))) fun ff b8 dt=>?_)))
      have du:=b6.t b8
      refine Nb O ?_
      cases Y
      exact Cw.ret (zkF O dt O (Res.mk du ⟨J,O,((aa.up Q).up b8).s.sub O O⟩))
    ·refine rg (la ba ?_)
     have dv:Rd (α:=List Str) E [6] [J] k:=Ow.rdTl aa
     refine ca Y (fun _=>p19 (K:=[0,6]) (x0:=(Vm.Op.mk y z A B C D k)) ((Op.rd (K:=[6]) y z A B C D k dv).sub (M:=[0,6]) O) ((X.ul b5).sub (M:=[0,6]) O)) fun fg b9 Y ac=>Lw.r O (R.not O) (mb O (bs Y (fun S Y=>?_) fun S Y=>?_))
     ·exact psk 4 S O (Pb S O (nl ((ag) ⟨true,b9,O,ac,O,Y⟩)))
     ·refine wak 4 S (la (ba.up ac) ?_)
      have dw:Rd (α:=List Str) b9 [6] [J] k:=Ow.rdTl (aa.up ac)
      exact ca Y (fun _=>p20 (K:=[6]) (x0:=(Vm.Op.mk y z A B C D k)) (Op.rd (K:=[6]) y z A B C D k dw)) fun dx dy Y dz=>ms O (Lw.sne O (Pb S O (nl ((ag) ⟨(dx !=x0),dy,O,(ac.j dz).w,O,Y⟩))))
   ·refine sr (Lw.fa O (Lw.r O (R.ld (v:=vI b) O O (I.cell O)) (nl (Cw.block (sr (Lw.eq O (Nb O (cn Y (fun Y=>?_) fun Y=>?_))))))))
    ·refine sr (mv a O ?_)
     obtain⟨be,cb,Y⟩:=ob Y
     refine Lw.r O (R.ix (α:=Str) i.rd cb O O O) (Lw.r O (R.ld O O (i.rd.at_ cb).str) (Lw.fa O (Lw.u (T.st (j:=3) (v:=vS be) I O O O O O) ?_)))
     rintro _ _ ⟨bg,rfl,ae,cc⟩
     have d0:=a9.t ae
     have U:=i.up ae
     refine nl ?_
     obtain⟨d1,d2,Y⟩:=zci Y
     refine Cw.join 32 40 [40] (fun l w=> ∃ bh af,CW.w af=w/\Le [] bg af/\l=[vB bh]/\d1 bh=some r) ?_ ?_
     ·rintro _ _ σ ⟨bh,af,rfl,F,rfl,Y⟩
      rw[d2]at Y
      have d3:=d0.n F
      refine cn Y (fun Y=>?_) fun Y=>?_
      ·refine rg (mv a O ?_)
       obtain⟨fh,cd,Y⟩:=ob Y
       refine Lw.r O (R.ix (α:=Str) (U.up F).rd cd O O O) (Lw.r O (R.ld O O ((U.up F).rd.at_ cd).str) (cr Y (fun _=>p17 (k0:=7) (X.ul d3)) ?_))
       rintro ce cf fi Y cg ⟨_,rfl,ch⟩
       obtain⟨d4,ci,Y⟩:=ob Y
       have cj:=Ow.tail (α:=Str) ch ci
       refine Lw.r O (R.sl ch.rd ci O (.inr O) (.inl ⟨O,O⟩)) (Lw.fa O (Lw.u (T.st (j:=6) (v:=(cutV cf (1:Int).toNat (ce.length:Int).toNat (Rp.sz (Str)))) ((cc.up F).up cg) O O cj.oc O O) ?_))
       rintro _ _ ⟨fj,rfl,ck,d5⟩
       refine nl ?_
       obtain⟨d6,d7,cl,d8⟩:=(cj.up ck).dyeO 6
       exact(ag) ⟨b,d,e,be,([]:Str),0,d4,(cutV cf (1:Int).toNat (ce.length:Int).toNat (Rp.sz (Str))),d6,d7,((((ae.j F).j cg).j ck).j cl).w,O,d8,(d5.up cl),Y⟩
      ·exact sk ((ag) ⟨b,d,e,be,([]:Str),0,([]:List Str), .slice none 0 0,af,O,(ae.j F).w,O,zjm 6,(cc.up F),Y⟩)
     ·refine rg (mv a O (Lw.ln z4 U.rd O (Lw.eq O (mb O (bs Y (fun V Y=>?_) fun V Y=>?_)))))
      ·refine wak 4 V (mv a O ?_)
       obtain⟨d9,cm,Y⟩:=ob Y
       exact Lw.r O (R.ix (α:=Str) U.rd cm O O O) (Lw.r O (R.ld O O (U.rd.at_ cm).str) (Lw.sne O (Pb V O (nl ((ag) ⟨(d9 !=([]:Str)),bg,O,Le.refl _ _,O,Y⟩)))))
      ·exact psk 4 V O (Pb V O (nl ((ag) ⟨false,bg,O,Le.refl _ _,O,Y⟩)))
    ·refine sr (Lw.eq O (Nb O (cn Y (fun Y=>?_) fun Y=>?_)))
     ·refine rg (mv a O ?_)
      obtain⟨co,cp,Y⟩:=ob Y
      refine Lw.r O (R.ix (α:=Str) i.rd cp O O O) (Lw.r O (R.ld O O (i.rd.at_ cp).str) (Lw.fa O (Lw.u (T.st (j:=3) (v:=vS co) I O O O O O) ?_)))
      rintro _ _ ⟨ea,rfl,eb,ec⟩
      exact nl ((ag) ⟨b,d,e,co,([]:Str),0,([]:List Str), .slice none 0 0,ea,O,eb.w,O,zjm 6,ec,Y⟩)
     ·refine sr (Lw.eq O (Nb O (cn Y (fun Y=>?_) fun Y=>?_)))
      ·refine sr (mv a O ?_)
       obtain⟨bi,cq,Y⟩:=ob Y
       refine Lw.r O (R.ix (α:=Str) i.rd cq O O O) (Lw.r O (R.ld O O (i.rd.at_ cq).str) (Lw.fa O (Lw.u (T.st (j:=3) (v:=vS bi) I O O O O O) ?_)))
       rintro _ _ ⟨ed,rfl,bj,ct⟩
       have bk:=i.up bj
       refine nl (sr (mv a O (Lw.ln z4 bk.rd O (Lw.eq O (nl (cn Y (fun Y=>?_) fun Y=>?_))))))
       ·refine rg (mv a O ?_)
        obtain⟨cu,cv,Y⟩:=ob Y
        refine Lw.r O (R.ix (α:=Str) bk.rd cv O O O) (Lw.r O (R.ld O O (bk.rd.at_ cv).str) (Lw.fa O (Lw.u (T.st (j:=4) (v:=vS cu) ct O O O O O) ?_)))
        rintro _ _ ⟨ee,rfl,ef,eg⟩
        exact nl ((ag) ⟨b,d,e,bi,cu,0,([]:List Str), .slice none 0 0,ee,O,(bj.j ef).w,O,zjm 6,eg,Y⟩)
       ·exact sk ((ag) ⟨b,d,e,bi,([]:Str),0,([]:List Str), .slice none 0 0,ed,O,bj.w,O,zjm 6,ct,Y⟩)
      ·obtain⟨eh,ei,Y⟩:=zci Y
       refine Cw.join 66 68 [66] (fun l w=> ∃ bl L,CW.w L=w/\Le [] H L/\l=[vB bl]/\eh bl=some r) ?_ ?_
       ·rintro _ _ σ ⟨bl,L,rfl,G,rfl,Y⟩
        rw[ei]at Y
        have ej:=a9.n G
        have ah:=i.up G
        refine cn Y (fun Y=>?_) fun Y=>?_
        ·refine rg (mv a O ?_)
         obtain⟨cw,cx,Y⟩:=ob Y
         refine Lw.r O (R.ix (α:=Str) ah.rd cx O O O) (Lw.r O (R.ld O O (ah.rd.at_ cx).str) (Lw.fa O (Lw.u (T.st (j:=4) (v:=vS cw) (I.up G) O O O O O) ?_)))
         rintro _ _ ⟨ek,rfl,el,em⟩
         exact nl ((ag) ⟨b,d,e,([]:Str),cw,0,([]:List Str), .slice none 0 0,ek,O,(G.j el).w,O,zjm 6,em,Y⟩)
        ·obtain⟨en,eo,Y⟩:=zci Y
         refine Cw.join 73 75 [73] (fun l w=> ∃ bm ai,CW.w ai=w/\Le [] L ai/\l=[vB bm]/\en bm=some r) ?_ ?_
         ·rintro _ _ σ ⟨bm,ai,rfl,N,rfl,Y⟩
          rw[eo]at Y
          have ep:=ej.n N
          have cy:=(I.up G).up N
          refine cn Y (fun Y=>?_) fun Y=>?_
          ·refine rg (mv a O ?_)
           obtain⟨fm,cz,Y⟩:=ob Y
           refine Lw.r O (R.ix (α:=Str) (ah.up N).rd cz O O O) (Lw.r O (R.ld O O ((ah.up N).rd.at_ cz).str) (cr Y (fun _=>p18 (X.ul ep)) ?_))
           rintro P _ fn Y c0 ⟨aj,rfl⟩
           refine mv (.tuple [vI P.1,aj].toArray) O (Lw.r O (R.ext (vs:=[vI P.1,aj]) (v:=vI P.1) O O) (Lw.r O (R.ext (vs:=[vI P.1,aj]) (v:=aj) O O) (Lw.fa O (Lw.u (T.st (j:=5) (v:=vI P.1) (cy.up c0) O O O O O) ?_))))
           rintro _ _ ⟨er,rfl,es,et⟩
           exact nl ((ag) ⟨b,d,e,([]:Str),([]:Str),P.1,([]:List Str), .slice none 0 0,er,O,(((G.j N).j c0).j es).w,O,zjm 6,et,Y⟩)
          ·exact sk ((ag) ⟨b,d,e,([]:Str),([]:Str),0,([]:List Str), .slice none 0 0,ai,O,(G.j N).w,O,zjm 6,cy,Y⟩)
         ·refine sr (Lw.eq O (Nb O (cn Y (fun Y=>?_) fun Y=>?_)))
          ·exact sk ((ag) ⟨(b==6),L,O,Le.refl _ _,O,Y⟩)
          ·exact rg (Lw.eq O (Nb O ((ag) ⟨(b==7),L,O,Le.refl _ _,O,Y⟩)))
       ·refine sr (Lw.eq O (Nb O (cn Y (fun Y=>?_) fun Y=>?_)))
        ·exact sk ((ag) ⟨(b==4),H,O,Le.refl _ _,O,Y⟩)
        ·exact rg (Lw.eq O (Nb O ((ag) ⟨(b==5),H,O,Le.refl _ _,O,Y⟩)))
theorem p5 {x0 k0 r}(b:Gk 2 0 1 W K)(Y:Vm.zb4 x0=some r):Q1 5 [vS x0] W [] fun W' v=> ∃ a,v = .tuple [.agg [vI r.1.Kind,vS r.1.Branch,vS r.1.Who,vS r.1.Path,vS r.1.To,vI r.1.At,a].toArray,vB r.2].toArray/\Ow (α:=Tl Str) W' k0 [] [a] r.1.Text:=
 (c5 (b.view _) Y).ad (fk k0) fun _ _ ⟨a,e,d⟩=>⟨a,e,d.back (znk _)⟩
theorem c21 {x0 b x1 e r}(d:Rd W0 [0] [b] x0)(f:Rd W0 [0] [e] x1)(Y:Vm.zbb x0 x1=some r):Q0 21 [b,e] W0 fun Wf v=>v=vB r:=by
 unfold Vm.zbb at Y
 refine zaz.of Tryd.func21 O O O O (sr (Nb O (ssr (mv b O (Lw.ln x0 d O (mv e O (Lw.ln x1 f O (Lw.ne O (nl (cn Y (fun Y=>?_) fun Y=>?_))))))))))
 ·exact sr (Nb O (.ret (rt Y (Le.refl _ _))))
 ·refine sk (ssr (Ni O (Cw.block ?_)))
  obtain⟨B,C,Y⟩:=zci Y
  refine Cw.loop 11 25 [4,5] (fun m l w=> ∃ h i k,CW.w k=w/\Le [] W0 k/\l=[vB h,vI i]/\Vm.zax x0 x1 B m h i=some r) _ ⟨false,0,W0,O,Le.refl _ _,O,Y⟩ ?_
  rintro(_ |E) _ _ σ ⟨h,i,k,rfl,A,rfl,Y⟩
  ·cases Y
  unfold Vm.zax at Y
  have x:=A.o
  refine ssr (mi O (mv b O (Lw.ln x0 (d.ul x) O (Lw.lt O (nl (cn Y (fun Y=>?_) fun Y=>?_))))))
  ·refine sk (Cw.seq (Cw.block (Cw.seq (Cw.draw [] [(0,0),(1,0),(2,0),(3,1),(4,0),(5,0),(6,0),(7,1),(8,0)] mixed (by kernel_rfl) fun D l10=>?_))))
   have a:=x.n l10
   refine Dv b O (Di O ?_)
   obtain⟨F,y,Y⟩:=ob Y
   refine Mw.p O O (fun _=>R.ix (α:=Str) (d.ul a) y O O O) (Mw.q O O (fun _ c=>R.ld O O (zf8 ((d.ul a).at_ y).1 O ((d.ul a).at_ y).str c)) (Dv e O (Di O ?_)))
   obtain⟨G,z,Y⟩:=ob Y
   refine Mw.p O O (fun _=>R.ix (α:=Str) (f.ul a) z O O O) (Mw.q O O (fun _ c=>R.ld O O (zf8 ((f.ul a).at_ z).1 O ((f.ul a).at_ z).str c)) (Mw.p O O (fun _=>R.sne O O) (Mw.nil (cn Y (fun Y=>?_) fun Y=>?_))))
   ·exact sr (Nb O (.ret (rt Y a)))
   ·exact sk (rg (mi O (Lw.add O (Ni O ((agm) ⟨h,w64 (i+1),D,O,(A.j l10).w,O,Y⟩)))))
  ·refine Cw.exit ?_
   rw[C]at Y
   exact sr (Nb O (.ret (rt Y x)))
theorem p21 {x0 a x1 b r}(d:Rd W K [a] x0)(f:Rd W K [b] x1)(Y:Vm.zbb x0 x1=some r):Q1 21 [a,b] W [] fun W' v=>v=vB r:=
 (c21 (d.view _) (f.view _) Y).ad (fk 0) fun _ _ e=>e
theorem c6 {x0 e x1 f r}(y:Rd W0 [0] [vI x0.Kind,vS x0.Branch,vS x0.Who,vS x0.Path,vS x0.To,vI x0.At,e] x0)(z:Rd W0 [0] [vI x1.Kind,vS x1.Branch,vS x1.Who,vS x1.Path,vS x1.To,vI x1.At,f] x1)(Y:Vm.zc4 x0 x1=some r):Q0 6 [.agg [vI x0.Kind,vS x0.Branch,vS x0.Who,vS x0.Path,vS x0.To,vI x0.At,e].toArray, .agg [vI x1.Kind,vS x1.Branch,vS x1.Who,vS x1.Path,vS x1.To,vI x1.At,f].toArray] W0 fun Wf v=>v=vB r:=by
 unfold Vm.zc4 at Y
 obtain⟨G,h,A⟩:=Op.split y
 simp only[List.cons.injEq,and_true,true_and]at h
 obtain rfl:=h
 obtain⟨H,i,B⟩:=Op.split z
 simp only[List.cons.injEq,and_true,true_and]at i
 obtain rfl:=i
 refine zaz.of Tryd.func6 O O O O (sr (bo 2 O fun I J C D=>?_))
 have E:=C.o
 refine bo 3 O fun K L k b=>?_
 have a:=E.n k
 have d:=D.up k
 refine Nb O (ssr (fl d O (fl b O (Lw.ne O (nl (cn Y (fun Y=>?_) fun Y=>?_))))))
 ·exact sr (Nb O (.ret (rt Y a)))
 ·refine sk (ssr (fl d O (fl b O (Lw.sne O (nl (cn Y (fun Y=>?_) fun Y=>?_))))))
  ·exact sr (Nb O (.ret (rt Y a)))
  ·refine sk (ssr (fl d O (fl b O (Lw.sne O (nl (cn Y (fun Y=>?_) fun Y=>?_))))))
   ·exact sr (Nb O (.ret (rt Y a)))
   ·refine sk (ssr (fl d O (fl b O (Lw.sne O (nl (cn Y (fun Y=>?_) fun Y=>?_))))))
    ·exact sr (Nb O (.ret (rt Y a)))
    ·refine sk (ssr (fl d O (fl b O (Lw.sne O (nl (cn Y (fun Y=>?_) fun Y=>?_))))))
     ·exact sr (Nb O (.ret (rt Y a)))
     ·refine sk (ssr (fl d O (fl b O (Lw.ne O (nl (cn Y (fun Y=>?_) fun Y=>?_))))))
      ·exact sr (Nb O (.ret (rt Y a)))
      ·refine sk (ssr (fl d O (fl b O (ca Y (fun _=>p21 (A.ul a) (B.ul a)) fun M N Y F=>?_))))
       have x:=a.n F
       refine Lw.r O (R.not O) (nl (cn Y (fun Y=>?_) fun Y=>?_))
       ·exact sr (Nb O (.ret (rt Y x)))
       ·exact sk (sr (Nb O (.ret (rt Y x))))
theorem p6 {x0 a x1 b r}(d:Rd W K [vI x0.Kind,vS x0.Branch,vS x0.Who,vS x0.Path,vS x0.To,vI x0.At,a] x0)(f:Rd W K [vI x1.Kind,vS x1.Branch,vS x1.Who,vS x1.Path,vS x1.To,vI x1.At,b] x1)(Y:Vm.zc4 x0 x1=some r):Q1 6 [.agg [vI x0.Kind,vS x0.Branch,vS x0.Who,vS x0.Path,vS x0.To,vI x0.At,a].toArray, .agg [vI x1.Kind,vS x1.Branch,vS x1.Who,vS x1.Path,vS x1.To,vI x1.At,b].toArray] W [] fun W' v=>v=vB r:=
 (c6 (d.view _) (f.view _) Y).ad (fk 0) fun _ _ e=>e
theorem c41 {x0 r}(Y:Vm.zay x0=some r):Q0 41 [vI x0] W0 fun Wf v=>v=vS r:=by
 unfold Vm.zay at Y
 refine zaz.of Tryd.func41 O O O O (sr (Ns O (ssr (mi O (Lw.le O (nl (cn Y (fun Y=>?_) fun Y=>?_)))))))
 ·exact sr (Ns O (.ret (rt Y (Le.refl _ _))))
 ·refine sk (sr (Ns O (Cw.seq (Cw.block ?_))))
  obtain⟨f,i,Y⟩:=zci Y
  refine Cw.loop 6 17 [0,3] (fun m l w=> ∃ a d b,CW.w b=w/\Le [] W0 b/\l=[vI a,vS d]/\Vm.zaW f m a d=some r) _ ⟨x0,([]:Str),W0,O,Le.refl _ _,O,Y⟩ ?_
  rintro(_ |D) _ _ σ ⟨a,d,b,rfl,e,rfl,Y⟩
  ·cases Y
  unfold Vm.zaW at Y
  have k:=e.o
  refine ssr (mi O (Lw.gt O (nl (cn Y (fun Y=>?_) fun Y=>?_))))
  ·refine sk (Cw.block (sr (mi O (Lw.r O (R.rem O O (by decide)) (Lw.add O (Lw.r O (R.cv8 O O) (Lw.t O (T.bsS (α:=zdt) (xs:=[(by8 (w64 (48+(Int.tmod a 10))))]) 2 [] (W:=b) [.int .u8 (UInt8.toNat (by8 (w64 (48+(Int.tmod a 10)))):Int)] (Each.cons ((rdY _)) Each.nil) O) ?_)))))))
   rintro E _ ⟨x,rfl,y,z⟩
   refine Lw.r O (R.cvB (xs:=([(by8 (w64 (48+(Int.tmod a 10))))]:List zdt)) z.rd O (fun h=>h.1)) (ms O ?_)
   obtain⟨A,B,Y⟩:=ob Y
   exact Lw.r O (R.sad B O O) (Ns O (rg (mi O (Lw.r O (R.quo O O (by decide)) (Ni O ((agm) ⟨w64 (Int.tdiv a 10),A,x,O,(e.j y).w,O,Y⟩))))))
  ·refine Cw.exit ?_
   rw[i]at Y
   refine sr (ms O ?_)
   obtain⟨F,C,Y⟩:=ob Y
   exact Lw.r O (R.sad C O O) (Ns O (.ret (rt Y k)))
theorem p41 {x0 r}(Y:Vm.zay x0=some r):Q1 41 [vI x0] W [] fun W' v=>v=vS r:=
 (c41 (W0:=W.view [] []) Y).ad (fk 0) fun _ _ e=>e
theorem c22 {x0 a x1 r}(x:Ow (α:=Tl Str) W0 2 [] [a] x0)(Y:Vm.zaF x0 x1=some r):Q0 22 [a,vI x1] W0 fun Wf v=>v=vI r.1/\Ow (α:=Tl Str) Wf 2 [] [a] r.2:=by
 unfold Vm.zaF at Y
 refine zaz.of Tryd.func22 O O O O (sr (Ni O (ssr (Ni O (Cw.block ?_)))))
 obtain⟨y,z,Y⟩:=zci Y
 refine Cw.loop 6 18 [1,5] (fun m l w=> ∃ e f b d,CW.w d=w/\Le [2] W0 d/\l=[vI e,vI f]/\Ow (α:=Tl Str) d 2 [] [a] b/\Vm.zan y m e f b=some r) _ ⟨x1,0,x0,W0,O,Le.refl _ _,O,x,Y⟩ ?_
 rintro(_ |K) _ _ σ ⟨e,f,b,d,rfl,k,rfl,h,Y⟩
 ·cases Y
 unfold Vm.zan at Y
 have A:=k.s
 refine ssr ?_
 have B:Rd (α:=List Str) d [2] [a] b:=Ow.rdTl h
 refine mi O (mv a O (Lw.ln b B O (Lw.lt O (nl (cn Y (fun Y=>?_) fun Y=>?_)))))
 ·refine sk (Cw.seq (Cw.block (sr (mv a O (mi O (mi O (ca Y (fun _=>p41) fun L C Y i=>?_)))))))
  obtain⟨M,D,Y⟩:=ob Y
  have E:Rd (α:=List Str) C [2] [a] b:=Ow.rdTl (h.up i)
  refine Lw.r O (R.ix (α:=Str) E D O O O) ?_
  obtain⟨F,G,Y⟩:=ob Y
  refine Lw.u (T.stTl (α:=Str) (h.up i) (rdS _) G O O O) ?_
  rintro _ _ ⟨H,rfl,I,J⟩
  exact nl (rg (mi O (Lw.add O (Ni O (rg (mi O (Lw.add O (Ni O ((agm) ⟨w64 (e+1),w64 (f+1),F,H,O,((k.j i).j I).w,O,J,Y⟩)))))))))
 ·refine Cw.exit ?_
  rw[z]at Y
  refine sr (mi O (Ni O ?_))
  cases Y
  exact Cw.ret (zpE O (Res.mk A ⟨O,h⟩))
theorem p22 {x0 a x1 c0 r}(b:Ow (α:=Tl Str) W c0 [] [a] x0)(hJ:okJ K [c0]=true)(Y:Vm.zaF x0 x1=some r):Q1 22 [a,vI x1] W [c0] fun W' v=>v=vI r.1/\Ow (α:=Tl Str) W' c0 [] [a] r.2:=
 zaz.adJ (J:=[c0]) (fun c=>bif Nat.beq c 0 then 0 else bif Nat.beq c 2 then c0 else 0) (c22 (W0:=W.view K [c0]) (b.viewJ 0 hJ) Y) fun _ _ ⟨e,d⟩=>⟨e,Ow.backJ 0 d O⟩
theorem c7 {x0 a x1 r}(d:Ow (α:=Tl Str) W0 2 [] [a] x0.Text)(Y:Vm.zcB x0 x1=some r):Q0 7 [.agg [vI x0.Kind,vS x0.Branch,vS x0.Who,vS x0.Path,vS x0.To,vI x0.At,a].toArray,vI x1] W0 fun Wf v=>v=vI r.1/\Ow (α:=Tl Str) Wf 2 [] [a] r.2.Text:=by
 unfold Vm.zcB at Y
 refine zaz.of Tryd.func7 O O O O (sr (bo 3 O fun x y b e=>?_))
 have f:=b.o
 refine Ni O (sr (fl e O (mi O (cr Y (fun _=>p22 (K:=[0]) (c0:=2) (d.up b) O) ?_))))
 rintro z _ A Y h ⟨rfl,i⟩
 have k:=f.t h
 refine Ni O (sr (mi O (Ni O ?_)))
 cases Y
 exact Cw.ret (zpE O (Res.mk k ⟨O,i⟩))
theorem p7 {x0 a x1 c0 r}(b:Ow (α:=Tl Str) W c0 [] [a] x0.Text)(hJ:okJ K [c0]=true)(Y:Vm.zcB x0 x1=some r):Q1 7 [.agg [vI x0.Kind,vS x0.Branch,vS x0.Who,vS x0.Path,vS x0.To,vI x0.At,a].toArray,vI x1] W [c0] fun W' v=>v=vI r.1/\Ow (α:=Tl Str) W' c0 [] [a] r.2.Text:=
 zaz.adJ (J:=[c0]) (fun c=>bif Nat.beq c 0 then 0 else bif Nat.beq c 2 then c0 else 0) (c7 (W0:=W.view K [c0]) (b.viewJ 0 hJ) Y) fun _ _ ⟨e,d⟩=>⟨e,Ow.backJ 0 d O⟩
theorem c23 {x0 a x1 r}(b:Rd W0 [0] [a] x0)(Y:Vm.zaX x0 x1=some r):Q0 23 [a,vI x1] W0 fun Wf v=>v=vI r:=by
 unfold Vm.zaX at Y
 refine zaz.of Tryd.func23 O O O O (sr (Ni O (ssr (Ni O (Cw.block ?_)))))
 obtain⟨A,B,Y⟩:=zci Y
 refine Cw.loop 6 20 [1,4,5] (fun m l w=> ∃ d e f i,CW.w i=w/\Le [] W0 i/\l=[vI d,vI e,vI f]/\Vm.zao x0 A m d e f=some r) _ ⟨x1,0,0,W0,O,Le.refl _ _,O,Y⟩ ?_
 rintro(_ |F) _ _ σ ⟨d,e,f,i,rfl,z,rfl,Y⟩
 ·cases Y
 unfold Vm.zao at Y
 have k:=z.o
 refine ssr (mi O (mv a O (Lw.ln x0 (b.ul k) O (Lw.lt O (nl (cn Y (fun Y=>?_) fun Y=>?_))))))
 ·refine sk (Cw.seq (Cw.block (Cw.seq (Cw.seq (Cw.draw [] [(0,0),(1,0),(2,0),(3,1),(4,0),(5,2),(6,0)] mixed (by kernel_rfl) fun G l10=>?_)))))
  have h:=k.n l10
  refine Dv a O (Di O ?_)
  obtain⟨H,x,Y⟩:=ob Y
  refine Mw.p O O (fun _=>R.ix (α:=Str) (b.ul h) x O O O) (Mw.q O O (fun _ c=>R.ld O O (zf8 ((b.ul h).at_ x).1 O ((b.ul h).at_ x).str c)) (Di O ?_))
  obtain⟨I,C,Y⟩:=ob Y
  refine Mw.t O O (T.call O (p41 C)) ?_
  rintro _ _ ⟨D,rfl,y,rfl⟩
  have E:=h.n y
  refine m0 y fun J=>Mw.p O O (fun _=>R.sne O O) (Mw.nil (cn Y (fun Y=>?_) fun Y=>?_))
  ·exact sr (Ni O (.ret (rt Y E)))
  ·exact sk (rg (mi O (Lw.add O (Ni O (rg (mi O (Lw.add O (Ni O ((agm) ⟨w64 (d+1),e,w64 (f+1),D,O,((z.j l10).j y).w,O,Y⟩)))))))))
 ·refine Cw.exit ?_
  rw[B]at Y
  exact sr (mi O (Ni O (.ret (rt Y k))))
theorem p23 {x0 a x1 r}(b:Rd W K [a] x0)(Y:Vm.zaX x0 x1=some r):Q1 23 [a,vI x1] W [] fun W' v=>v=vI r:=
 (c23 (b.view _) Y).ad (fk 0) fun _ _ e=>e
theorem c8 {x0 a x1 r}(f:Rd W0 [0] [vI x0.Kind,vS x0.Branch,vS x0.Who,vS x0.Path,vS x0.To,vI x0.At,a] x0)(Y:Vm.zce x0 x1=some r):Q0 8 [.agg [vI x0.Kind,vS x0.Branch,vS x0.Who,vS x0.Path,vS x0.To,vI x0.At,a].toArray,vI x1] W0 fun Wf v=>v=vI r:=by
 unfold Vm.zce at Y
 obtain⟨y,b,h⟩:=Op.split f
 simp only[List.cons.injEq,and_true,true_and]at b
 obtain rfl:=b
 refine zaz.of Tryd.func8 O O O O (sr (bo 2 O fun z A i k=>?_))
 have d:=i.o
 refine Ni O (sr (fl k O (mi O (ca Y (fun _=>p23 (h.ul d)) fun B C Y x=>?_))))
 have e:=d.n x
 refine Ni O (ssr (mi O (Lw.lt O (nl (cn Y (fun Y=>?_) fun Y=>?_)))))
 ·exact sr (Ni O (.ret (rt Y e)))
 ·exact sk (sr (mi O (Ni O (.ret (rt Y e)))))
theorem p8 {x0 a x1 r}(b:Rd W K [vI x0.Kind,vS x0.Branch,vS x0.Who,vS x0.Path,vS x0.To,vI x0.At,a] x0)(Y:Vm.zce x0 x1=some r):Q1 8 [.agg [vI x0.Kind,vS x0.Branch,vS x0.Who,vS x0.Path,vS x0.To,vI x0.At,a].toArray,vI x1] W [] fun W' v=>v=vI r:=
 (c8 (b.view _) Y).ad (fk 0) fun _ _ e=>e
theorem c3 {x0 r}(ae:Gk 2 0 1 W0 [0])(Y:Vm.za2 x0=some r):Q0 3 [vS x0] W0 fun Wf v=>v=vB r:=by
 unfold Vm.za2 at Y
 refine zaz.of Tryd.func3 O O O O (sr (Nb O (ssr (ms O (Lw.r O (R.lenS O) (Lw.gt O (nl (cn Y (fun Y=>?_) fun Y=>?_))))))))
 ·exact sr (Nb O (.ret (rt Y (Le.refl _ _))))
 ·refine sk (sr (ms O (cr Y (fun _=>p4 (K:=[0])) ?_)))
  rintro b _ W4 Y l4 ⟨J,rfl,a1⟩
  have S:=a1.sub (M:=[0]) O
  have y:=l4.o
  refine mv (.tuple [.agg [vI b.1.Kind,vS b.1.Branch,vS b.1.Who,vS b.1.Path,vS b.1.To,vI b.1.At,J].toArray,vB b.2].toArray) O (Lw.r O (R.ext (vs:=[.agg [vI b.1.Kind,vS b.1.Branch,vS b.1.Who,vS b.1.Path,vS b.1.To,vI b.1.At,J].toArray,vB b.2]) (v:= .agg [vI b.1.Kind,vS b.1.Branch,vS b.1.Who,vS b.1.Path,vS b.1.To,vI b.1.At,J].toArray) O O) (Lw.r O (R.ext (vs:=[.agg [vI b.1.Kind,vS b.1.Branch,vS b.1.Who,vS b.1.Path,vS b.1.To,vI b.1.At,J].toArray,vB b.2]) (v:=vB b.2) O O) (al 2 [vI 0,vS ([]:Str),vS ([]:Str),vS ([]:Str),vS ([]:Str),vI 0, .slice none 0 0] fun g7 W7 l7 b7=>?_)))
  have e:=l7.o
  refine sta b7 (zab O (zab O (zab O (zab O (zab O (zab O (zab S.oc zdO))))))) fun W9 l9 b9=>?_
  have f:=l9.s
  refine Nb O (sr (ms O (cr Y (fun _=>p5 (k0:=3) (ae.ul ((y.trans e).trans f))) ?_)))
  rintro a _ bu Y af ⟨h,rfl,ah⟩
  have i:=af.o
  refine mv (.tuple [.agg [vI a.1.Kind,vS a.1.Branch,vS a.1.Who,vS a.1.Path,vS a.1.To,vI a.1.At,h].toArray,vB a.2].toArray) O (Lw.r O (R.ext (vs:=[.agg [vI a.1.Kind,vS a.1.Branch,vS a.1.Who,vS a.1.Path,vS a.1.To,vI a.1.At,h].toArray,vB a.2]) (v:= .agg [vI a.1.Kind,vS a.1.Branch,vS a.1.Who,vS a.1.Path,vS a.1.To,vI a.1.At,h].toArray) O O) (Lw.r O (R.ext (vs:=[.agg [vI a.1.Kind,vS a.1.Branch,vS a.1.Who,vS a.1.Path,vS a.1.To,vI a.1.At,h].toArray,vB a.2]) (v:=vB a.2) O O) (al 4 [vI 0,vS ([]:Str),vS ([]:Str),vS ([]:Str),vS ([]:Str),vI 0, .slice none 0 0] fun bv bw L a7=>?_)))
  have k:=L.o
  refine sta a7 (zab O (zab O (zab O (zab O (zab O (zab O (zab (ah.up L).oc zdO))))))) fun ai T U=>?_
  have x:=T.s
  have aj:=(ah.up L).up T
  have ak:=((b9.up af).up L).up T
  refine Nb O (Cw.seq ?_)
  obtain⟨a9,ba,Y⟩:=zci Y
  refine Cw.join 24 32 [32] (fun l w=> ∃ V W,CW.w W=w/\Le [] ai W/\l=[vB V]/\a9 V=some r) ?_ ?_
  ·rintro _ _ σ ⟨V,W,rfl,C,rfl,Y⟩
   rw[ba]at Y
   have z:=C.o
   refine cn Y (fun Y=>?_) fun Y=>?_
   ·exact sr (Nb O (.ret (rt Y ((((((y.trans e).trans f).trans i).trans k).trans x).trans z))))
   ·refine sk (sr (Ni O (sr (la (U.up C) (mi O (cr Y (fun _=>p7 (K:=[0]) (c0:=3) (x0:=(Vm.Op.mk a.1.Kind a.1.Branch a.1.Who a.1.Path a.1.To a.1.At a.1.Text)) (aj.up C) O) ?_))))))
    rintro A _ bb Y X ⟨rfl,am⟩
    have D:=X.s
    have an:=(U.up C).up X
    refine Ni O (sr (Ni O (sr (la an (mi O ?_)))))
    have bc:Rd (α:=List Str) bb [3] [h] A.2.Text:=Ow.rdTl am
    refine ca Y (fun _=>p8 (K:=[3]) (x0:=(Vm.Op.mk a.1.Kind a.1.Branch a.1.Who a.1.Path a.1.To a.1.At A.2.Text)) (Op.rd (K:=[3]) a.1.Kind a.1.Branch a.1.Who a.1.Path a.1.To a.1.At A.2.Text bc)) fun bz b0 Y N=>?_
    have E:=N.o
    refine Ni O (ssr (mi O (Lw.lt O (nl (cn Y (fun Y=>?_) fun Y=>?_)))))
    ·exact sr (Nb O (.ret (rt Y ((((((((y.trans e).trans f).trans i).trans k).trans x).trans z).trans D).trans E))))
    ·refine sk (ssr (mi O (mi O (Lw.ne O (nl (cn Y (fun Y=>?_) fun Y=>?_))))))
     ·exact sr (Nb O (.ret (rt Y ((((((((y.trans e).trans f).trans i).trans k).trans x).trans z).trans D).trans E))))
     ·refine sk (sr (ms O (cr Y (fun _=>p5 (k0:=5) (ae.ul ((((((((y.trans e).trans f).trans i).trans k).trans x).trans z).trans D).trans E))) ?_)))
      rintro d _ b1 Y P ⟨F,rfl,ao⟩
      have ap:=P.o
      refine mv (.tuple [.agg [vI d.1.Kind,vS d.1.Branch,vS d.1.Who,vS d.1.Path,vS d.1.To,vI d.1.At,F].toArray,vB d.2].toArray) O (Lw.r O (R.ext (vs:=[.agg [vI d.1.Kind,vS d.1.Branch,vS d.1.Who,vS d.1.Path,vS d.1.To,vI d.1.At,F].toArray,vB d.2]) (v:= .agg [vI d.1.Kind,vS d.1.Branch,vS d.1.Who,vS d.1.Path,vS d.1.To,vI d.1.At,F].toArray) O O) (Lw.r O (R.ext (vs:=[.agg [vI d.1.Kind,vS d.1.Branch,vS d.1.Who,vS d.1.Path,vS d.1.To,vI d.1.At,F].toArray,vB d.2]) (v:=vB d.2) O O) (al 6 [vI 0,vS ([]:Str),vS ([]:Str),vS ([]:Str),vS ([]:Str),vI 0, .slice none 0 0] fun b2 b3 B be=>?_)))
      have aq:=B.o
      refine sta be (zab O (zab O (zab O (zab O (zab O (zab O (zab (ao.up B).oc zdO))))))) fun ar G bg=>?_
      have au:=G.s
      refine Nb O (Cw.seq ?_)
      obtain⟨bh,bi,Y⟩:=zci Y
      refine Cw.join 49 57 [57] (fun l w=> ∃ Z Q,CW.w Q=w/\Le [] ar Q/\l=[vB Z]/\bh Z=some r) ?_ ?_
      ·rintro _ _ σ ⟨Z,Q,rfl,aa,rfl,Y⟩
       rw[bi]at Y
       have av:=(((((((((((y.trans e).trans f).trans i).trans k).trans x).trans z).trans D).trans E).trans ap).trans aq).trans au).n aa
       refine cn Y (fun Y=>?_) fun Y=>?_
       ·exact sr (Nb O (.ret (rt Y av)))
       ·refine sk (sr (Ni O (sr (la (((((an.up N).up P).up B).up G).up aa) (mi O ?_)))))
        have bj:Rd (α:=List Str) Q [3] [h] A.2.Text:=Ow.rdTl (((((am.up N).up P).up B).up G).up aa)
        refine ca Y (fun _=>p8 (K:=[3]) (x0:=(Vm.Op.mk a.1.Kind a.1.Branch a.1.Who a.1.Path a.1.To a.1.At A.2.Text)) (Op.rd (K:=[3]) a.1.Kind a.1.Branch a.1.Who a.1.Path a.1.To a.1.At A.2.Text bj)) fun b4 b5 Y bk=>?_
        have ac:=av.n bk
        refine Ni O (ssr (mi O (Lw.lt O (nl (cn Y (fun Y=>?_) fun Y=>?_)))))
        ·exact sr (Nb O (.ret (rt Y ac)))
        ·refine sk (ssr (mi O (mi O (Lw.ne O (nl (cn Y (fun Y=>?_) fun Y=>?_))))))
         ·exact sr (Nb O (.ret (rt Y ac)))
         ·exact sk (sr (Nb O (.ret (rt Y ac))))
      ·refine rg (la bg (la ((((((ak.up C).up X).up N).up P).up B).up G) ?_))
       have bl:Rd (α:=List Str) ar [5] [F] d.1.Text:=Ow.rdTl ((ao.up B).up G)
       refine ca Y (fun _=>p6 (K:=[0,5]) (x0:=(Vm.Op.mk d.1.Kind d.1.Branch d.1.Who d.1.Path d.1.To d.1.At d.1.Text)) ((Op.rd (K:=[5]) d.1.Kind d.1.Branch d.1.Who d.1.Path d.1.To d.1.At d.1.Text bl).sub (M:=[0,5]) O) ((Op.rd (K:=[0]) b.1.Kind b.1.Branch b.1.Who b.1.Path b.1.To b.1.At b.1.Text (S.ul ((((((((((e.trans f).trans i).trans k).trans x).trans z).trans D).trans E).trans ap).trans aq).trans au))).sub (M:=[0,5]) O)) fun b6 aw Y ax=>Lw.r O (R.not O) (mb O (bs Y (fun H Y=>?_) fun H Y=>?_))
       ·exact psk 3 H O (Pb H O (nl ((ag) ⟨true,aw,O,ax,O,Y⟩)))
       ·exact wak 3 H (mb O (mb O (Lw.r O (R.bne O O) (Pb H O (nl ((ag) ⟨(d.2 !=b.2),aw,O,ax,O,Y⟩))))))
  ·refine rg (la U (la ak ?_))
   have bm:Rd (α:=List Str) ai [3] [h] a.1.Text:=Ow.rdTl aj
   refine ca Y (fun _=>p6 (K:=[0,3]) (x0:=(Vm.Op.mk a.1.Kind a.1.Branch a.1.Who a.1.Path a.1.To a.1.At a.1.Text)) ((Op.rd (K:=[3]) a.1.Kind a.1.Branch a.1.Who a.1.Path a.1.To a.1.At a.1.Text bm).sub (M:=[0,3]) O) ((Op.rd (K:=[0]) b.1.Kind b.1.Branch b.1.Who b.1.Path b.1.To b.1.At b.1.Text (S.ul ((((e.trans f).trans i).trans k).trans x))).sub (M:=[0,3]) O)) fun b8 ay Y az=>Lw.r O (R.not O) (mb O (bs Y (fun I Y=>?_) fun I Y=>?_))
   ·exact psk 3 I O (Pb I O (nl ((ag) ⟨true,ay,O,az,O,Y⟩)))
   ·exact wak 3 I (mb O (mb O (Lw.r O (R.bne O O) (Pb I O (nl ((ag) ⟨(a.2 !=b.2),ay,O,az,O,Y⟩))))))
theorem p3 {x0 r}(a:Gk 2 0 1 W K)(Y:Vm.za2 x0=some r):Q1 3 [vS x0] W [] fun W' v=>v=vB r:=
 (c3 (a.view _) Y).ad (fk 0) fun _ _ e=>e
end Go.Sx
