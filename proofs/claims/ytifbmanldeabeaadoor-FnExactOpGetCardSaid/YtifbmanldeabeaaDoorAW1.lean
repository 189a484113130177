/- Walks: each function answers as its model, printed by a program of ours. Conditions: the arguments read as they are given. -/
import Derived.Test.YtifbmanldeabeaaDoorATs
import Derived.Test.YtifbmanldeabeaaDoorAM0
import Derived.Test.YtifbmanldeabeaaDoorAW0
import Derived.Test.YtifbmanldeabeaaDoorAE
namespace Go.Sx
open Go Go.Proofs Go.Vm Rp
set_option linter.unusedVariables false
set_option linter.unusedSimpArgs false
variable {W W0:CW}{K:List Nat}
theorem c4 {x0 r}(Y:Vm.zbN x0=some r):Q0 4 [vS x0] W0 fun Wf v=> ∃ b7,v = .tuple [.agg [vI r.1.Kind,vS r.1.Branch,vS r.1.Who,vS r.1.Path,vS r.1.To,vI r.1.At,b7].toArray,vB r.2].toArray/\Rd Wf [0] [b7] r.1.Text:=by
 unfold Vm.zbN at Y
 refine zaz.of Tryd.func4 O O O O (sr (al 2 [vI 0,vS ([]:Str),vS ([]:Str),vS ([]:Str),vS ([]:Str),vI 0, .slice none 0 0] fun g1 W1 l1 b1=>?_))
 have a2:=l1.o
 refine Nb O (sr (ms O (cr Y (fun _=>p9 (k0:=3)) ?_)))
 rintro z3 a W5 Y l5 ⟨_,rfl,cb⟩
 have a6:=a2.n l5
 refine Nv a O (ssr (mv a O (Lw.ln z3 cb.rd O (Lw.lt O (nl (cn Y (fun Y=>?_) fun Y=>?_))))))
 ·refine sr (Lw.r O (R.bd (zs:=[vI 0,vS ([]:Str),vS ([]:Str),vS ([]:Str),vS ([]:Str),vI 0, .slice none 0 0]) (cs:=[vI 0,vS ([]:Str),vS ([]:Str),vS ([]:Str),vS ([]:Str),vI 0, .slice none 0 0]) [] O O O zgT) (sta (b1.up l5) (zab O (zab O (zab O (zab O (zab O (zab O (zab O zdO))))))) fun W9 l9 b9=>?_))
  have dl:=a6.t l9
  refine Nb O ?_
  cases Y
  exact Cw.ret (zkF O b9 O (Res.mk dl ⟨.slice none 0 0,O,(rdN (K:=[0]))⟩))
 ·refine sk (Cw.seq (Cw.draw [] [(0,0),(1,0),(2,1),(3,0),(4,0),(5,1),(6,0),(7,2),(8,3)] mixed (by kernel_rfl) fun fv bc=>?_))
  have dm:=a6.n bc
  have A:=cb.up bc
  refine Dv a O ?_
  obtain⟨ak,be,Y⟩:=ob Y
  refine Mw.p O O (fun _=>R.ix (α:=Str) A.rd be O O O) (Mw.q O O (fun _ c=>R.ld O O (zf8 (A.rd.at_ be).1 O (A.rd.at_ be).str c)) (Dv a O ?_))
  obtain⟨am,bg,Y⟩:=ob Y
  refine Mw.p O O (fun _=>R.ix (α:=Str) A.rd bg O O O) (Mw.q O O (fun _ c=>R.ld O O (zf8 (A.rd.at_ bg).1 O (A.rd.at_ bg).str c)) (Mw.p O O (fun _=>R.bd (zs:=[vI 0,vS ([]:Str),vS ([]:Str),vS ([]:Str),vS ([]:Str),vI 0, .slice none 0 0]) (cs:=[vI 0,vS ak,vS am,vS ([]:Str),vS ([]:Str),vI 0, .slice none 0 0]) [(1,vS ak),(2,vS am)] O O O (zgb O O (zgb O O zgT))) (Mw.t O O (T.alloc 4 (cs:=[vI 0,vS ([]:Str),vS ([]:Str),vS ([]:Str),vS ([]:Str),vI 0, .slice none 0 0]) O) ?_)))
  rintro _ _ ⟨bh,fw,rfl,rfl,an,dn⟩
  have dp:=dm.n an
  refine m0 an fun fx=>Mw.lu O (T.sta (vs:=[vI 0,vS ak,vS am,vS ([]:Str),vS ([]:Str),vI 0, .slice none 0 0]) dn O O (zab O (zab O (zab O (zab O (zab O (zab O (zab O zdO))))))) O O) ?_
  rintro _ _ ⟨cd,rfl,bi,dq⟩
  have dr:=dp.t bi
  refine Mw.nil (ssr (Ni O (Cw.block ?_)))
  obtain⟨ds,dt,Y⟩:=zci Y
  refine Cw.loop 21 36 [6] (fun m l w=> ∃ b d e f B y x i k X,CW.w X=w/\Le [4] cd X/\l=[vI b]/\Ow X 5 [] [k] i/\Bx X 4 bh [vI d,vS e,vS f,vS B,vS y,vI x,k]/\Vm.zar z3 ds m b d e f B y x i=some r) _ ⟨1,0,ak,am,([]:Str),([]:Str),0,([]:List Str), .slice none 0 0,cd,O,Le.refl _ _,O,owN 5 [],dq,Y⟩ ?_
  rintro(_ |fy) _ _ σ ⟨b,d,e,f,B,y,x,i,k,X,rfl,ao,rfl,ce,cf,Y⟩
  ·cases Y
  unfold Vm.zar at Y
  have du:=dr.t ao
  refine ssr (mi O (cr Y (fun _=>p10 (k0:=6)) ?_))
  rintro dv fz ap Y z ⟨_,rfl,dw⟩
  have dx:=du.n z
  have N:=(((A.up an).up bi).up ao).up z
  refine Lw.ln dv dw.rd O (Lw.lt O (nl (cn Y (fun Y=>?_) fun Y=>?_)))
  ·refine sk ?_
   obtain⟨dy,dz,Y⟩:=zci Y
   refine Cw.join 27 36 [] (fun l w=> ∃ aq ar au av aw ax ay az P,CW.w P=w/\Le [4] ap P/\l=[]/\Ow P 5 [] [az] ay/\Bx P 4 bh [vI aq,vS ar,vS au,vS av,vS aw,vI ax,az]/\dy aq ar au av aw ax ay=some r) ?_ ?_
   ·rintro _ _ σ ⟨aq,ar,au,av,aw,ax,ay,az,P,rfl,d0,rfl,d1,d2,Y⟩
    rw[dz]at Y
    exact rg (mi O (Lw.add O (Ni O ((agm) ⟨w64 (b+1),aq,ar,au,av,aw,ax,ay,az,P,O,((ao.j z).j d0).w,O,d1,d2,Y⟩))))
   ·refine Cw.block (Cw.seq ?_)
    obtain⟨Z,d3,Y⟩:=ob Y
    obtain⟨aa,cg,Y⟩:=ob Y
    obtain⟨ac,ch,Y⟩:=ob Y
    refine Cw.par [[],[],[0,1],[0,1,2],[],[4],[4,5],[0,1,2,3,4,5,6]] [[],[],[0,1],[0,2],[],[4],[5],[3,6]] [[],[],[],[],[],[],[],[]] [[0],[1],[0,2],[3],[4],[5],[6],[7]] [[7],[],[],[],[],[],[],[]] [0,1,2,3,4,5,6,7] [] [fun vs W=>Ow W 7 [] [(vs 0)] Z,fun vs W=>(vs 1)=vI b,fun vs W=>(vs 2)=ptr ((slA (vs 0)).add ((b).toNat*Rp.sz (Str))),fun vs W=>(vs 3)=vS aa,fun vs W=>(vs 4)=a,fun vs W=>(vs 5)=ptr ((slA a).add ((0:Int).toNat*Rp.sz (Str))),fun vs W=>(vs 6)=vS ac,fun vs W=>(vs 7)=vB (aa==ac)] [] mixed (by kernel_rfl) O zi6.nil ?_
    intro f0 Q
    refine⟨(zat.cons ?_ (zat.cons ?_ (zat.cons ?_ (zat.cons ?_ (zat.cons ?_ (zat.cons ?_ (zat.cons ?_ (zat.cons ?_ zat.nil)))))))),(zbE.cons SO (zbE.cons SE (zbE.cons (fun vs vs' W W' _ hv l hd h=>by(show(vs' 2)=ptr ((slA (vs' 0)).add ((b).toNat*Rp.sz (Str))));rw[hv 0 (zaE O),hv 2 (zaE O)];exact h) (zbE.cons SE (zbE.cons SE (zbE.cons SE (zbE.cons SE (zbE.cons SE zbE.nil)))))))),?_⟩
    ·intro vs f1 lW hN hV
     refine Tr.mono (T.call O (p10 (k0:=7) d3)) ?_
     rintro d4 _ ⟨ci,rfl,d5,⟨_,rfl,d6⟩⟩
     exact⟨ci,O,d5,(show Ow ci 7 [] [d4] Z from d6)⟩
    ·intro vs f2 lW hN hV
     exact Trq (R.mv (v:=vI b) O) O
    ·intro vs d7 lW hN hV
     obtain⟨C,ae⟩: ∃ v,vs 0=v:=⟨_,O⟩
     obtain⟨vs,rfl⟩:=zac ae
     have d8:Ow d7 7 [] [C] Z:=(hN 0 (zaE O))
     have bj:vs 1=vI b:=(hN 1 (zaE O))
     obtain⟨vs,rfl⟩:=zac bj
     exact Trq (R.ix (α:=Str) d8.rd cg O O O) O
    ·intro vs d9 lW hN hV
     obtain⟨C,ae⟩: ∃ v,vs 0=v:=⟨_,O⟩
     obtain⟨vs,rfl⟩:=zac ae
     have ea:Ow d9 7 [] [C] Z:=(hN 0 (zaE O))
     have bk:vs 2=ptr ((slA C).add ((b).toNat*Rp.sz (Str))):=(hN 2 (zaE O))
     obtain⟨vs,rfl⟩:=zac bk
     exact Trq (R.ld O O (ea.rd.at_ cg).str) O
    ·intro vs f3 lW hN hV
     exact Trq (R.mv (v:=a) O) O
    ·intro vs f4 lW hN hV
     have bl:vs 4=a:=(hN 4 (zaE O))
     obtain⟨vs,rfl⟩:=zac bl
     exact Trq (R.ix (α:=Str) ((N.up Q).up lW O).rd ch O O O) O
    ·intro vs f5 lW hN hV
     have bm:vs 5=ptr ((slA a).add ((0:Int).toNat*Rp.sz (Str))):=(hN 5 (zaE O))
     obtain⟨vs,rfl⟩:=zac bm
     exact Trq (R.ld O O (((N.up Q).up lW O).rd.at_ ch).str) O
    ·intro vs f6 lW hN hV
     have bn:vs 3=vS aa:=(hN 3 (zaE O))
     obtain⟨vs,rfl⟩:=zac bn
     have bp:vs 6=vS ac:=(hN 6 (zaE O))
     obtain⟨vs,rfl⟩:=zac bp
     exact Trq (R.seq O O) O
    ·intro vs cj a0 hN
     have ck:=((ce.up z).up Q).up a0
     have cl:=((cf.up z).up Q).up a0
     obtain⟨C,ae⟩: ∃ v,vs 0=v:=⟨_,O⟩
     obtain⟨vs,rfl⟩:=zac ae
     have f7:Ow cj 7 [] [C] Z:=(hN 0 (zaE O))
     have bj:vs 1=vI b:=(hN 1 (zaE O))
     obtain⟨vs,rfl⟩:=zac bj
     have bk:vs 2=ptr ((slA C).add ((b).toNat*Rp.sz (Str))):=(hN 2 (zaE O))
     obtain⟨vs,rfl⟩:=zac bk
     have bn:vs 3=vS aa:=(hN 3 (zaE O))
     obtain⟨vs,rfl⟩:=zac bn
     have bl:vs 4=a:=(hN 4 (zaE O))
     obtain⟨vs,rfl⟩:=zac bl
     have bm:vs 5=ptr ((slA a).add ((0:Int).toNat*Rp.sz (Str))):=(hN 5 (zaE O))
     obtain⟨vs,rfl⟩:=zac bm
     have bp:vs 6=vS ac:=(hN 6 (zaE O))
     obtain⟨vs,rfl⟩:=zac bp
     have eb:vs 7=vB (aa==ac):=(hN 7 (zaE O))
     obtain⟨vs,rfl⟩:=zac eb
     refine cn Y (fun Y=>?_) fun Y=>?_
     ·refine rg (mi O (Lw.fa O (Lw.u (T.st (j:=0) (v:=vI b) cl O O O O O) ?_)))
      rintro _ _ ⟨ec,rfl,cm,ed⟩
      exact nl ((ag) ⟨b,e,f,B,y,x,i,k,ec,O,((Q.j a0).j cm).w,O,(ck.up cm),ed,Y⟩)
     ·exact sk ((ag) ⟨d,e,f,B,y,x,i,k,cj,O,(Q.j a0).w,O,ck,cl,Y⟩)
  ·refine Cw.exit ?_
   rw[dt]at Y
   refine sr (Ns O ?_)
   obtain⟨ee,ef,Y⟩:=zci Y
   refine Cw.join 37 42 [7] (fun l w=> ∃ af bq,CW.w bq=w/\Le [] ap bq/\l=[vS af]/\ee af=some r) ?_ ?_
   ·rintro _ _ σ ⟨af,bq,rfl,ah,rfl,Y⟩
    rw[ef]at Y
    have eg:=dx.n ah
    obtain⟨ai,eh,a1,ei⟩:=zuh _ 5
    rw[<- eh]
    have a3:Rd (α:=List Str) ai [0] [k] i:=by rw[ei];exact(((ce.up z).up ah).rd.dye 5).sub (M:=[0]) O
    have ej:=eg.t a1
    have D:=(N.up ah).up a1
    have S:=((cf.up z).up ah).up a1
    obtain⟨ek,el,Y⟩:=zci Y
    refine Cw.join 43 80 [] (fun l w=> ∃ E F G H I J L a4 U,CW.w U=w/\Le [4,8] ai U/\l=[]/\Rd U [0] [a4] L/\Bx U 4 bh [vI E,vS F,vS G,vS H,vS I,vI J,a4]/\ek E F G H I J L=some r) ?_ ?_
    ·rintro _ _ σ ⟨E,F,G,H,I,J,L,a4,U,rfl,co,rfl,r202,br,Y⟩
     rw[el]at Y
     have cp:=ej.t co
     refine Cw.seq ?_
     obtain⟨em,en,Y⟩:=zci Y
     refine Cw.join 81 89 [89] (fun l w=> ∃ bu bv,CW.w bv=w/\Le [] U bv/\l=[vB bu]/\em bu=some r) ?_ ?_
     ·rintro _ _ σ ⟨bu,bv,rfl,bw,rfl,Y⟩
      rw[en]at Y
      have bz:=bw.o
      have cq:=(((((((((b1.up l5).up bc).up an).up bi).up ao).up z).up ah).up a1).up co).up bw
      refine cn Y (fun Y=>?_) fun Y=>?_
      ·refine sr (Lw.r O (R.bd (zs:=[vI 0,vS ([]:Str),vS ([]:Str),vS ([]:Str),vS ([]:Str),vI 0, .slice none 0 0]) (cs:=[vI 0,vS ([]:Str),vS ([]:Str),vS ([]:Str),vS ([]:Str),vI 0, .slice none 0 0]) [] O O O zgT) (sta cq (zab O (zab O (zab O (zab O (zab O (zab O (zab O zdO))))))) fun f8 eo ep=>?_))
       have er:=(cp.trans bz).t eo
       refine Nb O ?_
       cases Y
       exact Cw.ret (zkF O ep O (Res.mk er ⟨.slice none 0 0,O,(rdN (K:=[0]))⟩))
      ·refine sk (sr (la (br.up bw) (sta cq (zab O (zab O (zab O (zab O (zab O (zab O (zab r202.oc zdO))))))) fun f9 es et=>?_)))
       have ct:=es.s
       refine Nb O ?_
       cases Y
       exact Cw.ret (zkF O et O (Res.mk ((cp.trans bz).trans ct) ⟨a4,O,(r202.ul (bz.trans ct))⟩))
     ·refine rg (la br (ca Y (fun _=>p12 (x0:=(Vm.Op.mk E F G H I J L)) (Op.rd (K:=[0]) E F G H I J L r202)) fun ga eu Y a5=>?_))
      have ew:=a5.o
      refine Lw.r O (R.not O) (mb O (bs Y (fun aj Y=>?_) fun aj Y=>?_))
      ·exact psk 4 aj O (Pb aj O (nl ((ag) ⟨true,eu,O,a5,O,Y⟩)))
      ·exact wak 4 aj (la (br.up a5) (ca Y (fun _=>p13 (x0:=(Vm.Op.mk E F G H I J L)) (Op.rd (K:=[0]) E F G H I J L (r202.ul ew))) fun ex ey Y ez=>ms O (Lw.sne O (Pb aj O (nl ((ag) ⟨(ex !=x0),ey,O,(a5.j ez).w,O,Y⟩))))))
    ·refine sr (fl S O (nl (Cw.block (sr (Lw.eq O (Nb O (cn Y (fun Y=>?_) fun Y=>?_)))))))
     ·refine sr (mv a O ?_)
      obtain⟨cu,cv,Y⟩:=ob Y
      refine Lw.r O (R.ix (α:=Str) D.rd cv O O O) (Lw.r O (R.ld O O (D.rd.at_ cv).str) (Lw.fa O (Lw.u (T.st (j:=3) (v:=vS cu) S O O O O O) ?_)))
      rintro _ _ ⟨gb,rfl,e0,e1⟩
      refine nl (rg (ms O (cr Y (fun _=>p9 (k0:=8)) ?_)))
      rintro a7 a8 gc Y cw ⟨_,rfl,b0⟩
      obtain⟨cx,cy,Y⟩:=ob Y
      have r267:=b0.rd.cutV cy
      refine Lw.r O (R.sl b0.rd cy O (.inr O) (.inl ⟨O,O⟩)) (Lw.fa O (Lw.u (T.st (j:=6) (v:=(cutV a8 (1:Int).toNat (a7.length:Int).toNat (Rp.sz (Str)))) (e1.up cw) O O r267.oc O O) ?_))
      rintro _ _ ⟨gd,rfl,b2,e2⟩
      refine nl ?_
      have e3:=r267.up (b2.sub (M:=[4]) O) O
      obtain⟨b3,e4,cz,c0⟩:=zuh _ 8
      have e5:Rd b3 [0] [(cutV a8 (1:Int).toNat (a7.length:Int).toNat (Rp.sz (Str)))] cx:=by rw[c0];exact(e3.dye 8).sub (M:=[0]) O
      have gf:Rd (α:=List Str) b3 [0] [a8] a7:=by rw[c0];exact((b0.up b2).rd.dye 8).sub (M:=[0]) O
      exact(ag) ⟨d,e,f,cu,y,x,cx,(cutV a8 (1:Int).toNat (a7.length:Int).toNat (Rp.sz (Str))),b3,e4,(((e0.j cw).j b2).j cz).w,O,e5,(e2.up cz),Y⟩
     ·refine sr (Lw.eq O (Nb O (cn Y (fun Y=>?_) fun Y=>?_)))
      ·refine rg (mv a O ?_)
       obtain⟨c1,c2,Y⟩:=ob Y
       refine Lw.r O (R.ix (α:=Str) D.rd c2 O O O) (Lw.r O (R.ld O O (D.rd.at_ c2).str) (Lw.fa O (Lw.u (T.st (j:=3) (v:=vS c1) S O O O O O) ?_)))
       rintro _ _ ⟨e6,rfl,c3,e7⟩
       have e8:=c3.s
       exact nl ((ag) ⟨d,e,f,c1,y,x,i,k,e6,O,c3.w,O,(a3.ul e8),e7,Y⟩)
      ·refine sr (Lw.eq O (Nb O (cn Y (fun Y=>?_) fun Y=>?_)))
       ·refine sr (mv a O ?_)
        obtain⟨c5,c6,Y⟩:=ob Y
        refine Lw.r O (R.ix (α:=Str) D.rd c6 O O O) (Lw.r O (R.ld O O (D.rd.at_ c6).str) (Lw.fa O (Lw.u (T.st (j:=3) (v:=vS c5) S O O O O O) ?_)))
        rintro _ _ ⟨gg,rfl,c7,e9⟩
        have fb:=c7.s
        refine nl (rg (ms O (Lw.fa O (Lw.u (T.st (j:=4) (v:=vS af) e9 O O O O O) ?_))))
        rintro _ _ ⟨fc,rfl,c8,fd⟩
        have fe:=fb.t c8
        exact nl ((ag) ⟨d,e,f,c5,af,x,i,k,fc,O,(c7.j c8).w,O,(a3.ul fe),fd,Y⟩)
       ·obtain⟨ff,fg,Y⟩:=zci Y
        refine Cw.join 74 76 [74] (fun l w=> ∃ b4 b5,CW.w b5=w/\Le [] ai b5/\l=[vB b4]/\ff b4=some r) ?_ ?_
        ·rintro _ _ σ ⟨b4,b5,rfl,V,rfl,Y⟩
         rw[fg]at Y
         have c9:=V.o
         have a9:=D.up V
         refine cn Y (fun Y=>?_) fun Y=>?_
         ·refine rg (mv a O ?_)
          obtain⟨da,db,Y⟩:=ob Y
          refine Lw.r O (R.ix (α:=Str) a9.rd db O O O) (Lw.r O (R.ld O O (a9.rd.at_ db).str) (Lw.fa O (Lw.u (T.st (j:=4) (v:=vS da) (S.up V) O O O O O) ?_)))
          rintro _ _ ⟨fh,rfl,dc,fi⟩
          have fj:=c9.t dc
          exact nl ((ag) ⟨d,e,f,B,da,x,i,k,fh,O,(V.j dc).w,O,(a3.ul fj),fi,Y⟩)
         ·refine rg (mv a O ?_)
          obtain⟨gh,dd,Y⟩:=ob Y
          refine Lw.r O (R.ix (α:=Str) a9.rd dd O O O) (Lw.r O (R.ld O O (a9.rd.at_ dd).str) (ca Y (fun _=>p11) fun de gj Y b6=>?_))
          have fm:=c9.n b6
          refine Lw.fa O (Lw.u (T.st (j:=5) (v:=vI de) ((S.up V).up b6) O O O O O) ?_)
          rintro _ _ ⟨fn,rfl,df,fo⟩
          have fp:=fm.t df
          exact nl ((ag) ⟨d,e,f,B,y,de,i,k,fn,O,((V.j b6).j df).w,O,(a3.ul fp),fo,Y⟩)
        ·refine sr (Lw.eq O (Nb O (cn Y (fun Y=>?_) fun Y=>?_)))
         ·exact sk ((ag) ⟨(d==4),ai,O,Le.refl _ _,O,Y⟩)
         ·exact rg (Lw.eq O (Nb O ((ag) ⟨(d==5),ai,O,Le.refl _ _,O,Y⟩)))
   ·refine sr (mv a O (Lw.ln z3 N.rd O (Lw.eq O (nl (cn Y (fun Y=>?_) fun Y=>?_)))))
    ·refine rg (mv a O ?_)
     obtain⟨fq,dg,Y⟩:=ob Y
     exact Lw.r O (R.ix (α:=Str) N.rd dg O O O) (Lw.r O (R.ld O O (N.rd.at_ dg).str) (Ns O ((ag) ⟨fq,ap,O,Le.refl _ _,O,Y⟩)))
    ·exact sk ((ag) ⟨([]:Str),ap,O,Le.refl _ _,O,Y⟩)
theorem p4 {x0 r}(Y:Vm.zbN x0=some r):Q1 4 [vS x0] W [] fun W' v=> ∃ a,v = .tuple [.agg [vI r.1.Kind,vS r.1.Branch,vS r.1.Who,vS r.1.Path,vS r.1.To,vI r.1.At,a].toArray,vB r.2].toArray/\Rd W' (0::K) [a] r.1.Text:=
 (c4 (W0:=W.view K []) Y).ad (fk 0) fun _ _ ⟨a,e,b⟩=>⟨a,e,b.back O⟩
theorem c16 {r}(Y:Vm.zbu=some r):Q0 16 [] W0 fun Wf v=> ∃ a,v=a/\OwS Wf LL [] [a] r:=by
 unfold Vm.zbu at Y
 refine zaz.of Tryd.func16 O O O O (sr (Nv (.slice none 0 0) O (sr (Lw.t O (T.bsS (α:=Str) (xs:=[([]:Str),([115,101,116]:Str),([100,114,111,112]:Str),([109,111,118,101]:Str),([102,111,114,107]:Str),([117,110,105,116,101]:Str),([112,105,99,107]:Str),([98,97,99,107]:Str)]) 2 [] (W:=W0) [vS ([]:Str),vS ([115,101,116]:Str),vS ([100,114,111,112]:Str),vS ([109,111,118,101]:Str),vS ([102,111,114,107]:Str),vS ([117,110,105,116,101]:Str),vS ([112,105,99,107]:Str),vS ([98,97,99,107]:Str)] (Each.cons ((rdS _)) (Each.cons ((rdS _)) (Each.cons ((rdS _)) (Each.cons ((rdS _)) (Each.cons ((rdS _)) (Each.cons ((rdS _)) (Each.cons ((rdS _)) (Each.cons ((rdS _)) Each.nil)))))))) O) ?_))))
 rintro b _ ⟨h,rfl,d,e⟩
 have f:=d.o
 refine Nv b O ?_
 cases Y
 exact Cw.ret (zpE O (Res.mk f ⟨b,O,e.s.sub O O⟩))
theorem p16 {k0 r}(Y:Vm.zbu=some r):Q1 16 [] W [] fun W' v=> ∃ a,v=a/\Ow W' k0 [] [a] r:=
 (c16 (W0:=W.view [] []) Y).ad (fk k0) fun _ _ ⟨a,e,b⟩=>⟨a,e,b.back (znk _)⟩
theorem c15 {x0 b x1 r}(h:Rd W0 [0] [b] x0)(Y:Vm.zah x0 x1=some r):Q0 15 [b,vS x1] W0 fun Wf v=>v=vI r:=by
 unfold Vm.zah at Y
 refine zaz.of Tryd.func15 O O O O (sr (Ni O (ssr (mv b O (Lw.ln x0 h O (mi O (nl (Cw.block ?_))))))))
 obtain⟨y,z,Y⟩:=zci Y
 refine Cw.loop 8 18 [4,5,8] (fun m l w=> ∃ d a i e,CW.w e=w/\Le [] W0 e/\l=[vI d,i,vI a]/\Vm.zag x0 x1 y m d a=some r) _ ⟨0,0,undef,W0,O,Le.refl _ _,O,Y⟩ ?_
 rintro(_ |A) _ _ σ ⟨d,a,i,e,rfl,k,rfl,Y⟩
 ·cases Y
 unfold Vm.zag at Y
 have f:=k.o
 refine sr (Lw.lt O (nl (Cw.seq (cn Y (fun Y=>?_) fun Y=>?_))))
 ·refine sk (Cw.seq (Cw.block (sr (mi O (Ni O (sr (ms O (mv b O (mi O ?_)))))))))
  obtain⟨B,x,Y⟩:=ob Y
  refine Lw.r O (R.ix (α:=Str) (h.ul f) x O O O) (Lw.r O (R.ld O O ((h.ul f).at_ x).str) (Lw.seq O (nl (cn Y (fun Y=>?_) fun Y=>?_))))
  ·exact sr (mi O (Ni O (.ret (rt Y f))))
  ·exact sk (rg (Lw.add O (mi O (nl ((agm) ⟨d,w64 (a+1),vI a,e,O,k,O,Y⟩)))))
 ·refine Cw.exit ?_
  rw[z]at Y
  exact sr (Ni O (.ret (rt Y f)))
theorem p15 {x0 a x1 r}(b:Rd W K [a] x0)(Y:Vm.zah x0 x1=some r):Q1 15 [a,vS x1] W [] fun W' v=>v=vI r:=
 (c15 (b.view _) Y).ad (fk 0) fun _ _ e=>e
theorem c38 {x0 x1 x2 r}(Y:Vm.zbI x0 x1 x2=some r):Q0 38 [vI x0,vI x1,vI x2] W0 fun Wf v=>v=vB r:=by
 unfold Vm.zbI at Y
 refine zaz.of Tryd.func38 O O O O (sr (Nb O ?_))
 obtain⟨e,f,Y⟩:=zci Y
 refine Cw.join 7 14 [6] (fun l w=> ∃ b d,CW.w d=w/\Le [] W0 d/\l=[vB b]/\e b=some r) ?_ ?_
 ·rintro _ _ σ ⟨b,d,rfl,h,rfl,Y⟩
  rw[f]at Y
  have i:=h.o
  exact .ret (rt Y i)
 ·refine rg (mi O (mi O (Lw.le O (mb O (bs Y (fun a Y=>?_) fun a Y=>?_)))))
  ·exact wak 3 a (mi O (mi O (Lw.le O (Pb a O (Nb O ((ag) ⟨decide (x0<=(x2:Int)),W0,O,Le.refl _ _,O,Y⟩))))))
  ·exact psk 3 a O (Pb a O (Nb O ((ag) ⟨false,W0,O,Le.refl _ _,O,Y⟩)))
theorem p38 {x0 x1 x2 r}(Y:Vm.zbI x0 x1 x2=some r):Q1 38 [vI x0,vI x1,vI x2] W [] fun W' v=>v=vB r:=
 (c38 (W0:=W.view [] []) Y).ad (fk 0) fun _ _ e=>e
theorem c51 {x0 r}(Y:Vm.zbv x0=some r):Q0 51 [.int .u8 (UInt8.toNat x0:Int)] W0 fun Wf v=>v=vB r:=by
 unfold Vm.zbv at Y
 refine zaz.of Tryd.func51 O O O O (sr (Nb O ?_))
 obtain⟨i,k,Y⟩:=zci Y
 refine Cw.join 3 16 [2] (fun l w=> ∃ f h,CW.w h=w/\Le [] W0 h/\l=[vB f]/\i f=some r) ?_ ?_
 ·rintro _ _ σ ⟨f,h,rfl,x,rfl,Y⟩
  rw[k]at Y
  have y:=x.o
  exact .ret (rt Y y)
 ·refine rg (mv (.int .u8 (UInt8.toNat x0:Int)) O (Lw.ge O (mb O (bs Y (fun b Y=>?_) fun b Y=>?_))))
  ·refine wak 2 b (mv (.int .u8 (UInt8.toNat x0:Int)) O (Lw.le O (Pb b O (mb O (bs Y (fun a Y=>?_) fun a Y=>?_)))))
   ·exact psk 3 a O (puk 2 O (psk 1 a O (Pb a O (Nb O ((ag) ⟨true,W0,O,Le.refl _ _,O,Y⟩)))))
   ·refine wak 3 a (mv (.int .u8 (UInt8.toNat x0:Int)) O (Lw.ge O (mb O (bs Y (fun d Y=>?_) fun d Y=>?_))))
    ·exact wak 2 d (mv (.int .u8 (UInt8.toNat x0:Int)) O (Lw.le O (wak 1 a (Pb d O (Pb a O (Nb O ((ag) ⟨decide (((UInt8.toNat x0:Int):Int)<=(57:Int)),W0,O,Le.refl _ _,O,Y⟩)))))))
    ·exact psk 2 d O (wak 1 a (Pb d O (Pb a O (Nb O ((ag) ⟨false,W0,O,Le.refl _ _,O,Y⟩)))))
  ·refine psk 2 b O (Pb b O (mb O (wak 3 O (mv (.int .u8 (UInt8.toNat x0:Int)) O (Lw.ge O (mb O (bs Y (fun e Y=>?_) fun e Y=>?_)))))))
   ·exact wak 2 e (mv (.int .u8 (UInt8.toNat x0:Int)) O (Lw.le O (wak 1 O (Pb e O (Pb O O (Nb O ((ag) ⟨decide (((UInt8.toNat x0:Int):Int)<=(57:Int)),W0,O,Le.refl _ _,O,Y⟩)))))))
   ·exact psk 2 e O (wak 1 O (Pb e O (Pb O O (Nb O ((ag) ⟨false,W0,O,Le.refl _ _,O,Y⟩)))))
theorem p51 {x0 r}(Y:Vm.zbv x0=some r):Q1 51 [.int .u8 (UInt8.toNat x0:Int)] W [] fun W' v=>v=vB r:=
 (c51 (W0:=W.view [] []) Y).ad (fk 0) fun _ _ e=>e
theorem c33 {x0 r}(Y:Vm.zbi x0=some r):Q0 33 [vS x0] W0 fun Wf v=>v=vB r:=by
 unfold Vm.zbi at Y
 refine zaz.of Tryd.func33 O O O O (sr (Nb O (ssr (ms O (Lw.r O (R.lenS O) (ca Y (fun _=>p38) fun D e Y x=>?_))))))
 have f:=x.o
 refine Lw.r O (R.not O) (nl (cn Y (fun Y=>?_) fun Y=>?_))
 ·exact sr (Nb O (.ret (rt Y f)))
 ·refine sk (ssr (Ni O (Cw.block ?_)))
  obtain⟨y,z,Y⟩:=zci Y
  refine Cw.loop 8 18 [2,3] (fun m l w=> ∃ a b d,CW.w d=w/\Le [] e d/\l=[vB a,vI b]/\Vm.zaO x0 y m a b=some r) _ ⟨false,0,e,O,Le.refl _ _,O,Y⟩ ?_
  rintro(_ |E) _ _ σ ⟨a,b,d,rfl,h,rfl,Y⟩
  ·cases Y
  unfold Vm.zaO at Y
  have i:=f.n h
  refine ssr (mi O (ms O (Lw.r O (R.lenS O) (Lw.lt O (nl (cn Y (fun Y=>?_) fun Y=>?_))))))
  ·refine sk (Cw.seq (Cw.block (sr (ms O (mi O ?_)))))
   obtain⟨F,A,Y⟩:=ob Y
   refine Lw.r O (R.chm A O O) (ca Y (fun _=>p51) fun G B Y k=>?_)
   have C:=i.n k
   refine Lw.r O (R.not O) (nl (cn Y (fun Y=>?_) fun Y=>?_))
   ·exact sr (Nb O (.ret (rt Y C)))
   ·exact sk (rg (mi O (Lw.add O (Ni O ((agm) ⟨a,w64 (b+1),B,O,(h.j k).w,O,Y⟩)))))
  ·refine Cw.exit ?_
   rw[z]at Y
   exact sr (Nb O (.ret (rt Y i)))
theorem p33 {x0 r}(Y:Vm.zbi x0=some r):Q1 33 [vS x0] W [] fun W' v=>v=vB r:=
 (c33 (W0:=W.view [] []) Y).ad (fk 0) fun _ _ e=>e
theorem c34 {x0 r}(C:Gk 2 0 1 W0 [0])(Y:Vm.zbj x0=some r):Q0 34 [vS x0] W0 fun Wf v=>v=vB r:=by
 unfold Vm.zbj at Y
 refine zaz.of Tryd.func34 O O O O (sr (Nb O (sr (ms O (cr Y (fun _=>p17 (k0:=2) C) ?_)))))
 rintro f h k Y D ⟨_,rfl,a⟩
 have x:=D.o
 refine Nv h O (ssr (mv h O (Lw.ln f a.rd O (Lw.gt O (nl (cn Y (fun Y=>?_) fun Y=>?_))))))
 ·exact sr (Nb O (.ret (rt Y x)))
 ·refine sk (ssr (mv h O (Lw.ln f a.rd O (mi O (nl (Cw.block ?_))))))
  obtain⟨E,F,Y⟩:=zci Y
  refine Cw.loop 13 20 [2,5,13] (fun m l w=> ∃ b d y i,CW.w i=w/\Le [] k i/\l=[vB b,y,vI d]/\Vm.zaP f E m b d=some r) _ ⟨false,0,undef,k,O,Le.refl _ _,O,Y⟩ ?_
  rintro(_ |J) _ _ σ ⟨b,d,y,i,rfl,e,rfl,Y⟩
  ·cases Y
  unfold Vm.zaP at Y
  have z:=x.n e
  refine sr (Lw.lt O (nl (Cw.seq (cn Y (fun Y=>?_) fun Y=>?_))))
  ·refine sk (Cw.seq (Cw.block (sr ?_)))
   obtain⟨G,A,Y⟩:=ob Y
   refine Lw.r O (R.ix (α:=Str) (a.up e).rd A O O O) (Lw.r O (R.ld O O ((a.up e).rd.at_ A).str) (Ns O (sr (ms O (ca Y (fun _=>p33) fun K H Y B=>?_)))))
   have I:=z.n B
   refine Lw.r O (R.not O) (nl (cn Y (fun Y=>?_) fun Y=>?_))
   ·exact sr (Nb O (.ret (rt Y I)))
   ·exact sk (rg (Lw.add O (mi O (nl ((agm) ⟨b,w64 (d+1),vS G,H,O,(e.j B).w,O,Y⟩)))))
  ·refine Cw.exit ?_
   rw[F]at Y
   exact sr (Nb O (.ret (rt Y z)))
theorem p34 {x0 r}(a:Gk 2 0 1 W K)(Y:Vm.zbj x0=some r):Q1 34 [vS x0] W [] fun W' v=>v=vB r:=
 (c34 (a.view _) Y).ad (fk 0) fun _ _ e=>e
theorem c52 {x0 r}(Y:Vm.zbX x0=some r):Q0 52 [vS x0] W0 fun Wf v=>v=vB r:=by
 unfold Vm.zbX at Y
 refine zaz.of Tryd.func52 O O O O (sr (Nb O (ssr (ms O (Lw.r O (R.lenS O) (Lw.gt O (nl (cn Y (fun Y=>?_) fun Y=>?_))))))))
 ·exact sr (Nb O (.ret (rt Y (Le.refl _ _))))
 ·refine sk (ssr (Ni O (Cw.block ?_)))
  obtain⟨x,y,Y⟩:=zci Y
  refine Cw.loop 7 22 [2,3] (fun m l w=> ∃ d e a,CW.w a=w/\Le [] W0 a/\l=[vB d,vI e]/\Vm.zaQ x0 x m d e=some r) _ ⟨false,0,W0,O,Le.refl _ _,O,Y⟩ ?_
  rintro(_ |F) _ _ σ ⟨d,e,a,rfl,i,rfl,Y⟩
  ·cases Y
  unfold Vm.zaQ at Y
  have k:=i.o
  refine ssr (mi O (ms O (Lw.r O (R.lenS O) (Lw.lt O (nl (cn Y (fun Y=>?_) fun Y=>?_))))))
  ·refine sk (Cw.seq (Cw.block ?_))
   obtain⟨z,A,Y⟩:=zci Y
   refine Cw.join 13 22 [22] (fun l w=> ∃ h f,CW.w f=w/\Le [] a f/\l=[vB h]/\z h=some r) ?_ ?_
   ·rintro _ _ σ ⟨h,f,rfl,l10,rfl,Y⟩
    rw[A]at Y
    have B:=k.n l10
    refine cn Y (fun Y=>?_) fun Y=>?_
    ·exact sr (Nb O (.ret (rt Y B)))
    ·exact sk (rg (mi O (Lw.add O (Ni O ((agm) ⟨d,w64 (e+1),f,O,(i.j l10).w,O,Y⟩)))))
   ·refine rg (ms O (mi O ?_))
    obtain⟨G,C,Y⟩:=ob Y
    refine Lw.r O (R.chm C O O) (Lw.lt O (mb O (bs Y (fun b Y=>?_) fun b Y=>?_)))
    ·exact psk 4 b O (Pb b O (nl ((ag) ⟨true,a,O,Le.refl _ _,O,Y⟩)))
    ·refine wak 4 b (ms O (mi O ?_))
     obtain⟨D,E,Y⟩:=ob Y
     exact Lw.r O (R.chm E O O) (Lw.gt O (Pb b O (nl ((ag) ⟨decide ((126:Int)< ((UInt8.toNat D:Int):Int)),a,O,Le.refl _ _,O,Y⟩))))
  ·refine Cw.exit ?_
   rw[y]at Y
   exact sr (Nb O (.ret (rt Y k)))
theorem p52 {x0 r}(Y:Vm.zbX x0=some r):Q1 52 [vS x0] W [] fun W' v=>v=vB r:=
 (c52 (W0:=W.view [] []) Y).ad (fk 0) fun _ _ e=>e
theorem c35 {x0 a r}(b:Rd W0 [0] [a] x0)(Y:Vm.zbY x0=some r):Q0 35 [a] W0 fun Wf v=>v=vB r:=by
 unfold Vm.zbY at Y
 refine zaz.of Tryd.func35 O O O O (sr (Nb O (ssr (mv a O (Lw.ln x0 b O (Lw.gt O (nl (cn Y (fun Y=>?_) fun Y=>?_))))))))
 ·exact sr (Nb O (.ret (rt Y (Le.refl _ _))))
 ·refine sk (ssr (mv a O (Lw.ln x0 b O (mi O (nl (Cw.block ?_))))))
  obtain⟨z,A,Y⟩:=zci Y
  refine Cw.loop 10 17 [2,4,10] (fun m l w=> ∃ d e i h,CW.w h=w/\Le [] W0 h/\l=[vB d,i,vI e]/\Vm.zaR x0 z m d e=some r) _ ⟨false,0,undef,W0,O,Le.refl _ _,O,Y⟩ ?_
  rintro(_ |E) _ _ σ ⟨d,e,i,h,rfl,k,rfl,Y⟩
  ·cases Y
  unfold Vm.zaR at Y
  have f:=k.o
  refine sr (Lw.lt O (nl (Cw.seq (cn Y (fun Y=>?_) fun Y=>?_))))
  ·refine sk (Cw.seq (Cw.block (sr ?_)))
   obtain⟨B,x,Y⟩:=ob Y
   refine Lw.r O (R.ix (α:=Str) (b.ul f) x O O O) (Lw.r O (R.ld O O ((b.ul f).at_ x).str) (Ns O (sr (ms O (ca Y (fun _=>p52) fun F C Y y=>?_)))))
   have D:=f.n y
   refine Lw.r O (R.not O) (nl (cn Y (fun Y=>?_) fun Y=>?_))
   ·exact sr (Nb O (.ret (rt Y D)))
   ·exact sk (rg (Lw.add O (mi O (nl ((agm) ⟨d,w64 (e+1),vS B,C,O,(k.j y).w,O,Y⟩)))))
  ·refine Cw.exit ?_
   rw[A]at Y
   exact sr (Nb O (.ret (rt Y f)))
theorem p35 {x0 a r}(b:Rd W K [a] x0)(Y:Vm.zbY x0=some r):Q1 35 [a] W [] fun W' v=>v=vB r:=
 (c35 (b.view _) Y).ad (fk 0) fun _ _ e=>e
theorem c19 {x0 a1 r}(h0:Rd W0 [0] [vI x0.Kind,vS x0.Branch,vS x0.Who,vS x0.Path,vS x0.To,vI x0.At,a1] x0)(k:Gk 2 0 1 W0 [0])(Y:Vm.zcb x0=some r):Q0 19 [.agg [vI x0.Kind,vS x0.Branch,vS x0.Who,vS x0.Path,vS x0.To,vI x0.At,a1].toArray] W0 fun Wf v=>v=vB r:=by
 unfold Vm.zcb at Y
 obtain⟨cq,a3,Z⟩:=Op.split h0
 simp only[List.cons.injEq,and_true,true_and]at a3
 obtain rfl:=a3
 refine zaz.of Tryd.func19 O O O O (sr (bo 2 O fun g1 W1 l1 b1=>?_))
 have a2:=l1.o
 refine Nb O (Cw.seq ?_)
 obtain⟨K5,bk,Y⟩:=zci Y
 refine Cw.join 7 16 [16] (fun l w=> ∃ y3 W4,CW.w W4=w/\Le [] W1 W4/\l=[vB y3]/\K5 y3=some r) ?_ ?_
 ·rintro _ _ σ ⟨y3,W4,rfl,l4,rfl,Y⟩
  rw[bk]at Y
  have a6:=a2.n l4
  refine cn Y (fun Y=>?_) fun Y=>?_
  ·exact sr (Nb O (.ret (rt Y a6)))
  ·refine sk (Cw.seq (Cw.draw [] [(0,0),(1,1),(2,0),(3,0),(4,1),(5,0),(6,0),(7,1),(8,0),(9,0),(10,1),(11,0),(12,0),(13,0),(14,0),(15,0),(16,0)] mixed (by kernel_rfl) fun f l9=>?_))
   have b:=a6.n l9
   have a:=(b1.up l4).up l9
   refine Dfl a O O O (Mw.p O O (fun _=>R.seq O O) (Dfl a O O O (Mw.p O O (fun _=>R.seq O O) (Dfl a O O O (Mw.p O O (fun _=>R.eq O O) (Dfl a O O O (Mw.p O O (fun _=>zuf (xs:=x0.Text) (Z.ul b) O) (Mw.p O O (fun _=>R.eq O O) (Hb O (Hb O (Hb O (Hb O (Mw.nil (ssr (fl a O (nl (Cw.block (sr (Lw.eq O (Nb O (cn Y (fun Y=>?_) fun Y=>?_)))))))))))))))))))))
   ·obtain⟨bl,bm,Y⟩:=zci Y
    refine Cw.join 34 54 [2] (fun l w=> ∃ af ah,CW.w ah=w/\Le [] f ah/\l=[vB af]/\bl af=some r) ?_ ?_
    ·rintro _ _ σ ⟨af,ah,rfl,bn,rfl,Y⟩
     rw[bm]at Y
     have bp:=b.n bn
     exact .ret (rt Y bp)
    ·refine rg (fl a O (ca Y (fun _=>p34 (k.ul b)) fun ct bq Y d=>?_))
     have a8:=b.n d
     refine mb O (bs Y (fun x Y=>?_) fun x Y=>?_)
     ·refine wak 3 x (fl (a.up d) O (ca Y (fun _=>p35 (Z.ul a8)) fun cu br Y h=>?_))
      have a9:=a8.n h
      refine Pb x O (mb O (bs Y (fun y Y=>?_) fun y Y=>?_))
      ·refine wak 5 y (fl ((a.up d).up h) O (ca Y (fun _=>p37 (Z.ul a9)) fun cv cw Y P=>?_))
       have bu:=a9.n P
       refine ca Y (fun _=>p36 (k.ul bu)) fun cx ai Y aj=>Lw.r O (R.not O) (Pb y O (mb O (bs Y (fun z Y=>?_) fun z Y=>?_)))
       ·refine wak 1 z (mb O (Pb z O (mb O (bs Y (fun A Y=>?_) fun A Y=>?_))))
        ·exact wak 1 A (mb O (Pb A O (Nb O ((ag) ⟨(x0.At==0),ai,O,(((d.j h).j P).j aj).w,O,Y⟩))))
        ·exact psk 1 A O (Pb A O (Nb O ((ag) ⟨false,ai,O,(((d.j h).j P).j aj).w,O,Y⟩)))
       ·exact psk 1 z O (Pb z O (mb O (psk 1 O O (Pb O O (Nb O ((ag) ⟨false,ai,O,(((d.j h).j P).j aj).w,O,Y⟩))))))
      ·exact psk 5 y O (Pb y O (mb O (psk 1 O O (Pb O O (mb O (psk 1 O O (Pb O O (Nb O ((ag) ⟨false,br,O,(d.j h).w,O,Y⟩)))))))))
     ·exact psk 3 x O (Pb x O (mb O (psk 5 O O (Pb O O (mb O (psk 1 O O (Pb O O (mb O (psk 1 O O (Pb O O (Nb O ((ag) ⟨false,bq,O,d,O,Y⟩))))))))))))
   ·refine sr (Lw.eq O (Nb O (cn Y (fun Y=>?_) fun Y=>?_)))
    ·obtain⟨bv,bw,Y⟩:=zci Y
     refine Cw.join 57 68 [2] (fun l w=> ∃ ak am,CW.w am=w/\Le [] f am/\l=[vB ak]/\bv ak=some r) ?_ ?_
     ·rintro _ _ σ ⟨ak,am,rfl,bz,rfl,Y⟩
      rw[bw]at Y
      have b0:=b.n bz
      exact .ret (rt Y b0)
     ·refine rg (fl a O (ca Y (fun _=>p34 (k.ul b)) fun cy Q Y S=>mb O (bs Y (fun B Y=>?_) fun B Y=>?_)))
      ·refine wak 1 B (mb O (Pb B O (mb O (bs Y (fun C Y=>?_) fun C Y=>?_))))
       ·refine wak 1 C (mb O (Pb C O (mb O (bs Y (fun D Y=>?_) fun D Y=>?_))))
        ·exact wak 1 D (mb O (Pb D O (Nb O ((ag) ⟨((x0.Text.length:Int)==0),Q,O,S,O,Y⟩))))
        ·exact psk 1 D O (Pb D O (Nb O ((ag) ⟨false,Q,O,S,O,Y⟩)))
       ·exact psk 1 C O (Pb C O (mb O (psk 1 O O (Pb O O (Nb O ((ag) ⟨false,Q,O,S,O,Y⟩))))))
      ·exact psk 1 B O (Pb B O (mb O (psk 1 O O (Pb O O (mb O (psk 1 O O (Pb O O (Nb O ((ag) ⟨false,Q,O,S,O,Y⟩)))))))))
    ·refine sr (Lw.eq O (Nb O (cn Y (fun Y=>?_) fun Y=>?_)))
     ·obtain⟨b2,b3,Y⟩:=zci Y
      refine Cw.join 71 84 [2] (fun l w=> ∃ an ao,CW.w ao=w/\Le [] f ao/\l=[vB an]/\b2 an=some r) ?_ ?_
      ·rintro _ _ σ ⟨an,ao,rfl,b4,rfl,Y⟩
       rw[b3]at Y
       have b5:=b.n b4
       exact .ret (rt Y b5)
      ·refine rg (fl a O (ca Y (fun _=>p34 (k.ul b)) fun cz b6 Y i=>?_))
       have b7:=b.n i
       refine mb O (bs Y (fun E Y=>?_) fun E Y=>?_)
       ·refine wak 3 E (fl (a.up i) O (ca Y (fun _=>p34 (k.ul b7)) fun c0 ap Y aq=>Pb E O (mb O (bs Y (fun F Y=>?_) fun F Y=>?_))))
        ·refine wak 1 F (mb O (Pb F O (mb O (bs Y (fun G Y=>?_) fun G Y=>?_))))
         ·exact wak 1 G (mb O (Pb G O (Nb O ((ag) ⟨((x0.Text.length:Int)==0),ap,O,(i.j aq).w,O,Y⟩))))
         ·exact psk 1 G O (Pb G O (Nb O ((ag) ⟨false,ap,O,(i.j aq).w,O,Y⟩)))
        ·exact psk 1 F O (Pb F O (mb O (psk 1 O O (Pb O O (Nb O ((ag) ⟨false,ap,O,(i.j aq).w,O,Y⟩))))))
       ·exact psk 3 E O (Pb E O (mb O (psk 1 O O (Pb O O (mb O (psk 1 O O (Pb O O (Nb O ((ag) ⟨false,b6,O,i,O,Y⟩)))))))))
     ·obtain⟨b8,b9,Y⟩:=zci Y
      refine Cw.join 85 87 [85] (fun l w=> ∃ ar e,CW.w e=w/\Le [] f e/\l=[vB ar]/\b8 ar=some r) ?_ ?_
      ·rintro _ _ σ ⟨ar,e,rfl,au,rfl,Y⟩
       rw[b9]at Y
       have ba:=b.n au
       refine cn Y (fun Y=>?_) fun Y=>?_
       ·obtain⟨cb,cc,Y⟩:=zci Y
        refine Cw.join 88 99 [2] (fun l w=> ∃ av aw,CW.w aw=w/\Le [] e aw/\l=[vB av]/\cb av=some r) ?_ ?_
        ·rintro _ _ σ ⟨av,aw,rfl,cd,rfl,Y⟩
         rw[cc]at Y
         have ce:=ba.n cd
         exact .ret (rt Y ce)
        ·refine rg (fl (a.up au) O (ca Y (fun _=>p33) fun c1 T Y U=>mb O (bs Y (fun H Y=>?_) fun H Y=>?_)))
         ·refine wak 1 H (mb O (Pb H O (mb O (bs Y (fun I Y=>?_) fun I Y=>?_))))
          ·refine wak 1 I (mb O (Pb I O (mb O (bs Y (fun J Y=>?_) fun J Y=>?_))))
           ·exact wak 1 J (mb O (Pb J O (Nb O ((ag) ⟨((x0.Text.length:Int)==0),T,O,U,O,Y⟩))))
           ·exact psk 1 J O (Pb J O (Nb O ((ag) ⟨false,T,O,U,O,Y⟩)))
          ·exact psk 1 I O (Pb I O (mb O (psk 1 O O (Pb O O (Nb O ((ag) ⟨false,T,O,U,O,Y⟩))))))
         ·exact psk 1 H O (Pb H O (mb O (psk 1 O O (Pb O O (mb O (psk 1 O O (Pb O O (Nb O ((ag) ⟨false,T,O,U,O,Y⟩)))))))))
       ·obtain⟨cf,cg,Y⟩:=zci Y
        refine Cw.join 100 102 [100] (fun l w=> ∃ ax V,CW.w V=w/\Le [] e V/\l=[vB ax]/\cf ax=some r) ?_ ?_
        ·rintro _ _ σ ⟨ax,V,rfl,bb,rfl,Y⟩
         rw[cg]at Y
         have bc:=ba.n bb
         refine cn Y (fun Y=>?_) fun Y=>?_
         ·obtain⟨ch,ci,Y⟩:=zci Y
          refine Cw.join 103 114 [2] (fun l w=> ∃ ay az,CW.w az=w/\Le [] V az/\l=[vB ay]/\ch ay=some r) ?_ ?_
          ·rintro _ _ σ ⟨ay,az,rfl,cj,rfl,Y⟩
           rw[ci]at Y
           have ck:=bc.n cj
           exact .ret (rt Y ck)
          ·refine rg (fl ((a.up au).up bb) O (ca Y (fun _=>p38) fun c2 W Y X=>mb O (bs Y (fun K Y=>?_) fun K Y=>?_)))
           ·refine wak 1 K (mb O (Pb K O (mb O (bs Y (fun L Y=>?_) fun L Y=>?_))))
            ·refine wak 1 L (mb O (Pb L O (mb O (bs Y (fun M Y=>?_) fun M Y=>?_))))
             ·exact wak 1 M (mb O (Pb M O (Nb O ((ag) ⟨((x0.Text.length:Int)==0),W,O,X,O,Y⟩))))
             ·exact psk 1 M O (Pb M O (Nb O ((ag) ⟨false,W,O,X,O,Y⟩)))
            ·exact psk 1 L O (Pb L O (mb O (psk 1 O O (Pb O O (Nb O ((ag) ⟨false,W,O,X,O,Y⟩))))))
           ·exact psk 1 K O (Pb K O (mb O (psk 1 O O (Pb O O (mb O (psk 1 O O (Pb O O (Nb O ((ag) ⟨false,W,O,X,O,Y⟩)))))))))
         ·exact sk (sr (Nb O (.ret (rt Y bc))))
        ·refine sr (Lw.eq O (Nb O (cn Y (fun Y=>?_) fun Y=>?_)))
         ·exact sk ((ag) ⟨(x0.Kind==6),e,O,Le.refl _ _,O,Y⟩)
         ·exact rg (Lw.eq O (Nb O ((ag) ⟨(x0.Kind==7),e,O,Le.refl _ _,O,Y⟩)))
      ·refine sr (Lw.eq O (Nb O (cn Y (fun Y=>?_) fun Y=>?_)))
       ·exact sk ((ag) ⟨(x0.Kind==4),f,O,Le.refl _ _,O,Y⟩)
       ·exact rg (Lw.eq O (Nb O ((ag) ⟨(x0.Kind==5),f,O,Le.refl _ _,O,Y⟩)))
 ·refine rg (fl b1 O (ca Y (fun _=>p33) fun c3 cl Y a0=>Lw.r O (R.not O) (mb O (bs Y (fun N Y=>?_) fun N Y=>?_))))
  ·exact psk 4 N O (Pb N O (nl ((ag) ⟨true,cl,O,a0,O,Y⟩)))
  ·exact wak 4 N (fl (b1.up a0) O (ca Y (fun _=>p33) fun cm co Y cp=>Lw.r O (R.not O) (Pb N O (nl ((ag) ⟨(!cm),co,O,(a0.j cp).w,O,Y⟩)))))
theorem p19 {x0 a r}(b:Rd W K [vI x0.Kind,vS x0.Branch,vS x0.Who,vS x0.Path,vS x0.To,vI x0.At,a] x0)(d:Gk 2 0 1 W K)(Y:Vm.zcb x0=some r):Q1 19 [.agg [vI x0.Kind,vS x0.Branch,vS x0.Who,vS x0.Path,vS x0.To,vI x0.At,a].toArray] W [] fun W' v=>v=vB r:=
 (c19 (b.view _) (d.view _) Y).ad (fk 0) fun _ _ e=>e
theorem c39 {x0 d r}(e:Rd W0 [0] [d] x0)(Y:Vm.zba x0=some r):Q0 39 [d] W0 fun Wf v=>v=vS r:=by
 unfold Vm.zba at Y
 refine zaz.of Tryd.func39 O O O O (sr (Ns O (sr (Ns O (ssr (mv d O (Lw.ln x0 e O (mi O (nl (Cw.block ?_))))))))))
 obtain⟨y,z,Y⟩:=zci Y
 refine Cw.loop 8 16 [3,5,8] (fun m l w=> ∃ f a i b,CW.w b=w/\Le [] W0 b/\l=[vS f,i,vI a]/\Vm.zaw x0 y m f a=some r) _ ⟨([]:Str),0,undef,W0,O,Le.refl _ _,O,Y⟩ ?_
 rintro(_ |E) _ _ σ ⟨f,a,i,b,rfl,k,rfl,Y⟩
 ·cases Y
 unfold Vm.zaw at Y
 have h:=k.o
 refine sr (Lw.lt O (nl (Cw.seq (cn Y (fun Y=>?_) fun Y=>?_))))
 ·refine sk (Cw.seq (Cw.block (sr ?_)))
  obtain⟨A,x,Y⟩:=ob Y
  refine Lw.r O (R.ix (α:=Str) (e.ul h) x O O O) (Lw.r O (R.ld O O ((e.ul h).at_ x).str) (Ns O (rg (ms O (ms O ?_)))))
  obtain⟨F,B,Y⟩:=ob Y
  refine Lw.r O (R.sad B O O) ?_
  obtain⟨C,D,Y⟩:=ob Y
  exact Lw.r O (R.sad D O O) (Ns O (rg (Lw.add O (mi O (nl ((agm) ⟨C,w64 (a+1),vS A,b,O,k,O,Y⟩))))))
 ·refine Cw.exit ?_
  rw[z]at Y
  exact sr (ms O (Ns O (.ret (rt Y h))))
theorem p39 {x0 a r}(b:Rd W K [a] x0)(Y:Vm.zba x0=some r):Q1 39 [a] W [] fun W' v=>v=vS r:=
 (c39 (b.view _) Y).ad (fk 0) fun _ _ e=>e
theorem c20 {x0 aa r}(h0:Rd W0 [0] [vI x0.Kind,vS x0.Branch,vS x0.Who,vS x0.Path,vS x0.To,vI x0.At,aa] x0)(Y:Vm.zbO x0=some r):Q0 20 [.agg [vI x0.Kind,vS x0.Branch,vS x0.Who,vS x0.Path,vS x0.To,vI x0.At,aa].toArray] W0 fun Wf v=>v=vS r:=by
 unfold Vm.zbO at Y
 obtain⟨bu,ac,ao⟩:=Op.split h0
 simp only[List.cons.injEq,and_true,true_and]at ac
 obtain rfl:=ac
 refine zaz.of Tryd.func20 O O O O (sr (bo 2 O fun a W1 l1 b1=>?_))
 have a2:=l1.o
 refine Ns O (Cw.seq ?_)
 obtain⟨f,e7,Y⟩:=ob Y
 obtain⟨z,ae,Y⟩:=ob Y
 obtain⟨A,av,Y⟩:=ob Y
 obtain⟨B,aw,Y⟩:=ob Y
 obtain⟨C,ax,Y⟩:=ob Y
 obtain⟨D,ay,Y⟩:=ob Y
 obtain⟨e,az,Y⟩:=ob Y
 refine Cw.par [[],[],[1],[0,1,2],[0,1,2,3],[0,1,2,3,4],[],[6],[0,1,2,3,4,5,6,7],[0,1,2,3,4,5,6,7,8],[],[10],[0,1,2,3,4,5,6,7,8,9,10,11],[0,1,2,3,4,5,6,7,8,9,10,11,12],[0,1,2,3,4,5,6,7,8,9,10,11,12,13]] [[],[],[1],[0,2],[0,3],[4],[],[6],[5,7],[8],[],[10],[9,11],[12],[13]] [[],[],[],[],[],[],[],[],[],[],[],[],[],[],[]] [[0],[1],[2],[0,3],[4],[5],[6],[7],[8],[9],[10],[11],[12],[13],[14]] [[3],[],[],[],[],[],[],[],[],[],[],[],[],[],[]] [0,1,2,3,4,5,6,7,8,9,10,11,12,13,14] [] [fun vs W=>Ow W 3 [] [(vs 0)] f,fun vs W=>(vs 1)=ptr ((bx a).add 0),fun vs W=>(vs 2)=vI x0.Kind,fun vs W=>(vs 3)=ptr ((slA (vs 0)).add ((x0.Kind).toNat*Rp.sz (Str))),fun vs W=>(vs 4)=vS z,fun vs W=>(vs 5)=vS A,fun vs W=>(vs 6)=ptr ((bx a).add 1),fun vs W=>(vs 7)=vS x0.Branch,fun vs W=>(vs 8)=vS B,fun vs W=>(vs 9)=vS C,fun vs W=>(vs 10)=ptr ((bx a).add 2),fun vs W=>(vs 11)=vS x0.Who,fun vs W=>(vs 12)=vS D,fun vs W=>(vs 13)=vS e,fun vs W=>(vs 14)=vS e] [] mixed (by kernel_rfl) O zi6.nil ?_
 intro bw af
 have a0:=a2.n af
 have k:=b1.up af
 refine⟨(zat.cons ?_ (zat.cons ?_ (zat.cons ?_ (zat.cons ?_ (zat.cons ?_ (zat.cons ?_ (zat.cons ?_ (zat.cons ?_ (zat.cons ?_ (zat.cons ?_ (zat.cons ?_ (zat.cons ?_ (zat.cons ?_ (zat.cons ?_ (zat.cons ?_ zat.nil))))))))))))))),(zbE.cons SO (zbE.cons SE (zbE.cons SE (zbE.cons (fun vs vs' W W' _ hv l hd h=>by(show(vs' 3)=ptr ((slA (vs' 0)).add ((x0.Kind).toNat*Rp.sz (Str))));rw[hv 0 (zaE O),hv 3 (zaE O)];exact h) (zbE.cons SE (zbE.cons SE (zbE.cons SE (zbE.cons SE (zbE.cons SE (zbE.cons SE (zbE.cons SE (zbE.cons SE (zbE.cons SE (zbE.cons SE (zbE.cons SE zbE.nil))))))))))))))),?_⟩
 ·intro vs bz lW hN hV
  refine Tr.mono (T.call O (p16 (k0:=3) e7)) ?_
  rintro a1 _ ⟨ah,rfl,a3,⟨_,rfl,a4⟩⟩
  exact⟨ah,O,a3,(show Ow ah 3 [] [a1] f from a4)⟩
 ·intro vs b0 lW hN hV
  exact Trq (R.fa O) O
 ·intro vs b2 lW hN hV
  have E:vs 1=ptr ((bx a).add 0):=(hN 1 (zaE O))
  obtain⟨vs,rfl⟩:=zac E
  exact Trq (R.ld (v:=vI x0.Kind) O O ((k.up lW O).cell O)) O
 ·intro vs a5 lW hN hV
  obtain⟨d,i⟩: ∃ v,vs 0=v:=⟨_,O⟩
  obtain⟨vs,rfl⟩:=zac i
  have a6:Ow a5 3 [] [d] f:=(hN 0 (zaE O))
  have F:vs 2=vI x0.Kind:=(hN 2 (zaE O))
  obtain⟨vs,rfl⟩:=zac F
  exact Trq (R.ix (α:=Str) a6.rd ae O O O) O
 ·intro vs a7 lW hN hV
  obtain⟨d,i⟩: ∃ v,vs 0=v:=⟨_,O⟩
  obtain⟨vs,rfl⟩:=zac i
  have a8:Ow a7 3 [] [d] f:=(hN 0 (zaE O))
  have G:vs 3=ptr ((slA d).add ((x0.Kind).toNat*Rp.sz (Str))):=(hN 3 (zaE O))
  obtain⟨vs,rfl⟩:=zac G
  exact Trq (R.ld O O (a8.rd.at_ ae).str) O
 ·intro vs b3 lW hN hV
  have H:vs 4=vS z:=(hN 4 (zaE O))
  obtain⟨vs,rfl⟩:=zac H
  exact Trq (R.sad av O O) O
 ·intro vs b4 lW hN hV
  exact Trq (R.fa O) O
 ·intro vs b5 lW hN hV
  have I:vs 6=ptr ((bx a).add 1):=(hN 6 (zaE O))
  obtain⟨vs,rfl⟩:=zac I
  exact Trq (R.ld (v:=vS x0.Branch) O O ((k.up lW O).cell O)) O
 ·intro vs b6 lW hN hV
  have J:vs 5=vS A:=(hN 5 (zaE O))
  obtain⟨vs,rfl⟩:=zac J
  have K:vs 7=vS x0.Branch:=(hN 7 (zaE O))
  obtain⟨vs,rfl⟩:=zac K
  exact Trq (R.sad aw O O) O
 ·intro vs b7 lW hN hV
  have L:vs 8=vS B:=(hN 8 (zaE O))
  obtain⟨vs,rfl⟩:=zac L
  exact Trq (R.sad ax O O) O
 ·intro vs b8 lW hN hV
  exact Trq (R.fa O) O
 ·intro vs b9 lW hN hV
  have M:vs 10=ptr ((bx a).add 2):=(hN 10 (zaE O))
  obtain⟨vs,rfl⟩:=zac M
  exact Trq (R.ld (v:=vS x0.Who) O O ((k.up lW O).cell O)) O
 ·intro vs cb lW hN hV
  have N:vs 9=vS C:=(hN 9 (zaE O))
  obtain⟨vs,rfl⟩:=zac N
  have P:vs 11=vS x0.Who:=(hN 11 (zaE O))
  obtain⟨vs,rfl⟩:=zac P
  exact Trq (R.sad ay O O) O
 ·intro vs cc lW hN hV
  have Q:vs 12=vS D:=(hN 12 (zaE O))
  obtain⟨vs,rfl⟩:=zac Q
  exact Trq (R.sad az O O) O
 ·intro vs cd lW hN hV
  have S:vs 13=vS e:=(hN 13 (zaE O))
  obtain⟨vs,rfl⟩:=zac S
  exact Trq (R.as (v:=vS e) O) O
 ·intro vs x ai hN
  have y:=a0.n ai
  have b:=k.up ai
  obtain⟨d,i⟩: ∃ v,vs 0=v:=⟨_,O⟩
  obtain⟨vs,rfl⟩:=zac i
  have ce:Ow x 3 [] [d] f:=(hN 0 (zaE O))
  have E:vs 1=ptr ((bx a).add 0):=(hN 1 (zaE O))
  obtain⟨vs,rfl⟩:=zac E
  have F:vs 2=vI x0.Kind:=(hN 2 (zaE O))
  obtain⟨vs,rfl⟩:=zac F
  have G:vs 3=ptr ((slA d).add ((x0.Kind).toNat*Rp.sz (Str))):=(hN 3 (zaE O))
  obtain⟨vs,rfl⟩:=zac G
  have H:vs 4=vS z:=(hN 4 (zaE O))
  obtain⟨vs,rfl⟩:=zac H
  have J:vs 5=vS A:=(hN 5 (zaE O))
  obtain⟨vs,rfl⟩:=zac J
  have I:vs 6=ptr ((bx a).add 1):=(hN 6 (zaE O))
  obtain⟨vs,rfl⟩:=zac I
  have K:vs 7=vS x0.Branch:=(hN 7 (zaE O))
  obtain⟨vs,rfl⟩:=zac K
  have L:vs 8=vS B:=(hN 8 (zaE O))
  obtain⟨vs,rfl⟩:=zac L
  have N:vs 9=vS C:=(hN 9 (zaE O))
  obtain⟨vs,rfl⟩:=zac N
  have M:vs 10=ptr ((bx a).add 2):=(hN 10 (zaE O))
  obtain⟨vs,rfl⟩:=zac M
  have P:vs 11=vS x0.Who:=(hN 11 (zaE O))
  obtain⟨vs,rfl⟩:=zac P
  have Q:vs 12=vS D:=(hN 12 (zaE O))
  obtain⟨vs,rfl⟩:=zac Q
  have S:vs 13=vS e:=(hN 13 (zaE O))
  obtain⟨vs,rfl⟩:=zac S
  have a9:vs 14=vS e:=(hN 14 (zaE O))
  obtain⟨vs,rfl⟩:=zac a9
  refine ssr (fl b O (nl (Cw.block (sr (Lw.eq O (Nb O (cn Y (fun Y=>?_) fun Y=>?_)))))))
  ·refine Cw.seq (Cw.draw [] [(0,0),(1,0),(2,1),(3,0),(4,0),(5,0),(6,1),(7,2),(8,0),(9,0)] mixed (by kernel_rfl) fun cf U=>?_)
   have aj:=y.n U
   refine Ds O (Dfl (b.up U) O O O ?_)
   obtain⟨cg,ba,Y⟩:=ob Y
   refine Mw.p O O (fun _=>R.sad ba O O) ?_
   obtain⟨ch,bb,Y⟩:=ob Y
   refine Mw.p O O (fun _=>R.sad bb O O) (Dfl (b.up U) O O O ?_)
   obtain⟨ci,bc,Y⟩:=ob Y
   refine Mw.t O O (T.call O (p39 (ao.ul aj) bc)) ?_
   rintro _ _ ⟨cj,rfl,ak,rfl⟩
   have be:=aj.n ak
   refine m0 ak fun ck=>?_
   obtain⟨cl,bg,Y⟩:=ob Y
   exact Mw.p O O (fun _=>R.sad bg O O) (Hs O (Mw.nil (.ret (rt Y be))))
  ·refine sr (Lw.eq O (Nb O (cn Y (fun Y=>?_) fun Y=>?_)))
   ·refine sr (ms O (fl b O ?_))
    obtain⟨cm,bh,Y⟩:=ob Y
    exact Lw.r O (R.sad bh O O) (Ns O (.ret (rt Y y)))
   ·refine sr (Lw.eq O (Nb O (cn Y (fun Y=>?_) fun Y=>?_)))
    ·refine sr (ms O (fl b O ?_))
     obtain⟨co,bi,Y⟩:=ob Y
     refine Lw.r O (R.sad bi O O) ?_
     obtain⟨cp,bj,Y⟩:=ob Y
     refine Lw.r O (R.sad bj O O) (fl b O ?_)
     obtain⟨cq,bk,Y⟩:=ob Y
     exact Lw.r O (R.sad bk O O) (Ns O (.ret (rt Y y)))
    ·obtain⟨bl,bm,Y⟩:=zci Y
     refine Cw.join 47 49 [47] (fun l w=> ∃ V X,CW.w X=w/\Le [] x X/\l=[vB V]/\bl V=some r) ?_ ?_
     ·rintro _ _ σ ⟨V,X,rfl,Z,rfl,Y⟩
      rw[bm]at Y
      have am:=y.n Z
      refine cn Y (fun Y=>?_) fun Y=>?_
      ·refine sr (ms O (fl (b.up Z) O ?_))
       obtain⟨cs,bn,Y⟩:=ob Y
       exact Lw.r O (R.sad bn O O) (Ns O (.ret (rt Y am)))
      ·refine sk (sr (ms O (fl (b.up Z) O (ca Y (fun _=>p40) fun ct cu Y bp=>?_))))
       have bq:=am.n bp
       obtain⟨cv,br,Y⟩:=ob Y
       exact Lw.r O (R.sad br O O) (Ns O (.ret (rt Y bq)))
     ·refine sr (Lw.eq O (Nb O (cn Y (fun Y=>?_) fun Y=>?_)))
      ·exact sk ((ag) ⟨(x0.Kind==4),x,O,Le.refl _ _,O,Y⟩)
      ·exact rg (Lw.eq O (Nb O ((ag) ⟨(x0.Kind==5),x,O,Le.refl _ _,O,Y⟩)))
theorem p20 {x0 a r}(b:Rd W K [vI x0.Kind,vS x0.Branch,vS x0.Who,vS x0.Path,vS x0.To,vI x0.At,a] x0)(Y:Vm.zbO x0=some r):Q1 20 [.agg [vI x0.Kind,vS x0.Branch,vS x0.Who,vS x0.Path,vS x0.To,vI x0.At,a].toArray] W [] fun W' v=>v=vS r:=
 (c20 (b.view _) Y).ad (fk 0) fun _ _ e=>e
end Go.Sx
