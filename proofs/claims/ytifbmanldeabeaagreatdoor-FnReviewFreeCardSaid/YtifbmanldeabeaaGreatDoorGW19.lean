/- Walks: each function answers as its model, printed by a program of ours. Conditions: the arguments read as they are given. -/
import Derived.Test.YtifbmanldeabeaaGreatDoorGTs
import Derived.Test.YtifbmanldeabeaaGreatDoorGM5
import Derived.Test.YtifbmanldeabeaaGreatDoorGW11
import Derived.Test.YtifbmanldeabeaaGreatDoorGW5
import Derived.Test.YtifbmanldeabeaaGreatDoorGW7
import Derived.Test.YtifbmanldeabeaaGreatDoorGW8
namespace Go.Sx
open Go Go.Proofs Go.Vm Rp
set_option linter.unusedVariables false
set_option linter.unusedSimpArgs false
variable {W W0:CW}{K:List Nat}
theorem c64 {x0 e f r}(hB0:Bx W0 2 e [f,vI x0.p])(U:Rd W0 [0] [f] x0.b)(Y:Vm.zho x0=some r):Q0 64 [ptr (bx e)] W0 fun Wf v=> ∃ u0,v=u0/\OwS Wf [31] [] [u0] r.1/\Bx Wf 2 e [f,vI r.2]:=by
 unfold Vm.zho at Y
 refine zao.of Tryz.func64 O O O O (sr (Nv (.slice none 0 0) O (sr (Lw.t O (T.lit0 (α:=Owner) 3 []) ?_))))
 rintro v1 _ ⟨W1,rfl,l1,o1⟩
 have a2:=l1.o
 have b3:=hB0.up l1
 refine Nv v1 O (sr (Lw.t O (T.bsS (α:=Str) (xs:=[([97]:Str),([98]:Str),([100]:Str),([100,47,101]:Str),([103]:Str)]) 4 [] (W:=W1) [vS ([97]:Str),vS ([98]:Str),vS ([100]:Str),vS ([100,47,101]:Str),vS ([103]:Str)] (Each.cons ((rdS _)) (Each.cons ((rdS _)) (Each.cons ((rdS _)) (Each.cons ((rdS _)) (Each.cons ((rdS _)) Each.nil))))) O) ?_))
 rintro V _ ⟨W4,rfl,X,o4⟩
 have a5:=a2.n X
 refine Nv V O (ssr (Ni O (Cw.block ?_)))
 obtain⟨a9,ba,Y⟩:=zaY Y
 refine Cw.loop 8 27 [3,5] (fun m l w=> ∃ h G i a d,CW.w d=w/\Le [2,3] W4 d/\l=[a,vI G]/\Ow d 3 [] [a] h/\Bx d 2 e [f,vI i]/\Vm.zdY x0 a9 m h G i=some r) _ ⟨([]:List Owner),0,x0.p,v1,W4,O,Le.refl _ _,O,(o1.up X),(b3.up X),Y⟩ ?_
 rintro(_ |ck) _ _ σ ⟨h,G,i,a,d,rfl,H,rfl,I,Z,Y⟩
 ·cases Y
 unfold Vm.zdY at Y
 have L:=a5.t H
 refine ssr (mi O (mv V O (Lw.ln (([([97]:Str),([98]:Str),([100]:Str),([100,47,101]:Str),([103]:Str)]:List Str)) (o4.up H).rd O (Lw.lt O (nl (cn Y (fun Y=>?_) fun Y=>?_))))))
 ·refine sk ?_
  obtain⟨bb,bc,Y⟩:=zaY Y
  refine Cw.join 14 27 [3] (fun l w=> ∃ N P Q k,CW.w k=w/\Le [2,3] d k/\l=[Q]/\Ow k 3 [] [Q] N/\Bx k 2 e [f,vI P]/\bb N P=some r) ?_ ?_
  ·rintro _ _ σ ⟨N,P,Q,k,rfl,be,rfl,bg,bh,Y⟩
   rw[bc]at Y
   exact rg (mi O (Lw.add O (Ni O ((agm) ⟨N,w64 (G+1),P,Q,k,O,(H.j be).w,O,bg,bh,Y⟩))))
  ·refine Cw.block (sr (mp O (cr Y (fun _=>p110 (c0:=2) (x0:=(Vm.l30Rd.mk x0.b i)) Z (U.ul L) O) ?_)))
   rintro au _ bi Y x ⟨rfl,av⟩
   have bj:=L.t x
   refine Lw.eq O (nl (cn Y (fun Y=>?_) fun Y=>?_))
   ·refine Cw.draw [2,3] [(0,0),(1,0),(2,0),(3,0),(4,1),(5,0),(6,2),(7,2),(8,0),(9,3),(10,2),(11,0)] mixed (by kernel_rfl) fun bk A=>?_
    have bl:=bj.n A
    have aa:=((o4.up H).up x).up A
    refine Dv a O (Dv V O (Di O ?_))
    obtain⟨B,ac,Y⟩:=ob Y
    refine Mw.p O O (fun _=>R.ix (α:=Str) aa.rd ac O O O) (Mw.q O O (fun _ c=>R.ld O O (zaq (aa.rd.at_ ac).1 O (aa.rd.at_ ac).str c)) (Dp O (Mw.t O O (T.bsS (α:=Str) (xs:=[([97,110,110]:Str),([98,111,98]:Str),([99,105,100]:Str)]) 5 [] (W:=bk) [vS ([97,110,110]:Str),vS ([98,111,98]:Str),vS ([99,105,100]:Str)] (Each.cons ((rdS _)) (Each.cons ((rdS _)) (Each.cons ((rdS _)) Each.nil))) O) ?_)))
    rintro cl _ ⟨cm,rfl,y,bm⟩
    have bn:=bl.n y
    refine m0 y fun bp=>Dc Y bp (fun _=>p120 (K:=[0,5]) (c0:=2) (x0:=(Vm.l30Rd.mk x0.b au.2)) ((av.up A).up y) ((U.ul bn).sub (M:=[0,5]) O) (bm.rd.sub (M:=[0,5]) O) O) O ?_
    rintro z _ co Y ae ⟨rfl,bq⟩ cp
    refine Mw.p O O (fun _=>R.bd (zs:=[vS ([]:Str),vS ([]:Str)]) (cs:=[vS B,vS z.1]) [(0,vS B),(1,vS z.1)] O O O (zaA O O (zaA O O zc8))) (Mw.l O O (T.bs 6 [.agg [vS B,vS z.1].toArray] (cs:=[vS B,vS z.1]) O O (bsA O)) ?_)
    rintro _ _ ⟨cq,ct,rfl,rfl,S,br⟩
    obtain⟨bu,bv,Y⟩:=ob Y
    refine Mw.t O O (T.app1S (α:=Owner) (K':=[]) (((((I.up x).up A).up y).up ae).up S) br (Owner.rd (K:=[]) B z.1) O O bv) ?_
    rintro aw _ ⟨bw,rfl,af,bz⟩
    refine⟨⟨_,O,((y.sub (M:=[2,3]) O).trans ((ae.sub (M:=[2,3]) O).trans ((S.sub (M:=[2,3]) O).trans (af.sub (M:=[2,3]) O))))⟩,?_⟩
    exact Hv aw O (Mw.nil ((ag) ⟨bu,z.2,aw,bw,O,(((((x.j A).j y).j ae).j S).j af).w,O,bz,((bq.up S).up af),Y⟩))
   ·exact sk ((ag) ⟨h,au.2,a,bi,O,x.w,O,(I.up x),av,Y⟩)
 ·refine Cw.exit ?_
  rw[ba]at Y
  obtain⟨b0,b1,Y⟩:=zaY Y
  refine Cw.join 28 38 [] (fun l w=> ∃ ah ai C,CW.w C=w/\Le [2,3] d C/\l=[]/\Bx C 2 e [f,vI ah]/\Ow C 3 [] [a] ai/\b0 ah ai=some r) ?_ ?_
  ·rintro _ _ σ ⟨ah,ai,C,rfl,b2,rfl,b4,b5,Y⟩
   rw[b1]at Y
   have b6:=L.t b2
   refine sr (mv a O (Nv a O ?_))
   obtain⟨cu,b7,ax,b8⟩:=b5.dyeO 31
   have b9:=b6.t ax
   cases Y
   rw[<- b7]
   exact Cw.ret (zik O (Res.mk b9 ⟨a,O,b8.s,(b4.up ax)⟩))
  ·obtain⟨cb,cc,Y⟩:=zaY Y
   refine Cw.join 28 35 [35] (fun l w=> ∃ aj D E,CW.w E=w/\Le [2] d E/\l=[vB aj]/\Bx E 2 e [f,vI D]/\cb aj D=some r) ?_ ?_
   ·rintro _ _ σ ⟨aj,D,E,rfl,ak,rfl,ay,Y⟩
    rw[cc]at Y
    have am:=I.up ak
    refine cn Y (fun Y=>?_) fun Y=>?_
    ·refine rg (mv a O ?_)
     obtain⟨cv,az,Y⟩:=ob Y
     refine Lw.r O (R.ix (α:=Owner) am.rd az O O O) (Lw.fa O ?_)
     obtain⟨cd,ce,Y⟩:=ob Y
     refine Lw.u (T.stH (α:=Owner) (β:=Str) (J:=[]) (Ow.hole (α:=Owner) (β:=Str) (jf:=1) am az) (OwS.atm (K:=[]) (rdS _)) ce O O O O) ?_
     rintro _ _ ⟨cf,rfl,a0,cg⟩
     exact nl ((ag) ⟨D,cd,cf,O,(ak.j a0).w,O,(ay.up a0),cg,Y⟩)
    ·exact sk ((ag) ⟨D,h,E,O,ak.w,O,ay,am,Y⟩)
   ·refine rg (mv a O (Lw.ln h I.rd O (Lw.gt O (mb O (bs Y (fun F Y=>?_) fun F Y=>?_)))))
    ·refine wak 3 F (mp O (cr Y (fun _=>p110 (c0:=2) (x0:=(Vm.l30Rd.mk x0.b i)) Z (U.ul L) O) ?_))
     rintro a1 _ ch Y ci ⟨rfl,cj⟩
     exact Lw.eq O (Pb F O (nl ((ag) ⟨(a1.1==0),a1.2,ch,O,ci,O,cj,Y⟩)))
    ·exact psk 3 F O (Pb F O (nl ((ag) ⟨false,i,d,O,Le.refl _ _,O,Z,Y⟩)))
theorem p64 {x0 d f k0 c0 r}(hB0:Bx W c0 d [f,vI x0.p])(h:Rd W K [f] x0.b)(hJ:okJ K [c0]=true)(Y:Vm.zho x0=some r):Q1 64 [ptr (bx d)] W [c0] fun W' v=> ∃ a,v=a/\Ow W' k0 [] [a] r.1/\Bx W' c0 d [f,vI r.2]:=
 zao.adJ (J:=[c0]) (fun c=>bif Nat.beq c 0 then 0 else bif Nat.beq c 2 then c0 else bif Nat.beq c 31 then k0 else 0) (c64 (hB0.viewJ 0 hJ) (h.view _) Y) fun _ _ ⟨a,e,i,k⟩=>⟨a,e,i.one1.backN O,Bx.backJ 0 k O⟩
theorem c65 {x0 k x r}(hB0:Bx W0 2 k [x,vI x0.p])(z:Rd W0 [0] [x] x0.b)(Y:Vm.zhp x0=some r):Q0 65 [ptr (bx k)] W0 fun Wf v=> ∃ a7,v = .agg [vS r.1.Branch,vS r.1.Into,vS r.1.By,a7].toArray/\OwS Wf [31] [] [a7] r.1.Yes/\Bx Wf 2 k [x,vI r.2]:=by
 unfold Vm.zhp at Y
 refine zao.of Tryz.func65 O O O O (sr (al 3 [vS ([]:Str),vS ([]:Str),vS ([]:Str), .slice none 0 0] fun g1 W1 l1 b1=>?_))
 have a2:=l1.o
 have b3:=hB0.up l1
 refine nl (sr (mp O (Lw.t O (T.bsS (α:=Str) (xs:=[([115,105,100,101]:Str),([100,101,118]:Str),([109,97,105,110]:Str)]) 4 [] (W:=W1) [vS ([115,105,100,101]:Str),vS ([100,101,118]:Str),vS ([109,97,105,110]:Str)] (Each.cons ((rdS _)) (Each.cons ((rdS _)) (Each.cons ((rdS _)) Each.nil))) O) ?_)))
 rintro v4 _ ⟨W4,rfl,l4,o4⟩
 have a5:=a2.n l4
 refine cr Y (fun _=>p120 (K:=[0,4]) (c0:=2) (x0:=x0) (b3.up l4) ((z.ul a5).sub (M:=[0,4]) O) (o4.rd.sub (M:=[0,4]) O) O) ?_
 rintro H _ b8 Y ba ⟨rfl,b9⟩
 have cb:=a5.t ba
 refine mp O (Lw.t O (T.bsS (α:=Str) (xs:=[([109,97,105,110]:Str),([109,97,105,110]:Str),([100,101,118]:Str)]) 5 [] (W:=b8) [vS ([109,97,105,110]:Str),vS ([109,97,105,110]:Str),vS ([100,101,118]:Str)] (Each.cons ((rdS _)) (Each.cons ((rdS _)) (Each.cons ((rdS _)) Each.nil))) O) ?_)
 rintro dr _ ⟨ds,rfl,af,cc⟩
 have bb:=cb.n af
 refine cr Y (fun _=>p120 (K:=[0,5]) (c0:=2) (x0:=(Vm.l30Rd.mk x0.b H.2)) (b9.up af) ((z.ul bb).sub (M:=[0,5]) O) (cc.rd.sub (M:=[0,5]) O) O) ?_
 rintro I _ cd Y bc ⟨rfl,ce⟩
 have cf:=bb.t bc
 refine mp O (Lw.t O (T.bsS (α:=Str) (xs:=[([97,110,110]:Str),([98,111,98]:Str),([101,118,101]:Str)]) 6 [] (W:=cd) [vS ([97,110,110]:Str),vS ([98,111,98]:Str),vS ([101,118,101]:Str)] (Each.cons ((rdS _)) (Each.cons ((rdS _)) (Each.cons ((rdS _)) Each.nil))) O) ?_)
 rintro dt _ ⟨du,rfl,ah,cg⟩
 have be:=cf.n ah
 refine cr Y (fun _=>p120 (K:=[0,6]) (c0:=2) (x0:=(Vm.l30Rd.mk x0.b I.2)) (ce.up ah) ((z.ul be).sub (M:=[0,6]) O) (cg.rd.sub (M:=[0,6]) O) O) ?_
 rintro J _ dv Y bg ⟨rfl,ch⟩
 have ci:=be.t bg
 refine Lw.r O (R.bd (zs:=[vS ([]:Str),vS ([]:Str),vS ([]:Str), .slice none 0 0]) (cs:=[vS H.1,vS I.1,vS J.1, .slice none 0 0]) [(0,vS H.1),(1,vS I.1),(2,vS J.1)] O O O (zaA O O (zaA O O (zaA O O zc8)))) (al 7 [vS ([]:Str),vS ([]:Str),vS ([]:Str), .slice none 0 0] fun ai dw aj cj=>?_)
 have ck:=ci.n aj
 refine sta cj (zaa O (zaa O (zaa O (zaa O zaG)))) fun cl ak cm=>?_
 have co:=ck.t ak
 refine nl (sr (Lw.t O (T.bsS (α:=Str) (xs:=[([97,110,110]:Str),([98,111,98]:Str),([99,105,100]:Str)]) 8 [] (W:=cl) [vS ([97,110,110]:Str),vS ([98,111,98]:Str),vS ([99,105,100]:Str)] (Each.cons ((rdS _)) (Each.cons ((rdS _)) (Each.cons ((rdS _)) Each.nil))) O) ?_))
 rintro am _ ⟨bh,rfl,L,bi⟩
 have cp:=co.n L
 refine Nv am O (ssr (Ni O (Cw.block ?_)))
 obtain⟨cq,ct,Y⟩:=zaY Y
 refine Cw.loop 17 34 [5] (fun m l w=> ∃ N A d e f B C a,CW.w a=w/\Le [2,7,9] bh a/\l=[vI N]/\Bx a 2 k [x,vI A]/\Ow a 9 [] [C] B/\Bx a 7 ai [vS d,vS e,vS f,C]/\Vm.zdZ x0 cq m N A d e f B=some r) _ ⟨0,J.2,H.1,I.1,J.1,([]:List Str), .slice none 0 0,bh,O,Le.refl _ _,O,(((ch.up aj).up ak).up L),owN 9 [],(cm.up L),Y⟩ ?_
 rintro(_ |dx) _ _ σ ⟨N,A,d,e,f,B,C,a,rfl,D,rfl,bj,P,an,Y⟩
 ·cases Y
 unfold Vm.zdZ at Y
 have ao:=cp.t D
 refine ssr (mi O (mv am O (Lw.ln (([([97,110,110]:Str),([98,111,98]:Str),([99,105,100]:Str)]:List Str)) (bi.up D).rd O (Lw.lt O (nl (cn Y (fun Y=>?_) fun Y=>?_))))))
 ·refine sk ?_
  obtain⟨cu,cv,Y⟩:=zaY Y
  refine Cw.join 23 34 [] (fun l w=> ∃ Q S U V X Z h,CW.w h=w/\Le [2,7,9] a h/\l=[]/\Bx h 2 k [x,vI Q]/\Ow h 9 [] [Z] X/\Bx h 7 ai [vS S,vS U,vS V,Z]/\cu Q S U V X=some r) ?_ ?_
  ·rintro _ _ σ ⟨Q,S,U,V,X,Z,h,rfl,cw,rfl,cx,cy,cz,Y⟩
   rw[cv]at Y
   exact rg (mi O (Lw.add O (Ni O ((agm) ⟨w64 (N+1),Q,S,U,V,X,Z,h,O,(D.j cw).w,O,cx,cy,cz,Y⟩))))
  ·refine Cw.block (sr (mp O (cr Y (fun _=>p110 (c0:=2) (x0:=(Vm.l30Rd.mk x0.b A)) bj (z.ul ao) O) ?_)))
   rintro bk _ c1 Y i ⟨rfl,bl⟩
   refine Lw.eq O (nl (cn Y (fun Y=>?_) fun Y=>?_))
   ·refine Cw.draw [] [(0,0),(1,1),(2,0),(3,0),(4,0),(5,1),(6,2),(7,3),(8,0),(9,3)] mixed (by kernel_rfl) fun dy E=>?_
    have ap:=((bi.up D).up i).up E
    have bm:=(an.up i).up E
    refine Dfl bm O O O (Dv am O (Di O ?_))
    obtain⟨bn,aq,Y⟩:=ob Y
    refine Mw.p O O (fun _=>R.ix (α:=Str) ap.rd aq O O O) (Mw.q O O (fun _ c=>R.ld O O (zaq (ap.rd.at_ aq).1 O (ap.rd.at_ aq).str c)) (Mw.t O O (T.bs 10 [vS bn] (cs:=[vS bn]) O O (bsv O)) ?_))
    rintro _ _ ⟨dz,d0,rfl,rfl,F,c2⟩
    refine m0 F fun d1=>?_
    obtain⟨c3,c4,Y⟩:=ob Y
    refine Mw.l O O (T.app1S (α:=Str) (K':=[]) (((P.up i).up E).up F) c2 (rdS _) O O c4) ?_
    rintro bp _ ⟨d2,rfl,ar,bq⟩
    refine Df O (Mw.lu O (T.st (j:=3) (v:=bp) ((bm.up F).up ar) O O bq.oc O O) ?_)
    rintro _ _ ⟨c5,rfl,au,c6⟩
    exact Mw.nil ((ag) ⟨bk.2,d,e,f,c3,bp,c5,O,((((i.j E).j F).j ar).j au).w,O,((((bl.up E).up F).up ar).up au),(bq.up au),c6,Y⟩)
   ·exact sk ((ag) ⟨bk.2,d,e,f,B,C,c1,O,i.w,O,bl,(P.up i),(an.up i),Y⟩)
 ·refine Cw.exit ?_
  rw[ct]at Y
  obtain⟨c7,c8,Y⟩:=zaY Y
  refine Cw.join 35 42 [] (fun l w=> ∃ av aw ax ay az aa y,CW.w y=w/\Le [2,7,9] a y/\l=[]/\Bx y 2 k [x,vI av]/\Ow y 9 [] [aa] az/\Bx y 7 ai [vS aw,vS ax,vS ay,aa]/\c7 av aw ax ay az=some r) ?_ ?_
  ·rintro _ _ σ ⟨av,aw,ax,ay,az,aa,y,rfl,br,rfl,c9,bu,da,Y⟩
   rw[c8]at Y
   have db:=ao.t br
   refine sr (la da (sta (((((((((((b1.up l4).up ba).up af).up bc).up ah).up bg).up aj).up ak).up L).up D).up br) (zaa O (zaa O (zaa O (zaa bu.oc zaG)))) fun d3 a0 dc=>?_))
   have dd:=db.t a0
   refine nl ?_
   obtain⟨d4,de,a1,df⟩:=(bu.up a0).dyeO 31
   have dg:=dd.t a1
   cases Y
   rw[<- de]
   exact Cw.ret (zn3 O (dc.up a1) (Res.mk dg ⟨aa,O,df.s,((c9.up a0).up a1)⟩))
  ·refine sr (mp O (cr Y (fun _=>p110 (c0:=2) (x0:=(Vm.l30Rd.mk x0.b A)) bj (z.ul ao) O) ?_))
   rintro bv _ dh Y G ⟨rfl,bw⟩
   have a3:=an.up G
   refine Lw.eq O (nl (cn Y (fun Y=>?_) fun Y=>?_))
   ·refine rg (fl a3 O (Lw.t O (T.bs 11 [vS ([97,110,110]:Str)] (cs:=[vS ([97,110,110]:Str)]) O O (bsv O)) ?_))
    rintro _ _ ⟨d5,d6,rfl,rfl,ac,di⟩
    obtain⟨dj,dk,Y⟩:=ob Y
    refine Lw.t O (T.app1S (α:=Str) (K':=[]) ((P.up G).up ac) di (rdS _) O O dk) ?_
    rintro bz _ ⟨d7,rfl,a4,b0⟩
    refine Lw.fa O (Lw.u (T.st (j:=3) (v:=bz) ((a3.up ac).up a4) O O b0.oc O O) ?_)
    rintro _ _ ⟨dl,rfl,a6,dm⟩
    exact nl ((ag) ⟨bv.2,d,e,f,dj,bz,dl,O,(((G.j ac).j a4).j a6).w,O,(((bw.up ac).up a4).up a6),(b0.up a6),dm,Y⟩)
   ·exact sk ((ag) ⟨bv.2,d,e,f,B,C,dh,O,G.w,O,bw,(P.up G),a3,Y⟩)
theorem p65 {x0 d f k0 c0 r}(hB0:Bx W c0 d [f,vI x0.p])(h:Rd W K [f] x0.b)(hJ:okJ K [c0]=true)(Y:Vm.zhp x0=some r):Q1 65 [ptr (bx d)] W [c0] fun W' v=> ∃ a,v = .agg [vS r.1.Branch,vS r.1.Into,vS r.1.By,a].toArray/\Ow W' k0 [] [a] r.1.Yes/\Bx W' c0 d [f,vI r.2]:=
 zao.adJ (J:=[c0]) (fun c=>bif Nat.beq c 0 then 0 else bif Nat.beq c 2 then c0 else bif Nat.beq c 31 then k0 else 0) (c65 (hB0.viewJ 0 hJ) (h.view _) Y) fun _ _ ⟨a,e,i,k⟩=>⟨a,e,i.one1.backN O,Bx.backJ 0 k O⟩
theorem c26 {x0 C r}(h0:Rd W0 [0] [C] x0)(Y:Vm.zet x0=some r):Q0 26 [C] W0 fun Wf v=> ∃ P Q S U,v = .tuple [.agg [P,Q].toArray,S, .agg [vS r.2.2.Branch,vS r.2.2.Into,vS r.2.2.By,U].toArray].toArray/\OwS Wf [31] [] [P] r.1.Commits/\OwS Wf [32] [] [Q] r.1.Heads/\OwS Wf [33] [] [S] r.2.1/\OwS Wf [34] [] [U] r.2.2.Yes:=by
 unfold Vm.zet at Y
 refine zao.of Tryz.func26 O O O O (sr (al 2 [.slice none 0 0, .slice none 0 0] fun g1 W1 l1 b1=>?_))
 have a2:=l1.o
 refine Gv (.slice none 0 0) O (al 3 [vS ([]:Str),vS ([]:Str),vS ([]:Str), .slice none 0 0] fun g3 W3 V b3=>?_)
 have W:=a2.n V
 refine nl (sr (mv C O (cr Y (fun _=>p62 (k0:=4) (h0.ul W)) ?_)))
 rintro D _ W9 Y E ⟨bv,bw,rfl,ap,aq⟩
 have F:=aq.sub (M:=[0]) O
 have ar:=W.n E
 refine Np O (sr (mp O (cr Y (fun _=>p63 (k0:=5) (k1:=6) (c0:=4) (x0:=D) ap F O) ?_)))
 rintro au _ bz Y G ⟨H,I,rfl,X,Z,av⟩
 have J:=G.s
 refine al 7 [.slice none 0 0, .slice none 0 0] fun b0 b2 a aw=>?_
 have K:=a.o
 refine sta aw (zaa (X.up a).oc (zaa (Z.up a).oc zaG)) fun b4 h ax=>?_
 have L:=h.s
 refine nl (sr (mp O (cr Y (fun _=>p64 (k0:=8) (c0:=4) (x0:=(Vm.l30Rd.mk D.b au.2)) ((av.up a).up h) (F.ul ((J.trans K).trans L)) O) ?_)))
 rintro ay B b5 Y i ⟨_,rfl,az,a0⟩
 have aa:=i.s
 refine Nv B O (Cw.seq (Cw.draw [4] [(0,1),(1,0),(2,0),(3,2),(4,3),(5,0),(6,3)] mixed (by kernel_rfl) fun b6 d=>?_))
 have ac:=d.o
 refine Mw.q O O (fun _ c=>R.lda (cs:=[H,I]) (((ax.up i).up d).clcs O c) O O) (Dv B O (Dp O ?_))
 obtain⟨N,a1,Y⟩:=ob Y
 refine Mw.t O O (T.call O (p65 (k0:=9) (c0:=4) (x0:=(Vm.l30Rd.mk D.b ay.2)) (a0.up d) (F.ul ((((J.trans K).trans L).trans aa).trans ac)) O a1)) ?_
 rintro _ _ ⟨b7,rfl,e,⟨ae,rfl,af,b8⟩⟩
 have a3:=(((((ar.trans J).trans K).trans L).trans aa).trans ac).t e
 have ah:=((((X.up a).up h).up i).up d).up e
 have ai:=((((Z.up a).up h).up i).up d).up e
 refine m0 e fun b9=>Mw.lu O (T.sta (vs:=[H,I]) ((((((((b1.up V).up E).up G).up a).up h).up i).up d).up e) O O (zaa ah.oc (zaa ai.oc zaG)) O O) ?_
 rintro _ _ ⟨cb,rfl,f,a5⟩
 have a6:=a3.t f
 refine Hv B O (Mw.lu O (T.sta (vs:=[vS N.1.Branch,vS N.1.Into,vS N.1.By,ae]) ((((((((b3.up E).up G).up a).up h).up i).up d).up e).up f) O O (zaa O (zaa O (zaa O (zaa (af.up f).oc zaG)))) O O) ?_)
 rintro _ _ ⟨cc,rfl,k,a7⟩
 have a8:=a6.t k
 refine Mw.nil ?_
 obtain⟨cd,a9,x,ba⟩:=((ah.up f).up k).dyeO 31
 have bb:=a8.t x
 obtain⟨ce,bc,y,be⟩:=(((ai.up f).up k).up x).dyeO 32
 have bg:=bb.t y
 obtain⟨cf,bh,z,bi⟩:=((((((az.up d).up e).up f).up k).up x).up y).dyeO 33
 have bj:=bg.t z
 obtain⟨cg,bk,A,bl⟩:=(((((af.up f).up k).up x).up y).up z).dyeO 34
 have bm:=bj.t A
 cases Y
 rw[<- bk.trans (bh.trans (bc.trans (a9)))]
 exact Cw.ret (zCo (zlE.c O (((((a5.up k).up x).up y).up z).up A) (zlE.t O (zlE.c O ((((a7.up x).up y).up z).up A) zlE.n))) (Res.mk bm ⟨H,I,B,ae,O,(((ba.up y).up z).up A).s,((be.up z).up A).s,(bi.up A).s,bl.s⟩))
theorem p26 {x0 h k0 k1 k2 k3 r}(i:Rd W K [h] x0)(Y:Vm.zet x0=some r):Q1 26 [h] W [] fun W' v=> ∃ a b d f,v = .tuple [.agg [a,b].toArray,d, .agg [vS r.2.2.Branch,vS r.2.2.Into,vS r.2.2.By,f].toArray].toArray/\Ow W' k0 [] [a] r.1.Commits/\Ow W' k1 [] [b] r.1.Heads/\Ow W' k2 [] [d] r.2.1/\Ow W' k3 [] [f] r.2.2.Yes:=
 zao.adJ (J:=[]) (fun c=>bif Nat.beq c 0 then 0 else bif Nat.beq c 31 then k0 else bif Nat.beq c 32 then k1 else bif Nat.beq c 33 then k2 else bif Nat.beq c 34 then k3 else 0) (c26 (i.view _) Y) fun _ _ ⟨a,b,d,f,e,k,x,y,z⟩=>⟨a,b,d,f,e,k.one1.backN O,x.one1.backN O,y.one1.backN O,z.one1.backN O⟩
theorem c29 {x0 b x1 e r}(d:Rd W0 [0] [b] x0)(f:Rd W0 [0] [e] x1)(Y:Vm.ziu x0 x1=some r):Q0 29 [b,e] W0 fun Wf v=>v=vB r:=by
 unfold Vm.ziu at Y
 refine zao.of Tryz.func29 O O O O (sr (Nb O (ssr (mv b O (Lw.ln x0 d O (mv e O (Lw.ln x1 f O (Lw.ne O (nl (cn Y (fun Y=>?_) fun Y=>?_))))))))))
 ·exact sr (Nb O (.ret (rt Y (Le.refl _ _))))
 ·refine sk (ssr (Ni O (Cw.block ?_)))
  obtain⟨B,C,Y⟩:=zaY Y
  refine Cw.loop 11 25 [4,5] (fun m l w=> ∃ h i k,CW.w k=w/\Le [] W0 k/\l=[vB h,vI i]/\Vm.ze3 x0 x1 B m h i=some r) _ ⟨false,0,W0,O,Le.refl _ _,O,Y⟩ ?_
  rintro(_ |E) _ _ σ ⟨h,i,k,rfl,A,rfl,Y⟩
  ·cases Y
  unfold Vm.ze3 at Y
  have x:=A.o
  refine ssr (mi O (mv b O (Lw.ln x0 (d.ul x) O (Lw.lt O (nl (cn Y (fun Y=>?_) fun Y=>?_))))))
  ·refine sk (Cw.seq (Cw.block (Cw.seq (Cw.draw [] [(0,0),(1,0),(2,0),(3,1),(4,0),(5,0),(6,0),(7,1),(8,0)] mixed (by kernel_rfl) fun D l10=>?_))))
   have a:=x.n l10
   refine Dv b O (Di O ?_)
   obtain⟨F,y,Y⟩:=ob Y
   refine Mw.p O O (fun _=>R.ix (α:=Str) (d.ul a) y O O O) (Mw.q O O (fun _ c=>R.ld O O (zaq ((d.ul a).at_ y).1 O ((d.ul a).at_ y).str c)) (Dv e O (Di O ?_)))
   obtain⟨G,z,Y⟩:=ob Y
   refine Mw.p O O (fun _=>R.ix (α:=Str) (f.ul a) z O O O) (Mw.q O O (fun _ c=>R.ld O O (zaq ((f.ul a).at_ z).1 O ((f.ul a).at_ z).str c)) (Mw.p O O (fun _=>R.sne O O) (Mw.nil (cn Y (fun Y=>?_) fun Y=>?_))))
   ·exact sr (Nb O (.ret (rt Y a)))
   ·exact sk (rg (mi O (Lw.add O (Ni O ((agm) ⟨h,w64 (i+1),D,O,(A.j l10).w,O,Y⟩)))))
  ·refine Cw.exit ?_
   rw[C]at Y
   exact sr (Nb O (.ret (rt Y x)))
theorem p29 {x0 a x1 b r}(d:Rd W K [a] x0)(f:Rd W K [b] x1)(Y:Vm.ziu x0 x1=some r):Q1 29 [a,b] W [] fun W' v=>v=vB r:=
 (c29 (d.view _) (f.view _) Y).ad (fk 0) fun _ _ e=>e
theorem c5 {x0 U r}(h0:Rd W0 [0] [U] x0)(aw:Gl 0 W0 [0])(Y:Vm.zgb x0=some r):Q0 5 [U] W0 fun Wf v=>v=vB r:=by
 unfold Vm.zgb at Y
 refine zao.of Tryz.func5 O O O O (sr (Nb O (ssr (mv U O (Lw.ln x0 h0 O (Lw.gt O (nl (cn Y (fun Y=>?_) fun Y=>?_))))))))
 ·exact sr (Nb O (.ret (rt Y (Le.refl _ _))))
 ·refine sk (sr (mv U O (cr Y (fun _=>p26 (k0:=2) (k1:=3) (k2:=4) (k3:=5) h0) ?_)))
  rintro a _ W4 Y l4 ⟨D,E,d,F,rfl,bm,bn,bp,bq⟩
  have a5:=l4.o
  refine mv (.tuple [.agg [D,E].toArray,d, .agg [vS a.2.2.Branch,vS a.2.2.Into,vS a.2.2.By,F].toArray].toArray) O (Lw.r O (R.ext (vs:=[.agg [D,E].toArray,d, .agg [vS a.2.2.Branch,vS a.2.2.Into,vS a.2.2.By,F].toArray]) (v:= .agg [D,E].toArray) O O) (Lw.r O (R.ext (vs:=[.agg [D,E].toArray,d, .agg [vS a.2.2.Branch,vS a.2.2.Into,vS a.2.2.By,F].toArray]) (v:=d) O O) (Lw.r O (R.ext (vs:=[.agg [D,E].toArray,d, .agg [vS a.2.2.Branch,vS a.2.2.Into,vS a.2.2.By,F].toArray]) (v:= .agg [vS a.2.2.Branch,vS a.2.2.Into,vS a.2.2.By,F].toArray) O O) (al 6 [.slice none 0 0, .slice none 0 0] fun g6 W6 G b6=>?_))))
  have a7:=a5.n G
  refine al 7 [vS ([]:Str),vS ([]:Str),vS ([]:Str), .slice none 0 0] fun c2 c3 z bw=>?_
  have bz:=a7.n z
  have ax:=(bm.up G).up z
  have ay:=(bn.up G).up z
  refine sta (b6.up z) (zaa ax.oc (zaa ay.oc zaG)) fun c4 A az=>?_
  have b0:=bz.t A
  have aa:=((bq.up G).up z).up A
  refine Gv d O (sta (bw.up A) (zaa O (zaa O (zaa O (zaa aa.oc zaG)))) fun c6 h ac=>?_)
  have a0:=b0.t h
  have ae:=(ax.up A).up h
  have af:=(ay.up A).up h
  have ah:=(((bp.up G).up z).up A).up h
  refine nl (sr (la (az.up h) (mv d O (la ac (cr Y (fun _=>p27 (K:=[0,2,3,4,5]) (k0:=8) (x0:=(Vm.Repo.mk a.1.Commits a.1.Heads)) (x2:=(Vm.Review.mk a.2.2.Branch a.2.2.Into a.2.2.By a.2.2.Yes)) ((Repo.rd (K:=[2,3]) a.1.Commits a.1.Heads (ae.rd.sub (M:=[2,3]) O) (af.rd.sub (M:=[2,3]) O)).sub (M:=[0,2,3,4,5]) O) (ah.rd.sub (M:=[0,2,3,4,5]) O) ((Review.rd (K:=[5]) a.2.2.Branch a.2.2.Into a.2.2.By a.2.2.Yes (aa.up h).rd).sub (M:=[0,2,3,4,5]) O) ((aw.ul a0).sub (M:=[0,2,3,4,5]) O)) ?_)))))
  rintro H _ c7 Y b ⟨k,rfl,a1⟩
  have b1:=a0.n b
  have a2:=(aa.up h).up b
  have a3:=(az.up h).up b
  refine mv (.tuple [k,vB H.2].toArray) O (Lw.r O (R.ext (vs:=[k,vB H.2]) (v:=k) O O) (Lw.r O (R.ext (vs:=[k,vB H.2]) (v:=vB H.2) O O) (Gv k O (Nb O (sr (la a3 (mv d O (la (ac.up b) (cr Y (fun _=>p28 (K:=[2,3,4,5]) (x0:=(Vm.Repo.mk a.1.Commits a.1.Heads)) (x2:=(Vm.Review.mk a.2.2.Branch a.2.2.Into a.2.2.By a.2.2.Yes)) ((Repo.rd (K:=[2,3]) a.1.Commits a.1.Heads ((ae.up b).rd.sub (M:=[2,3]) O) ((af.up b).rd.sub (M:=[2,3]) O)).sub (M:=[2,3,4,5]) O) ((ah.up b).rd.sub (M:=[2,3,4,5]) O) ((Review.rd (K:=[5]) a.2.2.Branch a.2.2.Into a.2.2.By a.2.2.Yes a2.rd).sub (M:=[2,3,4,5]) O)) ?_)))))))))
  rintro V _ a4 Y e ⟨x,rfl,b2⟩
  have a6:=b2.sub (M:=[0,2,3,4,5]) O
  have b3:=b1.n e
  refine mv (.tuple [x,vB V.2].toArray) O (Lw.r O (R.ext (vs:=[x,vB V.2]) (v:=x) O O) (Lw.r O (R.ext (vs:=[x,vB V.2]) (v:=vB V.2) O O) (Gv x O (Nb O (Cw.seq ?_)))))
  obtain⟨b4,b5,Y⟩:=zaY Y
  refine Cw.join 37 49 [49] (fun l w=> ∃ ai I,CW.w I=w/\Le [] a4 I/\l=[vB ai]/\b4 ai=some r) ?_ ?_
  ·rintro _ _ σ ⟨ai,I,rfl,f,rfl,Y⟩
   rw[b5]at Y
   have a8:=b3.n f
   refine cn Y (fun Y=>?_) fun Y=>?_
   ·obtain⟨b7,b8,Y⟩:=zaY Y
    refine Cw.join 50 57 [2] (fun l w=> ∃ aj ak,CW.w ak=w/\Le [] I ak/\l=[vB aj]/\b7 aj=some r) ?_ ?_
    ·rintro _ _ σ ⟨aj,ak,rfl,b9,rfl,Y⟩
     rw[b8]at Y
     have cb:=a8.n b9
     exact .ret (rt Y cb)
    ·refine rg (mb O (mb O (Lw.r O (R.beq O O) (mb O (bs Y (fun J Y=>?_) fun J Y=>?_)))))
     ·refine wak 3 J (mv k O (mv x O ?_))
      have cc:=a6.up (f.sub (M:=[]) O) O
      exact ca Y (fun _=>p29 (K:=[0,2,3,4,5,8]) (((a1.up e).up f).rd.sub (M:=[0,2,3,4,5,8]) O) (cc.sub (M:=[0,2,3,4,5,8]) O)) fun cd ce Y cf=>Pb J O (Nb O ((ag) ⟨cd,ce,O,cf,O,Y⟩))
     ·exact psk 3 J O (Pb J O (Nb O ((ag) ⟨false,I,O,Le.refl _ _,O,Y⟩)))
   ·refine sk (sr (Lw.t O (T.lit0 (α:=Owner) 9 []) ?_))
    rintro a9 _ ⟨ba,rfl,y,cg⟩
    have ch:=a8.n y
    refine Nv a9 O (ssr (Ni O (Cw.block ?_)))
    obtain⟨ci,cj,Y⟩:=zaY Y
    refine Cw.loop 59 75 [10,11] (fun m l w=> ∃ am W L X,CW.w X=w/\Le [9] ba X/\l=[L,vI W]/\Ow X 9 [] [L] am/\Vm.zcP a ci m am W=some r) _ ⟨([]:List Owner),0,a9,ba,O,Le.refl _ _,O,cg,Y⟩ ?_
    rintro(_ |c8) _ _ σ ⟨am,W,L,X,rfl,i,rfl,bb,Y⟩
    ·cases Y
    unfold Vm.zcP at Y
    have bc:=ch.t i
    have be:=((((ah.up b).up e).up f).up y).up i
    have bg:=((((ac.up b).up e).up f).up y).up i
    refine ssr (mi O (mv d O (Lw.ln a.2.1 be.rd O (Lw.lt O (nl (cn Y (fun Y=>?_) fun Y=>?_))))))
    ·refine sk (Cw.seq (Cw.block (Cw.draw [9] [(0,0),(1,0),(2,0),(3,0),(4,0),(5,1),(6,0),(7,1),(8,0),(9,3),(10,2),(11,0)] mixed (by kernel_rfl) fun c9 Z=>?_)))
     have an:=be.up Z
     refine Dv L O (Dv d O (Di O ?_))
     obtain⟨N,ao,Y⟩:=ob Y
     refine Mw.p O O (fun _=>R.ix (α:=Owner) an.rd ao O O O) (Df O (Mw.q O O (fun _ c=>R.ld O O (zaq (Owner.at0 (an.rd.at_ ao)).1 O (Owner.at0 (an.rd.at_ ao)).str c)) (Dfl (bg.up Z) O O O (Mw.p O O (fun _=>R.bd (zs:=[vS ([]:Str),vS ([]:Str)]) (cs:=[vS N.Path,vS a.2.2.By]) [(0,vS N.Path),(1,vS a.2.2.By)] O O O (zaA O O (zaA O O zc8))) (Mw.l O O (T.bs 10 [.agg [vS N.Path,vS a.2.2.By].toArray] (cs:=[vS N.Path,vS a.2.2.By]) O O (bsA O)) ?_)))))
     rintro _ _ ⟨da,db,rfl,rfl,ap,ck⟩
     obtain⟨cl,cm,Y⟩:=ob Y
     refine Mw.t O O (T.app1S (α:=Owner) (K':=[]) ((bb.up Z).up ap) ck (Owner.rd (K:=[]) N.Path a.2.2.By) O O cm) ?_
     rintro bh _ ⟨co,rfl,bi,cp⟩
     refine⟨⟨_,O,((ap.sub (M:=[9]) O).trans (bi.sub (M:=[9]) O))⟩,?_⟩
     exact Hv bh O (Mw.nil (rg (mi O (Lw.add O (Ni O ((agm) ⟨cl,w64 (W+1),bh,co,O,(((i.j Z).j ap).j bi).w,O,cp,Y⟩))))))
    ·refine Cw.exit ?_
     rw[cj]at Y
     refine sr (la ((((a3.up e).up f).up y).up i) (mv L O (la bg (cr Y (fun _=>p27 (K:=[0,2,3,5,9]) (k0:=11) (x0:=(Vm.Repo.mk a.1.Commits a.1.Heads)) (x2:=(Vm.Review.mk a.2.2.Branch a.2.2.Into a.2.2.By a.2.2.Yes)) ((Repo.rd (K:=[2,3]) a.1.Commits a.1.Heads ((((((ae.up b).up e).up f).up y).up i).rd.sub (M:=[2,3]) O) ((((((af.up b).up e).up f).up y).up i).rd.sub (M:=[2,3]) O)).sub (M:=[0,2,3,5,9]) O) (bb.rd.sub (M:=[0,2,3,5,9]) O) ((Review.rd (K:=[5]) a.2.2.Branch a.2.2.Into a.2.2.By a.2.2.Yes ((((a2.up e).up f).up y).up i).rd).sub (M:=[0,2,3,5,9]) O) ((aw.ul bc).sub (M:=[0,2,3,5,9]) O)) ?_))))
     rintro B _ aq Y cq ⟨C,rfl,ct⟩
     have cu:=bc.n cq
     refine mv (.tuple [C,vB B.2].toArray) O (Lw.r O (R.ext (vs:=[C,vB B.2]) (v:=C) O O) (Lw.r O (R.ext (vs:=[C,vB B.2]) (v:=vB B.2) O O) (Gv C O (Nb O ?_))))
     obtain⟨cv,cw,Y⟩:=zaY Y
     refine Cw.join 83 88 [2] (fun l w=> ∃ ar au,CW.w au=w/\Le [] aq au/\l=[vB ar]/\cv ar=some r) ?_ ?_
     ·rintro _ _ σ ⟨ar,au,rfl,cx,rfl,Y⟩
      rw[cw]at Y
      have cy:=cu.n cx
      exact .ret (rt Y cy)
     ·refine rg (mb O (mb O (bs Y (fun P Y=>?_) fun P Y=>?_)))
      ·exact wak 3 P (mv C O (Lw.ln B.1 ct.rd O (Lw.eq O (Pb P O (Nb O ((ag) ⟨((B.1.length:Int)==0),aq,O,Le.refl _ _,O,Y⟩))))))
      ·exact psk 3 P O (Pb P O (Nb O ((ag) ⟨false,aq,O,Le.refl _ _,O,Y⟩)))
  ·refine rg (mb O (mb O (Lw.r O (R.bne O O) (mb O (bs Y (fun Q Y=>?_) fun Q Y=>?_)))))
   ·exact psk 4 Q O (Pb Q O (mb O (psk 2 O O (Pb O O (nl ((ag) ⟨true,a4,O,Le.refl _ _,O,Y⟩))))))
   ·refine wak 4 Q (mv k O (mv x O (ca Y (fun _=>p29 (K:=[0,2,3,4,5,8]) ((a1.up e).rd.sub (M:=[0,2,3,4,5,8]) O) (a6.sub (M:=[0,2,3,4,5,8]) O)) fun dc bj Y bk=>Lw.r O (R.not O) (Pb Q O (mb O (bs Y (fun S Y=>?_) fun S Y=>?_))))))
    ·exact psk 2 S O (Pb S O (nl ((ag) ⟨true,bj,O,bk,O,Y⟩)))
    ·exact wak 2 S (mb O (Lw.r O (R.not O) (Pb S O (nl ((ag) ⟨(!H.2),bj,O,bk,O,Y⟩)))))
theorem p5 {x0 a r}(b:Rd W K [a] x0)(d:Gl 0 W K)(Y:Vm.zgb x0=some r):Q1 5 [a] W [] fun W' v=>v=vB r:=
 (c5 (b.view _) (d.view _) Y).ad (fk 0) fun _ _ e=>e
end Go.Sx
