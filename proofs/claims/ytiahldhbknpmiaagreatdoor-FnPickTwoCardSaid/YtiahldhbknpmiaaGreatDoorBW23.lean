/- Walks: each function answers as its model, printed by a program of ours. Conditions: the arguments read as they are given. -/
import Derived.Test.YtiahldhbknpmiaaGreatDoorBTs
import Derived.Test.YtiahldhbknpmiaaGreatDoorBM15
import Derived.Test.YtiahldhbknpmiaaGreatDoorBW10
import Derived.Test.YtiahldhbknpmiaaGreatDoorBW12
import Derived.Test.YtiahldhbknpmiaaGreatDoorBW16
import Derived.Test.YtiahldhbknpmiaaGreatDoorBW17
import Derived.Test.YtiahldhbknpmiaaGreatDoorBW5
namespace Go.Sx
open Go Go.Proofs Go.Vm Rp
set_option linter.unusedVariables false
set_option linter.unusedSimpArgs false
variable {W W0:CW}{K:List Nat}
theorem c10 {x0 aj r}(h0:Rd W0 [0] [aj] x0)(H:Gl 0 W0 [0])(Y:Vm.zkI x0=some r):Q0 10 [aj] W0 fun Wf v=>v=vB r:=by
 unfold Vm.zkI at Y
 refine zaY.of Tryz.func10 O O O O (sr (Nb O (ssr (mv aj O (Lw.ln x0 h0 O (Lw.gt O (nl (cn Y (fun Y=>?_) fun Y=>?_))))))))
 ·exact sr (Nb O (.ret (rt Y (Le.refl _ _))))
 ·refine sk (sr (mv aj O (cr Y (fun _=>p49 (k0:=2) (k1:=3) h0) ?_)))
  rintro b _ W4 Y l4 ⟨D,E,rfl,br,bu⟩
  have a5:=l4.o
  refine mv (.tuple [.agg [D,E].toArray,vS b.2.1,vS b.2.2.1,vI b.2.2.2].toArray) O (Lw.r O (R.ext (vs:=[.agg [D,E].toArray,vS b.2.1,vS b.2.2.1,vI b.2.2.2]) (v:= .agg [D,E].toArray) O O) (Lw.r O (R.ext (vs:=[.agg [D,E].toArray,vS b.2.1,vS b.2.2.1,vI b.2.2.2]) (v:=vS b.2.1) O O) (Lw.r O (R.ext (vs:=[.agg [D,E].toArray,vS b.2.1,vS b.2.2.1,vI b.2.2.2]) (v:=vS b.2.2.1) O O) (Lw.r O (R.ext (vs:=[.agg [D,E].toArray,vS b.2.1,vS b.2.2.1,vI b.2.2.2]) (v:=vI b.2.2.2) O O) (al 4 [.slice none 0 0, .slice none 0 0] fun g6 W6 U b6=>?_)))))
  have a7:=a5.n U
  refine sta b6 (zai (br.up U).oc (zai (bu.up U).oc zbt)) fun ex l10 bv=>?_
  have bw:=a7.t l10
  have bz:=(br.up U).up l10
  have b0:=(bu.up U).up l10
  refine Gs O (Gs O (Ni O (sr (la bv (ms O (ms O (mi O (cr Y (fun _=>p23 (K:=[0,2,3]) (k0:=5) (k1:=6) (x0:=(Vm.Repo.mk b.1.Commits b.1.Heads)) ((Repo.rd (K:=[2,3]) b.1.Commits b.1.Heads (bz.rd.sub (M:=[2,3]) O) (b0.rd.sub (M:=[2,3]) O)).sub (M:=[0,2,3]) O) ((H.ul bw).sub (M:=[0,2,3]) O)) ?_))))))))
  rintro f _ ey Y ak ⟨k,x,rfl,b1,b2⟩
  have c3:=bw.n ak
  refine mv (.tuple [.agg [k,x].toArray,vI f.2].toArray) O (Lw.r O (R.ext (vs:=[.agg [k,x].toArray,vI f.2]) (v:= .agg [k,x].toArray) O O) (Lw.r O (R.ext (vs:=[.agg [k,x].toArray,vI f.2]) (v:=vI f.2) O O) (al 7 [.slice none 0 0, .slice none 0 0] fun ez e0 F c4=>?_)))
  have c5:=c3.n F
  refine sta c4 (zai (b1.up F).oc (zai (b2.up F).oc zbt)) fun e1 P c6=>?_
  have c7:=c5.t P
  have b3:=((bz.up ak).up F).up P
  have b4:=((b0.up ak).up F).up P
  have b5:=((bv.up ak).up F).up P
  refine Ni O (sr (la b5 (ms O (ms O (mi O (cr Y (fun _=>p22 (K:=[2,3]) (x0:=(Vm.Repo.mk b.1.Commits b.1.Heads)) (Repo.rd (K:=[2,3]) b.1.Commits b.1.Heads (b3.rd.sub (M:=[2,3]) O) (b4.rd.sub (M:=[2,3]) O))) ?_))))))
  rintro G _ e2 Y I ⟨am,an,rfl,c8,c9⟩
  have au:=c8.sub (M:=[0,2,3]) O
  have av:=c9.sub (M:=[0,2,3]) O
  have da:=c7.n I
  refine mv (.tuple [.agg [am,an].toArray,vI G.2].toArray) O (Lw.r O (R.ext (vs:=[.agg [am,an].toArray,vI G.2]) (v:= .agg [am,an].toArray) O O) (Lw.r O (R.ext (vs:=[.agg [am,an].toArray,vI G.2]) (v:=vI G.2) O O) (al 8 [.slice none 0 0, .slice none 0 0] fun e3 e4 y db=>?_)))
  have dc:=da.n y
  refine sta db (zai au.oc (zai av.oc zbt)) fun b7 z b8=>?_
  have dd:=dc.t z
  have aw:=((((b1.up F).up P).up I).up y).up z
  have ax:=((((b2.up F).up P).up I).up y).up z
  have ay:=((c6.up I).up y).up z
  refine Ni O (Cw.seq ?_)
  obtain⟨de,df,Y⟩:=zdY Y
  refine Cw.join 43 55 [55] (fun l w=> ∃ az V,CW.w V=w/\Le [] b7 V/\l=[vB az]/\de az=some r) ?_ ?_
  ·rintro _ _ σ ⟨az,V,rfl,i,rfl,Y⟩
   rw[df]at Y
   have b9:=dd.n i
   refine cn Y (fun Y=>?_) fun Y=>?_
   ·obtain⟨dg,dh,Y⟩:=zdY Y
    refine Cw.join 56 63 [2] (fun l w=> ∃ a0 a1,CW.w a1=w/\Le [] V a1/\l=[vB a0]/\dg a0=some r) ?_ ?_
    ·rintro _ _ σ ⟨a0,a1,rfl,di,rfl,Y⟩
     rw[dh]at Y
     have dj:=b9.n di
     exact .ret (rt Y dj)
    ·refine rg (mi O (mi O (Lw.eq O (mb O (bs Y (fun X Y=>?_) fun X Y=>?_)))))
     ·refine wak 3 X (la (ay.up i) (la (b8.up i) ?_))
      have dk:=au.up ((y.sub (M:=[8]) O).trans ((z.sub (M:=[8]) O).trans (i.sub (M:=[8]) O))) O
      have dl:=av.up ((y.sub (M:=[8]) O).trans ((z.sub (M:=[8]) O).trans (i.sub (M:=[8]) O))) O
      exact ca Y (fun _=>p42 (K:=[0,2,3,5,6]) (x0:=(Vm.Repo.mk f.1.Commits f.1.Heads)) ((Repo.rd (K:=[5,6]) f.1.Commits f.1.Heads ((aw.up i).rd.sub (M:=[5,6]) O) ((ax.up i).rd.sub (M:=[5,6]) O)).sub (M:=[0,2,3,5,6]) O) ((Repo.rd (K:=[0,2,3]) G.1.Commits G.1.Heads dk dl).sub (M:=[0,2,3,5,6]) O)) fun dm dn Y dp=>Pb X O (Nb O ((ag) ⟨dm,dn,O,dp,O,Y⟩))
     ·exact psk 3 X O (Pb X O (Nb O ((ag) ⟨false,V,O,Le.refl _ _,O,Y⟩)))
   ·refine sk (Cw.seq ?_)
    obtain⟨Z,dq,Y⟩:=ob Y
    obtain⟨a,dr,Y⟩:=ob Y
    refine Cw.par [[],[],[],[],[],[3,4],[0,1,2,3,4,5],[0,1,2,3,4,5,6],[0,1,2,3,4,5,6,7],[0,1,2,3,4,5,6,7],[],[0,1,2,3,4,5,6,7,8,10],[0,1,2,3,4,5,6,7,8,9,10,11]] [[],[],[],[],[],[3,4],[0,1,2,5],[6],[6,7],[6,7],[],[6,8,10],[9]] [[],[],[],[],[],[],[],[],[],[],[],[11],[]] [[0],[1],[2],[3],[4],[5],[6],[6,7],[6,8],[9],[10],[6,10],[12]] [[],[],[],[],[],[],[9,10],[],[],[],[11],[11],[]] [0,1,2,3,4,5,6,7,8,9,11,12] [11] [fun vs W=>(vs 0) = .agg [k,x].toArray,fun vs W=>(vs 1)=vS b.2.1,fun vs W=>(vs 2)=vS b.2.2.1,fun vs W=>(vs 3) = .agg [k,x].toArray,fun vs W=>(vs 4)=vS b.2.1,fun vs W=>(vs 5)=vI Z,fun vs W=>(vs 6) = .tuple [.agg [(zaZ (zaZ (vs 6) 0) 0),(zaZ (zaZ (vs 6) 0) 1)].toArray,vI a.2].toArray/\Ow W 9 [] [(zaZ (zaZ (vs 6) 0) 0)] a.1.Commits/\Ow W 10 [] [(zaZ (zaZ (vs 6) 0) 1)] a.1.Heads,fun vs W=>(vs 7) = .tuple [.agg [(zaZ (zaZ (vs 6) 0) 0),(zaZ (zaZ (vs 6) 0) 1)].toArray,vI a.2].toArray,fun vs W=>(vs 8) = .agg [(zaZ (zaZ (vs 6) 0) 0),(zaZ (zaZ (vs 6) 0) 1)].toArray,fun vs W=>(vs 9)=vI a.2,fun vs W=>(vs 10)=ptr (bx (pg (vs 10)))/\Bx W 11 (pg (vs 10)) [.slice none 0 0, .slice none 0 0],fun vs W=>(vs 10)=ptr (bx (pg (vs 10)))/\Bx W 11 (pg (vs 10)) [(zaZ (zaZ (vs 6) 0) 0),(zaZ (zaZ (vs 6) 0) 1)],fun vs W=>(vs 12)=vI a.2] [] mixed (by kernel_rfl) O zqt.nil ?_
    intro e5 J
    have a2:=b9.n J
    have cb:=(aw.up i).up J
    have cc:=(ax.up i).up J
    have cd:=(ay.up i).up J
    refine⟨(zcI.cons ?_ (zcI.cons ?_ (zcI.cons ?_ (zcI.cons ?_ (zcI.cons ?_ (zcI.cons ?_ (zcI.cons ?_ (zcI.cons ?_ (zcI.cons ?_ (zcI.cons ?_ (zcI.cons ?_ (zcI.cons ?_ (zcI.cons ?_ zcI.nil))))))))))))),(zha.cons SE (zha.cons SE (zha.cons SE (zha.cons SE (zha.cons SE (zha.cons SE (zha.cons (fun vs vs' W W' _ hv l hd h=>by(show(vs' 6) = .tuple [.agg [(zaZ (zaZ (vs' 6) 0) 0),(zaZ (zaZ (vs' 6) 0) 1)].toArray,vI a.2].toArray/\Ow W' 9 [] [(zaZ (zaZ (vs' 6) 0) 0)] a.1.Commits/\Ow W' 10 [] [(zaZ (zaZ (vs' 6) 0) 1)] a.1.Heads);rw[hv 6 (zbB O)];exact⟨h.1,h.2.1.upv l (zgD hd (c:=9) O),h.2.2.upv l (zgD hd (c:=10) O)⟩) (zha.cons (fun vs vs' W W' _ hv l hd h=>by(show(vs' 7) = .tuple [.agg [(zaZ (zaZ (vs' 6) 0) 0),(zaZ (zaZ (vs' 6) 0) 1)].toArray,vI a.2].toArray);rw[hv 6 (zbB O),hv 7 (zbB O)];exact h) (zha.cons (fun vs vs' W W' _ hv l hd h=>by(show(vs' 8) = .agg [(zaZ (zaZ (vs' 6) 0) 0),(zaZ (zaZ (vs' 6) 0) 1)].toArray);rw[hv 6 (zbB O),hv 8 (zbB O)];exact h) (zha.cons SE (zha.cons (fun vs vs' W W' _ hv l hd h=>by(show(vs' 10)=ptr (bx (pg (vs' 10)))/\Bx W' 11 (pg (vs' 10)) [.slice none 0 0, .slice none 0 0]);rw[hv 10 (zbB O)];exact⟨h.1,h.2.up l (zgD hd (c:=11) O)⟩) (zha.cons (fun vs vs' W W' _ hv l hd h=>by(show(vs' 10)=ptr (bx (pg (vs' 10)))/\Bx W' 11 (pg (vs' 10)) [(zaZ (zaZ (vs' 6) 0) 0),(zaZ (zaZ (vs' 6) 0) 1)]);rw[hv 6 (zbB O),hv 10 (zbB O)];exact⟨h.1,h.2.up l (zgD hd (c:=11) O)⟩) (zha.cons SE zha.nil))))))))))))),?_⟩
    ·intro vs e6 lW hN hV
     exact Trq (R.lda (cs:=[k,x]) (cd.up lW O).cells O O) O
    ·intro vs e7 lW hN hV
     exact Trq (R.mv (v:=vS b.2.1) O) O
    ·intro vs e8 lW hN hV
     exact Trq (R.mv (v:=vS b.2.2.1) O) O
    ·intro vs e9 lW hN hV
     exact Trq (R.lda (cs:=[k,x]) (cd.up lW O).cells O O) O
    ·intro vs fb lW hN hV
     exact Trq (R.mv (v:=vS b.2.1) O) O
    ·intro vs fc lW hN hV
     have ds:=a2.t lW O
     have a3:vs 3 = .agg [k,x].toArray:=(hN 3 (zbB O))
     obtain⟨vs,rfl⟩:=za2 a3
     have a4:vs 4=vS b.2.1:=(hN 4 (zbB O))
     obtain⟨vs,rfl⟩:=za2 a4
     refine Tr.mono (T.call O (p44 (K:=[0,5,6]) (x0:=(Vm.Repo.mk f.1.Commits f.1.Heads)) ((Repo.rd (K:=[5,6]) f.1.Commits f.1.Heads ((cb.up lW O).rd.sub (M:=[5,6]) O) ((cc.up lW O).rd.sub (M:=[5,6]) O)).sub (M:=[0,5,6]) O) ((H.ul ds).sub (M:=[0,5,6]) O) dq)) ?_
     rintro _ _ ⟨dt,rfl,du,rfl⟩
     exact⟨dt,O,du,(show(vI Z:Value)=vI Z from O)⟩
    ·intro vs fd lW hN hV
     have dv:=a2.t lW O
     have a6:vs 0 = .agg [k,x].toArray:=(hN 0 (zbB O))
     obtain⟨vs,rfl⟩:=za2 a6
     have a8:vs 1=vS b.2.1:=(hN 1 (zbB O))
     obtain⟨vs,rfl⟩:=za2 a8
     have a9:vs 2=vS b.2.2.1:=(hN 2 (zbB O))
     obtain⟨vs,rfl⟩:=za2 a9
     have ba:vs 5=vI Z:=(hN 5 (zbB O))
     obtain⟨vs,rfl⟩:=za2 ba
     refine Tr.mono (T.call O (p18 (K:=[0,5,6]) (k0:=9) (k1:=10) (x0:=(Vm.Repo.mk f.1.Commits f.1.Heads)) ((Repo.rd (K:=[5,6]) f.1.Commits f.1.Heads ((cb.up lW O).rd.sub (M:=[5,6]) O) ((cc.up lW O).rd.sub (M:=[5,6]) O)).sub (M:=[0,5,6]) O) ((H.ul dv).sub (M:=[0,5,6]) O) dr)) ?_
     rintro _ _ ⟨bb,rfl,dw,⟨bc,be,rfl,dx,dy⟩⟩
     exact⟨bb,O,dw,(show(.tuple [.agg [bc,be].toArray,vI a.2].toArray:Value) = .tuple [.agg [bc,be].toArray,vI a.2].toArray/\Ow bb 9 [] [bc] a.1.Commits/\Ow bb 10 [] [be] a.1.Heads from⟨O,dx,dy⟩)⟩
    ·intro vs ce lW hN hV
     obtain⟨d,e,B⟩: ∃ d e:Value,vs 6 = .tuple [.agg [d,e].toArray,vI a.2].toArray:=⟨_,_,(hN 6 (zbB O)).1⟩
     obtain⟨vs,rfl⟩:=za2 B
     have fe:Ow ce 9 [] [d] a.1.Commits:=(hN 6 (zbB O)).2.1
     have ff:Ow ce 10 [] [e] a.1.Heads:=(hN 6 (zbB O)).2.2
     exact Trq (R.mv (v:= .tuple [Value.agg [d,e].toArray,vI a.2].toArray) O) O
    ·intro vs cf lW hN hV
     obtain⟨d,e,B⟩: ∃ d e:Value,vs 6 = .tuple [.agg [d,e].toArray,vI a.2].toArray:=⟨_,_,(hN 6 (zbB O)).1⟩
     obtain⟨vs,rfl⟩:=za2 B
     have fg:Ow cf 9 [] [d] a.1.Commits:=(hN 6 (zbB O)).2.1
     have fh:Ow cf 10 [] [e] a.1.Heads:=(hN 6 (zbB O)).2.2
     have aa:vs 7 = .tuple [.agg [d,e].toArray,vI a.2].toArray:=(hN 7 (zbB O))
     obtain⟨vs,rfl⟩:=za2 aa
     exact Trq (R.ext (vs:=[Value.agg [d,e].toArray,vI a.2]) (v:= .agg [d,e].toArray) O O) O
    ·intro vs cg lW hN hV
     obtain⟨d,e,B⟩: ∃ d e:Value,vs 6 = .tuple [.agg [d,e].toArray,vI a.2].toArray:=⟨_,_,(hN 6 (zbB O)).1⟩
     obtain⟨vs,rfl⟩:=za2 B
     have fi:Ow cg 9 [] [d] a.1.Commits:=(hN 6 (zbB O)).2.1
     have fj:Ow cg 10 [] [e] a.1.Heads:=(hN 6 (zbB O)).2.2
     have aa:vs 7 = .tuple [.agg [d,e].toArray,vI a.2].toArray:=(hN 7 (zbB O))
     obtain⟨vs,rfl⟩:=za2 aa
     exact Trq (R.ext (vs:=[Value.agg [d,e].toArray,vI a.2]) (v:=vI a.2) O O) O
    ·intro vs fm lW hN hV
     refine Tr.mono (T.alloc 11 (cs:=[.slice none 0 0, .slice none 0 0]) O) ?_
     rintro _ _ ⟨bg,ch,rfl,rfl,dz,d0⟩
     exact⟨ch,O,dz,(show(ptr (bx bg):Value)=ptr (bx bg)/\Bx ch 11 bg [.slice none 0 0, .slice none 0 0] from⟨O,d0⟩)⟩
    ·intro vs bh lW hN hV
     obtain⟨d,e,B⟩: ∃ d e:Value,vs 6 = .tuple [.agg [d,e].toArray,vI a.2].toArray:=⟨_,_,(hN 6 (zbB O)).1⟩
     obtain⟨vs,rfl⟩:=za2 B
     have d1:Ow bh 9 [] [d] a.1.Commits:=(hN 6 (zbB O)).2.1
     have d2:Ow bh 10 [] [e] a.1.Heads:=(hN 6 (zbB O)).2.2
     have bi:vs 8 = .agg [d,e].toArray:=(hN 8 (zbB O))
     obtain⟨vs,rfl⟩:=za2 bi
     obtain⟨A,bj⟩: ∃ A,vs 10=ptr (bx A):=⟨_,((hN 10 (zbB O))).1⟩
     obtain⟨vs,rfl⟩:=za2 bj
     have d3:Bx bh 11 A [.slice none 0 0, .slice none 0 0]:=(hN 10 (zbB O)).2
     refine Tr.mono (T.sta (vs:=[d,e]) d3 O O (zai d1.oc (zai d2.oc zbt)) O O) ?_
     rintro _ _ ⟨ci,rfl,d4,d5⟩
     exact⟨ci,O,d4,(show(ptr (bx A))=ptr (bx A)/\Bx ci 11 A [d,e] from⟨O,d5⟩)⟩
    ·intro vs fn lW hN hV
     have bk:vs 9=vI a.2:=(hN 9 (zbB O))
     obtain⟨vs,rfl⟩:=za2 bk
     exact Trq (R.as (v:=vI a.2) O) O
    ·intro vs bl ao hN
     have d6:=a2.t ao
     have a6:vs 0 = .agg [k,x].toArray:=(hN 0 (zbB O))
     obtain⟨vs,rfl⟩:=za2 a6
     have a8:vs 1=vS b.2.1:=(hN 1 (zbB O))
     obtain⟨vs,rfl⟩:=za2 a8
     have a9:vs 2=vS b.2.2.1:=(hN 2 (zbB O))
     obtain⟨vs,rfl⟩:=za2 a9
     have a3:vs 3 = .agg [k,x].toArray:=(hN 3 (zbB O))
     obtain⟨vs,rfl⟩:=za2 a3
     have a4:vs 4=vS b.2.1:=(hN 4 (zbB O))
     obtain⟨vs,rfl⟩:=za2 a4
     have ba:vs 5=vI Z:=(hN 5 (zbB O))
     obtain⟨vs,rfl⟩:=za2 ba
     obtain⟨d,e,B⟩: ∃ d e:Value,vs 6 = .tuple [.agg [d,e].toArray,vI a.2].toArray:=⟨_,_,(hN 6 (zbB O)).1⟩
     obtain⟨vs,rfl⟩:=za2 B
     have d7:Ow bl 9 [] [d] a.1.Commits:=(hN 6 (zbB O)).2.1
     have d8:Ow bl 10 [] [e] a.1.Heads:=(hN 6 (zbB O)).2.2
     have aa:vs 7 = .tuple [.agg [d,e].toArray,vI a.2].toArray:=(hN 7 (zbB O))
     obtain⟨vs,rfl⟩:=za2 aa
     have bi:vs 8 = .agg [d,e].toArray:=(hN 8 (zbB O))
     obtain⟨vs,rfl⟩:=za2 bi
     have bk:vs 9=vI a.2:=(hN 9 (zbB O))
     obtain⟨vs,rfl⟩:=za2 bk
     obtain⟨A,bj⟩: ∃ A,vs 10=ptr (bx A):=⟨_,(hN 11 (zbB O)).1⟩
     obtain⟨vs,rfl⟩:=za2 bj
     have d9:Bx bl 11 A [d,e]:=(hN 11 (zbB O)).2
     have ea:vs 12=vI a.2:=(hN 12 (zbB O))
     obtain⟨vs,rfl⟩:=za2 ea
     refine Cw.seq (Cw.draw [] [(0,1),(1,1),(2,0),(3,2),(4,3),(5,0),(6,0),(7,0),(8,0),(9,0)] mixed (by kernel_rfl) fun fo L=>?_)
     have cj:=d6.n L
     have ck:=((((((b3.up I).up y).up z).up i).up J).up ao).up L
     have cl:=((((((b4.up I).up y).up z).up i).up J).up ao).up L
     have cm:=((((((b5.up I).up y).up z).up i).up J).up ao).up L
     refine Mw.q O O (fun _ c=>R.lda (cs:=[D,E]) (cm.clcs O c) O O) (Mw.q O O (fun _ c=>R.lda (cs:=[D,E]) (cm.clcs O c) O O) (Ds O ?_))
     obtain⟨fp,eb,Y⟩:=ob Y
     refine Mw.t O O (T.call O (p44 (K:=[0,2,3]) (x0:=(Vm.Repo.mk b.1.Commits b.1.Heads)) ((Repo.rd (K:=[2,3]) b.1.Commits b.1.Heads (ck.rd.sub (M:=[2,3]) O) (cl.rd.sub (M:=[2,3]) O)).sub (M:=[0,2,3]) O) ((H.ul cj).sub (M:=[0,2,3]) O) eb)) ?_
     rintro _ _ ⟨fq,rfl,N,rfl⟩
     have co:=cj.n N
     refine m0 N fun fr=>?_
     obtain⟨ap,ec,Y⟩:=ob Y
     refine Mw.l O O (T.call O (p45 (K:=[0,2,3]) (k0:=12) (x0:=(Vm.Repo.mk b.1.Commits b.1.Heads)) ((Repo.rd (K:=[2,3]) b.1.Commits b.1.Heads ((ck.up N).rd.sub (M:=[2,3]) O) ((cl.up N).rd.sub (M:=[2,3]) O)).sub (M:=[0,2,3]) O) ((H.ul co).sub (M:=[0,2,3]) O) ec)) ?_
     rintro _ _ ⟨fs,rfl,aq,⟨Q,rfl,ed⟩⟩
     have ee:=co.n aq
     refine Dv (.tuple [Q,vB ap.2].toArray) O (Mw.p O O (fun _=>R.ext (vs:=[Q,vB ap.2]) (v:=Q) O O) (Mw.p O O (fun _=>R.ext (vs:=[Q,vB ap.2]) (v:=vB ap.2) O O) (Hv Q O (Hb O (Mw.nil (Cw.seq (Cw.draw [] [(0,1),(1,1),(2,0),(3,2),(4,3),(5,0),(6,0),(7,0),(8,0),(9,0)] mixed (by kernel_rfl) fun ft ac=>?_)))))))
     have cp:=ee.n ac
     have cq:=(((d7.up L).up N).up aq).up ac
     have ct:=(((d8.up L).up N).up aq).up ac
     have cu:=(((d9.up L).up N).up aq).up ac
     refine Mw.q O O (fun _ c=>R.lda (cs:=[d,e]) (cu.clcs O c) O O) (Mw.q O O (fun _ c=>R.lda (cs:=[d,e]) (cu.clcs O c) O O) (Ds O ?_))
     obtain⟨fu,ef,Y⟩:=ob Y
     refine Mw.t O O (T.call O (p44 (K:=[0,9,10]) (x0:=(Vm.Repo.mk a.1.Commits a.1.Heads)) ((Repo.rd (K:=[9,10]) a.1.Commits a.1.Heads (cq.rd.sub (M:=[9,10]) O) (ct.rd.sub (M:=[9,10]) O)).sub (M:=[0,9,10]) O) ((H.ul cp).sub (M:=[0,9,10]) O) ef)) ?_
     rintro _ _ ⟨fv,rfl,ae,rfl⟩
     have cv:=cp.n ae
     refine m0 ae fun fw=>?_
     obtain⟨ar,eg,Y⟩:=ob Y
     refine Mw.l O O (T.call O (p45 (K:=[0,9,10]) (k0:=13) (x0:=(Vm.Repo.mk a.1.Commits a.1.Heads)) ((Repo.rd (K:=[9,10]) a.1.Commits a.1.Heads ((cq.up ae).rd.sub (M:=[9,10]) O) ((ct.up ae).rd.sub (M:=[9,10]) O)).sub (M:=[0,9,10]) O) ((H.ul cv).sub (M:=[0,9,10]) O) eg)) ?_
     rintro _ _ ⟨bm,rfl,cw,⟨S,rfl,eh⟩⟩
     have ei:=cv.n cw
     refine Dv (.tuple [S,vB ar.2].toArray) O (Mw.p O O (fun _=>R.ext (vs:=[S,vB ar.2]) (v:=S) O O) (Mw.p O O (fun _=>R.ext (vs:=[S,vB ar.2]) (v:=vB ar.2) O O) (Hv S O (Hb O (Mw.nil ?_)))))
     obtain⟨ej,ek,Y⟩:=zdY Y
     refine Cw.join 90 100 [2] (fun l w=> ∃ bn bp,CW.w bp=w/\Le [] bm bp/\l=[vB bn]/\ej bn=some r) ?_ ?_
     ·rintro _ _ σ ⟨bn,bp,rfl,el,rfl,Y⟩
      rw[ek]at Y
      have em:=ei.n el
      exact .ret (rt Y em)
     ·refine rg (mi O (Lw.eq O (mb O (bs Y (fun C Y=>?_) fun C Y=>?_))))
      ·exact psk 3 C O (puk 3 O (psk 1 C O (Pb C O (Nb O ((ag) ⟨true,bm,O,Le.refl _ _,O,Y⟩)))))
      ·refine wak 3 C (mi O (Lw.eq O (mb O (bs Y (fun af Y=>?_) fun af Y=>?_))))
       ·exact wak 3 af (mv S O (mv Q O (ca Y (fun _=>p48 (K:=[12,13]) (eh.rd.sub (M:=[12,13]) O) ((((ed.up ac).up ae).up cw).rd.sub (M:=[12,13]) O)) fun en eo Y ep=>wak 1 C (Pb af O (Pb C O (Nb O ((ag) ⟨en,eo,O,ep,O,Y⟩)))))))
       ·exact psk 3 af O (wak 1 C (Pb af O (Pb C O (Nb O ((ag) ⟨false,bm,O,Le.refl _ _,O,Y⟩)))))
  ·refine rg (mi O (mi O (Lw.ne O (mb O (bs Y (fun ah Y=>?_) fun ah Y=>?_)))))
   ·exact psk 4 ah O (Pb ah O (mb O (psk 2 O O (Pb O O (nl ((ag) ⟨true,b7,O,Le.refl _ _,O,Y⟩))))))
   ·refine wak 4 ah (la ay (la b8 ?_))
    have er:=au.up ((y.sub (M:=[8]) O).trans (z.sub (M:=[8]) O)) O
    have es:=av.up ((y.sub (M:=[8]) O).trans (z.sub (M:=[8]) O)) O
    refine ca Y (fun _=>p42 (K:=[0,2,3,5,6]) (x0:=(Vm.Repo.mk f.1.Commits f.1.Heads)) ((Repo.rd (K:=[5,6]) f.1.Commits f.1.Heads (aw.rd.sub (M:=[5,6]) O) (ax.rd.sub (M:=[5,6]) O)).sub (M:=[0,2,3,5,6]) O) ((Repo.rd (K:=[0,2,3]) G.1.Commits G.1.Heads er es).sub (M:=[0,2,3,5,6]) O)) fun fx cx Y cy=>Lw.r O (R.not O) (Pb ah O (mb O (bs Y (fun ai Y=>?_) fun ai Y=>?_)))
    ·exact psk 2 ai O (Pb ai O (nl ((ag) ⟨true,cx,O,cy,O,Y⟩)))
    ·exact wak 2 ai (mi O (Lw.ne O (Pb ai O (nl ((ag) ⟨(f.2 !=0),cx,O,cy,O,Y⟩)))))
theorem p10 {x0 a r}(b:Rd W K [a] x0)(d:Gl 0 W K)(Y:Vm.zkI x0=some r):Q1 10 [a] W [] fun W' v=>v=vB r:=
 (c10 (b.view _) (d.view _) Y).ad (fk 0) fun _ _ e=>e
end Go.Sx
