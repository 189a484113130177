/- Walks: each function answers as its model, printed by a program of ours. Conditions: the arguments read as they are given. -/
import Derived.Test.YtifbmanldeabeaaGreatDoorGTs
import Derived.Test.YtifbmanldeabeaaGreatDoorGM3
import Derived.Test.YtifbmanldeabeaaGreatDoorGW12
import Derived.Test.YtifbmanldeabeaaGreatDoorGW14
import Derived.Test.YtifbmanldeabeaaGreatDoorGW15
namespace Go.Sx
open Go Go.Proofs Go.Vm Rp
set_option linter.unusedVariables false
set_option linter.unusedSimpArgs false
variable {W W0:CW}{K:List Nat}
theorem c3 {x0 am an x1 ah x2 ao r}(h0:Rd W0 [0] [am,an] x0)(h1:Rd W0 [0] [ah] x1)(h2:Rd W0 [0] [vS x2.Branch,vS x2.Into,vS x2.By,ao] x2)(dl:Gl 0 W0 [0])(Y:Vm.zea x0 x1 x2=some r):Q0 3 [.agg [am,an].toArray,ah, .agg [vS x2.Branch,vS x2.Into,vS x2.By,ao].toArray] W0 fun Wf v=>v=vB r:=by
 unfold Vm.zea at Y
 obtain⟨ja,jb,dm,bj,bk⟩:=Repo.split h0
 simp only[List.cons.injEq,and_true,true_and]at dm
 obtain⟨rfl,rfl⟩:=dm
 obtain⟨jc,dn,bl⟩:=Review.split h2
 simp only[List.cons.injEq,and_true,true_and]at dn
 obtain rfl:=dn
 refine zao.of Tryz.func3 O O O O (sr (bo 2 O fun g1 W1 l1 b1=>?_))
 have a2:=l1.o
 refine bo 3 O fun g3 W3 l3 b3=>?_
 have a4:=a2.n l3
 refine Nb O (sr (Ni O (sr (la (b1.up l3) (mi O (ca Y (fun _=>p6 (Repo.rd (K:=[0]) x0.Commits x0.Heads (bj.ul a4) (bk.ul a4))) fun z8 ji Y l10=>?_))))))
 have cd:=a4.n l10
 refine Ni O (ssr (mi O (Lw.lt O (nl (cn Y (fun Y=>?_) fun Y=>?_)))))
 ·exact sr (Nb O (.ret (rt Y cd)))
 ·refine sk (sr (mv ah O (mi O (ca Y (fun _=>p7 (h1.ul cd)) fun jj jk Y ce=>?_))))
  have cf:=cd.n ce
  have dq:=(b3.up l10).up ce
  refine Ni O (ssr (mi O (Lw.lt O (nl (cn Y (fun Y=>?_) fun Y=>?_)))))
  ·exact sr (Nb O (.ret (rt Y cf)))
  ·refine sk (sr (la dq (mi O (ca Y (fun _=>p8 (Review.rd (K:=[0]) x2.Branch x2.Into x2.By x2.Yes (bl.ul cf))) fun jl jm Y cg=>?_))))
   have dr:=cf.n cg
   refine Ni O (ssr (mi O (Lw.lt O (nl (cn Y (fun Y=>?_) fun Y=>?_)))))
   ·exact sr (Nb O (.ret (rt Y dr)))
   ·refine sk (Cw.seq ?_)
    obtain⟨Z,fs,Y⟩:=ob Y
    obtain⟨bu,ft,Y⟩:=ob Y
    obtain⟨f,fu,Y⟩:=ob Y
    obtain⟨d,fv,Y⟩:=ob Y
    refine Cw.par [[],[0],[],[0,1,2],[],[0,1,2,3,4],[0,1,2,3,4,5],[0,1,2,3,4,5,6],[0,1,2,3,4,5,6,7],[0,1,2,3,4,5,6,7],[],[0,1,2,3,4,5,6,7,8,10],[0,1,2,3,4,5,6,7,8,9,10,11]] [[],[0],[],[2],[],[4],[1,3,5],[6],[6,7],[6,7],[],[6,8,10],[9]] [[],[],[],[],[],[],[],[],[],[],[],[8],[]] [[0],[1],[2],[3],[4],[5],[6],[6,7],[6,8],[9],[10],[6,10],[12]] [[],[4,5],[],[6],[],[7],[0,4,5,6,7],[],[],[],[8],[8],[]] [0,1,2,3,4,5,6,7,8,9,11,12] [8] [fun vs W=>(vs 0) = .agg [am,an].toArray,fun vs W=>(vs 1) = .agg [(zai (vs 1) 0),(zai (vs 1) 1)].toArray/\Ow W 4 [] [(zai (vs 1) 0)] Z.Commits/\Ow W 5 [] [(zai (vs 1) 1)] Z.Heads,fun vs W=>(vs 2)=ah,fun vs W=>Ow W 6 [] [(vs 3)] bu,fun vs W=>(vs 4) = .agg [vS x2.Branch,vS x2.Into,vS x2.By,ao].toArray,fun vs W=>(vs 5) = .agg [vS f.Branch,vS f.Into,vS f.By,(zai (vs 5) 3)].toArray/\Ow W 7 [] [(zai (vs 5) 3)] f.Yes,fun vs W=>(vs 6) = .tuple [.agg [(zai (zai (vs 6) 0) 0),(zai (zai (vs 6) 0) 1)].toArray,vI d.2].toArray/\Rd W [0,4,5,6,7] [(zai (zai (vs 6) 0) 0)] d.1.Commits/\Rd W [0,4,5,6,7] [(zai (zai (vs 6) 0) 1)] d.1.Heads,fun vs W=>(vs 7) = .tuple [.agg [(zai (zai (vs 6) 0) 0),(zai (zai (vs 6) 0) 1)].toArray,vI d.2].toArray,fun vs W=>(vs 8) = .agg [(zai (zai (vs 6) 0) 0),(zai (zai (vs 6) 0) 1)].toArray,fun vs W=>(vs 9)=vI d.2,fun vs W=>(vs 10)=ptr (bx (pg (vs 10)))/\Bx W 8 (pg (vs 10)) [.slice none 0 0, .slice none 0 0],fun vs W=>(vs 10)=ptr (bx (pg (vs 10)))/\Bx W 8 (pg (vs 10)) [(zai (zai (vs 6) 0) 0),(zai (zai (vs 6) 0) 1)],fun vs W=>(vs 12)=vI d.2] [] mixed (by kernel_rfl) O zsd.nil ?_
    intro jo ch
    have bv:=dr.n ch
    have ci:=((((b1.up l3).up l10).up ce).up cg).up ch
    have ds:=(dq.up cg).up ch
    refine⟨(zaV.cons ?_ (zaV.cons ?_ (zaV.cons ?_ (zaV.cons ?_ (zaV.cons ?_ (zaV.cons ?_ (zaV.cons ?_ (zaV.cons ?_ (zaV.cons ?_ (zaV.cons ?_ (zaV.cons ?_ (zaV.cons ?_ (zaV.cons ?_ zaV.nil))))))))))))),(zdz.cons SE (zdz.cons (fun vs vs' W W' _ hv l hd h=>by(show(vs' 1) = .agg [(zai (vs' 1) 0),(zai (vs' 1) 1)].toArray/\Ow W' 4 [] [(zai (vs' 1) 0)] Z.Commits/\Ow W' 5 [] [(zai (vs' 1) 1)] Z.Heads);rw[hv 1 (zaC O)];exact⟨h.1,h.2.1.upv l (zcn hd (c:=4) O),h.2.2.upv l (zcn hd (c:=5) O)⟩) (zdz.cons SE (zdz.cons SO (zdz.cons SE (zdz.cons (fun vs vs' W W' _ hv l hd h=>by(show(vs' 5) = .agg [vS f.Branch,vS f.Into,vS f.By,(zai (vs' 5) 3)].toArray/\Ow W' 7 [] [(zai (vs' 5) 3)] f.Yes);rw[hv 5 (zaC O)];exact⟨h.1,h.2.upv l (zcn hd (c:=7) O)⟩) (zdz.cons (fun vs vs' W W' _ hv l hd h=>by(show(vs' 6) = .tuple [.agg [(zai (zai (vs' 6) 0) 0),(zai (zai (vs' 6) 0) 1)].toArray,vI d.2].toArray/\Rd W' [0,4,5,6,7] [(zai (zai (vs' 6) 0) 0)] d.1.Commits/\Rd W' [0,4,5,6,7] [(zai (zai (vs' 6) 0) 1)] d.1.Heads);rw[hv 6 (zaC O)];exact⟨h.1,h.2.1.up l (zkA hd (K:=[0,4,5,6,7]) O),h.2.2.up l (zkA hd (K:=[0,4,5,6,7]) O)⟩) (zdz.cons (fun vs vs' W W' _ hv l hd h=>by(show(vs' 7) = .tuple [.agg [(zai (zai (vs' 6) 0) 0),(zai (zai (vs' 6) 0) 1)].toArray,vI d.2].toArray);rw[hv 6 (zaC O),hv 7 (zaC O)];exact h) (zdz.cons (fun vs vs' W W' _ hv l hd h=>by(show(vs' 8) = .agg [(zai (zai (vs' 6) 0) 0),(zai (zai (vs' 6) 0) 1)].toArray);rw[hv 6 (zaC O),hv 8 (zaC O)];exact h) (zdz.cons SE (zdz.cons (fun vs vs' W W' _ hv l hd h=>by(show(vs' 10)=ptr (bx (pg (vs' 10)))/\Bx W' 8 (pg (vs' 10)) [.slice none 0 0, .slice none 0 0]);rw[hv 10 (zaC O)];exact⟨h.1,h.2.up l (zcn hd (c:=8) O)⟩) (zdz.cons (fun vs vs' W W' _ hv l hd h=>by(show(vs' 10)=ptr (bx (pg (vs' 10)))/\Bx W' 8 (pg (vs' 10)) [(zai (zai (vs' 6) 0) 0),(zai (zai (vs' 6) 0) 1)]);rw[hv 6 (zaC O),hv 10 (zaC O)];exact⟨h.1,h.2.up l (zcn hd (c:=8) O)⟩) (zdz.cons SE zdz.nil))))))))))))),?_⟩
    ·intro vs jp lW hN hV
     exact Trq (R.lda (cs:=[am,an]) (ci.up lW O).cells O O) O
    ·intro vs jq lW hN hV
     have dt:=bv.t lW O
     have a5:vs 0 = .agg [am,an].toArray:=(hN 0 (zaC O))
     obtain⟨vs,rfl⟩:=zat a5
     refine Tr.mono (T.call O (p10 (k0:=4) (k1:=5) (Repo.rd (K:=[0]) x0.Commits x0.Heads (bj.ul dt) (bk.ul dt)) fs)) ?_
     rintro _ _ ⟨cj,rfl,fw,⟨ck,cl,rfl,fx,fy⟩⟩
     exact⟨cj,O,fw,(show(.agg [ck,cl].toArray:Value) = .agg [ck,cl].toArray/\Ow cj 4 [] [ck] Z.Commits/\Ow cj 5 [] [cl] Z.Heads from⟨O,fx,fy⟩)⟩
    ·intro vs jr lW hN hV
     exact Trq (R.mv (v:=ah) O) O
    ·intro vs js lW hN hV
     have fz:=bv.t lW O
     have a6:vs 2=ah:=(hN 2 (zaC O))
     obtain⟨vs,rfl⟩:=zat a6
     refine Tr.mono (T.call O (p11 (k0:=6) (h1.ul fz) ft)) ?_
     rintro f0 _ ⟨du,rfl,f1,⟨_,rfl,f2⟩⟩
     exact⟨du,O,f1,(show Ow du 6 [] [f0] bu from f2)⟩
    ·intro vs jt lW hN hV
     exact Trq (R.lda (cs:=[vS x2.Branch,vS x2.Into,vS x2.By,ao]) (ds.up lW O).cells O O) O
    ·intro vs ju lW hN hV
     have f3:=bv.t lW O
     have a7:vs 4 = .agg [vS x2.Branch,vS x2.Into,vS x2.By,ao].toArray:=(hN 4 (zaC O))
     obtain⟨vs,rfl⟩:=zat a7
     refine Tr.mono (T.call O (p12 (k0:=7) (Review.rd (K:=[0]) x2.Branch x2.Into x2.By x2.Yes (bl.ul f3)) fu)) ?_
     rintro _ _ ⟨dv,rfl,f4,⟨cm,rfl,f5⟩⟩
     exact⟨dv,O,f4,(show(.agg [vS f.Branch,vS f.Into,vS f.By,cm].toArray:Value) = .agg [vS f.Branch,vS f.Into,vS f.By,cm].toArray/\Ow dv 7 [] [cm] f.Yes from⟨O,f5⟩)⟩
    ·intro vs bw lW hN hV
     obtain⟨N,P,a8⟩: ∃ N P:Value,vs 1 = .agg [N,P].toArray:=⟨_,_,(hN 1 (zaC O)).1⟩
     obtain⟨vs,rfl⟩:=zat a8
     have f6:Ow bw 4 [] [N] Z.Commits:=(hN 1 (zaC O)).2.1
     have f7:Ow bw 5 [] [P] Z.Heads:=(hN 1 (zaC O)).2.2
     obtain⟨ay,a9⟩: ∃ v,vs 3=v:=⟨_,O⟩
     obtain⟨vs,rfl⟩:=zat a9
     have f8:Ow bw 6 [] [ay] bu:=(hN 3 (zaC O))
     obtain⟨Q,ba⟩: ∃ Q:Value,vs 5 = .agg [vS f.Branch,vS f.Into,vS f.By,Q].toArray:=⟨_,(hN 5 (zaC O)).1⟩
     obtain⟨vs,rfl⟩:=zat ba
     have f9:Ow bw 7 [] [Q] f.Yes:=(hN 5 (zaC O)).2
     refine Tr.mono (T.call O (p9 (K:=[4,5,6,7]) (x0:=(Vm.Repo.mk Z.Commits Z.Heads)) (x2:=(Vm.Review.mk f.Branch f.Into f.By f.Yes)) ((Repo.rd (K:=[4,5]) Z.Commits Z.Heads (f6.rd.sub (M:=[4,5]) O) (f7.rd.sub (M:=[4,5]) O)).sub (M:=[4,5,6,7]) O) (f8.rd.sub (M:=[4,5,6,7]) O) ((Review.rd (K:=[7]) f.Branch f.Into f.By f.Yes f9.rd).sub (M:=[4,5,6,7]) O) fv)) ?_
     rintro _ _ ⟨co,rfl,ga,⟨cp,cq,rfl,gb,gc⟩⟩
     have gd:=gb.sub (M:=[0,4,5,6,7]) O
     have gf:=gc.sub (M:=[0,4,5,6,7]) O
     exact⟨co,O,ga,(show(.tuple [.agg [cp,cq].toArray,vI d.2].toArray:Value) = .tuple [.agg [cp,cq].toArray,vI d.2].toArray/\Rd co [0,4,5,6,7] [cp] d.1.Commits/\Rd co [0,4,5,6,7] [cq] d.1.Heads from⟨O,gd,gf⟩)⟩
    ·intro vs dw lW hN hV
     obtain⟨a,b,A⟩: ∃ a b:Value,vs 6 = .tuple [.agg [a,b].toArray,vI d.2].toArray:=⟨_,_,(hN 6 (zaC O)).1⟩
     obtain⟨vs,rfl⟩:=zat A
     have jv:Rd dw [0,4,5,6,7] [a] d.1.Commits:=(hN 6 (zaC O)).2.1
     have jw:Rd dw [0,4,5,6,7] [b] d.1.Heads:=(hN 6 (zaC O)).2.2
     exact Trq (R.mv (v:= .tuple [Value.agg [a,b].toArray,vI d.2].toArray) O) O
    ·intro vs dx lW hN hV
     obtain⟨a,b,A⟩: ∃ a b:Value,vs 6 = .tuple [.agg [a,b].toArray,vI d.2].toArray:=⟨_,_,(hN 6 (zaC O)).1⟩
     obtain⟨vs,rfl⟩:=zat A
     have jx:Rd dx [0,4,5,6,7] [a] d.1.Commits:=(hN 6 (zaC O)).2.1
     have jy:Rd dx [0,4,5,6,7] [b] d.1.Heads:=(hN 6 (zaC O)).2.2
     have ap:vs 7 = .tuple [.agg [a,b].toArray,vI d.2].toArray:=(hN 7 (zaC O))
     obtain⟨vs,rfl⟩:=zat ap
     exact Trq (R.ext (vs:=[Value.agg [a,b].toArray,vI d.2]) (v:= .agg [a,b].toArray) O O) O
    ·intro vs dy lW hN hV
     obtain⟨a,b,A⟩: ∃ a b:Value,vs 6 = .tuple [.agg [a,b].toArray,vI d.2].toArray:=⟨_,_,(hN 6 (zaC O)).1⟩
     obtain⟨vs,rfl⟩:=zat A
     have jz:Rd dy [0,4,5,6,7] [a] d.1.Commits:=(hN 6 (zaC O)).2.1
     have j0:Rd dy [0,4,5,6,7] [b] d.1.Heads:=(hN 6 (zaC O)).2.2
     have ap:vs 7 = .tuple [.agg [a,b].toArray,vI d.2].toArray:=(hN 7 (zaC O))
     obtain⟨vs,rfl⟩:=zat ap
     exact Trq (R.ext (vs:=[Value.agg [a,b].toArray,vI d.2]) (v:=vI d.2) O O) O
    ·intro vs j1 lW hN hV
     refine Tr.mono (T.alloc 8 (cs:=[.slice none 0 0, .slice none 0 0]) O) ?_
     rintro _ _ ⟨ct,dz,rfl,rfl,gg,gh⟩
     exact⟨dz,O,gg,(show(ptr (bx ct):Value)=ptr (bx ct)/\Bx dz 8 ct [.slice none 0 0, .slice none 0 0] from⟨O,gh⟩)⟩
    ·intro vs cu lW hN hV
     obtain⟨a,b,A⟩: ∃ a b:Value,vs 6 = .tuple [.agg [a,b].toArray,vI d.2].toArray:=⟨_,_,(hN 6 (zaC O)).1⟩
     obtain⟨vs,rfl⟩:=zat A
     have gj:Rd cu [0,4,5,6,7] [a] d.1.Commits:=(hN 6 (zaC O)).2.1
     have gk:Rd cu [0,4,5,6,7] [b] d.1.Heads:=(hN 6 (zaC O)).2.2
     have bb:vs 8 = .agg [a,b].toArray:=(hN 8 (zaC O))
     obtain⟨vs,rfl⟩:=zat bb
     obtain⟨y,bc⟩: ∃ y,vs 10=ptr (bx y):=⟨_,((hN 10 (zaC O))).1⟩
     obtain⟨vs,rfl⟩:=zat bc
     have gm:Bx cu 8 y [.slice none 0 0, .slice none 0 0]:=(hN 10 (zaC O)).2
     refine Tr.mono (T.sta (vs:=[a,b]) gm O O (zaa gj.oc (zaa gk.oc zaG)) O O) ?_
     rintro _ _ ⟨d0,rfl,gn,go⟩
     exact⟨d0,O,gn,(show(ptr (bx y))=ptr (bx y)/\Bx d0 8 y [a,b] from⟨O,go⟩)⟩
    ·intro vs j2 lW hN hV
     have be:vs 9=vI d.2:=(hN 9 (zaC O))
     obtain⟨vs,rfl⟩:=zat be
     exact Trq (R.as (v:=vI d.2) O) O
    ·intro vs bg bz hN
     have cv:=bv.t bz
     have a5:vs 0 = .agg [am,an].toArray:=(hN 0 (zaC O))
     obtain⟨vs,rfl⟩:=zat a5
     obtain⟨N,P,a8⟩: ∃ N P:Value,vs 1 = .agg [N,P].toArray:=⟨_,_,(hN 1 (zaC O)).1⟩
     obtain⟨vs,rfl⟩:=zat a8
     have j3:Ow bg 4 [] [N] Z.Commits:=(hN 1 (zaC O)).2.1
     have j4:Ow bg 5 [] [P] Z.Heads:=(hN 1 (zaC O)).2.2
     have a6:vs 2=ah:=(hN 2 (zaC O))
     obtain⟨vs,rfl⟩:=zat a6
     obtain⟨ay,a9⟩: ∃ v,vs 3=v:=⟨_,O⟩
     obtain⟨vs,rfl⟩:=zat a9
     have j5:Ow bg 6 [] [ay] bu:=(hN 3 (zaC O))
     have a7:vs 4 = .agg [vS x2.Branch,vS x2.Into,vS x2.By,ao].toArray:=(hN 4 (zaC O))
     obtain⟨vs,rfl⟩:=zat a7
     obtain⟨Q,ba⟩: ∃ Q:Value,vs 5 = .agg [vS f.Branch,vS f.Into,vS f.By,Q].toArray:=⟨_,(hN 5 (zaC O)).1⟩
     obtain⟨vs,rfl⟩:=zat ba
     have j6:Ow bg 7 [] [Q] f.Yes:=(hN 5 (zaC O)).2
     obtain⟨a,b,A⟩: ∃ a b:Value,vs 6 = .tuple [.agg [a,b].toArray,vI d.2].toArray:=⟨_,_,(hN 6 (zaC O)).1⟩
     obtain⟨vs,rfl⟩:=zat A
     have cw:Rd bg [0,4,5,6,7] [a] d.1.Commits:=(hN 6 (zaC O)).2.1
     have cx:Rd bg [0,4,5,6,7] [b] d.1.Heads:=(hN 6 (zaC O)).2.2
     have ap:vs 7 = .tuple [.agg [a,b].toArray,vI d.2].toArray:=(hN 7 (zaC O))
     obtain⟨vs,rfl⟩:=zat ap
     have bb:vs 8 = .agg [a,b].toArray:=(hN 8 (zaC O))
     obtain⟨vs,rfl⟩:=zat bb
     have be:vs 9=vI d.2:=(hN 9 (zaC O))
     obtain⟨vs,rfl⟩:=zat be
     obtain⟨y,bc⟩: ∃ y,vs 10=ptr (bx y):=⟨_,(hN 11 (zaC O)).1⟩
     obtain⟨vs,rfl⟩:=zat bc
     have gr:Bx bg 8 y [a,b]:=(hN 11 (zaC O)).2
     have cy:vs 12=vI d.2:=(hN 12 (zaC O))
     obtain⟨vs,rfl⟩:=zat cy
     refine sr (la (ci.up bz) (cr Y (fun _=>p10 (k0:=9) (k1:=10) (Repo.rd (K:=[0]) x0.Commits x0.Heads (bj.ul cv) (bk.ul cv))) ?_))
     rintro au _ j7 Y av ⟨gs,gu,rfl,d1,d2⟩
     have gv:=cv.n av
     refine al 11 [.slice none 0 0, .slice none 0 0] fun j8 j9 aa gw=>?_
     have gx:=gv.n aa
     refine sta gw (zaa (d1.up aa).oc (zaa (d2.up aa).oc zaG)) fun ka ak gy=>?_
     have d3:=gx.t ak
     refine nl (sr (mv ah O (cr Y (fun _=>p11 (k0:=12) (h1.ul d3)) ?_)))
     rintro kb b0 kc Y ai ⟨_,rfl,gz⟩
     have d4:=d3.n ai
     have d5:=((((ds.up bz).up av).up aa).up ak).up ai
     refine Nv b0 O (sr (la d5 (cr Y (fun _=>p12 (k0:=13) (Review.rd (K:=[0]) x2.Branch x2.Into x2.By x2.Yes (bl.ul d4))) ?_)))
     rintro k _ kd Y ac ⟨g0,rfl,d6⟩
     have g2:=d4.n ac
     refine al 14 [vS ([]:Str),vS ([]:Str),vS ([]:Str), .slice none 0 0] fun ke kf S g4=>?_
     have g5:=g2.n S
     refine sta g4 (zaa O (zaa O (zaa O (zaa (d6.up S).oc zaG)))) fun kg X d7=>?_
     have d8:=g5.t X
     have d9:=(((((d1.up aa).up ak).up ai).up ac).up S).up X
     have ea:=(((((d2.up aa).up ak).up ai).up ac).up S).up X
     have eb:=((gz.up ac).up S).up X
     have ec:=(d6.up S).up X
     have ed:=(((gy.up ai).up ac).up S).up X
     refine nl (sr (la ed (mv b0 O (la d7 (cr Y (fun _=>p13 (K:=[0,9,10,12,13]) (k0:=15) (k1:=16) (x0:=(Vm.Repo.mk au.Commits au.Heads)) (x2:=(Vm.Review.mk k.Branch k.Into k.By k.Yes)) ((Repo.rd (K:=[9,10]) au.Commits au.Heads (d9.rd.sub (M:=[9,10]) O) (ea.rd.sub (M:=[9,10]) O)).sub (M:=[0,9,10,12,13]) O) (eb.rd.sub (M:=[0,9,10,12,13]) O) ((Review.rd (K:=[13]) k.Branch k.Into k.By k.Yes ec.rd).sub (M:=[0,9,10,12,13]) O) ((dl.ul d8).sub (M:=[0,9,10,12,13]) O)) ?_)))))
     rintro U _ kh Y V ⟨b2,b4,rfl,ee,ef⟩
     have g6:=d8.n V
     refine mv (.tuple [.agg [b2,b4].toArray,vI U.2].toArray) O (Lw.r O (R.ext (vs:=[.agg [b2,b4].toArray,vI U.2]) (v:= .agg [b2,b4].toArray) O O) (Lw.r O (R.ext (vs:=[.agg [b2,b4].toArray,vI U.2]) (v:=vI U.2) O O) (al 17 [.slice none 0 0, .slice none 0 0] fun ki kj z g7=>?_)))
     have g8:=g6.n z
     refine sta g7 (zaa (ee.up z).oc (zaa (ef.up z).oc zaG)) fun g9 B eg=>?_
     have ha:=g8.t B
     have eh:=(ee.up z).up B
     have ei:=(ef.up z).up B
     have ej:=(((((((((gr.up av).up aa).up ak).up ai).up ac).up S).up X).up V).up z).up B
     refine Ni O (Cw.seq ?_)
     obtain⟨hb,hc,Y⟩:=zaY Y
     refine Cw.join 58 66 [66] (fun l w=> ∃ cz c2,CW.w c2=w/\Le [] g9 c2/\l=[vB cz]/\hb cz=some r) ?_ ?_
     ·rintro _ _ σ ⟨cz,c2,rfl,E,rfl,Y⟩
      rw[hc]at Y
      have ek:=ha.n E
      refine cn Y (fun Y=>?_) fun Y=>?_
      ·exact sr (Nb O (.ret (rt Y ek)))
      ·refine sk (Cw.seq (Cw.seq (Cw.draw [] [(0,1),(1,1),(2,2),(3,3),(4,0)] mixed (by kernel_rfl) fun kk F=>?_)))
       have c4:=ek.n F
       have el:=((((((((((((ci.up bz).up av).up aa).up ak).up ai).up ac).up S).up X).up V).up z).up B).up E).up F
       have em:=((((ed.up V).up z).up B).up E).up F
       refine Mw.q O O (fun _ c=>R.lda (cs:=[gs,gu]) (em.clcs O c) O O) (Mw.q O O (fun _ c=>R.lda (cs:=[am,an]) (el.clcs O c) O O) ?_)
       obtain⟨b5,he,Y⟩:=ob Y
       refine Mw.t O O (T.call O (p10 (k0:=18) (k1:=19) (Repo.rd (K:=[0]) x0.Commits x0.Heads (bj.ul c4) (bk.ul c4)) he)) ?_
       rintro _ _ ⟨kl,rfl,C,⟨km,kn,rfl,hf,hg⟩⟩
       have hh:=c4.n C
       have en:=(((((d9.up V).up z).up B).up E).up F).up C
       have eo:=(((((ea.up V).up z).up B).up E).up F).up C
       refine m0 C fun ko=>?_
       obtain⟨kp,hi,Y⟩:=ob Y
       refine Mw.l O O (T.call O (p14 (K:=[9,10,18,19]) (x0:=(Vm.Repo.mk au.Commits au.Heads)) (x1:=(Vm.Repo.mk b5.Commits b5.Heads)) ((Repo.rd (K:=[9,10]) au.Commits au.Heads (en.rd.sub (M:=[9,10]) O) (eo.rd.sub (M:=[9,10]) O)).sub (M:=[9,10,18,19]) O) ((Repo.rd (K:=[18,19]) b5.Commits b5.Heads (hf.rd.sub (M:=[18,19]) O) (hg.rd.sub (M:=[18,19]) O)).sub (M:=[9,10,18,19]) O) hi)) ?_
       rintro _ _ ⟨kq,rfl,G,rfl⟩
       have c5:=hh.n G
       refine Mw.p O O (fun _=>R.not O) (Mw.nil (cn Y (fun Y=>?_) fun Y=>?_))
       ·exact sr (Nb O (.ret (rt Y c5)))
       ·refine sk (ssr (mv b0 O (mv ah O (cr Y (fun _=>p11 (k0:=20) (h1.ul c5)) ?_))))
        rintro kr ks kt Y H ⟨_,rfl,hj⟩
        have hk:=c5.n H
        have ep:=(((((((eb.up V).up z).up B).up E).up F).up C).up G).up H
        refine ca Y (fun _=>p15 (K:=[12,20]) (ep.rd.sub (M:=[12,20]) O) (hj.rd.sub (M:=[12,20]) O)) fun ku kv Y I=>?_
        have er:=hk.n I
        refine Lw.r O (R.not O) (nl (cn Y (fun Y=>?_) fun Y=>?_))
        ·exact sr (Nb O (.ret (rt Y er)))
        ·refine sk (Cw.seq (Cw.seq (Cw.draw [] [(0,1),(1,1),(2,2),(3,3),(4,0)] mixed (by kernel_rfl) fun kw J=>?_)))
         have es:=er.n J
         have et:=((((((((((((d5.up ac).up S).up X).up V).up z).up B).up E).up F).up C).up G).up H).up I).up J
         have eu:=(((((((((d7.up V).up z).up B).up E).up F).up C).up G).up H).up I).up J
         refine Mw.q O O (fun _ c=>R.lda (cs:=[vS k.Branch,vS k.Into,vS k.By,g0]) (eu.clcs O c) O O) (Mw.q O O (fun _ c=>R.lda (cs:=[vS x2.Branch,vS x2.Into,vS x2.By,ao]) (et.clcs O c) O O) ?_)
         obtain⟨az,hl,Y⟩:=ob Y
         refine Mw.t O O (T.call O (p12 (k0:=21) (Review.rd (K:=[0]) x2.Branch x2.Into x2.By x2.Yes (bl.ul es)) hl)) ?_
         rintro _ _ ⟨kx,rfl,D,⟨ky,rfl,hn⟩⟩
         have ho:=es.n D
         have ew:=((((((((((ec.up V).up z).up B).up E).up F).up C).up G).up H).up I).up J).up D
         refine m0 D fun kz=>?_
         obtain⟨k2,hp,Y⟩:=ob Y
         refine Mw.l O O (T.call O (p16 (K:=[13,21]) (x0:=(Vm.Review.mk k.Branch k.Into k.By k.Yes)) (x1:=(Vm.Review.mk az.Branch az.Into az.By az.Yes)) ((Review.rd (K:=[13]) k.Branch k.Into k.By k.Yes ew.rd).sub (M:=[13,21]) O) ((Review.rd (K:=[21]) az.Branch az.Into az.By az.Yes hn.rd).sub (M:=[13,21]) O) hp)) ?_
         rintro _ _ ⟨k3,rfl,L,rfl⟩
         have ex:=ho.n L
         refine Mw.p O O (fun _=>R.not O) (Mw.nil (cn Y (fun Y=>?_) fun Y=>?_))
         ·exact sr (Nb O (.ret (rt Y ex)))
         ·refine sk (sr (Ni O (sr (la (((((((em.up C).up G).up H).up I).up J).up D).up L) (mi O (cr Y (fun _=>p17 (K:=[0]) (c0:=9) (c1:=10) (x0:=(Vm.Repo.mk au.Commits au.Heads)) ((((((en.up G).up H).up I).up J).up D).up L) ((((((eo.up G).up H).up I).up J).up D).up L) O) ?_))))))
          rintro k4 _ k5 Y ae ⟨rfl,k6,k7⟩
          have hq:=ex.t ae
          refine Ni O (sr (mv b0 O (mi O (cr Y (fun _=>p18 (K:=[0]) (c0:=12) (((((ep.up I).up J).up D).up L).up ae) O) ?_))))
          rintro k8 _ k9 Y aj ⟨rfl,lc⟩
          have hr:=hq.t aj
          refine Ni O (sr (la ((((eu.up D).up L).up ae).up aj) (mi O (cr Y (fun _=>p19 (K:=[0]) (c0:=13) (x0:=(Vm.Review.mk k.Branch k.Into k.By k.Yes)) (((ew.up L).up ae).up aj) O) ?_))))
          rintro lf _ ey Y aq ⟨rfl,lg⟩
          have hs:=hr.t aq
          have ez:=(((((((((((eh.up E).up F).up C).up G).up H).up I).up J).up D).up L).up ae).up aj).up aq
          have e0:=(((((((((((ei.up E).up F).up C).up G).up H).up I).up J).up D).up L).up ae).up aj).up aq
          have e1:=(((((((((((ej.up E).up F).up C).up G).up H).up I).up J).up D).up L).up ae).up aj).up aq
          have b6:=(((((((((((eg.up E).up F).up C).up G).up H).up I).up J).up D).up L).up ae).up aj).up aq
          refine Ni O (Cw.seq ?_)
          obtain⟨ht,hu,Y⟩:=zaY Y
          refine Cw.join 91 103 [103] (fun l w=> ∃ c6 c7,CW.w c7=w/\Le [] ey c7/\l=[vB c6]/\ht c6=some r) ?_ ?_
          ·rintro _ _ σ ⟨c6,c7,rfl,ar,rfl,Y⟩
           rw[hu]at Y
           have e2:=hs.n ar
           refine cn Y (fun Y=>?_) fun Y=>?_
           ·exact sr (Nb O (.ret (rt Y e2)))
           ·refine sk (sr (Ni O (sr (la (b6.up ar) (mi O (cr Y (fun _=>p17 (K:=[0]) (c0:=15) (c1:=16) (x0:=(Vm.Repo.mk U.1.Commits U.1.Heads)) (ez.up ar) (e0.up ar) O) ?_))))))
            rintro a0 _ lh Y a1 ⟨rfl,e3,e4⟩
            have hw:=e2.t a1
            refine Ni O (sr (Ni O (sr (la ((b6.up ar).up a1) (mi O (ca Y (fun _=>p20 (K:=[15,16]) (x0:=(Vm.Repo.mk a0.2.Commits a0.2.Heads)) (Repo.rd (K:=[15,16]) a0.2.Commits a0.2.Heads (e3.rd.sub (M:=[15,16]) O) (e4.rd.sub (M:=[15,16]) O))) fun li lj Y aw=>?_))))))
            have c8:=hw.n aw
            refine Ni O (ssr (mi O (Lw.lt O (nl (cn Y (fun Y=>?_) fun Y=>?_)))))
            ·exact sr (Nb O (.ret (rt Y c8)))
            ·refine sk (ssr (mi O (mi O (Lw.ne O (nl (cn Y (fun Y=>?_) fun Y=>?_))))))
             ·exact sr (Nb O (.ret (rt Y c8)))
             ·refine sk (Cw.seq ?_)
              obtain⟨nn692,hnn692⟩: ∃ x,x=N:=⟨_,O⟩
              subst hnn692
              obtain⟨nn693,hnn693⟩: ∃ x,x=P:=⟨_,O⟩
              subst hnn693
              obtain⟨nn694,hnn694⟩: ∃ x,x=Q:=⟨_,O⟩
              subst hnn694
              obtain⟨nn695,hnn695⟩: ∃ x,x=a:=⟨_,O⟩
              subst hnn695
              obtain⟨nn696,hnn696⟩: ∃ x,x=b:=⟨_,O⟩
              subst hnn696
              obtain⟨nn697,hnn697⟩: ∃ x,x=y:=⟨_,O⟩
              subst hnn697
              obtain⟨nn698,hnn698⟩: ∃ x,x=ay:=⟨_,O⟩
              subst hnn698
              obtain⟨af,hx,Y⟩:=ob Y
              obtain⟨b7,hy,Y⟩:=ob Y
              obtain⟨i,hz,Y⟩:=ob Y
              obtain⟨e,h3,Y⟩:=ob Y
              refine Cw.par [[],[0],[],[0,1,2],[],[0,1,2,3,4],[0,1,2,3,4,5],[0,1,2,3,4,5,6],[0,1,2,3,4,5,6,7],[0,1,2,3,4,5,6,7],[],[0,1,2,3,4,5,6,7,8,10],[0,1,2,3,4,5,6,7,8,9,10,11]] [[],[0],[],[2],[],[4],[1,3,5],[6],[6,7],[6,7],[],[6,8,10],[9]] [[],[],[],[],[],[],[],[],[],[],[],[28],[]] [[0],[1],[2],[3],[4],[5],[6],[6,7],[6,8],[9],[10],[6,10],[12]] [[],[22,23],[],[24],[],[25],[26,27],[],[],[],[28],[28],[]] [0,1,2,3,4,5,6,7,8,9,11,12] [28] [fun vs W=>(vs 0) = .agg [am,an].toArray,fun vs W=>(vs 1) = .agg [(zai (vs 1) 0),(zai (vs 1) 1)].toArray/\Ow W 22 [] [(zai (vs 1) 0)] af.Commits/\Ow W 23 [] [(zai (vs 1) 1)] af.Heads,fun vs W=>(vs 2)=ah,fun vs W=>Ow W 24 [] [(vs 3)] b7,fun vs W=>(vs 4) = .agg [vS x2.Branch,vS x2.Into,vS x2.By,ao].toArray,fun vs W=>(vs 5) = .agg [vS i.Branch,vS i.Into,vS i.By,(zai (vs 5) 3)].toArray/\Ow W 25 [] [(zai (vs 5) 3)] i.Yes,fun vs W=>(vs 6) = .tuple [.agg [(zai (zai (vs 6) 0) 0),(zai (zai (vs 6) 0) 1)].toArray,vI e.2].toArray/\Ow W 26 [] [(zai (zai (vs 6) 0) 0)] e.1.Commits/\Ow W 27 [] [(zai (zai (vs 6) 0) 1)] e.1.Heads,fun vs W=>(vs 7) = .tuple [.agg [(zai (zai (vs 6) 0) 0),(zai (zai (vs 6) 0) 1)].toArray,vI e.2].toArray,fun vs W=>(vs 8) = .agg [(zai (zai (vs 6) 0) 0),(zai (zai (vs 6) 0) 1)].toArray,fun vs W=>(vs 9)=vI e.2,fun vs W=>(vs 10)=ptr (bx (pg (vs 10)))/\Bx W 28 (pg (vs 10)) [.slice none 0 0, .slice none 0 0],fun vs W=>(vs 10)=ptr (bx (pg (vs 10)))/\Bx W 28 (pg (vs 10)) [(zai (zai (vs 6) 0) 0),(zai (zai (vs 6) 0) 1)],fun vs W=>(vs 12)=vI e.2] [] mixed (by kernel_rfl) O zsd.nil ?_
              intro lk ax
              have bm:=c8.n ax
              refine⟨(zaV.cons ?_ (zaV.cons ?_ (zaV.cons ?_ (zaV.cons ?_ (zaV.cons ?_ (zaV.cons ?_ (zaV.cons ?_ (zaV.cons ?_ (zaV.cons ?_ (zaV.cons ?_ (zaV.cons ?_ (zaV.cons ?_ (zaV.cons ?_ zaV.nil))))))))))))),(zdz.cons SE (zdz.cons (fun vs vs' W W' _ hv l hd h=>by(show(vs' 1) = .agg [(zai (vs' 1) 0),(zai (vs' 1) 1)].toArray/\Ow W' 22 [] [(zai (vs' 1) 0)] af.Commits/\Ow W' 23 [] [(zai (vs' 1) 1)] af.Heads);rw[hv 1 (zaC O)];exact⟨h.1,h.2.1.upv l (zcn hd (c:=22) O),h.2.2.upv l (zcn hd (c:=23) O)⟩) (zdz.cons SE (zdz.cons SO (zdz.cons SE (zdz.cons (fun vs vs' W W' _ hv l hd h=>by(show(vs' 5) = .agg [vS i.Branch,vS i.Into,vS i.By,(zai (vs' 5) 3)].toArray/\Ow W' 25 [] [(zai (vs' 5) 3)] i.Yes);rw[hv 5 (zaC O)];exact⟨h.1,h.2.upv l (zcn hd (c:=25) O)⟩) (zdz.cons (fun vs vs' W W' _ hv l hd h=>by(show(vs' 6) = .tuple [.agg [(zai (zai (vs' 6) 0) 0),(zai (zai (vs' 6) 0) 1)].toArray,vI e.2].toArray/\Ow W' 26 [] [(zai (zai (vs' 6) 0) 0)] e.1.Commits/\Ow W' 27 [] [(zai (zai (vs' 6) 0) 1)] e.1.Heads);rw[hv 6 (zaC O)];exact⟨h.1,h.2.1.upv l (zcn hd (c:=26) O),h.2.2.upv l (zcn hd (c:=27) O)⟩) (zdz.cons (fun vs vs' W W' _ hv l hd h=>by(show(vs' 7) = .tuple [.agg [(zai (zai (vs' 6) 0) 0),(zai (zai (vs' 6) 0) 1)].toArray,vI e.2].toArray);rw[hv 6 (zaC O),hv 7 (zaC O)];exact h) (zdz.cons (fun vs vs' W W' _ hv l hd h=>by(show(vs' 8) = .agg [(zai (zai (vs' 6) 0) 0),(zai (zai (vs' 6) 0) 1)].toArray);rw[hv 6 (zaC O),hv 8 (zaC O)];exact h) (zdz.cons SE (zdz.cons (fun vs vs' W W' _ hv l hd h=>by(show(vs' 10)=ptr (bx (pg (vs' 10)))/\Bx W' 28 (pg (vs' 10)) [.slice none 0 0, .slice none 0 0]);rw[hv 10 (zaC O)];exact⟨h.1,h.2.up l (zcn hd (c:=28) O)⟩) (zdz.cons (fun vs vs' W W' _ hv l hd h=>by(show(vs' 10)=ptr (bx (pg (vs' 10)))/\Bx W' 28 (pg (vs' 10)) [(zai (zai (vs' 6) 0) 0),(zai (zai (vs' 6) 0) 1)]);rw[hv 6 (zaC O),hv 10 (zaC O)];exact⟨h.1,h.2.up l (zcn hd (c:=28) O)⟩) (zdz.cons SE zdz.nil))))))))))))),?_⟩
              ·intro vs ll lW hN hV
               exact Trq (R.lda (cs:=[am,an]) (((((((((((((((el.up C).up G).up H).up I).up J).up D).up L).up ae).up aj).up aq).up ar).up a1).up aw).up ax).up lW O).cells O O) O
              ·intro vs lm lW hN hV
               have e5:=bm.t lW O
               have a5:vs 0 = .agg [am,an].toArray:=(hN 0 (zaC O))
               obtain⟨vs,rfl⟩:=zat a5
               refine Tr.mono (T.call O (p10 (k0:=22) (k1:=23) (Repo.rd (K:=[0]) x0.Commits x0.Heads (bj.ul e5) (bk.ul e5)) hx)) ?_
               rintro _ _ ⟨c9,rfl,h4,⟨da,db,rfl,h5,h6⟩⟩
               exact⟨c9,O,h4,(show(.agg [da,db].toArray:Value) = .agg [da,db].toArray/\Ow c9 22 [] [da] af.Commits/\Ow c9 23 [] [db] af.Heads from⟨O,h5,h6⟩)⟩
              ·intro vs lo lW hN hV
               exact Trq (R.mv (v:=ah) O) O
              ·intro vs lp lW hN hV
               have h7:=bm.t lW O
               have a6:vs 2=ah:=(hN 2 (zaC O))
               obtain⟨vs,rfl⟩:=zat a6
               refine Tr.mono (T.call O (p11 (k0:=24) (h1.ul h7) hy)) ?_
               rintro h8 _ ⟨e6,rfl,h9,⟨_,rfl,ia⟩⟩
               exact⟨e6,O,h9,(show Ow e6 24 [] [h8] b7 from ia)⟩
              ·intro vs lq lW hN hV
               exact Trq (R.lda (cs:=[vS x2.Branch,vS x2.Into,vS x2.By,ao]) ((((((((((et.up D).up L).up ae).up aj).up aq).up ar).up a1).up aw).up ax).up lW O).cells O O) O
              ·intro vs lr lW hN hV
               have ib:=bm.t lW O
               have a7:vs 4 = .agg [vS x2.Branch,vS x2.Into,vS x2.By,ao].toArray:=(hN 4 (zaC O))
               obtain⟨vs,rfl⟩:=zat a7
               refine Tr.mono (T.call O (p12 (k0:=25) (Review.rd (K:=[0]) x2.Branch x2.Into x2.By x2.Yes (bl.ul ib)) hz)) ?_
               rintro _ _ ⟨e7,rfl,ic,⟨dc,rfl,id⟩⟩
               exact⟨e7,O,ic,(show(.agg [vS i.Branch,vS i.Into,vS i.By,dc].toArray:Value) = .agg [vS i.Branch,vS i.Into,vS i.By,dc].toArray/\Ow e7 25 [] [dc] i.Yes from⟨O,id⟩)⟩
              ·intro vs b8 lW hN hV
               have ie:=bm.t lW O
               obtain⟨N,P,a8⟩: ∃ N P:Value,vs 1 = .agg [N,P].toArray:=⟨_,_,(hN 1 (zaC O)).1⟩
               obtain⟨vs,rfl⟩:=zat a8
               have ig:Ow b8 22 [] [N] af.Commits:=(hN 1 (zaC O)).2.1
               have ih:Ow b8 23 [] [P] af.Heads:=(hN 1 (zaC O)).2.2
               obtain⟨ay,a9⟩: ∃ v,vs 3=v:=⟨_,O⟩
               obtain⟨vs,rfl⟩:=zat a9
               have ii:Ow b8 24 [] [ay] b7:=(hN 3 (zaC O))
               obtain⟨Q,ba⟩: ∃ Q:Value,vs 5 = .agg [vS i.Branch,vS i.Into,vS i.By,Q].toArray:=⟨_,(hN 5 (zaC O)).1⟩
               obtain⟨vs,rfl⟩:=zat ba
               have ij:Ow b8 25 [] [Q] i.Yes:=(hN 5 (zaC O)).2
               refine Tr.mono (T.call O (p13 (K:=[0,22,23,24,25]) (k0:=26) (k1:=27) (x0:=(Vm.Repo.mk af.Commits af.Heads)) (x2:=(Vm.Review.mk i.Branch i.Into i.By i.Yes)) ((Repo.rd (K:=[22,23]) af.Commits af.Heads (ig.rd.sub (M:=[22,23]) O) (ih.rd.sub (M:=[22,23]) O)).sub (M:=[0,22,23,24,25]) O) (ii.rd.sub (M:=[0,22,23,24,25]) O) ((Review.rd (K:=[25]) i.Branch i.Into i.By i.Yes ij.rd).sub (M:=[0,22,23,24,25]) O) ((dl.ul ie).sub (M:=[0,22,23,24,25]) O) h3)) ?_
               rintro _ _ ⟨dd,rfl,ik,⟨de,df,rfl,il,im⟩⟩
               exact⟨dd,O,ik,(show(.tuple [.agg [de,df].toArray,vI e.2].toArray:Value) = .tuple [.agg [de,df].toArray,vI e.2].toArray/\Ow dd 26 [] [de] e.1.Commits/\Ow dd 27 [] [df] e.1.Heads from⟨O,il,im⟩)⟩
              ·intro vs e8 lW hN hV
               obtain⟨a,b,A⟩: ∃ a b:Value,vs 6 = .tuple [.agg [a,b].toArray,vI e.2].toArray:=⟨_,_,(hN 6 (zaC O)).1⟩
               obtain⟨vs,rfl⟩:=zat A
               have ls:Ow e8 26 [] [a] e.1.Commits:=(hN 6 (zaC O)).2.1
               have lv:Ow e8 27 [] [b] e.1.Heads:=(hN 6 (zaC O)).2.2
               exact Trq (R.mv (v:= .tuple [Value.agg [a,b].toArray,vI e.2].toArray) O) O
              ·intro vs e9 lW hN hV
               obtain⟨a,b,A⟩: ∃ a b:Value,vs 6 = .tuple [.agg [a,b].toArray,vI e.2].toArray:=⟨_,_,(hN 6 (zaC O)).1⟩
               obtain⟨vs,rfl⟩:=zat A
               have lw:Ow e9 26 [] [a] e.1.Commits:=(hN 6 (zaC O)).2.1
               have lx:Ow e9 27 [] [b] e.1.Heads:=(hN 6 (zaC O)).2.2
               have ap:vs 7 = .tuple [.agg [a,b].toArray,vI e.2].toArray:=(hN 7 (zaC O))
               obtain⟨vs,rfl⟩:=zat ap
               exact Trq (R.ext (vs:=[Value.agg [a,b].toArray,vI e.2]) (v:= .agg [a,b].toArray) O O) O
              ·intro vs fb lW hN hV
               obtain⟨a,b,A⟩: ∃ a b:Value,vs 6 = .tuple [.agg [a,b].toArray,vI e.2].toArray:=⟨_,_,(hN 6 (zaC O)).1⟩
               obtain⟨vs,rfl⟩:=zat A
               have ly:Ow fb 26 [] [a] e.1.Commits:=(hN 6 (zaC O)).2.1
               have l0:Ow fb 27 [] [b] e.1.Heads:=(hN 6 (zaC O)).2.2
               have ap:vs 7 = .tuple [.agg [a,b].toArray,vI e.2].toArray:=(hN 7 (zaC O))
               obtain⟨vs,rfl⟩:=zat ap
               exact Trq (R.ext (vs:=[Value.agg [a,b].toArray,vI e.2]) (v:=vI e.2) O O) O
              ·intro vs l2 lW hN hV
               refine Tr.mono (T.alloc 28 (cs:=[.slice none 0 0, .slice none 0 0]) O) ?_
               rintro _ _ ⟨dg,fc,rfl,rfl,io,ip⟩
               exact⟨fc,O,io,(show(ptr (bx dg):Value)=ptr (bx dg)/\Bx fc 28 dg [.slice none 0 0, .slice none 0 0] from⟨O,ip⟩)⟩
              ·intro vs dh lW hN hV
               obtain⟨a,b,A⟩: ∃ a b:Value,vs 6 = .tuple [.agg [a,b].toArray,vI e.2].toArray:=⟨_,_,(hN 6 (zaC O)).1⟩
               obtain⟨vs,rfl⟩:=zat A
               have iq:Ow dh 26 [] [a] e.1.Commits:=(hN 6 (zaC O)).2.1
               have ir:Ow dh 27 [] [b] e.1.Heads:=(hN 6 (zaC O)).2.2
               have bb:vs 8 = .agg [a,b].toArray:=(hN 8 (zaC O))
               obtain⟨vs,rfl⟩:=zat bb
               obtain⟨y,bc⟩: ∃ y,vs 10=ptr (bx y):=⟨_,((hN 10 (zaC O))).1⟩
               obtain⟨vs,rfl⟩:=zat bc
               have it:Bx dh 28 y [.slice none 0 0, .slice none 0 0]:=(hN 10 (zaC O)).2
               refine Tr.mono (T.sta (vs:=[a,b]) it O O (zaa iq.oc (zaa ir.oc zaG)) O O) ?_
               rintro _ _ ⟨fd,rfl,iu,iv⟩
               exact⟨fd,O,iu,(show(ptr (bx y))=ptr (bx y)/\Bx fd 28 y [a,b] from⟨O,iv⟩)⟩
              ·intro vs l4 lW hN hV
               have be:vs 9=vI e.2:=(hN 9 (zaC O))
               obtain⟨vs,rfl⟩:=zat be
               exact Trq (R.as (v:=vI e.2) O) O
              ·intro vs a3 bh hN
               have iw:=bm.t bh
               have a5:vs 0 = .agg [am,an].toArray:=(hN 0 (zaC O))
               obtain⟨vs,rfl⟩:=zat a5
               obtain⟨N,P,a8⟩: ∃ N P:Value,vs 1 = .agg [N,P].toArray:=⟨_,_,(hN 1 (zaC O)).1⟩
               obtain⟨vs,rfl⟩:=zat a8
               have l5:Ow a3 22 [] [N] af.Commits:=(hN 1 (zaC O)).2.1
               have l6:Ow a3 23 [] [P] af.Heads:=(hN 1 (zaC O)).2.2
               have a6:vs 2=ah:=(hN 2 (zaC O))
               obtain⟨vs,rfl⟩:=zat a6
               obtain⟨ay,a9⟩: ∃ v,vs 3=v:=⟨_,O⟩
               obtain⟨vs,rfl⟩:=zat a9
               have l7:Ow a3 24 [] [ay] b7:=(hN 3 (zaC O))
               have a7:vs 4 = .agg [vS x2.Branch,vS x2.Into,vS x2.By,ao].toArray:=(hN 4 (zaC O))
               obtain⟨vs,rfl⟩:=zat a7
               obtain⟨Q,ba⟩: ∃ Q:Value,vs 5 = .agg [vS i.Branch,vS i.Into,vS i.By,Q].toArray:=⟨_,(hN 5 (zaC O)).1⟩
               obtain⟨vs,rfl⟩:=zat ba
               have l8:Ow a3 25 [] [Q] i.Yes:=(hN 5 (zaC O)).2
               obtain⟨a,b,A⟩: ∃ a b:Value,vs 6 = .tuple [.agg [a,b].toArray,vI e.2].toArray:=⟨_,_,(hN 6 (zaC O)).1⟩
               obtain⟨vs,rfl⟩:=zat A
               have iy:Ow a3 26 [] [a] e.1.Commits:=(hN 6 (zaC O)).2.1
               have iz:Ow a3 27 [] [b] e.1.Heads:=(hN 6 (zaC O)).2.2
               have ap:vs 7 = .tuple [.agg [a,b].toArray,vI e.2].toArray:=(hN 7 (zaC O))
               obtain⟨vs,rfl⟩:=zat ap
               have bb:vs 8 = .agg [a,b].toArray:=(hN 8 (zaC O))
               obtain⟨vs,rfl⟩:=zat bb
               have be:vs 9=vI e.2:=(hN 9 (zaC O))
               obtain⟨vs,rfl⟩:=zat be
               obtain⟨y,bc⟩: ∃ y,vs 10=ptr (bx y):=⟨_,(hN 11 (zaC O)).1⟩
               obtain⟨vs,rfl⟩:=zat bc
               have i0:Bx a3 28 y [a,b]:=(hN 11 (zaC O)).2
               have cy:vs 12=vI e.2:=(hN 12 (zaC O))
               obtain⟨vs,rfl⟩:=zat cy
               refine Cw.seq ?_
               obtain⟨i1,i2,Y⟩:=zaY Y
               refine Cw.join 125 133 [133] (fun l w=> ∃ di dj,CW.w dj=w/\Le [] a3 dj/\l=[vB di]/\i1 di=some r) ?_ ?_
               ·rintro _ _ σ ⟨di,dj,rfl,b9,rfl,Y⟩
                rw[i2]at Y
                have fe:=iw.n b9
                refine cn Y (fun Y=>?_) fun Y=>?_
                ·exact sr (Nb O (.ret (rt Y fe)))
                ·refine sk (sr (Ni O (sr (la ((((((b6.up ar).up a1).up aw).up ax).up bh).up b9) (mi O (ca Y (fun _=>p20 (K:=[15,16]) (x0:=(Vm.Repo.mk a0.2.Commits a0.2.Heads)) (Repo.rd (K:=[15,16]) a0.2.Commits a0.2.Heads (((((e3.up aw).up ax).up bh).up b9).rd.sub (M:=[15,16]) O) (((((e4.up aw).up ax).up bh).up b9).rd.sub (M:=[15,16]) O))) fun l9 ma Y i3=>?_))))))
                 have dk:=fe.n i3
                 refine Ni O (ssr (mi O (Lw.lt O (nl (cn Y (fun Y=>?_) fun Y=>?_)))))
                 ·exact sr (Nb O (.ret (rt Y dk)))
                 ·refine sk (ssr (mi O (mi O (Lw.ne O (nl (cn Y (fun Y=>?_) fun Y=>?_))))))
                  ·exact sr (Nb O (.ret (rt Y dk)))
                  ·exact sk (sr (Nb O (.ret (rt Y dk))))
               ·refine rg (Lw.r O (R.lda (cs:=[a,b]) i0.cells O O) (la (((((e1.up ar).up a1).up aw).up ax).up bh) ?_))
                have i4:=cw.up ((av.sub (M:=[9,10,11,12,13,14,15,16,17,28]) O).trans ((aa.sub (M:=[9,10,11,12,13,14,15,16,17,28]) O).trans ((ak.sub (M:=[9,10,11,12,13,14,15,16,17,28]) O).trans ((ai.sub (M:=[9,10,11,12,13,14,15,16,17,28]) O).trans ((ac.sub (M:=[9,10,11,12,13,14,15,16,17,28]) O).trans ((S.sub (M:=[9,10,11,12,13,14,15,16,17,28]) O).trans ((X.sub (M:=[9,10,11,12,13,14,15,16,17,28]) O).trans ((V.sub (M:=[9,10,11,12,13,14,15,16,17,28]) O).trans ((z.sub (M:=[9,10,11,12,13,14,15,16,17,28]) O).trans ((B.sub (M:=[9,10,11,12,13,14,15,16,17,28]) O).trans ((E.sub (M:=[9,10,11,12,13,14,15,16,17,28]) O).trans ((F.sub (M:=[9,10,11,12,13,14,15,16,17,28]) O).trans ((C.sub (M:=[9,10,11,12,13,14,15,16,17,28]) O).trans ((G.sub (M:=[9,10,11,12,13,14,15,16,17,28]) O).trans ((H.sub (M:=[9,10,11,12,13,14,15,16,17,28]) O).trans ((I.sub (M:=[9,10,11,12,13,14,15,16,17,28]) O).trans ((J.sub (M:=[9,10,11,12,13,14,15,16,17,28]) O).trans ((D.sub (M:=[9,10,11,12,13,14,15,16,17,28]) O).trans ((L.sub (M:=[9,10,11,12,13,14,15,16,17,28]) O).trans ((ae.sub (M:=[9,10,11,12,13,14,15,16,17,28]) O).trans ((aj.sub (M:=[9,10,11,12,13,14,15,16,17,28]) O).trans ((aq.sub (M:=[9,10,11,12,13,14,15,16,17,28]) O).trans ((ar.sub (M:=[9,10,11,12,13,14,15,16,17,28]) O).trans ((a1.sub (M:=[9,10,11,12,13,14,15,16,17,28]) O).trans ((aw.sub (M:=[9,10,11,12,13,14,15,16,17,28]) O).trans ((ax.sub (M:=[9,10,11,12,13,14,15,16,17,28]) O).trans (bh.sub (M:=[9,10,11,12,13,14,15,16,17,28]) O))))))))))))))))))))))))))) O
                have i5:=cx.up ((av.sub (M:=[9,10,11,12,13,14,15,16,17,28]) O).trans ((aa.sub (M:=[9,10,11,12,13,14,15,16,17,28]) O).trans ((ak.sub (M:=[9,10,11,12,13,14,15,16,17,28]) O).trans ((ai.sub (M:=[9,10,11,12,13,14,15,16,17,28]) O).trans ((ac.sub (M:=[9,10,11,12,13,14,15,16,17,28]) O).trans ((S.sub (M:=[9,10,11,12,13,14,15,16,17,28]) O).trans ((X.sub (M:=[9,10,11,12,13,14,15,16,17,28]) O).trans ((V.sub (M:=[9,10,11,12,13,14,15,16,17,28]) O).trans ((z.sub (M:=[9,10,11,12,13,14,15,16,17,28]) O).trans ((B.sub (M:=[9,10,11,12,13,14,15,16,17,28]) O).trans ((E.sub (M:=[9,10,11,12,13,14,15,16,17,28]) O).trans ((F.sub (M:=[9,10,11,12,13,14,15,16,17,28]) O).trans ((C.sub (M:=[9,10,11,12,13,14,15,16,17,28]) O).trans ((G.sub (M:=[9,10,11,12,13,14,15,16,17,28]) O).trans ((H.sub (M:=[9,10,11,12,13,14,15,16,17,28]) O).trans ((I.sub (M:=[9,10,11,12,13,14,15,16,17,28]) O).trans ((J.sub (M:=[9,10,11,12,13,14,15,16,17,28]) O).trans ((D.sub (M:=[9,10,11,12,13,14,15,16,17,28]) O).trans ((L.sub (M:=[9,10,11,12,13,14,15,16,17,28]) O).trans ((ae.sub (M:=[9,10,11,12,13,14,15,16,17,28]) O).trans ((aj.sub (M:=[9,10,11,12,13,14,15,16,17,28]) O).trans ((aq.sub (M:=[9,10,11,12,13,14,15,16,17,28]) O).trans ((ar.sub (M:=[9,10,11,12,13,14,15,16,17,28]) O).trans ((a1.sub (M:=[9,10,11,12,13,14,15,16,17,28]) O).trans ((aw.sub (M:=[9,10,11,12,13,14,15,16,17,28]) O).trans ((ax.sub (M:=[9,10,11,12,13,14,15,16,17,28]) O).trans (bh.sub (M:=[9,10,11,12,13,14,15,16,17,28]) O))))))))))))))))))))))))))) O
                refine ca Y (fun _=>p14 (K:=[0,4,5,6,7,26,27]) (x0:=(Vm.Repo.mk e.1.Commits e.1.Heads)) ((Repo.rd (K:=[26,27]) e.1.Commits e.1.Heads (iy.rd.sub (M:=[26,27]) O) (iz.rd.sub (M:=[26,27]) O)).sub (M:=[0,4,5,6,7,26,27]) O) ((Repo.rd (K:=[0,4,5,6,7]) d.1.Commits d.1.Heads i4 i5).sub (M:=[0,4,5,6,7,26,27]) O)) fun md ff Y fg=>Lw.r O (R.not O) (mb O (bs Y (fun bn Y=>?_) fun bn Y=>?_))
                ·exact psk 3 bn O (Pb bn O (nl ((ag) ⟨true,ff,O,fg,O,Y⟩)))
                ·exact wak 3 bn (mi O (mi O (Lw.ne O (Pb bn O (nl ((ag) ⟨((e.2:Int) !=(d.2:Int)),ff,O,fg,O,Y⟩))))))
          ·refine rg (mi O (Lw.lt O (mb O (bs Y (fun bp Y=>?_) fun bp Y=>?_))))
           ·exact psk 4 bp O (Pb bp O (mb O (psk 3 O O (Pb O O (nl ((ag) ⟨true,ey,O,Le.refl _ _,O,Y⟩))))))
           ·refine wak 4 bp (la b6 (la e1 ?_))
            have i6:=cw.up ((av.sub (M:=[9,10,11,12,13,14,17]) O).trans ((aa.sub (M:=[9,10,11,12,13,14,17]) O).trans ((ak.sub (M:=[9,10,11,12,13,14,17]) O).trans ((ai.sub (M:=[9,10,11,12,13,14,17]) O).trans ((ac.sub (M:=[9,10,11,12,13,14,17]) O).trans ((S.sub (M:=[9,10,11,12,13,14,17]) O).trans ((X.sub (M:=[9,10,11,12,13,14,17]) O).trans ((V.sub (M:=[9,10,11,12,13,14,17]) O).trans ((z.sub (M:=[9,10,11,12,13,14,17]) O).trans ((B.sub (M:=[9,10,11,12,13,14,17]) O).trans ((E.sub (M:=[9,10,11,12,13,14,17]) O).trans ((F.sub (M:=[9,10,11,12,13,14,17]) O).trans ((C.sub (M:=[9,10,11,12,13,14,17]) O).trans ((G.sub (M:=[9,10,11,12,13,14,17]) O).trans ((H.sub (M:=[9,10,11,12,13,14,17]) O).trans ((I.sub (M:=[9,10,11,12,13,14,17]) O).trans ((J.sub (M:=[9,10,11,12,13,14,17]) O).trans ((D.sub (M:=[9,10,11,12,13,14,17]) O).trans ((L.sub (M:=[9,10,11,12,13,14,17]) O).trans ((ae.sub (M:=[9,10,11,12,13,14,17]) O).trans ((aj.sub (M:=[9,10,11,12,13,14,17]) O).trans (aq.sub (M:=[9,10,11,12,13,14,17]) O)))))))))))))))))))))) O
            have i7:=cx.up ((av.sub (M:=[9,10,11,12,13,14,17]) O).trans ((aa.sub (M:=[9,10,11,12,13,14,17]) O).trans ((ak.sub (M:=[9,10,11,12,13,14,17]) O).trans ((ai.sub (M:=[9,10,11,12,13,14,17]) O).trans ((ac.sub (M:=[9,10,11,12,13,14,17]) O).trans ((S.sub (M:=[9,10,11,12,13,14,17]) O).trans ((X.sub (M:=[9,10,11,12,13,14,17]) O).trans ((V.sub (M:=[9,10,11,12,13,14,17]) O).trans ((z.sub (M:=[9,10,11,12,13,14,17]) O).trans ((B.sub (M:=[9,10,11,12,13,14,17]) O).trans ((E.sub (M:=[9,10,11,12,13,14,17]) O).trans ((F.sub (M:=[9,10,11,12,13,14,17]) O).trans ((C.sub (M:=[9,10,11,12,13,14,17]) O).trans ((G.sub (M:=[9,10,11,12,13,14,17]) O).trans ((H.sub (M:=[9,10,11,12,13,14,17]) O).trans ((I.sub (M:=[9,10,11,12,13,14,17]) O).trans ((J.sub (M:=[9,10,11,12,13,14,17]) O).trans ((D.sub (M:=[9,10,11,12,13,14,17]) O).trans ((L.sub (M:=[9,10,11,12,13,14,17]) O).trans ((ae.sub (M:=[9,10,11,12,13,14,17]) O).trans ((aj.sub (M:=[9,10,11,12,13,14,17]) O).trans (aq.sub (M:=[9,10,11,12,13,14,17]) O)))))))))))))))))))))) O
            refine ca Y (fun _=>p14 (K:=[0,4,5,6,7,15,16]) (x0:=(Vm.Repo.mk U.1.Commits U.1.Heads)) ((Repo.rd (K:=[15,16]) U.1.Commits U.1.Heads (ez.rd.sub (M:=[15,16]) O) (e0.rd.sub (M:=[15,16]) O)).sub (M:=[0,4,5,6,7,15,16]) O) ((Repo.rd (K:=[0,4,5,6,7]) d.1.Commits d.1.Heads i6 i7).sub (M:=[0,4,5,6,7,15,16]) O)) fun me fh Y fi=>Lw.r O (R.not O) (Pb bp O (mb O (bs Y (fun bq Y=>?_) fun bq Y=>?_)))
            ·exact psk 3 bq O (Pb bq O (nl ((ag) ⟨true,fh,O,fi,O,Y⟩)))
            ·exact wak 3 bq (mi O (mi O (Lw.ne O (Pb bq O (nl ((ag) ⟨((U.2:Int) !=(d.2:Int)),fh,O,fi,O,Y⟩))))))
     ·refine rg (la eg (la ej ?_))
      have i8:=cw.up ((av.sub (M:=[11,14,17]) O).trans ((aa.sub (M:=[11,14,17]) O).trans ((ak.sub (M:=[11,14,17]) O).trans ((ai.sub (M:=[11,14,17]) O).trans ((ac.sub (M:=[11,14,17]) O).trans ((S.sub (M:=[11,14,17]) O).trans ((X.sub (M:=[11,14,17]) O).trans ((V.sub (M:=[11,14,17]) O).trans ((z.sub (M:=[11,14,17]) O).trans (B.sub (M:=[11,14,17]) O)))))))))) O
      have i9:=cx.up ((av.sub (M:=[11,14,17]) O).trans ((aa.sub (M:=[11,14,17]) O).trans ((ak.sub (M:=[11,14,17]) O).trans ((ai.sub (M:=[11,14,17]) O).trans ((ac.sub (M:=[11,14,17]) O).trans ((S.sub (M:=[11,14,17]) O).trans ((X.sub (M:=[11,14,17]) O).trans ((V.sub (M:=[11,14,17]) O).trans ((z.sub (M:=[11,14,17]) O).trans (B.sub (M:=[11,14,17]) O)))))))))) O
      refine ca Y (fun _=>p14 (K:=[0,4,5,6,7,15,16]) (x0:=(Vm.Repo.mk U.1.Commits U.1.Heads)) ((Repo.rd (K:=[15,16]) U.1.Commits U.1.Heads (eh.rd.sub (M:=[15,16]) O) (ei.rd.sub (M:=[15,16]) O)).sub (M:=[0,4,5,6,7,15,16]) O) ((Repo.rd (K:=[0,4,5,6,7]) d.1.Commits d.1.Heads i8 i9).sub (M:=[0,4,5,6,7,15,16]) O)) fun mf fj Y fm=>Lw.r O (R.not O) (mb O (bs Y (fun br Y=>?_) fun br Y=>?_))
      ·exact psk 3 br O (Pb br O (nl ((ag) ⟨true,fj,O,fm,O,Y⟩)))
      ·exact wak 3 br (mi O (mi O (Lw.ne O (Pb br O (nl ((ag) ⟨((U.2:Int) !=(d.2:Int)),fj,O,fm,O,Y⟩))))))
theorem p3 {x0 a b x1 d x2 f r}(h:Rd W K [a,b] x0)(i:Rd W K [d] x1)(k:Rd W K [vS x2.Branch,vS x2.Into,vS x2.By,f] x2)(x:Gl 0 W K)(Y:Vm.zea x0 x1 x2=some r):Q1 3 [.agg [a,b].toArray,d, .agg [vS x2.Branch,vS x2.Into,vS x2.By,f].toArray] W [] fun W' v=>v=vB r:=
 (c3 (h.view _) (i.view _) (k.view _) (x.view _) Y).ad (fk 0) fun _ _ e=>e
end Go.Sx
