/- Walks: each function answers as its model, printed by a program of ours. Conditions: the arguments read as they are given. -/
import Derived.Test.YtifbmanldeabeaaGreatDoorETs
import Derived.Test.YtifbmanldeabeaaGreatDoorEM0
import Derived.Test.YtifbmanldeabeaaGreatDoorEW0
import Derived.Test.YtifbmanldeabeaaGreatDoorEW5
import Derived.Test.YtifbmanldeabeaaGreatDoorEE
namespace Go.Sx
open Go Go.Proofs Go.Vm Rp
set_option linter.unusedVariables false
set_option linter.unusedSimpArgs false
variable {W W0:CW}{K:List Nat}
theorem c56 {x0 aj r}(h0:Rd W0 [0] [aj] x0)(Y:Vm.zcb x0=some r):Q0 56 [aj] W0 fun Wf v=> ∃ bq br,v = .tuple [.agg [bq,br].toArray,vI r.2.1,vS r.2.2].toArray/\OwS Wf [31] [] [bq] r.1.Commits/\OwS Wf [32] [] [br] r.1.Heads:=by
 unfold Vm.zcb at Y
 refine zak.of Tryz.func56 O O O O (sr (al 2 [.slice none 0 0, .slice none 0 0] fun F W1 l1 b1=>?_))
 have a2:=l1.o
 refine Gi O (Ns O (sr (mv aj O (cr Y (fun _=>p62 (k0:=3) (h0.ul a2)) ?_))))
 rintro G _ W6 Y l6 ⟨f,ak,rfl,cu,cv⟩
 have H:=cv.sub (M:=[0]) O
 have a8:=a2.n l6
 refine Np O (sr (mp O (cr Y (fun _=>p63 (k0:=4) (k1:=5) (c0:=3) (x0:=G) cu H O) ?_)))
 rintro I _ eg Y bw ⟨a,i,rfl,bz,b0,cx⟩
 have am:=bw.s
 refine al 6 [.slice none 0 0, .slice none 0 0] fun J eh B cy=>?_
 have an:=B.o
 refine sta cy (zaa (bz.up B).oc (zaa (b0.up B).oc zau)) fun ei Q b2=>?_
 have ao:=Q.s
 have b3:=(bz.up B).up Q
 have b4:=(b0.up B).up Q
 refine nl (sr (mp O (la b2 (cr Y (fun _=>p109 (K:=[0,4,5]) (c0:=3) (x0:=(Vm.l30Rd.mk G.b I.2)) (x1:=(Vm.Repo.mk I.1.Commits I.1.Heads)) ((cx.up B).up Q) ((H.ul ((am.trans an).trans ao)).sub (M:=[0,4,5]) O) ((Repo.rd (K:=[4,5]) I.1.Commits I.1.Heads (b3.rd.sub (M:=[4,5]) O) (b4.rd.sub (M:=[4,5]) O)).sub (M:=[0,4,5]) O) O) ?_))))
 rintro d _ cz Y S ⟨rfl,c1⟩
 have b5:=S.s
 have U:=b3.up S
 have af:=b2.up S
 refine Ni O (Cw.seq ?_)
 obtain⟨c2,c3,Y⟩:=za4 Y
 refine Cw.join 15 35 [35] (fun l w=> ∃ ap V z k X,CW.w X=w/\Le [3] cz X/\l=[vB ap]/\Rd X [0] [k] V/\Bx X 3 f [k,vI z]/\c2 ap V z=some r) ?_ ?_
 ·rintro _ _ σ ⟨ap,V,z,k,X,rfl,C,rfl,r39,b6,Y⟩
  rw[c3]at Y
  have b7:=((((a8.trans am).trans an).trans ao).trans b5).t C
  have aq:=(b4.up S).up C
  have b8:=(((((b1.up l6).up bw).up B).up Q).up S).up C
  refine cn Y (fun Y=>?_) fun Y=>?_
  ·refine Cw.seq ?_
   obtain⟨D,b9,Y⟩:=ob Y
   obtain⟨y,cb,Y⟩:=ob Y
   obtain⟨e,c4,Y⟩:=ob Y
   obtain⟨L,cc,Y⟩:=ob Y
   refine Cw.par [[],[],[],[2],[],[2,3,4],[2,3,4,5],[2,3,4,5,6],[],[],[9],[],[9,10,11],[9,10,11,12],[9,10,11,12,13],[9,10,11,12,13,14],[8,9,10,11,12,13,14,15],[2,3,4,5,6,7,8,9,10,11,12,13,14,15,16],[2,3,4,5,6,7,8,9,10,11,12,13,14,15,16,17],[2,3,4,5,6,7,8,9,10,11,12,13,14,15,16,17,18],[0,8,9,10,11,12,13,14,15,16],[0,1,8,9,10,11,12,13,14,15,16,20],[0,1,2,3,4,5,6,7,8,9,10,11,12,13,14,15,16,17,18,19,20,21]] [[],[],[],[2],[],[3,4],[5],[6],[24],[],[9],[],[10,11],[12],[13],[14],[8,15,24],[7,16],[7,17],[7,18],[0,23],[1],[19]] [[],[],[],[],[],[],[],[],[],[],[],[],[],[],[],[],[3],[],[],[],[2],[],[]] [[0],[1],[2],[3],[4],[5],[6],[7],[8],[9],[10],[11],[12],[13],[14],[15],[16],[7,17],[7,18],[19],[],[21],[22],[],[]] [[],[],[],[],[],[],[],[4],[],[],[],[],[],[],[4],[],[3],[],[],[],[2],[],[],[2],[3]] [0,1,2,3,4,5,6,7,8,9,10,11,12,13,14,15,16,17,18,19,20,21,22] [2,3] [fun vs W=>(vs 0) = .agg [a,i].toArray,fun vs W=>(vs 1)=vI d.1,fun vs W=>(vs 2)=ptr ((bx J).add 0),fun vs W=>(vs 3)=a,fun vs W=>(vs 4)=vI d.1,fun vs W=>(vs 5)=ptr ((slA a).add ((d.1).toNat*Rp.sz (Commit))),fun vs W=>(vs 6)=ptr (((slA a).add ((d.1).toNat*Rp.sz (Commit))).add 2),fun vs W=>Rd W [4] [(vs 7)] D.Tree,fun vs W=>(vs 8)=ptr (bx f),fun vs W=>(vs 9)=ptr ((bx J).add 0),fun vs W=>(vs 10)=a,fun vs W=>(vs 11)=vI d.1,fun vs W=>(vs 12)=ptr ((slA a).add ((d.1).toNat*Rp.sz (Commit))),fun vs W=>(vs 13)=ptr (((slA a).add ((d.1).toNat*Rp.sz (Commit))).add 2),fun vs W=>Rd W [4] [(vs 14)] y.Tree,fun vs W=>(vs 15)=vI (y.Tree.length:Int),fun vs W=>(vs 16)=vI e.1/\Bx W 3 f [k,vI e.2],fun vs W=>(vs 17)=ptr ((slA (vs 7)).add ((e.1).toNat*Rp.sz (File))),fun vs W=>(vs 18)=ptr (((slA (vs 7)).add ((e.1).toNat*Rp.sz (File))).add 0),fun vs W=>(vs 19)=vS L.Path,fun vs W=>Bx W 2 F [a,i],fun vs W=>(vs 21)=vI d.1,fun vs W=>(vs 22)=vS L.Path] [fun _ W=>Bx W 2 F [.slice none 0 0, .slice none 0 0],fun _ W=>Bx W 3 f [k,vI z]] mixed (by kernel_rfl) O (znG.cons (fun _ _ l=>b8.up l O) (znG.cons (fun _ _ l=>b6.up l O) znG.nil)) ?_
   intro ej Z
   have cd:=Z.o
   have N:=(U.up C).up Z
   have ar:=(af.up C).up Z
   refine⟨(zbe.cons ?_ (zbe.cons ?_ (zbe.cons ?_ (zbe.cons ?_ (zbe.cons ?_ (zbe.cons ?_ (zbe.cons ?_ (zbe.cons ?_ (zbe.cons ?_ (zbe.cons ?_ (zbe.cons ?_ (zbe.cons ?_ (zbe.cons ?_ (zbe.cons ?_ (zbe.cons ?_ (zbe.cons ?_ (zbe.cons ?_ (zbe.cons ?_ (zbe.cons ?_ (zbe.cons ?_ (zbe.cons ?_ (zbe.cons ?_ (zbe.cons ?_ zbe.nil))))))))))))))))))))))),(zel.cons SE (zel.cons SE (zel.cons SE (zel.cons SE (zel.cons SE (zel.cons SE (zel.cons SE (zel.cons (fun vs vs' W W' _ hv l hd h=>by(show Rd W' [4] [(vs' 7)] D.Tree);rw[hv 7 (zaU O)];exact h.up l (zge hd (K:=[4]) O)) (zel.cons SE (zel.cons SE (zel.cons SE (zel.cons SE (zel.cons SE (zel.cons SE (zel.cons (fun vs vs' W W' _ hv l hd h=>by(show Rd W' [4] [(vs' 14)] y.Tree);rw[hv 14 (zaU O)];exact h.up l (zge hd (K:=[4]) O)) (zel.cons SE (zel.cons (fun vs vs' W W' _ hv l hd h=>by(show(vs' 16)=vI e.1/\Bx W' 3 f [k,vI e.2]);rw[hv 16 (zaU O)];exact⟨h.1,h.2.up l (zeN hd (c:=3) O)⟩) (zel.cons (fun vs vs' W W' _ hv l hd h=>by(show(vs' 17)=ptr ((slA (vs' 7)).add ((e.1).toNat*Rp.sz (File))));rw[hv 7 (zaU O),hv 17 (zaU O)];exact h) (zel.cons (fun vs vs' W W' _ hv l hd h=>by(show(vs' 18)=ptr (((slA (vs' 7)).add ((e.1).toNat*Rp.sz (File))).add 0));rw[hv 7 (zaU O),hv 18 (zaU O)];exact h) (zel.cons SE (zel.cons (fun vs vs' W W' _ hv l hd h=>by(show Bx W' 2 F [a,i]);exact h.up l (zeN hd (c:=2) O)) (zel.cons SE (zel.cons SE (zel.cons (fun _ _ _ _ _ _ l hd h=>h.up l (zeN hd (c:=2) O)) (zel.cons (fun _ _ _ _ _ _ l hd h=>h.up l (zeN hd (c:=3) O)) zel.nil))))))))))))))))))))))))),?_⟩
   ·intro vs ek lW hN hV
    exact Trq (R.lda (cs:=[a,i]) (ar.up lW O).cells O O) O
   ·intro vs el lW hN hV
    exact Trq (R.mv (v:=vI d.1) O) O
   ·intro vs em lW hN hV
    exact Trq (R.fa O) O
   ·intro vs en lW hN hV
    have au:vs 2=ptr ((bx J).add 0):=(hN 2 (zaU O))
    obtain⟨vs,rfl⟩:=zax au
    exact Trq (R.ld (v:=a) O O ((ar.up lW O).cell O)) O
   ·intro vs eo lW hN hV
    exact Trq (R.mv (v:=vI d.1) O) O
   ·intro vs ep lW hN hV
    have av:vs 3=a:=(hN 3 (zaU O))
    obtain⟨vs,rfl⟩:=zax av
    have aw:vs 4=vI d.1:=(hN 4 (zaU O))
    obtain⟨vs,rfl⟩:=zax aw
    exact Trq (R.ix (α:=Commit) (N.up lW O).rd b9 O O O) O
   ·intro vs er lW hN hV
    have ax:vs 5=ptr ((slA a).add ((d.1).toNat*Rp.sz (Commit))):=(hN 5 (zaU O))
    obtain⟨vs,rfl⟩:=zax ax
    exact Trq (R.fa O) O
   ·intro vs c5 lW hN hV
    have ay:vs 6=ptr (((slA a).add ((d.1).toNat*Rp.sz (Commit))).add 2):=(hN 6 (zaU O))
    obtain⟨vs,rfl⟩:=zax ay
    obtain⟨c6,c133,r134⟩:=(Commit.at2 ((N.up lW O).rd.at_ b9)).cell O
    exact Trq (R.ld O O c133) (show Rd c5 [4] [c6] D.Tree from r134)
   ·intro vs c7 lW hN hV
    have es:Bx c7 3 f [k,vI z]:=hN 24 (zaU O)
    exact Trq (R.mv (v:=ptr (bx f)) O) O
   ·intro vs et lW hN hV
    exact Trq (R.fa O) O
   ·intro vs eu lW hN hV
    have az:vs 9=ptr ((bx J).add 0):=(hN 9 (zaU O))
    obtain⟨vs,rfl⟩:=zax az
    exact Trq (R.ld (v:=a) O O ((ar.up lW O).cell O)) O
   ·intro vs ew lW hN hV
    exact Trq (R.mv (v:=vI d.1) O) O
   ·intro vs ex lW hN hV
    have a0:vs 10=a:=(hN 10 (zaU O))
    obtain⟨vs,rfl⟩:=zax a0
    have a1:vs 11=vI d.1:=(hN 11 (zaU O))
    obtain⟨vs,rfl⟩:=zax a1
    exact Trq (R.ix (α:=Commit) (N.up lW O).rd cb O O O) O
   ·intro vs ey lW hN hV
    have a3:vs 12=ptr ((slA a).add ((d.1).toNat*Rp.sz (Commit))):=(hN 12 (zaU O))
    obtain⟨vs,rfl⟩:=zax a3
    exact Trq (R.fa O) O
   ·intro vs c8 lW hN hV
    have a4:vs 13=ptr (((slA a).add ((d.1).toNat*Rp.sz (Commit))).add 2):=(hN 13 (zaU O))
    obtain⟨vs,rfl⟩:=zax a4
    obtain⟨c9,c172,r173⟩:=(Commit.at2 ((N.up lW O).rd.at_ cb)).cell O
    exact Trq (R.ld O O c172) (show Rd c8 [4] [c9] y.Tree from r173)
   ·intro vs da lW hN hV
    obtain⟨a5,a6⟩: ∃ v,vs 14=v:=⟨_,O⟩
    obtain⟨vs,rfl⟩:=zax a6
    have db:Rd da [4] [a5] y.Tree:=(hN 14 (zaU O))
    exact Trq (zpN (xs:=y.Tree) db O) O
   ·intro vs dc lW hN hV
    have dd:=cd.t lW O
    have a7:vs 8=ptr (bx f):=(hN 8 (zaU O))
    obtain⟨vs,rfl⟩:=zax a7
    have a9:vs 15=vI (y.Tree.length:Int):=(hN 15 (zaU O))
    obtain⟨vs,rfl⟩:=zax a9
    have de:Bx dc 3 f [k,vI z]:=hN 24 (zaU O)
    refine Tr.mono (T.call O (p110 (c0:=3) (x0:=(Vm.l30Rd.mk V z)) de (r39.ul dd) O c4)) ?_
    rintro _ _ ⟨ce,rfl,df,⟨rfl,dg⟩⟩
    exact⟨ce,O,df,(show(vI e.1:Value)=vI e.1/\Bx ce 3 f [k,vI e.2] from⟨O,dg⟩)⟩
   ·intro vs cf lW hN hV
    obtain⟨x,E⟩: ∃ v,vs 7=v:=⟨_,O⟩
    obtain⟨vs,rfl⟩:=zax E
    have dh:Rd cf [4] [x] D.Tree:=(hN 7 (zaU O))
    have ba:vs 16=vI e.1:=(hN 16 (zaU O)).1
    obtain⟨vs,rfl⟩:=zax ba
    have ez:Bx cf 3 f [k,vI e.2]:=(hN 16 (zaU O)).2
    exact Trq (R.ix (α:=File) dh cc O O O) O
   ·intro vs di lW hN hV
    obtain⟨x,E⟩: ∃ v,vs 7=v:=⟨_,O⟩
    obtain⟨vs,rfl⟩:=zax E
    have e0:Rd di [4] [x] D.Tree:=(hN 7 (zaU O))
    have bb:vs 17=ptr ((slA x).add ((e.1).toNat*Rp.sz (File))):=(hN 17 (zaU O))
    obtain⟨vs,rfl⟩:=zax bb
    exact Trq (R.fa O) O
   ·intro vs dj lW hN hV
    obtain⟨x,E⟩: ∃ v,vs 7=v:=⟨_,O⟩
    obtain⟨vs,rfl⟩:=zax E
    have dk:Rd dj [4] [x] D.Tree:=(hN 7 (zaU O))
    have bc:vs 18=ptr (((slA x).add ((e.1).toNat*Rp.sz (File))).add 0):=(hN 18 (zaU O))
    obtain⟨vs,rfl⟩:=zax bc
    exact Trq (R.ld O O (File.at0 (dk.at_ cc)).str) O
   ·intro vs dl lW hN hV
    have be:vs 0 = .agg [a,i].toArray:=(hN 0 (zaU O))
    obtain⟨vs,rfl⟩:=zax be
    have dm:Bx dl 2 F [.slice none 0 0, .slice none 0 0]:=hN 23 (zaU O)
    refine Tr.mono (T.sta (vs:=[a,i]) dm O O (zaa (N.up lW O).oc (zaa ((aq.up Z).up lW O).oc zau)) O O) ?_
    rintro _ _ ⟨cg,rfl,dn,dp⟩
    exact⟨cg,O,dn,(show Bx cg 2 F [a,i] from dp)⟩
   ·intro vs e1 lW hN hV
    have bg:vs 1=vI d.1:=(hN 1 (zaU O))
    obtain⟨vs,rfl⟩:=zax bg
    exact Trq (R.as (v:=vI d.1) O) O
   ·intro vs e2 lW hN hV
    have bh:vs 19=vS L.Path:=(hN 19 (zaU O))
    obtain⟨vs,rfl⟩:=zax bh
    exact Trq (R.as (v:=vS L.Path) O) O
   ·intro vs ah bi hN
    have dq:=(b7.trans cd).t bi
    have be:vs 0 = .agg [a,i].toArray:=(hN 0 (zaU O))
    obtain⟨vs,rfl⟩:=zax be
    have bg:vs 1=vI d.1:=(hN 1 (zaU O))
    obtain⟨vs,rfl⟩:=zax bg
    have au:vs 2=ptr ((bx J).add 0):=(hN 2 (zaU O))
    obtain⟨vs,rfl⟩:=zax au
    have av:vs 3=a:=(hN 3 (zaU O))
    obtain⟨vs,rfl⟩:=zax av
    have aw:vs 4=vI d.1:=(hN 4 (zaU O))
    obtain⟨vs,rfl⟩:=zax aw
    have ax:vs 5=ptr ((slA a).add ((d.1).toNat*Rp.sz (Commit))):=(hN 5 (zaU O))
    obtain⟨vs,rfl⟩:=zax ax
    have ay:vs 6=ptr (((slA a).add ((d.1).toNat*Rp.sz (Commit))).add 2):=(hN 6 (zaU O))
    obtain⟨vs,rfl⟩:=zax ay
    obtain⟨x,E⟩: ∃ v,vs 7=v:=⟨_,O⟩
    obtain⟨vs,rfl⟩:=zax E
    have e3:Rd ah [4] [x] D.Tree:=(hN 7 (zaU O))
    have a7:vs 8=ptr (bx f):=(hN 8 (zaU O))
    obtain⟨vs,rfl⟩:=zax a7
    have az:vs 9=ptr ((bx J).add 0):=(hN 9 (zaU O))
    obtain⟨vs,rfl⟩:=zax az
    have a0:vs 10=a:=(hN 10 (zaU O))
    obtain⟨vs,rfl⟩:=zax a0
    have a1:vs 11=vI d.1:=(hN 11 (zaU O))
    obtain⟨vs,rfl⟩:=zax a1
    have a3:vs 12=ptr ((slA a).add ((d.1).toNat*Rp.sz (Commit))):=(hN 12 (zaU O))
    obtain⟨vs,rfl⟩:=zax a3
    have a4:vs 13=ptr (((slA a).add ((d.1).toNat*Rp.sz (Commit))).add 2):=(hN 13 (zaU O))
    obtain⟨vs,rfl⟩:=zax a4
    obtain⟨a5,a6⟩: ∃ v,vs 14=v:=⟨_,O⟩
    obtain⟨vs,rfl⟩:=zax a6
    have e4:Rd ah [4] [a5] y.Tree:=(hN 14 (zaU O))
    have a9:vs 15=vI (y.Tree.length:Int):=(hN 15 (zaU O))
    obtain⟨vs,rfl⟩:=zax a9
    have ba:vs 16=vI e.1:=(hN 16 (zaU O)).1
    obtain⟨vs,rfl⟩:=zax ba
    have e5:Bx ah 3 f [k,vI e.2]:=(hN 16 (zaU O)).2
    have bb:vs 17=ptr ((slA x).add ((e.1).toNat*Rp.sz (File))):=(hN 17 (zaU O))
    obtain⟨vs,rfl⟩:=zax bb
    have bc:vs 18=ptr (((slA x).add ((e.1).toNat*Rp.sz (File))).add 0):=(hN 18 (zaU O))
    obtain⟨vs,rfl⟩:=zax bc
    have bh:vs 19=vS L.Path:=(hN 19 (zaU O))
    obtain⟨vs,rfl⟩:=zax bh
    have dr:Bx ah 2 F [a,i]:=(hN 20 (zaU O))
    have ds:vs 21=vI d.1:=(hN 21 (zaU O))
    obtain⟨vs,rfl⟩:=zax ds
    have dt:vs 22=vS L.Path:=(hN 22 (zaU O))
    obtain⟨vs,rfl⟩:=zax dt
    obtain⟨e6,du,bj,dv⟩:=(N.up bi).dyeO 31
    have dw:=dq.t bj
    obtain⟨e7,dx,bk,dy⟩:=(((aq.up Z).up bi).up bj).dyeO 32
    have dz:=dw.t bk
    cases Y
    rw[<- dx.trans (du)]
    exact Cw.ret (zwV (zfW.c O ((dr.up bj).up bk) (zfW.t O (zfW.t O zfW.n))) (Res.mk dz ⟨a,i,O,(dv.up bk).s,dy.s⟩))
  ·refine sk (Cw.seq (Cw.draw [3] [(0,1),(1,0),(2,0),(3,2),(4,3),(5,0),(6,0)] mixed (by kernel_rfl) fun e8 P=>?_))
   have ch:=P.o
   refine Mw.q O O (fun _ c=>R.lda (cs:=[a,i]) (((af.up C).up P).clcs O c) O O) (Di O (Dp O ?_))
   obtain⟨e9,d0,Y⟩:=ob Y
   refine Mw.t O O (T.call O (p111 (c0:=3) (x0:=(Vm.l30Rd.mk V z)) (b6.up P) (r39.ul ch) O d0)) ?_
   rintro _ _ ⟨fb,rfl,aa,⟨rfl,fc⟩⟩
   have d1:=(b7.trans ch).t aa
   have ci:=((U.up C).up P).up aa
   have cj:=(aq.up P).up aa
   refine m0 aa fun fd=>Mw.lu O (T.sta (vs:=[a,i]) ((b8.up P).up aa) O O (zaa ci.oc (zaa cj.oc zau)) O O) ?_
   rintro _ _ ⟨fe,rfl,bl,d2⟩
   have d3:=d1.t bl
   refine Hi O (Hs O (Mw.nil ?_))
   obtain⟨ff,d4,bm,d5⟩:=(ci.up bl).dyeO 31
   have d6:=d3.t bm
   obtain⟨fg,d7,bn,d8⟩:=((cj.up bl).up bm).dyeO 32
   have d9:=d6.t bn
   cases Y
   rw[<- d7.trans (d4)]
   exact Cw.ret (zwV (zfW.c O ((d2.up bm).up bn) (zfW.t O (zfW.t O zfW.n))) (Res.mk d9 ⟨a,i,O,(d5.up bn).s,d8.s⟩))
 ·refine rg (mi O (fl af O (Lw.ln I.1.Commits U.rd O (Lw.sub O (ca Y (fun _=>p80) fun fh ck Y A=>?_)))))
  have ai:=(((am.trans an).trans ao).trans b5).n A
  have bp:=c1.up A
  refine mb O (bs Y (fun ac Y=>?_) fun ac Y=>?_)
  ·refine wak 8 ac (fl (af.up A) O (mi O ?_))
   obtain⟨ea,cl,Y⟩:=ob Y
   refine Lw.r O (R.ix (α:=Commit) (U.up A).rd cl O O O) (Lw.fa O ?_)
   obtain⟨fi,c300,r301⟩:=(Commit.at2 ((U.up A).rd.at_ cl)).cell O
   refine Lw.r O (R.ld O O c300) (Lw.ln ea.Tree r301 O (Lw.gt O (Pb ac O (mb O (bs Y (fun ae Y=>?_) fun ae Y=>?_)))))
   ·refine wak 3 ae (mp O (cr Y (fun _=>p110 (c0:=3) (x0:=(Vm.l30Rd.mk G.b d.2)) bp (H.ul ai) O) ?_))
    rintro cm _ eb Y co ⟨rfl,ec⟩
    have ed:=ai.t co
    exact Lw.gt O (Pb ae O (nl ((ag) ⟨decide (0< (cm.1:Int)),G.b,cm.2,ak,eb,O,(A.j co).w,O,(H.ul ed),ec,Y⟩)))
   ·exact psk 3 ae O (Pb ae O (nl ((ag) ⟨false,G.b,d.2,ak,ck,O,A.w,O,(H.ul ai),bp,Y⟩)))
  ·exact psk 8 ac O (Pb ac O (mb O (psk 3 O O (Pb O O (nl ((ag) ⟨false,G.b,d.2,ak,ck,O,A.w,O,(H.ul ai),bp,Y⟩))))))
theorem p56 {x0 d k0 k1 r}(f:Rd W K [d] x0)(Y:Vm.zcb x0=some r):Q1 56 [d] W [] fun W' v=> ∃ a b,v = .tuple [.agg [a,b].toArray,vI r.2.1,vS r.2.2].toArray/\Ow W' k0 [] [a] r.1.Commits/\Ow W' k1 [] [b] r.1.Heads:=
 zak.adJ (J:=[]) (fun c=>bif Nat.beq c 0 then 0 else bif Nat.beq c 31 then k0 else bif Nat.beq c 32 then k1 else 0) (c56 (f.view _) Y) fun _ _ ⟨a,b,e,h,i⟩=>⟨a,b,e,h.one1.backN O,i.one1.backN O⟩
theorem c21 {x0 e r}(C:Rd W0 [0] [e] x0)(Y:Vm.zbL x0=some r):Q0 21 [e] W0 fun Wf v=> ∃ k x,v = .tuple [.agg [k,x].toArray,vI r.2.1,vS r.2.2].toArray/\OwS Wf [31] [] [k] r.1.Commits/\OwS Wf [32] [] [x] r.1.Heads:=by
 unfold Vm.zbL at Y
 refine zak.of Tryz.func21 O O O O (sr (al 2 [.slice none 0 0, .slice none 0 0] fun P Q D E=>?_))
 have y:=D.o
 refine Gi O (Ns O (sr (mv e O (cr Y (fun _=>p56 (k0:=3) (k1:=4) (C.ul y)) ?_))))
 rintro a _ S Y z ⟨b,d,rfl,A,B⟩
 have F:=y.n z
 refine Lw.r O (R.ext (vs:=[.agg [b,d].toArray,vI a.2.1,vS a.2.2]) (v:= .agg [b,d].toArray) O O) (Lw.r O (R.ext (vs:=[.agg [b,d].toArray,vI a.2.1,vS a.2.2]) (v:=vI a.2.1) O O) (Lw.r O (R.ext (vs:=[.agg [b,d].toArray,vI a.2.1,vS a.2.2]) (v:=vS a.2.2) O O) (sta (E.up z) (zaa A.oc (zaa B.oc zau)) fun T f G=>?_)))
 have H:=F.t f
 refine Gi O (Ns O ?_)
 obtain⟨U,I,h,J⟩:=(A.up f).dyeO 31
 have K:=H.t h
 obtain⟨V,L,i,M⟩:=((B.up f).up h).dyeO 32
 have N:=K.t i
 cases Y
 rw[<- L.trans (I)]
 exact Cw.ret (zwV (zfW.c O ((G.up h).up i) (zfW.t O (zfW.t O zfW.n))) (Res.mk N ⟨b,d,O,(J.up i).s,M.s⟩))
theorem p21 {x0 d k0 k1 r}(f:Rd W K [d] x0)(Y:Vm.zbL x0=some r):Q1 21 [d] W [] fun W' v=> ∃ a b,v = .tuple [.agg [a,b].toArray,vI r.2.1,vS r.2.2].toArray/\Ow W' k0 [] [a] r.1.Commits/\Ow W' k1 [] [b] r.1.Heads:=
 zak.adJ (J:=[]) (fun c=>bif Nat.beq c 0 then 0 else bif Nat.beq c 31 then k0 else bif Nat.beq c 32 then k1 else 0) (c21 (f.view _) Y) fun _ _ ⟨a,b,e,h,i⟩=>⟨a,b,e,h.one1.backN O,i.one1.backN O⟩
theorem c94 {x0 x1 x2 r}(Y:Vm.zdw x0 x1 x2=some r):Q0 94 [vI x0,vI x1,vI x2] W0 fun Wf v=>v=vB r:=by
 unfold Vm.zdw at Y
 refine zak.of Tryz.func94 O O O O (sr (Nb O ?_))
 obtain⟨e,f,Y⟩:=za4 Y
 refine Cw.join 7 14 [6] (fun l w=> ∃ b d,CW.w d=w/\Le [] W0 d/\l=[vB b]/\e b=some r) ?_ ?_
 ·rintro _ _ σ ⟨b,d,rfl,h,rfl,Y⟩
  rw[f]at Y
  have i:=h.o
  exact .ret (rt Y i)
 ·refine rg (mi O (mi O (Lw.le O (mb O (bs Y (fun a Y=>?_) fun a Y=>?_)))))
  ·exact wak 3 a (mi O (mi O (Lw.le O (Pb a O (Nb O ((ag) ⟨decide (x0<=(x2:Int)),W0,O,Le.refl _ _,O,Y⟩))))))
  ·exact psk 3 a O (Pb a O (Nb O ((ag) ⟨false,W0,O,Le.refl _ _,O,Y⟩)))
theorem p94 {x0 x1 x2 r}(Y:Vm.zdw x0 x1 x2=some r):Q1 94 [vI x0,vI x1,vI x2] W [] fun W' v=>v=vB r:=
 (c94 (W0:=W.view [] []) Y).ad (fk 0) fun _ _ e=>e
theorem c143 {x0 r}(Y:Vm.zdl x0=some r):Q0 143 [.int .u8 (UInt8.toNat x0:Int)] W0 fun Wf v=>v=vB r:=by
 unfold Vm.zdl at Y
 refine zak.of Tryz.func143 O O O O (sr (Nb O ?_))
 obtain⟨i,k,Y⟩:=za4 Y
 refine Cw.join 3 16 [2] (fun l w=> ∃ f h,CW.w h=w/\Le [] W0 h/\l=[vB f]/\i f=some r) ?_ ?_
 ·rintro _ _ σ ⟨f,h,rfl,x,rfl,Y⟩
  rw[k]at Y
  have y:=x.o
  exact .ret (rt Y y)
 ·refine rg (mv (.int .u8 (UInt8.toNat x0:Int)) O (Lw.ge O (mb O (bs Y (fun b Y=>?_) fun b Y=>?_))))
  ·refine wak 2 b (mv (.int .u8 (UInt8.toNat x0:Int)) O (Lw.le O (Pb b O (mb O (bs Y (fun a Y=>?_) fun a Y=>?_)))))
   ·exact psk 3 a O (puk 2 O (psk 1 a O (Pb a O (Nb O ((ag) ⟨true,W0,O,Le.refl _ _,O,Y⟩)))))
   ·refine wak 3 a (mv (.int .u8 (UInt8.toNat x0:Int)) O (Lw.ge O (mb O (bs Y (fun d Y=>?_) fun d Y=>?_))))
    ·exact wak 2 d (mv (.int .u8 (UInt8.toNat x0:Int)) O (Lw.le O (wak 1 a (Pb d O (Pb a O (Nb O ((ag) ⟨decide (((UInt8.toNat x0:Int):Int)<=(57:Int)),W0,O,Le.refl _ _,O,Y⟩)))))))
    ·exact psk 2 d O (wak 1 a (Pb d O (Pb a O (Nb O ((ag) ⟨false,W0,O,Le.refl _ _,O,Y⟩)))))
  ·refine psk 2 b O (Pb b O (mb O (wak 3 O (mv (.int .u8 (UInt8.toNat x0:Int)) O (Lw.ge O (mb O (bs Y (fun e Y=>?_) fun e Y=>?_)))))))
   ·exact wak 2 e (mv (.int .u8 (UInt8.toNat x0:Int)) O (Lw.le O (wak 1 O (Pb e O (Pb O O (Nb O ((ag) ⟨decide (((UInt8.toNat x0:Int):Int)<=(57:Int)),W0,O,Le.refl _ _,O,Y⟩)))))))
   ·exact psk 2 e O (wak 1 O (Pb e O (Pb O O (Nb O ((ag) ⟨false,W0,O,Le.refl _ _,O,Y⟩)))))
theorem p143 {x0 r}(Y:Vm.zdl x0=some r):Q1 143 [.int .u8 (UInt8.toNat x0:Int)] W [] fun W' v=>v=vB r:=
 (c143 (W0:=W.view [] []) Y).ad (fk 0) fun _ _ e=>e
theorem c92 {x0 r}(Y:Vm.zc1 x0=some r):Q0 92 [vS x0] W0 fun Wf v=>v=vB r:=by
 unfold Vm.zc1 at Y
 refine zak.of Tryz.func92 O O O O (sr (Nb O (ssr (ms O (Lw.r O (R.lenS O) (ca Y (fun _=>p94) fun D e Y x=>?_))))))
 have f:=x.o
 refine Lw.r O (R.not O) (nl (cn Y (fun Y=>?_) fun Y=>?_))
 ·exact sr (Nb O (.ret (rt Y f)))
 ·refine sk (ssr (Ni O (Cw.block ?_)))
  obtain⟨y,z,Y⟩:=za4 Y
  refine Cw.loop 8 18 [2,3] (fun m l w=> ∃ a b d,CW.w d=w/\Le [] e d/\l=[vB a,vI b]/\Vm.zbV x0 y m a b=some r) _ ⟨false,0,e,O,Le.refl _ _,O,Y⟩ ?_
  rintro(_ |E) _ _ σ ⟨a,b,d,rfl,h,rfl,Y⟩
  ·cases Y
  unfold Vm.zbV at Y
  have i:=f.n h
  refine ssr (mi O (ms O (Lw.r O (R.lenS O) (Lw.lt O (nl (cn Y (fun Y=>?_) fun Y=>?_))))))
  ·refine sk (Cw.seq (Cw.block (sr (ms O (mi O ?_)))))
   obtain⟨F,A,Y⟩:=ob Y
   refine Lw.r O (R.chm A O O) (ca Y (fun _=>p143) fun G B Y k=>?_)
   have C:=i.n k
   refine Lw.r O (R.not O) (nl (cn Y (fun Y=>?_) fun Y=>?_))
   ·exact sr (Nb O (.ret (rt Y C)))
   ·exact sk (rg (mi O (Lw.add O (Ni O ((agm) ⟨a,w64 (b+1),B,O,(h.j k).w,O,Y⟩)))))
  ·refine Cw.exit ?_
   rw[z]at Y
   exact sr (Nb O (.ret (rt Y i)))
theorem p92 {x0 r}(Y:Vm.zc1 x0=some r):Q1 92 [vS x0] W [] fun W' v=>v=vB r:=
 (c92 (W0:=W.view [] []) Y).ad (fk 0) fun _ _ e=>e
theorem c172 {x0 r}(Y:Vm.zeD x0=some r):Q0 172 [vS x0] W0 fun Wf v=>v=vB r:=by
 unfold Vm.zeD at Y
 refine zak.of Tryz.func172 O O O O (sr (Nb O (ssr (ms O (Lw.r O (R.lenS O) (Lw.gt O (nl (cn Y (fun Y=>?_) fun Y=>?_))))))))
 ·exact sr (Nb O (.ret (rt Y (Le.refl _ _))))
 ·refine sk (ssr (Ni O (Cw.block ?_)))
  obtain⟨x,y,Y⟩:=za4 Y
  refine Cw.loop 7 22 [2,3] (fun m l w=> ∃ d e a,CW.w a=w/\Le [] W0 a/\l=[vB d,vI e]/\Vm.zbW x0 x m d e=some r) _ ⟨false,0,W0,O,Le.refl _ _,O,Y⟩ ?_
  rintro(_ |F) _ _ σ ⟨d,e,a,rfl,i,rfl,Y⟩
  ·cases Y
  unfold Vm.zbW at Y
  have k:=i.o
  refine ssr (mi O (ms O (Lw.r O (R.lenS O) (Lw.lt O (nl (cn Y (fun Y=>?_) fun Y=>?_))))))
  ·refine sk (Cw.seq (Cw.block ?_))
   obtain⟨z,A,Y⟩:=za4 Y
   refine Cw.join 13 22 [22] (fun l w=> ∃ h f,CW.w f=w/\Le [] a f/\l=[vB h]/\z h=some r) ?_ ?_
   ·rintro _ _ σ ⟨h,f,rfl,l10,rfl,Y⟩
    rw[A]at Y
    have B:=k.n l10
    refine cn Y (fun Y=>?_) fun Y=>?_
    ·exact sr (Nb O (.ret (rt Y B)))
    ·exact sk (rg (mi O (Lw.add O (Ni O ((agm) ⟨d,w64 (e+1),f,O,(i.j l10).w,O,Y⟩)))))
   ·refine rg (ms O (mi O ?_))
    obtain⟨G,C,Y⟩:=ob Y
    refine Lw.r O (R.chm C O O) (Lw.lt O (mb O (bs Y (fun b Y=>?_) fun b Y=>?_)))
    ·exact psk 4 b O (Pb b O (nl ((ag) ⟨true,a,O,Le.refl _ _,O,Y⟩)))
    ·refine wak 4 b (ms O (mi O ?_))
     obtain⟨D,E,Y⟩:=ob Y
     exact Lw.r O (R.chm E O O) (Lw.gt O (Pb b O (nl ((ag) ⟨decide ((126:Int)< ((UInt8.toNat D:Int):Int)),a,O,Le.refl _ _,O,Y⟩))))
  ·refine Cw.exit ?_
   rw[y]at Y
   exact sr (Nb O (.ret (rt Y k)))
theorem p172 {x0 r}(Y:Vm.zeD x0=some r):Q1 172 [vS x0] W [] fun W' v=>v=vB r:=
 (c172 (W0:=W.view [] []) Y).ad (fk 0) fun _ _ e=>e
theorem c144 {x0 a r}(b:Rd W0 [0] [a] x0)(Y:Vm.zeE x0=some r):Q0 144 [a] W0 fun Wf v=>v=vB r:=by
 unfold Vm.zeE at Y
 refine zak.of Tryz.func144 O O O O (sr (Nb O (ssr (mv a O (Lw.ln x0 b O (Lw.gt O (nl (cn Y (fun Y=>?_) fun Y=>?_))))))))
 ·exact sr (Nb O (.ret (rt Y (Le.refl _ _))))
 ·refine sk (ssr (mv a O (Lw.ln x0 b O (mi O (nl (Cw.block ?_))))))
  obtain⟨z,A,Y⟩:=za4 Y
  refine Cw.loop 10 17 [2,4,10] (fun m l w=> ∃ d e i h,CW.w h=w/\Le [] W0 h/\l=[vB d,i,vI e]/\Vm.zbX x0 z m d e=some r) _ ⟨false,0,undef,W0,O,Le.refl _ _,O,Y⟩ ?_
  rintro(_ |E) _ _ σ ⟨d,e,i,h,rfl,k,rfl,Y⟩
  ·cases Y
  unfold Vm.zbX at Y
  have f:=k.o
  refine sr (Lw.lt O (nl (Cw.seq (cn Y (fun Y=>?_) fun Y=>?_))))
  ·refine sk (Cw.seq (Cw.block (sr ?_)))
   obtain⟨B,x,Y⟩:=ob Y
   refine Lw.r O (R.ix (α:=Str) (b.ul f) x O O O) (Lw.r O (R.ld O O ((b.ul f).at_ x).str) (Ns O (sr (ms O (ca Y (fun _=>p172) fun F C Y y=>?_)))))
   have D:=f.n y
   refine Lw.r O (R.not O) (nl (cn Y (fun Y=>?_) fun Y=>?_))
   ·exact sr (Nb O (.ret (rt Y D)))
   ·exact sk (rg (Lw.add O (mi O (nl ((agm) ⟨d,w64 (e+1),vS B,C,O,(k.j y).w,O,Y⟩)))))
  ·refine Cw.exit ?_
   rw[A]at Y
   exact sr (Nb O (.ret (rt Y f)))
theorem p144 {x0 a r}(b:Rd W K [a] x0)(Y:Vm.zeE x0=some r):Q1 144 [a] W [] fun W' v=>v=vB r:=
 (c144 (b.view _) Y).ad (fk 0) fun _ _ e=>e
theorem c121 {x0 r}(C:Gl 0 W0 [0])(Y:Vm.zdx x0=some r):Q0 121 [vS x0] W0 fun Wf v=>v=vB r:=by
 unfold Vm.zdx at Y
 refine zak.of Tryz.func121 O O O O (sr (Nb O (sr (ms O (cr Y (fun _=>p160 (k0:=2) C) ?_)))))
 rintro f h k Y D ⟨_,rfl,a⟩
 have x:=D.o
 refine Nv h O (ssr (mv h O (Lw.ln f a.rd O (Lw.gt O (nl (cn Y (fun Y=>?_) fun Y=>?_))))))
 ·exact sr (Nb O (.ret (rt Y x)))
 ·refine sk (ssr (mv h O (Lw.ln f a.rd O (mi O (nl (Cw.block ?_))))))
  obtain⟨E,F,Y⟩:=za4 Y
  refine Cw.loop 13 20 [2,5,13] (fun m l w=> ∃ b d y i,CW.w i=w/\Le [] k i/\l=[vB b,y,vI d]/\Vm.zbY f E m b d=some r) _ ⟨false,0,undef,k,O,Le.refl _ _,O,Y⟩ ?_
  rintro(_ |J) _ _ σ ⟨b,d,y,i,rfl,e,rfl,Y⟩
  ·cases Y
  unfold Vm.zbY at Y
  have z:=x.n e
  refine sr (Lw.lt O (nl (Cw.seq (cn Y (fun Y=>?_) fun Y=>?_))))
  ·refine sk (Cw.seq (Cw.block (sr ?_)))
   obtain⟨G,A,Y⟩:=ob Y
   refine Lw.r O (R.ix (α:=Str) (a.up e).rd A O O O) (Lw.r O (R.ld O O ((a.up e).rd.at_ A).str) (Ns O (sr (ms O (ca Y (fun _=>p92) fun K H Y B=>?_)))))
   have I:=z.n B
   refine Lw.r O (R.not O) (nl (cn Y (fun Y=>?_) fun Y=>?_))
   ·exact sr (Nb O (.ret (rt Y I)))
   ·exact sk (rg (Lw.add O (mi O (nl ((agm) ⟨b,w64 (d+1),vS G,H,O,(e.j B).w,O,Y⟩)))))
  ·refine Cw.exit ?_
   rw[F]at Y
   exact sr (Nb O (.ret (rt Y z)))
theorem p121 {x0 r}(a:Gl 0 W K)(Y:Vm.zdx x0=some r):Q1 121 [vS x0] W [] fun W' v=>v=vB r:=
 (c121 (a.view _) Y).ad (fk 0) fun _ _ e=>e
theorem c127 {x0 x1 r}(h:Gl 0 W0 [0])(Y:Vm.zb4 x0 x1=some r):Q0 127 [vS x0,vS x1] W0 fun Wf v=>v=vB r:=by
 unfold Vm.zb4 at Y
 refine zak.of Tryz.func127 O O O O (sr (Nb O ?_))
 obtain⟨k,x,Y⟩:=za4 Y
 refine Cw.join 5 16 [4] (fun l w=> ∃ e f,CW.w f=w/\Le [] W0 f/\l=[vB e]/\k e=some r) ?_ ?_
 ·rintro _ _ σ ⟨e,f,rfl,y,rfl,Y⟩
  rw[x]at Y
  have z:=y.o
  exact .ret (rt Y z)
 ·refine rg (ms O (ca Y (fun _=>p121 h) fun H A Y d=>?_))
  have B:=d.o
  refine mb O (bs Y (fun a Y=>?_) fun a Y=>?_)
  ·refine wak 2 a (ms O (ca Y (fun _=>p121 (h.ul B)) fun I C Y i=>Pb a O (mb O (bs Y (fun b Y=>?_) fun b Y=>?_))))
   ·refine wak 4 b (ms O (ms O ?_))
    obtain⟨J,D,Y⟩:=ob Y
    exact Lw.r O (R.sad D O O) (ca Y (fun _=>p163) fun E F Y G=>Pb b O (Nb O ((ag) ⟨E,F,O,((d.j i).j G).w,O,Y⟩)))
   ·exact psk 4 b O (Pb b O (Nb O ((ag) ⟨false,C,O,(d.j i).w,O,Y⟩)))
  ·exact psk 2 a O (Pb a O (mb O (psk 4 O O (Pb O O (Nb O ((ag) ⟨false,A,O,d,O,Y⟩))))))
theorem p127 {x0 x1 r}(a:Gl 0 W K)(Y:Vm.zb4 x0 x1=some r):Q1 127 [vS x0,vS x1] W [] fun W' v=>v=vB r:=
 (c127 (a.view _) Y).ad (fk 0) fun _ _ e=>e
theorem c93 {x0 h r}(f:Rd W0 [0] [h] x0)(ac:Gl 0 W0 [0])(Y:Vm.zd9 x0=some r):Q0 93 [h] W0 fun Wf v=>v=vB r:=by
 unfold Vm.zd9 at Y
 refine zak.of Tryz.func93 O O O O (sr (Nb O (ssr (mv h O (Lw.ln x0 f O (Lw.gt O (nl (cn Y (fun Y=>?_) fun Y=>?_))))))))
 ·exact sr (Nb O (.ret (rt Y (Le.refl _ _))))
 ·refine sk (ssr (mv h O (Lw.ln x0 f O (mi O (nl (Cw.block ?_))))))
  obtain⟨K8,av,Y⟩:=za4 Y
  refine Cw.loop 12 56 [2,3,4,6,12] (fun m l w=> ∃ B d j3 j4 J K,CW.w K=w/\Le [2,3] W0 K/\l=[vB B,j3,j4,J,vI d]/\Vm.zbZ x0 K8 m B d=some r) _ ⟨false,0,undef,undef,undef,W0,O,Le.refl _ _,O,Y⟩ ?_
  rintro(_ |m9) _ _ σ ⟨B,d,j3,j4,J,K,rfl,l7,rfl,Y⟩
  ·cases Y
  unfold Vm.zbZ at Y
  have i:=l7.s
  refine sr (Lw.lt O (nl (Cw.seq (cn Y (fun Y=>?_) fun Y=>?_))))
  ·refine sk (Cw.seq (Cw.block (sr (mi O ?_))))
   obtain⟨k,ai,Y⟩:=ob Y
   refine Lw.r O (R.ix (α:=File) (f.ul i) ai O O O) ?_
   obtain⟨x15,c16,_,r17⟩:=((f.ul i).at_ ai).cells
   obtain⟨bi,rfl,r19⟩:=File.split r17
   refine Lw.r O (R.lda c16 O O) (al 2 [vS ([]:Str), .slice none 0 0] fun aw bj aj ax=>?_)
   have C:=aj.o
   refine Gi O (sta ax (zaa O (zaa r19.oc zau)) fun ay ak am=>?_)
   have D:=ak.s
   refine nl (Cw.seq ?_)
   obtain⟨az,a0,Y⟩:=za4 Y
   refine Cw.join 17 41 [41] (fun l w=> ∃ L z,CW.w z=w/\Le [] ay z/\l=[vB L]/\az L=some r) ?_ ?_
   ·rintro _ _ σ ⟨L,z,rfl,M,rfl,Y⟩
    rw[a0]at Y
    have E:=((i.trans C).trans D).n M
    refine cn Y (fun Y=>?_) fun Y=>?_
    ·exact sr (Nb O (.ret (rt Y E)))
    ·refine sk (sr (mv h O (mi O ?_)))
     obtain⟨an,ao,Y⟩:=ob Y
     have r34:=(f.ul E).cutV ao
     refine Lw.r O (R.sl (f.ul E) ao O (.inl ⟨O,O⟩) (.inr O)) (Lw.ln an r34 O (mi O (nl (Cw.block ?_))))
     obtain⟨a1,a2,Y⟩:=za4 Y
     refine Cw.loop 46 55 [2,6,46] (fun m l w=> ∃ A F N G,CW.w G=w/\Le [3] z G/\l=[vB A,N,vI F]/\Vm.zbj k an a1 m A F=some r) _ ⟨B,0,J,z,O,Le.refl _ _,O,Y⟩ ?_
     rintro(_ |bk) _ _ σ ⟨A,F,N,G,rfl,H,rfl,Y⟩
     ·cases Y
     unfold Vm.zbj at Y
     have P:=H.s
     refine sr (Lw.lt O (nl (Cw.seq (cn Y (fun Y=>?_) fun Y=>?_))))
     ·refine sk (Cw.seq (Cw.block (sr ?_)))
      obtain⟨bl,ap,Y⟩:=ob Y
      refine Lw.r O (R.ix (α:=File) (r34.ul P) ap O O O) ?_
      obtain⟨x47,c48,_,r49⟩:=((r34.ul P).at_ ap).cells
      obtain⟨bm,rfl,r51⟩:=File.split r49
      refine Lw.r O (R.lda c48 O O) (al 3 [vS ([]:Str), .slice none 0 0] fun a3 bn Q a4=>?_)
      have a5:=(E.trans P).n Q
      refine sta a4 (zaa O (zaa r51.oc zau)) fun bp S a6=>?_
      have aq:=a5.t S
      refine nl (sr (fl a6 O (fl ((((am.up M).up H).up Q).up S) O (ca Y (fun _=>p127 (ac.ul aq)) fun bq a7 Y ar=>?_))))
      have a8:=aq.n ar
      refine nl (cn Y (fun Y=>?_) fun Y=>?_)
      ·exact sr (Nb O (.ret (rt Y a8)))
      ·exact sk (rg (Lw.add O (mi O (nl ((agm) ⟨A,w64 (F+1),ptr (bx a3),a7,O,(((H.j Q).j S).j ar).w,O,Y⟩)))))
     ·refine Cw.exit ?_
      rw[a2]at Y
      exact rg (Lw.add O (mi O (nl ((agm) ⟨A,w64 (d+1),vI d,ptr (bx aw),N,G,O,((((l7.j aj).j ak).j M).j H).w,O,Y⟩))))
   ·refine Cw.draw [] [(0,0),(1,1),(2,2),(3,0),(4,0),(5,0),(6,1),(7,2),(8,0),(9,0),(10,0),(11,0),(12,0),(13,0),(14,0),(15,0),(16,0),(17,0),(18,0),(19,1),(20,0),(21,1),(22,0),(23,0),(24,0)] mixed (by kernel_rfl) fun br x=>?_
    have U:=x.o
    have V:=am.up x
    refine Dfl V O O O ?_
    obtain⟨bu,a9,Y⟩:=ob Y
    refine Mw.t O O (T.call O (p144 (r19.ul ((C.trans D).trans U)) a9)) ?_
    rintro _ _ ⟨ba,rfl,y,rfl⟩
    have bb:=(((i.trans C).trans D).trans U).n y
    refine m0 y fun bc=>Mw.p O O (fun _=>R.not O) (Db O (bs Y (fun e Y=>?_) fun e Y=>?_))
    ·exact dps 4 e O (Mw.p O O (fun _=>R.pk e O (v:=vB true) O) (Db O (dps 3 O O (dpu 9 O (dps 1 O O (Mw.p O O (fun _=>R.pk O O (v:=vB true) O) (Mw.nil ((ag) ⟨true,ba,O,(x.j y).w,O,Y⟩))))))))
    ·refine Wp e O (fun _=>R.fa O) (Wq e O (fun _ c=>R.ld (v:=vS k.Path) O O (V.clc O O c)) ?_)
     obtain⟨be,bg,Y⟩:=ob Y
     refine Wt e O (T.call O (p121 (ac.ul bb) bg)) ?_
     rintro _ _ ⟨W,rfl,I,rfl⟩
     refine mc bc I fun bv=>Wp e O (fun _=>R.not O) (Mw.p O O (fun _=>R.pk e O (v:=vB (!be)) O) (Db O (bs Y (fun b Y=>?_) fun b Y=>?_)))
     ·exact dps 3 b O (dpu 9 O (dps 1 b O (Mw.p O O (fun _=>R.pk b O (v:=vB true) O) (Mw.nil ((ag) ⟨true,W,O,((x.j y).j I).w,O,Y⟩)))))
     ·refine Wp b O (fun _=>R.mv (v:=vI d) O) (Wp b O (fun _=>R.gt O O) (Wp b O (fun _=>R.mv (v:=vB (decide (0< (d:Int)))) O) (bs Y (fun a Y=>?_) fun a Y=>?_)))
      ·refine Wp a O (fun _=>R.mv (v:=h) O) (Wp a O (fun _=>R.mv (v:=vI d) O) (Wp a O (fun _=>R.sub O O) ?_))
       obtain⟨X,Z,Y⟩:=ob Y
       have aa:=f.ul (((i.trans C).trans D).trans U)
       exact Wp a O (fun _=>R.ix (α:=File) aa Z O O O) (Wp a O (fun _=>R.fa O) (Wq a O (fun _ c=>R.ld O O (zae (File.at0 (aa.at_ Z)).1 O (File.at0 (aa.at_ Z)).str c)) (Wp a O (fun _=>R.fa O) (Wq a O (fun _ c=>R.ld (v:=vS k.Path) O O (V.clc O O c)) (Wp a O (fun _=>R.sge O O) (Wp b O (fun _=>R.pk a O (v:=vB (!Op.bytesLess X.Path k.Path)) O) (Mw.p O O (fun _=>R.pk b O (v:=vB (!Op.bytesLess X.Path k.Path)) O) (Mw.nil ((ag) ⟨(!Op.bytesLess X.Path k.Path),W,O,((x.j y).j I).w,O,Y⟩)))))))))
      ·exact dps 9 a O (Wp b O (fun _=>R.pk a O (v:=vB false) O) (Mw.p O O (fun _=>R.pk b O (v:=vB false) O) (Mw.nil ((ag) ⟨false,W,O,((x.j y).j I).w,O,Y⟩))))
  ·refine Cw.exit ?_
   rw[av]at Y
   exact sr (Nb O (.ret (rt Y i)))
theorem p93 {x0 a r}(b:Rd W K [a] x0)(d:Gl 0 W K)(Y:Vm.zd9 x0=some r):Q1 93 [a] W [] fun W' v=>v=vB r:=
 (c93 (b.view _) (d.view _) Y).ad (fk 0) fun _ _ e=>e
theorem c97 {x0 a b x1 r}(f:Rd W0 [0] [a,b] x0)(Y:Vm.za7 x0 x1=some r):Q0 97 [.agg [a,b].toArray,vI x1] W0 fun Wf v=>v=vB r:=by
 unfold Vm.za7 at Y
 obtain⟨z,A,d,h,B⟩:=Repo.split f
 simp only[List.cons.injEq,and_true,true_and]at d
 obtain⟨rfl,rfl⟩:=d
 refine zak.of Tryz.func97 O O O O (sr (bo 2 O fun C D i k=>?_))
 have e:=i.o
 refine Nb O (sr (mi O (fl k O (Lw.ln x0.Commits (h.ul e) O (Lw.sub O (ca Y (fun _=>p94) fun E F Y x=>?_))))))
 have y:=e.n x
 exact Nb O (.ret (rt Y y))
theorem p97 {x0 a b x1 r}(d:Rd W K [a,b] x0)(Y:Vm.za7 x0 x1=some r):Q1 97 [.agg [a,b].toArray,vI x1] W [] fun W' v=>v=vB r:=
 (c97 (d.view _) Y).ad (fk 0) fun _ _ e=>e
theorem c95 {x0 E F x1 k r}(h0:Rd W0 [0] [E,F] x0)(f:Rd W0 [0] [k] x1)(Y:Vm.zd0 x0 x1=some r):Q0 95 [.agg [E,F].toArray,k] W0 fun Wf v=>v=vB r:=by
 unfold Vm.zd0 at Y
 obtain⟨a3,a4,S,af,ah⟩:=Repo.split h0
 simp only[List.cons.injEq,and_true,true_and]at S
 obtain⟨rfl,rfl⟩:=S
 refine zak.of Tryz.func95 O O O O (sr (bo 2 O fun g1 U l1 b1=>?_))
 have y:=l1.o
 refine Nb O (ssr (mv k O (Lw.ln x1 (f.ul y) O (Lw.gt O (nl (cn Y (fun Y=>?_) fun Y=>?_))))))
 ·exact sr (Nb O (.ret (rt Y y)))
 ·refine sk (ssr (mv k O (Lw.ln x1 (f.ul y) O (mi O (nl (Cw.block ?_))))))
  obtain⟨ak,am,Y⟩:=za4 Y
  refine Cw.loop 12 43 [4,5,6,12] (fun m l w=> ∃ z e V W G,CW.w G=w/\Le [3] U G/\l=[vB z,V,W,vI e]/\Vm.zbE x0 x1 ak m z e=some r) _ ⟨false,0,undef,undef,U,O,Le.refl _ _,O,Y⟩ ?_
  rintro(_ |a6) _ _ σ ⟨z,e,V,W,G,rfl,H,rfl,Y⟩
  ·cases Y
  unfold Vm.zbE at Y
  have A:=y.t H
  refine sr (Lw.lt O (nl (Cw.seq (cn Y (fun Y=>?_) fun Y=>?_))))
  ·refine sk (Cw.seq (Cw.block (sr (mi O ?_))))
   obtain⟨x,X,Y⟩:=ob Y
   refine Lw.r O (R.ix (α:=Head) (f.ul A) X O O O) ?_
   obtain⟨x18,c19,_,r20⟩:=((f.ul A).at_ X).cells
   obtain rfl:=Head.split r20
   refine Lw.r O (R.lda c19 O O) (al 3 [vS ([]:Str),vI 0] fun an a7 I ao=>?_)
   have ap:=A.n I
   refine Gi O (sta ao (zaa O (zaa O zau)) fun aq J ar=>?_)
   have Z:=ap.t J
   refine nl ?_
   obtain⟨au,av,Y⟩:=za4 Y
   refine Cw.join 17 42 [42] (fun l w=> ∃ L B,CW.w B=w/\Le [] aq B/\l=[vB L]/\au L=some r) ?_ ?_
   ·rintro _ _ σ ⟨L,B,rfl,aa,rfl,Y⟩
    rw[av]at Y
    have aw:=Z.n aa
    refine cn Y (fun Y=>?_) fun Y=>?_
    ·exact sr (Nb O (.ret (rt Y aw)))
    ·exact sk (rg (Lw.add O (mi O (nl ((agm) ⟨z,w64 (e+1),vI e,ptr (bx an),B,O,(((H.j I).j J).j aa).w,O,Y⟩)))))
   ·refine Cw.draw [] [(0,0),(1,1),(2,2),(3,0),(4,0),(5,1),(6,0),(7,1),(8,2),(9,0),(10,0),(11,0),(12,0),(13,0),(14,0),(15,0),(16,0),(17,0),(18,0),(19,0),(20,1),(21,0),(22,1),(23,0),(24,0),(25,0)] mixed (by kernel_rfl) fun a8 h=>?_
    have C:=Z.n h
    have M:=ar.up h
    refine Dfl M O O O ?_
    obtain⟨a9,ax,Y⟩:=ob Y
    refine Mw.t O O (T.call O (p92 ax)) ?_
    rintro _ _ ⟨ay,rfl,i,rfl⟩
    have ac:=C.n i
    refine m0 i fun az=>Mw.p O O (fun _=>R.not O) (Db O (bs Y (fun d Y=>?_) fun d Y=>?_))
    ·exact dps 5 d O (Mw.p O O (fun _=>R.pk d O (v:=vB true) O) (Db O (dps 3 O O (dpu 9 O (dps 1 O O (Mw.p O O (fun _=>R.pk O O (v:=vB true) O) (Mw.nil ((ag) ⟨true,ay,O,(h.j i).w,O,Y⟩))))))))
    ·refine Wq d O (fun _ c=>R.lda (cs:=[E,F]) (((((b1.up H).up I).up J).up h).clcs O c) O O) (Wp d O (fun _=>R.fa O) (Wq d O (fun _ c=>R.ld (v:=vI x.At) O O (M.clc O O c)) ?_))
     obtain⟨a0,a1,Y⟩:=ob Y
     refine Wt d O (T.call O (p97 (Repo.rd (K:=[0]) x0.Commits x0.Heads (af.ul ac) (ah.ul ac)) a1)) ?_
     rintro _ _ ⟨N,rfl,D,rfl⟩
     refine mc az D fun ba=>Wp d O (fun _=>R.not O) (Mw.p O O (fun _=>R.pk d O (v:=vB (!a0)) O) (Db O (bs Y (fun b Y=>?_) fun b Y=>?_)))
     ·exact dps 3 b O (dpu 9 O (dps 1 b O (Mw.p O O (fun _=>R.pk b O (v:=vB true) O) (Mw.nil ((ag) ⟨true,N,O,((h.j i).j D).w,O,Y⟩)))))
     ·refine Wp b O (fun _=>R.mv (v:=vI e) O) (Wp b O (fun _=>R.gt O O) (Wp b O (fun _=>R.mv (v:=vB (decide (0< (e:Int)))) O) (bs Y (fun a Y=>?_) fun a Y=>?_)))
      ·refine Wp a O (fun _=>R.mv (v:=k) O) (Wp a O (fun _=>R.mv (v:=vI e) O) (Wp a O (fun _=>R.sub O O) ?_))
       obtain⟨P,Q,Y⟩:=ob Y
       exact Wp a O (fun _=>R.ix (α:=Head) (f.ul C) Q O O O) (Wp a O (fun _=>R.fa O) (Wq a O (fun _ c=>R.ld O O (zae (Head.at0 ((f.ul C).at_ Q)).1 O (Head.at0 ((f.ul C).at_ Q)).str c)) (Wp a O (fun _=>R.fa O) (Wq a O (fun _ c=>R.ld (v:=vS x.Name) O O (M.clc O O c)) (Wp a O (fun _=>R.sge O O) (Wp b O (fun _=>R.pk a O (v:=vB (!Op.bytesLess P.Name x.Name)) O) (Mw.p O O (fun _=>R.pk b O (v:=vB (!Op.bytesLess P.Name x.Name)) O) (Mw.nil ((ag) ⟨(!Op.bytesLess P.Name x.Name),N,O,((h.j i).j D).w,O,Y⟩)))))))))
      ·exact dps 9 a O (Wp b O (fun _=>R.pk a O (v:=vB false) O) (Mw.p O O (fun _=>R.pk b O (v:=vB false) O) (Mw.nil ((ag) ⟨false,N,O,((h.j i).j D).w,O,Y⟩))))
  ·refine Cw.exit ?_
   rw[am]at Y
   exact sr (Nb O (.ret (rt Y A)))
theorem p95 {x0 a b x1 d r}(f:Rd W K [a,b] x0)(h:Rd W K [d] x1)(Y:Vm.zd0 x0 x1=some r):Q1 95 [.agg [a,b].toArray,d] W [] fun W' v=>v=vB r:=
 (c95 (f.view _) (h.view _) Y).ad (fk 0) fun _ _ e=>e
theorem c42 {x0 ae af r}(h0:Rd W0 [0] [ae,af] x0)(ah:Gl 0 W0 [0])(Y:Vm.zeF x0=some r):Q0 42 [.agg [ae,af].toArray] W0 fun Wf v=>v=vB r:=by
 unfold Vm.zeF at Y
 obtain⟨b9,cb,ai,C,aj⟩:=Repo.split h0
 simp only[List.cons.injEq,and_true,true_and]at ai
 obtain⟨rfl,rfl⟩:=ai
 refine zak.of Tryz.func42 O O O O (sr (bo 2 O fun g1 W1 l1 G=>?_))
 have H:=l1.o
 refine Nb O (ssr (fl G O (Lw.ln x0.Commits (C.ul H) O (Lw.gt O (nl (cn Y (fun Y=>?_) fun Y=>?_))))))
 ·exact sr (Nb O (.ret (rt Y H)))
 ·refine sk (ssr (fl G O (Lw.ln x0.Commits (C.ul H) O (mi O (nl (Cw.block ?_))))))
  obtain⟨bb,bc,Y⟩:=za4 Y
  refine Cw.loop 14 65 [2,3,4,6,14] (fun m l w=> ∃ I B j6 j7 Q S,CW.w S=w/\Le [3] W1 S/\l=[vB I,j6,j7,Q,vI B]/\Vm.zb0 x0 bb m I B=some r) _ ⟨false,0,undef,undef,undef,W1,O,Le.refl _ _,O,Y⟩ ?_
  rintro(_ |cd) _ _ σ ⟨I,B,j6,j7,Q,S,rfl,l10,rfl,Y⟩
  ·cases Y
  unfold Vm.zb0 at Y
  have d:=H.t l10
  refine sr (Lw.lt O (nl (Cw.seq (cn Y (fun Y=>?_) fun Y=>?_))))
  ·refine sk (Cw.seq (Cw.block (sr (mi O ?_))))
   obtain⟨A,ao,Y⟩:=ob Y
   refine Lw.r O (R.ix (α:=Commit) (C.ul d) ao O O O) ?_
   obtain⟨x19,c20,_,r21⟩:=((C.ul d).at_ ao).cells
   obtain⟨U,ap,rfl,r23,r25⟩:=Commit.split r21
   refine Lw.r O (R.lda c20 O O) (al 3 [.slice none 0 0,vS ([]:Str), .slice none 0 0] fun be ce aq bg=>?_)
   have e:=aq.o
   refine Gi O (sta bg (zaa r23.oc (zaa O (zaa r25.oc zau))) fun bh ar au=>?_)
   have f:=ar.s
   refine nl (Cw.seq ?_)
   obtain⟨bi,bj,Y⟩:=za4 Y
   refine Cw.join 19 51 [51] (fun l w=> ∃ V D,CW.w D=w/\Le [] bh D/\l=[vB V]/\bi V=some r) ?_ ?_
   ·rintro _ _ σ ⟨V,D,rfl,W,rfl,Y⟩
    rw[bj]at Y
    have J:=W.o
    refine cn Y (fun Y=>?_) fun Y=>?_
    ·exact sr (Nb O (.ret (rt Y (((d.trans e).trans f).trans J))))
    ·refine sk (sr (fl (au.up W) O (Lw.ln A.Parents (r23.ul ((e.trans f).trans J)) O (mi O (nl (Cw.block ?_))))))
     obtain⟨bk,bl,Y⟩:=za4 Y
     refine Cw.loop 55 64 [2,6,55] (fun m l w=> ∃ E L X M,CW.w M=w/\Le [] D M/\l=[vB E,X,vI L]/\Vm.zbk B A bk m E L=some r) _ ⟨I,0,Q,D,O,Le.refl _ _,O,Y⟩ ?_
     rintro(_ |cf) _ _ σ ⟨E,L,X,M,rfl,Z,rfl,Y⟩
     ·cases Y
     unfold Vm.zbk at Y
     have av:=Z.o
     refine sr (Lw.lt O (nl (Cw.seq (cn Y (fun Y=>?_) fun Y=>?_))))
     ·refine sk (Cw.seq (Cw.block (sr ?_)))
      obtain⟨bm,aw,Y⟩:=ob Y
      have ax:=r23.ul (((e.trans f).trans J).trans av)
      refine Lw.r O (R.ix (α:=Int) ax aw O O O) (Lw.r O (R.ld O O (ax.at_ aw).int) (Ni O (sr (mi O (mi O (Lw.sub O (ca Y (fun _=>p94) fun cg bn Y ay=>?_)))))))
      have bp:=((((d.trans e).trans f).trans J).trans av).n ay
      refine Lw.r O (R.not O) (nl (cn Y (fun Y=>?_) fun Y=>?_))
      ·exact sr (Nb O (.ret (rt Y bp)))
      ·exact sk (rg (Lw.add O (mi O (nl ((agm) ⟨E,w64 (L+1),vI bm,bn,O,(Z.j ay).w,O,Y⟩)))))
     ·refine Cw.exit ?_
      rw[bl]at Y
      exact rg (Lw.add O (mi O (nl ((agm) ⟨E,w64 (B+1),vI B,ptr (bx be),X,M,O,((((l10.j aq).j ar).j W).j Z).w,O,Y⟩))))
   ·refine Cw.draw [] [(0,0),(1,1),(2,0),(3,0),(4,0),(5,0),(6,1),(7,0),(8,0),(9,0),(10,0),(11,1),(12,0),(13,1),(14,0),(15,1),(16,0),(17,1),(18,0),(19,0),(20,0),(21,0),(22,0),(23,1),(24,2),(25,0),(26,0),(27,0),(28,0),(29,1),(30,2),(31,0),(32,0)] mixed (by kernel_rfl) fun az h=>?_
    have F:=h.o
    have i:=au.up h
    have k:=r23.ul ((e.trans f).trans F)
    refine Dfl i O O O (Mw.p O O (fun _=>zpN (xs:=A.Parents) k O) (Mw.p O O (fun _=>R.gt O O) (Db O (bs Y (fun a Y=>?_) fun a Y=>?_))))
    ·exact dps 5 a O (dpu 9 O (dps 1 a O (Mw.p O O (fun _=>R.pk a O (v:=vB true) O) (Db O (dps 4 O O (Mw.p O O (fun _=>R.pk O O (v:=vB true) O) (Db O (dps 4 O O (Mw.p O O (fun _=>R.pk O O (v:=vB true) O) (Mw.nil ((ag) ⟨true,az,O,h,O,Y⟩)))))))))))
    ·refine Wp a O (fun _=>R.fa O) (Wq a O (fun _ c=>R.ld (v:=U) O O (i.clc O O c)) (Wp a O (fun _=>zpN (xs:=A.Parents) k O) (Wp a O (fun _=>R.eq O O) (Wp a O (fun _=>R.mv (v:=vB ((A.Parents.length:Int)==2)) O) (bs Y (fun b Y=>?_) fun b Y=>?_)))))
     ·refine Wp b O (fun _=>R.fa O) (Wq b O (fun _ c=>R.ld (v:=U) O O (i.clc O O c)) ?_)
      obtain⟨a0,aa,Y⟩:=ob Y
      refine Wp b O (fun _=>R.ix (α:=Int) k aa O O O) (Wq b O (fun _ c=>R.ld O O (zae (k.at_ aa).1 O (k.at_ aa).int c)) (Wp b O (fun _=>R.fa O) (Wq b O (fun _ c=>R.ld (v:=U) O O (i.clc O O c)) ?_)))
      obtain⟨a1,ac,Y⟩:=ob Y
      refine Wp b O (fun _=>R.ix (α:=Int) k ac O O O) (Wq b O (fun _ c=>R.ld O O (zae (k.at_ ac).1 O (k.at_ ac).int c)) (Wp b O (fun _=>R.eq O O) (Wp a O (fun _=>R.pk b O (v:=vB ((a0:Int)==(a1:Int))) O) (Mw.p O O (fun _=>R.pk a O (v:=vB ((a0:Int)==(a1:Int))) O) (Db O (bs Y (fun x Y=>?_) fun x Y=>?_))))))
      ·exact dps 4 x O (Mw.p O O (fun _=>R.pk x O (v:=vB true) O) (Db O (dps 4 O O (Mw.p O O (fun _=>R.pk O O (v:=vB true) O) (Mw.nil ((ag) ⟨true,az,O,h,O,Y⟩))))))
      ·refine Wp x O (fun _=>R.fa O) (Wq x O (fun _ c=>R.ld (v:=vS A.Who) O O (i.clc O O c)) ?_)
       obtain⟨bq,br,Y⟩:=ob Y
       refine Wt x O (T.call O (p92 br)) ?_
       rintro _ _ ⟨bu,rfl,N,rfl⟩
       have a3:=N.o
       refine m0 N fun bv=>Wp x O (fun _=>R.not O) (Mw.p O O (fun _=>R.pk x O (v:=vB (!bq)) O) (Db O (bs Y (fun y Y=>?_) fun y Y=>?_)))
       ·exact dps 4 y O (Mw.p O O (fun _=>R.pk y O (v:=vB true) O) (Mw.nil ((ag) ⟨true,bu,O,(h.j N).w,O,Y⟩)))
       ·refine Wp y O (fun _=>R.fa O) (Wq y O (fun _ c=>R.ld (v:=ap) O O (i.clc O O c)) ?_)
        obtain⟨a4,bw,Y⟩:=ob Y
        refine Wt y O (T.call O (p93 (r25.ul (((e.trans f).trans F).trans a3)) (ah.ul ((((d.trans e).trans f).trans F).trans a3)) bw)) ?_
        rintro _ _ ⟨bz,rfl,a5,rfl⟩
        exact mc bv a5 fun ch=>Wp y O (fun _=>R.not O) (Mw.p O O (fun _=>R.pk y O (v:=vB (!a4)) O) (Mw.nil ((ag) ⟨(!a4),bz,O,((h.j N).j a5).w,O,Y⟩)))
     ·refine dps 9 b O (Wp a O (fun _=>R.pk b O (v:=vB false) O) (Mw.p O O (fun _=>R.pk a O (v:=vB false) O) (Db O (Wp O O (fun _=>R.fa O) (Wq O O (fun _ c=>R.ld (v:=vS A.Who) O O (i.clc O O c)) ?_)))))
      obtain⟨b0,b2,Y⟩:=ob Y
      refine Wt O O (T.call O (p92 b2)) ?_
      rintro _ _ ⟨b3,rfl,P,rfl⟩
      have a6:=P.o
      refine m0 P fun b4=>Wp O O (fun _=>R.not O) (Mw.p O O (fun _=>R.pk O O (v:=vB (!b0)) O) (Db O (bs Y (fun z Y=>?_) fun z Y=>?_)))
      ·exact dps 4 z O (Mw.p O O (fun _=>R.pk z O (v:=vB true) O) (Mw.nil ((ag) ⟨true,b3,O,(h.j P).w,O,Y⟩)))
      ·refine Wp z O (fun _=>R.fa O) (Wq z O (fun _ c=>R.ld (v:=ap) O O (i.clc O O c)) ?_)
       obtain⟨a7,b5,Y⟩:=ob Y
       refine Wt z O (T.call O (p93 (r25.ul (((e.trans f).trans F).trans a6)) (ah.ul ((((d.trans e).trans f).trans F).trans a6)) b5)) ?_
       rintro _ _ ⟨b6,rfl,a8,rfl⟩
       exact mc b4 a8 fun ci=>Wp z O (fun _=>R.not O) (Mw.p O O (fun _=>R.pk z O (v:=vB (!a7)) O) (Mw.nil ((ag) ⟨(!a7),b6,O,((h.j P).j a8).w,O,Y⟩)))
  ·refine Cw.exit ?_
   rw[bc]at Y
   refine sr (la (G.up l10) (fl (G.up l10) O (ca Y (fun _=>p95 (Repo.rd (K:=[0]) x0.Commits x0.Heads (C.ul d) (aj.ul d)) (aj.ul d)) fun cj ck Y b7=>?_)))
   have b8:=d.n b7
   exact Nb O (.ret (rt Y b8))
theorem p42 {x0 a b r}(d:Rd W K [a,b] x0)(f:Gl 0 W K)(Y:Vm.zeF x0=some r):Q1 42 [.agg [a,b].toArray] W [] fun W' v=>v=vB r:=
 (c42 (d.view _) (f.view _) Y).ad (fk 0) fun _ _ e=>e
theorem c60 {x0 y z x1 f r}(J:Rd W0 [0] [y,z] x0)(h:Rd W0 [0] [f] x1)(L:Gl 0 W0 [0])(Y:Vm.zdm x0 x1=some r):Q0 60 [.agg [y,z].toArray,f] W0 fun Wf v=>v=vB r:=by
 unfold Vm.zdm at Y
 obtain⟨U,V,A,B,C⟩:=Repo.split J
 simp only[List.cons.injEq,and_true,true_and]at A
 obtain⟨rfl,rfl⟩:=A
 refine zak.of Tryz.func60 O O O O (sr (bo 2 O fun W X M D=>?_))
 have b:=M.o
 refine Nb O (ssr (la D (ca Y (fun _=>p42 (Repo.rd (K:=[0]) x0.Commits x0.Heads (B.ul b) (C.ul b)) (L.ul b)) fun Z E Y F=>?_)))
 have i:=b.n F
 refine Lw.r O (R.not O) (nl (cn Y (fun Y=>?_) fun Y=>?_))
 ·exact sr (Nb O (.ret (rt Y i)))
 ·refine sk (ssr (mv f O (Lw.ln x1 (h.ul i) O (mi O (nl (Cw.block ?_))))))
  obtain⟨N,P,Y⟩:=za4 Y
  refine Cw.loop 12 20 [4,6,12] (fun m l w=> ∃ d e G k,CW.w k=w/\Le [] E k/\l=[vB d,G,vI e]/\Vm.zbl x0 x1 N m d e=some r) _ ⟨false,0,undef,E,O,Le.refl _ _,O,Y⟩ ?_
  rintro(_ |aa) _ _ σ ⟨d,e,G,k,rfl,x,rfl,Y⟩
  ·cases Y
  unfold Vm.zbl at Y
  have a:=i.n x
  refine sr (Lw.lt O (nl (Cw.seq (cn Y (fun Y=>?_) fun Y=>?_))))
  ·refine sk (Cw.seq (Cw.block (sr ?_)))
   obtain⟨Q,H,Y⟩:=ob Y
   refine Lw.r O (R.ix (α:=Int) (h.ul a) H O O O) (Lw.r O (R.ld O O ((h.ul a).at_ H).int) (Ni O (sr (la ((D.up F).up x) (mi O (ca Y (fun _=>p97 (Repo.rd (K:=[0]) x0.Commits x0.Heads (B.ul a) (C.ul a))) fun ac S Y I=>?_))))))
   have T:=a.n I
   refine Lw.r O (R.not O) (nl (cn Y (fun Y=>?_) fun Y=>?_))
   ·exact sr (Nb O (.ret (rt Y T)))
   ·exact sk (rg (Lw.add O (mi O (nl ((agm) ⟨d,w64 (e+1),vI Q,S,O,(x.j I).w,O,Y⟩)))))
  ·refine Cw.exit ?_
   rw[P]at Y
   exact sr (Nb O (.ret (rt Y a)))
theorem p60 {x0 a b x1 d r}(f:Rd W K [a,b] x0)(h:Rd W K [d] x1)(i:Gl 0 W K)(Y:Vm.zdm x0 x1=some r):Q1 60 [.agg [a,b].toArray,d] W [] fun W' v=>v=vB r:=
 (c60 (f.view _) (h.view _) (i.view _) Y).ad (fk 0) fun _ _ e=>e
theorem c71 {x0 b d x1 r}(x:Rd W0 [0] [b,d] x0)(Y:Vm.zaQ x0 x1=some r):Q0 71 [.agg [b,d].toArray,vI x1] W0 fun Wf v=> ∃ e,v=e/\Rd Wf [0] [e] r:=by
 unfold Vm.zaQ at Y
 obtain⟨A,B,f,h,C⟩:=Repo.split x
 simp only[List.cons.injEq,and_true,true_and]at f
 obtain⟨rfl,rfl⟩:=f
 refine zak.of Tryz.func71 O O O O (sr (bo 2 O fun D E y z=>?_))
 have a:=y.o
 refine Nv (.slice none 0 0) O (ssr (mi O (Lw.lt O (nl (cn Y (fun Y=>?_) fun Y=>?_)))))
 ·refine sr (Nv (.slice none 0 0) O ?_)
  cases Y
  exact Cw.ret (zgk O (Res.mk a ⟨.slice none 0 0,O,(rdN (K:=[0]))⟩))
 ·refine sk (sr (fl z O (mi O ?_)))
  obtain⟨F,i,Y⟩:=ob Y
  refine Lw.r O (R.ix (α:=Commit) (h.ul a) i O O O) (Lw.fa O ?_)
  obtain⟨k,c8,r9⟩:=(Commit.at2 ((h.ul a).at_ i)).cell O
  refine Lw.r O (R.ld O O c8) (Nv k O ?_)
  cases Y
  exact Cw.ret (zgk O (Res.mk a ⟨k,O,r9⟩))
theorem p71 {x0 b d x1 r}(f:Rd W K [b,d] x0)(Y:Vm.zaQ x0 x1=some r):Q1 71 [.agg [b,d].toArray,vI x1] W [] fun W' v=> ∃ a,v=a/\Rd W' (0::K) [a] r:=
 (c71 (f.view _) Y).ad (fk 0) fun _ _ ⟨a,e,h⟩=>⟨a,e,h.back O⟩
theorem c125 {x0 a r}(f:Rd W0 [0] [a] x0)(Y:Vm.zdn x0=some r):Q0 125 [a] W0 fun Wf v=> ∃ b,v=b/\OwS Wf LL [] [b] r:=by
 unfold Vm.zdn at Y
 refine zak.of Tryz.func125 O O O O (sr (Nv (.slice none 0 0) O (sr (Lw.t O (T.lit0 (α:=Str) 2 []) ?_))))
 rintro A _ ⟨B,rfl,h,i⟩
 have d:=h.o
 refine mv a O ?_
 obtain⟨C,k,Y⟩:=ob Y
 refine Lw.t O (T.appP (α:=Str) i (f.ul d) O O k) ?_
 rintro e _ ⟨D,rfl,x,y⟩
 have z:=d.t x
 refine Nv e O ?_
 cases Y
 exact Cw.ret (zgk O (Res.mk z ⟨e,O,y.s.sub O O⟩))
theorem p125 {x0 b k0 r}(d:Rd W K [b] x0)(Y:Vm.zdn x0=some r):Q1 125 [b] W [] fun W' v=> ∃ a,v=a/\Ow W' k0 [] [a] r:=
 (c125 (d.view _) Y).ad (fk k0) fun _ _ ⟨a,e,f⟩=>⟨a,e,f.back (zf7 _)⟩
end Go.Sx
