/- Walks: each function answers as its model, printed by a program of ours. Conditions: the arguments read as they are given. -/
import Derived.Test.YtpijdodljeieaaaGreatDoorATs
import Derived.Test.YtpijdodljeieaaaGreatDoorAM4
import Derived.Test.YtpijdodljeieaaaGreatDoorAW0
import Derived.Test.YtpijdodljeieaaaGreatDoorAW3
import Derived.Test.YtpijdodljeieaaaGreatDoorAW5
import Derived.Test.YtpijdodljeieaaaGreatDoorAW6
import Derived.Test.YtpijdodljeieaaaGreatDoorAW7
import Derived.Test.YtpijdodljeieaaaGreatDoorAW8
namespace Go.Sx
open Go Go.Proofs Go.Vm Rp
set_option linter.unusedVariables false
set_option linter.unusedSimpArgs false
variable {W W0:CW}{K:List Nat}
theorem c23 {x0 aj r}(h0:Rd W0 [0] [aj] x0)(Y:Vm.zea x0=some r):Q0 23 [aj] W0 fun Wf v=> ∃ bq br,v = .tuple [.agg [bq,br].toArray,vI r.2.1,vS r.2.2].toArray/\OwS Wf [31] [] [bq] r.1.Commits/\OwS Wf [32] [] [br] r.1.Heads:=by
 unfold Vm.zea at Y
 refine zaO.of Tryz.func23 O O O O (sr (al 2 [.slice none 0 0, .slice none 0 0] fun F W1 l1 b1=>?_))
 have a2:=l1.o
 refine Gi O (Ns O (sr (mv aj O (cr Y (fun _=>p75 (k0:=3) (h0.ul a2)) ?_))))
 rintro G _ W6 Y l6 ⟨f,ak,rfl,cu,cv⟩
 have H:=cv.sub (M:=[0]) O
 have a8:=a2.n l6
 refine Np O (sr (mp O (cr Y (fun _=>p76 (k0:=4) (k1:=5) (c0:=3) (x0:=G) cu H O) ?_)))
 rintro I _ eg Y bw ⟨a,i,rfl,bz,b0,cx⟩
 have am:=bw.s
 refine al 6 [.slice none 0 0, .slice none 0 0] fun J eh B cy=>?_
 have an:=B.o
 refine sta cy (zah (bz.up B).oc (zah (b0.up B).oc za4)) fun ei Q b2=>?_
 have ao:=Q.s
 have b3:=(bz.up B).up Q
 have b4:=(b0.up B).up Q
 refine nl (sr (mp O (la b2 (cr Y (fun _=>p77 (K:=[0,4,5]) (c0:=3) (x0:=(Vm.l30Rd.mk G.b I.2)) (x1:=(Vm.Repo.mk I.1.Commits I.1.Heads)) ((cx.up B).up Q) ((H.ul ((am.trans an).trans ao)).sub (M:=[0,4,5]) O) ((Repo.rd (K:=[4,5]) I.1.Commits I.1.Heads (b3.rd.sub (M:=[4,5]) O) (b4.rd.sub (M:=[4,5]) O)).sub (M:=[0,4,5]) O) O) ?_))))
 rintro d _ cz Y S ⟨rfl,c1⟩
 have b5:=S.s
 have U:=b3.up S
 have af:=b2.up S
 refine Ni O (Cw.seq ?_)
 obtain⟨c2,c3,Y⟩:=zdC Y
 refine Cw.join 15 35 [35] (fun l w=> ∃ ap V z k X,CW.w X=w/\Le [3] cz X/\l=[vB ap]/\Rd X [0] [k] V/\Bx X 3 f [k,vI z]/\c2 ap V z=some r) ?_ ?_
 ·rintro _ _ σ ⟨ap,V,z,k,X,rfl,C,rfl,r39,b6,Y⟩
  rw[c3]at Y
  have b7:=((((a8.trans am).trans an).trans ao).trans b5).t C
  have aq:=(b4.up S).up C
  have b8:=(((((b1.up l6).up bw).up B).up Q).up S).up C
  refine cn Y (fun Y=>?_) fun Y=>?_
  ·refine Cw.seq ?_
   obtain⟨D,b9,Y⟩:=ob Y
   obtain⟨y,cb,Y⟩:=ob Y
   obtain⟨e,c4,Y⟩:=ob Y
   obtain⟨L,cc,Y⟩:=ob Y
   refine Cw.par [[],[],[],[2],[],[2,3,4],[2,3,4,5],[2,3,4,5,6],[],[],[9],[],[9,10,11],[9,10,11,12],[9,10,11,12,13],[9,10,11,12,13,14],[8,9,10,11,12,13,14,15],[2,3,4,5,6,7,8,9,10,11,12,13,14,15,16],[2,3,4,5,6,7,8,9,10,11,12,13,14,15,16,17],[2,3,4,5,6,7,8,9,10,11,12,13,14,15,16,17,18],[0,8,9,10,11,12,13,14,15,16],[0,1,8,9,10,11,12,13,14,15,16,20],[0,1,2,3,4,5,6,7,8,9,10,11,12,13,14,15,16,17,18,19,20,21]] [[],[],[],[2],[],[3,4],[5],[6],[24],[],[9],[],[10,11],[12],[13],[14],[8,15,24],[7,16],[7,17],[7,18],[0,23],[1],[19]] [[],[],[],[],[],[],[],[],[],[],[],[],[],[],[],[],[3],[],[],[],[2],[],[]] [[0],[1],[2],[3],[4],[5],[6],[7],[8],[9],[10],[11],[12],[13],[14],[15],[16],[7,17],[7,18],[19],[],[21],[22],[],[]] [[],[],[],[],[],[],[],[4],[],[],[],[],[],[],[4],[],[3],[],[],[],[2],[],[],[2],[3]] [0,1,2,3,4,5,6,7,8,9,10,11,12,13,14,15,16,17,18,19,20,21,22] [2,3] [fun vs W=>(vs 0) = .agg [a,i].toArray,fun vs W=>(vs 1)=vI d.1,fun vs W=>(vs 2)=ptr ((bx J).add 0),fun vs W=>(vs 3)=a,fun vs W=>(vs 4)=vI d.1,fun vs W=>(vs 5)=ptr ((slA a).add ((d.1).toNat*Rp.sz (Commit))),fun vs W=>(vs 6)=ptr (((slA a).add ((d.1).toNat*Rp.sz (Commit))).add 2),fun vs W=>Rd W [4] [(vs 7)] D.Tree,fun vs W=>(vs 8)=ptr (bx f),fun vs W=>(vs 9)=ptr ((bx J).add 0),fun vs W=>(vs 10)=a,fun vs W=>(vs 11)=vI d.1,fun vs W=>(vs 12)=ptr ((slA a).add ((d.1).toNat*Rp.sz (Commit))),fun vs W=>(vs 13)=ptr (((slA a).add ((d.1).toNat*Rp.sz (Commit))).add 2),fun vs W=>Rd W [4] [(vs 14)] y.Tree,fun vs W=>(vs 15)=vI (y.Tree.length:Int),fun vs W=>(vs 16)=vI e.1/\Bx W 3 f [k,vI e.2],fun vs W=>(vs 17)=ptr ((slA (vs 7)).add ((e.1).toNat*Rp.sz (File))),fun vs W=>(vs 18)=ptr (((slA (vs 7)).add ((e.1).toNat*Rp.sz (File))).add 0),fun vs W=>(vs 19)=vS L.Path,fun vs W=>Bx W 2 F [a,i],fun vs W=>(vs 21)=vI d.1,fun vs W=>(vs 22)=vS L.Path] [fun _ W=>Bx W 2 F [.slice none 0 0, .slice none 0 0],fun _ W=>Bx W 3 f [k,vI z]] mixed (by kernel_rfl) O (zqj.cons (fun _ _ l=>b8.up l O) (zqj.cons (fun _ _ l=>b6.up l O) zqj.nil)) ?_
   intro ej Z
   have cd:=Z.o
   have N:=(U.up C).up Z
   have ar:=(af.up C).up Z
   refine⟨(zdm.cons ?_ (zdm.cons ?_ (zdm.cons ?_ (zdm.cons ?_ (zdm.cons ?_ (zdm.cons ?_ (zdm.cons ?_ (zdm.cons ?_ (zdm.cons ?_ (zdm.cons ?_ (zdm.cons ?_ (zdm.cons ?_ (zdm.cons ?_ (zdm.cons ?_ (zdm.cons ?_ (zdm.cons ?_ (zdm.cons ?_ (zdm.cons ?_ (zdm.cons ?_ (zdm.cons ?_ (zdm.cons ?_ (zdm.cons ?_ (zdm.cons ?_ zdm.nil))))))))))))))))))))))),(zhG.cons SE (zhG.cons SE (zhG.cons SE (zhG.cons SE (zhG.cons SE (zhG.cons SE (zhG.cons SE (zhG.cons (fun vs vs' W W' _ hv l hd h=>by(show Rd W' [4] [(vs' 7)] D.Tree);rw[hv 7 (zcl O)];exact h.up l (zlZ hd (K:=[4]) O)) (zhG.cons SE (zhG.cons SE (zhG.cons SE (zhG.cons SE (zhG.cons SE (zhG.cons SE (zhG.cons (fun vs vs' W W' _ hv l hd h=>by(show Rd W' [4] [(vs' 14)] y.Tree);rw[hv 14 (zcl O)];exact h.up l (zlZ hd (K:=[4]) O)) (zhG.cons SE (zhG.cons (fun vs vs' W W' _ hv l hd h=>by(show(vs' 16)=vI e.1/\Bx W' 3 f [k,vI e.2]);rw[hv 16 (zcl O)];exact⟨h.1,h.2.up l (ziy hd (c:=3) O)⟩) (zhG.cons (fun vs vs' W W' _ hv l hd h=>by(show(vs' 17)=ptr ((slA (vs' 7)).add ((e.1).toNat*Rp.sz (File))));rw[hv 7 (zcl O),hv 17 (zcl O)];exact h) (zhG.cons (fun vs vs' W W' _ hv l hd h=>by(show(vs' 18)=ptr (((slA (vs' 7)).add ((e.1).toNat*Rp.sz (File))).add 0));rw[hv 7 (zcl O),hv 18 (zcl O)];exact h) (zhG.cons SE (zhG.cons (fun vs vs' W W' _ hv l hd h=>by(show Bx W' 2 F [a,i]);exact h.up l (ziy hd (c:=2) O)) (zhG.cons SE (zhG.cons SE (zhG.cons (fun _ _ _ _ _ _ l hd h=>h.up l (ziy hd (c:=2) O)) (zhG.cons (fun _ _ _ _ _ _ l hd h=>h.up l (ziy hd (c:=3) O)) zhG.nil))))))))))))))))))))))))),?_⟩
   ·intro vs ek lW hN hV
    exact Trq (R.lda (cs:=[a,i]) (ar.up lW O).cells O O) O
   ·intro vs el lW hN hV
    exact Trq (R.mv (v:=vI d.1) O) O
   ·intro vs em lW hN hV
    exact Trq (R.fa O) O
   ·intro vs en lW hN hV
    have au:vs 2=ptr ((bx J).add 0):=(hN 2 (zcl O))
    obtain⟨vs,rfl⟩:=za7 au
    exact Trq (R.ld (v:=a) O O ((ar.up lW O).cell O)) O
   ·intro vs eo lW hN hV
    exact Trq (R.mv (v:=vI d.1) O) O
   ·intro vs ep lW hN hV
    have av:vs 3=a:=(hN 3 (zcl O))
    obtain⟨vs,rfl⟩:=za7 av
    have aw:vs 4=vI d.1:=(hN 4 (zcl O))
    obtain⟨vs,rfl⟩:=za7 aw
    exact Trq (R.ix (α:=Commit) (N.up lW O).rd b9 O O O) O
   ·intro vs er lW hN hV
    have ax:vs 5=ptr ((slA a).add ((d.1).toNat*Rp.sz (Commit))):=(hN 5 (zcl O))
    obtain⟨vs,rfl⟩:=za7 ax
    exact Trq (R.fa O) O
   ·intro vs c5 lW hN hV
    have ay:vs 6=ptr (((slA a).add ((d.1).toNat*Rp.sz (Commit))).add 2):=(hN 6 (zcl O))
    obtain⟨vs,rfl⟩:=za7 ay
    obtain⟨c6,c133,r134⟩:=(Commit.at2 ((N.up lW O).rd.at_ b9)).cell O
    exact Trq (R.ld O O c133) (show Rd c5 [4] [c6] D.Tree from r134)
   ·intro vs c7 lW hN hV
    have es:Bx c7 3 f [k,vI z]:=hN 24 (zcl O)
    exact Trq (R.mv (v:=ptr (bx f)) O) O
   ·intro vs et lW hN hV
    exact Trq (R.fa O) O
   ·intro vs eu lW hN hV
    have az:vs 9=ptr ((bx J).add 0):=(hN 9 (zcl O))
    obtain⟨vs,rfl⟩:=za7 az
    exact Trq (R.ld (v:=a) O O ((ar.up lW O).cell O)) O
   ·intro vs ew lW hN hV
    exact Trq (R.mv (v:=vI d.1) O) O
   ·intro vs ex lW hN hV
    have a0:vs 10=a:=(hN 10 (zcl O))
    obtain⟨vs,rfl⟩:=za7 a0
    have a1:vs 11=vI d.1:=(hN 11 (zcl O))
    obtain⟨vs,rfl⟩:=za7 a1
    exact Trq (R.ix (α:=Commit) (N.up lW O).rd cb O O O) O
   ·intro vs ey lW hN hV
    have a3:vs 12=ptr ((slA a).add ((d.1).toNat*Rp.sz (Commit))):=(hN 12 (zcl O))
    obtain⟨vs,rfl⟩:=za7 a3
    exact Trq (R.fa O) O
   ·intro vs c8 lW hN hV
    have a4:vs 13=ptr (((slA a).add ((d.1).toNat*Rp.sz (Commit))).add 2):=(hN 13 (zcl O))
    obtain⟨vs,rfl⟩:=za7 a4
    obtain⟨c9,c172,r173⟩:=(Commit.at2 ((N.up lW O).rd.at_ cb)).cell O
    exact Trq (R.ld O O c172) (show Rd c8 [4] [c9] y.Tree from r173)
   ·intro vs da lW hN hV
    obtain⟨a5,a6⟩: ∃ v,vs 14=v:=⟨_,O⟩
    obtain⟨vs,rfl⟩:=za7 a6
    have db:Rd da [4] [a5] y.Tree:=(hN 14 (zcl O))
    exact Trq (zqP (xs:=y.Tree) db O) O
   ·intro vs dc lW hN hV
    have dd:=cd.t lW O
    have a7:vs 8=ptr (bx f):=(hN 8 (zcl O))
    obtain⟨vs,rfl⟩:=za7 a7
    have a9:vs 15=vI (y.Tree.length:Int):=(hN 15 (zcl O))
    obtain⟨vs,rfl⟩:=za7 a9
    have de:Bx dc 3 f [k,vI z]:=hN 24 (zcl O)
    refine Tr.mono (T.call O (p78 (c0:=3) (x0:=(Vm.l30Rd.mk V z)) de (r39.ul dd) O c4)) ?_
    rintro _ _ ⟨ce,rfl,df,⟨rfl,dg⟩⟩
    exact⟨ce,O,df,(show(vI e.1:Value)=vI e.1/\Bx ce 3 f [k,vI e.2] from⟨O,dg⟩)⟩
   ·intro vs cf lW hN hV
    obtain⟨x,E⟩: ∃ v,vs 7=v:=⟨_,O⟩
    obtain⟨vs,rfl⟩:=za7 E
    have dh:Rd cf [4] [x] D.Tree:=(hN 7 (zcl O))
    have ba:vs 16=vI e.1:=(hN 16 (zcl O)).1
    obtain⟨vs,rfl⟩:=za7 ba
    have ez:Bx cf 3 f [k,vI e.2]:=(hN 16 (zcl O)).2
    exact Trq (R.ix (α:=File) dh cc O O O) O
   ·intro vs di lW hN hV
    obtain⟨x,E⟩: ∃ v,vs 7=v:=⟨_,O⟩
    obtain⟨vs,rfl⟩:=za7 E
    have e0:Rd di [4] [x] D.Tree:=(hN 7 (zcl O))
    have bb:vs 17=ptr ((slA x).add ((e.1).toNat*Rp.sz (File))):=(hN 17 (zcl O))
    obtain⟨vs,rfl⟩:=za7 bb
    exact Trq (R.fa O) O
   ·intro vs dj lW hN hV
    obtain⟨x,E⟩: ∃ v,vs 7=v:=⟨_,O⟩
    obtain⟨vs,rfl⟩:=za7 E
    have dk:Rd dj [4] [x] D.Tree:=(hN 7 (zcl O))
    have bc:vs 18=ptr (((slA x).add ((e.1).toNat*Rp.sz (File))).add 0):=(hN 18 (zcl O))
    obtain⟨vs,rfl⟩:=za7 bc
    exact Trq (R.ld O O (File.at0 (dk.at_ cc)).str) O
   ·intro vs dl lW hN hV
    have be:vs 0 = .agg [a,i].toArray:=(hN 0 (zcl O))
    obtain⟨vs,rfl⟩:=za7 be
    have dm:Bx dl 2 F [.slice none 0 0, .slice none 0 0]:=hN 23 (zcl O)
    refine Tr.mono (T.sta (vs:=[a,i]) dm O O (zah (N.up lW O).oc (zah ((aq.up Z).up lW O).oc za4)) O O) ?_
    rintro _ _ ⟨cg,rfl,dn,dp⟩
    exact⟨cg,O,dn,(show Bx cg 2 F [a,i] from dp)⟩
   ·intro vs e1 lW hN hV
    have bg:vs 1=vI d.1:=(hN 1 (zcl O))
    obtain⟨vs,rfl⟩:=za7 bg
    exact Trq (R.as (v:=vI d.1) O) O
   ·intro vs e2 lW hN hV
    have bh:vs 19=vS L.Path:=(hN 19 (zcl O))
    obtain⟨vs,rfl⟩:=za7 bh
    exact Trq (R.as (v:=vS L.Path) O) O
   ·intro vs ah bi hN
    have dq:=(b7.trans cd).t bi
    have be:vs 0 = .agg [a,i].toArray:=(hN 0 (zcl O))
    obtain⟨vs,rfl⟩:=za7 be
    have bg:vs 1=vI d.1:=(hN 1 (zcl O))
    obtain⟨vs,rfl⟩:=za7 bg
    have au:vs 2=ptr ((bx J).add 0):=(hN 2 (zcl O))
    obtain⟨vs,rfl⟩:=za7 au
    have av:vs 3=a:=(hN 3 (zcl O))
    obtain⟨vs,rfl⟩:=za7 av
    have aw:vs 4=vI d.1:=(hN 4 (zcl O))
    obtain⟨vs,rfl⟩:=za7 aw
    have ax:vs 5=ptr ((slA a).add ((d.1).toNat*Rp.sz (Commit))):=(hN 5 (zcl O))
    obtain⟨vs,rfl⟩:=za7 ax
    have ay:vs 6=ptr (((slA a).add ((d.1).toNat*Rp.sz (Commit))).add 2):=(hN 6 (zcl O))
    obtain⟨vs,rfl⟩:=za7 ay
    obtain⟨x,E⟩: ∃ v,vs 7=v:=⟨_,O⟩
    obtain⟨vs,rfl⟩:=za7 E
    have e3:Rd ah [4] [x] D.Tree:=(hN 7 (zcl O))
    have a7:vs 8=ptr (bx f):=(hN 8 (zcl O))
    obtain⟨vs,rfl⟩:=za7 a7
    have az:vs 9=ptr ((bx J).add 0):=(hN 9 (zcl O))
    obtain⟨vs,rfl⟩:=za7 az
    have a0:vs 10=a:=(hN 10 (zcl O))
    obtain⟨vs,rfl⟩:=za7 a0
    have a1:vs 11=vI d.1:=(hN 11 (zcl O))
    obtain⟨vs,rfl⟩:=za7 a1
    have a3:vs 12=ptr ((slA a).add ((d.1).toNat*Rp.sz (Commit))):=(hN 12 (zcl O))
    obtain⟨vs,rfl⟩:=za7 a3
    have a4:vs 13=ptr (((slA a).add ((d.1).toNat*Rp.sz (Commit))).add 2):=(hN 13 (zcl O))
    obtain⟨vs,rfl⟩:=za7 a4
    obtain⟨a5,a6⟩: ∃ v,vs 14=v:=⟨_,O⟩
    obtain⟨vs,rfl⟩:=za7 a6
    have e4:Rd ah [4] [a5] y.Tree:=(hN 14 (zcl O))
    have a9:vs 15=vI (y.Tree.length:Int):=(hN 15 (zcl O))
    obtain⟨vs,rfl⟩:=za7 a9
    have ba:vs 16=vI e.1:=(hN 16 (zcl O)).1
    obtain⟨vs,rfl⟩:=za7 ba
    have e5:Bx ah 3 f [k,vI e.2]:=(hN 16 (zcl O)).2
    have bb:vs 17=ptr ((slA x).add ((e.1).toNat*Rp.sz (File))):=(hN 17 (zcl O))
    obtain⟨vs,rfl⟩:=za7 bb
    have bc:vs 18=ptr (((slA x).add ((e.1).toNat*Rp.sz (File))).add 0):=(hN 18 (zcl O))
    obtain⟨vs,rfl⟩:=za7 bc
    have bh:vs 19=vS L.Path:=(hN 19 (zcl O))
    obtain⟨vs,rfl⟩:=za7 bh
    have dr:Bx ah 2 F [a,i]:=(hN 20 (zcl O))
    have ds:vs 21=vI d.1:=(hN 21 (zcl O))
    obtain⟨vs,rfl⟩:=za7 ds
    have dt:vs 22=vS L.Path:=(hN 22 (zcl O))
    obtain⟨vs,rfl⟩:=za7 dt
    obtain⟨e6,du,bj,dv⟩:=(N.up bi).dyeO 31
    have dw:=dq.t bj
    obtain⟨e7,dx,bk,dy⟩:=(((aq.up Z).up bi).up bj).dyeO 32
    have dz:=dw.t bk
    cases Y
    rw[<- dx.trans (du)]
    exact Cw.ret (zxE (zkw.c O ((dr.up bj).up bk) (zkw.t O (zkw.t O zkw.n))) (Res.mk dz ⟨a,i,O,(dv.up bk).s,dy.s⟩))
  ·refine sk (Cw.seq (Cw.draw [3] [(0,1),(1,0),(2,0),(3,2),(4,3),(5,0),(6,0)] mixed (by kernel_rfl) fun e8 P=>?_))
   have ch:=P.o
   refine Mw.q O O (fun _ c=>R.lda (cs:=[a,i]) (((af.up C).up P).clcs O c) O O) (Di O (Dp O ?_))
   obtain⟨e9,d0,Y⟩:=ob Y
   refine Mw.t O O (T.call O (p79 (c0:=3) (x0:=(Vm.l30Rd.mk V z)) (b6.up P) (r39.ul ch) O d0)) ?_
   rintro _ _ ⟨fb,rfl,aa,⟨rfl,fc⟩⟩
   have d1:=(b7.trans ch).t aa
   have ci:=((U.up C).up P).up aa
   have cj:=(aq.up P).up aa
   refine m0 aa fun fd=>Mw.lu O (T.sta (vs:=[a,i]) ((b8.up P).up aa) O O (zah ci.oc (zah cj.oc za4)) O O) ?_
   rintro _ _ ⟨fe,rfl,bl,d2⟩
   have d3:=d1.t bl
   refine Hi O (Hs O (Mw.nil ?_))
   obtain⟨ff,d4,bm,d5⟩:=(ci.up bl).dyeO 31
   have d6:=d3.t bm
   obtain⟨fg,d7,bn,d8⟩:=((cj.up bl).up bm).dyeO 32
   have d9:=d6.t bn
   cases Y
   rw[<- d7.trans (d4)]
   exact Cw.ret (zxE (zkw.c O ((d2.up bm).up bn) (zkw.t O (zkw.t O zkw.n))) (Res.mk d9 ⟨a,i,O,(d5.up bn).s,d8.s⟩))
 ·refine rg (mi O (fl af O (Lw.ln I.1.Commits U.rd O (Lw.sub O (ca Y (fun _=>p67) fun fh ck Y A=>?_)))))
  have ai:=(((am.trans an).trans ao).trans b5).n A
  have bp:=c1.up A
  refine mb O (bs Y (fun ac Y=>?_) fun ac Y=>?_)
  ·refine wak 8 ac (fl (af.up A) O (mi O ?_))
   obtain⟨ea,cl,Y⟩:=ob Y
   refine Lw.r O (R.ix (α:=Commit) (U.up A).rd cl O O O) (Lw.fa O ?_)
   obtain⟨fi,c300,r301⟩:=(Commit.at2 ((U.up A).rd.at_ cl)).cell O
   refine Lw.r O (R.ld O O c300) (Lw.ln ea.Tree r301 O (Lw.gt O (Pb ac O (mb O (bs Y (fun ae Y=>?_) fun ae Y=>?_)))))
   ·refine wak 3 ae (mp O (cr Y (fun _=>p78 (c0:=3) (x0:=(Vm.l30Rd.mk G.b d.2)) bp (H.ul ai) O) ?_))
    rintro cm _ eb Y co ⟨rfl,ec⟩
    have ed:=ai.t co
    exact Lw.gt O (Pb ae O (nl ((ag) ⟨decide (0< (cm.1:Int)),G.b,cm.2,ak,eb,O,(A.j co).w,O,(H.ul ed),ec,Y⟩)))
   ·exact psk 3 ae O (Pb ae O (nl ((ag) ⟨false,G.b,d.2,ak,ck,O,A.w,O,(H.ul ai),bp,Y⟩)))
  ·exact psk 8 ac O (Pb ac O (mb O (psk 3 O O (Pb O O (nl ((ag) ⟨false,G.b,d.2,ak,ck,O,A.w,O,(H.ul ai),bp,Y⟩))))))
theorem p23 {x0 d k0 k1 r}(f:Rd W K [d] x0)(Y:Vm.zea x0=some r):Q1 23 [d] W [] fun W' v=> ∃ a b,v = .tuple [.agg [a,b].toArray,vI r.2.1,vS r.2.2].toArray/\Ow W' k0 [] [a] r.1.Commits/\Ow W' k1 [] [b] r.1.Heads:=
 zaO.adJ (J:=[]) (fun c=>bif Nat.beq c 0 then 0 else bif Nat.beq c 31 then k0 else bif Nat.beq c 32 then k1 else 0) (c23 (f.view _) Y) fun _ _ ⟨a,b,e,h,i⟩=>⟨a,b,e,h.one1.backN O,i.one1.backN O⟩
theorem c71 {x0 y z x1 f r}(J:Rd W0 [0] [y,z] x0)(h:Rd W0 [0] [f] x1)(L:Gl 0 W0 [0])(Y:Vm.zf4 x0 x1=some r):Q0 71 [.agg [y,z].toArray,f] W0 fun Wf v=>v=vB r:=by
 unfold Vm.zf4 at Y
 obtain⟨U,V,A,B,C⟩:=Repo.split J
 simp only[List.cons.injEq,and_true,true_and]at A
 obtain⟨rfl,rfl⟩:=A
 refine zaO.of Tryz.func71 O O O O (sr (bo 2 O fun W X M D=>?_))
 have b:=M.o
 refine Nb O (ssr (la D (ca Y (fun _=>p32 (Repo.rd (K:=[0]) x0.Commits x0.Heads (B.ul b) (C.ul b)) (L.ul b)) fun Z E Y F=>?_)))
 have i:=b.n F
 refine Lw.r O (R.not O) (nl (cn Y (fun Y=>?_) fun Y=>?_))
 ·exact sr (Nb O (.ret (rt Y i)))
 ·refine sk (ssr (mv f O (Lw.ln x1 (h.ul i) O (mi O (nl (Cw.block ?_))))))
  obtain⟨N,P,Y⟩:=zdC Y
  refine Cw.loop 12 20 [4,6,12] (fun m l w=> ∃ d e G k,CW.w k=w/\Le [] E k/\l=[vB d,G,vI e]/\Vm.zdp x0 x1 N m d e=some r) _ ⟨false,0,undef,E,O,Le.refl _ _,O,Y⟩ ?_
  rintro(_ |aa) _ _ σ ⟨d,e,G,k,rfl,x,rfl,Y⟩
  ·cases Y
  unfold Vm.zdp at Y
  have a:=i.n x
  refine sr (Lw.lt O (nl (Cw.seq (cn Y (fun Y=>?_) fun Y=>?_))))
  ·refine sk (Cw.seq (Cw.block (sr ?_)))
   obtain⟨Q,H,Y⟩:=ob Y
   refine Lw.r O (R.ix (α:=Int) (h.ul a) H O O O) (Lw.r O (R.ld O O ((h.ul a).at_ H).int) (Ni O (sr (la ((D.up F).up x) (mi O (ca Y (fun _=>p98 (Repo.rd (K:=[0]) x0.Commits x0.Heads (B.ul a) (C.ul a))) fun ac S Y I=>?_))))))
   have T:=a.n I
   refine Lw.r O (R.not O) (nl (cn Y (fun Y=>?_) fun Y=>?_))
   ·exact sr (Nb O (.ret (rt Y T)))
   ·exact sk (rg (Lw.add O (mi O (nl ((agm) ⟨d,w64 (e+1),vI Q,S,O,(x.j I).w,O,Y⟩)))))
  ·refine Cw.exit ?_
   rw[P]at Y
   exact sr (Nb O (.ret (rt Y a)))
theorem p71 {x0 a b x1 d r}(f:Rd W K [a,b] x0)(h:Rd W K [d] x1)(i:Gl 0 W K)(Y:Vm.zf4 x0 x1=some r):Q1 71 [.agg [a,b].toArray,d] W [] fun W' v=>v=vB r:=
 (c71 (f.view _) (h.view _) (i.view _) Y).ad (fk 0) fun _ _ e=>e
theorem c73 {x0 i x1 r}(k:Rd W0 [0] [i] x0)(Y:Vm.ziz x0 x1=some r):Q0 73 [i,vS x1] W0 fun Wf v=> ∃ z,v = .tuple [z,vB r.2].toArray/\OwS Wf LL [] [z] r.1:=by
 unfold Vm.ziz at Y
 refine zaO.of Tryz.func73 O O O O (sr (Gv (.slice none 0 0) O (Nb O (ssr (mv i O (Lw.ln x0 k O (mi O (nl (Cw.block ?_)))))))))
 obtain⟨H,I,Y⟩:=zdC Y
 refine Cw.loop 10 21 [4,5,7,10] (fun m l w=> ∃ a b d e A f,CW.w f=w/\Le [3] W0 f/\l=[e,vB b,A,vI d]/\Ow f 2 [] [e] a/\Vm.zfy x0 x1 H m a b d=some r) _ ⟨([]:List Str),false,0, .slice none 0 0,undef,W0,O,Le.refl _ _,O,owN 2 [],Y⟩ ?_
 rintro(_ |S) _ _ σ ⟨a,b,d,e,A,f,rfl,B,rfl,J,Y⟩
 ·cases Y
 unfold Vm.zfy at Y
 have h:=B.s
 refine sr (Lw.lt O (nl (Cw.seq (cn Y (fun Y=>?_) fun Y=>?_))))
 ·refine sk (Cw.seq (Cw.block (sr ?_)))
  obtain⟨T,C,Y⟩:=ob Y
  refine Lw.r O (R.ix (α:=File) (k.ul h) C O O O) ?_
  obtain⟨x15,c16,_,r17⟩:=((k.ul h).at_ C).cells
  obtain⟨U,rfl,r19⟩:=File.split r17
  refine Lw.r O (R.lda c16 O O) (al 3 [vS ([]:Str), .slice none 0 0] fun K V x L=>?_)
  have D:=x.o
  refine sta L (zah O (zah r19.oc za4)) fun M y E=>?_
  have F:=y.s
  refine nl (sr (fl E O (ms O (Lw.seq O (nl (cn Y (fun Y=>?_) fun Y=>?_))))))
  ·refine sr (fl E O (cr Y (fun _=>p127 (k0:=4) (r19.ul (D.trans F))) ?_))
   rintro W G X Y N ⟨_,rfl,P⟩
   have Q:=((h.trans D).trans F).n N
   refine Gv G O (Nb O ?_)
   cases Y
   exact Cw.ret (zo2 O O (Res.mk Q ⟨G,O,P.s.sub O O⟩))
  ·exact sk (rg (Lw.add O (mi O (nl ((agm) ⟨a,b,w64 (d+1),e,ptr (bx K),M,O,((B.j x).j y).w,O,((J.up x).up y),Y⟩)))))
 ·refine Cw.exit ?_
  rw[I]at Y
  refine sr (Gv (.slice none 0 0) O (Nb O ?_))
  cases Y
  exact Cw.ret (zo2 O O (Res.mk h ⟨.slice none 0 0,O,(zo3 []).sub O O⟩))
theorem p73 {x0 b x1 k0 r}(d:Rd W K [b] x0)(Y:Vm.ziz x0 x1=some r):Q1 73 [b,vS x1] W [] fun W' v=> ∃ a,v = .tuple [a,vB r.2].toArray/\Ow W' k0 [] [a] r.1:=
 (c73 (d.view _) Y).ad (fk k0) fun _ _ ⟨a,e,f⟩=>⟨a,e,f.back (zkx _)⟩
theorem c124 {x0 d e x1 r}(y:Rd W0 [0] [d,e] x0)(Y:Vm.zdi x0 x1=some r):Q0 124 [.agg [d,e].toArray,vI x1] W0 fun Wf v=>v=vI r:=by
 unfold Vm.zdi at Y
 obtain⟨C,D,f,z,E⟩:=Repo.split y
 simp only[List.cons.injEq,and_true,true_and]at f
 obtain⟨rfl,rfl⟩:=f
 refine zaO.of Tryz.func124 O O O O (sr (bo 2 O fun F G A h=>?_))
 have b:=A.o
 refine Ni O (ssr (fl h O (mi O ?_)))
 obtain⟨B,i,Y⟩:=ob Y
 have a:=z.ul b
 refine Lw.r O (R.ix (α:=Commit) a i O O O) (Lw.fa O ?_)
 obtain⟨H,c7,r8⟩:=(Commit.at0 (a.at_ i)).cell O
 refine Lw.r O (R.ld O O c7) (Lw.ln B.Parents r8 O (Lw.eq O (nl (cn Y (fun Y=>?_) fun Y=>?_))))
 ·exact sr (Ni O (.ret (rt Y b)))
 ·refine sk (sr (fl h O (mi O ?_)))
  obtain⟨I,k,Y⟩:=ob Y
  refine Lw.r O (R.ix (α:=Commit) a k O O O) (Lw.fa O ?_)
  obtain⟨J,c13,r14⟩:=(Commit.at0 (a.at_ k)).cell O
  refine Lw.r O (R.ld O O c13) ?_
  obtain⟨K,x,Y⟩:=ob Y
  exact Lw.r O (R.ix (α:=Int) r14 x O O O) (Lw.r O (R.ld O O (r14.at_ x).int) (Ni O (.ret (rt Y b))))
theorem p124 {x0 a b x1 r}(d:Rd W K [a,b] x0)(Y:Vm.zdi x0 x1=some r):Q1 124 [.agg [a,b].toArray,vI x1] W [] fun W' v=>v=vI r:=
 (c124 (d.view _) Y).ad (fk 0) fun _ _ e=>e
theorem c134 {x0 k x1 x r}(y:Rd W0 [0] [k] x0)(z:Rd W0 [0] [x] x1)(Y:Vm.zk4 x0 x1=some r):Q0 134 [k,x] W0 fun Wf v=> ∃ u0,v=u0/\OwS Wf LL [] [u0] r:=by
 unfold Vm.zk4 at Y
 refine zaO.of Tryz.func134 O O O O (sr (Nv (.slice none 0 0) O (sr (mv k O (Lw.ln x0 y O (Lw.add O ?_))))))
 obtain⟨M,e2,Y⟩:=ob Y
 refine Lw.t O (T.mk (α:=List Int) 2 [] (n:=w64 ((x0.length:Int)+1)) O O e2) ?_
 rintro a _ ⟨W3,rfl,l3,o3⟩
 have a4:=l3.o
 refine Nv a O (ssr (mv a O (Lw.ln M o3.rd O (mi O (nl (Cw.block ?_))))))
 obtain⟨a3,a5,Y⟩:=zdC Y
 refine Cw.loop 15 25 [6,15] (fun m l w=> ∃ A F j5 e,CW.w e=w/\Le [2,3] W3 e/\l=[j5,vI A]/\Ow e 2 [] [a] F/\Vm.zgA x1 M a3 m A F=some r) _ ⟨0,M,undef,W3,O,Le.refl _ _,O,o3,Y⟩ ?_
 rintro(_ |cg) _ _ σ ⟨A,F,j5,e,rfl,l9,rfl,N,Y⟩
 ·cases Y
 unfold Vm.zgA at Y
 have P:=a4.t l9
 refine sr (Lw.lt O (nl (Cw.seq (cn Y (fun Y=>?_) fun Y=>?_))))
 ·refine sk (Cw.seq (Cw.block (sr (mi O (Ni O (rg (mv a O (mi O (mv x O (Lw.ln x1 (z.ul P) O (Lw.add O ?_)))))))))))
  obtain⟨ch,a6,Y⟩:=ob Y
  refine Lw.t O (T.mk (α:=Int) 3 [] (n:=w64 ((x1.length:Int)+1)) O O a6) ?_
  rintro ci _ ⟨cj,rfl,Q,ao⟩
  obtain⟨ck,a7,Y⟩:=ob Y
  refine Lw.r O (R.ix (α:=List Int) (N.up Q).rd a7 O O O) ?_
  obtain⟨a8,a9,Y⟩:=ob Y
  refine Lw.u (T.stO (J:=[3]) (N.up Q) ao.s a9 O O (zs7 ao.oc)) ?_
  rintro _ _ ⟨ba,rfl,bb,bc⟩
  exact nl (rg (Lw.add O (mi O (nl ((agm) ⟨w64 (A+1),a8,vI A,ba,O,((l9.j Q).j bb).w,O,bc,Y⟩)))))
 ·refine Cw.exit ?_
  rw[a5]at Y
  refine ssr (mv k O (Lw.ln x0 (y.ul P) O (Lw.sub O (Ni O (Cw.block ?_)))))
  obtain⟨be,bg,Y⟩:=zdC Y
  refine Cw.loop 29 87 [7,8] (fun m l w=> ∃ B G ap f,CW.w f=w/\Le [2,4,5] e f/\l=[vI B,ap]/\Ow f 2 [] [a] G/\Vm.zfg x0 x1 be m B G=some r) _ ⟨w64 ((x0.length:Int)-1),F,undef,e,O,Le.refl _ _,O,N,Y⟩ ?_
  rintro(_ |cl) _ _ σ ⟨B,G,ap,f,rfl,aq,rfl,ar,Y⟩
  ·cases Y
  unfold Vm.zfg at Y
  have S:=P.t aq
  refine ssr (mi O (Lw.ge O (nl (cn Y (fun Y=>?_) fun Y=>?_))))
  ·refine sk (Cw.seq (Cw.block (sr (mv x O (Lw.ln x1 (z.ul S) O (Lw.sub O (Ni O (Cw.block ?_))))))))
   obtain⟨bh,bi,Y⟩:=zdC Y
   refine Cw.loop 36 87 [8] (fun m l w=> ∃ C H h,CW.w h=w/\Le [2,4,5] f h/\l=[vI C]/\Ow h 2 [] [a] H/\Vm.zgz x0 x1 B bh m C H=some r) _ ⟨w64 ((x1.length:Int)-1),G,f,O,Le.refl _ _,O,ar,Y⟩ ?_
   rintro(_ |cm) _ _ σ ⟨C,H,h,rfl,U,rfl,V,Y⟩
   ·cases Y
   unfold Vm.zgz at Y
   have bj:=S.t U
   refine ssr (mi O (Lw.ge O (nl (cn Y (fun Y=>?_) fun Y=>?_))))
   ·refine sk ?_
    obtain⟨bk,bl,Y⟩:=zdC Y
    refine Cw.join 40 87 [] (fun l w=> ∃ I D,CW.w D=w/\Le [2,4,5] h D/\l=[]/\Ow D 2 [] [a] I/\bk I=some r) ?_ ?_
    ·rintro _ _ σ ⟨I,D,rfl,bm,rfl,bn,Y⟩
     rw[bl]at Y
     exact rg (mi O (Lw.sub O (Ni O ((agm) ⟨w64 (C-1),I,D,O,(U.j bm).w,O,bn,Y⟩))))
    ·refine Cw.block (Cw.seq (Cw.draw [] [(0,0),(1,0),(2,0),(3,1),(4,0),(5,0),(6,0),(7,1),(8,0)] mixed (by kernel_rfl) fun co E=>?_))
     have i:=bj.n E
     refine Dv k O (Di O ?_)
     obtain⟨cp,W,Y⟩:=ob Y
     refine Mw.p O O (fun _=>R.ix (α:=Str) (y.ul i) W O O O) (Mw.q O O (fun _ c=>R.ld O O (zaR ((y.ul i).at_ W).1 O ((y.ul i).at_ W).str c)) (Dv x O (Di O ?_)))
     obtain⟨cq,X,Y⟩:=ob Y
     refine Mw.p O O (fun _=>R.ix (α:=Str) (z.ul i) X O O O) (Mw.q O O (fun _ c=>R.ld O O (zaR ((z.ul i).at_ X).1 O ((z.ul i).at_ X).str c)) (Mw.p O O (fun _=>R.seq O O) (Mw.nil (cn Y (fun Y=>?_) fun Y=>?_))))
     ·refine Cw.draw [] [(0,0),(1,0),(2,0),(3,1),(4,0),(5,0),(6,0),(7,0),(8,0),(9,1),(10,0),(11,0),(12,0),(13,1),(14,0),(15,0),(16,3)] mixed (by kernel_rfl) fun cs au=>?_
      have d:=(V.up E).up au
      refine Dv a O (Di O ?_)
      obtain⟨ct,K,Y⟩:=ob Y
      refine Mw.p O O (fun _=>R.ix (α:=List Int) d.rd K O O O) ?_
      obtain⟨cu,c66,r67⟩:=(d.rd.at_ K).cell O
      refine Mw.q O O (fun _ c=>R.ld O O (zaR (d.rd.at_ K).1 O c66 c)) (Di O (Dv a O (Di O (Mw.p O O (fun _=>R.add O O) ?_))))
      obtain⟨cv,Z,Y⟩:=ob Y
      refine Mw.p O O (fun _=>R.ix (α:=List Int) d.rd Z O O O) ?_
      obtain⟨cw,c71,r72⟩:=(d.rd.at_ Z).cell O
      refine Mw.q O O (fun _ c=>R.ld O O (zaR (d.rd.at_ Z).1 O c71 c)) (Di O (Mw.p O O (fun _=>R.add O O) ?_))
      obtain⟨cx,aa,Y⟩:=ob Y
      refine Mw.p O O (fun _=>R.ix (α:=Int) r72 aa O O O) (Mw.q O O (fun _ c=>R.ld O O (zaR (r72.at_ aa).1 O (r72.at_ aa).int c)) (Mw.p O O (fun _=>R.add O O) ?_))
      obtain⟨cy,bp,Y⟩:=ob Y
      refine Mw.p O O (fun _=>R.ix (α:=Int) r67 bp O O O) ?_
      obtain⟨cz,bq,br,bu,gb77⟩:=Ow.lend (α:=List Int) (β:=List Int) (j:=4) (jf:=0) d K (by rw[zmG];exact c66) O
      rw[<- bq]
      obtain⟨c0,bv,Y⟩:=ob Y
      refine Mw.lu O (T.stS (K':=[]) bu (rdI _) bv O O O) ?_
      rintro _ _ ⟨c1,rfl,av,bw⟩
      obtain⟨bz,b0,b1,b2,eq84,b3⟩:=gb77 _ _ av bw
      obtain⟨aw,eqm84,Y⟩:=ob Y
      obtain rfl:aw=b2:=Option.some.inj (eqm84.symm.trans eq84)
      rw[<- b0]
      exact Mw.nil ((ag) ⟨aw,bz,O,((((E.j au).j br).j av).j b1).w,O,b3,Y⟩)
     ·refine Cw.draw [] [(0,0),(1,0),(2,0),(3,1),(4,0),(5,0),(6,0),(7,0),(8,0),(9,1),(10,0),(11,0),(12,1),(13,0),(14,0),(15,0),(16,1),(17,0),(18,0),(19,0),(20,1),(21,0),(22,0),(23,3)] mixed (by kernel_rfl) fun c2 ax=>?_
      have b:=(V.up E).up ax
      refine Dv a O (Di O ?_)
      obtain⟨c3,L,Y⟩:=ob Y
      refine Mw.p O O (fun _=>R.ix (α:=List Int) b.rd L O O O) ?_
      obtain⟨c4,c92,r93⟩:=(b.rd.at_ L).cell O
      refine Mw.q O O (fun _ c=>R.ld O O (zaR (b.rd.at_ L).1 O c92 c)) (Di O (Dv a O (Di O (Mw.p O O (fun _=>R.add O O) ?_))))
      obtain⟨c5,ac,Y⟩:=ob Y
      refine Mw.p O O (fun _=>R.ix (α:=List Int) b.rd ac O O O) ?_
      obtain⟨c6,c97,r98⟩:=(b.rd.at_ ac).cell O
      refine Mw.q O O (fun _ c=>R.ld O O (zaR (b.rd.at_ ac).1 O c97 c)) (Di O ?_)
      obtain⟨c7,ae,Y⟩:=ob Y
      refine Mw.p O O (fun _=>R.ix (α:=Int) r98 ae O O O) (Mw.q O O (fun _ c=>R.ld O O (zaR (r98.at_ ae).1 O (r98.at_ ae).int c)) (Dv a O (Di O ?_)))
      obtain⟨c8,af,Y⟩:=ob Y
      refine Mw.p O O (fun _=>R.ix (α:=List Int) b.rd af O O O) ?_
      obtain⟨c9,c104,r105⟩:=(b.rd.at_ af).cell O
      refine Mw.q O O (fun _ c=>R.ld O O (zaR (b.rd.at_ af).1 O c104 c)) (Di O (Mw.p O O (fun _=>R.add O O) ?_))
      obtain⟨da,ah,Y⟩:=ob Y
      refine Mw.p O O (fun _=>R.ix (α:=Int) r105 ah O O O) (Mw.q O O (fun _ c=>R.ld O O (zaR (r105.at_ ah).1 O (r105.at_ ah).int c)) (Mw.p O O (fun _=>R.max O O) ?_))
      obtain⟨db,b4,Y⟩:=ob Y
      refine Mw.p O O (fun _=>R.ix (α:=Int) r93 b4 O O O) ?_
      obtain⟨dc,b5,b6,b7,gb110⟩:=Ow.lend (α:=List Int) (β:=List Int) (j:=5) (jf:=0) b L (by rw[zmG];exact c92) O
      rw[<- b5]
      obtain⟨dd,b8,Y⟩:=ob Y
      refine Mw.lu O (T.stS (K':=[]) b7 (rdI _) b8 O O O) ?_
      rintro _ _ ⟨de,rfl,ay,b9⟩
      obtain⟨cb,cc,cd,ce,eq117,cf⟩:=gb110 _ _ ay b9
      obtain⟨az,eqm117,Y⟩:=ob Y
      obtain rfl:az=ce:=Option.some.inj (eqm117.symm.trans eq117)
      rw[<- cc]
      exact Mw.nil ((ag) ⟨az,cb,O,((((E.j ax).j b6).j ay).j cd).w,O,cf,Y⟩)
   ·refine Cw.exit ?_
    rw[bi]at Y
    exact rg (mi O (Lw.sub O (Ni O ((agm) ⟨w64 (B-1),H,vI C,h,O,(aq.j U).w,O,V,Y⟩))))
  ·refine Cw.exit ?_
   rw[bg]at Y
   refine sr (mv a O (Nv a O ?_))
   cases Y
   exact Cw.ret (zj5 O (Res.mk S ⟨a,O,ar.s.sub O O⟩))
theorem p134 {x0 b x1 d k0 r}(f:Rd W K [b] x0)(h:Rd W K [d] x1)(Y:Vm.zk4 x0 x1=some r):Q1 134 [b,d] W [] fun W' v=> ∃ a,v=a/\Ow W' k0 [] [a] r:=
 (c134 (f.view _) (h.view _) Y).ad (fk k0) fun _ _ ⟨a,e,i⟩=>⟨a,e,i.back (zkx _)⟩
theorem c85 {x0 x x1 i r}(y:Rd W0 [0] [x] x0)(H:Rd W0 [0] [i] x1)(Y:Vm.zfQ x0 x1=some r):Q0 85 [x,i] W0 fun Wf v=> ∃ X,v=X/\OwS Wf LL [] [X] r:=by
 unfold Vm.zfQ at Y
 refine zaO.of Tryz.func85 O O O O (sr (Nv (.slice none 0 0) O (sr (mv x O (mv i O (cr Y (fun _=>p134 (k0:=2) y H) ?_))))))
 rintro z1 I Z Y l3 ⟨_,rfl,ar⟩
 have a4:=l3.o
 refine Nv I O (sr (Nv (.slice none 0 0) O (ssr (Gi O (Ni O (Cw.block ?_))))))
 obtain⟨av,aw,Y⟩:=zdC Y
 refine Cw.loop 12 70 [6,7,8] (fun m l w=> ∃ A e d f z,CW.w z=w/\Le [3] Z z/\l=[f,vI e,vI d]/\Ow z 3 [] [f] A/\Vm.zf5 x0 x1 z1 av m A e d=some r) _ ⟨([]:List Int),0,0, .slice none 0 0,Z,O,Le.refl _ _,O,owN 3 [],Y⟩ ?_
 rintro(_ |bi) _ _ σ ⟨A,e,d,f,z,rfl,l10,rfl,J,Y⟩
 ·cases Y
 unfold Vm.zf5 at Y
 have B:=a4.t l10
 refine ssr (mi O (mv x O (Lw.ln x0 (y.ul B) O (Lw.lt O (nl (cn Y (fun Y=>?_) fun Y=>?_))))))
 ·refine sk (Cw.block (Cw.block ?_))
  obtain⟨ax,ay,Y⟩:=zdC Y
  refine Cw.join 18 33 [18] (fun l w=> ∃ K C,CW.w C=w/\Le [] z C/\l=[vB K]/\ax K=some r) ?_ ?_
  ·rintro _ _ σ ⟨K,C,rfl,h,rfl,Y⟩
   rw[ay]at Y
   have az:=B.n h
   refine cn Y (fun Y=>?_) fun Y=>?_
   ·refine sr (mv f O (mi O (Lw.t O (T.bs 4 [vI d] (cs:=[vI d]) O O (bsv O)) ?_)))
    rintro _ _ ⟨bj,bk,rfl,rfl,aa,a0⟩
    obtain⟨a1,a2,Y⟩:=ob Y
    refine Lw.t O (T.app1S (α:=Int) (K':=[]) ((J.up h).up aa) a0 (rdI _) O O a2) ?_
    rintro ac _ ⟨a3,rfl,a5,a6⟩
    exact Nv ac O (sr (mi O (Lw.add O (Ni O (rg (mi O (Lw.add O (Ni O ((agm) ⟨a1,w64 (e+1),w64 (d+1),ac,a3,O,(((l10.j h).j aa).j a5).w,O,a6,Y⟩)))))))))
   ·obtain⟨a7,a8,Y⟩:=zdC Y
    refine Cw.join 42 65 [42] (fun l w=> ∃ L D,CW.w D=w/\Le [] C D/\l=[vB L]/\a7 L=some r) ?_ ?_
    ·rintro _ _ σ ⟨L,D,rfl,M,rfl,Y⟩
     rw[a8]at Y
     have ae:=(J.up h).up M
     refine cn Y (fun Y=>?_) fun Y=>?_
     ·refine sr (mv f O (Lw.t O (T.bs 5 [vI (-1)] (cs:=[vI (-1)]) O O (bsv O)) ?_))
      rintro _ _ ⟨bl,bm,rfl,rfl,af,a9⟩
      obtain⟨ba,bb,Y⟩:=ob Y
      refine Lw.t O (T.app1S (α:=Int) (K':=[]) (ae.up af) a9 (rdI _) O O bb) ?_
      rintro ah _ ⟨bc,rfl,be,bg⟩
      exact Nv ah O (rg (mi O (Lw.add O (Ni O ((agm) ⟨ba,w64 (e+1),d,ah,bc,O,((((l10.j h).j M).j af).j be).w,O,bg,Y⟩)))))
     ·exact rg (mi O (Lw.add O (Ni O ((agm) ⟨A,e,w64 (d+1),f,D,O,((l10.j h).j M).w,O,ae,Y⟩))))
    ·refine Cw.draw [] [(0,0),(1,0),(2,0),(3,0),(4,0),(5,0),(6,0),(7,0),(8,0),(9,1),(10,0),(11,0),(12,1),(13,0),(14,0),(15,0),(16,1),(17,0),(18,0),(19,0),(20,1),(21,0),(22,0),(23,0)] mixed (by kernel_rfl) fun ai E=>?_
     have bh:=az.n E
     have k:=((ar.up l10).up h).up E
     refine Di O (Dv i O (Mw.p O O (fun _=>zqP (xs:=x1) (H.ul bh) O) (Mw.p O O (fun _=>R.eq O O) (Db O (bs Y (fun a Y=>?_) fun a Y=>?_)))))
     ·exact dps 17 a O (Mw.p O O (fun _=>R.pk a O (v:=vB true) O) (Hb O (Mw.nil ((ag) ⟨true,ai,O,E,O,Y⟩))))
     ·refine Wp a O (fun _=>R.mv (v:=I) O) (Wp a O (fun _=>R.mv (v:=vI e) O) (Wp a O (fun _=>R.add O O) ?_))
      obtain⟨bn,N,Y⟩:=ob Y
      refine Wp a O (fun _=>R.ix (α:=List Int) k.rd N O O O) ?_
      obtain⟨bp,c60,r61⟩:=(k.rd.at_ N).cell O
      refine Wq a O (fun _ c=>R.ld O O (zaR (k.rd.at_ N).1 O c60 c)) (Wp a O (fun _=>R.mv (v:=vI d) O) ?_)
      obtain⟨aj,P,Y⟩:=ob Y
      refine Wp a O (fun _=>R.ix (α:=Int) r61 P O O O) (Wq a O (fun _ c=>R.ld O O (zaR (r61.at_ P).1 O (r61.at_ P).int c)) (Wp a O (fun _=>R.mv (v:=I) O) (Wp a O (fun _=>R.mv (v:=vI e) O) ?_)))
      obtain⟨u64,Q,Y⟩:=ob Y
      refine Wp a O (fun _=>R.ix (α:=List Int) k.rd Q O O O) ?_
      obtain⟨bq,c67,r68⟩:=(k.rd.at_ Q).cell O
      refine Wq a O (fun _ c=>R.ld O O (zaR (k.rd.at_ Q).1 O c67 c)) (Wp a O (fun _=>R.mv (v:=vI d) O) (Wp a O (fun _=>R.add O O) ?_))
      obtain⟨ak,S,Y⟩:=ob Y
      exact Wp a O (fun _=>R.ix (α:=Int) r68 S O O O) (Wq a O (fun _ c=>R.ld O O (zaR (r68.at_ S).1 O (r68.at_ S).int c)) (Wp a O (fun _=>R.ge O O) (Mw.p O O (fun _=>R.pk a O (v:=vB (decide (ak<=(aj:Int)))) O) (Hb O (Mw.nil ((ag) ⟨decide (ak<=(aj:Int)),ai,O,E,O,Y⟩))))))
  ·refine Cw.draw [] [(0,0),(1,0),(2,0),(3,0),(4,0),(5,0),(6,0),(7,0),(8,1),(9,0),(10,0),(11,0),(12,1),(13,0),(14,0),(15,0)] mixed (by kernel_rfl) fun am U=>?_
   have F:=B.n U
   have G:=H.ul F
   refine Di O (Dv i O (Mw.p O O (fun _=>zqP (xs:=x1) G O) (Mw.p O O (fun _=>R.lt O O) (Db O (bs Y (fun b Y=>?_) fun b Y=>?_)))))
   ·refine Wp b O (fun _=>R.mv (v:=x) O) (Wp b O (fun _=>R.mv (v:=vI e) O) ?_)
    obtain⟨an,V,Y⟩:=ob Y
    refine Wp b O (fun _=>R.ix (α:=Str) (y.ul F) V O O O) (Wq b O (fun _ c=>R.ld O O (zaR ((y.ul F).at_ V).1 O ((y.ul F).at_ V).str c)) (Wp b O (fun _=>R.mv (v:=i) O) (Wp b O (fun _=>R.mv (v:=vI d) O) ?_)))
    obtain⟨ao,W,Y⟩:=ob Y
    exact Wp b O (fun _=>R.ix (α:=Str) G W O O O) (Wq b O (fun _ c=>R.ld O O (zaR (G.at_ W).1 O (G.at_ W).str c)) (Wp b O (fun _=>R.seq O O) (Mw.p O O (fun _=>R.pk b O (v:=vB (an==ao)) O) (Hb O (Mw.nil ((ag) ⟨(an==ao),am,O,U,O,Y⟩))))))
   ·exact dps 9 b O (Mw.p O O (fun _=>R.pk b O (v:=vB false) O) (Hb O (Mw.nil ((ag) ⟨false,am,O,U,O,Y⟩))))
 ·refine Cw.exit ?_
  rw[aw]at Y
  refine sr (mv f O (Nv f O ?_))
  cases Y
  exact Cw.ret (zj5 O (Res.mk B ⟨f,O,J.s.sub O O⟩))
theorem p85 {x0 b x1 d k0 r}(f:Rd W K [b] x0)(h:Rd W K [d] x1)(Y:Vm.zfQ x0 x1=some r):Q1 85 [b,d] W [] fun W' v=> ∃ a,v=a/\Ow W' k0 [] [a] r:=
 (c85 (f.view _) (h.view _) Y).ad (fk k0) fun _ _ ⟨a,e,i⟩=>⟨a,e,i.back (zkx _)⟩
theorem c74 (m:Nat): ∀ {W0:CW} {x0:Vm.Repo} {b:Value} {d:Value} {x1:Int} {x2:Str} {r:(List Int)×Bool} (i:Rd W0 [0] [b,d] x0) (Y:Vm.impl_Repo_blame_r m x0 x1 x2=some r),zaO Tryz.prog 74 [.agg [b,d].toArray,vI x1,vS x2].toArray W0.w (Res W0 LL fun Wf v=> ∃ (f:Value),v = .tuple [f,vB r.2].toArray/\OwS Wf LL [] [f] r.1):=by
 induction m with
 |zero=>intro W0 x0 b d x1 x2 r i Y;exact absurd Y (by unfold Vm.impl_Repo_blame_r;exact nofun)
 |succ m ih=>
  have p74: ∀ {W:CW} {K:List Nat} {x0:Vm.Repo} {b:Value} {d:Value} {x1:Int} {x2:Str} {k0:Nat} {r:(List Int)×Bool} (i:Rd W K [b,d] x0) (Y:Vm.impl_Repo_blame_r m x0 x1 x2=some r),zaO Tryz.prog 74 [.agg [b,d].toArray,vI x1,vS x2].toArray W.w (Res W [] fun W' v=> ∃ (f:Value),v = .tuple [f,vB r.2].toArray/\Ow W' k0 [] [f] r.1):=fun {W} {K} {x0} {b} {d} {x1} {x2} {k0} {r} i Y=>(ih (W0:=W.view K []) (i.view _) Y).ad (fk k0) fun _ _ ⟨f,e,f0⟩=>⟨f,e,f0.back (zkx _)⟩
  intro W0 x0 b d x1 x2 r i Y
  unfold Vm.impl_Repo_blame_r at Y
  obtain⟨cj,ck,ap,G,H⟩:=Repo.split i
  simp only[List.cons.injEq,and_true,true_and]at ap
  obtain⟨rfl,rfl⟩:=ap
  refine zaO.of Tryz.func74 O O O O (sr (bo 2 O fun g1 W1 l1 b1=>?_))
  have a2:=l1.o
  refine Gv (.slice none 0 0) O (Nb O (sr (la b1 (mi O (cr Y (fun _=>p100 (Repo.rd (K:=[0]) x0.Commits x0.Heads (G.ul a2) (H.ul a2))) ?_)))))
  rintro z5 cp W7 Y l7 ⟨_,rfl,be⟩
  have s8:=be.sub (M:=[0]) O
  have a9:=a2.n l7
  refine ms O (cr Y (fun _=>p73 (k0:=3) s8) ?_)
  rintro k _ cs Y au ⟨h,rfl,av⟩
  have aw:=a9.n au
  refine mv (.tuple [h,vB k.2].toArray) O (Lw.r O (R.ext (vs:=[h,vB k.2]) (v:=h) O O) (Lw.r O (R.ext (vs:=[h,vB k.2]) (v:=vB k.2) O O) (Gv h O (Nb O (ssr (mb O (Lw.r O (R.not O) (nl (cn Y (fun Y=>?_) fun Y=>?_)))))))))
  ·refine sr (Gv (.slice none 0 0) O (Nb O ?_))
   cases Y
   exact Cw.ret (zo2 O O (Res.mk aw ⟨.slice none 0 0,O,(zo3 []).sub O O⟩))
  ·refine sk (sr (mv h O (Lw.ln k.1 av.rd O ?_)))
   obtain⟨af,bi,Y⟩:=ob Y
   refine Lw.t O (T.mk (α:=Int) 4 [] (n:=(k.1.length:Int)) O O bi) ?_
   rintro a _ ⟨ax,rfl,ah,ay⟩
   have bj:=aw.n ah
   refine Nv a O (ssr (mv a O (Lw.ln af ay.rd O (mi O (nl (Cw.block ?_))))))
   obtain⟨bk,bl,Y⟩:=zdC Y
   refine Cw.loop 34 41 [11,34] (fun m l w=> ∃ C I az J,CW.w J=w/\Le [4] ax J/\l=[az,vI C]/\Ow J 4 [] [a] I/\Vm.zcG x1 af bk m C I=some r) _ ⟨0,af,undef,ax,O,Le.refl _ _,O,ay,Y⟩ ?_
   rintro(_ |ct) _ _ σ ⟨C,I,az,J,rfl,L,rfl,N,Y⟩
   ·cases Y
   unfold Vm.zcG at Y
   have ai:=bj.t L
   have aj:=(((b1.up l7).up au).up ah).up L
   refine sr (Lw.lt O (nl (Cw.seq (cn Y (fun Y=>?_) fun Y=>?_))))
   ·refine sk (Cw.seq (Cw.block (sr (mi O (Ni O (rg (mv a O (mi O (mi O ?_)))))))))
    obtain⟨cu,bm,Y⟩:=ob Y
    refine Lw.r O (R.ix (α:=Int) N.rd bm O O O) ?_
    obtain⟨bn,bp,Y⟩:=ob Y
    refine Lw.u (T.stS (K':=[]) N (rdI _) bp O O O) ?_
    rintro _ _ ⟨bq,rfl,br,bu⟩
    exact nl (rg (Lw.add O (mi O (nl ((agm) ⟨w64 (C+1),bn,vI C,bq,O,(L.j br).w,O,bu,Y⟩)))))
   ·refine Cw.exit ?_
    rw[bl]at Y
    refine sr (la aj (mi O (ca Y (fun _=>p124 (Repo.rd (K:=[0]) x0.Commits x0.Heads (G.ul ai) (H.ul ai))) fun cv cw Y x=>?_)))
    have P:=ai.n x
    refine Ni O (ssr (mi O (Lw.lt O (nl (cn Y (fun Y=>?_) fun Y=>?_)))))
    ·refine sr (mv a O (Gv a O (Nb O ?_)))
     cases Y
     exact Cw.ret (zo2 O O (Res.mk P ⟨a,O,(N.up x).s.sub O O⟩))
    ·refine sk (sr (la (aj.up x) (mi O (ms O (cr Y (fun _=>p74 (k0:=5) (Repo.rd (K:=[0]) x0.Commits x0.Heads (G.ul P) (H.ul P))) ?_)))))
     rintro D _ cx Y Q ⟨y,rfl,bv⟩
     have S:=P.n Q
     have a0:=(N.up x).up Q
     refine mv (.tuple [y,vB D.2].toArray) O (Lw.r O (R.ext (vs:=[y,vB D.2]) (v:=y) O O) (Lw.r O (R.ext (vs:=[y,vB D.2]) (v:=vB D.2) O O) (Gv y O (Nb O (ssr (mb O (Lw.r O (R.not O) (nl (cn Y (fun Y=>?_) fun Y=>?_)))))))))
     ·refine sr (mv a O (Gv a O (Nb O ?_)))
      cases Y
      exact Cw.ret (zo2 O O (Res.mk S ⟨a,O,a0.s.sub O O⟩))
     ·refine sk (sr (la ((aj.up x).up Q) (mi O (cr Y (fun _=>p100 (Repo.rd (K:=[0]) x0.Commits x0.Heads (G.ul S) (H.ul S))) ?_))))
      rintro cy cz c0 Y U ⟨_,rfl,bw⟩
      have bz:=bw.sub (M:=[0]) O
      have b0:=S.n U
      refine ms O (cr Y (fun _=>p73 (k0:=6) bz) ?_)
      rintro V _ c1 Y X ⟨z,rfl,b2⟩
      have b3:=b0.n X
      refine mv (.tuple [z,vB V.2].toArray) O (Lw.r O (R.ext (vs:=[z,vB V.2]) (v:=z) O O) (Lw.r O (R.ext (vs:=[z,vB V.2]) (v:=vB V.2) O O) (Gv z O (Nb O (ssr (mv z O (mv h O (cr Y (fun _=>p85 (K:=[3,6]) (k0:=7) (b2.rd.sub (M:=[3,6]) O) (((((((av.up ah).up L).up x).up Q).up U).up X).rd.sub (M:=[3,6]) O)) ?_))))))))
      rintro a1 c2 a3 Y ak ⟨_,rfl,am⟩
      have b4:=b3.n ak
      refine Lw.ln a1 am.rd O (mi O (nl (Cw.block ?_)))
      obtain⟨b5,b6,Y⟩:=zdC Y
      refine Cw.loop 70 84 [17,18,70] (fun m l w=> ∃ A Z a4 a5 B,CW.w B=w/\Le [4] a3 B/\l=[a4,a5,vI A]/\Ow B 4 [] [a] Z/\Vm.zaZ D a1 b5 m A Z=some r) _ ⟨0,I,undef,undef,a3,O,Le.refl _ _,O,(((a0.up U).up X).up ak),Y⟩ ?_
      rintro(_ |c3) _ _ σ ⟨A,Z,a4,a5,B,rfl,E,rfl,aa,Y⟩
      ·cases Y
      unfold Vm.zaZ at Y
      have b7:=b4.t E
      have a6:=(((bv.up U).up X).up ak).up E
      refine sr (Lw.lt O (nl (Cw.seq (cn Y (fun Y=>?_) fun Y=>?_))))
      ·refine sk ?_
       obtain⟨b8,b9,Y⟩:=zdC Y
       refine Cw.join 72 83 [17,18] (fun l w=> ∃ ac an ao F,CW.w F=w/\Le [4] B F/\l=[an,ao]/\Ow F 4 [] [a] ac/\b8 ac=some r) ?_ ?_
       ·rintro _ _ σ ⟨ac,an,ao,F,rfl,cb,rfl,cc,Y⟩
        rw[b9]at Y
        exact rg (Lw.add O (mi O (nl ((agm) ⟨w64 (A+1),ac,an,ao,F,O,(E.j cb).w,O,cc,Y⟩))))
       ·refine Cw.block (sr (mi O ?_))
        obtain⟨a7,a8,Y⟩:=ob Y
        refine Lw.r O (R.ix (α:=Int) (am.up E).rd a8 O O O) (Lw.r O (R.ld O O ((am.up E).rd.at_ a8).int) (Gi O (Ni O (sr (mi O (Lw.ge O (nl (cn Y (fun Y=>?_) fun Y=>?_))))))))
        ·refine rg (mv a O (mi O (mv y O (mi O ?_))))
         obtain⟨c4,ba,Y⟩:=ob Y
         refine Lw.r O (R.ix (α:=Int) a6.rd ba O O O) (Lw.r O (R.ld O O (a6.rd.at_ ba).int) ?_)
         obtain⟨c5,cd,Y⟩:=ob Y
         refine Lw.r O (R.ix (α:=Int) aa.rd cd O O O) ?_
         obtain⟨ce,cf,Y⟩:=ob Y
         refine Lw.u (T.stS (K':=[]) aa (rdI _) cf O O O) ?_
         rintro _ _ ⟨cg,rfl,ch,ci⟩
         exact nl ((ag) ⟨ce,vI A,vI a7,cg,O,ch,O,ci,Y⟩)
        ·exact sk ((ag) ⟨Z,vI A,vI a7,B,O,Le.refl _ _,O,aa,Y⟩)
      ·refine Cw.exit ?_
       rw[b6]at Y
       refine sr (mv a O (Gv a O (Nb O ?_)))
       cases Y
       exact Cw.ret (zo2 O O (Res.mk b7 ⟨a,O,aa.s.sub O O⟩))
theorem p74 {x0 b d x1 x2 k0 r}(f:Rd W K [b,d] x0)(Y:Vm.zj1 x0 x1 x2=some r):Q1 74 [.agg [b,d].toArray,vI x1,vS x2] W [] fun W' v=> ∃ a,v = .tuple [a,vB r.2].toArray/\Ow W' k0 [] [a] r.1:=
 (c74 (x1.toNat+2) (W0:=W.view K []) (f.view _) Y).ad (fk k0) fun _ _ ⟨a,e,h⟩=>⟨a,e,h.back (zkx _)⟩
theorem c22 {x0 f h x1 x2 r}(C:Rd W0 [0] [f,h] x0)(D:Gl 0 W0 [0])(Y:Vm.zgp x0 x1 x2=some r):Q0 22 [.agg [f,h].toArray,vI x1,vS x2] W0 fun Wf v=> ∃ i,v=i/\OwS Wf LL [] [i] r:=by
 unfold Vm.zgp at Y
 obtain⟨N,P,k,x,y⟩:=Repo.split C
 simp only[List.cons.injEq,and_true,true_and]at k
 obtain⟨rfl,rfl⟩:=k
 refine zaO.of Tryz.func22 O O O O (sr (bo 2 O fun Q E F z=>?_))
 have G:=F.o
 refine Nv (.slice none 0 0) O (ssr (la z (mi O (Lw.t O (T.bsS (α:=Int) (xs:=[x1]) 3 [] (W:=E) [vI x1] (Each.cons ((rdI _)) Each.nil) O) ?_))))
 rintro S _ ⟨U,rfl,A,H⟩
 have b:=G.n A
 refine ca Y (fun _=>p71 (K:=[0,3]) ((Repo.rd (K:=[0]) x0.Commits x0.Heads (x.ul b) (y.ul b)).sub (M:=[0,3]) O) (H.rd.sub (M:=[0,3]) O) ((D.ul b).sub (M:=[0,3]) O)) fun V X Y B=>?_
 have d:=b.n B
 refine Lw.r O (R.not O) (nl (cn Y (fun Y=>?_) fun Y=>?_))
 ·refine sr (Nv (.slice none 0 0) O ?_)
  cases Y
  exact Cw.ret (zj5 O (Res.mk d ⟨.slice none 0 0,O,(zo3 []).sub O O⟩))
 ·refine sk (sr (la ((z.up A).up B) (mi O (ms O (cr Y (fun _=>p74 (k0:=4) (Repo.rd (K:=[0]) x0.Commits x0.Heads (x.ul d) (y.ul d))) ?_)))))
  rintro e _ Z Y I ⟨a,rfl,J⟩
  have L:=d.n I
  refine mv (.tuple [a,vB e.2].toArray) O (Lw.r O (R.ext (vs:=[a,vB e.2]) (v:=a) O O) (Lw.r O (R.ext (vs:=[a,vB e.2]) (v:=vB e.2) O O) (Gv a O (Nb O (sr (mv a O (Nv a O ?_)))))))
  cases Y
  exact Cw.ret (zj5 O (Res.mk L ⟨a,O,J.s.sub O O⟩))
theorem p22 {x0 b d x1 x2 k0 r}(f:Rd W K [b,d] x0)(h:Gl 0 W K)(Y:Vm.zgp x0 x1 x2=some r):Q1 22 [.agg [b,d].toArray,vI x1,vS x2] W [] fun W' v=> ∃ a,v=a/\Ow W' k0 [] [a] r:=
 (c22 (f.view _) (h.view _) Y).ad (fk k0) fun _ _ ⟨a,e,i⟩=>⟨a,e,i.back (zkx _)⟩
theorem c70 (m:Nat): ∀ {W0:CW} {x0:Vm.Repo} {d:Value} {f:Value} {x1:Int} {x2:Str} {r:(List Int)} (z:Rd W0 [0] [d,f] x0) (Y:Vm.spec_l11Of_r m x0 x1 x2=some r),zaO Tryz.prog 70 [.agg [d,f].toArray,vI x1,vS x2].toArray W0.w (Res W0 LL fun Wf v=> ∃ (i:Value),v=i/\OwS Wf LL [] [i] r):=by
 induction m with
 |zero=>intro W0 x0 d f x1 x2 r z Y;exact absurd Y (by unfold Vm.spec_l11Of_r;exact nofun)
 |succ m ih=>
  have p70: ∀ {W:CW} {K:List Nat} {x0:Vm.Repo} {d:Value} {f:Value} {x1:Int} {x2:Str} {k0:Nat} {r:(List Int)} (z:Rd W K [d,f] x0) (Y:Vm.spec_l11Of_r m x0 x1 x2=some r),zaO Tryz.prog 70 [.agg [d,f].toArray,vI x1,vS x2].toArray W.w (Res W [] fun W' v=> ∃ (i:Value),v=i/\Ow W' k0 [] [i] r):=fun {W} {K} {x0} {d} {f} {x1} {x2} {k0} {r} z Y=>(ih (W0:=W.view K []) (z.view _) Y).ad (fk k0) fun _ _ ⟨i,e,f0⟩=>⟨i,e,f0.back (zkx _)⟩
  intro W0 x0 d f x1 x2 r z Y
  unfold Vm.spec_l11Of_r at Y
  obtain⟨cf,cg,ao,I,bb⟩:=Repo.split z
  simp only[List.cons.injEq,and_true,true_and]at ao
  obtain⟨rfl,rfl⟩:=ao
  refine zaO.of Tryz.func70 O O O O (sr (bo 2 O fun g1 W1 l1 b1=>?_))
  have a2:=l1.o
  refine Nv (.slice none 0 0) O (sr (fl b1 O (mi O ?_)))
  obtain⟨u3,e4,Y⟩:=ob Y
  refine Lw.r O (R.ix (α:=Commit) (I.ul a2) e4 O O O) (Lw.fa O ?_)
  obtain⟨v6,c7,r8⟩:=(Commit.at2 ((I.ul a2).at_ e4)).cell O
  refine Lw.r O (R.ld O O c7) (ms O (cr Y (fun _=>p68 r8) ?_))
  rintro A _ cl Y ar ⟨k,rfl,be⟩
  have au:=be.sub (M:=[0]) O
  have x:=a2.n ar
  refine mv (.tuple [k,vB A.2].toArray) O (Lw.r O (R.ext (vs:=[k,vB A.2]) (v:=k) O O) (Lw.r O (R.ext (vs:=[k,vB A.2]) (v:=vB A.2) O O) (Gv k O (Nb O (sr (Lw.t O (T.lit0 (α:=Int) 3 []) ?_))))))
  rintro F _ ⟨av,rfl,aw,ax⟩
  have b:=aw.o
  refine Nv F O (ssr (mb O (Lw.r O (R.not O) (nl (cn Y (fun Y=>?_) fun Y=>?_)))))
  ·refine sr (mv F O (Nv F O ?_))
   cases Y
   exact Cw.ret (zj5 O (Res.mk (x.trans b) ⟨F,O,ax.s.sub O O⟩))
  ·refine sk (ssr (Ni O (Cw.block ?_)))
   obtain⟨bg,bh,Y⟩:=zdC Y
   refine Cw.loop 32 41 [9,10] (fun m l w=> ∃ J L a N,CW.w N=w/\Le [3] av N/\l=[a,vI L]/\Ow N 3 [] [a] J/\Vm.zeU x1 A bg m J L=some r) _ ⟨([]:List Int),0,F,av,O,Le.refl _ _,O,ax,Y⟩ ?_
   rintro(_ |cm) _ _ σ ⟨J,L,a,N,rfl,ah,rfl,P,Y⟩
   ·cases Y
   unfold Vm.zeU at Y
   have h:=ah.s
   have Q:=((b1.up ar).up aw).up ah
   refine ssr (mi O (mv k O (Lw.ln A.1 (au.ul (b.trans h)) O (Lw.lt O (nl (cn Y (fun Y=>?_) fun Y=>?_))))))
   ·refine sk (Cw.seq (Cw.block (rg (mv a O (mi O (Lw.t O (T.bs 4 [vI x1] (cs:=[vI x1]) O O (bsv O)) ?_))))))
    rintro _ _ ⟨co,cp,rfl,rfl,ay,bi⟩
    obtain⟨bj,bk,Y⟩:=ob Y
    refine Lw.t O (T.app1S (α:=Int) (K':=[]) (P.up ay) bi (rdI _) O O bk) ?_
    rintro az _ ⟨bl,rfl,bm,bn⟩
    exact Nv az O (rg (mi O (Lw.add O (Ni O ((agm) ⟨bj,w64 (L+1),az,bl,O,((ah.j ay).j bm).w,O,bn,Y⟩)))))
   ·refine Cw.exit ?_
    rw[bh]at Y
    refine ssr (fl Q O (mi O ?_))
    obtain⟨bp,a0,Y⟩:=ob Y
    have B:=I.ul ((x.trans b).trans h)
    refine Lw.r O (R.ix (α:=Commit) B a0 O O O) (Lw.fa O ?_)
    obtain⟨cq,c44,r45⟩:=(Commit.at0 (B.at_ a0)).cell O
    refine Lw.r O (R.ld O O c44) (Lw.ln bp.Parents r45 O (Lw.eq O (nl (cn Y (fun Y=>?_) fun Y=>?_))))
    ·refine sr (mv a O (Nv a O ?_))
     cases Y
     exact Cw.ret (zj5 O (Res.mk ((x.trans b).trans h) ⟨a,O,P.s.sub O O⟩))
    ·refine sk (sr (fl Q O (mi O ?_)))
     obtain⟨ct,a1,Y⟩:=ob Y
     refine Lw.r O (R.ix (α:=Commit) B a1 O O O) (Lw.fa O ?_)
     obtain⟨cu,c50,r51⟩:=(Commit.at0 (B.at_ a1)).cell O
     refine Lw.r O (R.ld O O c50) ?_
     obtain⟨cv,a3,Y⟩:=ob Y
     refine Lw.r O (R.ix (α:=Int) r51 a3 O O O) (Lw.r O (R.ld O O (r51.at_ a3).int) (Ni O (sr (fl Q O (mi O ?_)))))
     obtain⟨cw,a4,Y⟩:=ob Y
     refine Lw.r O (R.ix (α:=Commit) B a4 O O O) (Lw.fa O ?_)
     obtain⟨cx,c57,r58⟩:=(Commit.at2 (B.at_ a4)).cell O
     refine Lw.r O (R.ld O O c57) (ms O (cr Y (fun _=>p68 r58) ?_))
     rintro S _ cy Y U ⟨C,rfl,bq⟩
     have br:=bq.sub (M:=[0]) O
     have G:=U.o
     refine mv (.tuple [C,vB S.2].toArray) O (Lw.r O (R.ext (vs:=[C,vB S.2]) (v:=C) O O) (Lw.r O (R.ext (vs:=[C,vB S.2]) (v:=vB S.2) O O) (Gv C O (Nb O (ssr (mb O (Lw.r O (R.not O) (nl (cn Y (fun Y=>?_) fun Y=>?_)))))))))
     ·refine sr (mv a O (Nv a O ?_))
      cases Y
      exact Cw.ret (zj5 O (Res.mk (((x.trans b).trans h).trans G) ⟨a,O,(P.up U).s.sub O O⟩))
     ·refine sk (sr (la (Q.up U) (mi O (ms O (cr Y (fun _=>p70 (k0:=5) (Repo.rd (K:=[0]) x0.Commits x0.Heads (I.ul (((x.trans b).trans h).trans G)) (bb.ul (((x.trans b).trans h).trans G)))) ?_)))))
      rintro bu a5 cz Y a6 ⟨_,rfl,bv⟩
      have ai:=a6.o
      refine Nv a5 O (sr (mv C O (mv k O (cr Y (fun _=>p69 (k0:=6) (br.ul ai) (au.ul (((b.trans h).trans G).trans ai))) ?_))))
      rintro a7 V a8 Y aj ⟨_,rfl,bw⟩
      have bz:=((((x.trans b).trans h).trans G).trans ai).n aj
      refine Nv V O (ssr (Ni O (Cw.block ?_)))
      obtain⟨b0,b2,Y⟩:=zdC Y
      refine Cw.loop 80 100 [16] (fun m l w=> ∃ X Z D,CW.w D=w/\Le [3] a8 D/\l=[vI X]/\Ow D 3 [] [a] Z/\Vm.zcM bu a7 b0 m X Z=some r) _ ⟨0,J,a8,O,Le.refl _ _,O,(((P.up U).up a6).up aj),Y⟩ ?_
      rintro(_ |c0) _ _ σ ⟨X,Z,D,rfl,aa,rfl,ac,Y⟩
      ·cases Y
      unfold Vm.zcM at Y
      have b3:=bz.t aa
      have E:=bw.up aa
      refine ssr (mi O (mv V O (Lw.ln a7 E.rd O (Lw.lt O (nl (cn Y (fun Y=>?_) fun Y=>?_))))))
      ·refine sk ?_
       obtain⟨b4,b5,Y⟩:=zdC Y
       refine Cw.join 86 100 [] (fun l w=> ∃ ae H,CW.w H=w/\Le [3] D H/\l=[]/\Ow H 3 [] [a] ae/\b4 ae=some r) ?_ ?_
       ·rintro _ _ σ ⟨ae,H,rfl,b6,rfl,b7,Y⟩
        rw[b5]at Y
        exact rg (mi O (Lw.add O (Ni O ((agm) ⟨w64 (X+1),ae,H,O,(aa.j b6).w,O,b7,Y⟩))))
       ·refine Cw.block (sr (mv V O (mi O ?_)))
        obtain⟨c1,a9,Y⟩:=ob Y
        refine Lw.r O (R.ix (α:=Int) E.rd a9 O O O) (Lw.r O (R.ld O O (E.rd.at_ a9).int) (Lw.ge O (nl (cn Y (fun Y=>?_) fun Y=>?_))))
        ·refine Cw.draw [] [(0,0),(1,0),(2,0),(3,0),(4,1),(5,0),(6,0),(7,0),(8,1),(9,0),(10,3)] mixed (by kernel_rfl) fun c2 y=>?_
         have ak:=((bv.up aj).up aa).up y
         refine Dv a O (Dv V O (Di O ?_))
         obtain⟨c3,am,Y⟩:=ob Y
         refine Mw.p O O (fun _=>R.ix (α:=Int) (E.up y).rd am O O O) (Mw.q O O (fun _ c=>R.ld O O (zaR ((E.up y).rd.at_ am).1 O ((E.up y).rd.at_ am).int c)) (Dv a5 O (Di O ?_)))
         obtain⟨c4,an,Y⟩:=ob Y
         refine Mw.p O O (fun _=>R.ix (α:=Int) ak.rd an O O O) (Mw.q O O (fun _ c=>R.ld O O (zaR (ak.rd.at_ an).1 O (ak.rd.at_ an).int c)) ?_)
         obtain⟨c5,b8,Y⟩:=ob Y
         refine Mw.p O O (fun _=>R.ix (α:=Int) (ac.up y).rd b8 O O O) ?_
         obtain⟨b9,cb,Y⟩:=ob Y
         refine Mw.lu O (T.stS (K':=[]) (ac.up y) (rdI _) cb O O O) ?_
         rintro _ _ ⟨cc,rfl,cd,ce⟩
         exact Mw.nil ((ag) ⟨b9,cc,O,(y.j cd).w,O,ce,Y⟩)
        ·exact sk ((ag) ⟨Z,D,O,Le.refl _ _,O,ac,Y⟩)
      ·refine Cw.exit ?_
       rw[b2]at Y
       refine sr (mv a O (Nv a O ?_))
       cases Y
       exact Cw.ret (zj5 O (Res.mk b3 ⟨a,O,ac.s.sub O O⟩))
theorem p70 {x0 b d x1 x2 k0 r}(f:Rd W K [b,d] x0)(Y:Vm.zh3 x0 x1 x2=some r):Q1 70 [.agg [b,d].toArray,vI x1,vS x2] W [] fun W' v=> ∃ a,v=a/\Ow W' k0 [] [a] r:=
 (c70 (x1.toNat+2) (W0:=W.view K []) (f.view _) Y).ad (fk k0) fun _ _ ⟨a,e,h⟩=>⟨a,e,h.back (zkx _)⟩
end Go.Sx
