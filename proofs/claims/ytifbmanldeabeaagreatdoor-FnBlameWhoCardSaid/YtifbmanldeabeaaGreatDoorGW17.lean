/- Walks: each function answers as its model, printed by a program of ours. Conditions: the arguments read as they are given. -/
import Derived.Test.YtifbmanldeabeaaGreatDoorGTs
import Derived.Test.YtifbmanldeabeaaGreatDoorGM4
import Derived.Test.YtifbmanldeabeaaGreatDoorGW0
import Derived.Test.YtifbmanldeabeaaGreatDoorGW1
import Derived.Test.YtifbmanldeabeaaGreatDoorGW11
import Derived.Test.YtifbmanldeabeaaGreatDoorGW3
import Derived.Test.YtifbmanldeabeaaGreatDoorGW8
import Derived.Test.YtifbmanldeabeaaGreatDoorGE
namespace Go.Sx
open Go Go.Proofs Go.Vm Rp
set_option linter.unusedVariables false
set_option linter.unusedSimpArgs false
variable {W W0:CW}{K:List Nat}
theorem c109 {x0 d e x1 i k r}(hB0:Bx W0 2 d [e,vI x0.p])(f:Rd W0 [0] [e] x0.b)(G:Rd W0 [0] [i,k] x1)(Y:Vm.zlD x0 x1=some r):Q0 109 [ptr (bx d), .agg [i,k].toArray] W0 fun Wf v=>v=vI r.1/\Bx Wf 2 d [e,vI r.2]:=by
 unfold Vm.zlD at Y
 obtain⟨U,V,x,y,X⟩:=Repo.split G
 simp only[List.cons.injEq,and_true,true_and]at x
 obtain⟨rfl,rfl⟩:=x
 refine zao.of Tryz.func109 O O O O (sr (bo 3 O fun Z W1 z A=>?_))
 have B:=z.o
 have H:=hB0.up z
 refine Ni O (ssr (mp O (cr Y (fun _=>p110 (c0:=2) (x0:=x0) H (f.ul B) O) ?_)))
 rintro C _ I Y h ⟨rfl,D⟩
 have a:=B.t h
 refine Lw.eq O (nl (cn Y (fun Y=>?_) fun Y=>?_))
 ·refine sr (mp O (fl (A.up h) O (Lw.ln x1.Commits (y.ul a) O (Lw.t O (T.bsS (α:=Int) (xs:=[(-1),(x1.Commits.length:Int)]) 4 [] (W:=I) [vI (-1),vI (x1.Commits.length:Int)] (Each.cons ((rdI _)) (Each.cons ((rdI _)) Each.nil)) O) ?_))))
  rintro ac _ ⟨ae,rfl,E,J⟩
  have F:=a.n E
  refine cr Y (fun _=>p151 (K:=[0,4]) (c0:=2) (x0:=(Vm.l30Rd.mk x0.b C.2)) (D.up E) ((f.ul F).sub (M:=[0,4]) O) (J.rd.sub (M:=[0,4]) O) O) ?_
  rintro af _ ah Y L ⟨rfl,N⟩
  have P:=F.t L
  refine Ni O ?_
  cases Y
  exact Cw.ret (zik O (Res.mk P ⟨O,N⟩))
 ·refine sk (sr (mp O (fl (A.up h) O (Lw.ln x1.Commits (y.ul a) O (cr Y (fun _=>p110 (c0:=2) (x0:=(Vm.l30Rd.mk x0.b C.2)) D (f.ul a) O) ?_)))))
  rintro ai _ aj Y Q ⟨rfl,R⟩
  have S:=a.t Q
  refine Ni O ?_
  cases Y
  exact Cw.ret (zik O (Res.mk S ⟨O,R⟩))
theorem p109 {x0 a d x1 f h c0 r}(hB0:Bx W c0 a [d,vI x0.p])(i:Rd W K [d] x0.b)(k:Rd W K [f,h] x1)(hJ:okJ K [c0]=true)(Y:Vm.zlD x0 x1=some r):Q1 109 [ptr (bx a), .agg [f,h].toArray] W [c0] fun W' v=>v=vI r.1/\Bx W' c0 a [d,vI r.2]:=
 zao.adJ (J:=[c0]) (fun c=>bif Nat.beq c 0 then 0 else bif Nat.beq c 2 then c0 else 0) (c109 (hB0.viewJ 0 hJ) (i.view _) (k.view _) Y) fun _ _ ⟨e,x⟩=>⟨e,Bx.backJ 0 x O⟩
theorem c56 {x0 aj r}(h0:Rd W0 [0] [aj] x0)(Y:Vm.zfR x0=some r):Q0 56 [aj] W0 fun Wf v=> ∃ bq br,v = .tuple [.agg [bq,br].toArray,vI r.2.1,vS r.2.2].toArray/\OwS Wf [31] [] [bq] r.1.Commits/\OwS Wf [32] [] [br] r.1.Heads:=by
 unfold Vm.zfR at Y
 refine zao.of Tryz.func56 O O O O (sr (al 2 [.slice none 0 0, .slice none 0 0] fun F W1 l1 b1=>?_))
 have a2:=l1.o
 refine Gi O (Ns O (sr (mv aj O (cr Y (fun _=>p62 (k0:=3) (h0.ul a2)) ?_))))
 rintro G _ W6 Y l6 ⟨f,ak,rfl,cu,cv⟩
 have H:=cv.sub (M:=[0]) O
 have a8:=a2.n l6
 refine Np O (sr (mp O (cr Y (fun _=>p63 (k0:=4) (k1:=5) (c0:=3) (x0:=G) cu H O) ?_)))
 rintro I _ eg Y bw ⟨a,i,rfl,bz,b0,cx⟩
 have am:=bw.s
 refine al 6 [.slice none 0 0, .slice none 0 0] fun J eh B cy=>?_
 have an:=B.o
 refine sta cy (zaa (bz.up B).oc (zaa (b0.up B).oc zaG)) fun ei Q b2=>?_
 have ao:=Q.s
 have b3:=(bz.up B).up Q
 have b4:=(b0.up B).up Q
 refine nl (sr (mp O (la b2 (cr Y (fun _=>p109 (K:=[0,4,5]) (c0:=3) (x0:=(Vm.l30Rd.mk G.b I.2)) (x1:=(Vm.Repo.mk I.1.Commits I.1.Heads)) ((cx.up B).up Q) ((H.ul ((am.trans an).trans ao)).sub (M:=[0,4,5]) O) ((Repo.rd (K:=[4,5]) I.1.Commits I.1.Heads (b3.rd.sub (M:=[4,5]) O) (b4.rd.sub (M:=[4,5]) O)).sub (M:=[0,4,5]) O) O) ?_))))
 rintro d _ cz Y S ⟨rfl,c1⟩
 have b5:=S.s
 have U:=b3.up S
 have af:=b2.up S
 refine Ni O (Cw.seq ?_)
 obtain⟨c2,c3,Y⟩:=zaY Y
 refine Cw.join 15 35 [35] (fun l w=> ∃ ap V z k X,CW.w X=w/\Le [3] cz X/\l=[vB ap]/\Rd X [0] [k] V/\Bx X 3 f [k,vI z]/\c2 ap V z=some r) ?_ ?_
 ·rintro _ _ σ ⟨ap,V,z,k,X,rfl,C,rfl,r39,b6,Y⟩
  rw[c3]at Y
  have b7:=((((a8.trans am).trans an).trans ao).trans b5).t C
  have aq:=(b4.up S).up C
  have b8:=(((((b1.up l6).up bw).up B).up Q).up S).up C
  refine cn Y (fun Y=>?_) fun Y=>?_
  ·refine Cw.seq ?_
   obtain⟨D,b9,Y⟩:=ob Y
   obtain⟨y,cb,Y⟩:=ob Y
   obtain⟨e,c4,Y⟩:=ob Y
   obtain⟨L,cc,Y⟩:=ob Y
   refine Cw.par [[],[],[],[2],[],[2,3,4],[2,3,4,5],[2,3,4,5,6],[],[],[9],[],[9,10,11],[9,10,11,12],[9,10,11,12,13],[9,10,11,12,13,14],[8,9,10,11,12,13,14,15],[2,3,4,5,6,7,8,9,10,11,12,13,14,15,16],[2,3,4,5,6,7,8,9,10,11,12,13,14,15,16,17],[2,3,4,5,6,7,8,9,10,11,12,13,14,15,16,17,18],[0,8,9,10,11,12,13,14,15,16],[0,1,8,9,10,11,12,13,14,15,16,20],[0,1,2,3,4,5,6,7,8,9,10,11,12,13,14,15,16,17,18,19,20,21]] [[],[],[],[2],[],[3,4],[5],[6],[24],[],[9],[],[10,11],[12],[13],[14],[8,15,24],[7,16],[7,17],[7,18],[0,23],[1],[19]] [[],[],[],[],[],[],[],[],[],[],[],[],[],[],[],[],[3],[],[],[],[2],[],[]] [[0],[1],[2],[3],[4],[5],[6],[7],[8],[9],[10],[11],[12],[13],[14],[15],[16],[7,17],[7,18],[19],[],[21],[22],[],[]] [[],[],[],[],[],[],[],[4],[],[],[],[],[],[],[4],[],[3],[],[],[],[2],[],[],[2],[3]] [0,1,2,3,4,5,6,7,8,9,10,11,12,13,14,15,16,17,18,19,20,21,22] [2,3] [fun vs W=>(vs 0) = .agg [a,i].toArray,fun vs W=>(vs 1)=vI d.1,fun vs W=>(vs 2)=ptr ((bx J).add 0),fun vs W=>(vs 3)=a,fun vs W=>(vs 4)=vI d.1,fun vs W=>(vs 5)=ptr ((slA a).add ((d.1).toNat*Rp.sz (Commit))),fun vs W=>(vs 6)=ptr (((slA a).add ((d.1).toNat*Rp.sz (Commit))).add 2),fun vs W=>Rd W [4] [(vs 7)] D.Tree,fun vs W=>(vs 8)=ptr (bx f),fun vs W=>(vs 9)=ptr ((bx J).add 0),fun vs W=>(vs 10)=a,fun vs W=>(vs 11)=vI d.1,fun vs W=>(vs 12)=ptr ((slA a).add ((d.1).toNat*Rp.sz (Commit))),fun vs W=>(vs 13)=ptr (((slA a).add ((d.1).toNat*Rp.sz (Commit))).add 2),fun vs W=>Rd W [4] [(vs 14)] y.Tree,fun vs W=>(vs 15)=vI (y.Tree.length:Int),fun vs W=>(vs 16)=vI e.1/\Bx W 3 f [k,vI e.2],fun vs W=>(vs 17)=ptr ((slA (vs 7)).add ((e.1).toNat*Rp.sz (File))),fun vs W=>(vs 18)=ptr (((slA (vs 7)).add ((e.1).toNat*Rp.sz (File))).add 0),fun vs W=>(vs 19)=vS L.Path,fun vs W=>Bx W 2 F [a,i],fun vs W=>(vs 21)=vI d.1,fun vs W=>(vs 22)=vS L.Path] [fun _ W=>Bx W 2 F [.slice none 0 0, .slice none 0 0],fun _ W=>Bx W 3 f [k,vI z]] mixed (by kernel_rfl) O (zsd.cons (fun _ _ l=>b8.up l O) (zsd.cons (fun _ _ l=>b6.up l O) zsd.nil)) ?_
   intro ej Z
   have cd:=Z.o
   have N:=(U.up C).up Z
   have ar:=(af.up C).up Z
   refine⟨(zaV.cons ?_ (zaV.cons ?_ (zaV.cons ?_ (zaV.cons ?_ (zaV.cons ?_ (zaV.cons ?_ (zaV.cons ?_ (zaV.cons ?_ (zaV.cons ?_ (zaV.cons ?_ (zaV.cons ?_ (zaV.cons ?_ (zaV.cons ?_ (zaV.cons ?_ (zaV.cons ?_ (zaV.cons ?_ (zaV.cons ?_ (zaV.cons ?_ (zaV.cons ?_ (zaV.cons ?_ (zaV.cons ?_ (zaV.cons ?_ (zaV.cons ?_ zaV.nil))))))))))))))))))))))),(zdz.cons SE (zdz.cons SE (zdz.cons SE (zdz.cons SE (zdz.cons SE (zdz.cons SE (zdz.cons SE (zdz.cons (fun vs vs' W W' _ hv l hd h=>by(show Rd W' [4] [(vs' 7)] D.Tree);rw[hv 7 (zaC O)];exact h.up l (zkA hd (K:=[4]) O)) (zdz.cons SE (zdz.cons SE (zdz.cons SE (zdz.cons SE (zdz.cons SE (zdz.cons SE (zdz.cons (fun vs vs' W W' _ hv l hd h=>by(show Rd W' [4] [(vs' 14)] y.Tree);rw[hv 14 (zaC O)];exact h.up l (zkA hd (K:=[4]) O)) (zdz.cons SE (zdz.cons (fun vs vs' W W' _ hv l hd h=>by(show(vs' 16)=vI e.1/\Bx W' 3 f [k,vI e.2]);rw[hv 16 (zaC O)];exact⟨h.1,h.2.up l (zcn hd (c:=3) O)⟩) (zdz.cons (fun vs vs' W W' _ hv l hd h=>by(show(vs' 17)=ptr ((slA (vs' 7)).add ((e.1).toNat*Rp.sz (File))));rw[hv 7 (zaC O),hv 17 (zaC O)];exact h) (zdz.cons (fun vs vs' W W' _ hv l hd h=>by(show(vs' 18)=ptr (((slA (vs' 7)).add ((e.1).toNat*Rp.sz (File))).add 0));rw[hv 7 (zaC O),hv 18 (zaC O)];exact h) (zdz.cons SE (zdz.cons (fun vs vs' W W' _ hv l hd h=>by(show Bx W' 2 F [a,i]);exact h.up l (zcn hd (c:=2) O)) (zdz.cons SE (zdz.cons SE (zdz.cons (fun _ _ _ _ _ _ l hd h=>h.up l (zcn hd (c:=2) O)) (zdz.cons (fun _ _ _ _ _ _ l hd h=>h.up l (zcn hd (c:=3) O)) zdz.nil))))))))))))))))))))))))),?_⟩
   ·intro vs ek lW hN hV
    exact Trq (R.lda (cs:=[a,i]) (ar.up lW O).cells O O) O
   ·intro vs el lW hN hV
    exact Trq (R.mv (v:=vI d.1) O) O
   ·intro vs em lW hN hV
    exact Trq (R.fa O) O
   ·intro vs en lW hN hV
    have au:vs 2=ptr ((bx J).add 0):=(hN 2 (zaC O))
    obtain⟨vs,rfl⟩:=zat au
    exact Trq (R.ld (v:=a) O O ((ar.up lW O).cell O)) O
   ·intro vs eo lW hN hV
    exact Trq (R.mv (v:=vI d.1) O) O
   ·intro vs ep lW hN hV
    have av:vs 3=a:=(hN 3 (zaC O))
    obtain⟨vs,rfl⟩:=zat av
    have aw:vs 4=vI d.1:=(hN 4 (zaC O))
    obtain⟨vs,rfl⟩:=zat aw
    exact Trq (R.ix (α:=Commit) (N.up lW O).rd b9 O O O) O
   ·intro vs er lW hN hV
    have ax:vs 5=ptr ((slA a).add ((d.1).toNat*Rp.sz (Commit))):=(hN 5 (zaC O))
    obtain⟨vs,rfl⟩:=zat ax
    exact Trq (R.fa O) O
   ·intro vs c5 lW hN hV
    have ay:vs 6=ptr (((slA a).add ((d.1).toNat*Rp.sz (Commit))).add 2):=(hN 6 (zaC O))
    obtain⟨vs,rfl⟩:=zat ay
    obtain⟨c6,c133,r134⟩:=(Commit.at2 ((N.up lW O).rd.at_ b9)).cell O
    exact Trq (R.ld O O c133) (show Rd c5 [4] [c6] D.Tree from r134)
   ·intro vs c7 lW hN hV
    have es:Bx c7 3 f [k,vI z]:=hN 24 (zaC O)
    exact Trq (R.mv (v:=ptr (bx f)) O) O
   ·intro vs et lW hN hV
    exact Trq (R.fa O) O
   ·intro vs eu lW hN hV
    have az:vs 9=ptr ((bx J).add 0):=(hN 9 (zaC O))
    obtain⟨vs,rfl⟩:=zat az
    exact Trq (R.ld (v:=a) O O ((ar.up lW O).cell O)) O
   ·intro vs ew lW hN hV
    exact Trq (R.mv (v:=vI d.1) O) O
   ·intro vs ex lW hN hV
    have a0:vs 10=a:=(hN 10 (zaC O))
    obtain⟨vs,rfl⟩:=zat a0
    have a1:vs 11=vI d.1:=(hN 11 (zaC O))
    obtain⟨vs,rfl⟩:=zat a1
    exact Trq (R.ix (α:=Commit) (N.up lW O).rd cb O O O) O
   ·intro vs ey lW hN hV
    have a3:vs 12=ptr ((slA a).add ((d.1).toNat*Rp.sz (Commit))):=(hN 12 (zaC O))
    obtain⟨vs,rfl⟩:=zat a3
    exact Trq (R.fa O) O
   ·intro vs c8 lW hN hV
    have a4:vs 13=ptr (((slA a).add ((d.1).toNat*Rp.sz (Commit))).add 2):=(hN 13 (zaC O))
    obtain⟨vs,rfl⟩:=zat a4
    obtain⟨c9,c172,r173⟩:=(Commit.at2 ((N.up lW O).rd.at_ cb)).cell O
    exact Trq (R.ld O O c172) (show Rd c8 [4] [c9] y.Tree from r173)
   ·intro vs da lW hN hV
    obtain⟨a5,a6⟩: ∃ v,vs 14=v:=⟨_,O⟩
    obtain⟨vs,rfl⟩:=zat a6
    have db:Rd da [4] [a5] y.Tree:=(hN 14 (zaC O))
    exact Trq (zuo (xs:=y.Tree) db O) O
   ·intro vs dc lW hN hV
    have dd:=cd.t lW O
    have a7:vs 8=ptr (bx f):=(hN 8 (zaC O))
    obtain⟨vs,rfl⟩:=zat a7
    have a9:vs 15=vI (y.Tree.length:Int):=(hN 15 (zaC O))
    obtain⟨vs,rfl⟩:=zat a9
    have de:Bx dc 3 f [k,vI z]:=hN 24 (zaC O)
    refine Tr.mono (T.call O (p110 (c0:=3) (x0:=(Vm.l30Rd.mk V z)) de (r39.ul dd) O c4)) ?_
    rintro _ _ ⟨ce,rfl,df,⟨rfl,dg⟩⟩
    exact⟨ce,O,df,(show(vI e.1:Value)=vI e.1/\Bx ce 3 f [k,vI e.2] from⟨O,dg⟩)⟩
   ·intro vs cf lW hN hV
    obtain⟨x,E⟩: ∃ v,vs 7=v:=⟨_,O⟩
    obtain⟨vs,rfl⟩:=zat E
    have dh:Rd cf [4] [x] D.Tree:=(hN 7 (zaC O))
    have ba:vs 16=vI e.1:=(hN 16 (zaC O)).1
    obtain⟨vs,rfl⟩:=zat ba
    have ez:Bx cf 3 f [k,vI e.2]:=(hN 16 (zaC O)).2
    exact Trq (R.ix (α:=File) dh cc O O O) O
   ·intro vs di lW hN hV
    obtain⟨x,E⟩: ∃ v,vs 7=v:=⟨_,O⟩
    obtain⟨vs,rfl⟩:=zat E
    have e0:Rd di [4] [x] D.Tree:=(hN 7 (zaC O))
    have bb:vs 17=ptr ((slA x).add ((e.1).toNat*Rp.sz (File))):=(hN 17 (zaC O))
    obtain⟨vs,rfl⟩:=zat bb
    exact Trq (R.fa O) O
   ·intro vs dj lW hN hV
    obtain⟨x,E⟩: ∃ v,vs 7=v:=⟨_,O⟩
    obtain⟨vs,rfl⟩:=zat E
    have dk:Rd dj [4] [x] D.Tree:=(hN 7 (zaC O))
    have bc:vs 18=ptr (((slA x).add ((e.1).toNat*Rp.sz (File))).add 0):=(hN 18 (zaC O))
    obtain⟨vs,rfl⟩:=zat bc
    exact Trq (R.ld O O (File.at0 (dk.at_ cc)).str) O
   ·intro vs dl lW hN hV
    have be:vs 0 = .agg [a,i].toArray:=(hN 0 (zaC O))
    obtain⟨vs,rfl⟩:=zat be
    have dm:Bx dl 2 F [.slice none 0 0, .slice none 0 0]:=hN 23 (zaC O)
    refine Tr.mono (T.sta (vs:=[a,i]) dm O O (zaa (N.up lW O).oc (zaa ((aq.up Z).up lW O).oc zaG)) O O) ?_
    rintro _ _ ⟨cg,rfl,dn,dp⟩
    exact⟨cg,O,dn,(show Bx cg 2 F [a,i] from dp)⟩
   ·intro vs e1 lW hN hV
    have bg:vs 1=vI d.1:=(hN 1 (zaC O))
    obtain⟨vs,rfl⟩:=zat bg
    exact Trq (R.as (v:=vI d.1) O) O
   ·intro vs e2 lW hN hV
    have bh:vs 19=vS L.Path:=(hN 19 (zaC O))
    obtain⟨vs,rfl⟩:=zat bh
    exact Trq (R.as (v:=vS L.Path) O) O
   ·intro vs ah bi hN
    have dq:=(b7.trans cd).t bi
    have be:vs 0 = .agg [a,i].toArray:=(hN 0 (zaC O))
    obtain⟨vs,rfl⟩:=zat be
    have bg:vs 1=vI d.1:=(hN 1 (zaC O))
    obtain⟨vs,rfl⟩:=zat bg
    have au:vs 2=ptr ((bx J).add 0):=(hN 2 (zaC O))
    obtain⟨vs,rfl⟩:=zat au
    have av:vs 3=a:=(hN 3 (zaC O))
    obtain⟨vs,rfl⟩:=zat av
    have aw:vs 4=vI d.1:=(hN 4 (zaC O))
    obtain⟨vs,rfl⟩:=zat aw
    have ax:vs 5=ptr ((slA a).add ((d.1).toNat*Rp.sz (Commit))):=(hN 5 (zaC O))
    obtain⟨vs,rfl⟩:=zat ax
    have ay:vs 6=ptr (((slA a).add ((d.1).toNat*Rp.sz (Commit))).add 2):=(hN 6 (zaC O))
    obtain⟨vs,rfl⟩:=zat ay
    obtain⟨x,E⟩: ∃ v,vs 7=v:=⟨_,O⟩
    obtain⟨vs,rfl⟩:=zat E
    have e3:Rd ah [4] [x] D.Tree:=(hN 7 (zaC O))
    have a7:vs 8=ptr (bx f):=(hN 8 (zaC O))
    obtain⟨vs,rfl⟩:=zat a7
    have az:vs 9=ptr ((bx J).add 0):=(hN 9 (zaC O))
    obtain⟨vs,rfl⟩:=zat az
    have a0:vs 10=a:=(hN 10 (zaC O))
    obtain⟨vs,rfl⟩:=zat a0
    have a1:vs 11=vI d.1:=(hN 11 (zaC O))
    obtain⟨vs,rfl⟩:=zat a1
    have a3:vs 12=ptr ((slA a).add ((d.1).toNat*Rp.sz (Commit))):=(hN 12 (zaC O))
    obtain⟨vs,rfl⟩:=zat a3
    have a4:vs 13=ptr (((slA a).add ((d.1).toNat*Rp.sz (Commit))).add 2):=(hN 13 (zaC O))
    obtain⟨vs,rfl⟩:=zat a4
    obtain⟨a5,a6⟩: ∃ v,vs 14=v:=⟨_,O⟩
    obtain⟨vs,rfl⟩:=zat a6
    have e4:Rd ah [4] [a5] y.Tree:=(hN 14 (zaC O))
    have a9:vs 15=vI (y.Tree.length:Int):=(hN 15 (zaC O))
    obtain⟨vs,rfl⟩:=zat a9
    have ba:vs 16=vI e.1:=(hN 16 (zaC O)).1
    obtain⟨vs,rfl⟩:=zat ba
    have e5:Bx ah 3 f [k,vI e.2]:=(hN 16 (zaC O)).2
    have bb:vs 17=ptr ((slA x).add ((e.1).toNat*Rp.sz (File))):=(hN 17 (zaC O))
    obtain⟨vs,rfl⟩:=zat bb
    have bc:vs 18=ptr (((slA x).add ((e.1).toNat*Rp.sz (File))).add 0):=(hN 18 (zaC O))
    obtain⟨vs,rfl⟩:=zat bc
    have bh:vs 19=vS L.Path:=(hN 19 (zaC O))
    obtain⟨vs,rfl⟩:=zat bh
    have dr:Bx ah 2 F [a,i]:=(hN 20 (zaC O))
    have ds:vs 21=vI d.1:=(hN 21 (zaC O))
    obtain⟨vs,rfl⟩:=zat ds
    have dt:vs 22=vS L.Path:=(hN 22 (zaC O))
    obtain⟨vs,rfl⟩:=zat dt
    obtain⟨e6,du,bj,dv⟩:=(N.up bi).dyeO 31
    have dw:=dq.t bj
    obtain⟨e7,dx,bk,dy⟩:=(((aq.up Z).up bi).up bj).dyeO 32
    have dz:=dw.t bk
    cases Y
    rw[<- dx.trans (du)]
    exact Cw.ret (zCo (zlE.c O ((dr.up bj).up bk) (zlE.t O (zlE.t O zlE.n))) (Res.mk dz ⟨a,i,O,(dv.up bk).s,dy.s⟩))
  ·refine sk (Cw.seq (Cw.draw [3] [(0,1),(1,0),(2,0),(3,2),(4,3),(5,0),(6,0)] mixed (by kernel_rfl) fun e8 P=>?_))
   have ch:=P.o
   refine Mw.q O O (fun _ c=>R.lda (cs:=[a,i]) (((af.up C).up P).clcs O c) O O) (Di O (Dp O ?_))
   obtain⟨e9,d0,Y⟩:=ob Y
   refine Mw.t O O (T.call O (p111 (c0:=3) (x0:=(Vm.l30Rd.mk V z)) (b6.up P) (r39.ul ch) O d0)) ?_
   rintro _ _ ⟨fb,rfl,aa,⟨rfl,fc⟩⟩
   have d1:=(b7.trans ch).t aa
   have ci:=((U.up C).up P).up aa
   have cj:=(aq.up P).up aa
   refine m0 aa fun fd=>Mw.lu O (T.sta (vs:=[a,i]) ((b8.up P).up aa) O O (zaa ci.oc (zaa cj.oc zaG)) O O) ?_
   rintro _ _ ⟨fe,rfl,bl,d2⟩
   have d3:=d1.t bl
   refine Hi O (Hs O (Mw.nil ?_))
   obtain⟨ff,d4,bm,d5⟩:=(ci.up bl).dyeO 31
   have d6:=d3.t bm
   obtain⟨fg,d7,bn,d8⟩:=((cj.up bl).up bm).dyeO 32
   have d9:=d6.t bn
   cases Y
   rw[<- d7.trans (d4)]
   exact Cw.ret (zCo (zlE.c O ((d2.up bm).up bn) (zlE.t O (zlE.t O zlE.n))) (Res.mk d9 ⟨a,i,O,(d5.up bn).s,d8.s⟩))
 ·refine rg (mi O (fl af O (Lw.ln I.1.Commits U.rd O (Lw.sub O (ca Y (fun _=>p80) fun fh ck Y A=>?_)))))
  have ai:=(((am.trans an).trans ao).trans b5).n A
  have bp:=c1.up A
  refine mb O (bs Y (fun ac Y=>?_) fun ac Y=>?_)
  ·refine wak 8 ac (fl (af.up A) O (mi O ?_))
   obtain⟨ea,cl,Y⟩:=ob Y
   refine Lw.r O (R.ix (α:=Commit) (U.up A).rd cl O O O) (Lw.fa O ?_)
   obtain⟨fi,c300,r301⟩:=(Commit.at2 ((U.up A).rd.at_ cl)).cell O
   refine Lw.r O (R.ld O O c300) (Lw.ln ea.Tree r301 O (Lw.gt O (Pb ac O (mb O (bs Y (fun ae Y=>?_) fun ae Y=>?_)))))
   ·refine wak 3 ae (mp O (cr Y (fun _=>p110 (c0:=3) (x0:=(Vm.l30Rd.mk G.b d.2)) bp (H.ul ai) O) ?_))
    rintro cm _ eb Y co ⟨rfl,ec⟩
    have ed:=ai.t co
    exact Lw.gt O (Pb ae O (nl ((ag) ⟨decide (0< (cm.1:Int)),G.b,cm.2,ak,eb,O,(A.j co).w,O,(H.ul ed),ec,Y⟩)))
   ·exact psk 3 ae O (Pb ae O (nl ((ag) ⟨false,G.b,d.2,ak,ck,O,A.w,O,(H.ul ai),bp,Y⟩)))
  ·exact psk 8 ac O (Pb ac O (mb O (psk 3 O O (Pb O O (nl ((ag) ⟨false,G.b,d.2,ak,ck,O,A.w,O,(H.ul ai),bp,Y⟩))))))
theorem p56 {x0 d k0 k1 r}(f:Rd W K [d] x0)(Y:Vm.zfR x0=some r):Q1 56 [d] W [] fun W' v=> ∃ a b,v = .tuple [.agg [a,b].toArray,vI r.2.1,vS r.2.2].toArray/\Ow W' k0 [] [a] r.1.Commits/\Ow W' k1 [] [b] r.1.Heads:=
 zao.adJ (J:=[]) (fun c=>bif Nat.beq c 0 then 0 else bif Nat.beq c 31 then k0 else bif Nat.beq c 32 then k1 else 0) (c56 (f.view _) Y) fun _ _ ⟨a,b,e,h,i⟩=>⟨a,b,e,h.one1.backN O,i.one1.backN O⟩
theorem c21 {x0 e r}(C:Rd W0 [0] [e] x0)(Y:Vm.zfn x0=some r):Q0 21 [e] W0 fun Wf v=> ∃ k x,v = .tuple [.agg [k,x].toArray,vI r.2.1,vS r.2.2].toArray/\OwS Wf [31] [] [k] r.1.Commits/\OwS Wf [32] [] [x] r.1.Heads:=by
 unfold Vm.zfn at Y
 refine zao.of Tryz.func21 O O O O (sr (al 2 [.slice none 0 0, .slice none 0 0] fun P Q D E=>?_))
 have y:=D.o
 refine Gi O (Ns O (sr (mv e O (cr Y (fun _=>p56 (k0:=3) (k1:=4) (C.ul y)) ?_))))
 rintro a _ S Y z ⟨b,d,rfl,A,B⟩
 have F:=y.n z
 refine Lw.r O (R.ext (vs:=[.agg [b,d].toArray,vI a.2.1,vS a.2.2]) (v:= .agg [b,d].toArray) O O) (Lw.r O (R.ext (vs:=[.agg [b,d].toArray,vI a.2.1,vS a.2.2]) (v:=vI a.2.1) O O) (Lw.r O (R.ext (vs:=[.agg [b,d].toArray,vI a.2.1,vS a.2.2]) (v:=vS a.2.2) O O) (sta (E.up z) (zaa A.oc (zaa B.oc zaG)) fun T f G=>?_)))
 have H:=F.t f
 refine Gi O (Ns O ?_)
 obtain⟨U,I,h,J⟩:=(A.up f).dyeO 31
 have K:=H.t h
 obtain⟨V,L,i,M⟩:=((B.up f).up h).dyeO 32
 have N:=K.t i
 cases Y
 rw[<- L.trans (I)]
 exact Cw.ret (zCo (zlE.c O ((G.up h).up i) (zlE.t O (zlE.t O zlE.n))) (Res.mk N ⟨b,d,O,(J.up i).s,M.s⟩))
theorem p21 {x0 d k0 k1 r}(f:Rd W K [d] x0)(Y:Vm.zfn x0=some r):Q1 21 [d] W [] fun W' v=> ∃ a b,v = .tuple [.agg [a,b].toArray,vI r.2.1,vS r.2.2].toArray/\Ow W' k0 [] [a] r.1.Commits/\Ow W' k1 [] [b] r.1.Heads:=
 zao.adJ (J:=[]) (fun c=>bif Nat.beq c 0 then 0 else bif Nat.beq c 31 then k0 else bif Nat.beq c 32 then k1 else 0) (c21 (f.view _) Y) fun _ _ ⟨a,b,e,h,i⟩=>⟨a,b,e,h.one1.backN O,i.one1.backN O⟩
theorem c60 {x0 y z x1 f r}(J:Rd W0 [0] [y,z] x0)(h:Rd W0 [0] [f] x1)(L:Gl 0 W0 [0])(Y:Vm.zio x0 x1=some r):Q0 60 [.agg [y,z].toArray,f] W0 fun Wf v=>v=vB r:=by
 unfold Vm.zio at Y
 obtain⟨U,V,A,B,C⟩:=Repo.split J
 simp only[List.cons.injEq,and_true,true_and]at A
 obtain⟨rfl,rfl⟩:=A
 refine zao.of Tryz.func60 O O O O (sr (bo 2 O fun W X M D=>?_))
 have b:=M.o
 refine Nb O (ssr (la D (ca Y (fun _=>p42 (Repo.rd (K:=[0]) x0.Commits x0.Heads (B.ul b) (C.ul b)) (L.ul b)) fun Z E Y F=>?_)))
 have i:=b.n F
 refine Lw.r O (R.not O) (nl (cn Y (fun Y=>?_) fun Y=>?_))
 ·exact sr (Nb O (.ret (rt Y i)))
 ·refine sk (ssr (mv f O (Lw.ln x1 (h.ul i) O (mi O (nl (Cw.block ?_))))))
  obtain⟨N,P,Y⟩:=zaY Y
  refine Cw.loop 12 20 [4,6,12] (fun m l w=> ∃ d e G k,CW.w k=w/\Le [] E k/\l=[vB d,G,vI e]/\Vm.zey x0 x1 N m d e=some r) _ ⟨false,0,undef,E,O,Le.refl _ _,O,Y⟩ ?_
  rintro(_ |aa) _ _ σ ⟨d,e,G,k,rfl,x,rfl,Y⟩
  ·cases Y
  unfold Vm.zey at Y
  have a:=i.n x
  refine sr (Lw.lt O (nl (Cw.seq (cn Y (fun Y=>?_) fun Y=>?_))))
  ·refine sk (Cw.seq (Cw.block (sr ?_)))
   obtain⟨Q,H,Y⟩:=ob Y
   refine Lw.r O (R.ix (α:=Int) (h.ul a) H O O O) (Lw.r O (R.ld O O ((h.ul a).at_ H).int) (Ni O (sr (la ((D.up F).up x) (mi O (ca Y (fun _=>p97 (Repo.rd (K:=[0]) x0.Commits x0.Heads (B.ul a) (C.ul a))) fun ac S Y I=>?_))))))
   have T:=a.n I
   refine Lw.r O (R.not O) (nl (cn Y (fun Y=>?_) fun Y=>?_))
   ·exact sr (Nb O (.ret (rt Y T)))
   ·exact sk (rg (Lw.add O (mi O (nl ((agm) ⟨d,w64 (e+1),vI Q,S,O,(x.j I).w,O,Y⟩)))))
  ·refine Cw.exit ?_
   rw[P]at Y
   exact sr (Nb O (.ret (rt Y a)))
theorem p60 {x0 a b x1 d r}(f:Rd W K [a,b] x0)(h:Rd W K [d] x1)(i:Gl 0 W K)(Y:Vm.zio x0 x1=some r):Q1 60 [.agg [a,b].toArray,d] W [] fun W' v=>v=vB r:=
 (c60 (f.view _) (h.view _) (i.view _) Y).ad (fk 0) fun _ _ e=>e
theorem c117 {x0 d e x1 r}(y:Rd W0 [0] [d,e] x0)(Y:Vm.zes x0 x1=some r):Q0 117 [.agg [d,e].toArray,vI x1] W0 fun Wf v=>v=vI r:=by
 unfold Vm.zes at Y
 obtain⟨C,D,f,z,E⟩:=Repo.split y
 simp only[List.cons.injEq,and_true,true_and]at f
 obtain⟨rfl,rfl⟩:=f
 refine zao.of Tryz.func117 O O O O (sr (bo 2 O fun F G A h=>?_))
 have b:=A.o
 refine Ni O (ssr (fl h O (mi O ?_)))
 obtain⟨B,i,Y⟩:=ob Y
 have a:=z.ul b
 refine Lw.r O (R.ix (α:=Commit) a i O O O) (Lw.fa O ?_)
 obtain⟨H,c7,r8⟩:=(Commit.at0 (a.at_ i)).cell O
 refine Lw.r O (R.ld O O c7) (Lw.ln B.Parents r8 O (Lw.eq O (nl (cn Y (fun Y=>?_) fun Y=>?_))))
 ·exact sr (Ni O (.ret (rt Y b)))
 ·refine sk (sr (fl h O (mi O ?_)))
  obtain⟨I,k,Y⟩:=ob Y
  refine Lw.r O (R.ix (α:=Commit) a k O O O) (Lw.fa O ?_)
  obtain⟨J,c13,r14⟩:=(Commit.at0 (a.at_ k)).cell O
  refine Lw.r O (R.ld O O c13) ?_
  obtain⟨K,x,Y⟩:=ob Y
  exact Lw.r O (R.ix (α:=Int) r14 x O O O) (Lw.r O (R.ld O O (r14.at_ x).int) (Ni O (.ret (rt Y b))))
theorem p117 {x0 a b x1 r}(d:Rd W K [a,b] x0)(Y:Vm.zes x0 x1=some r):Q1 117 [.agg [a,b].toArray,vI x1] W [] fun W' v=>v=vI r:=
 (c117 (d.view _) Y).ad (fk 0) fun _ _ e=>e
theorem c61 (m:Nat): ∀ {W0:CW} {x0:Vm.Repo} {b:Value} {d:Value} {x1:Int} {x2:Str} {r:(List Int)×Bool} (i:Rd W0 [0] [b,d] x0) (Y:Vm.impl_Repo_blame_r m x0 x1 x2=some r),zao Tryz.prog 61 [.agg [b,d].toArray,vI x1,vS x2].toArray W0.w (Res W0 LL fun Wf v=> ∃ (f:Value),v = .tuple [f,vB r.2].toArray/\OwS Wf LL [] [f] r.1):=by
 induction m with
 |zero=>intro W0 x0 b d x1 x2 r i Y;exact absurd Y (by unfold Vm.impl_Repo_blame_r;exact nofun)
 |succ m ih=>
  have p61: ∀ {W:CW} {K:List Nat} {x0:Vm.Repo} {b:Value} {d:Value} {x1:Int} {x2:Str} {k0:Nat} {r:(List Int)×Bool} (i:Rd W K [b,d] x0) (Y:Vm.impl_Repo_blame_r m x0 x1 x2=some r),zao Tryz.prog 61 [.agg [b,d].toArray,vI x1,vS x2].toArray W.w (Res W [] fun W' v=> ∃ (f:Value),v = .tuple [f,vB r.2].toArray/\Ow W' k0 [] [f] r.1):=fun {W} {K} {x0} {b} {d} {x1} {x2} {k0} {r} i Y=>(ih (W0:=W.view K []) (i.view _) Y).ad (fk k0) fun _ _ ⟨f,e,f0⟩=>⟨f,e,f0.back (zgv _)⟩
  intro W0 x0 b d x1 x2 r i Y
  unfold Vm.impl_Repo_blame_r at Y
  obtain⟨cj,ck,ap,G,H⟩:=Repo.split i
  simp only[List.cons.injEq,and_true,true_and]at ap
  obtain⟨rfl,rfl⟩:=ap
  refine zao.of Tryz.func61 O O O O (sr (bo 2 O fun g1 W1 l1 b1=>?_))
  have a2:=l1.o
  refine Gv (.slice none 0 0) O (Nb O (sr (la b1 (mi O (cr Y (fun _=>p71 (Repo.rd (K:=[0]) x0.Commits x0.Heads (G.ul a2) (H.ul a2))) ?_)))))
  rintro z5 cp W7 Y l7 ⟨_,rfl,be⟩
  have s8:=be.sub (M:=[0]) O
  have a9:=a2.n l7
  refine ms O (cr Y (fun _=>p116 (k0:=3) s8) ?_)
  rintro k _ cs Y au ⟨h,rfl,av⟩
  have aw:=a9.n au
  refine mv (.tuple [h,vB k.2].toArray) O (Lw.r O (R.ext (vs:=[h,vB k.2]) (v:=h) O O) (Lw.r O (R.ext (vs:=[h,vB k.2]) (v:=vB k.2) O O) (Gv h O (Nb O (ssr (mb O (Lw.r O (R.not O) (nl (cn Y (fun Y=>?_) fun Y=>?_)))))))))
  ·refine sr (Gv (.slice none 0 0) O (Nb O ?_))
   cases Y
   exact Cw.ret (zph O O (Res.mk aw ⟨.slice none 0 0,O,(zp0 []).sub O O⟩))
  ·refine sk (sr (mv h O (Lw.ln k.1 av.rd O ?_)))
   obtain⟨af,bi,Y⟩:=ob Y
   refine Lw.t O (T.mk (α:=Int) 4 [] (n:=(k.1.length:Int)) O O bi) ?_
   rintro a _ ⟨ax,rfl,ah,ay⟩
   have bj:=aw.n ah
   refine Nv a O (ssr (mv a O (Lw.ln af ay.rd O (mi O (nl (Cw.block ?_))))))
   obtain⟨bk,bl,Y⟩:=zaY Y
   refine Cw.loop 34 41 [11,34] (fun m l w=> ∃ C I az J,CW.w J=w/\Le [4] ax J/\l=[az,vI C]/\Ow J 4 [] [a] I/\Vm.zdx x1 af bk m C I=some r) _ ⟨0,af,undef,ax,O,Le.refl _ _,O,ay,Y⟩ ?_
   rintro(_ |ct) _ _ σ ⟨C,I,az,J,rfl,L,rfl,N,Y⟩
   ·cases Y
   unfold Vm.zdx at Y
   have ai:=bj.t L
   have aj:=(((b1.up l7).up au).up ah).up L
   refine sr (Lw.lt O (nl (Cw.seq (cn Y (fun Y=>?_) fun Y=>?_))))
   ·refine sk (Cw.seq (Cw.block (sr (mi O (Ni O (rg (mv a O (mi O (mi O ?_)))))))))
    obtain⟨cu,bm,Y⟩:=ob Y
    refine Lw.r O (R.ix (α:=Int) N.rd bm O O O) ?_
    obtain⟨bn,bp,Y⟩:=ob Y
    refine Lw.u (T.stS (K':=[]) N (rdI _) bp O O O) ?_
    rintro _ _ ⟨bq,rfl,br,bu⟩
    exact nl (rg (Lw.add O (mi O (nl ((agm) ⟨w64 (C+1),bn,vI C,bq,O,(L.j br).w,O,bu,Y⟩)))))
   ·refine Cw.exit ?_
    rw[bl]at Y
    refine sr (la aj (mi O (ca Y (fun _=>p117 (Repo.rd (K:=[0]) x0.Commits x0.Heads (G.ul ai) (H.ul ai))) fun cv cw Y x=>?_)))
    have P:=ai.n x
    refine Ni O (ssr (mi O (Lw.lt O (nl (cn Y (fun Y=>?_) fun Y=>?_)))))
    ·refine sr (mv a O (Gv a O (Nb O ?_)))
     cases Y
     exact Cw.ret (zph O O (Res.mk P ⟨a,O,(N.up x).s.sub O O⟩))
    ·refine sk (sr (la (aj.up x) (mi O (ms O (cr Y (fun _=>p61 (k0:=5) (Repo.rd (K:=[0]) x0.Commits x0.Heads (G.ul P) (H.ul P))) ?_)))))
     rintro D _ cx Y Q ⟨y,rfl,bv⟩
     have S:=P.n Q
     have a0:=(N.up x).up Q
     refine mv (.tuple [y,vB D.2].toArray) O (Lw.r O (R.ext (vs:=[y,vB D.2]) (v:=y) O O) (Lw.r O (R.ext (vs:=[y,vB D.2]) (v:=vB D.2) O O) (Gv y O (Nb O (ssr (mb O (Lw.r O (R.not O) (nl (cn Y (fun Y=>?_) fun Y=>?_)))))))))
     ·refine sr (mv a O (Gv a O (Nb O ?_)))
      cases Y
      exact Cw.ret (zph O O (Res.mk S ⟨a,O,a0.s.sub O O⟩))
     ·refine sk (sr (la ((aj.up x).up Q) (mi O (cr Y (fun _=>p71 (Repo.rd (K:=[0]) x0.Commits x0.Heads (G.ul S) (H.ul S))) ?_))))
      rintro cy cz c0 Y U ⟨_,rfl,bw⟩
      have bz:=bw.sub (M:=[0]) O
      have b0:=S.n U
      refine ms O (cr Y (fun _=>p116 (k0:=6) bz) ?_)
      rintro V _ c1 Y X ⟨z,rfl,b2⟩
      have b3:=b0.n X
      refine mv (.tuple [z,vB V.2].toArray) O (Lw.r O (R.ext (vs:=[z,vB V.2]) (v:=z) O O) (Lw.r O (R.ext (vs:=[z,vB V.2]) (v:=vB V.2) O O) (Gv z O (Nb O (ssr (mv z O (mv h O (cr Y (fun _=>p118 (K:=[3,6]) (k0:=7) (b2.rd.sub (M:=[3,6]) O) (((((((av.up ah).up L).up x).up Q).up U).up X).rd.sub (M:=[3,6]) O)) ?_))))))))
      rintro a1 c2 a3 Y ak ⟨_,rfl,am⟩
      have b4:=b3.n ak
      refine Lw.ln a1 am.rd O (mi O (nl (Cw.block ?_)))
      obtain⟨b5,b6,Y⟩:=zaY Y
      refine Cw.loop 70 84 [17,18,70] (fun m l w=> ∃ A Z a4 a5 B,CW.w B=w/\Le [4] a3 B/\l=[a4,a5,vI A]/\Ow B 4 [] [a] Z/\Vm.zbG D a1 b5 m A Z=some r) _ ⟨0,I,undef,undef,a3,O,Le.refl _ _,O,(((a0.up U).up X).up ak),Y⟩ ?_
      rintro(_ |c3) _ _ σ ⟨A,Z,a4,a5,B,rfl,E,rfl,aa,Y⟩
      ·cases Y
      unfold Vm.zbG at Y
      have b7:=b4.t E
      have a6:=(((bv.up U).up X).up ak).up E
      refine sr (Lw.lt O (nl (Cw.seq (cn Y (fun Y=>?_) fun Y=>?_))))
      ·refine sk ?_
       obtain⟨b8,b9,Y⟩:=zaY Y
       refine Cw.join 72 83 [17,18] (fun l w=> ∃ ac an ao F,CW.w F=w/\Le [4] B F/\l=[an,ao]/\Ow F 4 [] [a] ac/\b8 ac=some r) ?_ ?_
       ·rintro _ _ σ ⟨ac,an,ao,F,rfl,cb,rfl,cc,Y⟩
        rw[b9]at Y
        exact rg (Lw.add O (mi O (nl ((agm) ⟨w64 (A+1),ac,an,ao,F,O,(E.j cb).w,O,cc,Y⟩))))
       ·refine Cw.block (sr (mi O ?_))
        obtain⟨a7,a8,Y⟩:=ob Y
        refine Lw.r O (R.ix (α:=Int) (am.up E).rd a8 O O O) (Lw.r O (R.ld O O ((am.up E).rd.at_ a8).int) (Gi O (Ni O (sr (mi O (Lw.ge O (nl (cn Y (fun Y=>?_) fun Y=>?_))))))))
        ·refine rg (mv a O (mi O (mv y O (mi O ?_))))
         obtain⟨c4,ba,Y⟩:=ob Y
         refine Lw.r O (R.ix (α:=Int) a6.rd ba O O O) (Lw.r O (R.ld O O (a6.rd.at_ ba).int) ?_)
         obtain⟨c5,cd,Y⟩:=ob Y
         refine Lw.r O (R.ix (α:=Int) aa.rd cd O O O) ?_
         obtain⟨ce,cf,Y⟩:=ob Y
         refine Lw.u (T.stS (K':=[]) aa (rdI _) cf O O O) ?_
         rintro _ _ ⟨cg,rfl,ch,ci⟩
         exact nl ((ag) ⟨ce,vI A,vI a7,cg,O,ch,O,ci,Y⟩)
        ·exact sk ((ag) ⟨Z,vI A,vI a7,B,O,Le.refl _ _,O,aa,Y⟩)
      ·refine Cw.exit ?_
       rw[b6]at Y
       refine sr (mv a O (Gv a O (Nb O ?_)))
       cases Y
       exact Cw.ret (zph O O (Res.mk b7 ⟨a,O,aa.s.sub O O⟩))
theorem p61 {x0 b d x1 x2 k0 r}(f:Rd W K [b,d] x0)(Y:Vm.zmc x0 x1 x2=some r):Q1 61 [.agg [b,d].toArray,vI x1,vS x2] W [] fun W' v=> ∃ a,v = .tuple [a,vB r.2].toArray/\Ow W' k0 [] [a] r.1:=
 (c61 (x1.toNat+2) (W0:=W.view K []) (f.view _) Y).ad (fk k0) fun _ _ ⟨a,e,h⟩=>⟨a,e,h.back (zgv _)⟩
theorem c25 {x0 f h x1 x2 r}(C:Rd W0 [0] [f,h] x0)(D:Gl 0 W0 [0])(Y:Vm.ziq x0 x1 x2=some r):Q0 25 [.agg [f,h].toArray,vI x1,vS x2] W0 fun Wf v=> ∃ i,v=i/\OwS Wf LL [] [i] r:=by
 unfold Vm.ziq at Y
 obtain⟨N,P,k,x,y⟩:=Repo.split C
 simp only[List.cons.injEq,and_true,true_and]at k
 obtain⟨rfl,rfl⟩:=k
 refine zao.of Tryz.func25 O O O O (sr (bo 2 O fun Q E F z=>?_))
 have G:=F.o
 refine Nv (.slice none 0 0) O (ssr (la z (mi O (Lw.t O (T.bsS (α:=Int) (xs:=[x1]) 3 [] (W:=E) [vI x1] (Each.cons ((rdI _)) Each.nil) O) ?_))))
 rintro S _ ⟨U,rfl,A,H⟩
 have b:=G.n A
 refine ca Y (fun _=>p60 (K:=[0,3]) ((Repo.rd (K:=[0]) x0.Commits x0.Heads (x.ul b) (y.ul b)).sub (M:=[0,3]) O) (H.rd.sub (M:=[0,3]) O) ((D.ul b).sub (M:=[0,3]) O)) fun V X Y B=>?_
 have d:=b.n B
 refine Lw.r O (R.not O) (nl (cn Y (fun Y=>?_) fun Y=>?_))
 ·refine sr (Nv (.slice none 0 0) O ?_)
  cases Y
  exact Cw.ret (zik O (Res.mk d ⟨.slice none 0 0,O,(zp0 []).sub O O⟩))
 ·refine sk (sr (la ((z.up A).up B) (mi O (ms O (cr Y (fun _=>p61 (k0:=4) (Repo.rd (K:=[0]) x0.Commits x0.Heads (x.ul d) (y.ul d))) ?_)))))
  rintro e _ Z Y I ⟨a,rfl,J⟩
  have L:=d.n I
  refine mv (.tuple [a,vB e.2].toArray) O (Lw.r O (R.ext (vs:=[a,vB e.2]) (v:=a) O O) (Lw.r O (R.ext (vs:=[a,vB e.2]) (v:=vB e.2) O O) (Gv a O (Nb O (sr (mv a O (Nv a O ?_)))))))
  cases Y
  exact Cw.ret (zik O (Res.mk L ⟨a,O,J.s.sub O O⟩))
theorem p25 {x0 b d x1 x2 k0 r}(f:Rd W K [b,d] x0)(h:Gl 0 W K)(Y:Vm.ziq x0 x1 x2=some r):Q1 25 [.agg [b,d].toArray,vI x1,vS x2] W [] fun W' v=> ∃ a,v=a/\Ow W' k0 [] [a] r:=
 (c25 (f.view _) (h.view _) Y).ad (fk k0) fun _ _ ⟨a,e,i⟩=>⟨a,e,i.back (zgv _)⟩
theorem c22 {x0 L M x1 x2 r}(h0:Rd W0 [0] [L,M] x0)(am:Gl 0 W0 [0])(Y:Vm.zir x0 x1 x2=some r):Q0 22 [.agg [L,M].toArray,vI x1,vS x2] W0 fun Wf v=> ∃ N,v=N/\OwS Wf LL [] [N] r:=by
 unfold Vm.zir at Y
 obtain⟨bk,bl,P,C,an⟩:=Repo.split h0
 simp only[List.cons.injEq,and_true,true_and]at P
 obtain⟨rfl,rfl⟩:=P
 refine zao.of Tryz.func22 O O O O (sr (bo 2 O fun g1 W1 l1 Q=>?_))
 have a2:=l1.o
 refine Nv (.slice none 0 0) O (sr (Lw.t O (T.mkMap 3 O) ?_))
 rintro d _ ⟨W3,rfl,D,o3⟩
 have k:=a2.n D
 refine Nv d O (ssr (la (Q.up D) (mi O (ms O (cr Y (fun _=>p25 (k0:=4) (Repo.rd (K:=[0]) x0.Commits x0.Heads (C.ul k) (an.ul k)) (am.ul k)) ?_)))))
 rintro S bq U Y E ⟨_,rfl,F⟩
 have ar:=k.n E
 refine Lw.ln S F.rd O (mi O (nl (Cw.block ?_)))
 obtain⟨au,av,Y⟩:=zaY Y
 refine Cw.loop 19 32 [9,19] (fun m l w=> ∃ x y V z,CW.w z=w/\Le [3] U z/\l=[V,vI x]/\Ow (α:=Mp) z 3 [] [d] y/\Vm.zdl x0 S au m x y=some r) _ ⟨0,([]:List (Str×Int)),undef,U,O,Le.refl _ _,O,(o3.up E),Y⟩ ?_
 rintro(_ |br) _ _ σ ⟨x,y,V,z,rfl,e,rfl,f,Y⟩
 ·cases Y
 unfold Vm.zdl at Y
 have G:=ar.t e
 refine sr (Lw.lt O (nl (Cw.seq (cn Y (fun Y=>?_) fun Y=>?_))))
 ·refine sk (Cw.seq (Cw.block (sr ?_)))
  obtain⟨aw,W,Y⟩:=ob Y
  refine Lw.r O (R.ix (α:=Int) (F.up e).rd W O O O) (Lw.r O (R.ld O O ((F.up e).rd.at_ W).int) (Ni O (rg (mv d O (fl (((Q.up D).up E).up e) O (mi O ?_))))))
  obtain⟨bu,X,Y⟩:=ob Y
  refine Lw.r O (R.ix (α:=Commit) (C.ul G) X O O O) (Lw.fa O (Lw.r O (R.ld O O (Commit.at1 ((C.ul G).at_ X)).str) ?_))
  obtain⟨bv,ax,Y⟩:=ob Y
  refine Lw.r O (R.lookM f ax O O) (Lw.add O ?_)
  obtain⟨ay,az,Y⟩:=ob Y
  refine Lw.u (T.putM f az O O O) ?_
  rintro _ _ ⟨a0,rfl,a1,a3⟩
  exact nl (rg (Lw.add O (mi O (nl ((agm) ⟨w64 (x+1),ay,vI aw,a0,O,(e.j a1).w,O,a3,Y⟩)))))
 ·refine Cw.exit ?_
  rw[av]at Y
  refine sr (Nv (.slice none 0 0) O (ssr (mv d O (Lw.t O (T.call O (p58 (K:=[]) (k0:=5) f)) ?_))))
  rintro _ _ ⟨bw,rfl,H,⟨bz,rfl,a5⟩⟩
  have a6:=G.n H
  refine cr Y (fun _=>p57 (K:=[]) (k0:=6) a5 (f.up H)) ?_
  rintro Z b0 aa Y ac ⟨_,rfl,I⟩
  have a7:=a6.n ac
  refine Lw.ln Z I.rd O (mi O (nl (Cw.block ?_)))
  obtain⟨a8,a9,Y⟩:=zaY Y
  refine Cw.loop 37 49 [10,12,37] (fun m l w=> ∃ J A a ae B,CW.w B=w/\Le [7] aa B/\l=[a,ae,vI A]/\Ow B 7 [] [a] J/\Vm.zdk y Z a8 m J A=some r) _ ⟨([]:List Share),0, .slice none 0 0,undef,aa,O,Le.refl _ _,O,owN 7 [],Y⟩ ?_
  rintro(_ |b2) _ _ σ ⟨J,A,a,ae,B,rfl,h,rfl,af,Y⟩
  ·cases Y
  unfold Vm.zdk at Y
  have ba:=a7.t h
  refine sr (Lw.lt O (nl (Cw.seq (cn Y (fun Y=>?_) fun Y=>?_))))
  ·refine sk (Cw.seq (Cw.block (sr ?_)))
   obtain⟨b,ah,Y⟩:=ob Y
   refine Lw.r O (R.ix (α:=Str) (I.up h).rd ah O O O) (Lw.r O (R.ld O O ((I.up h).rd.at_ ah).str) (Ns O (rg (mv a O (ms O (mv d O (ms O ?_)))))))
   obtain⟨i,bb,Y⟩:=ob Y
   refine Lw.r O (R.lookM (((f.up H).up ac).up h) bb O O) (Lw.r O (R.bd (zs:=[vS ([]:Str),vI 0]) (cs:=[vS b,vI i]) [(0,vS b),(1,vI i)] O O O (zaA O O (zaA O O zc8))) (Lw.t O (T.bs 8 [.agg [vS b,vI i].toArray] (cs:=[vS b,vI i]) O O (bsA O)) ?_))
   rintro _ _ ⟨b3,b4,rfl,rfl,ai,bc⟩
   obtain⟨be,bg,Y⟩:=ob Y
   refine Lw.t O (T.app1S (α:=Share) (K':=[]) (af.up ai) bc (Share.rd (K:=[]) b i) O O bg) ?_
   rintro aj _ ⟨bh,rfl,bi,bj⟩
   exact Nv aj O (rg (Lw.add O (mi O (nl ((agm) ⟨be,w64 (A+1),aj,vS b,bh,O,((h.j ai).j bi).w,O,bj,Y⟩)))))
  ·refine Cw.exit ?_
   rw[a9]at Y
   refine sr (mv a O (Nv a O ?_))
   cases Y
   exact Cw.ret (zik O (Res.mk ba ⟨a,O,af.s.sub O O⟩))
theorem p22 {x0 b d x1 x2 k0 r}(f:Rd W K [b,d] x0)(h:Gl 0 W K)(Y:Vm.zir x0 x1 x2=some r):Q1 22 [.agg [b,d].toArray,vI x1,vS x2] W [] fun W' v=> ∃ a,v=a/\Ow W' k0 [] [a] r:=
 (c22 (f.view _) (h.view _) Y).ad (fk k0) fun _ _ ⟨a,e,i⟩=>⟨a,e,i.back (zgv _)⟩
theorem c115 (m:Nat): ∀ {W0:CW} {x0:Vm.Repo} {d:Value} {f:Value} {x1:Int} {x2:Str} {r:(List Int)} (z:Rd W0 [0] [d,f] x0) (Y:Vm.spec_l11Of_r m x0 x1 x2=some r),zao Tryz.prog 115 [.agg [d,f].toArray,vI x1,vS x2].toArray W0.w (Res W0 LL fun Wf v=> ∃ (i:Value),v=i/\OwS Wf LL [] [i] r):=by
 induction m with
 |zero=>intro W0 x0 d f x1 x2 r z Y;exact absurd Y (by unfold Vm.spec_l11Of_r;exact nofun)
 |succ m ih=>
  have p115: ∀ {W:CW} {K:List Nat} {x0:Vm.Repo} {d:Value} {f:Value} {x1:Int} {x2:Str} {k0:Nat} {r:(List Int)} (z:Rd W K [d,f] x0) (Y:Vm.spec_l11Of_r m x0 x1 x2=some r),zao Tryz.prog 115 [.agg [d,f].toArray,vI x1,vS x2].toArray W.w (Res W [] fun W' v=> ∃ (i:Value),v=i/\Ow W' k0 [] [i] r):=fun {W} {K} {x0} {d} {f} {x1} {x2} {k0} {r} z Y=>(ih (W0:=W.view K []) (z.view _) Y).ad (fk k0) fun _ _ ⟨i,e,f0⟩=>⟨i,e,f0.back (zgv _)⟩
  intro W0 x0 d f x1 x2 r z Y
  unfold Vm.spec_l11Of_r at Y
  obtain⟨cf,cg,ao,I,bb⟩:=Repo.split z
  simp only[List.cons.injEq,and_true,true_and]at ao
  obtain⟨rfl,rfl⟩:=ao
  refine zao.of Tryz.func115 O O O O (sr (bo 2 O fun g1 W1 l1 b1=>?_))
  have a2:=l1.o
  refine Nv (.slice none 0 0) O (sr (fl b1 O (mi O ?_)))
  obtain⟨u3,e4,Y⟩:=ob Y
  refine Lw.r O (R.ix (α:=Commit) (I.ul a2) e4 O O O) (Lw.fa O ?_)
  obtain⟨v6,c7,r8⟩:=(Commit.at2 ((I.ul a2).at_ e4)).cell O
  refine Lw.r O (R.ld O O c7) (ms O (cr Y (fun _=>p155 r8) ?_))
  rintro A _ cl Y ar ⟨k,rfl,be⟩
  have au:=be.sub (M:=[0]) O
  have x:=a2.n ar
  refine mv (.tuple [k,vB A.2].toArray) O (Lw.r O (R.ext (vs:=[k,vB A.2]) (v:=k) O O) (Lw.r O (R.ext (vs:=[k,vB A.2]) (v:=vB A.2) O O) (Gv k O (Nb O (sr (Lw.t O (T.lit0 (α:=Int) 3 []) ?_))))))
  rintro F _ ⟨av,rfl,aw,ax⟩
  have b:=aw.o
  refine Nv F O (ssr (mb O (Lw.r O (R.not O) (nl (cn Y (fun Y=>?_) fun Y=>?_)))))
  ·refine sr (mv F O (Nv F O ?_))
   cases Y
   exact Cw.ret (zik O (Res.mk (x.trans b) ⟨F,O,ax.s.sub O O⟩))
  ·refine sk (ssr (Ni O (Cw.block ?_)))
   obtain⟨bg,bh,Y⟩:=zaY Y
   refine Cw.loop 32 41 [9,10] (fun m l w=> ∃ J L a N,CW.w N=w/\Le [3] av N/\l=[a,vI L]/\Ow N 3 [] [a] J/\Vm.zgn x1 A bg m J L=some r) _ ⟨([]:List Int),0,F,av,O,Le.refl _ _,O,ax,Y⟩ ?_
   rintro(_ |cm) _ _ σ ⟨J,L,a,N,rfl,ah,rfl,P,Y⟩
   ·cases Y
   unfold Vm.zgn at Y
   have h:=ah.s
   have Q:=((b1.up ar).up aw).up ah
   refine ssr (mi O (mv k O (Lw.ln A.1 (au.ul (b.trans h)) O (Lw.lt O (nl (cn Y (fun Y=>?_) fun Y=>?_))))))
   ·refine sk (Cw.seq (Cw.block (rg (mv a O (mi O (Lw.t O (T.bs 4 [vI x1] (cs:=[vI x1]) O O (bsv O)) ?_))))))
    rintro _ _ ⟨co,cp,rfl,rfl,ay,bi⟩
    obtain⟨bj,bk,Y⟩:=ob Y
    refine Lw.t O (T.app1S (α:=Int) (K':=[]) (P.up ay) bi (rdI _) O O bk) ?_
    rintro az _ ⟨bl,rfl,bm,bn⟩
    exact Nv az O (rg (mi O (Lw.add O (Ni O ((agm) ⟨bj,w64 (L+1),az,bl,O,((ah.j ay).j bm).w,O,bn,Y⟩)))))
   ·refine Cw.exit ?_
    rw[bh]at Y
    refine ssr (fl Q O (mi O ?_))
    obtain⟨bp,a0,Y⟩:=ob Y
    have B:=I.ul ((x.trans b).trans h)
    refine Lw.r O (R.ix (α:=Commit) B a0 O O O) (Lw.fa O ?_)
    obtain⟨cq,c44,r45⟩:=(Commit.at0 (B.at_ a0)).cell O
    refine Lw.r O (R.ld O O c44) (Lw.ln bp.Parents r45 O (Lw.eq O (nl (cn Y (fun Y=>?_) fun Y=>?_))))
    ·refine sr (mv a O (Nv a O ?_))
     cases Y
     exact Cw.ret (zik O (Res.mk ((x.trans b).trans h) ⟨a,O,P.s.sub O O⟩))
    ·refine sk (sr (fl Q O (mi O ?_)))
     obtain⟨ct,a1,Y⟩:=ob Y
     refine Lw.r O (R.ix (α:=Commit) B a1 O O O) (Lw.fa O ?_)
     obtain⟨cu,c50,r51⟩:=(Commit.at0 (B.at_ a1)).cell O
     refine Lw.r O (R.ld O O c50) ?_
     obtain⟨cv,a3,Y⟩:=ob Y
     refine Lw.r O (R.ix (α:=Int) r51 a3 O O O) (Lw.r O (R.ld O O (r51.at_ a3).int) (Ni O (sr (fl Q O (mi O ?_)))))
     obtain⟨cw,a4,Y⟩:=ob Y
     refine Lw.r O (R.ix (α:=Commit) B a4 O O O) (Lw.fa O ?_)
     obtain⟨cx,c57,r58⟩:=(Commit.at2 (B.at_ a4)).cell O
     refine Lw.r O (R.ld O O c57) (ms O (cr Y (fun _=>p155 r58) ?_))
     rintro S _ cy Y U ⟨C,rfl,bq⟩
     have br:=bq.sub (M:=[0]) O
     have G:=U.o
     refine mv (.tuple [C,vB S.2].toArray) O (Lw.r O (R.ext (vs:=[C,vB S.2]) (v:=C) O O) (Lw.r O (R.ext (vs:=[C,vB S.2]) (v:=vB S.2) O O) (Gv C O (Nb O (ssr (mb O (Lw.r O (R.not O) (nl (cn Y (fun Y=>?_) fun Y=>?_)))))))))
     ·refine sr (mv a O (Nv a O ?_))
      cases Y
      exact Cw.ret (zik O (Res.mk (((x.trans b).trans h).trans G) ⟨a,O,(P.up U).s.sub O O⟩))
     ·refine sk (sr (la (Q.up U) (mi O (ms O (cr Y (fun _=>p115 (k0:=5) (Repo.rd (K:=[0]) x0.Commits x0.Heads (I.ul (((x.trans b).trans h).trans G)) (bb.ul (((x.trans b).trans h).trans G)))) ?_)))))
      rintro bu a5 cz Y a6 ⟨_,rfl,bv⟩
      have ai:=a6.o
      refine Nv a5 O (sr (mv C O (mv k O (cr Y (fun _=>p156 (k0:=6) (br.ul ai) (au.ul (((b.trans h).trans G).trans ai))) ?_))))
      rintro a7 V a8 Y aj ⟨_,rfl,bw⟩
      have bz:=((((x.trans b).trans h).trans G).trans ai).n aj
      refine Nv V O (ssr (Ni O (Cw.block ?_)))
      obtain⟨b0,b2,Y⟩:=zaY Y
      refine Cw.loop 80 100 [16] (fun m l w=> ∃ X Z D,CW.w D=w/\Le [3] a8 D/\l=[vI X]/\Ow D 3 [] [a] Z/\Vm.zef bu a7 b0 m X Z=some r) _ ⟨0,J,a8,O,Le.refl _ _,O,(((P.up U).up a6).up aj),Y⟩ ?_
      rintro(_ |c0) _ _ σ ⟨X,Z,D,rfl,aa,rfl,ac,Y⟩
      ·cases Y
      unfold Vm.zef at Y
      have b3:=bz.t aa
      have E:=bw.up aa
      refine ssr (mi O (mv V O (Lw.ln a7 E.rd O (Lw.lt O (nl (cn Y (fun Y=>?_) fun Y=>?_))))))
      ·refine sk ?_
       obtain⟨b4,b5,Y⟩:=zaY Y
       refine Cw.join 86 100 [] (fun l w=> ∃ ae H,CW.w H=w/\Le [3] D H/\l=[]/\Ow H 3 [] [a] ae/\b4 ae=some r) ?_ ?_
       ·rintro _ _ σ ⟨ae,H,rfl,b6,rfl,b7,Y⟩
        rw[b5]at Y
        exact rg (mi O (Lw.add O (Ni O ((agm) ⟨w64 (X+1),ae,H,O,(aa.j b6).w,O,b7,Y⟩))))
       ·refine Cw.block (sr (mv V O (mi O ?_)))
        obtain⟨c1,a9,Y⟩:=ob Y
        refine Lw.r O (R.ix (α:=Int) E.rd a9 O O O) (Lw.r O (R.ld O O (E.rd.at_ a9).int) (Lw.ge O (nl (cn Y (fun Y=>?_) fun Y=>?_))))
        ·refine Cw.draw [] [(0,0),(1,0),(2,0),(3,0),(4,1),(5,0),(6,0),(7,0),(8,1),(9,0),(10,3)] mixed (by kernel_rfl) fun c2 y=>?_
         have ak:=((bv.up aj).up aa).up y
         refine Dv a O (Dv V O (Di O ?_))
         obtain⟨c3,am,Y⟩:=ob Y
         refine Mw.p O O (fun _=>R.ix (α:=Int) (E.up y).rd am O O O) (Mw.q O O (fun _ c=>R.ld O O (zaq ((E.up y).rd.at_ am).1 O ((E.up y).rd.at_ am).int c)) (Dv a5 O (Di O ?_)))
         obtain⟨c4,an,Y⟩:=ob Y
         refine Mw.p O O (fun _=>R.ix (α:=Int) ak.rd an O O O) (Mw.q O O (fun _ c=>R.ld O O (zaq (ak.rd.at_ an).1 O (ak.rd.at_ an).int c)) ?_)
         obtain⟨c5,b8,Y⟩:=ob Y
         refine Mw.p O O (fun _=>R.ix (α:=Int) (ac.up y).rd b8 O O O) ?_
         obtain⟨b9,cb,Y⟩:=ob Y
         refine Mw.lu O (T.stS (K':=[]) (ac.up y) (rdI _) cb O O O) ?_
         rintro _ _ ⟨cc,rfl,cd,ce⟩
         exact Mw.nil ((ag) ⟨b9,cc,O,(y.j cd).w,O,ce,Y⟩)
        ·exact sk ((ag) ⟨Z,D,O,Le.refl _ _,O,ac,Y⟩)
      ·refine Cw.exit ?_
       rw[b2]at Y
       refine sr (mv a O (Nv a O ?_))
       cases Y
       exact Cw.ret (zik O (Res.mk b3 ⟨a,O,ac.s.sub O O⟩))
theorem p115 {x0 b d x1 x2 k0 r}(f:Rd W K [b,d] x0)(Y:Vm.zns x0 x1 x2=some r):Q1 115 [.agg [b,d].toArray,vI x1,vS x2] W [] fun W' v=> ∃ a,v=a/\Ow W' k0 [] [a] r:=
 (c115 (x1.toNat+2) (W0:=W.view K []) (f.view _) Y).ad (fk k0) fun _ _ ⟨a,e,h⟩=>⟨a,e,h.back (zgv _)⟩
theorem c59 {x0 x y x1 x2 r}(E:Rd W0 [0] [x,y] x0)(Y:Vm.zi8 x0 x1 x2=some r):Q0 59 [.agg [x,y].toArray,vI x1,vS x2] W0 fun Wf v=> ∃ z,v=z/\OwS Wf LL [] [z] r:=by
 unfold Vm.zi8 at Y
 obtain⟨U,V,A,f,B⟩:=Repo.split E
 simp only[List.cons.injEq,and_true,true_and]at A
 obtain⟨rfl,rfl⟩:=A
 refine zao.of Tryz.func59 O O O O (sr (bo 2 O fun W F G h=>?_))
 have b:=G.o
 refine Nv (.slice none 0 0) O (Cw.seq ?_)
 obtain⟨H,I,Y⟩:=zaY Y
 refine Cw.join 7 18 [18] (fun l w=> ∃ i k,CW.w k=w/\Le [] F k/\l=[vB i]/\H i=some r) ?_ ?_
 ·rintro _ _ σ ⟨i,k,rfl,C,rfl,Y⟩
  rw[I]at Y
  have d:=b.n C
  refine cn Y (fun Y=>?_) fun Y=>?_
  ·refine sr (Nv (.slice none 0 0) O ?_)
   cases Y
   exact Cw.ret (zik O (Res.mk d ⟨.slice none 0 0,O,(zp0 []).sub O O⟩))
  ·refine sk (sr (la (h.up C) (mi O (ms O (cr Y (fun _=>p115 (k0:=3) (Repo.rd (K:=[0]) x0.Commits x0.Heads (f.ul d) (B.ul d))) ?_)))))
   rintro X D Z Y J ⟨_,rfl,L⟩
   have M:=d.n J
   refine Nv D O ?_
   cases Y
   exact Cw.ret (zik O (Res.mk M ⟨D,O,L.s.sub O O⟩))
 ·refine rg (la h (ca Y (fun _=>p34 (Repo.rd (K:=[0]) x0.Commits x0.Heads (f.ul b) (B.ul b))) fun aa N Y e=>?_))
  have P:=b.n e
  refine Lw.r O (R.not O) (mb O (bs Y (fun a Y=>?_) fun a Y=>?_))
  ·exact psk 7 a O (Pb a O (nl ((ag) ⟨true,N,O,e,O,Y⟩)))
  ·exact wak 7 a (mi O (fl (h.up e) O (Lw.ln x0.Commits (f.ul P) O (Lw.sub O (ca Y (fun _=>p80) fun Q S Y T=>Lw.r O (R.not O) (Pb a O (nl ((ag) ⟨(!Q),S,O,(e.j T).w,O,Y⟩))))))))
theorem p59 {x0 b d x1 x2 k0 r}(f:Rd W K [b,d] x0)(Y:Vm.zi8 x0 x1 x2=some r):Q1 59 [.agg [b,d].toArray,vI x1,vS x2] W [] fun W' v=> ∃ a,v=a/\Ow W' k0 [] [a] r:=
 (c59 (f.view _) Y).ad (fk k0) fun _ _ ⟨a,e,h⟩=>⟨a,e,h.back (zgv _)⟩
end Go.Sx
