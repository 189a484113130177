/- Walks: each function answers as its model, printed by a program of ours. Conditions: the arguments read as they are given. -/
import Derived.Test.YtifbmanldeabeaaGreatDoorGTs
import Derived.Test.YtifbmanldeabeaaGreatDoorGM1
import Derived.Test.YtifbmanldeabeaaGreatDoorGW0
import Derived.Test.YtifbmanldeabeaaGreatDoorGW1
namespace Go.Sx
open Go Go.Proofs Go.Vm Rp
set_option linter.unusedVariables false
set_option linter.unusedSimpArgs false
variable {W W0:CW}{K:List Nat}
theorem c75 {x0 h r}(E:Rd W0 [0] [h] x0)(Y:Vm.zfs x0=some r):Q0 75 [h] W0 fun Wf v=>v=vB r:=by
 unfold Vm.zfs at Y
 refine zao.of Tryz.func75 O O O O (sr (Nb O (ssr (Ni O (Cw.block ?_)))))
 obtain⟨M,N,Y⟩:=zaY Y
 refine Cw.loop 4 43 [2,3] (fun m l w=> ∃ z f A,CW.w A=w/\Le [] W0 A/\l=[vB z,vI f]/\Vm.zcj x0 M m z f=some r) _ ⟨false,0,W0,O,Le.refl _ _,O,Y⟩ ?_
 rintro(_ |m5) _ _ σ ⟨z,f,A,rfl,L,rfl,Y⟩
 ·cases Y
 unfold Vm.zcj at Y
 have x:=L.o
 refine ssr (mi O (mv h O (Lw.ln x0 (E.ul x) O (Lw.lt O (nl (cn Y (fun Y=>?_) fun Y=>?_))))))
 ·refine sk (Cw.seq (Cw.block ?_))
  obtain⟨P,Q,Y⟩:=zaY Y
  refine Cw.join 10 43 [43] (fun l w=> ∃ F B,CW.w B=w/\Le [] A B/\l=[vB F]/\P F=some r) ?_ ?_
  ·rintro _ _ σ ⟨F,B,rfl,l10,rfl,Y⟩
   rw[Q]at Y
   have S:=x.n l10
   refine cn Y (fun Y=>?_) fun Y=>?_
   ·exact sr (Nb O (.ret (rt Y S)))
   ·exact sk (rg (mi O (Lw.add O (Ni O ((agm) ⟨z,w64 (f+1),B,O,(L.j l10).w,O,Y⟩)))))
  ·refine Cw.draw [] [(0,0),(1,0),(2,0),(3,0),(4,1),(5,2),(6,0),(7,0),(8,0),(9,0),(10,0),(11,0),(12,1),(13,2),(14,0),(15,0),(16,0),(17,0),(18,0),(19,0),(20,0),(21,0),(22,0),(23,0),(24,1),(25,0),(26,0),(27,0),(28,0),(29,0),(30,1),(31,0),(32,0),(33,0)] mixed (by kernel_rfl) fun ac y=>?_
   have U:=x.n y
   refine Dv h O (Di O ?_)
   obtain⟨ae,G,Y⟩:=ob Y
   have b:=E.ul U
   refine Mw.p O O (fun _=>R.ix (α:=Owner) b G O O O) (Df O (Mw.q O O (fun _ c=>R.ld O O (zaq (Owner.at0 (b.at_ G)).1 O (Owner.at0 (b.at_ G)).str c)) (Dc Y (Le.refl _ _) (fun _=>p130) O ?_)))
   rintro af _ V Y C rfl W
   refine Mw.p O O (fun _=>R.not O) (Db O (bs Y (fun d Y=>?_) fun d Y=>?_))
   ·exact dps 7 d O (Mw.p O O (fun _=>R.pk d O (v:=vB true) O) (Db O (dps 3 O O (dpu 12 O (dps 1 O O (Mw.p O O (fun _=>R.pk O O (v:=vB true) O) (Mw.nil ((ag) ⟨true,V,O,(y.j C).w,O,Y⟩))))))))
   ·refine Wp d O (fun _=>R.mv (v:=h) O) (Wp d O (fun _=>R.mv (v:=vI f) O) ?_)
    obtain⟨ah,H,Y⟩:=ob Y
    refine Wp d O (fun _=>R.ix (α:=Owner) b H O O O) (Wp d O (fun _=>R.fa O) (Wq d O (fun _ c=>R.ld O O (zaq (Owner.at1 (b.at_ H)).1 O (Owner.at1 (b.at_ H)).str c)) ?_))
    obtain⟨X,Z,Y⟩:=ob Y
    refine Wt d O (T.call O (p81 Z)) ?_
    rintro _ _ ⟨I,rfl,D,rfl⟩
    refine mc W D fun ai=>Wp d O (fun _=>R.not O) (Mw.p O O (fun _=>R.pk d O (v:=vB (!X)) O) (Db O (bs Y (fun e Y=>?_) fun e Y=>?_)))
    ·exact dps 3 e O (dpu 12 O (dps 1 e O (Mw.p O O (fun _=>R.pk e O (v:=vB true) O) (Mw.nil ((ag) ⟨true,I,O,((y.j C).j D).w,O,Y⟩)))))
    ·refine Wp e O (fun _=>R.mv (v:=vI f) O) (Wp e O (fun _=>R.gt O O) (Wp e O (fun _=>R.mv (v:=vB (decide (0< (f:Int)))) O) (bs Y (fun a Y=>?_) fun a Y=>?_)))
     ·refine Wp a O (fun _=>R.mv (v:=h) O) (Wp a O (fun _=>R.mv (v:=vI f) O) ?_)
      obtain⟨i,J,Y⟩:=ob Y
      refine Wp a O (fun _=>R.ix (α:=Owner) b J O O O) (Wp a O (fun _=>R.fa O) (Wq a O (fun _ c=>R.ld O O (zaq (Owner.at0 (b.at_ J)).1 O (Owner.at0 (b.at_ J)).str c)) (Wp a O (fun _=>R.mv (v:=h) O) (Wp a O (fun _=>R.mv (v:=vI f) O) (Wp a O (fun _=>R.sub O O) ?_)))))
      obtain⟨k,K,Y⟩:=ob Y
      exact Wp a O (fun _=>R.ix (α:=Owner) b K O O O) (Wp a O (fun _=>R.fa O) (Wq a O (fun _ c=>R.ld O O (zaq (Owner.at0 (b.at_ K)).1 O (Owner.at0 (b.at_ K)).str c)) (Wp a O (fun _=>R.sle O O) (Wp e O (fun _=>R.pk a O (v:=vB (Op.bytesLess i.Path k.Path||i.Path==k.Path)) O) (Mw.p O O (fun _=>R.pk e O (v:=vB (Op.bytesLess i.Path k.Path||i.Path==k.Path)) O) (Mw.nil ((ag) ⟨(Op.bytesLess i.Path k.Path||i.Path==k.Path),I,O,((y.j C).j D).w,O,Y⟩)))))))
     ·exact dps 12 a O (Wp e O (fun _=>R.pk a O (v:=vB false) O) (Mw.p O O (fun _=>R.pk e O (v:=vB false) O) (Mw.nil ((ag) ⟨false,I,O,((y.j C).j D).w,O,Y⟩))))
 ·refine Cw.exit ?_
  rw[N]at Y
  exact sr (mv h O (Lw.ln x0 (E.ul x) O (Lw.le O (Nb O (.ret (rt Y x))))))
theorem p75 {x0 a r}(b:Rd W K [a] x0)(Y:Vm.zfs x0=some r):Q1 75 [a] W [] fun W' v=>v=vB r:=
 (c75 (b.view _) Y).ad (fk 0) fun _ _ e=>e
theorem c76 {x0 G r}(h0:Rd W0 [0] [vS x0.Branch,vS x0.Into,vS x0.By,G] x0)(Y:Vm.zjA x0=some r):Q0 76 [.agg [vS x0.Branch,vS x0.Into,vS x0.By,G].toArray] W0 fun Wf v=>v=vB r:=by
 unfold Vm.zjA at Y
 obtain⟨a3,Z,J⟩:=Review.split h0
 simp only[List.cons.injEq,and_true,true_and]at Z
 obtain rfl:=Z
 refine zao.of Tryz.func76 O O O O (sr (bo 2 O fun g1 W1 l1 b1=>?_))
 have a2:=l1.o
 refine Nb O (ssr (Ni O (Cw.block ?_)))
 obtain⟨K6,am,Y⟩:=zaY Y
 refine Cw.loop 4 35 [2,3] (fun m l w=> ∃ H e x,CW.w x=w/\Le [] W1 x/\l=[vB H,vI e]/\Vm.zeH x0 K6 m H e=some r) _ ⟨false,0,W1,O,Le.refl _ _,O,Y⟩ ?_
 rintro(_ |m7) _ _ σ ⟨H,e,x,rfl,K,rfl,Y⟩
 ·cases Y
 unfold Vm.zeH at Y
 have y:=a2.n K
 have z:=b1.up K
 refine ssr (mi O (fl z O (Lw.ln x0.Yes (J.ul y) O (Lw.lt O (nl (cn Y (fun Y=>?_) fun Y=>?_))))))
 ·refine sk (Cw.seq (Cw.block ?_))
  obtain⟨an,ao,Y⟩:=zaY Y
  refine Cw.join 11 35 [35] (fun l w=> ∃ L I,CW.w I=w/\Le [] x I/\l=[vB L]/\an L=some r) ?_ ?_
  ·rintro _ _ σ ⟨L,I,rfl,ac,rfl,Y⟩
   rw[ao]at Y
   have ap:=y.n ac
   refine cn Y (fun Y=>?_) fun Y=>?_
   ·exact sr (Nb O (.ret (rt Y ap)))
   ·exact sk (rg (mi O (Lw.add O (Ni O ((agm) ⟨H,w64 (e+1),I,O,(K.j ac).w,O,Y⟩)))))
  ·refine Cw.draw [] [(0,0),(1,1),(2,0),(3,0),(4,1),(5,2),(6,0),(7,0),(8,0),(9,0),(10,0),(11,0),(12,1),(13,0),(14,0),(15,1),(16,0),(17,1),(18,0),(19,0),(20,0),(21,1),(22,0),(23,0),(24,0)] mixed (by kernel_rfl) fun a6 A=>?_
   have aq:=y.n A
   have M:=z.up A
   refine Dfl M O O O (Di O ?_)
   obtain⟨a7,N,Y⟩:=ob Y
   have d:=J.ul aq
   refine Mw.p O O (fun _=>R.ix (α:=Str) d N O O O) (Mw.q O O (fun _ c=>R.ld O O (zaq (d.at_ N).1 O (d.at_ N).str c)) (Dc Y (Le.refl _ _) (fun _=>p81) O ?_))
   rintro a9 _ P Y Q rfl ba
   refine Mw.p O O (fun _=>R.not O) (Db O (bs Y (fun b Y=>?_) fun b Y=>?_))
   ·exact dps 3 b O (dpu 12 O (dps 1 b O (Mw.p O O (fun _=>R.pk b O (v:=vB true) O) (Mw.nil ((ag) ⟨true,P,O,(A.j Q).w,O,Y⟩)))))
   ·refine Wp b O (fun _=>R.mv (v:=vI e) O) (Wp b O (fun _=>R.gt O O) (Wp b O (fun _=>R.mv (v:=vB (decide (0< (e:Int)))) O) (bs Y (fun a Y=>?_) fun a Y=>?_)))
    ·refine Wp a O (fun _=>R.fa O) (Wq a O (fun _ c=>R.ld (v:=G) O O (M.clc O O c)) (Wp a O (fun _=>R.mv (v:=vI e) O) ?_))
     obtain⟨h,S,Y⟩:=ob Y
     refine Wp a O (fun _=>R.ix (α:=Str) d S O O O) (Wq a O (fun _ c=>R.ld O O (zaq (d.at_ S).1 O (d.at_ S).str c)) (Wp a O (fun _=>R.fa O) (Wq a O (fun _ c=>R.ld (v:=G) O O (M.clc O O c)) (Wp a O (fun _=>R.mv (v:=vI e) O) (Wp a O (fun _=>R.sub O O) ?_)))))
     obtain⟨i,T,Y⟩:=ob Y
     exact Wp a O (fun _=>R.ix (α:=Str) d T O O O) (Wq a O (fun _ c=>R.ld O O (zaq (d.at_ T).1 O (d.at_ T).str c)) (Wp a O (fun _=>R.sle O O) (Wp b O (fun _=>R.pk a O (v:=vB (Op.bytesLess h i||h==i)) O) (Mw.p O O (fun _=>R.pk b O (v:=vB (Op.bytesLess h i||h==i)) O) (Mw.nil ((ag) ⟨(Op.bytesLess h i||h==i),P,O,(A.j Q).w,O,Y⟩))))))
    ·exact dps 12 a O (Wp b O (fun _=>R.pk a O (v:=vB false) O) (Mw.p O O (fun _=>R.pk b O (v:=vB false) O) (Mw.nil ((ag) ⟨false,P,O,(A.j Q).w,O,Y⟩))))
 ·refine Cw.exit ?_
  rw[am]at Y
  obtain⟨ar,au,Y⟩:=zaY Y
  refine Cw.join 36 61 [2] (fun l w=> ∃ U V,CW.w V=w/\Le [] x V/\l=[vB U]/\ar U=some r) ?_ ?_
  ·rintro _ _ σ ⟨U,V,rfl,av,rfl,Y⟩
   rw[au]at Y
   have aw:=y.n av
   exact .ret (rt Y aw)
  ·refine rg (fl z O (ca Y (fun _=>p81) fun bb ax Y f=>?_))
   have ay:=y.n f
   refine mb O (bs Y (fun B Y=>?_) fun B Y=>?_)
   ·refine wak 3 B (fl (z.up f) O (ca Y (fun _=>p81) fun bc az Y k=>?_))
    have a0:=ay.n k
    have ae:=(z.up f).up k
    refine Pb B O (mb O (bs Y (fun C Y=>?_) fun C Y=>?_))
    ·refine wak 3 C (fl ae O (ca Y (fun _=>p81) fun be W Y D=>?_))
     have a1:=a0.n D
     have X:=ae.up D
     refine Pb C O (mb O (bs Y (fun E Y=>?_) fun E Y=>?_))
     ·refine wak 5 E (fl X O (fl X O (Lw.sne O (Pb E O (mb O (bs Y (fun F Y=>?_) fun F Y=>?_))))))
      ·exact wak 4 F (fl X O (Lw.ln x0.Yes (J.ul a1) O (Lw.le O (Pb F O (Nb O ((ag) ⟨decide (x0.Yes.length<=(5:Int)),W,O,((f.j k).j D).w,O,Y⟩))))))
      ·exact psk 4 F O (Pb F O (Nb O ((ag) ⟨false,W,O,((f.j k).j D).w,O,Y⟩)))
     ·exact psk 5 E O (Pb E O (mb O (psk 4 O O (Pb O O (Nb O ((ag) ⟨false,W,O,((f.j k).j D).w,O,Y⟩))))))
    ·exact psk 3 C O (Pb C O (mb O (psk 5 O O (Pb O O (mb O (psk 4 O O (Pb O O (Nb O ((ag) ⟨false,az,O,(f.j k).w,O,Y⟩)))))))))
   ·exact psk 3 B O (Pb B O (mb O (psk 3 O O (Pb O O (mb O (psk 5 O O (Pb O O (mb O (psk 4 O O (Pb O O (Nb O ((ag) ⟨false,ax,O,f,O,Y⟩))))))))))))
theorem p76 {x0 a r}(b:Rd W K [vS x0.Branch,vS x0.Into,vS x0.By,a] x0)(Y:Vm.zjA x0=some r):Q1 76 [.agg [vS x0.Branch,vS x0.Into,vS x0.By,a].toArray] W [] fun W' v=>v=vB r:=
 (c76 (b.view _) Y).ad (fk 0) fun _ _ e=>e
theorem c197 {x0 f x1 e r}(h0:Rd W0 [0] [f] x0)(X:Rd W0 [0] [e] x1)(Y:Vm.zk0 x0 x1=some r):Q0 197 [f,e] W0 fun Wf v=> ∃ u0,v=u0/\OwS Wf LL [] [u0] r:=by
 unfold Vm.zk0 at Y
 refine zao.of Tryz.func197 O O O O (sr (Nv (.slice none 0 0) O (sr (Lw.t O (T.lit0 (α:=Hunk) 2 []) ?_))))
 rintro v1 _ ⟨W1,rfl,l1,o1⟩
 have a2:=l1.o
 refine Nv v1 O (sr (mv f O (mv e O (cr Y (fun _=>p156 (k0:=3) (h0.ul a2) (X.ul a2)) ?_))))
 rintro z5 eb W7 Y l7 ⟨_,rfl,ch⟩
 have a8:=a2.n l7
 refine mv e O (Lw.ln x1 (X.ul a8) O (Lw.t O (T.bs 4 [vI (x1.length:Int)] (cs:=[vI (x1.length:Int)]) O O (bsv O)) ?_))
 rintro _ _ ⟨ed,ee,rfl,rfl,ao,ci⟩
 have cj:=a8.n ao
 obtain⟨bl,ck,Y⟩:=ob Y
 refine Lw.t O (T.app1S (α:=Int) (K':=[]) (ch.up ao) ci (rdI _) O O ck) ?_
 rintro z _ ⟨bm,rfl,bn,cl⟩
 have cm:=cj.t bn
 refine Nv z O (sr (Ni O (sr (Ni O (ssr (Ni O (Cw.block ?_)))))))
 obtain⟨co,cp,Y⟩:=zaY Y
 refine Cw.loop 18 66 [5,7,8,9] (fun m l w=> ∃ B a d b i A,CW.w A=w/\Le [2,5,6] bm A/\l=[i,vI a,vI d,vI b]/\Ow A 2 [] [i] B/\Vm.zfg x0 x1 bl co m B a d b=some r) _ ⟨([]:List Hunk),0,0,0,v1,bm,O,Le.refl _ _,O,(((o1.up l7).up ao).up bn),Y⟩ ?_
 rintro(_ |ef) _ _ σ ⟨B,a,d,b,i,A,rfl,ap,rfl,Z,Y⟩
 ·cases Y
 unfold Vm.zfg at Y
 have bp:=cm.t ap
 have C:=cl.up ap
 refine ssr (mi O (mv z O (Lw.ln bl C.rd O (Lw.lt O (nl (cn Y (fun Y=>?_) fun Y=>?_))))))
 ·refine sk ?_
  obtain⟨cq,ct,Y⟩:=zaY Y
  refine Cw.join 24 66 [5,7,8] (fun l w=> ∃ aa ac ae af M,CW.w M=w/\Le [2,5,6] A M/\l=[af,vI ac,vI ae]/\Ow M 2 [] [af] aa/\cq aa ac ae=some r) ?_ ?_
  ·rintro _ _ σ ⟨aa,ac,ae,af,M,rfl,cu,rfl,cv,Y⟩
   rw[ct]at Y
   exact rg (mi O (Lw.add O (Ni O ((agm) ⟨aa,ac,ae,w64 (b+1),af,M,O,(ap.j cu).w,O,cv,Y⟩))))
  ·refine Cw.block (ssr (mv z O (mi O ?_)))
   obtain⟨eg,bq,Y⟩:=ob Y
   refine Lw.r O (R.ix (α:=Int) C.rd bq O O O) (Lw.r O (R.ld O O (C.rd.at_ bq).int) (Lw.lt O (nl (cn Y (fun Y=>?_) fun Y=>?_))))
   ·exact Cw.exit ((ag) ⟨B,a,d,i,A,O,Le.refl _ _,O,Z,Y⟩)
   ·refine sk ?_
    obtain⟨cw,cx,Y⟩:=zaY Y
    refine Cw.join 29 59 [5] (fun l w=> ∃ ah ai N,CW.w N=w/\Le [2,5,6] A N/\l=[ai]/\Ow N 2 [] [ai] ah/\cw ah=some r) ?_ ?_
    ·rintro _ _ σ ⟨ah,ai,N,rfl,aq,rfl,cy,Y⟩
     rw[cx]at Y
     refine sr (mi O (Lw.add O (Ni O (rg (mv z O (mi O ?_))))))
     obtain⟨cz,br,Y⟩:=ob Y
     exact Lw.r O (R.ix (α:=Int) (C.up aq).rd br O O O) (Lw.r O (R.ld O O ((C.up aq).rd.at_ br).int) (Lw.add O (Ni O ((ag) ⟨ah,w64 (b+1),w64 (cz+1),ai,N,O,aq,O,cy,Y⟩))))
    ·obtain⟨c0,c1,Y⟩:=zaY Y
     refine Cw.join 29 39 [39] (fun l w=> ∃ ar aj,CW.w aj=w/\Le [] A aj/\l=[vB ar]/\c0 ar=some r) ?_ ?_
     ·rintro _ _ σ ⟨ar,aj,rfl,G,rfl,Y⟩
      rw[c1]at Y
      have c2:=bp.n G
      refine cn Y (fun Y=>?_) fun Y=>?_
      ·obtain⟨P,bu,Y⟩:=ob Y
       obtain⟨H,c3,Y⟩:=ob Y
       obtain⟨y,bv,Y⟩:=ob Y
       obtain⟨Q,bw,Y⟩:=ob Y
       obtain⟨I,c4,Y⟩:=ob Y
       obtain⟨S,c5,Y⟩:=ob Y
       refine Cw.par [[],[],[],[],[],[],[3,4,5],[2,3,4,5,6],[],[],[],[],[],[11,12],[11,12,13],[9,10,11,12,13,14],[2,3,4,5,6,7,8,9,10,11,12,13,14,15],[1,2,3,4,5,6,7,8,9,10,11,12,13,14,15,16],[1,2,3,4,5,6,7,8,9,10,11,12,13,14,15,16,17],[0,1,2,3,4,5,6,7,8,9,10,11,12,13,14,15,16,17,18],[0,1,2,3,4,5,6,7,8,9,10,11,12,13,14,15,16,17,18,19]] [[21],[],[],[],[],[],[3,4,5],[2,6],[],[],[],[],[],[11,12],[13],[9,10,14],[8,15],[1,7,16],[7,16,17],[0,7,16,18,21],[19]] [[],[],[],[],[],[],[],[5],[],[],[],[],[],[],[],[],[6],[],[],[2,5,6],[]] [[0],[1],[2],[3],[4],[5],[6],[7],[8],[9],[10],[11],[12],[13],[14],[15],[16],[7,16,17],[7,16,18],[19],[19,20],[]] [[],[],[5],[],[],[],[0],[5],[6],[],[],[],[],[],[],[0],[6],[],[7],[2],[],[2]] [0,1,3,4,5,6,9,10,11,12,13,14,15,17,18,19,20] [2,5,6] [fun vs W=>(vs 0)=i,fun vs W=>(vs 1)=vI a,fun vs W=>Ow W 5 [] [(vs 2)] ([]:List Str),fun vs W=>(vs 3)=f,fun vs W=>(vs 4)=vI a,fun vs W=>(vs 5)=vI b,fun vs W=>(vs 6)=(cutV f (a:Int).toNat (b:Int).toNat (Rp.sz (Str)))/\Rd W [0] [(cutV f (a:Int).toNat (b:Int).toNat (Rp.sz (Str)))] P,fun vs W=>Ow W 5 [] [(vs 7)] H,fun vs W=>Ow W 6 [] [(vs 8)] ([]:List Str),fun vs W=>(vs 9)=e,fun vs W=>(vs 10)=vI d,fun vs W=>(vs 11)=z,fun vs W=>(vs 12)=vI b,fun vs W=>(vs 13)=ptr ((slA z).add ((b).toNat*Rp.sz (Int))),fun vs W=>(vs 14)=vI y,fun vs W=>(vs 15)=(cutV e (d:Int).toNat (y:Int).toNat (Rp.sz (Str)))/\Rd W [0] [(cutV e (d:Int).toNat (y:Int).toNat (Rp.sz (Str)))] Q,fun vs W=>Ow W 6 [] [(vs 16)] I,fun vs W=>(vs 17) = .agg [vI a,(vs 7),(vs 16)].toArray,fun vs W=>(vs 18) = .slice (some (bx (pg (vs 18)))) 1 1/\Bx W 7 (pg (vs 18)) [vI a,(vs 7),(vs 16)],fun vs W=>Ow W 2 [] [(vs 19)] S,fun vs W=>(vs 20)=(vs 19)] [fun _ W=>Ow W 2 [] [i] B] mixed (by kernel_rfl) O (zsd.cons (fun _ _ l=>(Z.up G).up l O) zsd.nil) ?_
       intro eh au
       have bz:=c2.n au
       have b0:=(C.up G).up au
       refine⟨(zaV.cons ?_ (zaV.cons ?_ (zaV.cons ?_ (zaV.cons ?_ (zaV.cons ?_ (zaV.cons ?_ (zaV.cons ?_ (zaV.cons ?_ (zaV.cons ?_ (zaV.cons ?_ (zaV.cons ?_ (zaV.cons ?_ (zaV.cons ?_ (zaV.cons ?_ (zaV.cons ?_ (zaV.cons ?_ (zaV.cons ?_ (zaV.cons ?_ (zaV.cons ?_ (zaV.cons ?_ (zaV.cons ?_ zaV.nil))))))))))))))))))))),(zdz.cons SE (zdz.cons SE (zdz.cons SO (zdz.cons SE (zdz.cons SE (zdz.cons SE (zdz.cons (fun vs vs' W W' _ hv l hd h=>by(show(vs' 6)=(cutV f (a:Int).toNat (b:Int).toNat (Rp.sz (Str)))/\Rd W' [0] [(cutV f (a:Int).toNat (b:Int).toNat (Rp.sz (Str)))] P);rw[hv 6 (zaC O)];exact⟨h.1,h.2.up l (zkA hd (K:=[0]) O)⟩) (zdz.cons SO (zdz.cons SO (zdz.cons SE (zdz.cons SE (zdz.cons SE (zdz.cons SE (zdz.cons SE (zdz.cons SE (zdz.cons (fun vs vs' W W' _ hv l hd h=>by(show(vs' 15)=(cutV e (d:Int).toNat (y:Int).toNat (Rp.sz (Str)))/\Rd W' [0] [(cutV e (d:Int).toNat (y:Int).toNat (Rp.sz (Str)))] Q);rw[hv 15 (zaC O)];exact⟨h.1,h.2.up l (zkA hd (K:=[0]) O)⟩) (zdz.cons SO (zdz.cons (fun vs vs' W W' _ hv l hd h=>by(show(vs' 17) = .agg [vI a,(vs' 7),(vs' 16)].toArray);rw[hv 7 (zaC O),hv 16 (zaC O),hv 17 (zaC O)];exact h) (zdz.cons (fun vs vs' W W' _ hv l hd h=>by(show(vs' 18) = .slice (some (bx (pg (vs' 18)))) 1 1/\Bx W' 7 (pg (vs' 18)) [vI a,(vs' 7),(vs' 16)]);rw[hv 7 (zaC O),hv 16 (zaC O),hv 18 (zaC O)];exact⟨h.1,h.2.up l (zcn hd (c:=7) O)⟩) (zdz.cons SO (zdz.cons (fun vs vs' W W' _ hv l hd h=>by(show(vs' 20)=(vs' 19));rw[hv 19 (zaC O),hv 20 (zaC O)];exact h) (zdz.cons (fun _ _ _ _ _ _ l hd h=>h.upv l (zcn hd (c:=2) O)) zdz.nil)))))))))))))))))))))),?_⟩
       ·intro vs c6 lW hN hV
        have ei:Ow c6 2 [] [i] B:=hN 21 (zaC O)
        have av:vs 20=i:=hV 20 (zaC O)
        obtain⟨vs,rfl⟩:=zat av
        exact Trq (R.mv (v:=i) O) O
       ·intro vs ej lW hN hV
        exact Trq (R.mv (v:=vI a) O) O
       ·intro vs ek lW hN hV
        refine Tr.mono (T.lit0 (α:=Str) 5 []) ?_
        rintro c7 _ ⟨b1,rfl,c8,c9⟩
        exact⟨b1,O,c8,(show Ow b1 5 [] [c7] ([]:List Str) from c9)⟩
       ·intro vs el lW hN hV
        exact Trq (R.mv (v:=f) O) O
       ·intro vs em lW hN hV
        exact Trq (R.mv (v:=vI a) O) O
       ·intro vs en lW hN hV
        exact Trq (R.mv (v:=vI b) O) O
       ·intro vs da lW hN hV
        have b2:=bz.t lW O
        have aw:vs 3=f:=(hN 3 (zaC O))
        obtain⟨vs,rfl⟩:=zat aw
        have ax:vs 4=vI a:=(hN 4 (zaC O))
        obtain⟨vs,rfl⟩:=zat ax
        have ay:vs 5=vI b:=(hN 5 (zaC O))
        obtain⟨vs,rfl⟩:=zat ay
        have r162:=(h0.ul b2).cutV bu
        exact Trq (R.sl (h0.ul b2) bu O (.inr O) (.inr O)) (show((cutV f (a:Int).toNat (b:Int).toNat (Rp.sz (Str))):Value)=(cutV f (a:Int).toNat (b:Int).toNat (Rp.sz (Str)))/\Rd da [0] [(cutV f (a:Int).toNat (b:Int).toNat (Rp.sz (Str)))] P from⟨O,r162⟩)
       ·intro vs b3 lW hN hV
        obtain⟨db,dc⟩: ∃ v,vs 2=v:=⟨_,O⟩
        obtain⟨vs,rfl⟩:=zat dc
        have dd:Ow b3 5 [] [db] ([]:List Str):=(hN 2 (zaC O))
        have az:vs 6=(cutV f (a:Int).toNat (b:Int).toNat (Rp.sz (Str))):=(hN 6 (zaC O)).1
        obtain⟨vs,rfl⟩:=zat az
        have de:Rd b3 [0] [(cutV f (a:Int).toNat (b:Int).toNat (Rp.sz (Str)))] P:=(hN 6 (zaC O)).2
        refine Tr.mono (T.appP (α:=Str) dd de O O c3) ?_
        rintro df _ ⟨b4,rfl,dg,dh⟩
        exact⟨b4,O,dg,(show Ow b4 5 [] [df] H from dh)⟩
       ·intro vs eo lW hN hV
        refine Tr.mono (T.lit0 (α:=Str) 6 []) ?_
        rintro di _ ⟨b5,rfl,dj,dk⟩
        exact⟨b5,O,dj,(show Ow b5 6 [] [di] ([]:List Str) from dk)⟩
       ·intro vs ep lW hN hV
        exact Trq (R.mv (v:=e) O) O
       ·intro vs er lW hN hV
        exact Trq (R.mv (v:=vI d) O) O
       ·intro vs es lW hN hV
        exact Trq (R.mv (v:=z) O) O
       ·intro vs et lW hN hV
        exact Trq (R.mv (v:=vI b) O) O
       ·intro vs eu lW hN hV
        have a0:vs 11=z:=(hN 11 (zaC O))
        obtain⟨vs,rfl⟩:=zat a0
        have a1:vs 12=vI b:=(hN 12 (zaC O))
        obtain⟨vs,rfl⟩:=zat a1
        exact Trq (R.ix (α:=Int) (b0.up lW O).rd bv O O O) O
       ·intro vs ew lW hN hV
        have a3:vs 13=ptr ((slA z).add ((b).toNat*Rp.sz (Int))):=(hN 13 (zaC O))
        obtain⟨vs,rfl⟩:=zat a3
        exact Trq (R.ld O O ((b0.up lW O).rd.at_ bv).int) O
       ·intro vs dl lW hN hV
        have b6:=bz.t lW O
        have a4:vs 9=e:=(hN 9 (zaC O))
        obtain⟨vs,rfl⟩:=zat a4
        have a5:vs 10=vI d:=(hN 10 (zaC O))
        obtain⟨vs,rfl⟩:=zat a5
        have a6:vs 14=vI y:=(hN 14 (zaC O))
        obtain⟨vs,rfl⟩:=zat a6
        have r211:=(X.ul b6).cutV bw
        exact Trq (R.sl (X.ul b6) bw O (.inr O) (.inr O)) (show((cutV e (d:Int).toNat (y:Int).toNat (Rp.sz (Str))):Value)=(cutV e (d:Int).toNat (y:Int).toNat (Rp.sz (Str)))/\Rd dl [0] [(cutV e (d:Int).toNat (y:Int).toNat (Rp.sz (Str)))] Q from⟨O,r211⟩)
       ·intro vs b7 lW hN hV
        obtain⟨dm,dn⟩: ∃ v,vs 8=v:=⟨_,O⟩
        obtain⟨vs,rfl⟩:=zat dn
        have dp:Ow b7 6 [] [dm] ([]:List Str):=(hN 8 (zaC O))
        have a7:vs 15=(cutV e (d:Int).toNat (y:Int).toNat (Rp.sz (Str))):=(hN 15 (zaC O)).1
        obtain⟨vs,rfl⟩:=zat a7
        have dq:Rd b7 [0] [(cutV e (d:Int).toNat (y:Int).toNat (Rp.sz (Str)))] Q:=(hN 15 (zaC O)).2
        refine Tr.mono (T.appP (α:=Str) dp dq O O c4) ?_
        rintro dr _ ⟨b8,rfl,ds,dt⟩
        exact⟨b8,O,ds,(show Ow b8 6 [] [dr] I from dt)⟩
       ·intro vs b9 lW hN hV
        have a9:vs 1=vI a:=(hN 1 (zaC O))
        obtain⟨vs,rfl⟩:=zat a9
        obtain⟨k,D⟩: ∃ v,vs 7=v:=⟨_,O⟩
        obtain⟨vs,rfl⟩:=zat D
        have du:Ow b9 5 [] [k] H:=(hN 7 (zaC O))
        obtain⟨x,E⟩: ∃ v,vs 16=v:=⟨_,O⟩
        obtain⟨vs,rfl⟩:=zat E
        have dv:Ow b9 6 [] [x] I:=(hN 16 (zaC O))
        exact Trq (R.bd (zs:=[vI 0, .slice none 0 0, .slice none 0 0]) (cs:=[vI a,k,x]) [(0,vI a),(1,k),(2,x)] O O O (zaA O O (zaA du.oc O (zaA dv.oc O zc8)))) O
       ·intro vs cb lW hN hV
        obtain⟨k,D⟩: ∃ v,vs 7=v:=⟨_,O⟩
        obtain⟨vs,rfl⟩:=zat D
        have ex:Ow cb 5 [] [k] H:=(hN 7 (zaC O))
        obtain⟨x,E⟩: ∃ v,vs 16=v:=⟨_,O⟩
        obtain⟨vs,rfl⟩:=zat E
        have ey:Ow cb 6 [] [x] I:=(hN 16 (zaC O))
        have ba:vs 17 = .agg [vI a,k,x].toArray:=(hN 17 (zaC O))
        obtain⟨vs,rfl⟩:=zat ba
        refine Tr.mono (T.bs 7 [.agg [vI a,k,x].toArray] (cs:=[vI a,k,x]) O O (bsA O)) ?_
        rintro _ _ ⟨bb,cc,rfl,rfl,dw,dx⟩
        exact⟨cc,O,dw,(show(.slice (some (bx bb)) 1 1:Value) = .slice (some (bx bb)) 1 1/\Bx cc 7 bb [vI a,k,x] from⟨O,dx⟩)⟩
       ·intro vs ak lW hN hV
        have bc:vs 0=i:=(hN 0 (zaC O))
        obtain⟨vs,rfl⟩:=zat bc
        obtain⟨k,D⟩: ∃ v,vs 7=v:=⟨_,O⟩
        obtain⟨vs,rfl⟩:=zat D
        have dy:Ow ak 5 [] [k] H:=(hN 7 (zaC O))
        obtain⟨x,E⟩: ∃ v,vs 16=v:=⟨_,O⟩
        obtain⟨vs,rfl⟩:=zat E
        have dz:Ow ak 6 [] [x] I:=(hN 16 (zaC O))
        obtain⟨F,be⟩: ∃ F,vs 18 = .slice (some (bx F)) 1 1:=⟨_,((hN 18 (zaC O))).1⟩
        obtain⟨vs,rfl⟩:=zat be
        have d0:Bx ak 7 F [vI a,k,x]:=(hN 18 (zaC O)).2
        have d1:Ow ak 2 [] [i] B:=hN 21 (zaC O)
        refine Tr.mono (T.app1 (α:=Hunk) (J:=[5,6]) (K':=[]) d1 d0 (Hunk.own a H I dy.s dz.s) O O c5) ?_
        rintro d2 _ ⟨cd,rfl,d3,d4⟩
        exact⟨cd,O,d3,(show Ow cd 2 [] [d2] S from d4)⟩
       ·intro vs d5 lW hN hV
        obtain⟨L,bg⟩: ∃ v,vs 19=v:=⟨_,O⟩
        obtain⟨vs,rfl⟩:=zat bg
        have ez:Ow d5 2 [] [L] S:=(hN 19 (zaC O))
        exact Trq (R.as (v:=L) O) O
       ·intro vs U d6 hN
        have bc:vs 0=i:=(hN 0 (zaC O))
        obtain⟨vs,rfl⟩:=zat bc
        have a9:vs 1=vI a:=(hN 1 (zaC O))
        obtain⟨vs,rfl⟩:=zat a9
        have aw:vs 3=f:=(hN 3 (zaC O))
        obtain⟨vs,rfl⟩:=zat aw
        have ax:vs 4=vI a:=(hN 4 (zaC O))
        obtain⟨vs,rfl⟩:=zat ax
        have ay:vs 5=vI b:=(hN 5 (zaC O))
        obtain⟨vs,rfl⟩:=zat ay
        have az:vs 6=(cutV f (a:Int).toNat (b:Int).toNat (Rp.sz (Str))):=(hN 6 (zaC O)).1
        obtain⟨vs,rfl⟩:=zat az
        have e0:Rd U [0] [(cutV f (a:Int).toNat (b:Int).toNat (Rp.sz (Str)))] P:=(hN 6 (zaC O)).2
        have a4:vs 9=e:=(hN 9 (zaC O))
        obtain⟨vs,rfl⟩:=zat a4
        have a5:vs 10=vI d:=(hN 10 (zaC O))
        obtain⟨vs,rfl⟩:=zat a5
        have a0:vs 11=z:=(hN 11 (zaC O))
        obtain⟨vs,rfl⟩:=zat a0
        have a1:vs 12=vI b:=(hN 12 (zaC O))
        obtain⟨vs,rfl⟩:=zat a1
        have a3:vs 13=ptr ((slA z).add ((b).toNat*Rp.sz (Int))):=(hN 13 (zaC O))
        obtain⟨vs,rfl⟩:=zat a3
        have a6:vs 14=vI y:=(hN 14 (zaC O))
        obtain⟨vs,rfl⟩:=zat a6
        have a7:vs 15=(cutV e (d:Int).toNat (y:Int).toNat (Rp.sz (Str))):=(hN 15 (zaC O)).1
        obtain⟨vs,rfl⟩:=zat a7
        have e1:Rd U [0] [(cutV e (d:Int).toNat (y:Int).toNat (Rp.sz (Str)))] Q:=(hN 15 (zaC O)).2
        obtain⟨k,D⟩: ∃ v,vs 7=v:=⟨_,O⟩
        obtain⟨vs,rfl⟩:=zat D
        obtain⟨x,E⟩: ∃ v,vs 16=v:=⟨_,O⟩
        obtain⟨vs,rfl⟩:=zat E
        have ba:vs 17 = .agg [vI a,k,x].toArray:=(hN 17 (zaC O))
        obtain⟨vs,rfl⟩:=zat ba
        obtain⟨F,be⟩: ∃ F,vs 18 = .slice (some (bx F)) 1 1:=⟨_,((hN 18 (zaC O))).1⟩
        obtain⟨vs,rfl⟩:=zat be
        have e2:Bx U 7 F [vI a,k,x]:=(hN 18 (zaC O)).2
        obtain⟨L,bg⟩: ∃ v,vs 19=v:=⟨_,O⟩
        obtain⟨vs,rfl⟩:=zat bg
        have d7:Ow U 2 [] [L] S:=(hN 19 (zaC O))
        have av:vs 20=L:=(hN 20 (zaC O))
        obtain⟨vs,rfl⟩:=zat av
        exact(ag) ⟨S,L,U,O,((G.j au).j d6).w,O,d7,Y⟩
      ·exact sk ((ag) ⟨B,i,aj,O,G.w,O,(Z.up G),Y⟩)
     ·refine rg (mi O (mi O (Lw.gt O (mb O (bs Y (fun V Y=>?_) fun V Y=>?_)))))
      ·exact psk 6 V O (Pb V O (nl ((ag) ⟨true,A,O,Le.refl _ _,O,Y⟩)))
      ·refine wak 6 V (mv z O (mi O ?_))
       obtain⟨d8,ce,Y⟩:=ob Y
       exact Lw.r O (R.ix (α:=Int) C.rd ce O O O) (Lw.r O (R.ld O O (C.rd.at_ ce).int) (mi O (Lw.gt O (Pb V O (nl ((ag) ⟨decide (d< (d8:Int)),A,O,Le.refl _ _,O,Y⟩))))))
 ·refine Cw.exit ?_
  rw[cp]at Y
  refine sr (mv i O (Nv i O ?_))
  cases Y
  exact Cw.ret (zik O (Res.mk bp ⟨i,O,Z.s.sub O O⟩))
theorem p197 {x0 b x1 d k0 r}(f:Rd W K [b] x0)(h:Rd W K [d] x1)(Y:Vm.zk0 x0 x1=some r):Q1 197 [b,d] W [] fun W' v=> ∃ a,v=a/\Ow W' k0 [] [a] r:=
 (c197 (f.view _) (h.view _) Y).ad (fk k0) fun _ _ ⟨a,e,i⟩=>⟨a,e,i.back (zgv _)⟩
theorem c198 {x0 I x1 d x2 J x3 C r}(h0:Rd W0 [0] [I] x0)(b:Rd W0 [0] [d] x1)(h2:Rd W0 [0] [J] x2)(D:Rd W0 [0] [C] x3)(Y:Vm.zgf x0 x1 x2 x3=some r):Q0 198 [I,d,J,C] W0 fun Wf v=>v=vS r:=by
 unfold Vm.zgf at Y
 refine zao.of Tryz.func198 O O O O (sr (Ns O (ssr (Ni O (Cw.block ?_)))))
 obtain⟨K8,ap,Y⟩:=zaY Y
 refine Cw.loop 14 68 [8,9,10,11,12,13] (fun m l w=> ∃ E f T U V W K,CW.w K=w/\Le [] W0 K/\l=[vS E,vI f,T,U,V,W]/\Vm.zcX x0 x1 x2 x3 K8 m E f=some r) _ ⟨([]:Str),0,undef,undef,undef,undef,W0,O,Le.refl _ _,O,Y⟩ ?_
 rintro(_ |m9) _ _ σ ⟨E,f,T,U,V,W,K,rfl,X,rfl,Y⟩
 ·cases Y
 unfold Vm.zcX at Y
 have h:=X.o
 refine ssr (mi O (mv d O (Lw.ln x1 (b.ul h) O (Lw.lt O (nl (cn Y (fun Y=>?_) fun Y=>?_))))))
 ·refine sk (Cw.seq (Cw.block (sr (mv I O (mv d O (mi O ?_))))))
  obtain⟨a2,Z,Y⟩:=ob Y
  refine Lw.r O (R.ix (α:=File) (b.ul h) Z O O O) (Lw.fa O (Lw.r O (R.ld O O (File.at0 ((b.ul h).at_ Z)).str) (cr Y (fun _=>p155 (h0.ul h)) ?_)))
  rintro z _ aa Y ac ⟨i,rfl,aq⟩
  have a3:=aq.sub (M:=[0]) O
  have ar:=h.n ac
  refine mv (.tuple [i,vB z.2].toArray) O (Lw.r O (R.ext (vs:=[i,vB z.2]) (v:=i) O O) (Lw.r O (R.ext (vs:=[i,vB z.2]) (v:=vB z.2) O O) (Gv i O (Nb O (sr (Nb O (ssr (Ni O (Cw.block ?_)))))))))
  obtain⟨au,av,Y⟩:=zaY Y
  refine Cw.loop 30 49 [12,13] (fun m l w=> ∃ F e k,CW.w k=w/\Le [] aa k/\l=[vB F,vI e]/\Vm.zbw x1 x3 f au m F e=some r) _ ⟨true,0,aa,O,Le.refl _ _,O,Y⟩ ?_
  rintro(_ |a4) _ _ σ ⟨F,e,k,rfl,G,rfl,Y⟩
  ·cases Y
  unfold Vm.zbw at Y
  have x:=ar.n G
  refine ssr (mi O (mv C O (Lw.ln x3 (D.ul x) O (Lw.lt O (nl (cn Y (fun Y=>?_) fun Y=>?_))))))
  ·refine sk (Cw.seq (Cw.block (Cw.draw [] [(0,0),(1,0),(2,0),(3,0),(4,0),(5,0),(6,1),(7,0),(8,0),(9,0),(10,0),(11,1),(12,0),(13,0),(14,0)] mixed (by kernel_rfl) fun ae L=>?_)))
   have y:=x.n L
   refine Db O (Db O (bs Y (fun a Y=>?_) fun a Y=>?_))
   ·refine Wp a O (fun _=>R.mv (v:=C) O) (Wp a O (fun _=>R.mv (v:=vI e) O) ?_)
    obtain⟨af,N,Y⟩:=ob Y
    refine Wp a O (fun _=>R.ix (α:=Change) (D.ul y) N O O O) (Wp a O (fun _=>R.fa O) (Wq a O (fun _ c=>R.ld O O (zaq (Change.at2 ((D.ul y).at_ N)).1 O (Change.at2 ((D.ul y).at_ N)).str c)) (Wp a O (fun _=>R.mv (v:=d) O) (Wp a O (fun _=>R.mv (v:=vI f) O) ?_))))
    obtain⟨ah,P,Y⟩:=ob Y
    exact Wp a O (fun _=>R.ix (α:=File) (b.ul y) P O O O) (Wp a O (fun _=>R.fa O) (Wq a O (fun _ c=>R.ld O O (zaq (File.at0 ((b.ul y).at_ P)).1 O (File.at0 ((b.ul y).at_ P)).str c)) (Wp a O (fun _=>R.sne O O) (Mw.p O O (fun _=>R.pk a O (v:=vB (af.To !=ah.Path)) O) (Hb O (Mw.nil (rg (mi O (Lw.add O (Ni O ((agm) ⟨(af.To !=ah.Path),w64 (e+1),ae,O,(G.j L).w,O,Y⟩)))))))))))
   ·exact dps 11 a O (Mw.p O O (fun _=>R.pk a O (v:=vB false) O) (Hb O (Mw.nil (rg (mi O (Lw.add O (Ni O ((agm) ⟨false,w64 (e+1),ae,O,(G.j L).w,O,Y⟩))))))))
  ·refine Cw.exit ?_
   rw[av]at Y
   obtain⟨aw,ax,Y⟩:=zaY Y
   refine Cw.join 50 63 [63] (fun l w=> ∃ Q H,CW.w H=w/\Le [] k H/\l=[vB Q]/\aw Q=some r) ?_ ?_
   ·rintro _ _ σ ⟨Q,H,rfl,ai,rfl,Y⟩
    rw[ax]at Y
    have S:=x.n ai
    refine cn Y (fun Y=>?_) fun Y=>?_
    ·refine sr (mv d O (mi O ?_))
     obtain⟨a5,aj,Y⟩:=ob Y
     exact Lw.r O (R.ix (α:=File) (b.ul S) aj O O O) (Lw.fa O (Lw.r O (R.ld O O (File.at0 ((b.ul S).at_ aj)).str) (Ns O (.ret (rt Y S)))))
    ·exact sk (rg (mi O (Lw.add O (Ni O ((agm) ⟨E,w64 (f+1),i,vB z.2,vB F,vI e,H,O,(((X.j ac).j G).j ai).w,O,Y⟩)))))
   ·refine rg (mb O (Lw.r O (R.not O) (mb O (bs Y (fun A Y=>?_) fun A Y=>?_))))
    ·refine wak 1 A (mb O (Pb A O (mb O (bs Y (fun B Y=>?_) fun B Y=>?_))))
     ·refine wak 7 B (mv d O (mi O ?_))
      obtain⟨a6,ak,Y⟩:=ob Y
      refine Lw.r O (R.ix (α:=File) (b.ul x) ak O O O) (Lw.fa O ?_)
      obtain⟨a7,c52,r53⟩:=(File.at1 ((b.ul x).at_ ak)).cell O
      exact Lw.r O (R.ld O O c52) (mv J O (ca Y (fun _=>p196 r53 (h2.ul x)) fun ay az Y a0=>Pb B O (nl ((ag) ⟨ay,az,O,a0,O,Y⟩))))
     ·exact psk 7 B O (Pb B O (nl ((ag) ⟨false,k,O,Le.refl _ _,O,Y⟩)))
    ·exact psk 1 A O (Pb A O (mb O (psk 7 O O (Pb O O (nl ((ag) ⟨false,k,O,Le.refl _ _,O,Y⟩))))))
 ·refine Cw.exit ?_
  rw[ap]at Y
  exact sr (Ns O (.ret (rt Y h)))
theorem p198 {x0 a x1 b x2 d x3 f r}(h:Rd W K [a] x0)(i:Rd W K [b] x1)(k:Rd W K [d] x2)(x:Rd W K [f] x3)(Y:Vm.zgf x0 x1 x2 x3=some r):Q1 198 [a,b,d,f] W [] fun W' v=>v=vS r:=
 (c198 (h.view _) (i.view _) (k.view _) (x.view _) Y).ad (fk 0) fun _ _ e=>e
theorem c166 {x0 b x1 f r}(d:Rd W0 [0] [b] x0)(h:Rd W0 [0] [f] x1)(Y:Vm.zi1 x0 x1=some r):Q0 166 [b,f] W0 fun Wf v=> ∃ u0,v=u0/\OwS Wf LL [] [u0] r:=by
 unfold Vm.zi1 at Y
 refine zao.of Tryz.func166 O O O O (sr (Nv (.slice none 0 0) O (sr (Lw.t O (T.lit0 (α:=Change) 2 []) ?_))))
 rintro v1 _ ⟨W1,rfl,l1,o1⟩
 have a2:=l1.o
 refine Nv v1 O (ssr (Ni O (Cw.block ?_)))
 obtain⟨dl,dm,Y⟩:=zaY Y
 refine Cw.loop 17 97 [5,6,7,8,9] (fun m l w=> ∃ k y6 y j7 j8 j9 z,CW.w z=w/\Le [2,4,6] W1 z/\l=[y,vI y6,j7,j8,j9]/\Ow z 2 [] [y] k/\Vm.zfh x0 x1 dl m k y6=some r) _ ⟨([]:List Change),0,v1,undef,undef,undef,W1,O,Le.refl _ _,O,o1,Y⟩ ?_
 rintro(_ |fm) _ _ σ ⟨k,y6,y,j7,j8,j9,z,rfl,l10,rfl,o5,Y⟩
 ·cases Y
 unfold Vm.zfh at Y
 have E:=a2.t l10
 refine ssr (mi O (mv b O (Lw.ln x0 (d.ul E) O (Lw.lt O (nl (cn Y (fun Y=>?_) fun Y=>?_))))))
 ·refine sk ?_
  obtain⟨dn,dp,Y⟩:=zaY Y
  refine Cw.join 23 97 [5,7,8,9] (fun l w=> ∃ ap aq bh bi bj U,CW.w U=w/\Le [2,4,6] z U/\l=[aq,bh,bi,bj]/\Ow U 2 [] [aq] ap/\dn ap=some r) ?_ ?_
  ·rintro _ _ σ ⟨ap,aq,bh,bi,bj,U,rfl,dq,rfl,dr,Y⟩
   rw[dp]at Y
   exact rg (mi O (Lw.add O (Ni O ((agm) ⟨ap,w64 (y6+1),aq,bh,bi,bj,U,O,(l10.j dq).w,O,dr,Y⟩))))
  ·refine Cw.block (sr (mv f O (mv b O (mi O ?_))))
   obtain⟨fn,cj,Y⟩:=ob Y
   refine Lw.r O (R.ix (α:=File) (d.ul E) cj O O O) (Lw.fa O (Lw.r O (R.ld O O (File.at0 ((d.ul E).at_ cj)).str) (cr Y (fun _=>p155 (h.ul E)) ?_)))
   rintro A _ bk Y V ⟨e,rfl,ds⟩
   have ck:=ds.sub (M:=[0]) O
   have ar:=E.n V
   refine mv (.tuple [e,vB A.2].toArray) O (Lw.r O (R.ext (vs:=[e,vB A.2]) (v:=e) O O) (Lw.r O (R.ext (vs:=[e,vB A.2]) (v:=vB A.2) O O) (Gv e O (Nb O ?_))))
   obtain⟨dt,du,Y⟩:=zaY Y
   refine Cw.join 33 59 [5] (fun l w=> ∃ au B W,CW.w W=w/\Le [2,6] bk W/\l=[B]/\Ow W 2 [] [B] au/\dt au=some r) ?_ ?_
   ·rintro _ _ σ ⟨au,B,W,rfl,av,rfl,aw,Y⟩
    rw[du]at Y
    have X:=ar.t av
    refine ssr (mb O (nl (cn Y (fun Y=>?_) fun Y=>?_)))
    ·exact Cw.exit ((ag) ⟨au,B,e,vB A.2,j9,W,O,(V.j av).w,O,aw,Y⟩)
    ·refine sk (sr (mv b O (mv f O (mv b O (mi O ?_)))))
     obtain⟨fo,cl,Y⟩:=ob Y
     refine Lw.r O (R.ix (α:=File) (d.ul X) cl O O O) (Lw.fa O ?_)
     obtain⟨fp,c45,r46⟩:=(File.at1 ((d.ul X).at_ cl)).cell O
     refine Lw.r O (R.ld O O c45) (mv B O (ca Y (fun _=>p198 (K:=[0,2]) ((d.ul X).sub (M:=[0,2]) O) ((h.ul X).sub (M:=[0,2]) O) (r46.sub (M:=[0,2]) O) (aw.rd.sub (M:=[0,2]) O)) fun C fq Y Z=>?_))
     have bl:=X.n Z
     refine Ns O (sr (ms O (Lw.sne O (nl (cn Y (fun Y=>?_) fun Y=>?_)))))
     ·refine rg (mv B O (mv b O (mi O ?_)))
      obtain⟨aa,cm,Y⟩:=ob Y
      refine Lw.r O (R.ix (α:=File) (d.ul bl) cm O O O) (Lw.fa O (Lw.r O (R.ld O O (File.at0 ((d.ul bl).at_ cm)).str) (ms O (Lw.r O (R.bd (zs:=[vI 0,vS ([]:Str),vS ([]:Str), .slice none 0 0, .slice none 0 0]) (cs:=[vI 4,vS aa.Path,vS C, .slice none 0 0, .slice none 0 0]) [(0,vI 4),(1,vS aa.Path),(2,vS C)] O O O (zaA O O (zaA O O (zaA O O zc8)))) (Lw.t O (T.bs 3 [.agg [vI 4,vS aa.Path,vS C, .slice none 0 0, .slice none 0 0].toArray] (cs:=[vI 4,vS aa.Path,vS C, .slice none 0 0, .slice none 0 0]) O O (bsA O)) ?_)))))
      rintro _ _ ⟨fr,fs,rfl,rfl,co,dv⟩
      obtain⟨dw,dx,Y⟩:=ob Y
      refine Lw.t O (T.app1 (α:=Change) (J:=[]) (K':=[]) ((aw.up Z).up co) dv (Change.own 4 aa.Path C ([]:List Str) ([]:List Hunk) (zp0 []) (zp0 [])) O O dx) ?_
      rintro cp _ ⟨dy,rfl,dz,d0⟩
      exact Nv cp O ((ag) ⟨dw,cp,e,vB A.2,vS C,dy,O,((((V.j av).j Z).j co).j dz).w,O,d0,Y⟩)
     ·refine Cw.draw [2,4] [(0,0),(1,0),(2,0),(3,0),(4,0),(5,1),(7,0),(8,0),(9,0),(10,0),(11,1),(6,2),(12,2),(13,0),(14,2),(15,2),(16,0)] mixed (by kernel_rfl) fun ft bm=>?_
      have d1:=bl.n bm
      refine Dv B O (Dv b O (Di O ?_))
      obtain⟨ac,bn,Y⟩:=ob Y
      have F:=d.ul d1
      refine Mw.p O O (fun _=>R.ix (α:=File) F bn O O O) (Df O (Mw.q O O (fun _ c=>R.ld O O (zaq (File.at0 (F.at_ bn)).1 O (File.at0 (F.at_ bn)).str c)) (Dv b O (Di O ?_))))
      obtain⟨fu,bp,Y⟩:=ob Y
      refine Mw.p O O (fun _=>R.ix (α:=File) F bp O O O) (Df O ?_)
      obtain⟨fv,c74,r75⟩:=(File.at1 (F.at_ bp)).cell O
      refine Mw.q O O (fun _ c=>R.ld O O (zaq (File.at1 (F.at_ bp)).1 O c74 c)) (Mw.t O O (T.lit0 (α:=Str) 4 []) ?_)
      rintro fw _ ⟨fx,rfl,ax,d2⟩
      have d3:=ax.o
      refine m0 ax fun d4=>?_
      obtain⟨d5,d6,Y⟩:=ob Y
      refine Mw.t O O (T.appP (α:=Str) d2 (r75.ul d3) O O d6) ?_
      rintro ay _ ⟨fy,rfl,bq,cq⟩
      refine mc d4 bq fun d7=>Mw.p O O (fun _=>R.bd (zs:=[vI 0,vS ([]:Str),vS ([]:Str), .slice none 0 0, .slice none 0 0]) (cs:=[vI 2,vS ac.Path,vS ([]:Str),ay, .slice none 0 0]) [(0,vI 2),(1,vS ac.Path),(3,ay)] O O O (zaA O O (zaA O O (zaA cq.oc O zc8)))) (Mw.t O O (T.bs 5 [.agg [vI 2,vS ac.Path,vS ([]:Str),ay, .slice none 0 0].toArray] (cs:=[vI 2,vS ac.Path,vS ([]:Str),ay, .slice none 0 0]) O O (bsA O)) ?_)
      rintro _ _ ⟨fz,f0,rfl,rfl,az,d8⟩
      refine mc d7 az fun d9=>?_
      obtain⟨ea,eb,Y⟩:=ob Y
      refine Mw.t O O (T.app1 (α:=Change) (J:=[4]) (K':=[]) (((((aw.up Z).up bm).up ax).up bq).up az) d8 (Change.own 2 ac.Path ([]:Str) d5 ([]:List Hunk) (cq.up az).s (zp0 [])) O O eb) ?_
      rintro ct _ ⟨ec,rfl,cu,ed⟩
      exact mc d9 cu fun f1=>Hv ct O (Mw.nil ((ag) ⟨ea,ct,e,vB A.2,vS C,ec,O,(((((((V.j av).j Z).j bm).j ax).j bq).j az).j cu).w,O,ed,Y⟩))
   ·obtain⟨ee,ef,Y⟩:=zaY Y
    refine Cw.join 33 43 [43] (fun l w=> ∃ br a0,CW.w a0=w/\Le [] bk a0/\l=[vB br]/\ee br=some r) ?_ ?_
    ·rintro _ _ σ ⟨br,a0,rfl,a1,rfl,Y⟩
     rw[ef]at Y
     have cv:=a1.o
     have cw:=(o5.up V).up a1
     refine cn Y (fun Y=>?_) fun Y=>?_
     ·refine Cw.draw [2,6] [(0,0),(1,0),(2,0),(3,0),(4,0),(5,1),(6,0),(7,0),(8,0),(9,0),(10,1),(11,0),(12,2),(13,0),(14,2),(15,2),(16,0)] mixed (by kernel_rfl) fun f2 bu=>?_
      have cx:=bu.o
      refine Dv y O (Dv b O (Di O ?_))
      obtain⟨ae,bv,Y⟩:=ob Y
      have G:=d.ul ((ar.trans cv).trans cx)
      refine Mw.p O O (fun _=>R.ix (α:=File) G bv O O O) (Df O (Mw.q O O (fun _ c=>R.ld O O (zaq (File.at0 (G.at_ bv)).1 O (File.at0 (G.at_ bv)).str c)) (Dv b O (Di O ?_))))
      obtain⟨f3,bw,Y⟩:=ob Y
      refine Mw.p O O (fun _=>R.ix (α:=File) G bw O O O) (Df O ?_)
      obtain⟨f4,c109,r110⟩:=(File.at1 (G.at_ bw)).cell O
      refine Mw.q O O (fun _ c=>R.ld O O (zaq (File.at1 (G.at_ bw)).1 O c109 c)) (Dv e O (Dc Y (Le.refl _ _) (fun _=>p197 (k0:=6) r110 (ck.ul (cv.trans cx))) O ?_))
      rintro eg a3 f5 Y cy ⟨_,rfl,cz⟩ eh
      refine Mw.p O O (fun _=>R.bd (zs:=[vI 0,vS ([]:Str),vS ([]:Str), .slice none 0 0, .slice none 0 0]) (cs:=[vI 3,vS ae.Path,vS ([]:Str), .slice none 0 0,a3]) [(0,vI 3),(1,vS ae.Path),(4,a3)] O O O (zaA O O (zaA O O (zaA cz.oc O zc8)))) (Mw.t O O (T.bs 7 [.agg [vI 3,vS ae.Path,vS ([]:Str), .slice none 0 0,a3].toArray] (cs:=[vI 3,vS ae.Path,vS ([]:Str), .slice none 0 0,a3]) O O (bsA O)) ?_)
      rintro _ _ ⟨f6,f7,rfl,rfl,a4,ei⟩
      refine mc eh a4 fun ej=>?_
      obtain⟨ek,el,Y⟩:=ob Y
      refine Mw.t O O (T.app1 (α:=Change) (J:=[6]) (K':=[]) (((cw.up bu).up cy).up a4) ei (Change.own 3 ae.Path ([]:Str) ([]:List Str) eg (zp0 []) (cz.up a4).s) O O el) ?_
      rintro c0 _ ⟨em,rfl,c1,en⟩
      exact mc ej c1 fun f8=>Hv c0 O (Mw.nil ((ag) ⟨ek,c0,em,O,((((a1.j bu).j cy).j a4).j c1).w,O,en,Y⟩))
     ·exact sk ((ag) ⟨k,y,a0,O,a1.w,O,cw,Y⟩)
    ·refine rg (mb O (mb O (bs Y (fun af Y=>?_) fun af Y=>?_)))
     ·refine wak 8 af (mv e O (mv b O (mi O ?_)))
      obtain⟨f9,c2,Y⟩:=ob Y
      refine Lw.r O (R.ix (α:=File) (d.ul ar) c2 O O O) (Lw.fa O ?_)
      obtain⟨ga,c131,r132⟩:=(File.at1 ((d.ul ar).at_ c2)).cell O
      exact Lw.r O (R.ld O O c131) (ca Y (fun _=>p196 ck r132) fun eo ep Y er=>Lw.r O (R.not O) (Pb af O (nl ((ag) ⟨(!eo),ep,O,er,O,Y⟩))))
     ·exact psk 8 af O (Pb af O (nl ((ag) ⟨false,bk,O,Le.refl _ _,O,Y⟩)))
 ·refine Cw.exit ?_
  rw[dm]at Y
  refine sr (mv y O (Lw.ln k o5.rd O (Ni O (ssr (Ni O (Cw.block ?_))))))
  obtain⟨es,et,Y⟩:=zaY Y
  refine Cw.loop 100 156 [5,11,12,13,14,15] (fun m l w=> ∃ ah H i c3 c4 c5 c6 ai,CW.w ai=w/\Le [2,8] z ai/\l=[i,vI H,c3,c4,c5,c6]/\Ow ai 2 [] [i] ah/\Vm.zbY x0 x1 k es m ah H=some r) _ ⟨k,0,y,undef,undef,undef,undef,z,O,Le.refl _ _,O,o5,Y⟩ ?_
  rintro(_ |gb) _ _ σ ⟨ah,H,i,c3,c4,c5,c6,ai,rfl,c7,rfl,c8,Y⟩
  ·cases Y
  unfold Vm.zbY at Y
  have I:=E.t c7
  refine ssr (mi O (mv f O (Lw.ln x1 (h.ul I) O (Lw.lt O (nl (cn Y (fun Y=>?_) fun Y=>?_))))))
  ·refine sk ?_
   obtain⟨eu,ew,Y⟩:=zaY Y
   refine Cw.join 106 156 [5,12,13,14,15] (fun l w=> ∃ a5 a6 bz b0 b1 b2 aj,CW.w aj=w/\Le [2,8] ai aj/\l=[a6,bz,b0,b1,b2]/\Ow aj 2 [] [a6] a5/\eu a5=some r) ?_ ?_
   ·rintro _ _ σ ⟨a5,a6,bz,b0,b1,b2,aj,rfl,ex,rfl,ey,Y⟩
    rw[ew]at Y
    exact rg (mi O (Lw.add O (Ni O ((agm) ⟨a5,w64 (H+1),a6,bz,b0,b1,b2,aj,O,(c7.j ex).w,O,ey,Y⟩))))
   ·refine Cw.block (sr (mv b O (mv f O (mi O ?_))))
    obtain⟨gc,c9,Y⟩:=ob Y
    refine Lw.r O (R.ix (α:=File) (h.ul I) c9 O O O) (Lw.fa O (Lw.r O (R.ld O O (File.at0 ((h.ul I).at_ c9)).str) (cr Y (fun _=>p155 (d.ul I)) ?_)))
    rintro L _ da Y a7 ⟨D,rfl,ez⟩
    have gd:=ez.sub (M:=[0]) O
    have e0:=I.n a7
    refine mv (.tuple [D,vB L.2].toArray) O (Lw.r O (R.ext (vs:=[D,vB L.2]) (v:=D) O O) (Lw.r O (R.ext (vs:=[D,vB L.2]) (v:=vB L.2) O O) (Gv D O (Nb O (sr (Nb O (ssr (Ni O (Cw.block ?_)))))))))
    obtain⟨e1,e2,Y⟩:=zaY Y
    refine Cw.loop 116 134 [14,15] (fun m l w=> ∃ N x P,CW.w P=w/\Le [] da P/\l=[vB N,vI x]/\Vm.zdB x1 k ah H e1 m N x=some r) _ ⟨false,0,da,O,Le.refl _ _,O,Y⟩ ?_
    rintro(_ |gf) _ _ σ ⟨N,x,P,rfl,Q,rfl,Y⟩
    ·cases Y
    unfold Vm.zdB at Y
    have db:=e0.n Q
    have b3:=(c8.up a7).up Q
    refine ssr (mi O (mi O (Lw.lt O (nl (cn Y (fun Y=>?_) fun Y=>?_)))))
    ·refine sk (Cw.seq (Cw.block (Cw.draw [] [(0,0),(1,0),(2,0),(3,0),(4,0),(5,0),(6,1),(7,0),(8,0),(9,0),(10,0),(11,1),(12,0),(13,0),(14,0)] mixed (by kernel_rfl) fun dc a8=>?_)))
     have b4:=db.n a8
     have b5:=b3.up a8
     refine Db O (Db O (bs Y (fun a Y=>?_) fun a Y=>?_))
     ·exact dps 11 a O (Mw.p O O (fun _=>R.pk a O (v:=vB true) O) (Hb O (Mw.nil (rg (mi O (Lw.add O (Ni O ((agm) ⟨true,w64 (x+1),dc,O,(Q.j a8).w,O,Y⟩))))))))
     ·refine Wp a O (fun _=>R.mv (v:=i) O) (Wp a O (fun _=>R.mv (v:=vI x) O) ?_)
      obtain⟨dd,b6,Y⟩:=ob Y
      refine Wp a O (fun _=>R.ix (α:=Change) b5.rd b6 O O O) (Wp a O (fun _=>R.fa O) (Wq a O (fun _ c=>R.ld O O (zaq (Change.at2 (b5.rd.at_ b6)).1 O (Change.at2 (b5.rd.at_ b6)).str c)) (Wp a O (fun _=>R.mv (v:=f) O) (Wp a O (fun _=>R.mv (v:=vI H) O) ?_))))
      obtain⟨de,b7,Y⟩:=ob Y
      exact Wp a O (fun _=>R.ix (α:=File) (h.ul b4) b7 O O O) (Wp a O (fun _=>R.fa O) (Wq a O (fun _ c=>R.ld O O (zaq (File.at0 ((h.ul b4).at_ b7)).1 O (File.at0 ((h.ul b4).at_ b7)).str c)) (Wp a O (fun _=>R.seq O O) (Mw.p O O (fun _=>R.pk a O (v:=vB (dd.To==de.Path)) O) (Hb O (Mw.nil (rg (mi O (Lw.add O (Ni O ((agm) ⟨(dd.To==de.Path),w64 (x+1),dc,O,(Q.j a8).w,O,Y⟩)))))))))))
    ·refine Cw.exit ?_
     rw[e2]at Y
     obtain⟨e3,e4,Y⟩:=zaY Y
     refine Cw.join 135 140 [140] (fun l w=> ∃ b8 a9,CW.w a9=w/\Le [] P a9/\l=[vB b8]/\e3 b8=some r) ?_ ?_
     ·rintro _ _ σ ⟨b8,a9,rfl,ak,rfl,Y⟩
      rw[e4]at Y
      have e5:=db.n ak
      refine cn Y (fun Y=>?_) fun Y=>?_
      ·refine Cw.draw [2,8] [(0,0),(1,0),(2,0),(3,0),(4,0),(5,1),(7,0),(8,0),(9,0),(10,0),(11,1),(6,2),(12,2),(13,0),(14,2),(15,2),(16,0)] mixed (by kernel_rfl) fun gg b9=>?_
       have e6:=e5.n b9
       refine Dv i O (Dv f O (Di O ?_))
       obtain⟨am,cb,Y⟩:=ob Y
       have S:=h.ul e6
       refine Mw.p O O (fun _=>R.ix (α:=File) S cb O O O) (Df O (Mw.q O O (fun _ c=>R.ld O O (zaq (File.at0 (S.at_ cb)).1 O (File.at0 (S.at_ cb)).str c)) (Dv f O (Di O ?_))))
       obtain⟨gh,cc,Y⟩:=ob Y
       refine Mw.p O O (fun _=>R.ix (α:=File) S cc O O O) (Df O ?_)
       obtain⟨gj,c203,r204⟩:=(File.at1 (S.at_ cc)).cell O
       refine Mw.q O O (fun _ c=>R.ld O O (zaq (File.at1 (S.at_ cc)).1 O c203 c)) (Mw.t O O (T.lit0 (α:=Str) 8 []) ?_)
       rintro gk _ ⟨gm,rfl,ba,e7⟩
       have e8:=ba.o
       refine m0 ba fun e9=>?_
       obtain⟨fb,fc,Y⟩:=ob Y
       refine Mw.t O O (T.appP (α:=Str) e7 (r204.ul e8) O O fc) ?_
       rintro bb _ ⟨gn,rfl,cd,df⟩
       refine mc e9 cd fun fd=>Mw.p O O (fun _=>R.bd (zs:=[vI 0,vS ([]:Str),vS ([]:Str), .slice none 0 0, .slice none 0 0]) (cs:=[vI 1,vS am.Path,vS ([]:Str),bb, .slice none 0 0]) [(0,vI 1),(1,vS am.Path),(3,bb)] O O O (zaA O O (zaA O O (zaA df.oc O zc8)))) (Mw.t O O (T.bs 9 [.agg [vI 1,vS am.Path,vS ([]:Str),bb, .slice none 0 0].toArray] (cs:=[vI 1,vS am.Path,vS ([]:Str),bb, .slice none 0 0]) O O (bsA O)) ?_)
       rintro _ _ ⟨go,gr,rfl,rfl,bc,fe⟩
       refine mc fd bc fun ff=>?_
       obtain⟨fg,fh,Y⟩:=ob Y
       refine Mw.t O O (T.app1 (α:=Change) (J:=[8]) (K':=[]) (((((b3.up ak).up b9).up ba).up cd).up bc) fe (Change.own 1 am.Path ([]:Str) fb ([]:List Hunk) (df.up bc).s (zp0 [])) O O fh) ?_
       rintro dg _ ⟨fi,rfl,dh,fj⟩
       exact mc ff dh fun gs=>Hv dg O (Mw.nil ((ag) ⟨fg,dg,D,vB L.2,vB N,vI x,fi,O,(((((((a7.j Q).j ak).j b9).j ba).j cd).j bc).j dh).w,O,fj,Y⟩))
      ·exact sk ((ag) ⟨ah,i,D,vB L.2,vB N,vI x,a9,O,((a7.j Q).j ak).w,O,(b3.up ak),Y⟩)
     ·refine rg (mb O (Lw.r O (R.not O) (mb O (bs Y (fun an Y=>?_) fun an Y=>?_))))
      ·exact wak 2 an (mb O (Lw.r O (R.not O) (Pb an O (nl ((ag) ⟨(!N),P,O,Le.refl _ _,O,Y⟩)))))
      ·exact psk 2 an O (Pb an O (nl ((ag) ⟨false,P,O,Le.refl _ _,O,Y⟩)))
  ·refine Cw.exit ?_
   rw[et]at Y
   refine sr (mv i O (Nv i O ?_))
   cases Y
   exact Cw.ret (zik O (Res.mk I ⟨i,O,c8.s.sub O O⟩))
theorem p166 {x0 b x1 d k0 r}(f:Rd W K [b] x0)(h:Rd W K [d] x1)(Y:Vm.zi1 x0 x1=some r):Q1 166 [b,d] W [] fun W' v=> ∃ a,v=a/\Ow W' k0 [] [a] r:=
 (c166 (f.view _) (h.view _) Y).ad (fk k0) fun _ _ ⟨a,e,i⟩=>⟨a,e,i.back (zgv _)⟩
end Go.Sx
