/- Walks: each function answers as its model, printed by a program of ours. Conditions: the arguments read as they are given. -/
import Derived.Test.YtpijdodljeieaaaGreatDoorBTs
import Derived.Test.YtpijdodljeieaaaGreatDoorBM9
import Derived.Test.YtpijdodljeieaaaGreatDoorBW6
import Derived.Test.YtpijdodljeieaaaGreatDoorBW7
import Derived.Test.YtpijdodljeieaaaGreatDoorBW8
namespace Go.Sx
open Go Go.Proofs Go.Vm Rp
set_option linter.unusedVariables false
set_option linter.unusedSimpArgs false
variable {W W0:CW}{K:List Nat}
theorem c104 {x0 I J r}(h0:Rd W0 [0] [I,J] x0)(Y:Vm.zgy x0=some r):Q0 104 [.agg [I,J].toArray] W0 fun Wf v=> ∃ L,v=L/\OwS Wf LL [] [L] r:=by
 unfold Vm.zgy at Y
 obtain⟨a6,a8,M,N,d⟩:=Repo.split h0
 simp only[List.cons.injEq,and_true,true_and]at M
 obtain⟨rfl,rfl⟩:=M
 refine zaT.of Tryz.func104 O O O O (sr (bo 2 O fun g1 W1 l1 B=>?_))
 have P:=l1.o
 refine Nv (.slice none 0 0) O (sr (fl B O (Lw.ln x0.Commits (N.ul P) O ?_)))
 obtain⟨q4,e5,Y⟩:=ob Y
 refine Lw.t O (T.mk (α:=Bool) 3 [] (n:=(x0.Commits.length:Int)) O O e5) ?_
 rintro a _ ⟨Q,rfl,C,o6⟩
 have S:=P.n C
 refine Nv a O (ssr (fl (B.up C) O (Lw.ln x0.Heads (d.ul S) O (mi O (nl (Cw.block ?_))))))
 obtain⟨an,ao,Y⟩:=zc4 Y
 refine Cw.loop 15 33 [5,7,15] (fun m l w=> ∃ e f U D h,CW.w h=w/\Le [3,4] Q h/\l=[U,D,vI e]/\Ow h 3 [] [a] f/\Vm.zce x0 an m e f=some r) _ ⟨0,q4,undef,undef,Q,O,Le.refl _ _,O,o6,Y⟩ ?_
 rintro(_ |bb) _ _ σ ⟨e,f,U,D,h,rfl,E,rfl,V,Y⟩
 ·cases Y
 unfold Vm.zce at Y
 have i:=S.t E
 refine sr (Lw.lt O (nl (Cw.seq (cn Y (fun Y=>?_) fun Y=>?_))))
 ·refine sk (Cw.seq (Cw.block (sr ?_)))
  obtain⟨bc,W,Y⟩:=ob Y
  refine Lw.r O (R.ix (α:=Head) (d.ul i) W O O O) ?_
  obtain⟨x24,c25,_,r26⟩:=((d.ul i).at_ W).cells
  obtain rfl:=Head.split r26
  refine Lw.r O (R.lda c25 O O) (al 4 [vS ([]:Str),vI 0] fun ap be k aq=>?_)
  have ar:=i.n k
  refine sta aq (zaf O (zaf O zaW)) fun bg x au=>?_
  have X:=ar.t x
  refine nl (sr (la ((((B.up C).up E).up k).up x) (fl au O (cr Y (fun _=>p108 (k0:=5) (Repo.rd (K:=[0]) x0.Commits x0.Heads (N.ul X) (d.ul X))) ?_))))
  rintro bh bi bj Y Z ⟨_,rfl,av⟩
  refine cr Y (fun _=>p103 (K:=[5]) (k0:=6) av.rd) ?_
  rintro aa bk ac Y ae ⟨_,rfl,F⟩
  refine Lw.ln aa F.rd O (mi O (nl (Cw.block ?_)))
  obtain⟨aw,ax,Y⟩:=zc4 Y
  refine Cw.loop 25 32 [7,25] (fun m l w=> ∃ y z G b,CW.w b=w/\Le [3] ac b/\l=[G,vI y]/\Ow b 3 [] [a] z/\Vm.zdr aa aw m y z=some r) _ ⟨0,f,D,ac,O,Le.refl _ _,O,((((V.up k).up x).up Z).up ae),Y⟩ ?_
  rintro(_ |bl) _ _ σ ⟨y,z,G,b,rfl,A,rfl,H,Y⟩
  ·cases Y
  unfold Vm.zdr at Y
  refine sr (Lw.lt O (nl (Cw.seq (cn Y (fun Y=>?_) fun Y=>?_))))
  ·refine sk (Cw.seq (Cw.block (sr ?_)))
   obtain⟨ay,af,Y⟩:=ob Y
   refine Lw.r O (R.ix (α:=Int) (F.up A).rd af O O O) (Lw.r O (R.ld O O ((F.up A).rd.at_ af).int) (Ni O (rg (mv a O (mi O ?_)))))
   obtain⟨bm,az,Y⟩:=ob Y
   refine Lw.r O (R.ix (α:=Bool) H.rd az O O O) ?_
   obtain⟨a0,a1,Y⟩:=ob Y
   refine Lw.u (T.stS (K':=[]) H (rdB _) a1 O O O) ?_
   rintro _ _ ⟨a3,rfl,a4,a5⟩
   exact nl (rg (Lw.add O (mi O (nl ((agm) ⟨w64 (y+1),a0,vI ay,a3,O,(A.j a4).w,O,a5,Y⟩)))))
  ·refine Cw.exit ?_
   rw[ax]at Y
   exact rg (Lw.add O (mi O (nl ((agm) ⟨w64 (e+1),z,ptr (bx ap),G,b,O,(((((E.j k).j x).j Z).j ae).j A).w,O,H,Y⟩))))
 ·refine Cw.exit ?_
  rw[ao]at Y
  refine sr (mv a O (Nv a O ?_))
  cases Y
  exact Cw.ret (zmk O (Res.mk i ⟨a,O,V.s.sub O O⟩))
theorem p104 {x0 b d k0 r}(f:Rd W K [b,d] x0)(Y:Vm.zgy x0=some r):Q1 104 [.agg [b,d].toArray] W [] fun W' v=> ∃ a,v=a/\Ow W' k0 [] [a] r:=
 (c104 (f.view _) Y).ad (fk k0) fun _ _ ⟨a,e,h⟩=>⟨a,e,h.back (zlS _)⟩
theorem c39 {x0 a D r}(h0:Rd W0 [0] [a,D] x0)(d2:Gl 0 W0 [0])(Y:Vm.zgd x0=some r):Q0 39 [.agg [a,D].toArray] W0 fun Wf v=> ∃ cq ct,v = .agg [cq,ct].toArray/\OwS Wf [31] [] [cq] r.Commits/\OwS Wf [32] [] [ct] r.Heads:=by
 unfold Vm.zgd at Y
 obtain⟨f9,ga,cu,k,E⟩:=Repo.split h0
 simp only[List.cons.injEq,and_true,true_and]at cu
 obtain⟨rfl,rfl⟩:=cu
 refine zaT.of Tryz.func39 O O O O (sr (bo 2 O fun g1 W1 l1 b1=>?_))
 have a2:=l1.o
 refine al 3 [.slice none 0 0, .slice none 0 0] fun g3 W3 l3 b3=>?_
 have a4:=a2.n l3
 refine nl (ssr (la (b1.up l3) (ca Y (fun _=>p32 (Repo.rd (K:=[0]) x0.Commits x0.Heads (k.ul a4) (E.ul a4)) (d2.ul a4)) fun z9 gg Y ar=>?_)))
 have bc:=a4.n ar
 have cx:=(b1.up l3).up ar
 refine Lw.r O (R.not O) (nl (cn Y (fun Y=>?_) fun Y=>?_))
 ·refine sr (Lw.r O (R.bd (zs:=[.slice none 0 0, .slice none 0 0]) (cs:=[.slice none 0 0, .slice none 0 0]) [] O O O zg2) (sta (b3.up ar) (zaf O (zaf O zaW)) fun gh d5 d6=>?_))
  have d7:=bc.t d5
  refine nl ?_
  cases Y
  exact Cw.ret (zoh O d6 (Res.mk d7 ⟨.slice none 0 0, .slice none 0 0,O,(zp1 []).sub O O,(zp1 []).sub O O⟩))
 ·refine sk (sr (fl cx O (Lw.ln x0.Commits (k.ul bc) O ?_)))
  obtain⟨d8,d9,Y⟩:=ob Y
  refine Lw.t O (T.mk (α:=Int) 4 [] (n:=(x0.Commits.length:Int)) O O d9) ?_
  rintro Q _ ⟨gj,rfl,be,ea⟩
  have eb:=bc.n be
  refine Nv Q O (sr (al 5 [.slice none 0 0, .slice none 0 0] fun cy gk au ec=>?_))
  have bg:=eb.n au
  have cz:=(cx.up be).up au
  refine nl (ssr (la cz (cr Y (fun _=>p104 (k0:=6) (Repo.rd (K:=[0]) x0.Commits x0.Heads (k.ul bg) (E.ul bg))) ?_)))
  rintro gm gn go Y S ⟨_,rfl,ed⟩
  have ee:=bg.n S
  refine cr Y (fun _=>p103 (K:=[6]) (k0:=7) ed.rd) ?_
  rintro c0 gr c1 Y U ⟨_,rfl,bh⟩
  have ef:=ee.n U
  refine Lw.ln c0 bh.rd O (mi O (nl (Cw.block ?_)))
  obtain⟨eg,eh,Y⟩:=zc4 Y
  refine Cw.loop 24 72 [6,7,9,24] (fun m l w=> ∃ av V X aw c2 c3 bi ax Z i,CW.w i=w/\Le [4,5,8,10,11,12] c1 i/\l=[c2,c3,bi,vI av]/\Ow i 8 [] [ax] V/\Ow i 9 [] [Z] X/\Bx i 5 cy [ax,Z]/\Ow i 4 [] [Q] aw/\Vm.zcJ x0 c0 eg m av V X aw=some r) _ ⟨0,([]:List Commit),([]:List Head),d8,undef,undef,undef, .slice none 0 0, .slice none 0 0,c1,O,Le.refl _ _,O,owN 8 [],owN 9 [],((ec.up S).up U),(((ea.up au).up S).up U),Y⟩ ?_
  rintro(_ |gs) _ _ σ ⟨av,V,X,aw,c2,c3,bi,ax,Z,i,rfl,F,rfl,bj,c4,bk,bl,Y⟩
  ·cases Y
  unfold Vm.zcJ at Y
  have bm:=ef.t F
  have c5:=((cz.up S).up U).up F
  refine sr (Lw.lt O (nl (Cw.seq (cn Y (fun Y=>?_) fun Y=>?_))))
  ·refine sk (Cw.seq (Cw.block (sr ?_)))
   obtain⟨b,c6,Y⟩:=ob Y
   refine Lw.r O (R.ix (α:=Int) (bh.up F).rd c6 O O O) (Lw.r O (R.ld O O ((bh.up F).rd.at_ c6).int) (Ni O (sr (mv Q O (mi O (fl bk O (Lw.ln V bj.rd O ?_)))))))
   obtain⟨gu,ei,Y⟩:=ob Y
   refine Lw.r O (R.ix (α:=Int) bl.rd ei O O O) ?_
   obtain⟨c7,ej,Y⟩:=ob Y
   refine Lw.u (T.stS (K':=[]) bl (rdI _) ej O O O) ?_
   rintro _ _ ⟨gv,rfl,G,ek⟩
   have el:=bm.t G
   refine nl (Cw.seq ?_)
   obtain⟨d,c8,Y⟩:=ob Y
   obtain⟨aa,em,Y⟩:=ob Y
   obtain⟨H,en,Y⟩:=ob Y
   refine Cw.par [[],[0],[],[0,1,2],[0,1,2,3],[0,1,2,3,4],[],[],[6,7],[6,7,8],[0,1,2,3,4,5,6,7,8,9],[],[0,1,2,3,4,5,6,7,8,9,10,11]] [[],[0],[],[1,2],[3],[4],[],[],[6,7],[8],[5,9],[],[9,10,11]] [[],[],[],[],[],[],[],[],[],[],[],[],[11]] [[0],[1],[2],[3],[4],[5],[6],[7],[8],[9],[9,10],[11],[9,11]] [[],[],[],[],[],[],[],[],[0],[10],[],[11],[11]] [0,1,2,3,4,5,6,7,8,9,10,12] [11] [fun vs W=>(vs 0)=ptr ((bx g1).add 0),fun vs W=>(vs 1)=a,fun vs W=>(vs 2)=vI b,fun vs W=>(vs 3)=ptr ((slA a).add ((b).toNat*Rp.sz (Commit))),fun vs W=>(vs 4)=ptr (((slA a).add ((b).toNat*Rp.sz (Commit))).add 1),fun vs W=>(vs 5)=vS d.Who,fun vs W=>(vs 6) = .agg [a,D].toArray,fun vs W=>(vs 7)=vI b,fun vs W=>Rd W [0] [(vs 8)] aa,fun vs W=>Ow W 10 [] [(vs 9)] H,fun vs W=>(vs 10) = .agg [.slice none 0 0,vS d.Who,(vs 9)].toArray,fun vs W=>(vs 11)=ptr (bx (pg (vs 11)))/\Bx W 11 (pg (vs 11)) [.slice none 0 0,vS ([]:Str), .slice none 0 0],fun vs W=>(vs 11)=ptr (bx (pg (vs 11)))/\Bx W 11 (pg (vs 11)) [.slice none 0 0,vS d.Who,(vs 9)]] [] mixed (by kernel_rfl) O zrc.nil ?_
   intro gw x
   have ay:=el.n x
   have bn:=(c5.up G).up x
   refine⟨(zc2.cons ?_ (zc2.cons ?_ (zc2.cons ?_ (zc2.cons ?_ (zc2.cons ?_ (zc2.cons ?_ (zc2.cons ?_ (zc2.cons ?_ (zc2.cons ?_ (zc2.cons ?_ (zc2.cons ?_ (zc2.cons ?_ (zc2.cons ?_ zc2.nil))))))))))))),(zhD.cons SE (zhD.cons SE (zhD.cons SE (zhD.cons SE (zhD.cons SE (zhD.cons SE (zhD.cons SE (zhD.cons SE (zhD.cons (fun vs vs' W W' _ hv l hd h=>by(show Rd W' [0] [(vs' 8)] aa);rw[hv 8 (zbB O)];exact h.up l (zmi hd (K:=[0]) O)) (zhD.cons SO (zhD.cons (fun vs vs' W W' _ hv l hd h=>by(show(vs' 10) = .agg [.slice none 0 0,vS d.Who,(vs' 9)].toArray);rw[hv 9 (zbB O),hv 10 (zbB O)];exact h) (zhD.cons (fun vs vs' W W' _ hv l hd h=>by(show(vs' 11)=ptr (bx (pg (vs' 11)))/\Bx W' 11 (pg (vs' 11)) [.slice none 0 0,vS ([]:Str), .slice none 0 0]);rw[hv 11 (zbB O)];exact⟨h.1,h.2.up l (zgn hd (c:=11) O)⟩) (zhD.cons (fun vs vs' W W' _ hv l hd h=>by(show(vs' 11)=ptr (bx (pg (vs' 11)))/\Bx W' 11 (pg (vs' 11)) [.slice none 0 0,vS d.Who,(vs' 9)]);rw[hv 9 (zbB O),hv 11 (zbB O)];exact⟨h.1,h.2.up l (zgn hd (c:=11) O)⟩) zhD.nil))))))))))))),?_⟩
   ·intro vs gx lW hN hV
    exact Trq (R.fa O) O
   ·intro vs gy lW hN hV
    have bp:vs 0=ptr ((bx g1).add 0):=(hN 0 (zbB O))
    obtain⟨vs,rfl⟩:=za1 bp
    exact Trq (R.ld (v:=a) O O ((bn.up lW O).cell O)) O
   ·intro vs gz lW hN hV
    exact Trq (R.mv (v:=vI b) O) O
   ·intro vs g0 lW hN hV
    have eo:=ay.t lW O
    have bq:vs 1=a:=(hN 1 (zbB O))
    obtain⟨vs,rfl⟩:=za1 bq
    have br:vs 2=vI b:=(hN 2 (zbB O))
    obtain⟨vs,rfl⟩:=za1 br
    exact Trq (R.ix (α:=Commit) (k.ul eo) c8 O O O) O
   ·intro vs g2 lW hN hV
    have bu:vs 3=ptr ((slA a).add ((b).toNat*Rp.sz (Commit))):=(hN 3 (zbB O))
    obtain⟨vs,rfl⟩:=za1 bu
    exact Trq (R.fa O) O
   ·intro vs g4 lW hN hV
    have ep:=ay.t lW O
    have bv:vs 4=ptr (((slA a).add ((b).toNat*Rp.sz (Commit))).add 1):=(hN 4 (zbB O))
    obtain⟨vs,rfl⟩:=za1 bv
    exact Trq (R.ld O O (Commit.at1 ((k.ul ep).at_ c8)).str) O
   ·intro vs g5 lW hN hV
    exact Trq (R.lda (cs:=[a,D]) (bn.up lW O).cells O O) O
   ·intro vs g6 lW hN hV
    exact Trq (R.mv (v:=vI b) O) O
   ·intro vs g7 lW hN hV
    have c9:=ay.t lW O
    have bw:vs 6 = .agg [a,D].toArray:=(hN 6 (zbB O))
    obtain⟨vs,rfl⟩:=za1 bw
    have bz:vs 7=vI b:=(hN 7 (zbB O))
    obtain⟨vs,rfl⟩:=za1 bz
    refine Tr.mono (T.call O (p100 (Repo.rd (K:=[0]) x0.Commits x0.Heads (k.ul c9) (E.ul c9)) em)) ?_
    rintro er _ ⟨da,rfl,es,⟨_,rfl,et⟩⟩
    have eu:=et.sub (M:=[0]) O
    exact⟨da,O,es,(show Rd da [0] [er] aa from eu)⟩
   ·intro vs ew lW hN hV
    obtain⟨b0,b2⟩: ∃ v,vs 8=v:=⟨_,O⟩
    obtain⟨vs,rfl⟩:=za1 b2
    have ex:Rd ew [0] [b0] aa:=(hN 8 (zbB O))
    refine Tr.mono (T.call O (p99 (k0:=10) ex en)) ?_
    rintro ey _ ⟨db,rfl,ez,⟨_,rfl,e0⟩⟩
    exact⟨db,O,ez,(show Ow db 10 [] [ey] H from e0)⟩
   ·intro vs e1 lW hN hV
    have b4:vs 5=vS d.Who:=(hN 5 (zbB O))
    obtain⟨vs,rfl⟩:=za1 b4
    obtain⟨e,ac⟩: ∃ v,vs 9=v:=⟨_,O⟩
    obtain⟨vs,rfl⟩:=za1 ac
    have e2:Ow e1 10 [] [e] H:=(hN 9 (zbB O))
    exact Trq (R.bd (zs:=[.slice none 0 0,vS ([]:Str), .slice none 0 0]) (cs:=[.slice none 0 0,vS d.Who,e]) [(1,vS d.Who),(2,e)] O O O (zcK O O (zcK e2.oc O zg2))) O
   ·intro vs g8 lW hN hV
    refine Tr.mono (T.alloc 11 (cs:=[.slice none 0 0,vS ([]:Str), .slice none 0 0]) O) ?_
    rintro _ _ ⟨b5,dc,rfl,rfl,e3,e4⟩
    exact⟨dc,O,e3,(show(ptr (bx b5):Value)=ptr (bx b5)/\Bx dc 11 b5 [.slice none 0 0,vS ([]:Str), .slice none 0 0] from⟨O,e4⟩)⟩
   ·intro vs dd lW hN hV
    obtain⟨e,ac⟩: ∃ v,vs 9=v:=⟨_,O⟩
    obtain⟨vs,rfl⟩:=za1 ac
    have e5:Ow dd 10 [] [e] H:=(hN 9 (zbB O))
    have b6:vs 10 = .agg [.slice none 0 0,vS d.Who,e].toArray:=(hN 10 (zbB O))
    obtain⟨vs,rfl⟩:=za1 b6
    obtain⟨f,b7⟩: ∃ f,vs 11=ptr (bx f):=⟨_,((hN 11 (zbB O))).1⟩
    obtain⟨vs,rfl⟩:=za1 b7
    have e6:Bx dd 11 f [.slice none 0 0,vS ([]:Str), .slice none 0 0]:=(hN 11 (zbB O)).2
    refine Tr.mono (T.sta (vs:=[.slice none 0 0,vS d.Who,e]) e6 O O (zaf O (zaf O (zaf e5.oc zaW))) O O) ?_
    rintro _ _ ⟨de,rfl,e7,e8⟩
    exact⟨de,O,e7,(show(ptr (bx f))=ptr (bx f)/\Bx de 11 f [.slice none 0 0,vS d.Who,e] from⟨O,e8⟩)⟩
   ·intro vs ae y hN
    have df:=ay.t y
    have bp:vs 0=ptr ((bx g1).add 0):=(hN 0 (zbB O))
    obtain⟨vs,rfl⟩:=za1 bp
    have bq:vs 1=a:=(hN 1 (zbB O))
    obtain⟨vs,rfl⟩:=za1 bq
    have br:vs 2=vI b:=(hN 2 (zbB O))
    obtain⟨vs,rfl⟩:=za1 br
    have bu:vs 3=ptr ((slA a).add ((b).toNat*Rp.sz (Commit))):=(hN 3 (zbB O))
    obtain⟨vs,rfl⟩:=za1 bu
    have bv:vs 4=ptr (((slA a).add ((b).toNat*Rp.sz (Commit))).add 1):=(hN 4 (zbB O))
    obtain⟨vs,rfl⟩:=za1 bv
    have b4:vs 5=vS d.Who:=(hN 5 (zbB O))
    obtain⟨vs,rfl⟩:=za1 b4
    have bw:vs 6 = .agg [a,D].toArray:=(hN 6 (zbB O))
    obtain⟨vs,rfl⟩:=za1 bw
    have bz:vs 7=vI b:=(hN 7 (zbB O))
    obtain⟨vs,rfl⟩:=za1 bz
    obtain⟨b0,b2⟩: ∃ v,vs 8=v:=⟨_,O⟩
    obtain⟨vs,rfl⟩:=za1 b2
    have g9:Rd ae [0] [b0] aa:=(hN 8 (zbB O))
    obtain⟨e,ac⟩: ∃ v,vs 9=v:=⟨_,O⟩
    obtain⟨vs,rfl⟩:=za1 ac
    have e9:Ow ae 10 [] [e] H:=(hN 9 (zbB O))
    have b6:vs 10 = .agg [.slice none 0 0,vS d.Who,e].toArray:=(hN 10 (zbB O))
    obtain⟨vs,rfl⟩:=za1 b6
    obtain⟨f,b7⟩: ∃ f,vs 11=ptr (bx f):=⟨_,(hN 12 (zbB O)).1⟩
    obtain⟨vs,rfl⟩:=za1 b7
    have fb:Bx ae 11 f [.slice none 0 0,vS d.Who,e]:=(hN 12 (zbB O)).2
    refine ssr (fl (bn.up y) O (mi O ?_))
    obtain⟨dg,dh,Y⟩:=ob Y
    refine Lw.r O (R.ix (α:=Commit) (k.ul df) dh O O O) (Lw.fa O ?_)
    obtain⟨ha,c355,r356⟩:=(Commit.at0 ((k.ul df).at_ dh)).cell O
    refine Lw.r O (R.ld O O c355) (Lw.ln dg.Parents r356 O (mi O (nl (Cw.block ?_))))
    obtain⟨fc,fd,Y⟩:=zc4 Y
    refine Cw.loop 52 65 [9,52] (fun m l w=> ∃ az a0 z af b8 ah I L,CW.w L=w/\Le [11,12] ae L/\l=[b8,vI az]/\Ow L 12 [] [ah] a0/\Ow L 10 [] [I] af/\Bx L 11 f [ah,vS z,I]/\Vm.zcI c7 dg fc m az a0 z af=some r) _ ⟨0,([]:List Int),d.Who,H,bi, .slice none 0 0,e,ae,O,Le.refl _ _,O,owN 12 [],e9,fb,Y⟩ ?_
    rintro(_ |hb) _ _ σ ⟨az,a0,z,af,b8,ah,I,L,rfl,A,rfl,di,dj,b9,Y⟩
    ·cases Y
    unfold Vm.zcI at Y
    have dk:=A.s
    have dl:=((ek.up x).up y).up A
    have dm:=(((bk.up G).up x).up y).up A
    refine sr (Lw.lt O (nl (Cw.seq (cn Y (fun Y=>?_) fun Y=>?_))))
    ·refine sk (Cw.seq (Cw.block (sr ?_)))
     obtain⟨fe,dn,Y⟩:=ob Y
     refine Lw.r O (R.ix (α:=Int) (r356.ul dk) dn O O O) (Lw.r O (R.ld O O ((r356.ul dk).at_ dn).int) (Ni O (Cw.draw [] [(0,0),(1,1),(2,0),(3,0),(4,0),(5,1),(6,2),(7,3),(8,0),(9,3)] mixed (by kernel_rfl) fun hc N=>?_)))
     have cb:=dl.up N
     refine Dfl (b9.up N) O O O (Dv Q O (Di O ?_))
     obtain⟨dp,cc,Y⟩:=ob Y
     refine Mw.p O O (fun _=>R.ix (α:=Int) cb.rd cc O O O) (Mw.q O O (fun _ c=>R.ld O O (zaD (cb.rd.at_ cc).1 O (cb.rd.at_ cc).int c)) (Mw.t O O (T.bs 13 [vI dp] (cs:=[vI dp]) O O (bsv O)) ?_))
     rintro _ _ ⟨he,hf,rfl,rfl,ai,ff⟩
     refine m0 ai fun hg=>?_
     obtain⟨fg,fh,Y⟩:=ob Y
     refine Mw.l O O (T.app1S (α:=Int) (K':=[]) ((di.up N).up ai) ff (rdI _) O O fh) ?_
     rintro dq _ ⟨hh,rfl,cd,dr⟩
     refine Df O (Mw.lu O (T.st (j:=0) (v:=dq) (((b9.up N).up ai).up cd) O O dr.oc O O) ?_)
     rintro _ _ ⟨fi,rfl,ce,fj⟩
     exact Mw.nil (rg (Lw.add O (mi O (nl ((agm) ⟨w64 (az+1),fg,z,af,vI fe,dq,I,fi,O,((((A.j N).j ai).j cd).j ce).w,O,(dr.up ce),((((dj.up N).up ai).up cd).up ce),fj,Y⟩)))))
    ·refine Cw.exit ?_
     rw[fd]at Y
     refine rg (fl dm O (la b9 (Lw.t O (T.bs 14 [.agg [ah,vS z,I].toArray] (cs:=[ah,vS z,I]) O O (bsA O)) ?_)))
     rintro _ _ ⟨hi,hj,rfl,rfl,B,fm⟩
     obtain⟨fn,fo,Y⟩:=ob Y
     refine Lw.t O (T.app1 (α:=Commit) (J:=[12,10]) (K':=[]) (((((bj.up G).up x).up y).up A).up B) fm (Commit.own a0 z af (di.up B).s (dj.up B).s) O O fo) ?_
     rintro ds _ ⟨hk,rfl,a1,dt⟩
     refine Lw.fa O (Lw.u (T.st (j:=0) (v:=ds) ((dm.up B).up a1) O O dt.oc O O) ?_)
     rintro _ _ ⟨fp,rfl,a3,fq⟩
     exact nl (rg (Lw.add O (mi O (nl ((agm) ⟨w64 (av+1),fn,X,c7,vI b,ptr (bx f),b8,ds,Z,fp,O,(((((((F.j G).j x).j y).j A).j B).j a1).j a3).w,O,(dt.up a3),(((((((c4.up G).up x).up y).up A).up B).up a1).up a3),fq,(((dl.up B).up a1).up a3),Y⟩)))))
  ·refine Cw.exit ?_
   rw[eh]at Y
   refine ssr (fl c5 O (Lw.ln x0.Heads (E.ul bm) O (mi O (nl (Cw.block ?_)))))
   obtain⟨fr,fs,Y⟩:=zc4 Y
   refine Cw.loop 76 93 [11,76] (fun m l w=> ∃ a5 a6 cf du aj a7 P,CW.w P=w/\Le [5,9,15] i P/\l=[du,vI a5]/\Ow P 8 [] [aj] a6/\Ow P 9 [] [a7] cf/\Bx P 5 cy [aj,a7]/\Vm.zbH x0 aw fr m a5 a6 cf=some r) _ ⟨0,V,X,undef,ax,Z,i,O,Le.refl _ _,O,bj,c4,bk,Y⟩ ?_
   rintro(_ |hl) _ _ σ ⟨a5,a6,cf,du,aj,a7,P,rfl,a8,rfl,cg,ch,dv,Y⟩
   ·cases Y
   unfold Vm.zbH at Y
   have ci:=bm.t a8
   refine sr (Lw.lt O (nl (Cw.seq (cn Y (fun Y=>?_) fun Y=>?_))))
   ·refine sk (Cw.seq (Cw.block (sr ?_)))
    obtain⟨ak,dw,Y⟩:=ob Y
    refine Lw.r O (R.ix (α:=Head) (E.ul ci) dw O O O) ?_
    obtain⟨x499,c500,_,r501⟩:=((E.ul ci).at_ dw).cells
    obtain rfl:=Head.split r501
    refine Lw.r O (R.lda c500 O O) (al 15 [vS ([]:Str),vI 0] fun ft hn am fu=>sta fu (zaf O (zaf O zaW)) fun ho an dx=>nl (Cw.draw [9] [(0,0),(1,1),(2,0),(3,1),(4,0),(5,0),(6,1),(7,0),(8,1),(9,0),(10,2),(11,2),(12,0),(13,3)] mixed (by kernel_rfl) fun hp C=>?_))
    have cj:=(((bl.up a8).up am).up an).up C
    have dy:=((dv.up am).up an).up C
    refine Dfl dy O O O (Dfl (dx.up C) O O O (Dv Q O (Dfl (dx.up C) O O O ?_)))
    obtain⟨ao,ck,Y⟩:=ob Y
    refine Mw.p O O (fun _=>R.ix (α:=Int) cj.rd ck O O O) (Mw.q O O (fun _ c=>R.ld O O (zaD (cj.rd.at_ ck).1 O (cj.rd.at_ ck).int c)) (Mw.p O O (fun _=>R.bd (zs:=[vS ([]:Str),vI 0]) (cs:=[vS ak.Name,vI ao]) [(0,vS ak.Name),(1,vI ao)] O O O (zcK O O (zcK O O zg2))) (Mw.t O O (T.bs 16 [.agg [vS ak.Name,vI ao].toArray] (cs:=[vS ak.Name,vI ao]) O O (bsA O)) ?_)))
    rintro _ _ ⟨hq,hr,rfl,rfl,ap,fv⟩
    refine m0 ap fun fw=>?_
    obtain⟨fx,fy,Y⟩:=ob Y
    refine Mw.t O O (T.app1S (α:=Head) (K':=[]) ((((ch.up am).up an).up C).up ap) fv (Head.rd (K:=[]) ak.Name ao) O O fy) ?_
    rintro dz _ ⟨hs,rfl,a9,d0⟩
    refine mc fw a9 fun ht=>Df O (Mw.lu O (T.st (j:=1) (v:=dz) ((dy.up ap).up a9) O O d0.oc O O) ?_)
    rintro _ _ ⟨fz,rfl,cl,f0⟩
    exact Mw.nil (rg (Lw.add O (mi O (nl ((agm) ⟨w64 (a5+1),a6,fx,ptr (bx ft),aj,dz,fz,O,((((((a8.j am).j an).j C).j ap).j a9).j cl).w,O,((((((cg.up am).up an).up C).up ap).up a9).up cl),(d0.up cl),f0,Y⟩)))))
   ·refine Cw.exit ?_
    rw[fs]at Y
    refine sr (la dv (sta (((((((b3.up ar).up be).up au).up S).up U).up F).up a8) (zaf cg.oc (zaf ch.oc zaW)) fun hu cm f1=>?_))
    have f2:=ci.t cm
    refine nl ?_
    obtain⟨hw,f3,co,f4⟩:=(cg.up cm).dyeO 31
    have f5:=f2.t co
    obtain⟨hx,f6,cp,f7⟩:=((ch.up cm).up co).dyeO 32
    have f8:=f5.t cp
    cases Y
    rw[<- f6.trans (f3)]
    exact Cw.ret (zoh O ((f1.up co).up cp) (Res.mk f8 ⟨aj,a7,O,(f4.up cp).s,f7.s⟩))
theorem p39 {x0 d f k0 k1 r}(h:Rd W K [d,f] x0)(i:Gl 0 W K)(Y:Vm.zgd x0=some r):Q1 39 [.agg [d,f].toArray] W [] fun W' v=> ∃ a b,v = .agg [a,b].toArray/\Ow W' k0 [] [a] r.Commits/\Ow W' k1 [] [b] r.Heads:=
 zaT.adJ (J:=[]) (fun c=>bif Nat.beq c 0 then 0 else bif Nat.beq c 31 then k0 else bif Nat.beq c 32 then k1 else 0) (c39 (h.view _) (i.view _) Y) fun _ _ ⟨a,b,e,k,x⟩=>⟨a,b,e,k.one1.backN O,x.one1.backN O⟩
theorem c35 {x0 y z x1 r}(F:Rd W0 [0] [y,z] x0)(G:Gl 0 W0 [0])(Y:Vm.zge x0 x1=some r):Q0 35 [.agg [y,z].toArray,vI x1] W0 fun Wf v=> ∃ A,v = .tuple [A,vB r.2].toArray/\OwS Wf LL [] [A] r.1:=by
 unfold Vm.zge at Y
 obtain⟨ac,ae,B,f,h⟩:=Repo.split F
 simp only[List.cons.injEq,and_true,true_and]at B
 obtain⟨rfl,rfl⟩:=B
 refine zaT.of Tryz.func35 O O O O (sr (bo 2 O fun g1 H I i=>?_))
 have a:=I.o
 refine Gv (.slice none 0 0) O (Nb O (Cw.seq ?_))
 obtain⟨J,L,Y⟩:=zc4 Y
 refine Cw.join 6 14 [14] (fun l w=> ∃ k x,CW.w x=w/\Le [] H x/\l=[vB k]/\J k=some r) ?_ ?_
 ·rintro _ _ σ ⟨k,x,rfl,C,rfl,Y⟩
  rw[L]at Y
  have d:=a.n C
  refine cn Y (fun Y=>?_) fun Y=>?_
  ·refine sr (Gv (.slice none 0 0) O (Nb O ?_))
   cases Y
   exact Cw.ret (zqq O O (Res.mk d ⟨.slice none 0 0,O,(zp1 []).sub O O⟩))
  ·refine sk (sr (la (i.up C) (mi O (cr Y (fun _=>p100 (Repo.rd (K:=[0]) x0.Commits x0.Heads (f.ul d) (h.ul d))) ?_))))
   rintro ah ai aj Y N ⟨_,rfl,P⟩
   have Q:=P.sub (M:=[0]) O
   have S:=d.n N
   refine cr Y (fun _=>p99 (k0:=3) Q) ?_
   rintro ak D am Y T ⟨_,rfl,U⟩
   have V:=S.n T
   refine Gv D O (Nb O ?_)
   cases Y
   exact Cw.ret (zqq O O (Res.mk V ⟨D,O,U.s.sub O O⟩))
 ·refine rg (la i (ca Y (fun _=>p32 (Repo.rd (K:=[0]) x0.Commits x0.Heads (f.ul a) (h.ul a)) (G.ul a)) fun an W Y e=>?_))
  have E:=a.n e
  refine Lw.r O (R.not O) (mb O (bs Y (fun b Y=>?_) fun b Y=>?_))
  ·exact psk 4 b O (Pb b O (nl ((ag) ⟨true,W,O,e,O,Y⟩)))
  ·exact wak 4 b (la (i.up e) (mi O (ca Y (fun _=>p98 (Repo.rd (K:=[0]) x0.Commits x0.Heads (f.ul E) (h.ul E))) fun X Z Y aa=>Lw.r O (R.not O) (Pb b O (nl ((ag) ⟨(!X),Z,O,(e.j aa).w,O,Y⟩))))))
theorem p35 {x0 b d x1 k0 r}(f:Rd W K [b,d] x0)(h:Gl 0 W K)(Y:Vm.zge x0 x1=some r):Q1 35 [.agg [b,d].toArray,vI x1] W [] fun W' v=> ∃ a,v = .tuple [a,vB r.2].toArray/\Ow W' k0 [] [a] r.1:=
 (c35 (f.view _) (h.view _) Y).ad (fk k0) fun _ _ ⟨a,e,i⟩=>⟨a,e,i.back (zlS _)⟩
end Go.Sx
