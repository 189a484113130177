/- Walks: each function answers as its model, printed by a program of ours. Conditions: the arguments read as they are given. -/
import Derived.Test.YtpijdodljeieaaaGreatDoorATs
import Derived.Test.YtpijdodljeieaaaGreatDoorAM12
import Derived.Test.YtpijdodljeieaaaGreatDoorAW0
import Derived.Test.YtpijdodljeieaaaGreatDoorAW10
import Derived.Test.YtpijdodljeieaaaGreatDoorAW11
import Derived.Test.YtpijdodljeieaaaGreatDoorAW14
import Derived.Test.YtpijdodljeieaaaGreatDoorAW3
import Derived.Test.YtpijdodljeieaaaGreatDoorAW5
import Derived.Test.YtpijdodljeieaaaGreatDoorAW6
namespace Go.Sx
open Go Go.Proofs Go.Vm Rp
set_option linter.unusedVariables false
set_option linter.unusedSimpArgs false
variable {W W0:CW}{K:List Nat}
theorem c15 {x0 f r}(y:Rd W0 [0] [f] x0)(Y:Vm.zgC x0=some r):Q0 15 [f] W0 fun Wf v=> ∃ z A,v = .tuple [.agg [z,A].toArray,vI r.2.1,vS r.2.2.1,vI r.2.2.2].toArray/\OwS Wf [31] [] [z] r.1.Commits/\OwS Wf [32] [] [A] r.1.Heads:=by
 unfold Vm.zgC at Y
 refine zaO.of Tryz.func15 O O O O (sr (al 2 [.slice none 0 0, .slice none 0 0] fun Z W1 I J=>?_))
 have B:=I.o
 refine Gi O (Gs O (Ni O (sr (mv f O (cr Y (fun _=>p23 (k0:=3) (k1:=4) (y.ul B)) ?_)))))
 rintro a _ W6 Y C ⟨b,d,rfl,D,E⟩
 have K:=B.n C
 refine mv (.tuple [.agg [b,d].toArray,vI a.2.1,vS a.2.2].toArray) O (Lw.r O (R.ext (vs:=[.agg [b,d].toArray,vI a.2.1,vS a.2.2]) (v:= .agg [b,d].toArray) O O) (Lw.r O (R.ext (vs:=[.agg [b,d].toArray,vI a.2.1,vS a.2.2]) (v:=vI a.2.1) O O) (Lw.r O (R.ext (vs:=[.agg [b,d].toArray,vI a.2.1,vS a.2.2]) (v:=vS a.2.2) O O) (al 5 [.slice none 0 0, .slice none 0 0] fun g9 W9 e L=>?_))))
 have M:=K.n e
 refine sta L (zah (D.up e).oc (zah (E.up e).oc za4)) fun ah h N=>?_
 have F:=M.t h
 have G:=(D.up e).up h
 have H:=(E.up e).up h
 refine Gi O (Ns O (sr (la N (mi O (ms O (mv f O (Lw.ln x0 (y.ul F) O (Lw.r O (R.rem O O (by decide)) (sta (((J.up C).up e).up h) (zah G.oc (zah H.oc za4)) fun ai i P=>?_)))))))))
 have Q:=F.t i
 refine Gi O (Gs O (Ni O ?_))
 obtain⟨aj,S,k,T⟩:=(G.up i).dyeO 31
 have U:=Q.t k
 obtain⟨ak,V,x,W⟩:=((H.up i).up k).dyeO 32
 have X:=U.t x
 cases Y
 rw[<- V.trans (S)]
 exact Cw.ret (zxE (zkw.c O ((P.up k).up x) (zkw.t O (zkw.t O (zkw.t O zkw.n)))) (Res.mk X ⟨b,d,O,(T.up x).s,W.s⟩))
theorem p15 {x0 d k0 k1 r}(f:Rd W K [d] x0)(Y:Vm.zgC x0=some r):Q1 15 [d] W [] fun W' v=> ∃ a b,v = .tuple [.agg [a,b].toArray,vI r.2.1,vS r.2.2.1,vI r.2.2.2].toArray/\Ow W' k0 [] [a] r.1.Commits/\Ow W' k1 [] [b] r.1.Heads:=
 zaO.adJ (J:=[]) (fun c=>bif Nat.beq c 0 then 0 else bif Nat.beq c 31 then k0 else bif Nat.beq c 32 then k1 else 0) (c15 (f.view _) Y) fun _ _ ⟨a,b,e,h,i⟩=>⟨a,b,e,h.one1.backN O,i.one1.backN O⟩
theorem c66 {x0 b x1 r}(h:Rd W0 [0] [b] x0)(Y:Vm.zfS x0 x1=some r):Q0 66 [b,vI x1] W0 fun Wf v=>v=vI r:=by
 unfold Vm.zfS at Y
 refine zaO.of Tryz.func66 O O O O (sr (Ni O (ssr (mv b O (Lw.ln x0 h O (mi O (nl (Cw.block ?_))))))))
 obtain⟨y,z,Y⟩:=zdC Y
 refine Cw.loop 8 18 [4,5,8] (fun m l w=> ∃ d a i e,CW.w e=w/\Le [] W0 e/\l=[vI d,i,vI a]/\Vm.zdr x0 x1 y m d a=some r) _ ⟨0,0,undef,W0,O,Le.refl _ _,O,Y⟩ ?_
 rintro(_ |A) _ _ σ ⟨d,a,i,e,rfl,k,rfl,Y⟩
 ·cases Y
 unfold Vm.zdr at Y
 have f:=k.o
 refine sr (Lw.lt O (nl (Cw.seq (cn Y (fun Y=>?_) fun Y=>?_))))
 ·refine sk (Cw.seq (Cw.block (sr (mi O (Ni O (sr (mi O (mv b O (mi O ?_)))))))))
  obtain⟨B,x,Y⟩:=ob Y
  refine Lw.r O (R.ix (α:=Int) (h.ul f) x O O O) (Lw.r O (R.ld O O ((h.ul f).at_ x).int) (Lw.eq O (nl (cn Y (fun Y=>?_) fun Y=>?_))))
  ·exact sr (mi O (Ni O (.ret (rt Y f))))
  ·exact sk (rg (Lw.add O (mi O (nl ((agm) ⟨d,w64 (a+1),vI a,e,O,k,O,Y⟩)))))
 ·refine Cw.exit ?_
  rw[z]at Y
  exact sr (Ni O (.ret (rt Y f)))
theorem p66 {x0 a x1 r}(b:Rd W K [a] x0)(Y:Vm.zfS x0 x1=some r):Q1 66 [a,vI x1] W [] fun W' v=>v=vI r:=
 (c66 (b.view _) Y).ad (fk 0) fun _ _ e=>e
theorem c16 {x0 k x x1 x2 x3 r}(M:Rd W0 [0] [k,x] x0)(N:Gl 0 W0 [0])(Y:Vm.ziF x0 x1 x2 x3=some r):Q0 16 [.agg [k,x].toArray,vI x1,vS x2,vI x3] W0 fun Wf v=> ∃ y,v=y/\OwS Wf LL [] [y] r:=by
 unfold Vm.ziF at Y
 obtain⟨W,X,z,A,B⟩:=Repo.split M
 simp only[List.cons.injEq,and_true,true_and]at z
 obtain⟨rfl,rfl⟩:=z
 refine zaO.of Tryz.func16 O O O O (sr (bo 2 O fun Z W1 P C=>?_))
 have b:=P.o
 refine Nv (.slice none 0 0) O (sr (la C (mi O (ms O (cr Y (fun _=>p22 (k0:=3) (Repo.rd (K:=[0]) x0.Commits x0.Heads (A.ul b) (B.ul b)) (N.ul b)) ?_)))))
 rintro Q e W8 Y D ⟨_,rfl,E⟩
 have S:=b.n D
 refine Nv e O (ssr (mi O (mv e O (Lw.ln Q E.rd O (Lw.sub O (ca Y (fun _=>p64) fun ae af Y f=>?_))))))
 have d:=S.n f
 refine Lw.r O (R.not O) (nl (cn Y (fun Y=>?_) fun Y=>?_))
 ·refine sr (Nv (.slice none 0 0) O ?_)
  cases Y
  exact Cw.ret (zj5 O (Res.mk d ⟨.slice none 0 0,O,(zo3 []).sub O O⟩))
 ·refine sk (sr (la ((C.up D).up f) (mi O (cr Y (fun _=>p65 (k0:=4) (Repo.rd (K:=[0]) x0.Commits x0.Heads (A.ul d) (B.ul d))) ?_))))
  rintro ah a ai Y F ⟨_,rfl,G⟩
  have T:=d.n F
  have H:=(E.up f).up F
  refine Nv a O (sr (mv a O (mv a O (mv e O (mi O ?_)))))
  obtain⟨aj,I,Y⟩:=ob Y
  refine Lw.r O (R.ix (α:=Int) H.rd I O O O) (Lw.r O (R.ld O O (H.rd.at_ I).int) (ca Y (fun _=>p66 (K:=[4]) G.rd) fun J ak Y L=>?_))
  have U:=T.n L
  have h:=G.up L
  refine Lw.add O ?_
  obtain⟨am,i,Y⟩:=ob Y
  have r38:=h.rd.cutV i
  refine Lw.r O (R.sl h.rd i O (.inl ⟨O,O⟩) (.inr O)) (Nv (cutV a (0:Int).toNat (w64 (J+1):Int).toNat (Rp.sz (Int))) O ?_)
  have V:=Ow.preM h i
  cases Y
  exact Cw.ret (zj5 O (Res.mk U ⟨(cutV a (0:Int).toNat (w64 (J+1):Int).toNat (Rp.sz (Int))),O,V.s.sub O O⟩))
theorem p16 {x0 b d x1 x2 x3 k0 r}(f:Rd W K [b,d] x0)(h:Gl 0 W K)(Y:Vm.ziF x0 x1 x2 x3=some r):Q1 16 [.agg [b,d].toArray,vI x1,vS x2,vI x3] W [] fun W' v=> ∃ a,v=a/\Ow W' k0 [] [a] r:=
 (c16 (f.view _) (h.view _) Y).ad (fk k0) fun _ _ ⟨a,e,i⟩=>⟨a,e,i.back (zkx _)⟩
theorem c18 {x0 aj ak x1 x2 x3 r}(h0:Rd W0 [0] [aj,ak] x0)(Y:Vm.zh9 x0 x1 x2 x3=some r):Q0 18 [.agg [aj,ak].toArray,vI x1,vS x2,vI x3] W0 fun Wf v=> ∃ u0,v=u0/\OwS Wf LL [] [u0] r:=by
 unfold Vm.zh9 at Y
 obtain⟨cx,cy,an,h,ao⟩:=Repo.split h0
 simp only[List.cons.injEq,and_true,true_and]at an
 obtain⟨rfl,rfl⟩:=an
 refine zaO.of Tryz.func18 O O O O (sr (bo 2 O fun g1 W1 l1 b1=>?_))
 have a2:=l1.o
 refine Nv (.slice none 0 0) O (sr (Lw.t O (T.lit0 (α:=Int) 3 []) ?_))
 rintro i _ ⟨W3,rfl,Q,o3⟩
 have S:=a2.n Q
 refine Nv i O (sr (la (b1.up Q) (mi O (ms O (cr Y (fun _=>p24 (k0:=4) (Repo.rd (K:=[0]) x0.Commits x0.Heads (h.ul S) (ao.ul S))) ?_)))))
 rintro z8 U c2 Y l10 ⟨_,rfl,ar⟩
 have b2:=S.n l10
 refine Nv U O (ssr (mi O (mv U O (Lw.ln z8 ar.rd O (Lw.sub O (ca Y (fun _=>p67) fun c3 au Y B=>?_))))))
 have av:=b2.n B
 have aw:=(o3.up l10).up B
 refine Lw.r O (R.not O) (nl (cn Y (fun Y=>?_) fun Y=>?_))
 ·refine sr (mv i O (Nv i O ?_))
  cases Y
  exact Cw.ret (zj5 O (Res.mk av ⟨i,O,aw.s.sub O O⟩))
 ·refine sk (Cw.seq (Cw.block ?_))
  obtain⟨b3,b4,Y⟩:=zdC Y
  refine Cw.loop 29 88 [1,3,9,10,11,12,13,14,15,16] (fun m l w=> ∃ a C V W k D ax ay az a0 a1 a3 x,CW.w x=w/\Le [3,7] au x/\l=[vI a,vI C,k,D,ax,ay,az,a0,a1,a3]/\Ow x 3 [] [k] V/\Ow x 4 [] [D] W/\Vm.zfP x0 x2 b3 m a C V W=some r) _ ⟨x1,x3,([]:List Int),z8,i,U,undef,undef,undef,undef,undef,undef,au,O,Le.refl _ _,O,aw,(ar.up B),Y⟩ ?_
  rintro(_ |c4) _ _ σ ⟨a,C,V,W,k,D,ax,ay,az,a0,a1,a3,x,rfl,X,rfl,a5,a6,Y⟩
  ·cases Y
  unfold Vm.zfP at Y
  have a7:=av.t X
  refine ssr (mi O (mv D O (mi O ?_)))
  obtain⟨c5,a8,Y⟩:=ob Y
  refine Lw.r O (R.ix (α:=Int) a6.rd a8 O O O) (Lw.r O (R.ld O O (a6.rd.at_ a8).int) (Lw.ne O (nl (cn Y (fun Y=>?_) fun Y=>?_))))
  ·refine sk (Cw.block (sr (mv k O (mi O (Lw.t O (T.bs 5 [vI a] (cs:=[vI a]) O O (bsv O)) ?_)))))
   rintro _ _ ⟨c6,c7,rfl,rfl,E,b5⟩
   have b6:=a7.n E
   obtain⟨b7,b8,Y⟩:=ob Y
   refine Lw.t O (T.app1S (α:=Int) (K':=[]) (a5.up E) b5 (rdI _) O O b8) ?_
   rintro a9 _ ⟨c8,rfl,Z,b9⟩
   have aa:=b6.t Z
   have ba:=(((((b1.up Q).up l10).up B).up X).up E).up Z
   refine Nv a9 O (sr (fl ba O (mi O ?_)))
   obtain⟨c9,bb,Y⟩:=ob Y
   refine Lw.r O (R.ix (α:=Commit) (h.ul aa) bb O O O) (Lw.fa O ?_)
   obtain⟨da,c60,r61⟩:=(Commit.at2 ((h.ul aa).at_ bb)).cell O
   refine Lw.r O (R.ld O O c60) (ms O (cr Y (fun _=>p68 r61) ?_))
   rintro y _ db Y F ⟨b,rfl,cb⟩
   have cc:=cb.sub (M:=[0]) O
   have bc:=aa.n F
   have ac:=ba.up F
   refine mv (.tuple [b,vB y.2].toArray) O (Lw.r O (R.ext (vs:=[b,vB y.2]) (v:=b) O O) (Lw.r O (R.ext (vs:=[b,vB y.2]) (v:=vB y.2) O O) (Gv b O (Nb O (sr (fl ac O (mi O ?_)))))))
   obtain⟨dc,be,Y⟩:=ob Y
   have G:=h.ul bc
   refine Lw.r O (R.ix (α:=Commit) G be O O O) (Lw.fa O ?_)
   obtain⟨dd,c75,r76⟩:=(Commit.at0 (G.at_ be)).cell O
   refine Lw.r O (R.ld O O c75) ?_
   obtain⟨cd,bg,Y⟩:=ob Y
   refine Lw.r O (R.ix (α:=Int) r76 bg O O O) (Lw.r O (R.ld O O (r76.at_ bg).int) (Ni O (sr (fl ac O (mi O ?_)))))
   obtain⟨de,bh,Y⟩:=ob Y
   refine Lw.r O (R.ix (α:=Commit) G bh O O O) (Lw.fa O ?_)
   obtain⟨df,c82,r83⟩:=(Commit.at2 (G.at_ bh)).cell O
   refine Lw.r O (R.ld O O c82) (ms O (cr Y (fun _=>p68 r83) ?_))
   rintro z _ dg Y H ⟨d,rfl,ce⟩
   have cf:=ce.sub (M:=[0]) O
   have bi:=H.o
   refine mv (.tuple [d,vB z.2].toArray) O (Lw.r O (R.ext (vs:=[d,vB z.2]) (v:=d) O O) (Lw.r O (R.ext (vs:=[d,vB z.2]) (v:=vB z.2) O O) (Gv d O (Nb O (sr (mv d O (mv b O (cr Y (fun _=>p69 (k0:=6) cf (cc.ul bi)) ?_))))))))
   rintro bj I ae Y J ⟨_,rfl,cg⟩
   have ch:=(bc.trans bi).n J
   refine Nv I O ?_
   obtain⟨bk,ci,Y⟩:=zdC Y
   refine Cw.join 72 84 [3,16] (fun l w=> ∃ L af ah,CW.w ah=w/\Le [] ae ah/\l=[vI L,af]/\bk L=some r) ?_ ?_
   ·rintro _ _ σ ⟨L,af,ah,rfl,N,rfl,Y⟩
    rw[ci]at Y
    have bl:=ch.n N
    refine rg (la (((ac.up H).up J).up N) (mi O (ms O (cr Y (fun _=>p70 (k0:=7) (Repo.rd (K:=[0]) x0.Commits x0.Heads (h.ul bl) (ao.ul bl))) ?_))))
    rintro cj bm dh Y bn ⟨_,rfl,ck⟩
    refine Nv bm O ?_
    obtain⟨cl,cm,bp,co⟩:=ck.dyeO 4
    exact(agm) ⟨cd,L,b7,cj,a9,bm,b,vB y.2,d,vB z.2,I,af,cl,cm,((((((((X.j E).j Z).j F).j H).j J).j N).j bn).j bp).w,O,((((((b9.up F).up H).up J).up N).up bn).up bp),co,Y⟩
   ·refine sr (Ni O (Cw.block (Cw.loop 72 84 [3,16] (fun m l w=> ∃ A e f,CW.w f=w/\Le [] ae f/\l=[vI A,vI e]/\Vm.zhk bj bk m A e=some r) _ ⟨C,0,ae,O,Le.refl _ _,O,Y⟩ ?_)))
    rintro(_ |di) _ _ σ ⟨A,e,f,rfl,P,rfl,Y⟩
    ·cases Y
    unfold Vm.zhk at Y
    have ai:=cg.up P
    refine ssr (mi O (mv I O (Lw.ln bj ai.rd O (Lw.lt O (nl (cn Y (fun Y=>?_) fun Y=>?_))))))
    ·refine sk (Cw.seq (Cw.block (sr (mv I O (mi O ?_)))))
     obtain⟨dj,bq,Y⟩:=ob Y
     refine Lw.r O (R.ix (α:=Int) ai.rd bq O O O) (Lw.r O (R.ld O O (ai.rd.at_ bq).int) (mi O (Lw.eq O (nl (cn Y (fun Y=>?_) fun Y=>?_)))))
     ·exact sr (mi O (Ni O (Cw.exit ((ag) ⟨e,vI e,f,O,P,O,Y⟩))))
     ·exact sk (rg (mi O (Lw.add O (Ni O ((agm) ⟨A,w64 (e+1),f,O,P,O,Y⟩)))))
    ·exact Cw.exit ((ag) ⟨A,vI e,f,O,P,O,Y⟩)
  ·refine Cw.exit ?_
   rw[b4]at Y
   refine sr (mv k O (mi O (Lw.t O (T.bs 8 [vI a] (cs:=[vI a]) O O (bsv O)) ?_)))
   rintro _ _ ⟨dk,dl,rfl,rfl,br,cp⟩
   have cq:=a7.n br
   obtain⟨dm,ct,Y⟩:=ob Y
   refine Lw.t O (T.app1S (α:=Int) (K':=[]) (a5.up br) cp (rdI _) O O ct) ?_
   rintro bu _ ⟨dn,rfl,cu,cv⟩
   have cw:=cq.t cu
   refine Nv bu O ?_
   cases Y
   exact Cw.ret (zj5 O (Res.mk cw ⟨bu,O,cv.s.sub O O⟩))
theorem p18 {x0 b d x1 x2 x3 k0 r}(f:Rd W K [b,d] x0)(Y:Vm.zh9 x0 x1 x2 x3=some r):Q1 18 [.agg [b,d].toArray,vI x1,vS x2,vI x3] W [] fun W' v=> ∃ a,v=a/\Ow W' k0 [] [a] r:=
 (c18 (f.view _) Y).ad (fk k0) fun _ _ ⟨a,e,h⟩=>⟨a,e,h.back (zkx _)⟩
theorem c3 {x0 X r}(h0:Rd W0 [0] [X] x0)(J:Gl 0 W0 [0])(Y:Vm.ziA x0=some r):Q0 3 [X] W0 fun Wf v=>v=vB r:=by
 unfold Vm.ziA at Y
 refine zaO.of Tryz.func3 O O O O (sr (Nb O (ssr (mv X O (Lw.ln x0 h0 O (Lw.gt O (nl (cn Y (fun Y=>?_) fun Y=>?_))))))))
 ·exact sr (Nb O (.ret (rt Y (Le.refl _ _))))
 ·refine sk (sr (mv X O (cr Y (fun _=>p15 (k0:=2) (k1:=3) h0) ?_)))
  rintro a _ W4 Y l4 ⟨f,i,rfl,bu,bv⟩
  have a5:=l4.o
  refine mv (.tuple [.agg [f,i].toArray,vI a.2.1,vS a.2.2.1,vI a.2.2.2].toArray) O (Lw.r O (R.ext (vs:=[.agg [f,i].toArray,vI a.2.1,vS a.2.2.1,vI a.2.2.2]) (v:= .agg [f,i].toArray) O O) (Lw.r O (R.ext (vs:=[.agg [f,i].toArray,vI a.2.1,vS a.2.2.1,vI a.2.2.2]) (v:=vI a.2.1) O O) (Lw.r O (R.ext (vs:=[.agg [f,i].toArray,vI a.2.1,vS a.2.2.1,vI a.2.2.2]) (v:=vS a.2.2.1) O O) (Lw.r O (R.ext (vs:=[.agg [f,i].toArray,vI a.2.1,vS a.2.2.1,vI a.2.2.2]) (v:=vI a.2.2.2) O O) (al 4 [.slice none 0 0, .slice none 0 0] fun g6 W6 L b6=>?_)))))
  have a7:=a5.n L
  refine sta b6 (zah (bu.up L).oc (zah (bv.up L).oc za4)) fun dy l10 aj=>?_
  have bw:=a7.t l10
  have ak:=(bu.up L).up l10
  have am:=(bv.up L).up l10
  refine Gi O (Gs O (Ni O (sr (la aj (mi O (ms O (mi O (cr Y (fun _=>p16 (K:=[0,2,3]) (k0:=5) (x0:=(Vm.Repo.mk a.1.Commits a.1.Heads)) ((Repo.rd (K:=[2,3]) a.1.Commits a.1.Heads (ak.rd.sub (M:=[2,3]) O) (am.rd.sub (M:=[2,3]) O)).sub (M:=[0,2,3]) O) ((J.ul bw).sub (M:=[0,2,3]) O)) ?_))))))))
  rintro d b cp Y z ⟨_,rfl,Z⟩
  have cq:=bw.n z
  refine Nv b O (Cw.seq ?_)
  obtain⟨ct,cu,Y⟩:=zdC Y
  refine Cw.join 29 41 [41] (fun l w=> ∃ an ao,CW.w ao=w/\Le [] cp ao/\l=[vB an]/\ct an=some r) ?_ ?_
  ·rintro _ _ σ ⟨an,ao,rfl,D,rfl,Y⟩
   rw[cu]at Y
   have ap:=cq.n D
   have aq:=(ak.up z).up D
   have ar:=(am.up z).up D
   have aa:=(aj.up z).up D
   refine cn Y (fun Y=>?_) fun Y=>?_
   ·refine sr (mv b O (la aa (mi O (ms O (mi O (cr Y (fun _=>p18 (K:=[2,3]) (k0:=6) (x0:=(Vm.Repo.mk a.1.Commits a.1.Heads)) (Repo.rd (K:=[2,3]) a.1.Commits a.1.Heads (aq.rd.sub (M:=[2,3]) O) (ar.rd.sub (M:=[2,3]) O))) ?_))))))
    rintro dz d0 d1 Y bz ⟨_,rfl,cv⟩
    have cw:=ap.n bz
    refine ca Y (fun _=>p17 (K:=[5,6]) (((Z.up D).up bz).rd.sub (M:=[5,6]) O) (cv.rd.sub (M:=[5,6]) O)) fun d2 d3 Y cx=>?_
    have cy:=cw.n cx
    exact Nb O (.ret (rt Y cy))
   ·refine sk (sr (la aa (mi O (cr Y (fun _=>p19 (K:=[0,2,3]) (k0:=7) (x0:=(Vm.Repo.mk a.1.Commits a.1.Heads)) ((Repo.rd (K:=[2,3]) a.1.Commits a.1.Heads (aq.rd.sub (M:=[2,3]) O) (ar.rd.sub (M:=[2,3]) O)).sub (M:=[0,2,3]) O) ((J.ul ap).sub (M:=[0,2,3]) O)) ?_))))
    rintro cz b0 d4 Y E ⟨_,rfl,c0⟩
    have b1:=ap.n E
    have au:=aq.up E
    refine Nv b0 O (sr (fl (aa.up E) O (mi O ?_)))
    obtain⟨d5,b2,Y⟩:=ob Y
    refine Lw.r O (R.ix (α:=Commit) au.rd b2 O O O) (Lw.fa O ?_)
    obtain⟨d6,c60,r61⟩:=(Commit.at2 (au.rd.at_ b2)).cell O
    refine Lw.r O (R.ld O O c60) (ms O (cr Y (fun _=>p20 (K:=[0,2]) (k0:=8) (r61.sub (M:=[0,2]) O) ((J.ul b1).sub (M:=[0,2]) O)) ?_))
    rintro N _ b3 Y F ⟨G,rfl,c1⟩
    have c2:=b1.n F
    refine mv (.tuple [G,vB N.2].toArray) O (Lw.r O (R.ext (vs:=[G,vB N.2]) (v:=G) O O) (Lw.r O (R.ext (vs:=[G,vB N.2]) (v:=vB N.2) O O) (Gv G O (Nb O (ssr (Ni O (Cw.block ?_)))))))
    obtain⟨c4,c5,Y⟩:=zdC Y
    refine Cw.loop 63 100 [2,11,12,13] (fun m l w=> ∃ ac ae b4 b5 av,CW.w av=w/\Le [] b3 av/\l=[vB ac,vI ae,b4,b5]/\Vm.zeJ a d cz N c4 m ac ae=some r) _ ⟨false,0,undef,undef,b3,O,Le.refl _ _,O,Y⟩ ?_
    rintro(_ |d7) _ _ σ ⟨ac,ae,b4,b5,av,rfl,y,rfl,Y⟩
    ·cases Y
    unfold Vm.zeJ at Y
    have b7:=c2.n y
    have b8:=(au.up F).up y
    have aw:=(((Z.up D).up E).up F).up y
    have b9:=((aa.up E).up F).up y
    refine ssr (mi O (mv b O (Lw.ln d aw.rd O (Lw.lt O (nl (cn Y (fun Y=>?_) fun Y=>?_))))))
    ·refine sk (Cw.seq (Cw.block (Cw.seq (Cw.draw [] [(0,0),(1,1),(2,0),(3,0),(4,0),(5,1),(6,0),(7,0),(8,1),(9,0),(10,2),(11,0),(12,0),(13,0),(14,0),(15,0)] mixed (by kernel_rfl) fun d8 A=>?_))))
     have cb:=b7.n A
     have ax:=b8.up A
     have af:=aw.up A
     refine Dfl (b9.up A) O O O (Dv b O (Di O ?_))
     obtain⟨d9,ay,Y⟩:=ob Y
     refine Mw.p O O (fun _=>R.ix (α:=Int) af.rd ay O O O) (Mw.q O O (fun _ c=>R.ld O O (zaR (af.rd.at_ ay).1 O (af.rd.at_ ay).int c)) ?_)
     obtain⟨ea,az,Y⟩:=ob Y
     refine Mw.p O O (fun _=>R.ix (α:=Commit) ax.rd az O O O) (Df O ?_)
     obtain⟨eb,c100,r101⟩:=(Commit.at2 (ax.rd.at_ az)).cell O
     refine Mw.q O O (fun _ c=>R.ld O O (zaR (Commit.at2 (ax.rd.at_ az)).1 O c100 c)) (Ds O ?_)
     obtain⟨P,c6,Y⟩:=ob Y
     refine Mw.t O O (T.call O (p20 (K:=[0,2]) (k0:=9) (r101.sub (M:=[0,2]) O) ((J.ul cb).sub (M:=[0,2]) O) c6)) ?_
     rintro _ _ ⟨c7,rfl,H,⟨B,rfl,c8⟩⟩
     have c9:=cb.n H
     refine m0 H fun ec=>Dv (.tuple [B,vB P.2].toArray) O (Mw.p O O (fun _=>R.ext (vs:=[B,vB P.2]) (v:=B) O O) (Mw.p O O (fun _=>R.ext (vs:=[B,vB P.2]) (v:=vB P.2) O O) (Hv B O (Hb O (Mw.nil ?_)))))
     obtain⟨da,db,Y⟩:=zdC Y
     refine Cw.join 83 100 [100] (fun l w=> ∃ a0 ah,CW.w ah=w/\Le [] c7 ah/\l=[vB a0]/\da a0=some r) ?_ ?_
     ·rintro _ _ σ ⟨a0,ah,rfl,cc,rfl,Y⟩
      rw[db]at Y
      have dc:=c9.n cc
      refine cn Y (fun Y=>?_) fun Y=>?_
      ·exact sr (Nb O (.ret (rt Y dc)))
      ·exact sk (rg (mi O (Lw.add O (Ni O ((agm) ⟨ac,w64 (ae+1),B,vB P.2,ah,O,(((y.j A).j H).j cc).w,O,Y⟩)))))
     ·refine Cw.draw [] [(0,0),(1,0),(2,0),(3,1),(4,0),(5,0),(6,0),(7,1),(8,0),(9,0),(10,0),(11,0),(12,0),(13,0),(14,1),(15,2),(16,0),(17,0)] mixed (by kernel_rfl) fun dd I=>?_
      have a1:=(af.up H).up I
      have a2:=((((c0.up F).up y).up A).up H).up I
      have a3:=(((c1.up y).up A).up H).up I
      refine Dv b0 O (Di O ?_)
      obtain⟨ed,a4,Y⟩:=ob Y
      refine Mw.p O O (fun _=>R.ix (α:=Int) a2.rd a4 O O O) (Mw.q O O (fun _ c=>R.ld O O (zaR (a2.rd.at_ a4).1 O (a2.rd.at_ a4).int c)) (Dv b O (Di O ?_)))
      obtain⟨ee,a6,Y⟩:=ob Y
      refine Mw.p O O (fun _=>R.ix (α:=Int) a1.rd a6 O O O) (Mw.q O O (fun _ c=>R.ld O O (zaR (a1.rd.at_ a6).1 O (a1.rd.at_ a6).int c)) (Mw.p O O (fun _=>R.ne O O) (Db O (bs Y (fun e Y=>?_) fun e Y=>?_))))
      ·exact dps 7 e O (Mw.p O O (fun _=>R.pk e O (v:=vB true) O) (Mw.nil ((ag) ⟨true,dd,O,I,O,Y⟩)))
      ·refine Wp e O (fun _=>R.mv (v:=B) O) (Wp e O (fun _=>R.mv (v:=G) O) (Wp e O (fun _=>R.mv (v:=vI a.2.2.2) O) ?_))
       obtain⟨ef,a8,Y⟩:=ob Y
       refine Wp e O (fun _=>R.ix (α:=Str) a3.rd a8 O O O) (Wq e O (fun _ c=>R.ld O O (zaR (a3.rd.at_ a8).1 O (a3.rd.at_ a8).str c)) ?_)
       obtain⟨cd,de,Y⟩:=ob Y
       refine Wt e O (T.call O (p21 (K:=[9]) (c8.up I).rd de)) ?_
       rintro _ _ ⟨df,rfl,ce,rfl⟩
       exact m0 ce fun eg=>Wp e O (fun _=>R.not O) (Mw.p O O (fun _=>R.pk e O (v:=vB (!cd)) O) (Mw.nil ((ag) ⟨(!cd),df,O,(I.j ce).w,O,Y⟩)))
    ·refine Cw.exit ?_
     rw[c5]at Y
     refine Cw.seq ?_
     obtain⟨Q,dg,Y⟩:=ob Y
     obtain⟨k,cf,Y⟩:=ob Y
     obtain⟨x,cg,Y⟩:=ob Y
     refine Cw.par [[],[],[],[0,1,2],[],[0,1,2,3,4],[0,1,2,3,4,5],[],[],[8],[8,9],[7,8,9,10],[7,8,9,10,11],[0,1,2,3,4,5,6,7,8,9,10,11,12],[0,1,2,3,4,5,6,7,8,9,10,11,12,13]] [[],[],[],[0,1,2],[],[3,4],[3,5],[],[],[8],[9],[7,10],[11],[6,12],[13]] [[],[],[],[],[],[],[],[],[],[],[],[],[],[],[]] [[0],[1],[2],[3],[4],[3,5],[6],[7],[8],[9],[10],[11],[12],[13],[14]] [[],[],[],[10],[],[],[],[],[],[],[],[],[],[],[]] [0,1,2,3,4,5,6,7,8,9,10,11,12,13,14] [] [fun vs W=>(vs 0) = .agg [f,i].toArray,fun vs W=>(vs 1)=vI a.2.1,fun vs W=>(vs 2)=vS a.2.2.1,fun vs W=>Ow W 10 [] [(vs 3)] Q,fun vs W=>(vs 4)=vI a.2.2.2,fun vs W=>(vs 5)=ptr ((slA (vs 3)).add ((a.2.2.2).toNat*Rp.sz (Int))),fun vs W=>(vs 6)=vI k,fun vs W=>(vs 7)=b,fun vs W=>(vs 8)=b,fun vs W=>(vs 9)=vI (d.length:Int),fun vs W=>(vs 10)=vI (w64 ((d.length:Int)-1)),fun vs W=>(vs 11)=ptr ((slA b).add ((w64 ((d.length:Int)-1)).toNat*Rp.sz (Int))),fun vs W=>(vs 12)=vI x,fun vs W=>(vs 13)=vB ((k:Int)==(x:Int)),fun vs W=>(vs 14)=vB ((k:Int)==(x:Int))] [] mixed (by kernel_rfl) O zqj.nil ?_
     intro eh S
     have ch:=b7.n S
     have a9:=aw.up S
     refine⟨(zdm.cons ?_ (zdm.cons ?_ (zdm.cons ?_ (zdm.cons ?_ (zdm.cons ?_ (zdm.cons ?_ (zdm.cons ?_ (zdm.cons ?_ (zdm.cons ?_ (zdm.cons ?_ (zdm.cons ?_ (zdm.cons ?_ (zdm.cons ?_ (zdm.cons ?_ (zdm.cons ?_ zdm.nil))))))))))))))),(zhG.cons SE (zhG.cons SE (zhG.cons SE (zhG.cons SO (zhG.cons SE (zhG.cons (fun vs vs' W W' _ hv l hd h=>by(show(vs' 5)=ptr ((slA (vs' 3)).add ((a.2.2.2).toNat*Rp.sz (Int))));rw[hv 3 (zcl O),hv 5 (zcl O)];exact h) (zhG.cons SE (zhG.cons SE (zhG.cons SE (zhG.cons SE (zhG.cons SE (zhG.cons SE (zhG.cons SE (zhG.cons SE (zhG.cons SE zhG.nil))))))))))))))),?_⟩
     ·intro vs ei lW hN hV
      exact Trq (R.lda (cs:=[f,i]) ((b9.up S).up lW O).cells O O) O
     ·intro vs ej lW hN hV
      exact Trq (R.mv (v:=vI a.2.1) O) O
     ·intro vs ek lW hN hV
      exact Trq (R.mv (v:=vS a.2.2.1) O) O
     ·intro vs el lW hN hV
      have dh:=ch.n lW
      have ba:vs 0 = .agg [f,i].toArray:=(hN 0 (zcl O))
      obtain⟨vs,rfl⟩:=za7 ba
      have bb:vs 1=vI a.2.1:=(hN 1 (zcl O))
      obtain⟨vs,rfl⟩:=za7 bb
      have bc:vs 2=vS a.2.2.1:=(hN 2 (zcl O))
      obtain⟨vs,rfl⟩:=za7 bc
      refine Tr.mono (T.call O (p22 (K:=[0,2,3]) (k0:=10) (x0:=(Vm.Repo.mk a.1.Commits a.1.Heads)) ((Repo.rd (K:=[2,3]) a.1.Commits a.1.Heads (((b8.up S).up lW O).rd.sub (M:=[2,3]) O) ((((((ar.up E).up F).up y).up S).up lW O).rd.sub (M:=[2,3]) O)).sub (M:=[0,2,3]) O) ((J.ul dh).sub (M:=[0,2,3]) O) dg)) ?_
      rintro di _ ⟨ci,rfl,dj,⟨_,rfl,dk⟩⟩
      exact⟨ci,O,dj,(show Ow ci 10 [] [di] Q from dk)⟩
     ·intro vs em lW hN hV
      exact Trq (R.mv (v:=vI a.2.2.2) O) O
     ·intro vs dl lW hN hV
      obtain⟨C,U⟩: ∃ v,vs 3=v:=⟨_,O⟩
      obtain⟨vs,rfl⟩:=za7 U
      have dm:Ow dl 10 [] [C] Q:=(hN 3 (zcl O))
      have be:vs 4=vI a.2.2.2:=(hN 4 (zcl O))
      obtain⟨vs,rfl⟩:=za7 be
      exact Trq (R.ix (α:=Int) dm.rd cf O O O) O
     ·intro vs dn lW hN hV
      obtain⟨C,U⟩: ∃ v,vs 3=v:=⟨_,O⟩
      obtain⟨vs,rfl⟩:=za7 U
      have dp:Ow dn 10 [] [C] Q:=(hN 3 (zcl O))
      have bg:vs 5=ptr ((slA C).add ((a.2.2.2).toNat*Rp.sz (Int))):=(hN 5 (zcl O))
      obtain⟨vs,rfl⟩:=za7 bg
      exact Trq (R.ld O O (dp.rd.at_ cf).int) O
     ·intro vs en lW hN hV
      exact Trq (R.mv (v:=b) O) O
     ·intro vs eo lW hN hV
      exact Trq (R.mv (v:=b) O) O
     ·intro vs ep lW hN hV
      have bh:vs 8=b:=(hN 8 (zcl O))
      obtain⟨vs,rfl⟩:=za7 bh
      exact Trq (zqP (xs:=d) (a9.up lW O).rd O) O
     ·intro vs er lW hN hV
      have bi:vs 9=vI (d.length:Int):=(hN 9 (zcl O))
      obtain⟨vs,rfl⟩:=za7 bi
      exact Trq (R.sub O O) O
     ·intro vs es lW hN hV
      have bj:vs 7=b:=(hN 7 (zcl O))
      obtain⟨vs,rfl⟩:=za7 bj
      have bk:vs 10=vI (w64 ((d.length:Int)-1)):=(hN 10 (zcl O))
      obtain⟨vs,rfl⟩:=za7 bk
      exact Trq (R.ix (α:=Int) (a9.up lW O).rd cg O O O) O
     ·intro vs et lW hN hV
      have bl:vs 11=ptr ((slA b).add ((w64 ((d.length:Int)-1)).toNat*Rp.sz (Int))):=(hN 11 (zcl O))
      obtain⟨vs,rfl⟩:=za7 bl
      exact Trq (R.ld O O ((a9.up lW O).rd.at_ cg).int) O
     ·intro vs eu lW hN hV
      have bm:vs 6=vI k:=(hN 6 (zcl O))
      obtain⟨vs,rfl⟩:=za7 bm
      have bn:vs 12=vI x:=(hN 12 (zcl O))
      obtain⟨vs,rfl⟩:=za7 bn
      exact Trq (R.eq O O) O
     ·intro vs ew lW hN hV
      have bp:vs 13=vB ((k:Int)==(x:Int)):=(hN 13 (zcl O))
      obtain⟨vs,rfl⟩:=za7 bp
      exact Trq (R.as (v:=vB ((k:Int)==(x:Int))) O) O
     ·intro vs dq dr hN
      have ds:=ch.n dr
      have ba:vs 0 = .agg [f,i].toArray:=(hN 0 (zcl O))
      obtain⟨vs,rfl⟩:=za7 ba
      have bb:vs 1=vI a.2.1:=(hN 1 (zcl O))
      obtain⟨vs,rfl⟩:=za7 bb
      have bc:vs 2=vS a.2.2.1:=(hN 2 (zcl O))
      obtain⟨vs,rfl⟩:=za7 bc
      obtain⟨C,U⟩: ∃ v,vs 3=v:=⟨_,O⟩
      obtain⟨vs,rfl⟩:=za7 U
      have ex:Ow dq 10 [] [C] Q:=(hN 3 (zcl O))
      have be:vs 4=vI a.2.2.2:=(hN 4 (zcl O))
      obtain⟨vs,rfl⟩:=za7 be
      have bg:vs 5=ptr ((slA C).add ((a.2.2.2).toNat*Rp.sz (Int))):=(hN 5 (zcl O))
      obtain⟨vs,rfl⟩:=za7 bg
      have bm:vs 6=vI k:=(hN 6 (zcl O))
      obtain⟨vs,rfl⟩:=za7 bm
      have bj:vs 7=b:=(hN 7 (zcl O))
      obtain⟨vs,rfl⟩:=za7 bj
      have bh:vs 8=b:=(hN 8 (zcl O))
      obtain⟨vs,rfl⟩:=za7 bh
      have bi:vs 9=vI (d.length:Int):=(hN 9 (zcl O))
      obtain⟨vs,rfl⟩:=za7 bi
      have bk:vs 10=vI (w64 ((d.length:Int)-1)):=(hN 10 (zcl O))
      obtain⟨vs,rfl⟩:=za7 bk
      have bl:vs 11=ptr ((slA b).add ((w64 ((d.length:Int)-1)).toNat*Rp.sz (Int))):=(hN 11 (zcl O))
      obtain⟨vs,rfl⟩:=za7 bl
      have bn:vs 12=vI x:=(hN 12 (zcl O))
      obtain⟨vs,rfl⟩:=za7 bn
      have bp:vs 13=vB ((k:Int)==(x:Int)):=(hN 13 (zcl O))
      obtain⟨vs,rfl⟩:=za7 bp
      have dt:vs 14=vB ((k:Int)==(x:Int)):=(hN 14 (zcl O))
      obtain⟨vs,rfl⟩:=za7 dt
      exact .ret (rt Y ds)
  ·refine rg (mv b O (la (aj.up z) (mi O (ms O (mi O (cr Y (fun _=>p18 (K:=[2,3]) (k0:=11) (x0:=(Vm.Repo.mk a.1.Commits a.1.Heads)) (Repo.rd (K:=[2,3]) a.1.Commits a.1.Heads ((ak.up z).rd.sub (M:=[2,3]) O) ((am.up z).rd.sub (M:=[2,3]) O))) ?_))))))
   rintro ey ez e0 Y ai ⟨_,rfl,du⟩
   refine ca Y (fun _=>p17 (K:=[5,11]) ((Z.up ai).rd.sub (M:=[5,11]) O) (du.rd.sub (M:=[5,11]) O)) fun e1 cj Y bq=>Lw.r O (R.not O) (mb O (bs Y (fun V Y=>?_) fun V Y=>?_))
   ·exact psk 3 V O (Pb V O (nl ((ag) ⟨true,cj,O,(ai.j bq).w,O,Y⟩)))
   ·exact wak 3 V (mv b O (Lw.ln d ((Z.up ai).up bq).rd O (Lw.eq O (Pb V O (nl ((ag) ⟨((d.length:Int)==0),cj,O,(ai.j bq).w,O,Y⟩))))))
theorem p3 {x0 a r}(b:Rd W K [a] x0)(d:Gl 0 W K)(Y:Vm.ziA x0=some r):Q1 3 [a] W [] fun W' v=>v=vB r:=
 (c3 (b.view _) (d.view _) Y).ad (fk 0) fun _ _ e=>e
end Go.Sx
