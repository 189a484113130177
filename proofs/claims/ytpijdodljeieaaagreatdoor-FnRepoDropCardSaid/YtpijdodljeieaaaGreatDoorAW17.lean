/- Walks: each function answers as its model, printed by a program of ours. Conditions: the arguments read as they are given. -/
import Derived.Test.YtpijdodljeieaaaGreatDoorATs
import Derived.Test.YtpijdodljeieaaaGreatDoorAM10
import Derived.Test.YtpijdodljeieaaaGreatDoorAW0
import Derived.Test.YtpijdodljeieaaaGreatDoorAW1
import Derived.Test.YtpijdodljeieaaaGreatDoorAW12
import Derived.Test.YtpijdodljeieaaaGreatDoorAW13
import Derived.Test.YtpijdodljeieaaaGreatDoorAW5
import Derived.Test.YtpijdodljeieaaaGreatDoorAW6
import Derived.Test.YtpijdodljeieaaaGreatDoorAW9
namespace Go.Sx
open Go Go.Proofs Go.Vm Rp
set_option linter.unusedVariables false
set_option linter.unusedSimpArgs false
variable {W W0:CW}{K:List Nat}
theorem c116 {x0 i r}(X:Rd W0 [0] [i] x0)(Y:Vm.zie x0=some r):Q0 116 [i] W0 fun Wf v=> ∃ B C,v = .tuple [.agg [B,C].toArray,vS r.2].toArray/\OwS Wf [31] [] [B] r.1.Commits/\OwS Wf [32] [] [C] r.1.Heads:=by
 unfold Vm.zie at Y
 refine zaO.of Tryz.func116 O O O O (sr (al 2 [.slice none 0 0, .slice none 0 0] fun g1 W1 Z b1=>?_))
 have D:=Z.o
 refine Ns O (sr (mv i O (cr Y (fun _=>p75 (k0:=3) (X.ul D)) ?_)))
 rintro E _ W6 Y F ⟨a5,a6,rfl,ac,ae⟩
 have G:=ae.sub (M:=[0]) O
 have a8:=D.n F
 refine Np O (sr (mp O (cr Y (fun _=>p76 (k0:=4) (k1:=5) (c0:=3) (x0:=E) ac G O) ?_)))
 rintro ah _ a7 Y H ⟨k,x,rfl,I,J,ai⟩
 have L:=H.s
 refine al 6 [.slice none 0 0, .slice none 0 0] fun a9 ba a aj=>?_
 have N:=a.o
 refine sta aj (zah (I.up a).oc (zah (J.up a).oc za4)) fun bb f ak=>?_
 have P:=f.s
 refine nl (Cw.seq (Cw.draw [3] [(0,1),(1,0),(2,2),(3,2),(4,3),(5,0)] mixed (by kernel_rfl) fun am d=>?_))
 have Q:=d.o
 refine Mw.q O O (fun _ c=>R.lda (cs:=[k,x]) ((ak.up d).clcs O c) O O) (Dp O (Mw.t O O (T.bsS (α:=Str) (xs:=[([109,97,105,110]:Str),([115,105,100,101]:Str),([110,111,110,101]:Str)]) 7 [] (W:=am) [vS ([109,97,105,110]:Str),vS ([115,105,100,101]:Str),vS ([110,111,110,101]:Str)] (Each.cons ((rdS _)) (Each.cons ((rdS _)) (Each.cons ((rdS _)) Each.nil))) O) ?_))
 rintro bc _ ⟨be,rfl,e,an⟩
 have S:=e.o
 refine m0 e fun ao=>?_
 obtain⟨bg,ap,Y⟩:=ob Y
 refine Mw.t O O (T.call O (p86 (K:=[0,7]) (c0:=3) (x0:=(Vm.l30Rd.mk E.b ah.2)) ((((ai.up a).up f).up d).up e) ((G.ul ((((L.trans N).trans P).trans Q).trans S)).sub (M:=[0,7]) O) (an.rd.sub (M:=[0,7]) O) O ap)) ?_
 rintro _ _ ⟨bh,rfl,h,⟨rfl,bi⟩⟩
 have aq:=(((((a8.trans L).trans N).trans P).trans Q).trans S).t h
 have U:=((((I.up a).up f).up d).up e).up h
 have V:=((((J.up a).up f).up d).up e).up h
 refine mc ao h fun bj=>Mw.lu O (T.sta (vs:=[k,x]) (((((((b1.up F).up H).up a).up f).up d).up e).up h) O O (zah U.oc (zah V.oc za4)) O O) ?_
 rintro _ _ ⟨bk,rfl,y,ar⟩
 have au:=aq.t y
 refine Hs O (Mw.nil ?_)
 obtain⟨bl,av,z,aw⟩:=(U.up y).dyeO 31
 have ax:=au.t z
 obtain⟨bm,ay,A,az⟩:=((V.up y).up z).dyeO 32
 have a0:=ax.t A
 cases Y
 rw[<- ay.trans (av)]
 exact Cw.ret (zi2 O ((ar.up z).up A) O (Res.mk a0 ⟨k,x,O,(aw.up A).s,az.s⟩))
theorem p116 {x0 d k0 k1 r}(f:Rd W K [d] x0)(Y:Vm.zie x0=some r):Q1 116 [d] W [] fun W' v=> ∃ a b,v = .tuple [.agg [a,b].toArray,vS r.2].toArray/\Ow W' k0 [] [a] r.1.Commits/\Ow W' k1 [] [b] r.1.Heads:=
 zaO.adJ (J:=[]) (fun c=>bif Nat.beq c 0 then 0 else bif Nat.beq c 31 then k0 else bif Nat.beq c 32 then k1 else 0) (c116 (f.view _) Y) fun _ _ ⟨a,b,e,h,i⟩=>⟨a,b,e,h.one1.backN O,i.one1.backN O⟩
theorem c50 {x0 d r}(C:Rd W0 [0] [d] x0)(Y:Vm.zhj x0=some r):Q0 50 [d] W0 fun Wf v=> ∃ k x,v = .tuple [.agg [k,x].toArray,vS r.2].toArray/\OwS Wf [31] [] [k] r.1.Commits/\OwS Wf [32] [] [x] r.1.Heads:=by
 unfold Vm.zhj at Y
 refine zaO.of Tryz.func50 O O O O (sr (al 2 [.slice none 0 0, .slice none 0 0] fun P Q D E=>?_))
 have y:=D.o
 refine Ns O (sr (mv d O (cr Y (fun _=>p116 (k0:=3) (k1:=4) (C.ul y)) ?_)))
 rintro e _ S Y z ⟨a,b,rfl,A,B⟩
 have F:=y.n z
 refine Lw.r O (R.ext (vs:=[.agg [a,b].toArray,vS e.2]) (v:= .agg [a,b].toArray) O O) (Lw.r O (R.ext (vs:=[.agg [a,b].toArray,vS e.2]) (v:=vS e.2) O O) (sta (E.up z) (zah A.oc (zah B.oc za4)) fun T f G=>?_))
 have H:=F.t f
 refine Ns O ?_
 obtain⟨U,I,h,J⟩:=(A.up f).dyeO 31
 have K:=H.t h
 obtain⟨V,L,i,M⟩:=((B.up f).up h).dyeO 32
 have N:=K.t i
 cases Y
 rw[<- L.trans (I)]
 exact Cw.ret (zi2 O ((G.up h).up i) O (Res.mk N ⟨a,b,O,(J.up i).s,M.s⟩))
theorem p50 {x0 d k0 k1 r}(f:Rd W K [d] x0)(Y:Vm.zhj x0=some r):Q1 50 [d] W [] fun W' v=> ∃ a b,v = .tuple [.agg [a,b].toArray,vS r.2].toArray/\Ow W' k0 [] [a] r.1.Commits/\Ow W' k1 [] [b] r.1.Heads:=
 zaO.adJ (J:=[]) (fun c=>bif Nat.beq c 0 then 0 else bif Nat.beq c 31 then k0 else bif Nat.beq c 32 then k1 else 0) (c50 (f.view _) Y) fun _ _ ⟨a,b,e,h,i⟩=>⟨a,b,e,h.one1.backN O,i.one1.backN O⟩
theorem c51 {x0 an ao x1 r}(h0:Rd W0 [0] [an,ao] x0)(Y:Vm.zh8 x0 x1=some r):Q0 51 [.agg [an,ao].toArray,vS x1] W0 fun Wf v=> ∃ ap aq,v = .tuple [.agg [ap,aq].toArray,vB r.2].toArray/\OwS Wf [31] [] [ap] r.1.Commits/\OwS Wf [32] [] [aq] r.1.Heads:=by
 unfold Vm.zh8 at Y
 obtain⟨ck,cl,ar,au,e⟩:=Repo.split h0
 simp only[List.cons.injEq,and_true,true_and]at ar
 obtain⟨rfl,rfl⟩:=ar
 refine zaO.of Tryz.func51 O O O O (sr (bo 2 O fun g1 W1 l1 b1=>?_))
 have a2:=l1.o
 refine al 3 [.slice none 0 0, .slice none 0 0] fun g3 W3 U b3=>?_
 have V:=a2.n U
 refine Nb O (ssr (la (b1.up U) (ca Y (fun _=>p80 (Repo.rd (K:=[0]) x0.Commits x0.Heads (au.ul V) (e.ul V))) fun z8 cu Y l10=>?_)))
 have D:=V.n l10
 have ax:=(b1.up U).up l10
 refine Lw.r O (R.not O) (nl (cn Y (fun Y=>?_) fun Y=>?_))
 ·refine sr (Lw.r O (R.bd (zs:=[.slice none 0 0, .slice none 0 0]) (cs:=[.slice none 0 0, .slice none 0 0]) [] O O O zhs) (sta (b3.up l10) (zah O (zah O za4)) fun cv ba bb=>?_))
  have bc:=D.t ba
  refine Nb O ?_
  cases Y
  exact Cw.ret (zi2 O bb O (Res.mk bc ⟨.slice none 0 0, .slice none 0 0,O,(zo3 []).sub O O,(zo3 []).sub O O⟩))
 ·refine sk (sr (la ax (cr Y (fun _=>p95 (k0:=4) (k1:=5) (Repo.rd (K:=[0]) x0.Commits x0.Heads (au.ul D) (e.ul D))) ?_)))
  rintro be _ cw Y W ⟨X,cx,rfl,ay,bg⟩
  have bh:=D.n W
  refine al 6 [.slice none 0 0, .slice none 0 0] fun cy cz k bi=>?_
  have bj:=bh.n k
  refine sta bi (zah (ay.up k).oc (zah (bg.up k).oc za4)) fun c0 E bk=>?_
  have bl:=bj.t E
  have Z:=(ay.up k).up E
  refine nl (sr (fl bk O (Lw.r O (R.bd (zs:=[.slice none 0 0, .slice none 0 0]) (cs:=[X, .slice none 0 0]) [(0,X)] O O O (zc0 Z.oc O zhs)) (al 7 [.slice none 0 0, .slice none 0 0] fun az c1 y bm=>?_))))
  have bn:=bl.n y
  refine sta bm (zah (Z.up y).oc (zah O za4)) fun a0 F bp=>?_
  have bq:=bn.t F
  refine nl (ssr (Ni O (Cw.block ?_)))
  obtain⟨br,bu,Y⟩:=zdC Y
  refine Cw.loop 18 42 [8] (fun m l w=> ∃ G z A a f b,CW.w b=w/\Le [7,8] a0 b/\l=[vI G]/\Ow b 4 [] [a] z/\Ow b 8 [] [f] A/\Bx b 7 az [a,f]/\Vm.zeu x0 x1 br m G z A=some r) _ ⟨0,be.Commits,([]:List Head),X, .slice none 0 0,a0,O,Le.refl _ _,O,((Z.up y).up F),owN 8 [],bp,Y⟩ ?_
  rintro(_ |c2) _ _ σ ⟨G,z,A,a,f,b,rfl,H,rfl,I,aa,B,Y⟩
  ·cases Y
  unfold Vm.zeu at Y
  have ac:=bq.t H
  have J:=(((((ax.up W).up k).up E).up y).up F).up H
  refine ssr ?_
  have ae:=e.ul ac
  refine mi O (fl J O (Lw.ln x0.Heads ae O (Lw.lt O (nl (cn Y (fun Y=>?_) fun Y=>?_)))))
  ·refine sk ?_
   obtain⟨bv,bw,Y⟩:=zdC Y
   refine Cw.join 25 42 [] (fun l w=> ∃ L M N P h,CW.w h=w/\Le [7,8] b h/\l=[]/\Ow h 4 [] [N] L/\Ow h 8 [] [P] M/\Bx h 7 az [N,P]/\bv L M=some r) ?_ ?_
   ·rintro _ _ σ ⟨L,M,N,P,h,rfl,bz,rfl,b0,b2,b4,Y⟩
    rw[bw]at Y
    exact rg (mi O (Lw.add O (Ni O ((agm) ⟨w64 (G+1),L,M,N,P,h,O,(H.j bz).w,O,b0,b2,b4,Y⟩))))
   ·refine Cw.block (sr (fl J O (mi O ?_)))
    obtain⟨c3,a1,Y⟩:=ob Y
    refine Lw.r O (R.ix (α:=Head) ae a1 O O O) (Lw.fa O (Lw.r O (R.ld O O (Head.at0 (ae.at_ a1)).str) (ms O (Lw.sne O (nl (cn Y (fun Y=>?_) fun Y=>?_))))))
    ·refine Cw.draw [8] [(0,0),(1,1),(2,0),(3,1),(4,0),(5,0),(6,1),(7,2),(8,2),(9,0),(10,3)] mixed (by kernel_rfl) fun c4 i=>?_
     have af:=ac.n i
     refine Dfl (B.up i) O O O (Dfl (J.up i) O O O (Di O ?_))
     obtain⟨x,ah,Y⟩:=ob Y
     refine Mw.p O O (fun _=>R.ix (α:=Head) (e.ul af) ah O O O) ?_
     obtain⟨x99,c100,_,r101⟩:=((e.ul af).at_ ah).cells
     obtain rfl:=Head.split r101
     refine Mw.q O O (fun _ c=>R.lda (zmg ((e.ul af).at_ ah).1 O c100 c) O O) (Mw.t O O (T.bs 9 [.agg [vS x.Name,vI x.At].toArray] (cs:=[vS x.Name,vI x.At]) O O (bsA O)) ?_)
     rintro _ _ ⟨c5,c6,rfl,rfl,C,b5⟩
     refine m0 C fun b6=>?_
     obtain⟨b7,b8,Y⟩:=ob Y
     refine Mw.t O O (T.app1S (α:=Head) (K':=[]) ((aa.up i).up C) b5 (Head.rd (K:=[]) x.Name x.At) O O b8) ?_
     rintro a3 _ ⟨c7,rfl,Q,a5⟩
     refine mc b6 Q fun c8=>Df O (Mw.lu O (T.st (j:=1) (v:=a3) (((B.up i).up C).up Q) O O a5.oc O O) ?_)
     rintro _ _ ⟨b9,rfl,ai,cb⟩
     exact Mw.nil ((ag) ⟨z,b7,a,a3,b9,O,(((i.j C).j Q).j ai).w,O,((((I.up i).up C).up Q).up ai),(a5.up ai),cb,Y⟩)
    ·exact sk ((ag) ⟨z,A,a,f,b,O,Le.refl _ _,O,I,aa,B,Y⟩)
  ·refine Cw.exit ?_
   rw[bu]at Y
   refine Cw.seq (Cw.draw [3] [(0,1),(1,0),(2,1),(3,0),(4,0),(5,1),(6,0),(7,0),(8,2),(9,0)] mixed (by kernel_rfl) fun c9 d=>?_)
   have a6:=ac.n d
   have aj:=aa.up d
   refine Mw.q O O (fun _ c=>R.lda (cs:=[a,f]) ((B.up d).clcs O c) O O) (Dfl (B.up d) O O O (Mw.p O O (fun _=>zqP (xs:=A) aj.rd O) (Dfl (J.up d) O O O (Mw.p O O (fun _=>zqP (xs:=x0.Heads) (e.ul a6) O) (Mw.p O O (fun _=>R.lt O O) (Mw.tu O (T.sta (vs:=[a,f]) ((((((((b3.up l10).up W).up k).up E).up y).up F).up H).up d) O O (zah (I.up d).oc (zah aj.oc za4)) O O) ?_))))))
   rintro _ _ ⟨da,rfl,S,cc⟩
   have cd:=a6.t S
   refine m0 S fun db=>Hb O (Mw.nil ?_)
   obtain⟨dc,ce,ak,cf⟩:=((I.up d).up S).dyeO 31
   have cg:=cd.t ak
   obtain⟨dd,ch,am,ci⟩:=((aj.up S).up ak).dyeO 32
   have cj:=cg.t am
   cases Y
   rw[<- ch.trans (ce)]
   exact Cw.ret (zi2 O ((cc.up ak).up am) O (Res.mk cj ⟨a,f,O,(cf.up am).s,ci.s⟩))
theorem p51 {x0 d f x1 k0 k1 r}(h:Rd W K [d,f] x0)(Y:Vm.zh8 x0 x1=some r):Q1 51 [.agg [d,f].toArray,vS x1] W [] fun W' v=> ∃ a b,v = .tuple [.agg [a,b].toArray,vB r.2].toArray/\Ow W' k0 [] [a] r.1.Commits/\Ow W' k1 [] [b] r.1.Heads:=
 zaO.adJ (J:=[]) (fun c=>bif Nat.beq c 0 then 0 else bif Nat.beq c 31 then k0 else bif Nat.beq c 32 then k1 else 0) (c51 (h.view _) Y) fun _ _ ⟨a,b,e,i,k⟩=>⟨a,b,e,i.one1.backN O,k.one1.backN O⟩
theorem c10 {x0 Q r}(h0:Rd W0 [0] [Q] x0)(E:Gl 0 W0 [0])(Y:Vm.zi4 x0=some r):Q0 10 [Q] W0 fun Wf v=>v=vB r:=by
 unfold Vm.zi4 at Y
 refine zaO.of Tryz.func10 O O O O (sr (Nb O (ssr (mv Q O (Lw.ln x0 h0 O (Lw.gt O (nl (cn Y (fun Y=>?_) fun Y=>?_))))))))
 ·exact sr (Nb O (.ret (rt Y (Le.refl _ _))))
 ·refine sk (sr (mv Q O (cr Y (fun _=>p50 (k0:=2) (k1:=3) h0) ?_)))
  rintro a _ W4 Y l4 ⟨S,T,rfl,aq,ar⟩
  have a5:=l4.o
  refine mv (.tuple [.agg [S,T].toArray,vS a.2].toArray) O (Lw.r O (R.ext (vs:=[.agg [S,T].toArray,vS a.2]) (v:= .agg [S,T].toArray) O O) (Lw.r O (R.ext (vs:=[.agg [S,T].toArray,vS a.2]) (v:=vS a.2) O O) (al 4 [.slice none 0 0, .slice none 0 0] fun g6 W6 F b6=>?_)))
  have a7:=a5.n F
  refine sta b6 (zah (aq.up F).oc (zah (ar.up F).oc za4)) fun cz l10 au=>?_
  have av:=a7.t l10
  have aw:=(aq.up F).up l10
  have ax:=(ar.up F).up l10
  refine Ns O (sr (la au (ms O (cr Y (fun _=>p49 (K:=[0,2,3]) (k0:=5) (k1:=6) (x0:=(Vm.Repo.mk a.1.Commits a.1.Heads)) ((Repo.rd (K:=[2,3]) a.1.Commits a.1.Heads (aw.rd.sub (M:=[2,3]) O) (ax.rd.sub (M:=[2,3]) O)).sub (M:=[0,2,3]) O) ((E.ul av).sub (M:=[0,2,3]) O)) ?_))))
  rintro b _ c0 Y U ⟨V,W,rfl,ay,az⟩
  have bw:=av.n U
  refine mv (.tuple [.agg [V,W].toArray,vB b.2].toArray) O (Lw.r O (R.ext (vs:=[.agg [V,W].toArray,vB b.2]) (v:= .agg [V,W].toArray) O O) (Lw.r O (R.ext (vs:=[.agg [V,W].toArray,vB b.2]) (v:=vB b.2) O O) (al 7 [.slice none 0 0, .slice none 0 0] fun c1 c2 y bz=>?_)))
  have b0:=bw.n y
  refine sta bz (zah (ay.up y).oc (zah (az.up y).oc za4)) fun c3 A b1=>?_
  have b2:=b0.t A
  have a0:=((aw.up U).up y).up A
  have a1:=((ax.up U).up y).up A
  have a2:=((au.up U).up y).up A
  refine Nb O (sr (la a2 (ms O (cr Y (fun _=>p51 (K:=[2,3]) (k0:=8) (k1:=9) (x0:=(Vm.Repo.mk a.1.Commits a.1.Heads)) (Repo.rd (K:=[2,3]) a.1.Commits a.1.Heads (a0.rd.sub (M:=[2,3]) O) (a1.rd.sub (M:=[2,3]) O))) ?_))))
  rintro e _ c4 Y z ⟨X,Z,rfl,a3,a4⟩
  have b3:=b2.n z
  refine mv (.tuple [.agg [X,Z].toArray,vB e.2].toArray) O (Lw.r O (R.ext (vs:=[.agg [X,Z].toArray,vB e.2]) (v:= .agg [X,Z].toArray) O O) (Lw.r O (R.ext (vs:=[.agg [X,Z].toArray,vB e.2]) (v:=vB e.2) O O) (al 10 [.slice none 0 0, .slice none 0 0] fun c5 c6 f b4=>?_)))
  have b5:=b3.n f
  refine sta b4 (zah (a3.up f).oc (zah (a4.up f).oc za4)) fun a6 x a8=>?_
  have a9:=b5.t x
  have ba:=((a0.up z).up f).up x
  have bb:=((a1.up z).up f).up x
  have bc:=((((ay.up y).up A).up z).up f).up x
  have be:=((((az.up y).up A).up z).up f).up x
  have bg:=(a3.up f).up x
  have bh:=(a4.up f).up x
  have bi:=((a2.up z).up f).up x
  have bj:=((b1.up z).up f).up x
  refine Nb O (Cw.seq ?_)
  obtain⟨b7,b8,Y⟩:=zdC Y
  refine Cw.join 29 42 [42] (fun l w=> ∃ ah B,CW.w B=w/\Le [] a6 B/\l=[vB ah]/\b7 ah=some r) ?_ ?_
  ·rintro _ _ σ ⟨ah,B,rfl,k,rfl,Y⟩
   rw[b8]at Y
   have aa:=a9.n k
   have ac:=bc.up k
   have ae:=be.up k
   have af:=bj.up k
   refine cn Y (fun Y=>?_) fun Y=>?_
   ·obtain⟨b9,cb,Y⟩:=zdC Y
    refine Cw.join 43 50 [2] (fun l w=> ∃ ai aj,CW.w aj=w/\Le [] B aj/\l=[vB ai]/\b9 ai=some r) ?_ ?_
    ·rintro _ _ σ ⟨ai,aj,rfl,cc,rfl,Y⟩
     rw[cb]at Y
     have cd:=aa.n cc
     exact .ret (rt Y cd)
    ·refine rg (mb O (mb O (Lw.r O (R.beq O O) (mb O (bs Y (fun G Y=>?_) fun G Y=>?_)))))
     ·exact wak 3 G (la af (la (a8.up k) (ca Y (fun _=>p31 (K:=[5,6,8,9]) (x0:=(Vm.Repo.mk b.1.Commits b.1.Heads)) (x1:=(Vm.Repo.mk e.1.Commits e.1.Heads)) ((Repo.rd (K:=[5,6]) b.1.Commits b.1.Heads (ac.rd.sub (M:=[5,6]) O) (ae.rd.sub (M:=[5,6]) O)).sub (M:=[5,6,8,9]) O) ((Repo.rd (K:=[8,9]) e.1.Commits e.1.Heads ((bg.up k).rd.sub (M:=[8,9]) O) ((bh.up k).rd.sub (M:=[8,9]) O)).sub (M:=[5,6,8,9]) O)) fun ce cf Y cg=>Pb G O (Nb O ((ag) ⟨ce,cf,O,cg,O,Y⟩)))))
     ·exact psk 3 G O (Pb G O (Nb O ((ag) ⟨false,B,O,Le.refl _ _,O,Y⟩)))
   ·refine sk ?_
    obtain⟨ch,ci,Y⟩:=zdC Y
    refine Cw.join 51 80 [2] (fun l w=> ∃ ak am,CW.w am=w/\Le [] B am/\l=[vB ak]/\ch ak=some r) ?_ ?_
    ·rintro _ _ σ ⟨ak,am,rfl,cj,rfl,Y⟩
     rw[ci]at Y
     have ck:=aa.n cj
     exact .ret (rt Y ck)
    ·refine rg (la af (ca Y (fun _=>p32 (K:=[0,5,6]) (x0:=(Vm.Repo.mk b.1.Commits b.1.Heads)) ((Repo.rd (K:=[5,6]) b.1.Commits b.1.Heads (ac.rd.sub (M:=[5,6]) O) (ae.rd.sub (M:=[5,6]) O)).sub (M:=[0,5,6]) O) ((E.ul aa).sub (M:=[0,5,6]) O)) fun c7 cl Y d=>?_))
     have bk:=aa.n d
     refine mb O (bs Y (fun H Y=>?_) fun H Y=>?_)
     ·refine wak 4 H (la (af.up d) (ms O (ca Y (fun _=>p34 (K:=[0,5,6]) (x0:=(Vm.Repo.mk b.1.Commits b.1.Heads)) ((Repo.rd (K:=[5,6]) b.1.Commits b.1.Heads ((ac.up d).rd.sub (M:=[5,6]) O) ((ae.up d).rd.sub (M:=[5,6]) O)).sub (M:=[0,5,6]) O) ((E.ul bk).sub (M:=[0,5,6]) O)) fun c8 cm Y h=>?_)))
      have co:=bk.n h
      have an:=((ba.up k).up d).up h
      have bl:=((bb.up k).up d).up h
      have ao:=((bi.up k).up d).up h
      refine Lw.eq O (Pb H O (mb O (bs Y (fun I Y=>?_) fun I Y=>?_)))
      ·refine wak 6 I (mb O (la ao (ms O (ca Y (fun _=>p34 (K:=[0,2,3]) (x0:=(Vm.Repo.mk a.1.Commits a.1.Heads)) ((Repo.rd (K:=[2,3]) a.1.Commits a.1.Heads (an.rd.sub (M:=[2,3]) O) (bl.rd.sub (M:=[2,3]) O)).sub (M:=[0,2,3]) O) ((E.ul co).sub (M:=[0,2,3]) O)) fun c9 cp Y i=>?_))))
       have bm:=((ac.up d).up h).up i
       have bn:=((af.up d).up h).up i
       refine Lw.ge O (Lw.r O (R.beq O O) (Pb I O (mb O (bs Y (fun J Y=>?_) fun J Y=>?_))))
       ·refine wak 3 J (la bn (la (ao.up i) (ca Y (fun _=>p36 (K:=[2,3,5,6]) (x0:=(Vm.Repo.mk b.1.Commits b.1.Heads)) (x1:=(Vm.Repo.mk a.1.Commits a.1.Heads)) ((Repo.rd (K:=[5,6]) b.1.Commits b.1.Heads (bm.rd.sub (M:=[5,6]) O) ((((ae.up d).up h).up i).rd.sub (M:=[5,6]) O)).sub (M:=[2,3,5,6]) O) ((Repo.rd (K:=[2,3]) a.1.Commits a.1.Heads ((an.up i).rd.sub (M:=[2,3]) O) ((bl.up i).rd.sub (M:=[2,3]) O)).sub (M:=[2,3,5,6]) O)) fun da bp Y C=>Pb J O (mb O (bs Y (fun L Y=>?_) fun L Y=>?_)))))
        ·exact wak 7 L (fl (bn.up C) O (Lw.ln b.1.Commits (bm.up C).rd O (fl ((ao.up i).up C) O (Lw.ln a.1.Commits ((an.up i).up C).rd O (Lw.eq O (Pb L O (Nb O ((ag) ⟨((b.1.Commits.length:Int)==(a.1.Commits.length:Int)),bp,O,(((d.j h).j i).j C).w,O,Y⟩))))))))
        ·exact psk 7 L O (Pb L O (Nb O ((ag) ⟨false,bp,O,(((d.j h).j i).j C).w,O,Y⟩)))
       ·exact psk 3 J O (Pb J O (mb O (psk 7 O O (Pb O O (Nb O ((ag) ⟨false,cp,O,((d.j h).j i).w,O,Y⟩))))))
      ·exact psk 6 I O (Pb I O (mb O (psk 3 O O (Pb O O (mb O (psk 7 O O (Pb O O (Nb O ((ag) ⟨false,cm,O,(d.j h).w,O,Y⟩)))))))))
     ·exact psk 4 H O (Pb H O (mb O (psk 6 O O (Pb O O (mb O (psk 3 O O (Pb O O (mb O (psk 7 O O (Pb O O (Nb O ((ag) ⟨false,cl,O,d,O,Y⟩))))))))))))
  ·refine rg (mb O (mb O (Lw.r O (R.bne O O) (mb O (bs Y (fun N Y=>?_) fun N Y=>?_)))))
   ·exact psk 4 N O (Pb N O (mb O (psk 3 O O (Pb O O (nl ((ag) ⟨true,a6,O,Le.refl _ _,O,Y⟩))))))
   ·refine wak 4 N (la bj (la a8 (ca Y (fun _=>p31 (K:=[5,6,8,9]) (x0:=(Vm.Repo.mk b.1.Commits b.1.Heads)) (x1:=(Vm.Repo.mk e.1.Commits e.1.Heads)) ((Repo.rd (K:=[5,6]) b.1.Commits b.1.Heads (bc.rd.sub (M:=[5,6]) O) (be.rd.sub (M:=[5,6]) O)).sub (M:=[5,6,8,9]) O) ((Repo.rd (K:=[8,9]) e.1.Commits e.1.Heads (bg.rd.sub (M:=[8,9]) O) (bh.rd.sub (M:=[8,9]) O)).sub (M:=[5,6,8,9]) O)) fun db cq Y D=>?_)))
    have cs:=a9.n D
    refine Lw.r O (R.not O) (Pb N O (mb O (bs Y (fun P Y=>?_) fun P Y=>?_)))
    ·exact psk 3 P O (Pb P O (nl ((ag) ⟨true,cq,O,D,O,Y⟩)))
    ·exact wak 3 P (la (bi.up D) (ca Y (fun _=>p32 (K:=[0,2,3]) (x0:=(Vm.Repo.mk a.1.Commits a.1.Heads)) ((Repo.rd (K:=[2,3]) a.1.Commits a.1.Heads ((ba.up D).rd.sub (M:=[2,3]) O) ((bb.up D).rd.sub (M:=[2,3]) O)).sub (M:=[0,2,3]) O) ((E.ul cs).sub (M:=[0,2,3]) O)) fun ct cu Y cv=>Lw.r O (R.not O) (Pb P O (nl ((ag) ⟨(!ct),cu,O,(D.j cv).w,O,Y⟩)))))
theorem p10 {x0 a r}(b:Rd W K [a] x0)(d:Gl 0 W K)(Y:Vm.zi4 x0=some r):Q1 10 [a] W [] fun W' v=>v=vB r:=
 (c10 (b.view _) (d.view _) Y).ad (fk 0) fun _ _ e=>e
end Go.Sx
