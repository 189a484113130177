/- Walks: each function answers as its model, printed by a program of ours. Conditions: the arguments read as they are given. -/
import Derived.Test.YtpijdodljeieaaaGreatDoorATs
import Derived.Test.YtpijdodljeieaaaGreatDoorAM5
import Derived.Test.YtpijdodljeieaaaGreatDoorAW6
import Derived.Test.YtpijdodljeieaaaGreatDoorAW9
namespace Go.Sx
open Go Go.Proofs Go.Vm Rp
set_option linter.unusedVariables false
set_option linter.unusedSimpArgs false
variable {W W0:CW}{K:List Nat}
theorem c115 {x0 x1 a r}(h:Rd W0 [0] [vS x0.Name,vI x0.At] x0)(hB1:Bx W0 2 a [vS x1])(Y:Vm.zfG x0 x1=some r):Q0 115 [.agg [vS x0.Name,vI x0.At].toArray,ptr (bx a)] W0 fun Wf v=>v=vB r/\Bx Wf 2 a [vS x1]:=by
 unfold Vm.zfG at Y
 refine zaO.of Tryz.func115 O O O O (sr (bo 3 O fun i k b e=>?_))
 have f:=b.o
 have d:=hB1.up b
 refine Nb O (sr (fl e O (lz d O (Lw.seq O (Nb O ?_)))))
 cases Y
 exact Cw.ret (zj5 O (Res.mk f ⟨O,d⟩))
theorem p115 {x0 x1 a c0 r}(b:Rd W K [vS x0.Name,vI x0.At] x0)(hB1:Bx W c0 a [vS x1])(hJ:okJ K [c0]=true)(Y:Vm.zfG x0 x1=some r):Q1 115 [.agg [vS x0.Name,vI x0.At].toArray,ptr (bx a)] W [c0] fun W' v=>v=vB r/\Bx W' c0 a [vS x1]:=
 zaO.adJ (J:=[c0]) (fun c=>bif Nat.beq c 0 then 0 else bif Nat.beq c 2 then c0 else 0) (c115 (b.view _) (hB1.viewJ 0 hJ) Y) fun _ _ ⟨e,d⟩=>⟨e,Bx.backJ 0 d O⟩
theorem c144_115 {x0 d x2 a r}(k:Rd W0 [0] [d] x0)(hB2:Bx W0 2 a [vS x2])(Y:Vm.zaw x0 x2=some r):Q0 144 [d, .func (.func 115) #[] [ptr (bx a)].toArray] W0 fun Wf v=>v=vI r/\Bx Wf 2 a [vS x2]:=by
 unfold Vm.zaw at Y
 refine zaO.of Tryz.func144 O O O O (sr (Ni O (ssr (mv d O (Lw.ln x0 k O (mi O (nl (Cw.block ?_))))))))
 obtain⟨D,E,Y⟩:=zdC Y
 refine Cw.loop 8 18 [4,5,8] (fun m l w=> ∃ e b x f,CW.w f=w/\Le [2] W0 f/\l=[vI e,x,vI b]/\Bx f 2 a [vS x2]/\Vm.zan x0 x2 D m e b=some r) _ ⟨0,0,undef,W0,O,Le.refl _ _,O,hB2,Y⟩ ?_
 rintro(_ |I) _ _ σ ⟨e,b,x,f,rfl,y,rfl,z,Y⟩
 ·cases Y
 unfold Vm.zan at Y
 have h:=y.s
 refine sr (Lw.lt O (nl (Cw.seq (cn Y (fun Y=>?_) fun Y=>?_))))
 ·refine sk (Cw.seq (Cw.block (sr (mi O (Ni O (sr (mv (.func (.func 115) #[] [ptr (bx a)].toArray) O (mv d O (mi O ?_)))))))))
  obtain⟨i,A,Y⟩:=ob Y
  refine Lw.r O (R.ix (α:=Head) (k.ul h) A O O O) ?_
  obtain⟨x13,c14,_,r15⟩:=((k.ul h).at_ A).cells
  obtain rfl:=Head.split r15
  refine Lw.r O (R.lda c14 O O) ?_
  obtain⟨J,F,Y⟩:=ob Y
  refine Lw.t O (T.callV (vals:=[.agg [vS i.Name,vI i.At].toArray]) (caps:=[ptr (bx a)]) O O (p115 (c0:=2) (x1:=x2) (Head.rd (K:=[0]) i.Name i.At) z O F)) ?_
  rintro _ _ ⟨G,rfl,B,⟨rfl,C⟩⟩
  have H:=h.t B
  refine nl (cn Y (fun Y=>?_) fun Y=>?_)
  ·refine sr (mi O (Ni O ?_))
   cases Y
   exact Cw.ret (zj5 O (Res.mk H ⟨O,C⟩))
  ·exact sk (rg (Lw.add O (mi O (nl ((agm) ⟨e,w64 (b+1),vI b,G,O,(y.j B).w,O,C,Y⟩)))))
 ·refine Cw.exit ?_
  rw[E]at Y
  refine sr (Ni O ?_)
  cases Y
  exact Cw.ret (zj5 O (Res.mk h ⟨O,z⟩))
theorem p144_115 {x0 b x2 a c0 r}(d:Rd W K [b] x0)(hB2:Bx W c0 a [vS x2])(hJ:okJ K [c0]=true)(Y:Vm.zaw x0 x2=some r):Q1 144 [b, .func (.func 115) #[] [ptr (bx a)].toArray] W [c0] fun W' v=>v=vI r/\Bx W' c0 a [vS x2]:=
 zaO.adJ (J:=[c0]) (fun c=>bif Nat.beq c 0 then 0 else bif Nat.beq c 2 then c0 else 0) (c144_115 (d.view _) (hB2.viewJ 0 hJ) Y) fun _ _ ⟨e,f⟩=>⟨e,Bx.backJ 0 f O⟩
theorem c114_115 {x0 a x2 b r}(D:Ow W0 2 [] [a] x0)(hB2:Bx W0 3 b [vS x2])(Y:Vm.zav x0 x2=some r):Q0 114 [a, .func (.func 115) #[] [ptr (bx b)].toArray] W0 fun Wf v=> ∃ L,v=L/\OwS Wf [31] [] [L] r/\Bx Wf 3 b [vS x2]:=by
 unfold Vm.zav at Y
 refine zaO.of Tryz.func114 O O O O (sr (Nv (.slice none 0 0) O (sr (mv a O (mv (.func (.func 115) #[] [ptr (bx b)].toArray) O (cr Y (fun _=>p144_115 (K:=[2]) (c0:=3) (x2:=x2) D.rd hB2 O) ?_))))))
 rintro M _ N Y E ⟨rfl,P⟩
 have Q:=E.s
 refine Ni O (ssr (mi O (Lw.eq O (nl (cn Y (fun Y=>?_) fun Y=>?_)))))
 ·refine sr (mv a O (Nv a O ?_))
  obtain⟨W7,ai,S,o7⟩:=(D.up E).dyeO 31
  have a8:=Q.t S
  cases Y
  rw[<- ai]
  exact Cw.ret (zj5 O (Res.mk a8 ⟨a,O,o7.s,(P.up S)⟩))
 ·refine sk (ssr (mi O (Lw.add O (Ni O (Cw.block ?_)))))
  obtain⟨am,an,Y⟩:=zdC Y
  refine Cw.loop 16 35 [5,6,7] (fun m l w=> ∃ d x k U f,CW.w f=w/\Le [2,3,4] N f/\l=[vI d,vI x,U]/\Bx f 3 b [vS x2]/\Ow f 2 [] [a] k/\Vm.zal x2 am m d x k=some r) _ ⟨M,w64 (M+1),x0,undef,N,O,Le.refl _ _,O,P,(D.up E),Y⟩ ?_
  rintro(_ |bc) _ _ σ ⟨d,x,k,U,f,rfl,V,rfl,W,e,Y⟩
  ·cases Y
  unfold Vm.zal at Y
  have ao:=Q.t V
  refine ssr (mi O (mv a O (Lw.ln k e.rd O (Lw.lt O (nl (cn Y (fun Y=>?_) fun Y=>?_))))))
  ·refine sk ?_
   obtain⟨ap,aq,Y⟩:=zdC Y
   refine Cw.join 22 35 [5,7] (fun l w=> ∃ y z F h,CW.w h=w/\Le [2,3,4] f h/\l=[vI y,F]/\Bx h 3 b [vS x2]/\Ow h 2 [] [a] z/\ap y z=some r) ?_ ?_
   ·rintro _ _ σ ⟨y,z,F,h,rfl,ar,rfl,au,av,Y⟩
    rw[aq]at Y
    exact rg (mi O (Lw.add O (Ni O ((agm) ⟨y,w64 (x+1),z,F,h,O,(V.j ar).w,O,au,av,Y⟩))))
   ·refine Cw.block (sr (mv a O (mi O ?_)))
    obtain⟨i,X,Y⟩:=ob Y
    refine Lw.r O (R.ix (α:=Head) e.rd X O O O) ?_
    obtain⟨x31,c32,_,r33⟩:=(e.rd.at_ X).cells
    obtain rfl:=Head.split r33
    refine Lw.r O (R.lda c32 O O) (al 4 [vS ([]:Str),vI 0] fun Z be A aw=>sta aw (zah O (zah O za4)) fun bg B aa=>nl (sr (mv (.func (.func 115) #[] [ptr (bx b)].toArray) O (la aa ?_))))
    obtain⟨bh,ax,Y⟩:=ob Y
    refine Lw.t O (T.callV (vals:=[.agg [vS i.Name,vI i.At].toArray]) (caps:=[ptr (bx b)]) O O (p115 (c0:=3) (x1:=x2) (Head.rd (K:=[0]) i.Name i.At) ((W.up A).up B) O ax)) ?_
    rintro _ _ ⟨ay,rfl,C,⟨rfl,ac⟩⟩
    have G:=((e.up A).up B).up C
    refine Lw.r O (R.not O) (nl (cn Y (fun Y=>?_) fun Y=>?_))
    ·refine sr (mv a O (mi O (la (aa.up C) ?_)))
     obtain⟨bi,az,Y⟩:=ob Y
     refine Lw.r O (R.ix (α:=Head) G.rd az O O O) ?_
     obtain⟨a0,a1,Y⟩:=ob Y
     refine Lw.u (T.stS (K':=[]) G (Head.rd (K:=[]) i.Name i.At) a1 O O O) ?_
     rintro _ _ ⟨a2,rfl,ae,a3⟩
     exact nl (rg (mi O (Lw.add O (Ni O ((ag) ⟨w64 (d+1),a0,ptr (bx Z),a2,O,(((A.j B).j C).j ae).w,O,(ac.up ae),a3,Y⟩)))))
    ·exact sk ((ag) ⟨d,k,ptr (bx Z),ay,O,((A.j B).j C).w,O,ac,G,Y⟩)
  ·refine Cw.exit ?_
   rw[an]at Y
   refine sr (mv a O (mi O ?_))
   obtain⟨bj,H,Y⟩:=ob Y
   have r60:=e.rd.cutV H
   refine Lw.r O (R.sl e.rd H O (.inr O) (.inl ⟨O,O⟩)) (Lw.u (T.clr e H O (Vm.Head.mk ([]:Str) 0:Vm.Head)) ?_)
   rintro _ _ ⟨bk,rfl,af,I⟩
   have a5:=ao.t af
   refine nl (sr (mv a O (mi O ?_)))
   obtain⟨bl,J,Y⟩:=ob Y
   have r67:=I.rd.cutV J
   refine Lw.r O (R.sl I.rd J O (.inl ⟨O,O⟩) (.inr O)) (Nv (cutV a (0:Int).toNat (d:Int).toNat (Rp.sz (Head))) O ?_)
   have a6:=Ow.preM I J
   obtain⟨bm,a7,ah,a9⟩:=a6.dyeO 31
   have ba:=a5.t ah
   cases Y
   rw[<- a7]
   exact Cw.ret (zj5 O (Res.mk ba ⟨(cutV a (0:Int).toNat (d:Int).toNat (Rp.sz (Head))),O,a9.s,((W.up af).up ah)⟩))
theorem p114_115 {x0 d x2 b k0 c0 c1 r}(f:Ow W c0 [] [d] x0)(hB2:Bx W c1 b [vS x2])(hJ:okJ K [c0,c1]=true)(Y:Vm.zav x0 x2=some r):Q1 114 [d, .func (.func 115) #[] [ptr (bx b)].toArray] W [c0,c1] fun W' v=> ∃ a,v=a/\Ow W' k0 [] [a] r/\Bx W' c1 b [vS x2]:=
 zaO.adJ (J:=[c0,c1]) (fun c=>bif Nat.beq c 0 then 0 else bif Nat.beq c 2 then c0 else bif Nat.beq c 3 then c1 else bif Nat.beq c 31 then k0 else 0) (c114_115 (f.viewJ 0 hJ) (hB2.viewJ 1 hJ) Y) fun _ _ ⟨a,e,h,i⟩=>⟨a,e,h.one1.backN O,Bx.backJ 1 i O⟩
theorem c49 {x0 H I x1 r}(h0:Rd W0 [0] [H,I] x0)(ae:Gl 0 W0 [0])(Y:Vm.zhy x0 x1=some r):Q0 49 [.agg [H,I].toArray,vS x1] W0 fun Wf v=> ∃ J L,v = .tuple [.agg [J,L].toArray,vB r.2].toArray/\OwS Wf [31] [] [J] r.1.Commits/\OwS Wf [32] [] [L] r.1.Heads:=by
 unfold Vm.zhy at Y
 obtain⟨ba,bb,M,N,A⟩:=Repo.split h0
 simp only[List.cons.injEq,and_true,true_and]at M
 obtain⟨rfl,rfl⟩:=M
 refine zaO.of Tryz.func49 O O O O (sr (bo 2 O fun g1 W1 l1 b1=>?_))
 have a2:=l1.o
 refine Lw.t O (T.box 3 (v:=vS x1) (cs:=[vS x1]) O O) ?_
 rintro _ _ ⟨g3,W3,rfl,rfl,P,b3⟩
 have a4:=a2.n P
 refine al 4 [.slice none 0 0, .slice none 0 0] fun g6 W6 B Q=>?_
 have i:=a4.n B
 have C:=(b1.up P).up B
 refine Nb O (ssr (la C (ca Y (fun _=>p32 (Repo.rd (K:=[0]) x0.Commits x0.Heads (N.ul i) (A.ul i)) (ae.ul i)) fun bj bk Y d=>?_)))
 have k:=i.n d
 refine Lw.r O (R.not O) (nl (cn Y (fun Y=>?_) fun Y=>?_))
 ·refine sr (Lw.r O (R.bd (zs:=[.slice none 0 0, .slice none 0 0]) (cs:=[.slice none 0 0, .slice none 0 0]) [] O O O zhs) (sta (Q.up d) (zah O (zah O za4)) fun bl an ao=>?_))
  have ap:=k.t an
  refine Nb O ?_
  cases Y
  exact Cw.ret (zi2 O ao O (Res.mk ap ⟨.slice none 0 0, .slice none 0 0,O,(zo3 []).sub O O,(zo3 []).sub O O⟩))
 ·refine sk (sr (la (C.up d) (cr Y (fun _=>p90 (k0:=5) (k1:=6) (Repo.rd (K:=[0]) x0.Commits x0.Heads (N.ul k) (A.ul k))) ?_)))
  rintro bm _ bn Y x ⟨D,bp,rfl,S,U⟩
  have aq:=k.n x
  refine al 7 [.slice none 0 0, .slice none 0 0] fun bq br a ar=>?_
  have au:=aq.n a
  refine sta ar (zah (S.up a).oc (zah (U.up a).oc za4)) fun bu e V=>?_
  have av:=au.t e
  refine nl (sr (fl V O (Lw.r O (R.mkF (vs:=[ptr (bx g3)]) O) (cr Y (fun _=>p114_115 (K:=[0]) (k0:=8) (c0:=6) (c1:=3) (x2:=x1) ((U.up a).up e) (((((b3.up B).up d).up x).up a).up e) O) ?_))))
  rintro aw y bv Y f ⟨_,rfl,W,bw⟩
  have ax:=av.t f
  refine Lw.fa O (Lw.u (T.st (j:=1) (v:=y) (V.up f) O O W.oc O O) ?_)
  rintro _ _ ⟨bz,rfl,h,X⟩
  have ay:=ax.t h
  refine nl (Cw.seq (Cw.draw [4] [(0,1),(1,0),(2,1),(3,0),(4,0),(5,1),(6,0),(7,0),(8,2),(9,0)] mixed (by kernel_rfl) fun b0 b=>?_))
  have Z:=ay.n b
  have aa:=((((S.up a).up e).up f).up h).up b
  have E:=(W.up h).up b
  refine Mw.q O O (fun _ c=>R.lda (cs:=[D,y]) ((X.up b).clcs O c) O O) (Dfl (X.up b) O O O (Mw.p O O (fun _=>zqP (xs:=aw) E.rd O) (Dfl (((((((C.up d).up x).up a).up e).up f).up h).up b) O O O (Mw.p O O (fun _=>zqP (xs:=x0.Heads) (A.ul Z) O) (Mw.p O O (fun _=>R.lt O O) (Mw.tu O (T.sta (vs:=[D,y]) (((((((Q.up d).up x).up a).up e).up f).up h).up b) O O (zah aa.oc (zah E.oc za4)) O O) ?_))))))
  rintro _ _ ⟨b2,rfl,z,az⟩
  have a0:=Z.t z
  refine m0 z fun b4=>Hb O (Mw.nil ?_)
  obtain⟨b5,a1,F,a3⟩:=(aa.up z).dyeO 31
  have a5:=a0.t F
  obtain⟨b7,a6,G,a8⟩:=((E.up z).up F).dyeO 32
  have a9:=a5.t G
  cases Y
  rw[<- a6.trans (a1)]
  exact Cw.ret (zi2 O ((az.up F).up G) O (Res.mk a9 ⟨D,y,O,(a3.up G).s,a8.s⟩))
theorem p49 {x0 d f x1 k0 k1 r}(h:Rd W K [d,f] x0)(i:Gl 0 W K)(Y:Vm.zhy x0 x1=some r):Q1 49 [.agg [d,f].toArray,vS x1] W [] fun W' v=> ∃ a b,v = .tuple [.agg [a,b].toArray,vB r.2].toArray/\Ow W' k0 [] [a] r.1.Commits/\Ow W' k1 [] [b] r.1.Heads:=
 zaO.adJ (J:=[]) (fun c=>bif Nat.beq c 0 then 0 else bif Nat.beq c 31 then k0 else bif Nat.beq c 32 then k1 else 0) (c49 (h.view _) (i.view _) Y) fun _ _ ⟨a,b,e,k,x⟩=>⟨a,b,e,k.one1.backN O,x.one1.backN O⟩
end Go.Sx
