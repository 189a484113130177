/- Walks: each function answers as its model, printed by a program of ours. Conditions: the arguments read as they are given. -/
import Derived.Test.YtjokjcdckcpijaaGreatDoorXATs
import Derived.Test.YtjokjcdckcpijaaGreatDoorXAM0
import Derived.Test.YtjokjcdckcpijaaGreatDoorXAW5
import Derived.Test.YtjokjcdckcpijaaGreatDoorXAW6
namespace Go.Sx
open Go Go.Proofs Go.Vm Rp
set_option linter.unusedVariables false
set_option linter.unusedSimpArgs false
variable {W W0:CW}{K:List Nat}
theorem c20 {x0 E x1 U r}(h0:Rd W0 [0] [E] x0)(h1:Rd W0 [0] [U] x1)(Y:Vm.zeO x0 x1=some r):Q0 20 [E,U] W0 fun Wf v=> ∃ u0,v=u0/\OwS Wf LL [] [u0] r:=by
 unfold Vm.zeO at Y
 refine zap.of Tryz.func20 O O O O (sr (Nv (.slice none 0 0) O (sr (Nv (.slice none 0 0) O (Cw.seq (Cw.block ?_))))))
 obtain⟨bk,bl,Y⟩:=za1 Y
 refine Cw.loop 11 79 [1,5,6,7,8,9,10] (fun m l w=> ∃ h z d a j7 j8 V X aw i,CW.w i=w/\Le [2,5,6] W0 i/\l=[d,a,j7,j8,V,X,aw]/\Rd i [0] [d] h/\Ow i 2 [] [a] z/\Vm.zdx x0 bk m h z=some r) _ ⟨x1,([]:List Delta),U, .slice none 0 0,undef,undef,undef,undef,undef,W0,O,Le.refl _ _,O,h1,owN 2 [],Y⟩ ?_
 rintro(_ |cu) _ _ σ ⟨h,z,d,a,j7,j8,V,X,aw,i,rfl,ax,rfl,r3,o6,Y⟩
 ·cases Y
 unfold Vm.zdx at Y
 have Z:=ax.s
 refine ssr (mv d O (Lw.ln h r3 O (Lw.gt O (nl (cn Y (fun Y=>?_) fun Y=>?_)))))
 ·refine sk (Cw.block (sr (Gi O (Ni O (ssr (mv E O (Lw.ln x0 (h0.ul Z) O (mi O (nl (Cw.block ?_))))))))))
  obtain⟨bm,bn,Y⟩:=za1 Y
  refine Cw.loop 16 29 [6,7,8,9,16] (fun m l w=> ∃ e b k aa ac f,CW.w f=w/\Le [] i f/\l=[vI e,vI b,aa,ac,vI k]/\Vm.zbL x0 h bm m e b k=some r) _ ⟨0,0,0,V,X,i,O,Le.refl _ _,O,Y⟩ ?_
  rintro(_ |cv) _ _ σ ⟨e,b,k,aa,ac,f,rfl,F,rfl,Y⟩
  ·cases Y
  unfold Vm.zbL at Y
  have G:=F.o
  have x:=o6.up F
  refine sr (Lw.lt O (nl (Cw.seq (cn Y (fun Y=>?_) fun Y=>?_))))
  ·refine sk ?_
   obtain⟨bp,bq,Y⟩:=za1 Y
   refine Cw.join 18 28 [6,7,8,9] (fun l w=> ∃ H I ae af K,CW.w K=w/\Le [] f K/\l=[vI H,vI I,ae,af]/\bp H I=some r) ?_ ?_
   ·rintro _ _ σ ⟨H,I,ae,af,K,rfl,br,rfl,Y⟩
    rw[bq]at Y
    exact rg (Lw.add O (mi O (nl ((agm) ⟨H,I,w64 (k+1),ae,af,K,O,(F.j br).w,O,Y⟩))))
   ·refine Cw.block (sr (mi O (Ni O (sr (mv E O (mi O ?_))))))
    obtain⟨cw,az,Y⟩:=ob Y
    have a0:=h0.ul (Z.trans G)
    have r41:=a0.cutV az
    refine Lw.r O (R.sl a0 az O (.inr O) (.inl ⟨O,O⟩)) (mv d O (ca Y (fun _=>p34 r41 (r3.ul G)) fun ah a1 Y a2=>Ni O (sr (mi O (mi O (Lw.gt O (nl (cn Y (fun Y=>?_) fun Y=>?_))))))))
    ·exact rg (mi O (mi O (Gi O (Ni O ((ag) ⟨k,ah,vI k,vI ah,a1,O,a2,O,Y⟩)))))
    ·exact sk ((ag) ⟨e,b,vI k,vI ah,a1,O,a2,O,Y⟩)
  ·refine Cw.exit ?_
   rw[bn]at Y
   refine sr (mv a O (Lw.ln z x.rd O (Lw.sub O (Ni O ?_))))
   obtain⟨bu,bv,Y⟩:=za1 Y
   refine Cw.join 33 75 [5] (fun l w=> ∃ L N A,CW.w A=w/\Le [2,5,6] f A/\l=[N]/\Ow A 2 [] [N] L/\bu L=some r) ?_ ?_
   ·rintro _ _ σ ⟨L,N,A,rfl,a3,rfl,bw,Y⟩
    rw[bv]at Y
    have a4:=G.t a3
    refine rg (mv d O (mi O (Lw.r O (R.max O O) ?_)))
    obtain⟨bz,a5,Y⟩:=ob Y
    have r59:=(r3.ul a4).cutV a5
    exact Lw.r O (R.sl (r3.ul a4) a5 O (.inr O) (.inl ⟨O,O⟩)) (Nv (cutV d (maxI 1 b:Int).toNat (h.length:Int).toNat (Rp.sz (Str))) O ((agm) ⟨bz,L,(cutV d (maxI 1 b:Int).toNat (h.length:Int).toNat (Rp.sz (Str))),N,vI e,vI b,aa,ac,vI (w64 ((z.length:Int)-1)),A,O,((ax.j F).j a3).w,O,r59,bw,Y⟩))
   ·refine Cw.block (sr (mi O (Lw.gt O (Nb O (cn Y (fun Y=>?_) fun Y=>?_)))))
    ·refine rg (mv a O (mi O (mi O (Lw.r O (R.bd (zs:=[vI 0,vI 0, .slice none 0 0]) (cs:=[vI e,vI b, .slice none 0 0]) [(0,vI e),(1,vI b)] O O O (zaD O O (zaD O O zcU))) (Lw.t O (T.bs 3 [.agg [vI e,vI b, .slice none 0 0].toArray] (cs:=[vI e,vI b, .slice none 0 0]) O O (bsA O)) ?_)))))
     rintro _ _ ⟨cx,cy,rfl,rfl,a6,b0⟩
     obtain⟨b1,b2,Y⟩:=ob Y
     refine Lw.t O (T.app1 (α:=Delta) (J:=[]) (K':=[]) (x.up a6) b0 (Delta.own e b ([]:List Str) (zmG [])) O O b2) ?_
     rintro a7 _ ⟨b3,rfl,b4,b5⟩
     exact Nv a7 O ((ag) ⟨b1,a7,b3,O,(a6.j b4).w,O,b5,Y⟩)
    ·obtain⟨b6,b7,Y⟩:=za1 Y
     refine Cw.join 50 61 [50] (fun l w=> ∃ ai P,CW.w P=w/\Le [] f P/\l=[vB ai]/\b6 ai=some r) ?_ ?_
     ·rintro _ _ σ ⟨ai,P,rfl,B,rfl,Y⟩
      rw[b7]at Y
      have aj:=G.n B
      refine cn Y (fun Y=>?_) fun Y=>?_
      ·refine Cw.draw [] [(0,0),(1,0),(2,0),(3,0),(4,0),(5,0),(6,1),(7,0),(8,0),(9,1),(10,2),(11,3),(12,0),(13,0),(14,3)] mixed (by kernel_rfl) fun cz ak=>?_
       have am:=aj.n ak
       have y:=(x.up B).up ak
       refine Dv a O (Di O (Dv a O (Di O ?_)))
       obtain⟨c0,C,Y⟩:=ob Y
       refine Mw.p O O (fun _=>R.ix (α:=Delta) y.rd C O O O) (Df O ?_)
       obtain⟨c1,c81,r82⟩:=(Delta.at2 (y.rd.at_ C)).cell O
       refine Mw.q O O (fun _ c=>R.ld O O (zam (Delta.at2 (y.rd.at_ C)).1 O c81 c)) (Dv d O ?_)
       obtain⟨a8,an,Y⟩:=ob Y
       refine Mw.p O O (fun _=>R.ix (α:=Str) (r3.ul am) an O O O) (Mw.q O O (fun _ c=>R.ld O O (zam ((r3.ul am).at_ an).1 O ((r3.ul am).at_ an).str c)) (Mw.t O O (T.bs 4 [vS a8] (cs:=[vS a8]) O O (bsv O)) ?_))
       rintro _ _ ⟨c2,c3,rfl,rfl,Q,b8⟩
       refine m0 Q fun c4=>?_
       obtain⟨c5,b9,a9,cb,cc⟩:=Ow.take (α:=Delta) (β:=List Str) (j:=5) (jf:=2) (y.up Q) C (zam (Delta.at2 (y.rd.at_ C)).1 O c81 ⟨_,O,(Q.sub (M:=[]) O)⟩) O
       rw[<- b9]
       obtain⟨c6,cd,Y⟩:=ob Y
       refine Mw.l O O (T.app1S (α:=Str) (K':=[]) cb (b8.up a9) (rdS _) O O cd) ?_
       rintro c7 _ ⟨c8,rfl,ba,ce⟩
       obtain⟨c9,cf,Y⟩:=ob Y
       refine Mw.p O O (fun _=>R.ix (α:=Delta) y.rd cf O O O) (Df O ?_)
       obtain⟨cg,ch,Y⟩:=ob Y
       refine Mw.lu O (T.stH (α:=Delta) (β:=List Str) (J:=[5]) (cc.up (ba.sub (M:=[5]) O) O) ce.s ch O O O O) ?_
       rintro _ _ ⟨ci,rfl,cj,ck⟩
       exact Mw.nil ((ag) ⟨cg,a,ci,O,(((((B.j ak).j Q).j a9).j ba).j cj).w,O,ck,Y⟩)
      ·refine rg (mv a O (mv d O ?_))
       obtain⟨ao,bb,Y⟩:=ob Y
       refine Lw.r O (R.ix (α:=Str) (r3.ul aj) bb O O O) (Lw.r O (R.ld O O ((r3.ul aj).at_ bb).str) (Lw.t O (T.bsS (α:=Str) (xs:=[ao]) 6 [] (W:=P) [vS ao] (Each.cons ((rdS _)) Each.nil) O) ?_))
       rintro S _ ⟨da,rfl,bc,be⟩
       refine Lw.r O (R.bd (zs:=[vI 0,vI 0, .slice none 0 0]) (cs:=[vI 0,vI 0,S]) [(2,S)] O O O (zaD be.oc O zcU)) (Lw.t O (T.bs 7 [.agg [vI 0,vI 0,S].toArray] (cs:=[vI 0,vI 0,S]) O O (bsA O)) ?_)
       rintro _ _ ⟨db,dc,rfl,rfl,ap,cl⟩
       obtain⟨cm,co,Y⟩:=ob Y
       refine Lw.t O (T.app1 (α:=Delta) (J:=[6]) (K':=[]) (((x.up B).up bc).up ap) cl (Delta.own 0 0 ([ao]:List Str) (be.up ap).s) O O co) ?_
       rintro bg _ ⟨cp,rfl,cq,ct⟩
       exact Nv bg O ((ag) ⟨cm,bg,cp,O,(((B.j bc).j ap).j cq).w,O,ct,Y⟩)
     ·refine rg (mi O (Lw.ge O (mb O (bs Y (fun D Y=>?_) fun D Y=>?_))))
      ·refine wak 7 D (mv a O (mi O ?_))
       obtain⟨bh,bi,Y⟩:=ob Y
       refine Lw.r O (R.ix (α:=Delta) x.rd bi O O O) (Lw.fa O ?_)
       obtain⟨dd,c123,r124⟩:=(Delta.at2 (x.rd.at_ bi)).cell O
       exact Lw.r O (R.ld O O c123) (Lw.ln bh.Lines r124 O (Lw.gt O (Pb D O (Nb O ((ag) ⟨decide (0< (bh.Lines.length:Int)),f,O,Le.refl _ _,O,Y⟩)))))
      ·exact psk 7 D O (Pb D O (Nb O ((ag) ⟨false,f,O,Le.refl _ _,O,Y⟩)))
 ·refine Cw.exit ?_
  rw[bl]at Y
  refine sr (mv a O (Nv a O ?_))
  cases Y
  exact Cw.ret (zhg O (Res.mk Z ⟨a,O,o6.s.sub O O⟩))
theorem p20 {x0 b x1 d k0 r}(f:Rd W K [b] x0)(h:Rd W K [d] x1)(Y:Vm.zeO x0 x1=some r):Q1 20 [b,d] W [] fun W' v=> ∃ a,v=a/\Ow W' k0 [] [a] r:=
 (c20 (f.view _) (h.view _) Y).ad (fk k0) fun _ _ ⟨a,e,i⟩=>⟨a,e,i.back (zhe _)⟩
theorem c21 {x0 a r}(b:Rd W0 [0] [a] x0)(Y:Vm.zec x0=some r):Q0 21 [a] W0 fun Wf v=>v=vI r:=by
 unfold Vm.zec at Y
 refine zap.of Tryz.func21 O O O O (sr (Ni O (sr (mv a O (Lw.ln x0 b O (Ni O (ssr (mv a O (Lw.ln x0 b O (mi O (nl (Cw.block ?_))))))))))))
 obtain⟨B,C,Y⟩:=za1 Y
 refine Cw.loop 10 19 [3,5,10] (fun m l w=> ∃ d e i f,CW.w f=w/\Le [2] W0 f/\l=[vI d,i,vI e]/\Vm.zb6 x0 B m d e=some r) _ ⟨(x0.length:Int),0,undef,W0,O,Le.refl _ _,O,Y⟩ ?_
 rintro(_ |J) _ _ σ ⟨d,e,i,f,rfl,k,rfl,Y⟩
 ·cases Y
 unfold Vm.zb6 at Y
 have h:=k.s
 refine sr (Lw.lt O (nl (Cw.seq (cn Y (fun Y=>?_) fun Y=>?_))))
 ·refine sk (Cw.seq (Cw.block (sr ?_)))
  obtain⟨x,y,Y⟩:=ob Y
  refine Lw.r O (R.ix (α:=Delta) (b.ul h) y O O O) ?_
  obtain⟨x12,c13,_,r14⟩:=((b.ul h).at_ y).cells
  obtain⟨K,rfl,r16⟩:=Delta.split r14
  refine Lw.r O (R.lda c13 O O) (al 2 [vI 0,vI 0, .slice none 0 0] fun D L z E=>?_)
  have F:=z.o
  refine sta E (zaa O (zaa O (zaa r16.oc zaw))) fun G A H=>?_
  have I:=F.t A
  exact nl (rg (mi O (fl H O (Lw.ln x.Lines (r16.ul I) O (Lw.add O (Ni O (rg (Lw.add O (mi O (nl ((agm) ⟨w64 (d+(x.Lines.length:Int)),w64 (e+1),ptr (bx D),G,O,((k.j z).j A).w,O,Y⟩)))))))))))
 ·refine Cw.exit ?_
  rw[C]at Y
  exact sr (mi O (Ni O (.ret (rt Y h))))
theorem p21 {x0 a r}(b:Rd W K [a] x0)(Y:Vm.zec x0=some r):Q1 21 [a] W [] fun W' v=>v=vI r:=
 (c21 (b.view _) Y).ad (fk 0) fun _ _ e=>e
theorem c7 {x0 z r}(d:Rd W0 [0] [z] x0)(Y:Vm.zeE x0=some r):Q0 7 [z] W0 fun Wf v=> ∃ u0,v=u0/\OwS Wf LL [] [u0] r:=by
 unfold Vm.zeE at Y
 refine zap.of Tryz.func7 O O O O (sr (Nv (.slice none 0 0) O (ssr (mv z O (Lw.ln x0 d O (Lw.gt O (nl (cn Y (fun Y=>?_) fun Y=>?_))))))))
 ·refine sr (Nv (.slice none 0 0) O ?_)
  cases Y
  exact Cw.ret (zhg O (Res.mk (Le.refl _ _) ⟨.slice none 0 0,O,(zmG []).sub O O⟩))
 ·refine sk (ssr (mv z O (Lw.ln x0 d O (mi O (nl (Cw.block ?_))))))
  obtain⟨K8,cc,Y⟩:=za1 Y
  refine Cw.loop 19 26 [2,4,19] (fun m l w=> ∃ Q S U j5 A,CW.w A=w/\Le [] W0 A/\l=[U,j5,vI S]/\Ow A 2 [] [U] Q/\Vm.zb7 x0 K8 m Q S=some r) _ ⟨([]:List Packed),0, .slice none 0 0,undef,W0,O,Le.refl _ _,O,owN 2 [],Y⟩ ?_
  rintro(_ |m9) _ _ σ ⟨Q,S,U,j5,A,rfl,l7,rfl,o4,Y⟩
  ·cases Y
  unfold Vm.zb7 at Y
  have G:=l7.o
  refine sr (Lw.lt O (nl (Cw.seq (cn Y (fun Y=>?_) fun Y=>?_))))
  ·refine sk (Cw.seq (Cw.block (sr ?_)))
   obtain⟨dh,be,Y⟩:=ob Y
   refine Lw.r O (R.ix (α:=List Str) (d.ul G) be O O O) ?_
   obtain⟨am,c16,r17⟩:=((d.ul G).at_ be).cell O
   refine Lw.r O (R.ld O O c16) (Nv am O (sr (mv am O (ca Y (fun _=>p19 r17) fun di ce Y an=>?_))))
   have cf:=G.n an
   refine Lw.r O (R.not O) (nl (cn Y (fun Y=>?_) fun Y=>?_))
   ·refine sr (Nv (.slice none 0 0) O ?_)
    cases Y
    exact Cw.ret (zhg O (Res.mk cf ⟨.slice none 0 0,O,(zmG []).sub O O⟩))
   ·exact sk (rg (Lw.add O (mi O (nl ((agm) ⟨Q,w64 (S+1),U,am,ce,O,(l7.j an).w,O,(o4.up an),Y⟩)))))
  ·refine Cw.exit ?_
   rw[cc]at Y
   refine sr (Nv (.slice none 0 0) O (sr (Nv (.slice none 0 0) O (ssr (mv z O (Lw.ln x0 (d.ul G) O (mi O (nl (Cw.block ?_)))))))))
   obtain⟨cg,ch,Y⟩:=za1 Y
   refine Cw.loop 29 77 [5,6,7,8,9,10,11,12,13,29] (fun m l w=> ∃ ao V H h B bg bh bi bj ap aq ar I,CW.w I=w/\Le [3,4,5,6,7] A I/\l=[h,B,bg,bh,bi,bj,ap,aq,ar,vI H]/\Ow I 3 [] [h] ao/\Ow I 4 [] [B] V/\Vm.zaQ x0 cg m ao V H=some r) _ ⟨([]:List Packed),([]:List Int),0, .slice none 0 0, .slice none 0 0,undef,undef,undef,undef,undef,undef,undef,A,O,Le.refl _ _,O,owN 3 [],owN 4 [],Y⟩ ?_
   rintro(_ |dj) _ _ σ ⟨ao,V,H,h,B,bg,bh,bi,bj,ap,aq,ar,I,rfl,bk,rfl,bl,ci,Y⟩
   ·cases Y
   unfold Vm.zaQ at Y
   have W:=G.t bk
   refine sr (Lw.lt O (nl (Cw.seq (cn Y (fun Y=>?_) fun Y=>?_))))
   ·refine sk (Cw.seq (Cw.block (sr (mi O ?_))))
    obtain⟨cj,bm,Y⟩:=ob Y
    refine Lw.r O (R.ix (α:=List Str) (d.ul W) bm O O O) ?_
    obtain⟨X,c49,r50⟩:=((d.ul W).at_ bm).cell O
    refine Lw.r O (R.ld O O c49) (Gi O (Nv X O (sr (mv X O (cr Y (fun _=>p20 (k0:=5) (rdN (K:=[0])) r50) ?_)))))
    rintro ck au dk Y Z ⟨_,rfl,av⟩
    have bn:=Z.o
    refine Lw.r O (R.bd (zs:=[vI 0, .slice none 0 0]) (cs:=[vI (-1),au]) [(0,vI (-1)),(1,au)] O O O (zaD O O (zaD av.oc O zcU))) (al 6 [vI 0, .slice none 0 0] fun aw dl C cl=>?_)
    have bp:=C.o
    refine sta cl (zaa O (zaa (av.up C).oc zaw)) fun bq L cm=>?_
    have br:=L.s
    refine Ni O (ssr (mv z O (mi O ?_)))
    obtain⟨bu,bv,Y⟩:=ob Y
    have bw:=d.ul (((W.trans bn).trans bp).trans br)
    have r74:=bw.cutV bv
    refine Lw.r O (R.sl bw bv O (.inl ⟨O,O⟩) (.inr O)) (Lw.ln bu r74 O (mi O (nl (Cw.block ?_))))
    obtain⟨co,cp,Y⟩:=za1 Y
    refine Cw.loop 41 68 [10,11,12,13,41] (fun m l w=> ∃ e a f D ax ay aa i k,CW.w k=w/\Le [6,7] bq k/\l=[vI e,ax,ay,aa,vI a]/\Ow k 5 [] [i] D/\Bx k 6 aw [vI f,i]/\Vm.zbp V cj bu co m e a f D=some r) _ ⟨1,0,(-1),ck,ap,aq,ar,au,bq,O,Le.refl _ _,O,((av.up C).up L),cm,Y⟩ ?_
    rintro(_ |dm) _ _ σ ⟨e,a,f,D,ax,ay,aa,i,k,rfl,M,rfl,az,a0,Y⟩
    ·cases Y
    unfold Vm.zbp at Y
    have a1:=M.s
    have ac:=(((ci.up Z).up C).up L).up M
    refine sr (Lw.lt O (nl (Cw.seq (cn Y (fun Y=>?_) fun Y=>?_))))
    ·refine sk ?_
     obtain⟨cq,ct,Y⟩:=za1 Y
     refine Cw.join 43 67 [10,11,12,13] (fun l w=> ∃ ae af ah a2 a3 a4 ai E,CW.w E=w/\Le [6,7] k E/\l=[vI ae,a2,a3,a4]/\Ow E 5 [] [ai] ah/\Bx E 6 aw [vI af,ai]/\cq ae af ah=some r) ?_ ?_
     ·rintro _ _ σ ⟨ae,af,ah,a2,a3,a4,ai,E,rfl,cu,rfl,cv,cw,Y⟩
      rw[ct]at Y
      exact rg (Lw.add O (mi O (nl ((agm) ⟨ae,w64 (a+1),af,ah,a2,a3,a4,ai,E,O,(M.j cu).w,O,cv,cw,Y⟩))))
     ·refine Cw.block (sr (mi O ?_))
      obtain⟨dn,bz,Y⟩:=ob Y
      refine Lw.r O (R.ix (α:=List Str) (r74.ul a1) bz O O O) ?_
      obtain⟨N,c112,r113⟩:=((r74.ul a1).at_ bz).cell O
      refine Lw.r O (R.ld O O c112) (Gi O (Nv N O (ssr (mv B O (mi O ?_)))))
      obtain⟨dp,b0,Y⟩:=ob Y
      refine Lw.r O (R.ix (α:=Int) ac.rd b0 O O O) (Lw.r O (R.ld O O (ac.rd.at_ b0).int) (Lw.ge O (nl (cn Y (fun Y=>?_) fun Y=>?_))))
      ·exact Cw.exit ((ag) ⟨e,f,D,vI a,N,aa,i,k,O,Le.refl _ _,O,az,a0,Y⟩)
      ·refine sk (sr (mv N O (mv X O (cr Y (fun _=>p20 (k0:=7) r113 (r50.ul (((bn.trans bp).trans br).trans a1))) ?_))))
       rintro cx b dq Y P ⟨_,rfl,b1⟩
       refine Nv b O (Cw.seq (Cw.draw [] [(0,0),(2,0),(3,1),(1,2),(4,3),(5,0)] mixed (by kernel_rfl) fun dr x=>?_))
       have b2:=(a0.up P).up x
       refine Dv b O (Dfl b2 O O O ?_)
       obtain⟨ds,cy,Y⟩:=ob Y
       refine Mw.t O O (T.call O (p21 (K:=[7]) (b1.up x).rd cy)) ?_
       rintro _ _ ⟨dt,rfl,y,rfl⟩
       have b3:=((az.up P).up x).up y
       refine m0 y fun du=>?_
       obtain⟨dv,cz,Y⟩:=ob Y
       refine Mw.l O O (T.call O (p21 (K:=[5]) b3.rd cz)) ?_
       rintro _ _ ⟨c0,rfl,F,rfl⟩
       have b4:=(b2.up y).up F
       refine Mw.p O O (fun _=>R.lt O O) (Mw.nil (cn Y (fun Y=>?_) fun Y=>?_))
       ·refine Cw.draw [6] [(0,0),(1,0),(2,0),(3,0),(4,0),(5,0),(6,1),(7,0),(8,2),(9,0)] mixed (by kernel_rfl) fun dw aj=>?_
        have a5:=((((ac.up P).up x).up y).up F).up aj
        have a6:=(((b1.up x).up y).up F).up aj
        refine Di O (Dv b O (Mw.p O O (fun _=>R.bd (zs:=[vI 0, .slice none 0 0]) (cs:=[vI a,b]) [(0,vI a),(1,b)] O O O (zaD O O (zaD a6.oc O zcU))) (Dv B O (Di O ?_))))
        obtain⟨c1,a7,Y⟩:=ob Y
        refine Mw.p O O (fun _=>R.ix (α:=Int) a5.rd a7 O O O) (Mw.q O O (fun _ c=>R.ld O O (zam (a5.rd.at_ a7).1 O (a5.rd.at_ a7).int c)) (Mw.p O O (fun _=>R.add O O) (Mw.tu O (T.sta (vs:=[vI a,b]) (b4.up aj) O O (zaa O (zaa a6.oc zaw)) O O) ?_)))
        rintro _ _ ⟨dx,rfl,a8,c2⟩
        refine m0 a8 fun dy=>Hi O (Mw.nil ?_)
        obtain⟨c3,c4,b5,c5⟩:=(a6.up a8).dyeO 5
        exact(ag) ⟨w64 (c1+1),a,cx,vI a,N,b,b,c3,c4,((((((P.j x).j y).j F).j aj).j a8).j b5).w,O,c5,(c2.up b5),Y⟩
       ·exact sk ((ag) ⟨e,f,D,vI a,N,b,i,c0,O,(((P.j x).j y).j F).w,O,(b3.up F),b4,Y⟩)
    ·refine Cw.exit ?_
     rw[cp]at Y
     refine rg (mv h O (la a0 (Lw.t O (T.bs 8 [.agg [vI f,i].toArray] (cs:=[vI f,i]) O O (bsA O)) ?_)))
     rintro _ _ ⟨dz,d0,rfl,rfl,ak,c6⟩
     obtain⟨c8,c9,Y⟩:=ob Y
     refine Lw.t O (T.app1 (α:=Packed) (J:=[5]) (K':=[]) (((((bl.up Z).up C).up L).up M).up ak) c6 (Packed.own f D (az.up ak).s) O O c9) ?_
     rintro b6 _ ⟨d1,rfl,b7,da⟩
     refine mv B O (mi O (Lw.t O (T.bs 9 [vI e] (cs:=[vI e]) O O (bsv O)) ?_))
     rintro _ _ ⟨d2,d3,rfl,rfl,a9,db⟩
     obtain⟨dc,dd,Y⟩:=ob Y
     refine Lw.t O (T.app1S (α:=Int) (K':=[]) (((ac.up ak).up b7).up a9) db (rdI _) O O dd) ?_
     rintro b8 _ ⟨de,rfl,b9,df⟩
     exact Gv b6 O (Nv b8 O (rg (Lw.add O (mi O (nl ((agm) ⟨c8,dc,w64 (H+1),b6,b8,vI H,X,ptr (bx aw),vI e,ax,ay,aa,de,O,((((((((bk.j Z).j C).j L).j M).j ak).j b7).j a9).j b9).w,O,((da.up a9).up b9),df,Y⟩))))))
   ·refine Cw.exit ?_
    rw[ch]at Y
    refine sr (mv h O (Nv h O ?_))
    cases Y
    exact Cw.ret (zhg O (Res.mk W ⟨h,O,bl.s.sub O O⟩))
theorem p7 {x0 b k0 r}(d:Rd W K [b] x0)(Y:Vm.zeE x0=some r):Q1 7 [b] W [] fun W' v=> ∃ a,v=a/\Ow W' k0 [] [a] r:=
 (c7 (d.view _) Y).ad (fk k0) fun _ _ ⟨a,e,f⟩=>⟨a,e,f.back (zhe _)⟩
theorem c46 {x0 i r}(k:Rd W0 [0] [i] x0)(Y:Vm.zd3 x0=some r):Q0 46 [i] W0 fun Wf v=>v=vB r:=by
 unfold Vm.zd3 at Y
 refine zap.of Tryz.func46 O O O O (sr (Nb O (ssr (mv i O (Lw.ln x0 k O (Lw.gt O (nl (cn Y (fun Y=>?_) fun Y=>?_))))))))
 ·exact sr (Nb O (.ret (rt Y (Le.refl _ _))))
 ·refine sk (ssr (mv i O (Lw.ln x0 k O (mi O (nl (Cw.block ?_))))))
  obtain⟨V,W,Y⟩:=za1 Y
  refine Cw.loop 10 45 [2,4,10] (fun m l w=> ∃ b x M y,CW.w y=w/\Le [2] W0 y/\l=[vB b,M,vI x]/\Vm.zbF x0 V m b x=some r) _ ⟨false,0,undef,W0,O,Le.refl _ _,O,Y⟩ ?_
  rintro(_ |m7) _ _ σ ⟨b,x,M,y,rfl,N,rfl,Y⟩
  ·cases Y
  unfold Vm.zbF at Y
  have d:=N.s
  refine sr (Lw.lt O (nl (Cw.seq (cn Y (fun Y=>?_) fun Y=>?_))))
  ·refine sk ?_
   obtain⟨X,Z,Y⟩:=za1 Y
   refine Cw.join 12 44 [2,4] (fun l w=> ∃ z F A,CW.w A=w/\Le [2] y A/\l=[vB z,F]/\X z=some r) ?_ ?_
   ·rintro _ _ σ ⟨z,F,A,rfl,aa,rfl,Y⟩
    rw[Z]at Y
    exact rg (Lw.add O (mi O (nl ((agm) ⟨z,w64 (x+1),F,A,O,(N.j aa).w,O,Y⟩))))
   ·refine Cw.block (sr ?_)
    obtain⟨ac,P,Y⟩:=ob Y
    refine Lw.r O (R.ix (α:=Delta) (k.ul d) P O O O) ?_
    obtain⟨x18,c19,_,r20⟩:=((k.ul d).at_ P).cells
    obtain⟨ax,rfl,r22⟩:=Delta.split r20
    refine Lw.r O (R.lda c19 O O) (al 2 [vI 0,vI 0, .slice none 0 0] fun Q ay G ae=>?_)
    have H:=G.o
    refine sta ae (zaa O (zaa O (zaa r22.oc zaw))) fun B I a=>?_
    have J:=I.s
    refine nl (ssr ?_)
    have S:=r22.ul (H.trans J)
    refine fl a O (Lw.ln ac.Lines S O (Lw.gt O (nl (cn Y (fun Y=>?_) fun Y=>?_))))
    ·refine Cw.seq ?_
     obtain⟨af,ah,Y⟩:=za1 Y
     refine Cw.join 18 31 [31] (fun l w=> ∃ K C,CW.w C=w/\Le [] B C/\l=[vB K]/\af K=some r) ?_ ?_
     ·rintro _ _ σ ⟨K,C,rfl,T,rfl,Y⟩
      rw[ah]at Y
      have ai:=((d.trans H).trans J).n T
      refine cn Y (fun Y=>?_) fun Y=>?_
      ·exact sr (Nb O (.ret (rt Y ai)))
      ·exact sk (Cw.exit ((ag) ⟨b,ptr (bx Q),C,O,((G.j I).j T).w,O,Y⟩))
     ·refine rg (fl a O (Lw.ne O (mb O (bs Y (fun e Y=>?_) fun e Y=>?_))))
      ·exact psk 3 e O (Pb e O (mb O (psk 4 O O (Pb O O (nl ((ag) ⟨true,B,O,Le.refl _ _,O,Y⟩))))))
      ·refine wak 3 e (fl a O (Lw.ne O (Pb e O (mb O (bs Y (fun f Y=>?_) fun f Y=>?_)))))
       ·exact psk 4 f O (Pb f O (nl ((ag) ⟨true,B,O,Le.refl _ _,O,Y⟩)))
       ·exact wak 4 f (fl a O (ca Y (fun _=>p19 S) fun aj ak Y am=>Lw.r O (R.not O) (Pb f O (nl ((ag) ⟨(!aj),ak,O,am,O,Y⟩)))))
    ·refine sk ?_
     obtain⟨an,ao,Y⟩:=za1 Y
     refine Cw.join 32 44 [44] (fun l w=> ∃ L D,CW.w D=w/\Le [] B D/\l=[vB L]/\an L=some r) ?_ ?_
     ·rintro _ _ σ ⟨L,D,rfl,U,rfl,Y⟩
      rw[ao]at Y
      have ap:=((d.trans H).trans J).n U
      refine cn Y (fun Y=>?_) fun Y=>?_
      ·exact sr (Nb O (.ret (rt Y ap)))
      ·exact sk ((ag) ⟨b,ptr (bx Q),D,O,((G.j I).j U).w,O,Y⟩)
     ·refine rg (fl a O (ca Y (fun _=>p23) fun az aq Y E=>Lw.r O (R.not O) (mb O (bs Y (fun h Y=>?_) fun h Y=>?_))))
      ·exact psk 7 h O (Pb h O (nl ((ag) ⟨true,aq,O,E,O,Y⟩)))
      ·exact wak 7 h (fl (a.up E) O (fl (a.up E) O (Lw.sub O (ca Y (fun _=>p23) fun ar au Y av=>Lw.r O (R.not O) (Pb h O (nl ((ag) ⟨(!ar),au,O,(E.j av).w,O,Y⟩)))))))
  ·refine Cw.exit ?_
   rw[W]at Y
   exact sr (Nb O (.ret (rt Y d)))
theorem p46 {x0 a r}(b:Rd W K [a] x0)(Y:Vm.zd3 x0=some r):Q1 46 [a] W [] fun W' v=>v=vB r:=
 (c46 (b.view _) Y).ad (fk 0) fun _ _ e=>e
theorem c35 {x0 f x1 C r}(X:Rd W0 [0] [f] x0)(D:Rd W0 [0] [C] x1)(Y:Vm.zcm x0 x1=some r):Q0 35 [f,C] W0 fun Wf v=> ∃ Z,v = .tuple [Z,vB r.2].toArray/\OwS Wf LL [] [Z] r.1:=by
 unfold Vm.zcm at Y
 refine zap.of Tryz.func35 O O O O (sr (Gv (.slice none 0 0) O (Nb O (Cw.seq ?_))))
 obtain⟨K3,av,Y⟩:=za1 Y
 refine Cw.join 9 16 [16] (fun l w=> ∃ L h,CW.w h=w/\Le [] W0 h/\l=[vB L]/\K3 L=some r) ?_ ?_
 ·rintro _ _ σ ⟨L,h,rfl,l2,rfl,Y⟩
  rw[av]at Y
  have M:=l2.o
  refine cn Y (fun Y=>?_) fun Y=>?_
  ·refine sr (Gv (.slice none 0 0) O (Nb O ?_))
   cases Y
   exact Cw.ret (zit O O (Res.mk M ⟨.slice none 0 0,O,(zmG []).sub O O⟩))
  ·refine sk (sr (Nv (.slice none 0 0) O (ssr (mv C O (Lw.ln x1 (D.ul M) O (mi O (nl (Cw.block ?_))))))))
   obtain⟨ax,ay,Y⟩:=za1 Y
   refine Cw.loop 19 52 [4,5,6,8,19] (fun m l w=> ∃ i k N E x a aa d,CW.w d=w/\Le [3,4] h d/\l=[x,vB k,a,aa,vI E]/\Ow d 2 [] [x] i/\Ow d 3 [] [a] N/\Vm.zbG x0 x1 ax m i k N E=some r) _ ⟨([]:List Str),false,([]:List Str),0, .slice none 0 0, .slice none 0 0,undef,h,O,Le.refl _ _,O,owN 2 [],owN 3 [],Y⟩ ?_
   rintro(_ |bn) _ _ σ ⟨i,k,N,E,x,a,aa,d,rfl,ac,rfl,o9,P,Y⟩
   ·cases Y
   unfold Vm.zbG at Y
   have y:=M.t ac
   refine sr (Lw.lt O (nl (Cw.seq (cn Y (fun Y=>?_) fun Y=>?_))))
   ·refine sk ?_
    obtain⟨a0,a1,Y⟩:=za1 Y
    refine Cw.join 21 51 [4,5,6,8] (fun l w=> ∃ F G H I J Q e,CW.w e=w/\Le [3,4] d e/\l=[I,vB G,J,Q]/\Ow e 2 [] [I] F/\Ow e 3 [] [J] H/\a0 F G H=some r) ?_ ?_
    ·rintro _ _ σ ⟨F,G,H,I,J,Q,e,rfl,a2,rfl,a3,a5,Y⟩
     rw[a1]at Y
     exact rg (Lw.add O (mi O (nl ((agm) ⟨F,G,H,w64 (E+1),I,J,Q,e,O,(ac.j a2).w,O,a3,a5,Y⟩))))
    ·refine Cw.block (sr ?_)
     obtain⟨a6,ae,Y⟩:=ob Y
     refine Lw.r O (R.ix (α:=Delta) (D.ul y) ae O O O) ?_
     obtain⟨x35,c36,_,r37⟩:=((D.ul y).at_ ae).cells
     obtain⟨bp,rfl,r39⟩:=Delta.split r37
     refine Lw.r O (R.lda c36 O O) (al 4 [vI 0,vI 0, .slice none 0 0] fun af bq z a7=>?_)
     have S:=z.o
     refine sta a7 (zaa O (zaa O (zaa r39.oc zaw))) fun br A b=>?_
     have U:=A.s
     have ah:=(o9.up z).up A
     have ai:=(P.up z).up A
     refine nl (Cw.block (sr ?_))
     have aj:=r39.ul (S.trans U)
     refine fl b O (Lw.ln a6.Lines aj O (Lw.gt O (Nb O (cn Y (fun Y=>?_) fun Y=>?_))))
     ·refine rg (mv a O (fl b O ?_))
      obtain⟨a8,a9,Y⟩:=ob Y
      refine Lw.t O (T.appP (α:=Str) ai aj O O a9) ?_
      rintro ak _ ⟨ba,rfl,am,bb⟩
      exact Nv ak O ((ag) ⟨i,k,a8,x,ak,ptr (bx af),ba,O,((z.j A).j am).w,O,(ah.up am),bb,Y⟩)
     ·refine sr ?_
      have V:=X.ul ((y.trans S).trans U)
      refine fl b O (fl b O (Lw.add O (mv f O (Lw.ln x0 V O (Lw.gt O (Nb O (cn Y (fun Y=>?_) fun Y=>?_)))))))
      ·refine sr (Gv (.slice none 0 0) O (Nb O ?_))
       cases Y
       exact Cw.ret (zit O O (Res.mk ((y.trans S).trans U) ⟨.slice none 0 0,O,(zmG []).sub O O⟩))
      ·refine rg (mv a O (mv f O (fl b O (fl b O (fl b O (Lw.add O ?_))))))
       obtain⟨bu,an,Y⟩:=ob Y
       have r61:=V.cutV an
       refine Lw.r O (R.sl V an O (.inr O) (.inr O)) ?_
       obtain⟨bc,be,Y⟩:=ob Y
       refine Lw.t O (T.appP (α:=Str) ai r61 O O be) ?_
       rintro ao _ ⟨bg,rfl,ap,bh⟩
       exact Nv ao O ((ag) ⟨i,k,bc,x,ao,ptr (bx af),bg,O,((z.j A).j ap).w,O,(ah.up ap),bh,Y⟩)
   ·refine Cw.exit ?_
    rw[ay]at Y
    refine ssr (mv a O (ca Y (fun _=>p19 (K:=[3]) P.rd) fun bv bw Y aq=>?_))
    have ar:=y.n aq
    refine Lw.r O (R.not O) (nl (cn Y (fun Y=>?_) fun Y=>?_))
    ·refine sr (Gv (.slice none 0 0) O (Nb O ?_))
     cases Y
     exact Cw.ret (zit O O (Res.mk ar ⟨.slice none 0 0,O,(zmG []).sub O O⟩))
    ·refine sk (sr (mv a O (Gv a O (Nb O ?_))))
     cases Y
     exact Cw.ret (zit O O (Res.mk ar ⟨a,O,(P.up aq).s.sub O O⟩))
 ·refine rg (mv f O (ca Y (fun _=>p19 X) fun bz bi Y W=>?_))
  have bj:=W.o
  refine Lw.r O (R.not O) (mb O (bs Y (fun B Y=>?_) fun B Y=>?_))
  ·exact psk 3 B O (Pb B O (nl ((ag) ⟨true,bi,O,W,O,Y⟩)))
  ·exact wak 3 B (mv C O (ca Y (fun _=>p46 (D.ul bj)) fun bk bl Y bm=>Lw.r O (R.not O) (Pb B O (nl ((ag) ⟨(!bk),bl,O,(W.j bm).w,O,Y⟩)))))
theorem p35 {x0 b x1 d k0 r}(f:Rd W K [b] x0)(h:Rd W K [d] x1)(Y:Vm.zcm x0 x1=some r):Q1 35 [b,d] W [] fun W' v=> ∃ a,v = .tuple [a,vB r.2].toArray/\Ow W' k0 [] [a] r.1:=
 (c35 (f.view _) (h.view _) Y).ad (fk k0) fun _ _ ⟨a,e,i⟩=>⟨a,e,i.back (zhe _)⟩
theorem c22 {x0 I r}(J:Rd W0 [0] [I] x0)(Y:Vm.zeF x0=some r):Q0 22 [I] W0 fun Wf v=> ∃ u0,v = .tuple [u0,vB r.2].toArray/\OwS (α:=List (Sh (List Str))) Wf LL [0] [u0] r.1:=by
 unfold Vm.zeF at Y
 refine zap.of Tryz.func22 O O O O (sr (Gv (.slice none 0 0) O (Nb O (ssr (mv I O (Lw.ln x0 J O (Lw.gt O (nl (cn Y (fun Y=>?_) fun Y=>?_)))))))))
 ·refine sr (Gv (.slice none 0 0) O (Nb O ?_))
  cases Y
  exact Cw.ret (zit O O (Res.mk (Le.refl _ _) ⟨.slice none 0 0,O,(zlO [0]).sub O O⟩))
 ·refine sk (sr (Nv (.slice none 0 0) O (sr (Nv (.slice none 0 0) O (ssr (mv I O (Lw.ln x0 J O (mi O (nl (Cw.block ?_))))))))))
  obtain⟨ba,bb,Y⟩:=za1 Y
  refine Cw.loop 17 63 [2,3,4,5,6,7,8,9,10,11,17] (fun m l w=> ∃ (K:List (List Str)) (L:Bool) (N:List (List Str)) (V:List Int) (y:Int) (P b z aq ar au av aw ax:Value) (e:CW),e.w=w/\Le [3,4,5,7] W0 e/\l=[P,vB L,b,z,aq,ar,au,av,aw,ax,vI y]/\Ow (α:=List (Sh (List Str))) e 2 [0] [P] K/\Ow (α:=List (Sh (List Str))) e 3 [0] [b] N/\Ow e 4 [] [z] V/\Vm.zb8 x0 ba m K L N V y=some r) _ ⟨([]:List (List Str)),false,([]:List (List Str)),([]:List Int),0, .slice none 0 0, .slice none 0 0, .slice none 0 0,undef,undef,undef,undef,undef,undef,W0,O,Le.refl _ _,O,zur 2 [0],zur 3 [0],owN 4 [],Y⟩ ?_
  rintro(_ |b9) _ _ σ ⟨K,L,N,V,y,P,b,z,aq,ar,au,av,aw,ax,e,rfl,ay,rfl,o4,o8,be,Y⟩
  ·cases Y
  unfold Vm.zb8 at Y
  have A:=ay.s
  refine sr (Lw.lt O (nl (Cw.seq (cn Y (fun Y=>?_) fun Y=>?_))))
  ·refine sk (Cw.seq (Cw.block (sr (mi O ?_))))
   obtain⟨cb,a0,Y⟩:=ob Y
   refine Lw.r O (R.ix (α:=Packed) (J.ul A) a0 O O O) ?_
   obtain⟨x27,c28,_,r29⟩:=((J.ul A).at_ a0).cells
   obtain⟨cc,rfl,r31⟩:=Packed.split r29
   refine Lw.r O (R.lda c28 O O) (al 5 [vI 0, .slice none 0 0] fun bg cd B bh=>?_)
   have W:=B.o
   refine Gi O (sta bh (zaa O (zaa r31.oc zaw)) fun ce C a1=>?_)
   have X:=C.s
   refine nl (ssr (fl a1 O (mi O (Lw.sub O (ca Y (fun _=>p23) fun cf a2 Y f=>?_)))))
   have Z:=f.o
   have aa:=((o8.up B).up C).up f
   have a3:=((be.up B).up C).up f
   have Q:=a1.up f
   refine Lw.r O (R.not O) (nl (cn Y (fun Y=>?_) fun Y=>?_))
   ·refine sr (Gv (.slice none 0 0) O (Nb O ?_))
    cases Y
    exact Cw.ret (zit O O (Res.mk (((A.trans W).trans X).trans Z) ⟨.slice none 0 0,O,(zlO [0]).sub O O⟩))
   ·refine sk (sr (Nv (.slice none 0 0) O (sr (Ni O ?_))))
    obtain⟨bi,bj,Y⟩:=za1 Y
    refine Cw.join 28 41 [8,9] (fun l w=> ∃ ac d D S,CW.w S=w/\Le [] a2 S/\l=[D,vI d]/\Rd S [0] [D] ac/\bi ac d=some r) ?_ ?_
    ·rintro _ _ σ ⟨ac,d,D,S,rfl,h,rfl,r53,Y⟩
     rw[bj]at Y
     have a4:=h.o
     refine sr (mv D O (fl (Q.up h) O (cr Y (fun _=>p35 (k0:=7) r53 (r31.ul (((W.trans X).trans Z).trans a4))) ?_)))
     rintro i _ ae Y E ⟨a,rfl,bk⟩
     have bl:=((((A.trans W).trans X).trans Z).trans a4).n E
     refine mv (.tuple [a,vB i.2].toArray) O (Lw.r O (R.ext (vs:=[a,vB i.2]) (v:=a) O O) (Lw.r O (R.ext (vs:=[a,vB i.2]) (v:=vB i.2) O O) (Gv a O (Nb O (Cw.seq ?_)))))
     obtain⟨bm,bn,Y⟩:=za1 Y
     refine Cw.join 49 54 [54] (fun l w=> ∃ af ah,CW.w ah=w/\Le [] ae ah/\l=[vB af]/\bm af=some r) ?_ ?_
     ·rintro _ _ σ ⟨af,ah,rfl,k,rfl,Y⟩
      rw[bn]at Y
      have bp:=bl.n k
      have ai:=bk.up k
      refine cn Y (fun Y=>?_) fun Y=>?_
      ·refine sr (Gv (.slice none 0 0) O (Nb O ?_))
       cases Y
       exact Cw.ret (zit O O (Res.mk bp ⟨.slice none 0 0,O,(zlO [0]).sub O O⟩))
      ·refine sk (rg (mv b O (mv a O (Lw.t O (T.bs 8 [a] (cs:=[a]) (bsc ai.oc) O (bsv ai.oc)) ?_))))
       rintro _ _ ⟨cg,ch,rfl,rfl,F,bq⟩
       obtain⟨br,bu,G,bv⟩:=zgV _ 7
       rw[<- bu]
       have bw:Rd (α:=List Str) br [0] [a] i.1:=by rw[bv];exact((ai.up F).rd.dye 7).sub (M:=[0]) O
       obtain⟨bz,b0,Y⟩:=ob Y
       refine Lw.t O (T.app1S (α:=Sh (List Str)) (K':=[0]) (((((aa.up h).up E).up k).up F).up G) (bq.up G) bw.sh1 O O b0) ?_
       rintro a5 _ ⟨ci,rfl,aj,b1⟩
       refine mv z O (mi O (Lw.t O (T.bs 9 [vI d] (cs:=[vI d]) O O (bsv O)) ?_))
       rintro _ _ ⟨cj,ck,rfl,rfl,U,b2⟩
       obtain⟨b3,b4,Y⟩:=ob Y
       refine Lw.t O (T.app1S (α:=Int) (K':=[]) (((((((a3.up h).up E).up k).up F).up G).up aj).up U) b2 (rdI _) O O b4) ?_
       rintro a6 _ ⟨b5,rfl,ak,b6⟩
       exact Gv a5 O (Nv a6 O (rg (Lw.add O (mi O (nl ((agm) ⟨K,L,bz,b3,w64 (y+1),P,a5,a6,vI y,ptr (bx bg),D,vI d,a,vB i.2,b5,O,(((((((((((ay.j B).j C).j f).j h).j E).j k).j F).j G).j aj).j U).j ak).w,O,(((((((((((o4.up B).up C).up f).up h).up E).up k).up F).up G).up aj).up U).up ak),((b1.up U).up ak),b6,Y⟩))))))
     ·refine rg (mb O (Lw.r O (R.not O) (mb O (bs Y (fun H Y=>?_) fun H Y=>?_))))
      ·exact psk 2 H O (Pb H O (nl ((ag) ⟨true,ae,O,Le.refl _ _,O,Y⟩)))
      ·exact wak 2 H (mi O (Lw.gt O (Pb H O (nl ((ag) ⟨decide (3< (d:Int)),ae,O,Le.refl _ _,O,Y⟩)))))
    ·refine sr (fl Q O (Lw.ge O (nl (cn Y (fun Y=>?_) fun Y=>?_))))
     ·refine Cw.draw [] [(0,0),(1,0),(2,1),(3,0),(4,1),(5,0),(6,0),(7,1),(8,0),(9,1),(10,0),(11,0),(12,0)] mixed (by kernel_rfl) fun a7 x=>?_
      have am:=a3.up x
      refine Dv b O (Dfl (Q.up x) O O O ?_)
      obtain⟨b7,an,Y⟩:=ob Y
      have a8:Rd (α:=List (List Str)) a7 [3,0] [b] N:=Ow.rdSh (aa.up x)
      refine Mw.p O O (fun _=>R.ix (α:=List Str) a8 an O O O) ?_
      obtain⟨a9,c132,r133⟩:=Ow.cellSh1 (α:=List Str) (aa.up x) an
      refine Mw.q O O (fun _ c=>R.ld O O (zam (a8.at_ an).1 O c132 c)) (Dv z O (Dfl (Q.up x) O O O ?_))
      obtain⟨b8,ao,Y⟩:=ob Y
      exact Mw.p O O (fun _=>R.ix (α:=Int) am.rd ao O O O) (Mw.q O O (fun _ c=>R.ld O O (zam (am.rd.at_ ao).1 O (am.rd.at_ ao).int c)) (Mw.p O O (fun _=>R.add O O) (Hv a9 O (Hi O (Mw.nil ((ag) ⟨b7,w64 (b8+1),a9,a7,O,x,O,r133,Y⟩))))))
     ·exact sk ((ag) ⟨([]:List Str),1, .slice none 0 0,a2,O,Le.refl _ _,O,rdN,Y⟩)
  ·refine Cw.exit ?_
   rw[bb]at Y
   refine sr (mv b O (Gv b O (Nb O ?_)))
   cases Y
   exact Cw.ret (zit O O (Res.mk A ⟨b,O,o8.s.sub O O⟩))
theorem p22 {x0 b k0 r}(d:Rd W K [b] x0)(Y:Vm.zeF x0=some r):Q1 22 [b] W [] fun W' v=> ∃ a,v = .tuple [a,vB r.2].toArray/\Ow (α:=List (Sh (List Str))) W' k0 (0::K) [a] r.1:=
 (c22 (d.view _) Y).ad (fk k0) fun _ _ ⟨a,e,f⟩=>⟨a,e,f.backS (zhe _) O⟩
theorem c8 {x0 e x1 r}(y:Rd W0 [0] [e] x0)(Y:Vm.zd4 x0 x1=some r):Q0 8 [e,vI x1] W0 fun Wf v=> ∃ z,v = .tuple [z,vB r.2].toArray/\Rd Wf [0] [z] r.1:=by
 unfold Vm.zd4 at Y
 refine zap.of Tryz.func8 O O O O (sr (Gv (.slice none 0 0) O (Nb O (sr (mv e O (cr Y (fun _=>p22 (k0:=2) y) ?_))))))
 rintro b _ h Y H ⟨a,rfl,I⟩
 have A:Ow (α:=List (Sh (List Str))) h 2 [0] [a] b.1:=I.sub O
 have B:=H.o
 refine mv (.tuple [a,vB b.2].toArray) O (Lw.r O (R.ext (vs:=[a,vB b.2]) (v:=a) O O) (Lw.r O (R.ext (vs:=[a,vB b.2]) (v:=vB b.2) O O) (Gv a O (Nb O (Cw.seq ?_)))))
 obtain⟨J,L,Y⟩:=za1 Y
 refine Cw.join 13 22 [22] (fun l w=> ∃ i f,CW.w f=w/\Le [] h f/\l=[vB i]/\J i=some r) ?_ ?_
 ·rintro _ _ σ ⟨i,f,rfl,k,rfl,Y⟩
  rw[L]at Y
  have C:=B.n k
  refine cn Y (fun Y=>?_) fun Y=>?_
  ·refine sr (Gv (.slice none 0 0) O (Nb O ?_))
   cases Y
   exact Cw.ret (zit O O (Res.mk C ⟨.slice none 0 0,O,(rdN (K:=[0]))⟩))
  ·refine sk (sr (mv a O (mi O ?_)))
   obtain⟨N,D,Y⟩:=ob Y
   have E:Rd (α:=List (List Str)) f [2,0] [a] b.1:=Ow.rdSh (A.up k)
   refine Lw.r O (R.ix (α:=List Str) E D O O O) ?_
   obtain⟨x,c16,r17⟩:=(E.at_ D).cell O
   refine Lw.r O (R.ld O O c16) (Gv x O (Nb O ?_))
   obtain⟨F,P,Q,G⟩:=zgV _ 2
   have S:Rd F [0] [x] N:=by rw[G];exact(r17.dye 2).sub (M:=[0]) O
   have X:Rd (α:=List (List Str)) F [0] [a] b.1:=by rw[G];exact((A.up k).rd.dye 2).sub (M:=[0]) O
   have T:=C.t Q
   cases Y
   rw[<- P]
   exact Cw.ret (zit O O (Res.mk T ⟨x,O,S⟩))
 ·refine rg (mb O (Lw.r O (R.not O) (mb O (bs Y (fun d Y=>?_) fun d Y=>?_))))
  ·exact psk 6 d O (Pb d O (nl ((ag) ⟨true,h,O,Le.refl _ _,O,Y⟩)))
  ·exact wak 6 d (mi O (mv e O (Lw.ln x0 (y.ul B) O (Lw.sub O (ca Y (fun _=>p23) fun U V Y W=>Lw.r O (R.not O) (Pb d O (nl ((ag) ⟨(!U),V,O,W,O,Y⟩))))))))
theorem p8 {x0 b x1 r}(d:Rd W K [b] x0)(Y:Vm.zd4 x0 x1=some r):Q1 8 [b,vI x1] W [] fun W' v=> ∃ a,v = .tuple [a,vB r.2].toArray/\Rd W' (0::K) [a] r.1:=
 (c8 (d.view _) Y).ad (fk 0) fun _ _ ⟨a,e,f⟩=>⟨a,e,f.back O⟩
theorem c9 {x0 b x1 e r}(d:Rd W0 [0] [b] x0)(f:Rd W0 [0] [e] x1)(Y:Vm.zcK x0 x1=some r):Q0 9 [b,e] W0 fun Wf v=>v=vB r:=by
 unfold Vm.zcK at Y
 refine zap.of Tryz.func9 O O O O (sr (Nb O (ssr (mv b O (Lw.ln x0 d O (mv e O (Lw.ln x1 f O (Lw.ne O (nl (cn Y (fun Y=>?_) fun Y=>?_))))))))))
 ·exact sr (Nb O (.ret (rt Y (Le.refl _ _))))
 ·refine sk (ssr (Ni O (Cw.block ?_)))
  obtain⟨B,C,Y⟩:=za1 Y
  refine Cw.loop 11 25 [4,5] (fun m l w=> ∃ h i k,CW.w k=w/\Le [] W0 k/\l=[vB h,vI i]/\Vm.zbH x0 x1 B m h i=some r) _ ⟨false,0,W0,O,Le.refl _ _,O,Y⟩ ?_
  rintro(_ |E) _ _ σ ⟨h,i,k,rfl,A,rfl,Y⟩
  ·cases Y
  unfold Vm.zbH at Y
  have x:=A.o
  refine ssr (mi O (mv b O (Lw.ln x0 (d.ul x) O (Lw.lt O (nl (cn Y (fun Y=>?_) fun Y=>?_))))))
  ·refine sk (Cw.seq (Cw.block (Cw.seq (Cw.draw [] [(0,0),(1,0),(2,0),(3,1),(4,0),(5,0),(6,0),(7,1),(8,0)] mixed (by kernel_rfl) fun D l10=>?_))))
   have a:=x.n l10
   refine Dv b O (Di O ?_)
   obtain⟨F,y,Y⟩:=ob Y
   refine Mw.p O O (fun _=>R.ix (α:=Str) (d.ul a) y O O O) (Mw.q O O (fun _ c=>R.ld O O (zam ((d.ul a).at_ y).1 O ((d.ul a).at_ y).str c)) (Dv e O (Di O ?_)))
   obtain⟨G,z,Y⟩:=ob Y
   refine Mw.p O O (fun _=>R.ix (α:=Str) (f.ul a) z O O O) (Mw.q O O (fun _ c=>R.ld O O (zam ((f.ul a).at_ z).1 O ((f.ul a).at_ z).str c)) (Mw.p O O (fun _=>R.sne O O) (Mw.nil (cn Y (fun Y=>?_) fun Y=>?_))))
   ·exact sr (Nb O (.ret (rt Y a)))
   ·exact sk (rg (mi O (Lw.add O (Ni O ((agm) ⟨h,w64 (i+1),D,O,(A.j l10).w,O,Y⟩)))))
  ·refine Cw.exit ?_
   rw[C]at Y
   exact sr (Nb O (.ret (rt Y x)))
theorem p9 {x0 a x1 b r}(d:Rd W K [a] x0)(f:Rd W K [b] x1)(Y:Vm.zcK x0 x1=some r):Q1 9 [a,b] W [] fun W' v=>v=vB r:=
 (c9 (d.view _) (f.view _) Y).ad (fk 0) fun _ _ e=>e
theorem c3 {x0 ao r}(h0:Rd W0 [0] [ao] x0)(cq:Gl 0 W0 [0])(Y:Vm.zcR x0=some r):Q0 3 [ao] W0 fun Wf v=>v=vB r:=by
 unfold Vm.zcR at Y
 refine zap.of Tryz.func3 O O O O (sr (Nb O (ssr (mv ao O (Lw.ln x0 h0 O (Lw.gt O (nl (cn Y (fun Y=>?_) fun Y=>?_))))))))
 ·exact sr (Nb O (.ret (rt Y (Le.refl _ _))))
 ·refine sk (sr (mv ao O (cr Y (fun _=>p4 (k0:=2) (k1:=3) h0) ?_)))
  rintro e _ W4 Y l4 ⟨ct,d7,rfl,bz,b0⟩
  have a5:=l4.o
  refine al 4 [.slice none 0 0, .slice none 0 0] fun g6 W6 Q b6=>?_
  have a7:=a5.n Q
  refine sta b6 (zaa (bz.up Q).oc (zaa (b0.up Q).oc zaw)) fun ea l10 ay=>?_
  have b1:=a7.t l10
  have az:=(bz.up Q).up l10
  have b2:=(b0.up Q).up l10
  refine nl (sr (la ay (cr Y (fun _=>p5 (K:=[0,2,3]) (k0:=5) (x0:=(Vm.Repo.mk e.Commits e.Heads)) ((Repo.rd (K:=[2,3]) e.Commits e.Heads (az.rd.sub (M:=[2,3]) O) (b2.rd.sub (M:=[2,3]) O)).sub (M:=[0,2,3]) O) ((cq.ul b1).sub (M:=[0,2,3]) O)) ?_)))
  rintro b _ eb Y E ⟨d,rfl,b3⟩
  have cx:=b1.n E
  refine mv (.tuple [d,vB b.2].toArray) O (Lw.r O (R.ext (vs:=[d,vB b.2]) (v:=d) O O) (Lw.r O (R.ext (vs:=[d,vB b.2]) (v:=vB b.2) O O) (Gv d O (Nb O (sr (la (ay.up E) (cr Y (fun _=>p6 (K:=[2,3]) (k0:=6) (x0:=(Vm.Repo.mk e.Commits e.Heads)) (Repo.rd (K:=[2,3]) e.Commits e.Heads ((az.up E).rd.sub (M:=[2,3]) O) ((b2.up E).rd.sub (M:=[2,3]) O))) ?_)))))))
  rintro h _ ap Y S ⟨i,rfl,a0⟩
  have cy:=cx.n S
  refine mv (.tuple [i,vB h.2].toArray) O (Lw.r O (R.ext (vs:=[i,vB h.2]) (v:=i) O O) (Lw.r O (R.ext (vs:=[i,vB h.2]) (v:=vB h.2) O O) (Gv i O (Nb O (Cw.seq ?_)))))
  obtain⟨cz,c0,Y⟩:=za1 Y
  refine Cw.join 32 45 [45] (fun l w=> ∃ a1 F,CW.w F=w/\Le [] ap F/\l=[vB a1]/\cz a1=some r) ?_ ?_
  ·rintro _ _ σ ⟨a1,F,rfl,G,rfl,Y⟩
   rw[c0]at Y
   have b4:=cy.n G
   have a2:=(b3.up S).up G
   refine cn Y (fun Y=>?_) fun Y=>?_
   ·obtain⟨c1,c2,Y⟩:=za1 Y
    refine Cw.join 46 55 [2] (fun l w=> ∃ a3 a4,CW.w a4=w/\Le [] F a4/\l=[vB a3]/\c1 a3=some r) ?_ ?_
    ·rintro _ _ σ ⟨a3,a4,rfl,c4,rfl,Y⟩
     rw[c2]at Y
     have c5:=b4.n c4
     exact .ret (rt Y c5)
    ·refine rg (mb O (mb O (Lw.r O (R.beq O O) (mb O (bs Y (fun U Y=>?_) fun U Y=>?_)))))
     ·exact wak 5 U (mv d O (Lw.ln b.1 a2.rd O (mv i O (Lw.ln h.1 (a0.up G).rd O (Lw.eq O (Pb U O (Nb O ((ag) ⟨((b.1.length:Int)==(h.1.length:Int)),F,O,Le.refl _ _,O,Y⟩))))))))
     ·exact psk 5 U O (Pb U O (Nb O ((ag) ⟨false,F,O,Le.refl _ _,O,Y⟩)))
   ·refine sk (sr (mv d O (cr Y (fun _=>p7 (K:=[5]) (k0:=7) a2.rd) ?_)))
    rintro c6 b5 b7 Y V ⟨_,rfl,c7⟩
    have c8:=b4.n V
    refine Nv b5 O (ssr (Ni O (Cw.block ?_)))
    obtain⟨c9,da,Y⟩:=za1 Y
    refine Cw.loop 58 106 [2,9,10,11,12] (fun m l w=> ∃ W H b8 b9 cb X,CW.w X=w/\Le [] b7 X/\l=[vB W,vI H,b8,b9,cb]/\Vm.zav b h c6 c9 m W H=some r) _ ⟨false,0,undef,undef,undef,b7,O,Le.refl _ _,O,Y⟩ ?_
    rintro(_ |ec) _ _ σ ⟨W,H,b8,b9,cb,X,rfl,k,rfl,Y⟩
    ·cases Y
    unfold Vm.zav at Y
    have cc:=c8.n k
    have aq:=(a2.up V).up k
    refine ssr (mi O (mv d O (Lw.ln b.1 aq.rd O (Lw.lt O (nl (cn Y (fun Y=>?_) fun Y=>?_))))))
    ·refine sk (Cw.seq (Cw.block (sr (mv b5 O (mi O (cr Y (fun _=>p8 (K:=[7]) (c7.up k).rd) ?_))))))
     rintro x _ db Y Z ⟨y,rfl,dc⟩
     have dd:=dc.sub (M:=[0,7]) O
     have de:=cc.n Z
     refine mv (.tuple [y,vB x.2].toArray) O (Lw.r O (R.ext (vs:=[y,vB x.2]) (v:=y) O O) (Lw.r O (R.ext (vs:=[y,vB x.2]) (v:=vB x.2) O O) (Gv y O (Nb O (Cw.seq ?_)))))
     obtain⟨df,dg,Y⟩:=za1 Y
     refine Cw.join 70 92 [92] (fun l w=> ∃ a6 aa,CW.w aa=w/\Le [] db aa/\l=[vB a6]/\df a6=some r) ?_ ?_
     ·rintro _ _ σ ⟨a6,aa,rfl,a8,rfl,Y⟩
      rw[dg]at Y
      have cd:=de.n a8
      refine cn Y (fun Y=>?_) fun Y=>?_
      ·exact sr (Nb O (.ret (rt Y cd)))
      ·refine sk (sr (Ni O (Cw.block ?_)))
       obtain⟨dh,di,Y⟩:=za1 Y
       refine Cw.loop 93 106 [2,12] (fun m l w=> ∃ ac ae ar,CW.w ar=w/\Le [] aa ar/\l=[vB ac,vI ae]/\Vm.zaY b H dh m ac ae=some r) _ ⟨W,0,aa,O,Le.refl _ _,O,Y⟩ ?_
       rintro(_ |ed) _ _ σ ⟨ac,ae,ar,rfl,au,rfl,Y⟩
       ·cases Y
       unfold Vm.zaY at Y
       have dj:=cd.n au
       refine ssr (mi O (mi O (Lw.lt O (nl (cn Y (fun Y=>?_) fun Y=>?_)))))
       ·refine sk (Cw.seq (Cw.block (Cw.seq (Cw.draw [] [(0,0),(1,0),(2,0),(3,1),(4,0),(5,0),(6,0),(7,1),(8,3)] mixed (by kernel_rfl) fun ee a9=>?_))))
        have dk:=dj.n a9
        have I:=(((aq.up Z).up a8).up au).up a9
        refine Dv d O (Di O ?_)
        obtain⟨ef,ba,Y⟩:=ob Y
        refine Mw.p O O (fun _=>R.ix (α:=List Str) I.rd ba O O O) ?_
        obtain⟨eg,c121,r122⟩:=(I.rd.at_ ba).cell O
        refine Mw.q O O (fun _ c=>R.ld O O (zam (I.rd.at_ ba).1 O c121 c)) (Dv d O (Di O ?_))
        obtain⟨eh,bb,Y⟩:=ob Y
        refine Mw.p O O (fun _=>R.ix (α:=List Str) I.rd bb O O O) ?_
        obtain⟨ei,c126,r127⟩:=(I.rd.at_ bb).cell O
        refine Mw.q O O (fun _ c=>R.ld O O (zam (I.rd.at_ bb).1 O c126 c)) ?_
        obtain⟨ej,dl,Y⟩:=ob Y
        refine Mw.l O O (T.call O (p9 (K:=[5]) r122 r127 dl)) ?_
        rintro _ _ ⟨dm,rfl,ce,rfl⟩
        have dn:=dk.n ce
        refine Mw.nil (cn Y (fun Y=>?_) fun Y=>?_)
        ·exact sr (Nb O (.ret (rt Y dn)))
        ·exact sk (rg (mi O (Lw.add O (Ni O ((agm) ⟨ac,w64 (ae+1),dm,O,((au.j a9).j ce).w,O,Y⟩)))))
       ·refine Cw.exit ?_
        rw[di]at Y
        exact rg (mi O (Lw.add O (Ni O ((agm) ⟨ac,w64 (H+1),y,vB x.2,vI ae,ar,O,(((k.j Z).j a8).j au).w,O,Y⟩))))
     ·refine Cw.draw [] [(0,0),(1,0),(2,0),(3,1),(4,0),(5,0),(6,0),(7,1),(8,2),(9,0),(10,0),(11,0),(12,0),(13,0),(14,0),(15,0),(16,0),(17,0),(18,0),(19,1),(20,2),(21,0),(22,0)] mixed (by kernel_rfl) fun ek J=>?_
      have L:=(aq.up Z).up J
      have bc:=((((a0.up G).up V).up k).up Z).up J
      refine Dv d O (Di O ?_)
      obtain⟨el,be,Y⟩:=ob Y
      refine Mw.p O O (fun _=>R.ix (α:=List Str) L.rd be O O O) ?_
      obtain⟨em,c150,r151⟩:=(L.rd.at_ be).cell O
      refine Mw.q O O (fun _ c=>R.ld O O (zam (L.rd.at_ be).1 O c150 c)) (Dv i O (Di O ?_))
      obtain⟨en,bg,Y⟩:=ob Y
      refine Mw.p O O (fun _=>R.ix (α:=List Str) bc.rd bg O O O) ?_
      obtain⟨eo,c155,r156⟩:=(bc.rd.at_ bg).cell O
      refine Mw.q O O (fun _ c=>R.ld O O (zam (bc.rd.at_ bg).1 O c155 c)) (Dc Y (Le.refl _ _) (fun _=>p9 (K:=[5,6]) (r151.sub (M:=[5,6]) O) (r156.sub (M:=[5,6]) O)) O ?_)
      rintro ep _ cf Y af rfl dp
      refine Mw.p O O (fun _=>R.not O) (Db O (bs Y (fun N Y=>?_) fun N Y=>?_))
      ·exact dps 2 N O (Mw.p O O (fun _=>R.pk N O (v:=vB true) O) (Db O (dps 7 O O (Mw.p O O (fun _=>R.pk O O (v:=vB true) O) (Mw.nil ((ag) ⟨true,cf,O,(J.j af).w,O,Y⟩))))))
      ·refine Wp N O (fun _=>R.mv (v:=vB x.2) O) (Wp N O (fun _=>R.not O) (Mw.p O O (fun _=>R.pk N O (v:=vB (!x.2)) O) (Db O (bs Y (fun f Y=>?_) fun f Y=>?_))))
       ·exact dps 7 f O (Mw.p O O (fun _=>R.pk f O (v:=vB true) O) (Mw.nil ((ag) ⟨true,cf,O,(J.j af).w,O,Y⟩)))
       ·refine Wp f O (fun _=>R.mv (v:=y) O) (Wp f O (fun _=>R.mv (v:=d) O) (Wp f O (fun _=>R.mv (v:=vI H) O) ?_))
        obtain⟨er,bh,Y⟩:=ob Y
        refine Wp f O (fun _=>R.ix (α:=List Str) L.rd bh O O O) ?_
        obtain⟨es,c172,r173⟩:=(L.rd.at_ bh).cell O
        refine Wq f O (fun _ c=>R.ld O O (zam (L.rd.at_ bh).1 O c172 c)) ?_
        have dq:=dd.up ((J.sub (M:=[]) O).trans (af.sub (M:=[]) O)) O
        have dr:=r173.up (af.sub (M:=[]) O) O
        obtain⟨cg,ds,Y⟩:=ob Y
        refine Wt f O (T.call O (p9 (K:=[0,5,7]) (dq.sub (M:=[0,5,7]) O) (dr.sub (M:=[0,5,7]) O) ds)) ?_
        rintro _ _ ⟨dt,rfl,ch,rfl⟩
        exact mc dp ch fun et=>Wp f O (fun _=>R.not O) (Mw.p O O (fun _=>R.pk f O (v:=vB (!cg)) O) (Mw.nil ((ag) ⟨(!cg),dt,O,((J.j af).j ch).w,O,Y⟩)))
    ·refine Cw.exit ?_
     rw[da]at Y
     refine ssr (Ni O (Cw.block ?_))
     obtain⟨du,dv,Y⟩:=za1 Y
     refine Cw.loop 107 150 [2,13,14,15,16] (fun m l w=> ∃ av z ci bi bj ah,CW.w ah=w/\Le [] X ah/\l=[vB av,vI z,ci,bi,bj]/\Vm.zak e b du m av z=some r) _ ⟨W,0,undef,undef,undef,X,O,Le.refl _ _,O,Y⟩ ?_
     rintro(_ |eu) _ _ σ ⟨av,z,ci,bi,bj,ah,rfl,ai,rfl,Y⟩
     ·cases Y
     unfold Vm.zak at Y
     have cj:=cc.n ai
     have ck:=(((((az.up E).up S).up G).up V).up k).up ai
     have bk:=(((((ay.up E).up S).up G).up V).up k).up ai
     refine ssr (mi O (fl bk O (Lw.ln e.Commits ck.rd O (Lw.lt O (nl (cn Y (fun Y=>?_) fun Y=>?_))))))
     ·refine sk (Cw.seq (Cw.block (sr (Ni O (Cw.block ?_)))))
      obtain⟨dw,dx,Y⟩:=za1 Y
      refine Cw.loop 114 150 [2,14,15,16] (fun m l w=> ∃ aj A bl bm P,CW.w P=w/\Le [] ah P/\l=[vB aj,vI A,bl,bm]/\Vm.zaZ e b z dw m aj A=some r) _ ⟨av,0,bi,bj,ah,O,Le.refl _ _,O,Y⟩ ?_
      rintro(_ |ew) _ _ σ ⟨aj,A,bl,bm,P,rfl,B,rfl,Y⟩
      ·cases Y
      unfold Vm.zaZ at Y
      have dy:=cj.n B
      have bn:=ck.up B
      refine ssr (mi O (fl (bk.up B) O (mi O ?_)))
      obtain⟨dz,cl,Y⟩:=ob Y
      refine Lw.r O (R.ix (α:=Commit) bn.rd cl O O O) (Lw.fa O ?_)
      obtain⟨ex,c219,r220⟩:=(Commit.at2 (bn.rd.at_ cl)).cell O
      refine Lw.r O (R.ld O O c219) (Lw.ln dz.Tree r220 O (Lw.lt O (nl (cn Y (fun Y=>?_) fun Y=>?_))))
      ·refine sk (Cw.seq (Cw.block (sr (Nb O (ssr (Ni O (Cw.block ?_)))))))
       obtain⟨d0,d1,Y⟩:=za1 Y
       refine Cw.loop 125 148 [15,16] (fun m l w=> ∃ aw C ax,CW.w ax=w/\Le [] P ax/\l=[vB aw,vI C]/\Vm.zaB e b z A d0 m aw C=some r) _ ⟨false,0,P,O,Le.refl _ _,O,Y⟩ ?_
       rintro(_ |ey) _ _ σ ⟨aw,C,ax,rfl,D,rfl,Y⟩
       ·cases Y
       unfold Vm.zaB at Y
       have d2:=dy.n D
       have cm:=((aq.up ai).up B).up D
       refine ssr (mi O (mv d O (Lw.ln b.1 cm.rd O (Lw.lt O (nl (cn Y (fun Y=>?_) fun Y=>?_))))))
       ·refine sk (Cw.seq (Cw.block (Cw.draw [] [(0,0),(1,0),(2,0),(3,0),(4,0),(5,1),(6,0),(7,1),(8,0),(9,0),(10,0),(11,1),(12,0),(13,0),(14,0),(15,1),(16,2),(17,0),(18,0)] mixed (by kernel_rfl) fun d3 ak=>?_)))
        have bp:=(bn.up D).up ak
        have bq:=cm.up ak
        refine Db O (Db O (bs Y (fun a Y=>?_) fun a Y=>?_))
        ·exact dps 15 a O (Mw.p O O (fun _=>R.pk a O (v:=vB true) O) (Hb O (Mw.nil (rg (mi O (Lw.add O (Ni O ((agm) ⟨true,w64 (C+1),d3,O,(D.j ak).w,O,Y⟩))))))))
        ·refine Wp a O (fun _=>R.mv (v:=d) O) (Wp a O (fun _=>R.mv (v:=vI C) O) ?_)
         obtain⟨ez,br,Y⟩:=ob Y
         refine Wp a O (fun _=>R.ix (α:=List Str) bq.rd br O O O) ?_
         obtain⟨e0,c247,r248⟩:=(bq.rd.at_ br).cell O
         refine Wq a O (fun _ c=>R.ld O O (zam (bq.rd.at_ br).1 O c247 c)) (Wp a O (fun _=>R.fa O) (Wq a O (fun _ c=>R.ld (v:=ct) O O ((((bk.up B).up D).up ak).clc O O c)) (Wp a O (fun _=>R.mv (v:=vI z) O) ?_)))
         obtain⟨e1,bu,Y⟩:=ob Y
         refine Wp a O (fun _=>R.ix (α:=Commit) bp.rd bu O O O) (Wp a O (fun _=>R.fa O) ?_)
         obtain⟨e2,c252,r253⟩:=(Commit.at2 (bp.rd.at_ bu)).cell O
         refine Wq a O (fun _ c=>R.ld O O (zam (Commit.at2 (bp.rd.at_ bu)).1 O c252 c)) (Wp a O (fun _=>R.mv (v:=vI A) O) ?_)
         obtain⟨e3,bv,Y⟩:=ob Y
         refine Wp a O (fun _=>R.ix (α:=File) r253 bv O O O) (Wp a O (fun _=>R.fa O) ?_)
         obtain⟨e4,c257,r258⟩:=(File.at1 (r253.at_ bv)).cell O
         refine Wq a O (fun _ c=>R.ld O O (zam (File.at1 (r253.at_ bv)).1 O c257 c)) ?_
         obtain⟨co,d4,Y⟩:=ob Y
         refine Wt a O (T.call O (p9 (K:=[2,5]) (r248.sub (M:=[2,5]) O) (r258.sub (M:=[2,5]) O) d4)) ?_
         rintro _ _ ⟨d5,rfl,cp,rfl⟩
         exact m0 cp fun e5=>Mw.p O O (fun _=>R.pk a O (v:=vB co) O) (Hb O (Mw.nil (rg (mi O (Lw.add O (Ni O ((agm) ⟨co,w64 (C+1),d5,O,((D.j ak).j cp).w,O,Y⟩)))))))
       ·refine Cw.exit ?_
        rw[d1]at Y
        refine sr (mb O (Lw.r O (R.not O) (nl (cn Y (fun Y=>?_) fun Y=>?_))))
        ·exact sr (Nb O (.ret (rt Y d2)))
        ·exact sk (rg (mi O (Lw.add O (Ni O ((agm) ⟨aj,w64 (A+1),vB aw,vI C,ax,O,(B.j D).w,O,Y⟩)))))
      ·refine Cw.exit ?_
       rw[dx]at Y
       exact rg (mi O (Lw.add O (Ni O ((agm) ⟨aj,w64 (z+1),vI A,bl,bm,P,O,(ai.j B).w,O,Y⟩))))
     ·refine Cw.exit ?_
      rw[dv]at Y
      exact sr (Nb O (.ret (rt Y cj)))
  ·refine rg (mb O (mb O (Lw.r O (R.bne O O) (mb O (bs Y (fun am Y=>?_) fun am Y=>?_)))))
   ·exact psk 5 am O (Pb am O (mb O (psk 2 O O (Pb O O (nl ((ag) ⟨true,ap,O,Le.refl _ _,O,Y⟩))))))
   ·refine wak 5 am (mv d O (Lw.ln b.1 (b3.up S).rd O (mv i O (Lw.ln h.1 a0.rd O (Lw.ne O (Pb am O (mb O (bs Y (fun an Y=>?_) fun an Y=>?_))))))))
    ·exact psk 2 an O (Pb an O (nl ((ag) ⟨true,ap,O,Le.refl _ _,O,Y⟩)))
    ·exact wak 2 an (mb O (Lw.r O (R.not O) (Pb an O (nl ((ag) ⟨(!b.2),ap,O,Le.refl _ _,O,Y⟩)))))
theorem p3 {x0 a r}(b:Rd W K [a] x0)(d:Gl 0 W K)(Y:Vm.zcR x0=some r):Q1 3 [a] W [] fun W' v=>v=vB r:=
 (c3 (b.view _) (d.view _) Y).ad (fk 0) fun _ _ e=>e
end Go.Sx
