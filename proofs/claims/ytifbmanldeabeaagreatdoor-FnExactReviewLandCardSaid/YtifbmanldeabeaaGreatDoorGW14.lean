/- Walks: each function answers as its model, printed by a program of ours. Conditions: the arguments read as they are given. -/
import Derived.Test.YtifbmanldeabeaaGreatDoorGTs
import Derived.Test.YtifbmanldeabeaaGreatDoorGM3
import Derived.Test.YtifbmanldeabeaaGreatDoorGW12
import Derived.Test.YtifbmanldeabeaaGreatDoorGW13
import Derived.Test.YtifbmanldeabeaaGreatDoorGW2
import Derived.Test.YtifbmanldeabeaaGreatDoorGW3
import Derived.Test.YtifbmanldeabeaaGreatDoorGW5
import Derived.Test.YtifbmanldeabeaaGreatDoorGW6
import Derived.Test.YtifbmanldeabeaaGreatDoorGW7
namespace Go.Sx
open Go Go.Proofs Go.Vm Rp
set_option linter.unusedVariables false
set_option linter.unusedSimpArgs false
variable {W W0:CW}{K:List Nat}
theorem c147 {x0 z x1 B x2 C r}(L:Rd W0 [0] [z] x0)(h1:Rd W0 [0] [B] x1)(h2:Rd W0 [0] [C] x2)(be:Gl 0 W0 [0])(Y:Vm.zkp x0 x1 x2=some r):Q0 147 [z,B,C] W0 fun Wf v=> ∃ u0 u1,v = .tuple [u0,u1].toArray/\OwS (α:=List (Sh Vm.File)) Wf [31] [0] [u0] r.1/\OwS Wf [32] [] [u1] r.2:=by
 unfold Vm.zkp at Y
 refine zao.of Tryz.func147 O O O O (sr (Gv (.slice none 0 0) O (Nv (.slice none 0 0) O (ssr (mv z O (mv B O (mv C O (ca Y (fun _=>p146 L h1 h2 be) fun z1 W3 Y l3=>?_))))))))
 have N:=l3.o
 refine Lw.r O (R.not O) (nl (cn Y (fun Y=>?_) fun Y=>?_))
 ·refine sr (Gv (.slice none 0 0) O (Nv (.slice none 0 0) O ?_))
  cases Y
  exact Cw.ret (zph O O (Res.mk N ⟨.slice none 0 0, .slice none 0 0,O,(zts [0]).sub O O,(zp0 []).sub O O⟩))
 ·refine sk (sr (Nv (.slice none 0 0) O (sr (Nv (.slice none 0 0) O (ssr (mv z O (mv B O (mv C O (Lw.t O (T.bsS (α:=Sh (List File)) (xs:=[x0,x1,x2]) 2 [0] (W:=W3) [z,B,C] (bsE [[z],[B],[C]] (zDk L.oc (zDk h1.oc (zDk h2.oc zDj))) (Each.cons ((L.ul N).sh1) (Each.cons ((h1.ul N).sh1) (Each.cons ((h2.ul N).sh1) Each.nil)))) O) ?_)))))))))
  rintro v9 _ ⟨W9,rfl,l9,o9⟩
  have cl:=N.n l9
  have cm:Rd (α:=List (List Vm.File)) W9 [2,0] [v9] ([x0,x1,x2]:List (List File)):=Ow.rdSh o9
  refine cr Y (fun _=>p174 (K:=[0,2]) (k0:=3) (cm.sub (M:=[0,2]) O)) ?_
  rintro bi el bj Y co ⟨_,rfl,aw⟩
  have cp:=cl.n co
  refine Lw.ln bi aw.rd O (mi O (nl (Cw.block ?_)))
  obtain⟨cq,ct,Y⟩:=zaY Y
  refine Cw.loop 25 59 [8,9,11,12,13,25] (fun m l w=> ∃ (F:List Vm.File) (P:List Vm.Clash) (ai:Int) (d h bk bl bm:Value) (i:CW),i.w=w/\Le [4,5,6,7,8,9] bj i/\l=[d,h,bk,bl,bm,vI ai]/\Ow (α:=List (Sh Vm.File)) i 4 [0] [d] F/\Ow i 5 [] [h] P/\Vm.zfv x0 x1 x2 bi cq m F P ai=some r) _ ⟨([]:List File),([]:List Clash),0, .slice none 0 0, .slice none 0 0,undef,undef,undef,bj,O,Le.refl _ _,O,zDn 4 [0],owN 5 [],Y⟩ ?_
  rintro(_ |em) _ _ σ ⟨F,P,ai,d,h,bk,bl,bm,i,rfl,aj,rfl,ax,ay,Y⟩
  ·cases Y
  unfold Vm.zfv at Y
  have ak:=cp.t aj
  refine sr (Lw.lt O (nl (Cw.seq (cn Y (fun Y=>?_) fun Y=>?_))))
  ·refine sk ?_
   obtain⟨cu,cv,Y⟩:=zaY Y
   refine Cw.join 27 58 [8,9,11,12,13] (fun l w=> ∃ (am:List Vm.File) (an:List Vm.Clash) (ao ap az a0 a1:Value) (G:CW),G.w=w/\Le [4,5,6,7,8,9] i G/\l=[ao,ap,az,a0,a1]/\Ow (α:=List (Sh Vm.File)) G 4 [0] [ao] am/\Ow G 5 [] [ap] an/\cu am an=some r) ?_ ?_
   ·rintro _ _ σ ⟨am,an,ao,ap,az,a0,a1,G,rfl,cw,rfl,cx,cy,Y⟩
    rw[cv]at Y
    exact rg (Lw.add O (mi O (nl ((agm) ⟨am,an,w64 (ai+1),ao,ap,az,a0,a1,G,O,(aj.j cw).w,O,cx,cy,Y⟩))))
   ·refine Cw.block (sr ?_)
    obtain⟨b,bn,Y⟩:=ob Y
    refine Lw.r O (R.ix (α:=Str) (aw.up aj).rd bn O O O) (Lw.r O (R.ld O O ((aw.up aj).rd.at_ bn).str) (Ns O (sr (mv z O (ms O (cr Y (fun _=>p176 (k0:=6) (L.ul ak)) ?_))))))
    rintro Q _ en Y S ⟨cz,rfl,c0⟩
    have bp:=ak.n S
    refine mv B O (ms O (cr Y (fun _=>p176 (k0:=7) (h1.ul bp)) ?_))
    rintro U _ eo Y H ⟨c1,rfl,bq⟩
    have c2:=bp.n H
    refine mv C O (ms O (cr Y (fun _=>p176 (k0:=8) (h2.ul c2)) ?_))
    rintro V _ ep Y D ⟨c3,rfl,br⟩
    have bu:=(c0.up H).up D
    refine cr Y (fun _=>p175 (K:=[6,7,8]) (x0:=(Vm.has.mk Q.text Q.file)) (x1:=(Vm.has.mk U.text U.file)) (x2:=(Vm.has.mk V.text V.file)) ((has.rd (K:=[6]) Q.text Q.file bu.rd).sub (M:=[6,7,8]) O) ((has.rd (K:=[7]) U.text U.file (bq.up D).rd).sub (M:=[6,7,8]) O) ((has.rd (K:=[8]) V.text V.file br.rd).sub (M:=[6,7,8]) O)) ?_
    rintro a _ er Y E ⟨e,rfl,c4⟩
    have aq:=c4.sub (M:=[0,6,7,8]) O
    refine mv (.tuple [.agg [e,vB a.1.file].toArray,vI a.2].toArray) O (Lw.r O (R.ext (vs:=[.agg [e,vB a.1.file].toArray,vI a.2]) (v:= .agg [e,vB a.1.file].toArray) O O) (Lw.r O (R.ext (vs:=[.agg [e,vB a.1.file].toArray,vI a.2]) (v:=vI a.2) O O) (al 9 [.slice none 0 0,vB false] fun bv es k c5=>sta c5 (zaa aq.oc (zaa O zaG)) fun bw y bz=>?_)))
    have b0:=(((((ay.up S).up H).up D).up E).up k).up y
    refine Ni O ?_
    obtain⟨c6,c7,Y⟩:=zaY Y
    refine Cw.join 42 49 [9] (fun l w=> ∃ X Z aa,CW.w aa=w/\Le [5] bw aa/\l=[Z]/\Ow aa 5 [] [Z] X/\c6 X=some r) ?_ ?_
    ·rintro _ _ σ ⟨X,Z,aa,rfl,f,rfl,b1,Y⟩
     rw[c7]at Y
     have b2:=((((((ax.up S).up H).up D).up E).up k).up y).up f
     refine sr (fl (bz.up f) O (nl (cn Y (fun Y=>?_) fun Y=>?_)))
     ·refine rg (mv d O (ms O (fl (bz.up f) O (Lw.r O (R.bd (zs:=[vS ([]:Str), .slice none 0 0]) (cs:=[vS b,e]) [(0,vS b),(1,e)] O O O (zaA O O (zaA aq.oc O zc8))) (Lw.t O (T.bs 10 [.agg [vS b,e].toArray] (cs:=[vS b,e]) O O (bsA O)) ?_)))))
      rintro _ _ ⟨et,c8,rfl,rfl,A,c9⟩
      have da:=aq.up ((k.sub (M:=[5,9]) O).trans ((y.sub (M:=[5,9]) O).trans ((f.sub (M:=[5,9]) O).trans (A.sub (M:=[5,9]) O)))) O
      have db:Ow (α:=List (Sh Vm.File)) c8 4 [0,6,7,8] [d] F:=(b2.up A).sub O
      obtain⟨ar,dc,Y⟩:=ob Y
      refine Lw.t O (T.app1S (α:=Sh Vm.File) (K':=[0,6,7,8]) db c9 (File.rd (K:=[0,6,7,8]) b a.1.text da).sh1 O O dc) ?_
      rintro ac _ ⟨eu,rfl,I,dd⟩
      refine Nv ac O ?_
      have de:=aq.up ((k.sub (M:=[4,5,9]) O).trans ((y.sub (M:=[4,5,9]) O).trans ((f.sub (M:=[4,5,9]) O).trans ((A.sub (M:=[4,5,9]) O).trans (I.sub (M:=[4,5,9]) O))))) O
      obtain⟨a2,df,au,a3⟩:=zmg _ 6
      have dg:Rd a2 [0,7,8] [e] a.1.text:=by rw[a3];exact(de.dye 6).sub (M:=[0,7,8]) O
      have dh:Ow (α:=List (Sh Vm.File)) a2 4 [0,7,8] [ac] ar:=by rw[a3];exact(dd.dyeA 6 O).sub O
      have ew:Rd (α:=List Str) a2 [0] [cz] Q.text:=by rw[a3];exact(((((((bu.up E).up k).up y).up f).up A).up I).rd.dye 6).sub (M:=[0]) O
      obtain⟨a5,di,a6,a7⟩:=zmg _ 7
      have dj:Rd a5 [0,8] [e] a.1.text:=by rw[a7];exact(dg.dye 7).sub (M:=[0,8]) O
      have dk:Ow (α:=List (Sh Vm.File)) a5 4 [0,8] [ac] ar:=by rw[a7];exact(dh.dyeA 7 O).sub O
      have ex:Rd (α:=List Str) a5 [0] [c1] U.text:=by rw[a7];exact(((((((((bq.up D).up E).up k).up y).up f).up A).up I).up au).rd.dye 7).sub (M:=[0]) O
      obtain⟨av,dl,b3,a8⟩:=zmg _ 8
      have ey:Rd av [0] [e] a.1.text:=by rw[a8];exact(dj.dye 8).sub (M:=[0]) O
      have dm:Ow (α:=List (Sh Vm.File)) av 4 [0] [ac] ar:=by rw[a8];exact(dk.dyeA 8 O).sub O
      have ez:Rd (α:=List Str) av [0] [c3] V.text:=by rw[a8];exact(((((((((br.up E).up k).up y).up f).up A).up I).up au).up a6).rd.dye 8).sub (M:=[0]) O
      exact(ag) ⟨ar,X,ac,Z,vS b,ptr (bx bv),vI a.2,av,dl.trans (di.trans (df)),(((((((((((S.j H).j D).j E).j k).j y).j f).j A).j I).j au).j a6).j b3).w,O,dm,(((((b1.up A).up I).up au).up a6).up b3),Y⟩
     ·exact sk ((ag) ⟨F,X,d,Z,vS b,ptr (bx bv),vI a.2,aa,O,((((((S.j H).j D).j E).j k).j y).j f).w,O,b2,b1,Y⟩)
    ·refine sr (mi O (Lw.ne O (nl (cn Y (fun Y=>?_) fun Y=>?_))))
     ·refine rg (mv h O (ms O (mi O (Lw.r O (R.bd (zs:=[vS ([]:Str),vI 0]) (cs:=[vS b,vI a.2]) [(0,vS b),(1,vI a.2)] O O O (zaA O O (zaA O O zc8))) (Lw.t O (T.bs 11 [.agg [vS b,vI a.2].toArray] (cs:=[vS b,vI a.2]) O O (bsA O)) ?_)))))
      rintro _ _ ⟨e0,e1,rfl,rfl,b4,dn⟩
      obtain⟨dp,dq,Y⟩:=ob Y
      refine Lw.t O (T.app1S (α:=Clash) (K':=[]) (b0.up b4) dn (Clash.rd (K:=[]) b a.2) O O dq) ?_
      rintro b5 _ ⟨dr,rfl,ds,dt⟩
      exact Nv b5 O ((ag) ⟨dp,b5,dr,O,(b4.j ds).w,O,dt,Y⟩)
     ·exact sk ((ag) ⟨P,h,bw,O,Le.refl _ _,O,b0,Y⟩)
  ·refine Cw.exit ?_
   rw[ct]at Y
   refine Cw.seq ?_
   obtain⟨du,dv,Y⟩:=zaY Y
   refine Cw.join 60 67 [67] (fun l w=> ∃ a9 ba,CW.w ba=w/\Le [] i ba/\l=[vB a9]/\du a9=some r) ?_ ?_
   ·rintro _ _ σ ⟨a9,ba,rfl,bb,rfl,Y⟩
    rw[dv]at Y
    have bc:=ak.n bb
    refine cn Y (fun Y=>?_) fun Y=>?_
    ·refine sr (mv z O (cr Y (fun _=>p96 (k0:=12) (L.ul bc)) ?_))
     rintro e2 b6 e3 Y dw ⟨_,rfl,dx⟩
     have dy:=bc.n dw
     refine Lw.r O (R.bd (zs:=[vS ([]:Str),vI 0]) (cs:=[vS ([]:Str),vI 4]) [(1,vI 4)] O O O (zaA O O zc8)) (Lw.t O (T.bsO (α:=Clash) (J:=[]) (xs:=[Vm.Clash.mk ([]:Str) 4]) 13 [.agg [vS ([]:Str),vI 4].toArray] (bsL [[vS ([]:Str),vI 4]] (zD1 O zDj) (OwL.cons (x:=(Vm.Clash.mk ([]:Str) 4)) (OwS.atm (K:=[]) (Clash.rd (K:=[]) ([]:Str) 4)) OwL.nil)) O) ?_)
     rintro b7 _ ⟨e4,rfl,b8,dz⟩
     have d0:=dy.n b8
     refine Gv b6 O (Nv b7 O ?_)
     obtain⟨e5,d1,b9,d2⟩:=(dx.up b8).toSh
     have d3:=d0.t b9
     obtain⟨e6,d4,cb,d5⟩:=d2.dyeO 31
     have d6:=d3.t cb
     obtain⟨e7,d7,cc,d8⟩:=((dz.up b9).up cb).dyeO 32
     have d9:=d6.t cc
     cases Y
     rw[<- d7.trans (d4.trans (d1))]
     exact Cw.ret (zph O O (Res.mk d9 ⟨b6,b7,O,(d5.up cc).s,d8.s⟩))
    ·refine sk (sr (mv d O (mv h O (Gv d O (Nv h O ?_)))))
     obtain⟨e8,ea,cd,eb⟩:=(ax.up bb).dyeO 31
     have ec:=bc.t cd
     obtain⟨e9,ed,ce,ee⟩:=((ay.up bb).up cd).dyeO 32
     have ef:=ec.t ce
     cases Y
     rw[<- ed.trans (ea)]
     exact Cw.ret (zph O O (Res.mk ef ⟨d,h,O,(eb.up ce).s,ee.s⟩))
   ·refine rg (mv h O (Lw.ln P ay.rd O (Lw.eq O (mb O (bs Y (fun ae Y=>?_) fun ae Y=>?_)))))
    ·refine wak 3 ae (mv d O ?_)
     have eg:Rd (α:=List Vm.File) i [4,0] [d] F:=Ow.rdSh ax
     exact ca Y (fun _=>p93 (K:=[0,4]) (eg.sub (M:=[0,4]) O) ((be.ul ak).sub (M:=[0,4]) O)) fun eh ei Y ej=>Lw.r O (R.not O) (Pb ae O (nl ((ag) ⟨(!eh),ei,O,ej,O,Y⟩)))
    ·exact psk 3 ae O (Pb ae O (nl ((ag) ⟨false,i,O,Le.refl _ _,O,Y⟩)))
theorem p147 {x0 d x1 f x2 h k0 k1 r}(i:Rd W K [d] x0)(k:Rd W K [f] x1)(x:Rd W K [h] x2)(y:Gl 0 W K)(Y:Vm.zkp x0 x1 x2=some r):Q1 147 [d,f,h] W [] fun W' v=> ∃ a b,v = .tuple [a,b].toArray/\Ow (α:=List (Sh Vm.File)) W' k0 (0::K) [a] r.1/\Ow W' k1 [] [b] r.2:=
 zao.adJ (J:=[]) (fun c=>bif Nat.beq c 0 then 0 else bif Nat.beq c 31 then k0 else bif Nat.beq c 32 then k1 else 0) (c147 (i.view _) (k.view _) (x.view _) (y.view _) Y) fun _ _ ⟨a,b,e,z,A⟩=>⟨a,b,e,z.one1.backNS O O,A.one1.backN O⟩
theorem c100 {x0 e x1 f x2 h r}(i:Rd W0 [0] [e] x0)(k:Rd W0 [0] [f] x1)(x:Rd W0 [0] [h] x2)(y:Gl 0 W0 [0])(Y:Vm.ze6 x0 x1 x2=some r):Q0 100 [e,f,h] W0 fun Wf v=> ∃ z,v = .tuple [z,vB r.2].toArray/\OwS (α:=List (Sh Vm.File)) Wf LL [0] [z] r.1:=by
 unfold Vm.ze6 at Y
 refine zao.of Tryz.func100 O O O O (sr (Gv (.slice none 0 0) O (Nb O (ssr (mv e O (mv f O (mv h O (ca Y (fun _=>p146 i k x y) fun I J Y C=>?_))))))))
 have b:=C.o
 refine Lw.r O (R.not O) (nl (cn Y (fun Y=>?_) fun Y=>?_))
 ·refine sr (Gv (.slice none 0 0) O (Nb O ?_))
  cases Y
  exact Cw.ret (zph O O (Res.mk b ⟨.slice none 0 0,O,(zts [0]).sub O O⟩))
 ·refine sk (sr (mv e O (mv f O (mv h O (cr Y (fun _=>p147 (k0:=2) (k1:=3) (i.ul b) (k.ul b) (x.ul b) (y.ul b)) ?_)))))
  rintro A _ D Y E ⟨a,d,rfl,F,G⟩
  have H:Ow (α:=List (Sh Vm.File)) D 2 [0] [a] A.1:=F.sub O
  have B:=b.n E
  refine mv (.tuple [a,d].toArray) O (Lw.r O (R.ext (vs:=[a,d]) (v:=a) O O) (Lw.r O (R.ext (vs:=[a,d]) (v:=d) O O) (Gv a O (Nv d O (ssr (mv d O (Lw.ln A.2 G.rd O (Lw.gt O (nl (cn Y (fun Y=>?_) fun Y=>?_))))))))))
  ·refine sr (Gv (.slice none 0 0) O (Nb O ?_))
   cases Y
   exact Cw.ret (zph O O (Res.mk B ⟨.slice none 0 0,O,(zts [0]).sub O O⟩))
  ·refine sk (sr (mv a O (Gv a O (Nb O ?_))))
   cases Y
   exact Cw.ret (zph O O (Res.mk B ⟨a,O,H.s.sub O O⟩))
theorem p100 {x0 b x1 d x2 f k0 r}(h:Rd W K [b] x0)(i:Rd W K [d] x1)(k:Rd W K [f] x2)(x:Gl 0 W K)(Y:Vm.ze6 x0 x1 x2=some r):Q1 100 [b,d,f] W [] fun W' v=> ∃ a,v = .tuple [a,vB r.2].toArray/\Ow (α:=List (Sh Vm.File)) W' k0 (0::K) [a] r.1:=
 (c100 (h.view _) (i.view _) (k.view _) (x.view _) Y).ad (fk k0) fun _ _ ⟨a,e,y⟩=>⟨a,e,y.backS (zgv _) O⟩
theorem c102 {x0 D E x1 x2 x3 y x4 b r}(V:Ow W0 2 [] [D] x0.Commits)(W:Ow W0 3 [] [E] x0.Heads)(X:Rd W0 [0] [y] x3)(Z:Ow W0 4 [] [b] x4)(Y:Vm.zcp x0 x1 x2 x3 x4=some r):Q0 102 [.agg [D,E].toArray,vS x1,vS x2,y,b] W0 fun Wf v=> ∃ F G,v = .agg [F,G].toArray/\OwS Wf [31] [] [F] r.Commits/\OwS Wf [32] [] [G] r.Heads:=by
 unfold Vm.zcp at Y
 refine zao.of Tryz.func102 O O O O (sr (bo 5 O fun g1 W1 i b1=>?_))
 have a2:=i.o
 refine al 6 [.slice none 0 0, .slice none 0 0] fun g6 W6 f b6=>?_
 have a7:=a2.n f
 refine nl (Cw.seq (Cw.draw [] [(0,0),(1,1),(2,0),(3,0),(4,0),(5,2),(6,0),(7,2),(8,3),(9,0),(10,3)] mixed (by kernel_rfl) fun bb e=>?_))
 have H:=a7.n e
 have I:=(b1.up f).up e
 refine Dfl I O O O (Dv b O (Ds O (Dv y O ?_)))
 obtain⟨ah,ai,Y⟩:=ob Y
 refine Mw.t O O (T.call O (p96 (k0:=7) (X.ul H) ai)) ?_
 rintro k _ ⟨bc,rfl,d,⟨_,rfl,L⟩⟩
 have aj:=H.n d
 have M:=(((Z.up i).up f).up e).up d
 refine m0 d fun ak=>Mw.p O O (fun _=>R.bd (zs:=[.slice none 0 0,vS ([]:Str), .slice none 0 0]) (cs:=[b,vS x2,k]) [(0,b),(1,vS x2),(2,k)] O O O (zaA M.oc O (zaA O O (zaA L.oc O zc8)))) (Mw.t O O (T.bs 8 [.agg [b,vS x2,k].toArray] (cs:=[b,vS x2,k]) O O (bsA O)) ?_)
 rintro _ _ ⟨be,bg,rfl,rfl,a,am⟩
 have an:=aj.n a
 refine mc ak a fun bh=>?_
 obtain⟨N,ao,Y⟩:=ob Y
 refine Mw.l O O (T.app1 (α:=Commit) (J:=[4,7]) (K':=[]) (((((V.up i).up f).up e).up d).up a) am (Commit.own x4 x2 ah (M.up a).s (L.up a).s) O O ao) ?_
 rintro ap _ ⟨bi,rfl,x,z⟩
 have aq:=an.t x
 refine Df O (Mw.lu O (T.st (j:=0) (v:=ap) (((I.up d).up a).up x) O O z.oc O O) ?_)
 rintro _ _ ⟨bj,rfl,h,P⟩
 have ar:=aq.t h
 refine Mw.nil (sr (la P (ms O (fl P O (Lw.ln N (z.up h).rd O (Lw.sub O (cr Y (fun _=>p99 (K:=[0]) (k0:=9) (k1:=10) (c0:=2) (c1:=3) (x0:=(Vm.Repo.mk N x0.Heads)) (z.up h) (((((((W.up i).up f).up e).up d).up a).up x).up h) O) ?_)))))))
 rintro bk _ bl Y Q ⟨au,av,rfl,S,U⟩
 have aw:=ar.t Q
 refine sta ((((((b6.up e).up d).up a).up x).up h).up Q) (zaa S.oc (zaa U.oc zaG)) fun bm A ax=>?_
 have ay:=aw.t A
 refine nl ?_
 obtain⟨bn,az,B,a0⟩:=(S.up A).dyeO 31
 have a1:=ay.t B
 obtain⟨bp,a3,C,a4⟩:=((U.up A).up B).dyeO 32
 have a5:=a1.t C
 cases Y
 rw[<- a3.trans (az)]
 exact Cw.ret (zn3 O ((ax.up B).up C) (Res.mk a5 ⟨au,av,O,(a0.up C).s,a4.s⟩))
theorem p102 {x0 d f x1 x2 x3 h x4 i k0 k1 c0 c1 c2 r}(k:Ow W c0 [] [d] x0.Commits)(x:Ow W c1 [] [f] x0.Heads)(y:Rd W K [h] x3)(z:Ow W c2 [] [i] x4)(hJ:okJ K [c0,c1,c2]=true)(Y:Vm.zcp x0 x1 x2 x3 x4=some r):Q1 102 [.agg [d,f].toArray,vS x1,vS x2,h,i] W [c0,c1,c2] fun W' v=> ∃ a b,v = .agg [a,b].toArray/\Ow W' k0 [] [a] r.Commits/\Ow W' k1 [] [b] r.Heads:=
 zao.adJ (J:=[c0,c1,c2]) (fun c=>bif Nat.beq c 0 then 0 else bif Nat.beq c 2 then c0 else bif Nat.beq c 3 then c1 else bif Nat.beq c 4 then c2 else bif Nat.beq c 31 then k0 else bif Nat.beq c 32 then k1 else 0) (c102 (k.viewJ 0 hJ) (x.viewJ 1 hJ) (y.view _) (z.viewJ 2 hJ) Y) fun _ _ ⟨a,b,e,A,B⟩=>⟨a,b,e,A.one1.backN O,B.one1.backN O⟩
theorem c101 {x0 D E x1 e f r}(S:Rd W0 [0] [D,E] x0)(T:Ow W0 2 [] [e] x1.Commits)(U:Ow W0 3 [] [f] x1.Heads)(V:Gl 0 W0 [0])(Y:Vm.zc6 x0 x1=some r):Q0 101 [.agg [D,E].toArray, .agg [e,f].toArray] W0 fun Wf v=> ∃ F G,v = .tuple [.agg [F,G].toArray,vB r.2].toArray/\OwS Wf [31] [] [F] r.1.Commits/\OwS Wf [32] [] [G] r.1.Heads:=by
 unfold Vm.zc6 at Y
 obtain⟨a1,a3,H,W,X⟩:=Repo.split S
 simp only[List.cons.injEq,and_true,true_and]at H
 obtain⟨rfl,rfl⟩:=H
 refine zao.of Tryz.func101 O O O O (sr (bo 4 O fun g1 W1 h Z=>?_))
 have a2:=h.o
 refine bo 5 O fun g5 W5 b I=>?_
 have a6:=a2.n b
 refine al 6 [.slice none 0 0, .slice none 0 0] fun a9 ba l10 J=>?_
 have L:=a6.n l10
 have i:=((T.up h).up b).up l10
 have k:=((U.up h).up b).up l10
 refine Nb O (ssr (la (I.up l10) (ca Y (fun _=>p42 (K:=[0,2,3]) (x0:=(Vm.Repo.mk x1.Commits x1.Heads)) ((Repo.rd (K:=[2,3]) x1.Commits x1.Heads (i.rd.sub (M:=[2,3]) O) (k.rd.sub (M:=[2,3]) O)).sub (M:=[0,2,3]) O) ((V.ul L).sub (M:=[0,2,3]) O)) fun bb bc Y a=>?_)))
 have d:=L.n a
 refine Lw.r O (R.not O) (nl (cn Y (fun Y=>?_) fun Y=>?_))
 ·refine sr (la (((Z.up b).up l10).up a) (cr Y (fun _=>p43 (k0:=7) (k1:=8) (Repo.rd (K:=[0]) x0.Commits x0.Heads (W.ul d) (X.ul d))) ?_))
  rintro be _ bg Y N ⟨ae,af,rfl,P,Q⟩
  have ah:=d.n N
  refine sta ((J.up a).up N) (zaa P.oc (zaa Q.oc zaG)) fun bh x ai=>?_
  have aj:=ah.t x
  refine Nb O ?_
  obtain⟨bi,ak,y,am⟩:=(P.up x).dyeO 31
  have an:=aj.t y
  obtain⟨bj,ao,z,ap⟩:=((Q.up x).up y).dyeO 32
  have aq:=an.t z
  cases Y
  rw[<- ao.trans (ak)]
  exact Cw.ret (zfY O ((ai.up y).up z) O (Res.mk aq ⟨ae,af,O,(am.up z).s,ap.s⟩))
 ·refine sk (sr (la ((I.up l10).up a) (sta (J.up a) (zaa (i.up a).oc (zaa (k.up a).oc zaG)) fun bk A ar=>?_)))
  have au:=d.t A
  refine Nb O ?_
  obtain⟨bl,av,B,aw⟩:=((i.up a).up A).dyeO 31
  have ax:=au.t B
  obtain⟨bm,ay,C,az⟩:=(((k.up a).up A).up B).dyeO 32
  have a0:=ax.t C
  cases Y
  rw[<- ay.trans (av)]
  exact Cw.ret (zfY O ((ar.up B).up C) O (Res.mk a0 ⟨e,f,O,(aw.up C).s,az.s⟩))
theorem p101 {x0 d f x1 h i k0 k1 c0 c1 r}(k:Rd W K [d,f] x0)(x:Ow W c0 [] [h] x1.Commits)(y:Ow W c1 [] [i] x1.Heads)(z:Gl 0 W K)(hJ:okJ K [c0,c1]=true)(Y:Vm.zc6 x0 x1=some r):Q1 101 [.agg [d,f].toArray, .agg [h,i].toArray] W [c0,c1] fun W' v=> ∃ a b,v = .tuple [.agg [a,b].toArray,vB r.2].toArray/\Ow W' k0 [] [a] r.1.Commits/\Ow W' k1 [] [b] r.1.Heads:=
 zao.adJ (J:=[c0,c1]) (fun c=>bif Nat.beq c 0 then 0 else bif Nat.beq c 2 then c0 else bif Nat.beq c 3 then c1 else bif Nat.beq c 31 then k0 else bif Nat.beq c 32 then k1 else 0) (c101 (k.view _) (x.viewJ 0 hJ) (y.viewJ 1 hJ) (z.view _) Y) fun _ _ ⟨a,b,e,A,B⟩=>⟨a,b,e,A.one1.backN O,B.one1.backN O⟩
theorem c44 {x0 e f x1 x2 x3 r}(h0:Rd W0 [0] [e,f] x0)(ck:Gl 0 W0 [0])(Y:Vm.zgz x0 x1 x2 x3=some r):Q0 44 [.agg [e,f].toArray,vS x1,vS x2,vI x3] W0 fun Wf v=> ∃ cl cm,v = .tuple [.agg [cl,cm].toArray,vI r.2].toArray/\OwS Wf [31] [] [cl] r.1.Commits/\OwS Wf [32] [] [cm] r.1.Heads:=by
 unfold Vm.zgz at Y
 obtain⟨hp,hq,co,i,k⟩:=Repo.split h0
 simp only[List.cons.injEq,and_true,true_and]at co
 obtain⟨rfl,rfl⟩:=co
 refine zao.of Tryz.func44 O O O O (sr (bo 2 O fun g1 W1 l1 b1=>?_))
 have a2:=l1.o
 refine al 3 [.slice none 0 0, .slice none 0 0] fun g3 W3 l3 b3=>?_
 have a4:=a2.n l3
 refine Ni O (sr (la (b1.up l3) (ms O (ca Y (fun _=>p45 (Repo.rd (K:=[0]) x0.Commits x0.Heads (i.ul a4) (k.ul a4))) fun B cq Y l10=>?_))))
 have ct:=a4.n l10
 have cu:=(b1.up l3).up l10
 refine Ni O (Cw.seq ?_)
 obtain⟨d0,d1,Y⟩:=zaY Y
 refine Cw.join 17 29 [29] (fun l w=> ∃ an ao,CW.w ao=w/\Le [] cq ao/\l=[vB an]/\d0 an=some r) ?_ ?_
 ·rintro _ _ σ ⟨an,ao,rfl,ap,rfl,Y⟩
  rw[d1]at Y
  have D:=ct.n ap
  have aq:=cu.up ap
  have ar:=(b3.up l10).up ap
  refine cn Y (fun Y=>?_) fun Y=>?_
  ·refine sr (la aq (cr Y (fun _=>p43 (k0:=4) (k1:=5) (Repo.rd (K:=[0]) x0.Commits x0.Heads (i.ul D) (k.ul D))) ?_))
   rintro hw _ hx Y cv ⟨d2,d3,rfl,cw,cx⟩
   have d4:=D.n cv
   refine sta (ar.up cv) (zaa cw.oc (zaa cx.oc zaG)) fun hy au d5=>?_
   have d6:=d4.t au
   refine Ni O ?_
   obtain⟨hz,d7,av,d8⟩:=(cw.up au).dyeO 31
   have d9:=d6.t av
   obtain⟨h1,ea,aw,eb⟩:=((cx.up au).up av).dyeO 32
   have ec:=d9.t aw
   cases Y
   rw[<- ea.trans (d7)]
   exact Cw.ret (zfY O ((d5.up av).up aw) O (Res.mk ec ⟨d2,d3,O,(d8.up aw).s,eb.s⟩))
  ·refine sk (Cw.seq (Cw.block (sr (la aq (mi O (cr Y (fun _=>p98 (k0:=6) (Repo.rd (K:=[0]) x0.Commits x0.Heads (i.ul D) (k.ul D))) ?_))))))
   rintro h2 h3 h4 Y P ⟨_,rfl,cy⟩
   have E:=D.n P
   have Q:=aq.up P
   refine mi O ?_
   obtain⟨h5,cz,Y⟩:=ob Y
   refine Lw.r O (R.ix (α:=Bool) cy.rd cz O O O) (Lw.r O (R.ld O O (cy.rd.at_ cz).bool) (Nb O (cn Y (fun Y=>?_) fun Y=>?_)))
   ·refine sr (la Q (cr Y (fun _=>p43 (k0:=7) (k1:=8) (Repo.rd (K:=[0]) x0.Commits x0.Heads (i.ul E) (k.ul E))) ?_))
    rintro h6 _ h7 Y c3 ⟨ed,ee,rfl,c4,c5⟩
    have ef:=E.n c3
    refine sta ((ar.up P).up c3) (zaa c4.oc (zaa c5.oc zaG)) fun h8 ax eg=>?_
    have eh:=ef.t ax
    refine Ni O ?_
    obtain⟨h9,ei,ay,ej⟩:=(c4.up ax).dyeO 31
    have ek:=eh.t ay
    obtain⟨ia,el,az,em⟩:=((c5.up ax).up ay).dyeO 32
    have en:=ek.t az
    cases Y
    rw[<- el.trans (ei)]
    exact Cw.ret (zfY O ((eg.up ay).up az) O (Res.mk en ⟨ed,ee,O,(ej.up az).s,em.s⟩))
   ·refine sr (la Q (mi O (cr Y (fun _=>p98 (k0:=9) (Repo.rd (K:=[0]) x0.Commits x0.Heads (i.ul E) (k.ul E))) ?_)))
    rintro ib ic id Y S ⟨_,rfl,c6⟩
    have U:=E.n S
    have c7:=(ar.up P).up S
    refine mi O ?_
    obtain⟨ie,c8,Y⟩:=ob Y
    refine Lw.r O (R.ix (α:=Bool) c6.rd c8 O O O) (Lw.r O (R.ld O O (c6.rd.at_ c8).bool) (Nb O (cn Y (fun Y=>?_) fun Y=>?_)))
    ·refine sr (la (Q.up S) (cr Y (fun _=>p43 (k0:=10) (k1:=11) (Repo.rd (K:=[0]) x0.Commits x0.Heads (i.ul U) (k.ul U))) ?_))
     rintro c9 _ ig Y da ⟨ih,ii,rfl,eo,ep⟩
     have er:=U.n da
     refine ms O (mi O (cr Y (fun _=>p99 (K:=[0]) (k0:=12) (k1:=13) (c0:=10) (c1:=11) (x0:=(Vm.Repo.mk c9.Commits c9.Heads)) eo ep O) ?_))
     rintro ij _ ik Y db ⟨es,et,rfl,dc,dd⟩
     have eu:=er.t db
     refine sta ((c7.up da).up db) (zaa dc.oc (zaa dd.oc zaG)) fun il a0 ew=>?_
     have ex:=eu.t a0
     refine Ni O ?_
     obtain⟨im,ey,a1,ez⟩:=(dc.up a0).dyeO 31
     have e0:=ex.t a1
     obtain⟨io,e1,a3,e2⟩:=((dd.up a0).up a1).dyeO 32
     have e3:=e0.t a3
     cases Y
     rw[<- e1.trans (ey)]
     exact Cw.ret (zfY O ((ew.up a1).up a3) O (Res.mk e3 ⟨es,et,O,(ez.up a3).s,e2.s⟩))
    ·refine sk (Cw.seq (Cw.draw [] [(0,1),(1,0),(2,0),(4,1),(5,0),(7,1),(8,0),(3,2),(6,2),(9,2),(10,3),(11,0),(12,0),(13,0),(14,0),(15,0)] mixed (by kernel_rfl) fun ip a5=>?_))
     have a6:=U.n a5
     have V:=(Q.up S).up a5
     refine Mw.q O O (fun _ c=>R.lda (cs:=[e,f]) (V.clcs O c) O O) (Di O (Di O (Mw.q O O (fun _ c=>R.lda (cs:=[e,f]) (V.clcs O c) O O) (Di O (Mw.q O O (fun _ c=>R.lda (cs:=[e,f]) (V.clcs O c) O O) (Di O ?_))))))
     obtain⟨iq,e4,Y⟩:=ob Y
     refine Mw.t O O (T.call O (p70 (Repo.rd (K:=[0]) x0.Commits x0.Heads (i.ul a6) (k.ul a6)) e4)) ?_
     rintro ir _ ⟨it,rfl,X,⟨_,rfl,e5⟩⟩
     have e6:=e5.sub (M:=[0]) O
     have F:=a6.n X
     refine m0 X fun e7=>?_
     obtain⟨iu,e8,Y⟩:=ob Y
     refine Mw.t O O (T.call O (p71 (Repo.rd (K:=[0]) x0.Commits x0.Heads (i.ul F) (k.ul F)) e8)) ?_
     rintro iv _ ⟨iw,rfl,Z,⟨_,rfl,e9⟩⟩
     have fb:=e9.sub (M:=[0]) O
     have H:=Z.o
     refine mc e7 Z fun fc=>?_
     obtain⟨iy,fd,Y⟩:=ob Y
     refine Mw.t O O (T.call O (p71 (Repo.rd (K:=[0]) x0.Commits x0.Heads (i.ul (F.trans H)) (k.ul (F.trans H))) fd)) ?_
     rintro iz _ ⟨i0,rfl,aa,⟨_,rfl,fe⟩⟩
     have ff:=fe.sub (M:=[0]) O
     have ac:=aa.o
     refine mc fc aa fun i1=>?_
     obtain⟨G,fg,Y⟩:=ob Y
     refine Mw.l O O (T.call O (p100 (k0:=14) (e6.ul (H.trans ac)) (fb.ul ac) ff (ck.ul ((F.trans H).trans ac)) fg)) ?_
     rintro _ _ ⟨fh,rfl,a7,⟨x,rfl,fi⟩⟩
     have fj:Ow (α:=List (Sh Vm.File)) fh 14 [0] [x] G.1:=fi.sub O
     have ae:=((F.trans H).trans ac).n a7
     have a8:=(((V.up X).up Z).up aa).up a7
     have de:=((((c7.up a5).up X).up Z).up aa).up a7
     refine Dv (.tuple [x,vB G.2].toArray) O (Mw.p O O (fun _=>R.ext (vs:=[x,vB G.2]) (v:=x) O O) (Mw.p O O (fun _=>R.ext (vs:=[x,vB G.2]) (v:=vB G.2) O O) (Hv x O (Hb O (Mw.nil (ssr (mb O (Lw.r O (R.not O) (nl (cn Y (fun Y=>?_) fun Y=>?_))))))))))
     ·refine sr (la a8 (cr Y (fun _=>p43 (k0:=15) (k1:=16) (Repo.rd (K:=[0]) x0.Commits x0.Heads (i.ul ae) (k.ul ae))) ?_))
      rintro i2 _ i3 Y df ⟨fm,fn,rfl,dg,dh⟩
      have fo:=ae.n df
      refine sta (de.up df) (zaa dg.oc (zaa dh.oc zaG)) fun i4 a9 fp=>?_
      have fq:=fo.t a9
      refine Ni O ?_
      obtain⟨i5,fr,ba,fs⟩:=(dg.up a9).dyeO 31
      have ft:=fq.t ba
      obtain⟨i6,fu,bb,fv⟩:=((dh.up a9).up ba).dyeO 32
      have fw:=ft.t bb
      cases Y
      rw[<- fu.trans (fr)]
      exact Cw.ret (zfY O ((fp.up ba).up bb) O (Res.mk fw ⟨fm,fn,O,(fs.up bb).s,fv.s⟩))
     ·refine sk (Cw.seq ?_)
      obtain⟨y,fx,Y⟩:=ob Y
      obtain⟨z,fy,Y⟩:=ob Y
      obtain⟨a,fz,Y⟩:=ob Y
      refine Cw.par [[],[],[1],[],[],[],[],[],[6,7],[1,2,3,4,5,6,7,8],[0,1,2,3,4,5,6,7,8,9],[0,1,2,3,4,5,6,7,8,9,10],[0,1,2,3,4,5,6,7,8,9,10,11],[0,1,2,3,4,5,6,7,8,9,10,11],[],[0,1,2,3,4,5,6,7,8,9,10,11,12,14],[0,1,2,3,4,5,6,7,8,9,10,11,12,13,14,15]] [[],[],[1],[],[],[],[],[],[6,7],[2,3,4,5,8],[0,9],[10],[10,11],[10,11],[],[10,12,14],[13]] [[],[],[],[],[],[],[],[],[],[17,18,19],[20,21],[],[],[],[],[24],[]] [[0],[1],[2],[3],[4],[5],[6],[7],[8],[9],[10],[10,11],[10,12],[13],[14],[10,14],[16]] [[],[],[17,18],[],[],[],[],[],[19],[20,21],[22,23],[],[],[],[24],[24],[]] [0,1,3,4,5,6,7,10,11,12,13,15,16] [17,18,19,20,21,24] [fun vs W=>(vs 0) = .agg [e,f].toArray,fun vs W=>(vs 1) = .agg [e,f].toArray,fun vs W=>(vs 2) = .agg [(zai (vs 2) 0),(zai (vs 2) 1)].toArray/\Ow W 17 [] [(zai (vs 2) 0)] y.Commits/\Ow W 18 [] [(zai (vs 2) 1)] y.Heads,fun vs W=>(vs 3)=vS x1,fun vs W=>(vs 4)=vS x2,fun vs W=>(vs 5)=x,fun vs W=>(vs 6)=vI B,fun vs W=>(vs 7)=vI x3,fun vs W=>Ow W 19 [] [(vs 8)] ([B,x3]:List Int),fun vs W=>(vs 9) = .agg [(zai (vs 9) 0),(zai (vs 9) 1)].toArray/\Ow W 20 [] [(zai (vs 9) 0)] z.Commits/\Ow W 21 [] [(zai (vs 9) 1)] z.Heads,fun vs W=>(vs 10) = .tuple [.agg [(zai (zai (vs 10) 0) 0),(zai (zai (vs 10) 0) 1)].toArray,vB a.2].toArray/\Ow W 22 [] [(zai (zai (vs 10) 0) 0)] a.1.Commits/\Ow W 23 [] [(zai (zai (vs 10) 0) 1)] a.1.Heads,fun vs W=>(vs 11) = .tuple [.agg [(zai (zai (vs 10) 0) 0),(zai (zai (vs 10) 0) 1)].toArray,vB a.2].toArray,fun vs W=>(vs 12) = .agg [(zai (zai (vs 10) 0) 0),(zai (zai (vs 10) 0) 1)].toArray,fun vs W=>(vs 13)=vB a.2,fun vs W=>(vs 14)=ptr (bx (pg (vs 14)))/\Bx W 24 (pg (vs 14)) [.slice none 0 0, .slice none 0 0],fun vs W=>(vs 14)=ptr (bx (pg (vs 14)))/\Bx W 24 (pg (vs 14)) [(zai (zai (vs 10) 0) 0),(zai (zai (vs 10) 0) 1)],fun vs W=>(vs 16)=vB a.2] [] mixed (by kernel_rfl) O zsd.nil ?_
      intro i7 I
      have bc:=ae.n I
      refine⟨(zaV.cons ?_ (zaV.cons ?_ (zaV.cons ?_ (zaV.cons ?_ (zaV.cons ?_ (zaV.cons ?_ (zaV.cons ?_ (zaV.cons ?_ (zaV.cons ?_ (zaV.cons ?_ (zaV.cons ?_ (zaV.cons ?_ (zaV.cons ?_ (zaV.cons ?_ (zaV.cons ?_ (zaV.cons ?_ (zaV.cons ?_ zaV.nil))))))))))))))))),(zdz.cons SE (zdz.cons SE (zdz.cons (fun vs vs' W W' _ hv l hd h=>by(show(vs' 2) = .agg [(zai (vs' 2) 0),(zai (vs' 2) 1)].toArray/\Ow W' 17 [] [(zai (vs' 2) 0)] y.Commits/\Ow W' 18 [] [(zai (vs' 2) 1)] y.Heads);rw[hv 2 (zaC O)];exact⟨h.1,h.2.1.upv l (zcn hd (c:=17) O),h.2.2.upv l (zcn hd (c:=18) O)⟩) (zdz.cons SE (zdz.cons SE (zdz.cons SE (zdz.cons SE (zdz.cons SE (zdz.cons SO (zdz.cons (fun vs vs' W W' _ hv l hd h=>by(show(vs' 9) = .agg [(zai (vs' 9) 0),(zai (vs' 9) 1)].toArray/\Ow W' 20 [] [(zai (vs' 9) 0)] z.Commits/\Ow W' 21 [] [(zai (vs' 9) 1)] z.Heads);rw[hv 9 (zaC O)];exact⟨h.1,h.2.1.upv l (zcn hd (c:=20) O),h.2.2.upv l (zcn hd (c:=21) O)⟩) (zdz.cons (fun vs vs' W W' _ hv l hd h=>by(show(vs' 10) = .tuple [.agg [(zai (zai (vs' 10) 0) 0),(zai (zai (vs' 10) 0) 1)].toArray,vB a.2].toArray/\Ow W' 22 [] [(zai (zai (vs' 10) 0) 0)] a.1.Commits/\Ow W' 23 [] [(zai (zai (vs' 10) 0) 1)] a.1.Heads);rw[hv 10 (zaC O)];exact⟨h.1,h.2.1.upv l (zcn hd (c:=22) O),h.2.2.upv l (zcn hd (c:=23) O)⟩) (zdz.cons (fun vs vs' W W' _ hv l hd h=>by(show(vs' 11) = .tuple [.agg [(zai (zai (vs' 10) 0) 0),(zai (zai (vs' 10) 0) 1)].toArray,vB a.2].toArray);rw[hv 10 (zaC O),hv 11 (zaC O)];exact h) (zdz.cons (fun vs vs' W W' _ hv l hd h=>by(show(vs' 12) = .agg [(zai (zai (vs' 10) 0) 0),(zai (zai (vs' 10) 0) 1)].toArray);rw[hv 10 (zaC O),hv 12 (zaC O)];exact h) (zdz.cons SE (zdz.cons (fun vs vs' W W' _ hv l hd h=>by(show(vs' 14)=ptr (bx (pg (vs' 14)))/\Bx W' 24 (pg (vs' 14)) [.slice none 0 0, .slice none 0 0]);rw[hv 14 (zaC O)];exact⟨h.1,h.2.up l (zcn hd (c:=24) O)⟩) (zdz.cons (fun vs vs' W W' _ hv l hd h=>by(show(vs' 14)=ptr (bx (pg (vs' 14)))/\Bx W' 24 (pg (vs' 14)) [(zai (zai (vs' 10) 0) 0),(zai (zai (vs' 10) 0) 1)]);rw[hv 10 (zaC O),hv 14 (zaC O)];exact⟨h.1,h.2.up l (zcn hd (c:=24) O)⟩) (zdz.cons SE zdz.nil))))))))))))))))),?_⟩
      ·intro vs i8 lW hN hV
       exact Trq (R.lda (cs:=[e,f]) ((a8.up I).up lW O).cells O O) O
      ·intro vs i9 lW hN hV
       exact Trq (R.lda (cs:=[e,f]) ((a8.up I).up lW O).cells O O) O
      ·intro vs ja lW hN hV
       have di:=bc.t lW O
       have be:vs 1 = .agg [e,f].toArray:=(hN 1 (zaC O))
       obtain⟨vs,rfl⟩:=zat be
       refine Tr.mono (T.call O (p43 (k0:=17) (k1:=18) (Repo.rd (K:=[0]) x0.Commits x0.Heads (i.ul di) (k.ul di)) fx)) ?_
       rintro _ _ ⟨bg,rfl,f0,⟨bh,bi,rfl,f1,f2⟩⟩
       exact⟨bg,O,f0,(show(.agg [bh,bi].toArray:Value) = .agg [bh,bi].toArray/\Ow bg 17 [] [bh] y.Commits/\Ow bg 18 [] [bi] y.Heads from⟨O,f1,f2⟩)⟩
      ·intro vs jb lW hN hV
       exact Trq (R.mv (v:=vS x1) O) O
      ·intro vs jc lW hN hV
       exact Trq (R.mv (v:=vS x2) O) O
      ·intro vs jd lW hN hV
       exact Trq (R.mv (v:=x) O) O
      ·intro vs je lW hN hV
       exact Trq (R.mv (v:=vI B) O) O
      ·intro vs jf lW hN hV
       exact Trq (R.mv (v:=vI x3) O) O
      ·intro vs f3 lW hN hV
       have bj:vs 6=vI B:=(hN 6 (zaC O))
       obtain⟨vs,rfl⟩:=zat bj
       have bk:vs 7=vI x3:=(hN 7 (zaC O))
       obtain⟨vs,rfl⟩:=zat bk
       refine Tr.mono (T.bsS (α:=Int) (xs:=[B,x3]) 19 [] (W:=f3) [vI B,vI x3] (Each.cons ((rdI _)) (Each.cons ((rdI _)) Each.nil)) O) ?_
       rintro f4 _ ⟨dj,rfl,f5,f6⟩
       exact⟨dj,O,f5,(show Ow dj 19 [] [f4] ([B,x3]:List Int) from f6)⟩
      ·intro vs af lW hN hV
       obtain⟨bl,bm,f7⟩: ∃ bl bm:Value,vs 2 = .agg [bl,bm].toArray:=⟨_,_,(hN 2 (zaC O)).1⟩
       obtain⟨vs,rfl⟩:=zat f7
       have f8:Ow af 17 [] [bl] y.Commits:=(hN 2 (zaC O)).2.1
       have f9:Ow af 18 [] [bm] y.Heads:=(hN 2 (zaC O)).2.2
       have bn:vs 3=vS x1:=(hN 3 (zaC O))
       obtain⟨vs,rfl⟩:=zat bn
       have bp:vs 4=vS x2:=(hN 4 (zaC O))
       obtain⟨vs,rfl⟩:=zat bp
       have bq:vs 5=x:=(hN 5 (zaC O))
       obtain⟨vs,rfl⟩:=zat bq
       obtain⟨ga,gb⟩: ∃ v,vs 8=v:=⟨_,O⟩
       obtain⟨vs,rfl⟩:=zat gb
       have gc:Ow af 19 [] [ga] ([B,x3]:List Int):=(hN 8 (zaC O))
       have gd:Rd (α:=List Vm.File) af [14,0] [x] G.1:=Ow.rdSh ((fj.up I).up lW O)
       refine Tr.mono (T.call O (p102 (K:=[0,14]) (k0:=20) (k1:=21) (c0:=17) (c1:=18) (c2:=19) (x0:=(Vm.Repo.mk y.Commits y.Heads)) f8 f9 (gd.sub (M:=[0,14]) O) gc O fy)) ?_
       rintro _ _ ⟨br,rfl,gf,⟨bu,bv,rfl,gg,gh⟩⟩
       exact⟨br,O,gf,(show(.agg [bu,bv].toArray:Value) = .agg [bu,bv].toArray/\Ow br 20 [] [bu] z.Commits/\Ow br 21 [] [bv] z.Heads from⟨O,gg,gh⟩)⟩
      ·intro vs dk lW hN hV
       have bw:=bc.t lW O
       have bz:vs 0 = .agg [e,f].toArray:=(hN 0 (zaC O))
       obtain⟨vs,rfl⟩:=zat bz
       obtain⟨b0,b2,gj⟩: ∃ b0 b2:Value,vs 9 = .agg [b0,b2].toArray:=⟨_,_,(hN 9 (zaC O)).1⟩
       obtain⟨vs,rfl⟩:=zat gj
       have gk:Ow dk 20 [] [b0] z.Commits:=(hN 9 (zaC O)).2.1
       have gm:Ow dk 21 [] [b2] z.Heads:=(hN 9 (zaC O)).2.2
       refine Tr.mono (T.call O (p101 (k0:=22) (k1:=23) (c0:=20) (c1:=21) (x1:=(Vm.Repo.mk z.Commits z.Heads)) (Repo.rd (K:=[0]) x0.Commits x0.Heads (i.ul bw) (k.ul bw)) gk gm (ck.ul bw) O fz)) ?_
       rintro _ _ ⟨b4,rfl,gn,⟨b5,b6,rfl,go,gr⟩⟩
       exact⟨b4,O,gn,(show(.tuple [.agg [b5,b6].toArray,vB a.2].toArray:Value) = .tuple [.agg [b5,b6].toArray,vB a.2].toArray/\Ow b4 22 [] [b5] a.1.Commits/\Ow b4 23 [] [b6] a.1.Heads from⟨O,go,gr⟩)⟩
      ·intro vs dl lW hN hV
       obtain⟨b,d,C⟩: ∃ b d:Value,vs 10 = .tuple [.agg [b,d].toArray,vB a.2].toArray:=⟨_,_,(hN 10 (zaC O)).1⟩
       obtain⟨vs,rfl⟩:=zat C
       have jg:Ow dl 22 [] [b] a.1.Commits:=(hN 10 (zaC O)).2.1
       have jh:Ow dl 23 [] [d] a.1.Heads:=(hN 10 (zaC O)).2.2
       exact Trq (R.mv (v:= .tuple [Value.agg [b,d].toArray,vB a.2].toArray) O) O
      ·intro vs dm lW hN hV
       obtain⟨b,d,C⟩: ∃ b d:Value,vs 10 = .tuple [.agg [b,d].toArray,vB a.2].toArray:=⟨_,_,(hN 10 (zaC O)).1⟩
       obtain⟨vs,rfl⟩:=zat C
       have ji:Ow dm 22 [] [b] a.1.Commits:=(hN 10 (zaC O)).2.1
       have jj:Ow dm 23 [] [d] a.1.Heads:=(hN 10 (zaC O)).2.2
       have J:vs 11 = .tuple [.agg [b,d].toArray,vB a.2].toArray:=(hN 11 (zaC O))
       obtain⟨vs,rfl⟩:=zat J
       exact Trq (R.ext (vs:=[Value.agg [b,d].toArray,vB a.2]) (v:= .agg [b,d].toArray) O O) O
      ·intro vs dn lW hN hV
       obtain⟨b,d,C⟩: ∃ b d:Value,vs 10 = .tuple [.agg [b,d].toArray,vB a.2].toArray:=⟨_,_,(hN 10 (zaC O)).1⟩
       obtain⟨vs,rfl⟩:=zat C
       have jk:Ow dn 22 [] [b] a.1.Commits:=(hN 10 (zaC O)).2.1
       have jl:Ow dn 23 [] [d] a.1.Heads:=(hN 10 (zaC O)).2.2
       have J:vs 11 = .tuple [.agg [b,d].toArray,vB a.2].toArray:=(hN 11 (zaC O))
       obtain⟨vs,rfl⟩:=zat J
       exact Trq (R.ext (vs:=[Value.agg [b,d].toArray,vB a.2]) (v:=vB a.2) O O) O
      ·intro vs jm lW hN hV
       refine Tr.mono (T.alloc 24 (cs:=[.slice none 0 0, .slice none 0 0]) O) ?_
       rintro _ _ ⟨b7,dp,rfl,rfl,gs,gu⟩
       exact⟨dp,O,gs,(show(ptr (bx b7):Value)=ptr (bx b7)/\Bx dp 24 b7 [.slice none 0 0, .slice none 0 0] from⟨O,gu⟩)⟩
      ·intro vs b8 lW hN hV
       obtain⟨b,d,C⟩: ∃ b d:Value,vs 10 = .tuple [.agg [b,d].toArray,vB a.2].toArray:=⟨_,_,(hN 10 (zaC O)).1⟩
       obtain⟨vs,rfl⟩:=zat C
       have gv:Ow b8 22 [] [b] a.1.Commits:=(hN 10 (zaC O)).2.1
       have gw:Ow b8 23 [] [d] a.1.Heads:=(hN 10 (zaC O)).2.2
       have b9:vs 12 = .agg [b,d].toArray:=(hN 12 (zaC O))
       obtain⟨vs,rfl⟩:=zat b9
       obtain⟨A,cb⟩: ∃ A,vs 14=ptr (bx A):=⟨_,((hN 14 (zaC O))).1⟩
       obtain⟨vs,rfl⟩:=zat cb
       have gx:Bx b8 24 A [.slice none 0 0, .slice none 0 0]:=(hN 14 (zaC O)).2
       refine Tr.mono (T.sta (vs:=[b,d]) gx O O (zaa gv.oc (zaa gw.oc zaG)) O O) ?_
       rintro _ _ ⟨dq,rfl,gy,gz⟩
       exact⟨dq,O,gy,(show(ptr (bx A))=ptr (bx A)/\Bx dq 24 A [b,d] from⟨O,gz⟩)⟩
      ·intro vs jo lW hN hV
       have cc:vs 13=vB a.2:=(hN 13 (zaC O))
       obtain⟨vs,rfl⟩:=zat cc
       exact Trq (R.as (v:=vB a.2) O) O
      ·intro vs cd dr hN
       have ds:=bc.t dr
       have dt:=(de.up I).up dr
       have bz:vs 0 = .agg [e,f].toArray:=(hN 0 (zaC O))
       obtain⟨vs,rfl⟩:=zat bz
       have be:vs 1 = .agg [e,f].toArray:=(hN 1 (zaC O))
       obtain⟨vs,rfl⟩:=zat be
       have bn:vs 3=vS x1:=(hN 3 (zaC O))
       obtain⟨vs,rfl⟩:=zat bn
       have bp:vs 4=vS x2:=(hN 4 (zaC O))
       obtain⟨vs,rfl⟩:=zat bp
       have bq:vs 5=x:=(hN 5 (zaC O))
       obtain⟨vs,rfl⟩:=zat bq
       have bj:vs 6=vI B:=(hN 6 (zaC O))
       obtain⟨vs,rfl⟩:=zat bj
       have bk:vs 7=vI x3:=(hN 7 (zaC O))
       obtain⟨vs,rfl⟩:=zat bk
       obtain⟨b,d,C⟩: ∃ b d:Value,vs 10 = .tuple [.agg [b,d].toArray,vB a.2].toArray:=⟨_,_,(hN 10 (zaC O)).1⟩
       obtain⟨vs,rfl⟩:=zat C
       have ah:Ow cd 22 [] [b] a.1.Commits:=(hN 10 (zaC O)).2.1
       have ai:Ow cd 23 [] [d] a.1.Heads:=(hN 10 (zaC O)).2.2
       have J:vs 11 = .tuple [.agg [b,d].toArray,vB a.2].toArray:=(hN 11 (zaC O))
       obtain⟨vs,rfl⟩:=zat J
       have b9:vs 12 = .agg [b,d].toArray:=(hN 12 (zaC O))
       obtain⟨vs,rfl⟩:=zat b9
       have cc:vs 13=vB a.2:=(hN 13 (zaC O))
       obtain⟨vs,rfl⟩:=zat cc
       obtain⟨A,cb⟩: ∃ A,vs 14=ptr (bx A):=⟨_,(hN 15 (zaC O)).1⟩
       obtain⟨vs,rfl⟩:=zat cb
       have du:Bx cd 24 A [b,d]:=(hN 15 (zaC O)).2
       have g0:vs 16=vB a.2:=(hN 16 (zaC O))
       obtain⟨vs,rfl⟩:=zat g0
       refine ssr (mb O (Lw.r O (R.not O) (nl (cn Y (fun Y=>?_) fun Y=>?_))))
       ·refine sr (Lw.r O (R.lda (cs:=[b,d]) du.cells O O) (sta dt (zaa ah.oc (zaa ai.oc zaG)) fun jp ce g2=>?_))
        have g4:=ds.t ce
        refine Ni O ?_
        obtain⟨jq,g5,cf,g6⟩:=(ah.up ce).dyeO 31
        have g7:=g4.t cf
        obtain⟨jr,g8,cg,g9⟩:=((ai.up ce).up cf).dyeO 32
        have ha:=g7.t cg
        cases Y
        rw[<- g8.trans (g5)]
        exact Cw.ret (zfY O ((g2.up cf).up cg) O (Res.mk ha ⟨b,d,O,(g6.up cg).s,g9.s⟩))
       ·refine sk (sr (Lw.r O (R.lda (cs:=[b,d]) du.cells O O) (sta dt (zaa ah.oc (zaa ai.oc zaG)) fun js ch hb=>?_)))
        have hc:=ds.t ch
        refine Ni O ?_
        obtain⟨jt,he,ci,hf⟩:=(ah.up ch).dyeO 31
        have hg:=hc.t ci
        obtain⟨ju,hh,cj,hi⟩:=((ai.up ch).up ci).dyeO 32
        have hj:=hg.t cj
        cases Y
        rw[<- hh.trans (he)]
        exact Cw.ret (zfY O ((hb.up ci).up cj) O (Res.mk hj ⟨b,d,O,(hf.up cj).s,hi.s⟩))
 ·refine rg (mi O (Lw.lt O (mb O (bs Y (fun L Y=>?_) fun L Y=>?_))))
  ·exact psk 3 L O (Pb L O (mb O (psk 4 O O (Pb O O (nl ((ag) ⟨true,cq,O,Le.refl _ _,O,Y⟩))))))
  ·refine wak 3 L (ms O (ca Y (fun _=>p92) fun jv hk Y aj=>?_))
   have dv:=ct.n aj
   refine Lw.r O (R.not O) (Pb L O (mb O (bs Y (fun N Y=>?_) fun N Y=>?_)))
   ·exact psk 4 N O (Pb N O (nl ((ag) ⟨true,hk,O,aj,O,Y⟩)))
   ·exact wak 4 N (la (cu.up aj) (mi O (ca Y (fun _=>p97 (Repo.rd (K:=[0]) x0.Commits x0.Heads (i.ul dv) (k.ul dv))) fun hl hn Y ho=>Lw.r O (R.not O) (Pb N O (nl ((ag) ⟨(!hl),hn,O,(aj.j ho).w,O,Y⟩))))))
theorem p44 {x0 d f x1 x2 x3 k0 k1 r}(h:Rd W K [d,f] x0)(i:Gl 0 W K)(Y:Vm.zgz x0 x1 x2 x3=some r):Q1 44 [.agg [d,f].toArray,vS x1,vS x2,vI x3] W [] fun W' v=> ∃ a b,v = .tuple [.agg [a,b].toArray,vI r.2].toArray/\Ow W' k0 [] [a] r.1.Commits/\Ow W' k1 [] [b] r.1.Heads:=
 zao.adJ (J:=[]) (fun c=>bif Nat.beq c 0 then 0 else bif Nat.beq c 31 then k0 else bif Nat.beq c 32 then k1 else 0) (c44 (h.view _) (i.view _) Y) fun _ _ ⟨a,b,e,k,x⟩=>⟨a,b,e,k.one1.backN O,x.one1.backN O⟩
theorem c13 {x0 z A x1 F x2 ae r}(h0:Rd W0 [0] [z,A] x0)(h1:Rd W0 [0] [F] x1)(h2:Rd W0 [0] [vS x2.Branch,vS x2.Into,vS x2.By,ae] x2)(G:Gl 0 W0 [0])(Y:Vm.zfG x0 x1 x2=some r):Q0 13 [.agg [z,A].toArray,F, .agg [vS x2.Branch,vS x2.Into,vS x2.By,ae].toArray] W0 fun Wf v=> ∃ af ah,v = .tuple [.agg [af,ah].toArray,vI r.2].toArray/\OwS Wf [31] [] [af] r.1.Commits/\OwS Wf [32] [] [ah] r.1.Heads:=by
 unfold Vm.zfG at Y
 obtain⟨cp,cq,ai,d,e⟩:=Repo.split h0
 simp only[List.cons.injEq,and_true,true_and]at ai
 obtain⟨rfl,rfl⟩:=ai
 obtain⟨ct,aj,a3⟩:=Review.split h2
 simp only[List.cons.injEq,and_true,true_and]at aj
 obtain rfl:=aj
 refine zao.of Tryz.func13 O O O O (sr (bo 2 O fun g1 W1 l1 b1=>?_))
 have a2:=l1.o
 refine bo 3 O fun g3 W3 l3 b3=>?_
 have a4:=a2.n l3
 refine al 4 [.slice none 0 0, .slice none 0 0] fun g6 W6 H b6=>?_
 have B:=a4.n H
 have I:=(b1.up l3).up H
 refine Ni O (ssr (la I (ca Y (fun _=>p42 (Repo.rd (K:=[0]) x0.Commits x0.Heads (d.ul B) (e.ul B)) (G.ul B)) fun c0 c1 Y f=>?_)))
 have a:=B.n f
 have an:=(b3.up H).up f
 refine Lw.r O (R.not O) (nl (cn Y (fun Y=>?_) fun Y=>?_))
 ·refine sr (Lw.r O (R.bd (zs:=[.slice none 0 0, .slice none 0 0]) (cs:=[.slice none 0 0, .slice none 0 0]) [] O O O zc8) (sta (b6.up f) (zaa O (zaa O zaG)) fun c2 bb bc=>?_))
  have be:=a.t bb
  refine Ni O ?_
  cases Y
  exact Cw.ret (zfY O bc O (Res.mk be ⟨.slice none 0 0, .slice none 0 0,O,(zp0 []).sub O O,(zp0 []).sub O O⟩))
 ·refine sk (sr (la (I.up f) (mv F O (la an (cr Y (fun _=>p27 (k0:=5) (Repo.rd (K:=[0]) x0.Commits x0.Heads (d.ul a) (e.ul a)) (h1.ul a) (Review.rd (K:=[0]) x2.Branch x2.Into x2.By x2.Yes (a3.ul a)) (G.ul a)) ?_)))))
  rintro i _ c3 Y C ⟨h,rfl,bg⟩
  have b:=a.n C
  have D:=(I.up f).up C
  have J:=(b6.up f).up C
  refine mv (.tuple [h,vB i.2].toArray) O (Lw.r O (R.ext (vs:=[h,vB i.2]) (v:=h) O O) (Lw.r O (R.ext (vs:=[h,vB i.2]) (v:=vB i.2) O O) (Gv h O (Nb O (Cw.seq (Cw.block (sr (mb O (Lw.r O (R.not O) (Nb O (cn Y (fun Y=>?_) fun Y=>?_)))))))))))
  ·refine sr (la D (cr Y (fun _=>p43 (k0:=6) (k1:=7) (Repo.rd (K:=[0]) x0.Commits x0.Heads (d.ul b) (e.ul b))) ?_))
   rintro c4 _ c5 Y ao ⟨bh,bi,rfl,ap,aq⟩
   have bj:=b.n ao
   refine sta (J.up ao) (zaa ap.oc (zaa aq.oc zaG)) fun c6 L bk=>?_
   have bl:=bj.t L
   refine Ni O ?_
   obtain⟨c7,bm,M,bn⟩:=(ap.up L).dyeO 31
   have bp:=bl.t M
   obtain⟨c8,bq,N,br⟩:=((aq.up L).up M).dyeO 32
   have bu:=bp.t N
   cases Y
   rw[<- bq.trans (bm)]
   exact Cw.ret (zfY O ((bk.up M).up N) O (Res.mk bu ⟨bh,bi,O,(bn.up N).s,br.s⟩))
  ·refine sr (mv h O (Lw.ln i.1 bg.rd O (Lw.gt O (Nb O (cn Y (fun Y=>?_) fun Y=>?_)))))
   ·refine sr (la D (cr Y (fun _=>p43 (k0:=8) (k1:=9) (Repo.rd (K:=[0]) x0.Commits x0.Heads (d.ul b) (e.ul b))) ?_))
    rintro c9 _ da Y ar ⟨bv,bw,rfl,au,av⟩
    have bz:=b.n ar
    refine sta (J.up ar) (zaa au.oc (zaa av.oc zaG)) fun db P b0=>?_
    have b2:=bz.t P
    refine Ni O ?_
    obtain⟨dc,b4,Q,b5⟩:=(au.up P).dyeO 31
    have b7:=b2.t Q
    obtain⟨dd,b9,S,cb⟩:=((av.up P).up Q).dyeO 32
    have cc:=b7.t S
    cases Y
    rw[<- b9.trans (b4)]
    exact Cw.ret (zfY O ((b0.up Q).up S) O (Res.mk cc ⟨bv,bw,O,(b5.up S).s,cb.s⟩))
   ·refine sk (Cw.seq (Cw.draw [] [(0,1),(1,0),(2,1),(3,0),(4,1),(5,1),(6,0),(7,1),(8,2),(9,3),(10,0),(11,0),(12,3),(13,0)] mixed (by kernel_rfl) fun de k=>?_))
    have U:=b.n k
    have V:=(an.up C).up k
    refine Mw.q O O (fun _ c=>R.lda (cs:=[z,A]) ((D.up k).clcs O c) O O) (Dfl V O O O (Dfl V O O O (Mw.q O O (fun _ c=>R.lda (cs:=[z,A]) ((D.up k).clcs O c) O O) (Dfl V O O O ?_))))
    obtain⟨df,cd,Y⟩:=ob Y
    refine Mw.t O O (T.call O (p45 (Repo.rd (K:=[0]) x0.Commits x0.Heads (d.ul U) (e.ul U)) cd)) ?_
    rintro _ _ ⟨dg,rfl,W,rfl⟩
    have E:=U.n W
    refine m0 W fun dh=>?_
    obtain⟨X,ce,Y⟩:=ob Y
    refine Mw.l O O (T.call O (p44 (k0:=10) (k1:=11) (Repo.rd (K:=[0]) x0.Commits x0.Heads (d.ul E) (e.ul E)) (G.ul E) ce)) ?_
    rintro _ _ ⟨di,rfl,aw,⟨x,y,rfl,ax,ay⟩⟩
    have cf:=E.n aw
    refine Mw.p O O (fun _=>R.ext (vs:=[.agg [x,y].toArray,vI X.2]) (v:= .agg [x,y].toArray) O O) (Mw.p O O (fun _=>R.ext (vs:=[.agg [x,y].toArray,vI X.2]) (v:=vI X.2) O O) (Mw.lu O (T.sta (vs:=[x,y]) (((J.up k).up W).up aw) O O (zaa ax.oc (zaa ay.oc zaG)) O O) ?_))
    rintro _ _ ⟨dj,rfl,Z,cg⟩
    have ch:=cf.t Z
    refine Hi O (Mw.nil ?_)
    obtain⟨dk,ci,aa,cj⟩:=(ax.up Z).dyeO 31
    have ck:=ch.t aa
    obtain⟨dl,cl,ac,cm⟩:=((ay.up Z).up aa).dyeO 32
    have co:=ck.t ac
    cases Y
    rw[<- cl.trans (ci)]
    exact Cw.ret (zfY O ((cg.up aa).up ac) O (Res.mk co ⟨x,y,O,(cj.up ac).s,cm.s⟩))
theorem p13 {x0 d f x1 h x2 i k0 k1 r}(k:Rd W K [d,f] x0)(x:Rd W K [h] x1)(y:Rd W K [vS x2.Branch,vS x2.Into,vS x2.By,i] x2)(z:Gl 0 W K)(Y:Vm.zfG x0 x1 x2=some r):Q1 13 [.agg [d,f].toArray,h, .agg [vS x2.Branch,vS x2.Into,vS x2.By,i].toArray] W [] fun W' v=> ∃ a b,v = .tuple [.agg [a,b].toArray,vI r.2].toArray/\Ow W' k0 [] [a] r.1.Commits/\Ow W' k1 [] [b] r.1.Heads:=
 zao.adJ (J:=[]) (fun c=>bif Nat.beq c 0 then 0 else bif Nat.beq c 31 then k0 else bif Nat.beq c 32 then k1 else 0) (c13 (k.view _) (x.view _) (y.view _) (z.view _) Y) fun _ _ ⟨a,b,e,A,B⟩=>⟨a,b,e,A.one1.backN O,B.one1.backN O⟩
theorem c148 {x0 b x1 e r}(d:Rd W0 [0] [b] x0)(f:Rd W0 [0] [e] x1)(Y:Vm.zmD x0 x1=some r):Q0 148 [b,e] W0 fun Wf v=>v=vB r:=by
 unfold Vm.zmD at Y
 refine zao.of Tryz.func148 O O O O (sr (Nb O (ssr (mv b O (Lw.ln x0 d O (mv e O (Lw.ln x1 f O (Lw.ne O (nl (cn Y (fun Y=>?_) fun Y=>?_))))))))))
 ·exact sr (Nb O (.ret (rt Y (Le.refl _ _))))
 ·refine sk (ssr (Ni O (Cw.block ?_)))
  obtain⟨B,C,Y⟩:=zaY Y
  refine Cw.loop 11 25 [4,5] (fun m l w=> ∃ h i k,CW.w k=w/\Le [] W0 k/\l=[vB h,vI i]/\Vm.ziA x0 x1 B m h i=some r) _ ⟨false,0,W0,O,Le.refl _ _,O,Y⟩ ?_
  rintro(_ |E) _ _ σ ⟨h,i,k,rfl,A,rfl,Y⟩
  ·cases Y
  unfold Vm.ziA at Y
  have x:=A.o
  refine ssr (mi O (mv b O (Lw.ln x0 (d.ul x) O (Lw.lt O (nl (cn Y (fun Y=>?_) fun Y=>?_))))))
  ·refine sk (Cw.seq (Cw.block (Cw.seq (Cw.draw [] [(0,0),(1,0),(2,0),(3,1),(4,0),(5,0),(6,0),(7,1),(8,0)] mixed (by kernel_rfl) fun D l10=>?_))))
   have a:=x.n l10
   refine Dv b O (Di O ?_)
   obtain⟨F,y,Y⟩:=ob Y
   refine Mw.p O O (fun _=>R.ix (α:=Int) (d.ul a) y O O O) (Mw.q O O (fun _ c=>R.ld O O (zaq ((d.ul a).at_ y).1 O ((d.ul a).at_ y).int c)) (Dv e O (Di O ?_)))
   obtain⟨G,z,Y⟩:=ob Y
   refine Mw.p O O (fun _=>R.ix (α:=Int) (f.ul a) z O O O) (Mw.q O O (fun _ c=>R.ld O O (zaq ((f.ul a).at_ z).1 O ((f.ul a).at_ z).int c)) (Mw.p O O (fun _=>R.ne O O) (Mw.nil (cn Y (fun Y=>?_) fun Y=>?_))))
   ·exact sr (Nb O (.ret (rt Y a)))
   ·exact sk (rg (mi O (Lw.add O (Ni O ((agm) ⟨h,w64 (i+1),D,O,(A.j l10).w,O,Y⟩)))))
  ·refine Cw.exit ?_
   rw[C]at Y
   exact sr (Nb O (.ret (rt Y x)))
theorem p148 {x0 a x1 b r}(d:Rd W K [a] x0)(f:Rd W K [b] x1)(Y:Vm.zmD x0 x1=some r):Q1 148 [a,b] W [] fun W' v=>v=vB r:=
 (c148 (d.view _) (f.view _) Y).ad (fk 0) fun _ _ e=>e
theorem c49 {x0 b x1 e r}(d:Rd W0 [0] [b] x0)(f:Rd W0 [0] [e] x1)(Y:Vm.zgm x0 x1=some r):Q0 49 [b,e] W0 fun Wf v=>v=vB r:=by
 unfold Vm.zgm at Y
 refine zao.of Tryz.func49 O O O O (sr (Nb O (ssr (mv b O (Lw.ln x0 d O (mv e O (Lw.ln x1 f O (Lw.ne O (nl (cn Y (fun Y=>?_) fun Y=>?_))))))))))
 ·exact sr (Nb O (.ret (rt Y (Le.refl _ _))))
 ·refine sk (ssr (Ni O (Cw.block ?_)))
  obtain⟨B,C,Y⟩:=zaY Y
  refine Cw.loop 11 25 [4,5] (fun m l w=> ∃ h i k,CW.w k=w/\Le [] W0 k/\l=[vB h,vI i]/\Vm.zdX x0 x1 B m h i=some r) _ ⟨false,0,W0,O,Le.refl _ _,O,Y⟩ ?_
  rintro(_ |E) _ _ σ ⟨h,i,k,rfl,A,rfl,Y⟩
  ·cases Y
  unfold Vm.zdX at Y
  have x:=A.o
  refine ssr (mi O (mv b O (Lw.ln x0 (d.ul x) O (Lw.lt O (nl (cn Y (fun Y=>?_) fun Y=>?_))))))
  ·refine sk (Cw.seq (Cw.block (Cw.seq (Cw.draw [] [(0,0),(1,0),(2,0),(3,1),(4,0),(5,0),(6,0),(7,1),(8,0)] mixed (by kernel_rfl) fun D l10=>?_))))
   have a:=x.n l10
   refine Dv b O (Di O ?_)
   obtain⟨F,y,Y⟩:=ob Y
   refine Mw.p O O (fun _=>R.ix (α:=Str) (d.ul a) y O O O) (Mw.q O O (fun _ c=>R.ld O O (zaq ((d.ul a).at_ y).1 O ((d.ul a).at_ y).str c)) (Dv e O (Di O ?_)))
   obtain⟨G,z,Y⟩:=ob Y
   refine Mw.p O O (fun _=>R.ix (α:=Str) (f.ul a) z O O O) (Mw.q O O (fun _ c=>R.ld O O (zaq ((f.ul a).at_ z).1 O ((f.ul a).at_ z).str c)) (Mw.p O O (fun _=>R.sne O O) (Mw.nil (cn Y (fun Y=>?_) fun Y=>?_))))
   ·exact sr (Nb O (.ret (rt Y a)))
   ·exact sk (rg (mi O (Lw.add O (Ni O ((agm) ⟨h,w64 (i+1),D,O,(A.j l10).w,O,Y⟩)))))
  ·refine Cw.exit ?_
   rw[C]at Y
   exact sr (Nb O (.ret (rt Y x)))
theorem p49 {x0 a x1 b r}(d:Rd W K [a] x0)(f:Rd W K [b] x1)(Y:Vm.zgm x0 x1=some r):Q1 49 [a,b] W [] fun W' v=>v=vB r:=
 (c49 (d.view _) (f.view _) Y).ad (fk 0) fun _ _ e=>e
theorem c177 {x0 d x1 e r}(y:Rd W0 [0] [vS x0.Path,d] x0)(z:Rd W0 [0] [vS x1.Path,e] x1)(Y:Vm.zmE x0 x1=some r):Q0 177 [.agg [vS x0.Path,d].toArray, .agg [vS x1.Path,e].toArray] W0 fun Wf v=>v=vB r:=by
 unfold Vm.zmE at Y
 obtain⟨F,f,A⟩:=File.split y
 simp only[List.cons.injEq,and_true,true_and]at f
 obtain rfl:=f
 obtain⟨G,h,B⟩:=File.split z
 simp only[List.cons.injEq,and_true,true_and]at h
 obtain rfl:=h
 refine zao.of Tryz.func177 O O O O (sr (bo 2 O fun H I C i=>?_))
 have D:=C.o
 refine bo 3 O fun J K b k=>?_
 have a:=D.n b
 refine Nb O (ssr (fl (i.up b) O (fl k O (Lw.sne O (nl (cn Y (fun Y=>?_) fun Y=>?_))))))
 ·exact sr (Nb O (.ret (rt Y a)))
 ·refine sk (ssr (fl (i.up b) O (fl k O (ca Y (fun _=>p49 (A.ul a) (B.ul a)) fun L M Y E=>?_))))
  have x:=a.n E
  refine Lw.r O (R.not O) (nl (cn Y (fun Y=>?_) fun Y=>?_))
  ·exact sr (Nb O (.ret (rt Y x)))
  ·exact sk (sr (Nb O (.ret (rt Y x))))
theorem p177 {x0 a x1 b r}(d:Rd W K [vS x0.Path,a] x0)(f:Rd W K [vS x1.Path,b] x1)(Y:Vm.zmE x0 x1=some r):Q1 177 [.agg [vS x0.Path,a].toArray, .agg [vS x1.Path,b].toArray] W [] fun W' v=>v=vB r:=
 (c177 (d.view _) (f.view _) Y).ad (fk 0) fun _ _ e=>e
end Go.Sx
