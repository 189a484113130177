/- Walks: each function answers as its model, printed by a program of ours. Conditions: the arguments read as they are given. -/
import Derived.Test.YtpijdodljeieaaaGreatDoorATs
import Derived.Test.YtpijdodljeieaaaGreatDoorAM15
import Derived.Test.YtpijdodljeieaaaGreatDoorAW0
import Derived.Test.YtpijdodljeieaaaGreatDoorAW1
import Derived.Test.YtpijdodljeieaaaGreatDoorAW16
import Derived.Test.YtpijdodljeieaaaGreatDoorAW5
import Derived.Test.YtpijdodljeieaaaGreatDoorAW6
import Derived.Test.YtpijdodljeieaaaGreatDoorAW8
import Derived.Test.YtpijdodljeieaaaGreatDoorAW9
namespace Go.Sx
open Go Go.Proofs Go.Vm Rp
set_option linter.unusedVariables false
set_option linter.unusedSimpArgs false
variable {W W0:CW}{K:List Nat}
theorem c135 {x0 k x r}(hB0:Bx W0 2 k [x,vI x0.p])(C:Rd W0 [0] [x] x0.b)(Y:Vm.zj9 x0=some r):Q0 135 [ptr (bx k)] W0 fun Wf v=> ∃ I,v=I/\OwS Wf [31] [] [I] r.1/\Bx Wf 2 k [x,vI r.2]:=by
 unfold Vm.zj9 at Y
 refine zaO.of Tryz.func135 O O O O (sr (Nv (.slice none 0 0) O (sr (Lw.t O (T.lit0 (α:=File) 3 []) ?_))))
 rintro J _ ⟨W1,rfl,L,o1⟩
 have N:=L.o
 have b3:=hB0.up L
 refine Nv J O (ssr (mp O (cr Y (fun _=>p78 (c0:=2) (x0:=x0) b3 (C.ul N) O) ?_)))
 rintro P _ W7 Y Q ⟨rfl,au⟩
 have a8:=N.t Q
 refine Ni O (Cw.block ?_)
 obtain⟨aw,ax,Y⟩:=zdC Y
 obtain⟨S,ay,U,az⟩:=(o1.up Q).toSh
 have a0:=a8.t U
 rw[<- ay]
 refine Cw.loop 10 24 [3,4,5,6] (fun m l w=> ∃ (f:List Vm.File) (y:Int) (z:Int) (e V W:Value) (h:CW),h.w=w/\Le [2,3,4,5] S h/\l=[e,vI y,V,W]/\Ow (α:=List (Sh Vm.File)) h 3 [0] [e] f/\Bx h 2 k [x,vI z]/\Vm.zgM x0 aw m f y z=some r) _ ⟨([]:List File),P.1,P.2,J,undef,undef,S,O,Le.refl _ _,O,az,(au.up U),Y⟩ ?_
 rintro(_ |bv) _ _ σ ⟨f,y,z,e,V,W,h,rfl,X,rfl,Z,aa,Y⟩
 ·cases Y
 unfold Vm.zgM at Y
 have D:=a0.t X
 refine ssr (mi O (Lw.gt O (nl (cn Y (fun Y=>?_) fun Y=>?_))))
 ·refine sk (Cw.seq (Cw.block (sr (mv e O (mp O (cr Y (fun _=>p79 (c0:=2) (x0:=(Vm.l30Rd.mk x0.b z)) aa (C.ul D) O) ?_))))))
  rintro i _ bw Y E ⟨rfl,a1⟩
  have a3:=D.t E
  refine mp O (cr Y (fun _=>p157 (k0:=4) (c0:=2) (x0:=(Vm.l30Rd.mk x0.b i.2)) a1 (C.ul a3) O) ?_)
  rintro A F a4 Y ac ⟨_,rfl,G,a5⟩
  have ae:=(Z.up E).up ac
  refine Lw.r O (R.bd (zs:=[vS ([]:Str), .slice none 0 0]) (cs:=[vS i.1,F]) [(0,vS i.1),(1,F)] O O O (zc0 O O (zc0 G.oc O zhs))) ?_
  have a6:Rd (α:=List Vm.File) a4 [3,0] [e] f:=Ow.rdSh ae
  refine cr Y (fun _=>p156 (K:=[0,3,4]) (k0:=5) (x1:=(Vm.File.mk i.1 A.1)) (a6.sub (M:=[0,3,4]) O) ((File.rd (K:=[4]) i.1 A.1 G.rd).sub (M:=[0,3,4]) O)) ?_
  rintro d _ a7 Y B ⟨a,rfl,a9⟩
  have ba:Ow (α:=List (Sh Vm.File)) a7 5 [0,3,4] [a] d.1:=a9.sub O
  refine mv (.tuple [a,vB d.2].toArray) O (Lw.r O (R.ext (vs:=[a,vB d.2]) (v:=a) O O) (Lw.r O (R.ext (vs:=[a,vB d.2]) (v:=vB d.2) O O) (Gv a O (Nb O (rg (mv a O (Nv a O (rg (mi O (Lw.sub O (Ni O ?_)))))))))))
  obtain⟨af,bb,H,ah⟩:=zmJ _ 3
  have bz:Rd (α:=List Vm.File) af [0] [e] f:=by rw[ah];exact((ae.up B).rd.dye 3).sub (M:=[0]) O
  have bc:Ow (α:=List (Sh Vm.File)) af 5 [0,4] [a] d.1:=by rw[ah];exact(ba.dyeA 3 O).sub O
  obtain⟨ai,be,aj,ak⟩:=zmJ _ 4
  have b0:Rd (α:=List Str) ai [0] [F] A.1:=by rw[ak];exact(((G.up B).up H).rd.dye 4).sub (M:=[0]) O
  have bg:Ow (α:=List (Sh Vm.File)) ai 5 [0] [a] d.1:=by rw[ak];exact(bc.dyeA 4 O).sub O
  obtain⟨bh,bi,am,bj⟩:=bg.dyeO 3
  exact(agm) ⟨d.1,w64 (y-1),A.2,a,a,vB d.2,bh,bi.trans (be.trans (bb)),((((((X.j E).j ac).j B).j H).j aj).j am).w,O,bj,((((a5.up B).up H).up aj).up am),Y⟩
 ·refine Cw.exit ?_
  rw[ax]at Y
  refine sr (mv e O ?_)
  have bk:Rd (α:=List Vm.File) h [3,0] [e] f:=Ow.rdSh Z
  refine cr Y (fun _=>p92 (K:=[0,3]) (k0:=6) (bk.sub (M:=[0,3]) O)) ?_
  rintro b1 an b2 Y ao ⟨_,rfl,bl⟩
  have bm:=D.n ao
  refine Nv an O ?_
  obtain⟨b4,bn,ap,bp⟩:=bl.dyeO 31
  have bq:=bm.t ap
  cases Y
  rw[<- bn]
  exact Cw.ret (zj5 O (Res.mk bq ⟨an,O,bp.s,((aa.up ao).up ap)⟩))
theorem p135 {x0 d f k0 c0 r}(hB0:Bx W c0 d [f,vI x0.p])(h:Rd W K [f] x0.b)(hJ:okJ K [c0]=true)(Y:Vm.zj9 x0=some r):Q1 135 [ptr (bx d)] W [c0] fun W' v=> ∃ a,v=a/\Ow W' k0 [] [a] r.1/\Bx W' c0 d [f,vI r.2]:=
 zaO.adJ (J:=[c0]) (fun c=>bif Nat.beq c 0 then 0 else bif Nat.beq c 2 then c0 else bif Nat.beq c 31 then k0 else 0) (c135 (hB0.viewJ 0 hJ) (h.view _) Y) fun _ _ ⟨a,e,i,k⟩=>⟨a,e,i.one1.backN O,Bx.backJ 0 k O⟩
theorem c136 {x0 a d r}(hB0:Bx W0 2 a [d,vI x0.p])(e:Rd W0 [0] [d] x0.b)(Y:Vm.zig x0=some r):Q0 136 [ptr (bx a)] W0 fun Wf v=>v=vS r.1/\Bx Wf 2 a [d,vI r.2]:=by
 unfold Vm.zig at Y
 refine zaO.of Tryz.func136 O O O O (sr (Ns O (ssr (mp O (cr Y (fun _=>p78 (c0:=2) (x0:=x0) hB0 e O) ?_)))))
 rintro h _ y Y z ⟨rfl,i⟩
 have f:=z.s
 refine Lw.eq O (nl (cn Y (fun Y=>?_) fun Y=>?_))
 ·refine sr (mp O (Lw.t O (T.bsS (α:=Str) (xs:=[([]:Str),([100]:Str),([103]:Str),([65]:Str),([97,47]:Str),([97,47,98,47,99,47,100]:Str),([116,111,111,108,111,110,103]:Str),([103,47,104]:Str),([100,47,101,47,102]:Str)]) 3 [] (W:=y) [vS ([]:Str),vS ([100]:Str),vS ([103]:Str),vS ([65]:Str),vS ([97,47]:Str),vS ([97,47,98,47,99,47,100]:Str),vS ([116,111,111,108,111,110,103]:Str),vS ([103,47,104]:Str),vS ([100,47,101,47,102]:Str)] (Each.cons ((rdS _)) (Each.cons ((rdS _)) (Each.cons ((rdS _)) (Each.cons ((rdS _)) (Each.cons ((rdS _)) (Each.cons ((rdS _)) (Each.cons ((rdS _)) (Each.cons ((rdS _)) (Each.cons ((rdS _)) Each.nil))))))))) O) ?_))
  rintro H _ ⟨I,rfl,k,A⟩
  have x:=f.n k
  refine cr Y (fun _=>p86 (K:=[0,3]) (c0:=2) (x0:=(Vm.l30Rd.mk x0.b h.2)) (i.up k) ((e.ul x).sub (M:=[0,3]) O) (A.rd.sub (M:=[0,3]) O) O) ?_
  rintro J _ L Y B ⟨rfl,C⟩
  have D:=x.t B
  refine Ns O ?_
  cases Y
  exact Cw.ret (zj5 O (Res.mk D ⟨O,C⟩))
 ·refine sk (sr (mp O (cr Y (fun _=>p79 (c0:=2) (x0:=(Vm.l30Rd.mk x0.b h.2)) i (e.ul f) O) ?_)))
  rintro N _ P Y E ⟨rfl,F⟩
  have G:=f.t E
  refine Ns O ?_
  cases Y
  exact Cw.ret (zj5 O (Res.mk G ⟨O,F⟩))
theorem p136 {x0 a d c0 r}(hB0:Bx W c0 a [d,vI x0.p])(f:Rd W K [d] x0.b)(hJ:okJ K [c0]=true)(Y:Vm.zig x0=some r):Q1 136 [ptr (bx a)] W [c0] fun W' v=>v=vS r.1/\Bx W' c0 a [d,vI r.2]:=
 zaO.adJ (J:=[c0]) (fun c=>bif Nat.beq c 0 then 0 else bif Nat.beq c 2 then c0 else 0) (c136 (hB0.viewJ 0 hJ) (f.view _) Y) fun _ _ ⟨e,h⟩=>⟨e,Bx.backJ 0 h O⟩
theorem c137 {x0 d e r}(hB0:Bx W0 2 d [e,vI x0.p])(f:Rd W0 [0] [e] x0.b)(Y:Vm.zih x0=some r):Q0 137 [ptr (bx d)] W0 fun Wf v=> ∃ A,v=A/\OwS Wf [31] [] [A] r.1/\Bx Wf 2 d [e,vI r.2]:=by
 unfold Vm.zih at Y
 refine zaO.of Tryz.func137 O O O O (sr (Nv (.slice none 0 0) O (sr (mp O (cr Y (fun _=>p157 (k0:=3) (c0:=2) (x0:=x0) hB0 f O) ?_)))))
 rintro R a W3 Y S ⟨_,rfl,U,V⟩
 have B:=S.s
 refine Nv a O (ssr (mp O (cr Y (fun _=>p78 (c0:=2) (x0:=(Vm.l30Rd.mk x0.b R.2)) V (f.ul B) O) ?_)))
 rintro X _ C Y D ⟨rfl,h⟩
 have i:=B.t D
 have k:=U.up D
 refine nl (Cw.block (sr (Lw.eq O (Nb O (cn Y (fun Y=>?_) fun Y=>?_)))))
 ·refine sr (mv a O (mp O (Lw.t O (T.bsS (α:=Str) (xs:=[([97,32,108,105,110,101,32,116,111,111,32,108,111,110,103]:Str),([120,10,121]:Str),([255]:Str)]) 4 [] (W:=C) [vS ([97,32,108,105,110,101,32,116,111,111,32,108,111,110,103]:Str),vS ([120,10,121]:Str),vS ([255]:Str)] (Each.cons ((rdS _)) (Each.cons ((rdS _)) (Each.cons ((rdS _)) Each.nil))) O) ?_)))
  rintro a2 _ ⟨a3,rfl,x,Z⟩
  have E:=i.n x
  refine cr Y (fun _=>p86 (K:=[0,4]) (c0:=2) (x0:=(Vm.l30Rd.mk x0.b X.2)) (h.up x) ((f.ul E).sub (M:=[0,4]) O) (Z.rd.sub (M:=[0,4]) O) O) ?_
  rintro F _ a5 Y G ⟨rfl,aa⟩
  have ac:=E.t G
  refine Lw.t O (T.bs 5 [vS F.1] (cs:=[vS F.1]) O O (bsv O)) ?_
  rintro _ _ ⟨a6,a7,rfl,rfl,y,ae⟩
  have af:=ac.n y
  obtain⟨a8,ah,Y⟩:=ob Y
  refine Lw.t O (T.app1S (α:=Str) (K':=[]) (((k.up x).up G).up y) ae (rdS _) O O ah) ?_
  rintro H _ ⟨ba,rfl,I,ai⟩
  have aj:=af.t I
  refine Nv H O ?_
  obtain⟨bb,ak,J,am⟩:=ai.dyeO 31
  have an:=aj.t J
  cases Y
  rw[<- ak]
  exact Cw.ret (zj5 O (Res.mk an ⟨H,O,am.s,(((aa.up y).up I).up J)⟩))
 ·refine sr (Lw.eq O (Nb O (cn Y (fun Y=>?_) fun Y=>?_)))
  ·refine sr (mv a O (Lw.t O (T.bsS (α:=Str) (xs:=[([49]:Str),([50]:Str),([51]:Str),([52]:Str),([53]:Str),([54]:Str),([55]:Str),([56]:Str),([57]:Str),([49,48]:Str)]) 6 [] (W:=C) [vS ([49]:Str),vS ([50]:Str),vS ([51]:Str),vS ([52]:Str),vS ([53]:Str),vS ([54]:Str),vS ([55]:Str),vS ([56]:Str),vS ([57]:Str),vS ([49,48]:Str)] (Each.cons ((rdS _)) (Each.cons ((rdS _)) (Each.cons ((rdS _)) (Each.cons ((rdS _)) (Each.cons ((rdS _)) (Each.cons ((rdS _)) (Each.cons ((rdS _)) (Each.cons ((rdS _)) (Each.cons ((rdS _)) (Each.cons ((rdS _)) Each.nil)))))))))) O) ?_))
   rintro bc _ ⟨be,rfl,z,ao⟩
   have ap:=i.n z
   obtain⟨bg,aq,Y⟩:=ob Y
   refine Lw.t O (T.appP (α:=Str) (k.up z) ao.rd O O aq) ?_
   rintro L _ ⟨bh,rfl,N,ar⟩
   have au:=ap.t N
   refine Nv L O ?_
   obtain⟨bi,av,P,aw⟩:=ar.dyeO 31
   have ax:=au.t P
   cases Y
   rw[<- av]
   exact Cw.ret (zj5 O (Res.mk ax ⟨L,O,aw.s,(((h.up z).up N).up P)⟩))
  ·refine sk (sr (mv a O (Nv a O ?_)))
   obtain⟨bj,ay,Q,az⟩:=k.dyeO 31
   have a0:=i.t Q
   cases Y
   rw[<- ay]
   exact Cw.ret (zj5 O (Res.mk a0 ⟨a,O,az.s,(h.up Q)⟩))
theorem p137 {x0 d f k0 c0 r}(hB0:Bx W c0 d [f,vI x0.p])(h:Rd W K [f] x0.b)(hJ:okJ K [c0]=true)(Y:Vm.zih x0=some r):Q1 137 [ptr (bx d)] W [c0] fun W' v=> ∃ a,v=a/\Ow W' k0 [] [a] r.1/\Bx W' c0 d [f,vI r.2]:=
 zaO.adJ (J:=[c0]) (fun c=>bif Nat.beq c 0 then 0 else bif Nat.beq c 2 then c0 else bif Nat.beq c 31 then k0 else 0) (c137 (hB0.viewJ 0 hJ) (h.view _) Y) fun _ _ ⟨a,e,i,k⟩=>⟨a,e,i.one1.backN O,Bx.backJ 0 k O⟩
theorem c87 {x0 x y r}(hB0:Bx W0 2 x [y,vI x0.p])(h:Rd W0 [0] [y] x0.b)(Y:Vm.zii x0=some r):Q0 87 [ptr (bx x)] W0 fun Wf v=> ∃ Q,v=Q/\OwS (α:=List (Sh Vm.File)) Wf [31] [0] [Q] r.1/\Bx Wf 2 x [y,vI r.2]:=by
 unfold Vm.zii at Y
 refine zaO.of Tryz.func87 O O O O (sr (Nv (.slice none 0 0) O (sr (mp O (cr Y (fun _=>p135 (k0:=3) (c0:=2) (x0:=x0) hB0 h O) ?_)))))
 rintro e a S Y l3 ⟨_,rfl,z,U⟩
 have D:=l3.s
 refine Nv a O ?_
 obtain⟨ar,au,Y⟩:=zdC Y
 refine Cw.join 7 40 [2,4] (fun l w=> ∃ E F G H V f,CW.w f=w/\Le [2,3,5] S f/\l=[H,V]/\Ow f 4 [] [H] E/\Bx f 2 x [y,vI F]/\Ow f 3 [] [a] G/\ar E F G=some r) ?_ ?_
 ·rintro _ _ σ ⟨E,F,G,H,V,f,rfl,av,rfl,o7,aw,ax,Y⟩
  rw[au]at Y
  have ay:=D.t av
  refine sr (mv a O (Nv a O ?_))
  obtain⟨b2,az,W,a0⟩:=ax.toSh
  have a1:=ay.t W
  obtain⟨b3,a2,X,a3⟩:=a0.dyeO 31
  have a5:=a1.t X
  cases Y
  rw[<- a2.trans (az)]
  exact Cw.ret (zj5 O (Res.mk a5 ⟨a,O,a3.s,((aw.up W).up X)⟩))
 ·refine sr (mv a O (Lw.ln e.1 z.rd O (Lw.gt O (nl (cn Y (fun Y=>?_) fun Y=>?_)))))
  ·refine sr (mp O (mv a O (Lw.ln e.1 z.rd O (cr Y (fun _=>p78 (c0:=2) (x0:=(Vm.l30Rd.mk x0.b e.2)) U (h.ul D) O) ?_))))
   rintro A _ b4 Y i ⟨rfl,a6⟩
   have Z:=D.t i
   refine Ni O (sr (mp O (cr Y (fun _=>p78 (c0:=2) (x0:=(Vm.l30Rd.mk x0.b A.2)) a6 (h.ul Z) O) ?_)))
   rintro I _ a7 Y k ⟨rfl,B⟩
   have L:=Z.t k
   have d:=(z.up i).up k
   refine nl (Cw.block (sr (Lw.eq O (Nb O (cn Y (fun Y=>?_) fun Y=>?_)))))
   ·refine rg (mv a O (mi O (mp O (cr Y (fun _=>p136 (c0:=2) (x0:=(Vm.l30Rd.mk x0.b I.2)) B (h.ul L) O) ?_))))
    rintro a8 _ b5 Y M ⟨rfl,a9⟩
    obtain⟨b6,aa,Y⟩:=ob Y
    refine Lw.r O (R.ix (α:=File) (d.up M).rd aa O O O) (Lw.fa O ?_)
    obtain⟨ba,bb,Y⟩:=ob Y
    refine Lw.u (T.stH (α:=File) (β:=Str) (J:=[]) (Ow.hole (α:=File) (β:=Str) (jf:=0) (d.up M) aa) (OwS.atm (K:=[]) (rdS _)) bb O O O O) ?_
    rintro _ _ ⟨bc,rfl,ac,be⟩
    exact nl ((ag) ⟨([]:List File),a8.2,ba, .slice none 0 0,vI A.1,bc,O,(((i.j k).j M).j ac).w,O,owN 4 [],(a9.up ac),be,Y⟩)
   ·refine sr (Lw.eq O (Nb O (cn Y (fun Y=>?_) fun Y=>?_)))
    ·refine rg (mv a O (mi O (mp O (cr Y (fun _=>p137 (k0:=5) (c0:=2) (x0:=(Vm.l30Rd.mk x0.b I.2)) B (h.ul L) O) ?_))))
     rintro bg b7 b8 Y N ⟨_,rfl,bh,bi⟩
     obtain⟨b9,ae,Y⟩:=ob Y
     refine Lw.r O (R.ix (α:=File) (d.up N).rd ae O O O) (Lw.fa O ?_)
     obtain⟨bj,bk,Y⟩:=ob Y
     refine Lw.u (T.stH (α:=File) (β:=List Str) (J:=[5]) (Ow.hole (α:=File) (β:=List Str) (jf:=1) (d.up N) ae) bh.s bk O O O O) ?_
     rintro _ _ ⟨bl,rfl,af,bm⟩
     exact nl ((ag) ⟨([]:List File),bg.2,bj, .slice none 0 0,vI A.1,bl,O,(((i.j k).j N).j af).w,O,owN 4 [],(bi.up af),bm,Y⟩)
    ·refine sr (Lw.eq O (Nb O (cn Y (fun Y=>?_) fun Y=>?_)))
     ·refine sr (mv a O (mv a O (mi O ?_)))
      obtain⟨C,ah,Y⟩:=ob Y
      refine Lw.r O (R.ix (α:=File) d.rd ah O O O) ?_
      obtain⟨cb,bn,ai,aj⟩:=d.toSh
      rw[<- bn]
      have bp:=L.t ai
      obtain⟨x71,c72,_,r73⟩:=Ow.cellsSh (α:=Vm.File) aj ah
      obtain⟨ak,rfl,r75⟩:=File.split r73
      refine Lw.r O (R.lda c72 O O) (Lw.t O (T.bs 6 [.agg [vS C.Path,ak].toArray] (cs:=[vS C.Path,ak]) O O (bsA O)) ?_)
      rintro _ _ ⟨cc,cd,rfl,rfl,P,bq⟩
      have am:=P.o
      obtain⟨ce,br,Y⟩:=ob Y
      refine Lw.t O (T.app1S (α:=Sh Vm.File) (K':=[0]) (aj.up P) bq (File.rd (K:=[0]) C.Path C.Text (r75.ul am)).sh1 O O br) ?_
      rintro an _ ⟨cf,rfl,ao,bu⟩
      have bv:=(bp.trans am).t ao
      refine Nv an O ?_
      obtain⟨cg,bw,ap,bz⟩:=bu.dyeO 31
      have b0:=bv.t ap
      cases Y
      rw[<- bw]
      exact Cw.ret (zj5 O (Res.mk b0 ⟨an,O,bz.s,((((B.up ai).up P).up ao).up ap)⟩))
     ·exact sk ((ag) ⟨([]:List File),I.2,e.1, .slice none 0 0,vI A.1,a7,O,(i.j k).w,O,owN 4 [],B,d,Y⟩)
  ·exact sk ((ag) ⟨([]:List File),e.2,e.1, .slice none 0 0,undef,S,O,Le.refl _ _,O,owN 4 [],U,z,Y⟩)
theorem p87 {x0 d f k0 c0 r}(hB0:Bx W c0 d [f,vI x0.p])(h:Rd W K [f] x0.b)(hJ:okJ K [c0]=true)(Y:Vm.zii x0=some r):Q1 87 [ptr (bx d)] W [c0] fun W' v=> ∃ a,v=a/\Ow (α:=List (Sh Vm.File)) W' k0 (0::K) [a] r.1/\Bx W' c0 d [f,vI r.2]:=
 zaO.adJ (J:=[c0]) (fun c=>bif Nat.beq c 0 then 0 else bif Nat.beq c 2 then c0 else bif Nat.beq c 31 then k0 else 0) (c87 (hB0.viewJ 0 hJ) (h.view _) Y) fun _ _ ⟨a,e,i,k⟩=>⟨a,e,i.one1.backNS O O,Bx.backJ 0 k O⟩
theorem c28 {x0 Z r}(h0:Rd W0 [0] [Z] x0)(Y:Vm.zgn x0=some r):Q0 28 [Z] W0 fun Wf v=> ∃ an ao u3,v = .tuple [.agg [an,ao].toArray,vS r.2.1,vS r.2.2.1,u3].toArray/\OwS Wf [31] [] [an] r.1.Commits/\OwS Wf [32] [] [ao] r.1.Heads/\OwS (α:=List (Sh Vm.File)) Wf [33] [0] [u3] r.2.2.2:=by
 unfold Vm.zgn at Y
 refine zaO.of Tryz.func28 O O O O (sr (al 2 [.slice none 0 0, .slice none 0 0] fun D W1 l1 b1=>?_))
 have a2:=l1.o
 refine Gs O (Gs O (Nv (.slice none 0 0) O (sr (mv Z O (cr Y (fun _=>p75 (k0:=3) (h0.ul a2)) ?_)))))
 rintro G _ W6 Y l6 ⟨a,f,rfl,bh,bi⟩
 have H:=bi.sub (M:=[0]) O
 have a8:=a2.n l6
 refine Np O (sr (mp O (cr Y (fun _=>p76 (k0:=4) (k1:=5) (c0:=3) (x0:=G) bh H O) ?_)))
 rintro I _ dc Y au ⟨x,y,rfl,av,aw,bk⟩
 have J:=au.s
 refine al 6 [.slice none 0 0, .slice none 0 0] fun dd de B bl=>?_
 have L:=B.o
 refine sta bl (zah (av.up B).oc (zah (aw.up B).oc za4)) fun df E bm=>?_
 have N:=E.s
 refine nl (Cw.seq ?_)
 obtain⟨d,bn,Y⟩:=ob Y
 obtain⟨e,bp,Y⟩:=ob Y
 obtain⟨i,bq,Y⟩:=ob Y
 refine Cw.par [[],[],[],[1,2],[],[],[1,2,3,4,5],[],[1,2,3,4,5,6,7],[0,1,2,3,4,5,6,7,8],[0,1,2,3,4,5,6,7,8,9],[0,1,2,3,4,5,6,7,8,9,10],[0,1,2,3,4,5,6,7,8,9,10,11]] [[],[14],[],[1,2,14],[],[],[3,4,5],[],[6,7],[0,13],[8],[8],[8]] [[],[],[],[3],[],[],[3],[],[3],[2],[],[],[]] [[0],[1],[2],[3],[4],[5],[3,6],[7],[3,6,8],[],[10],[11],[8,12],[],[]] [[],[],[7],[3],[],[8],[3],[],[0,3,9],[2],[],[],[],[2],[3]] [0,1,2,4,5,7,8,9,10,11,12] [2,3] [fun vs W=>(vs 0) = .agg [x,y].toArray,fun vs W=>(vs 1)=ptr (bx a),fun vs W=>Ow W 7 [] [(vs 2)] ([([109,97,105,110]:Str),([115,105,100,101]:Str),([110,101,119]:Str),([66,97,100]:Str)]:List Str),fun vs W=>(vs 3)=vS d.1/\Bx W 3 a [f,vI d.2],fun vs W=>(vs 4)=ptr (bx a),fun vs W=>Ow W 8 [] [(vs 5)] ([([97,110,110]:Str),([98,111,98]:Str),([]:Str)]:List Str),fun vs W=>(vs 6)=vS e.1/\(vs 3)=vS d.1/\Bx W 3 a [f,vI e.2],fun vs W=>(vs 7)=ptr (bx a),fun vs W=>(vs 3)=vS d.1/\(vs 6)=vS e.1/\Ow (α:=List (Sh Vm.File)) W 9 [0] [(vs 8)] i.1/\Bx W 3 a [f,vI i.2],fun vs W=>Bx W 2 D [x,y],fun vs W=>(vs 10)=vS d.1,fun vs W=>(vs 11)=vS e.1,fun vs W=>(vs 12)=(vs 8)] [fun _ W=>Bx W 2 D [.slice none 0 0, .slice none 0 0],fun _ W=>Bx W 3 a [f,vI I.2]] mixed (by kernel_rfl) O (zqj.cons (fun _ _ l=>((((b1.up l6).up au).up B).up E).up l O) (zqj.cons (fun _ _ l=>((bk.up B).up E).up l O) zqj.nil)) ?_
 intro dg P
 have Q:=P.o
 have ax:=((av.up B).up E).up P
 have ay:=((aw.up B).up E).up P
 refine⟨(zdm.cons ?_ (zdm.cons ?_ (zdm.cons ?_ (zdm.cons ?_ (zdm.cons ?_ (zdm.cons ?_ (zdm.cons ?_ (zdm.cons ?_ (zdm.cons ?_ (zdm.cons ?_ (zdm.cons ?_ (zdm.cons ?_ (zdm.cons ?_ zdm.nil))))))))))))),(zhG.cons SE (zhG.cons SE (zhG.cons SO (zhG.cons (fun vs vs' W W' _ hv l hd h=>by(show(vs' 3)=vS d.1/\Bx W' 3 a [f,vI d.2]);rw[hv 3 (zcl O)];exact⟨h.1,h.2.up l (ziy hd (c:=3) O)⟩) (zhG.cons SE (zhG.cons SO (zhG.cons (fun vs vs' W W' _ hv l hd h=>by(show(vs' 6)=vS e.1/\(vs' 3)=vS d.1/\Bx W' 3 a [f,vI e.2]);rw[hv 3 (zcl O),hv 6 (zcl O)];exact⟨h.1,h.2.1,h.2.2.up l (ziy hd (c:=3) O)⟩) (zhG.cons SE (zhG.cons (fun vs vs' W W' _ hv l hd h=>by(show(vs' 3)=vS d.1/\(vs' 6)=vS e.1/\Ow (α:=List (Sh Vm.File)) W' 9 [0] [(vs' 8)] i.1/\Bx W' 3 a [f,vI i.2]);rw[hv 3 (zcl O),hv 6 (zcl O),hv 8 (zcl O)];exact⟨h.1,h.2.1,h.2.2.1.up l (zlZ hd (K:=[9,0]) O),h.2.2.2.up l (ziy hd (c:=3) O)⟩) (zhG.cons (fun vs vs' W W' _ hv l hd h=>by(show Bx W' 2 D [x,y]);exact h.up l (ziy hd (c:=2) O)) (zhG.cons SE (zhG.cons SE (zhG.cons (fun vs vs' W W' _ hv l hd h=>by(show(vs' 12)=(vs' 8));rw[hv 8 (zcl O),hv 12 (zcl O)];exact h) (zhG.cons (fun _ _ _ _ _ _ l hd h=>h.up l (ziy hd (c:=2) O)) (zhG.cons (fun _ _ _ _ _ _ l hd h=>h.up l (ziy hd (c:=3) O)) zhG.nil))))))))))))))),?_⟩
 ·intro vs dh lW hN hV
  exact Trq (R.lda (cs:=[x,y]) ((bm.up P).up lW O).cells O O) O
 ·intro vs br lW hN hV
  have di:Bx br 3 a [f,vI I.2]:=hN 14 (zcl O)
  exact Trq (R.mv (v:=ptr (bx a)) O) O
 ·intro vs bu lW hN hV
  refine Tr.mono (T.bsS (α:=Str) (xs:=[([109,97,105,110]:Str),([115,105,100,101]:Str),([110,101,119]:Str),([66,97,100]:Str)]) 7 [] (W:=bu) [vS ([109,97,105,110]:Str),vS ([115,105,100,101]:Str),vS ([110,101,119]:Str),vS ([66,97,100]:Str)] (Each.cons ((rdS _)) (Each.cons ((rdS _)) (Each.cons ((rdS _)) (Each.cons ((rdS _)) Each.nil)))) O) ?_
  rintro bv _ ⟨az,rfl,bw,bz⟩
  exact⟨az,O,bw,(show Ow az 7 [] [bv] ([([109,97,105,110]:Str),([115,105,100,101]:Str),([110,101,119]:Str),([66,97,100]:Str)]:List Str) from bz)⟩
 ·intro vs a0 lW hN hV
  have b0:=(((J.trans L).trans N).trans Q).t lW O
  have aa:vs 1=ptr (bx a):=(hN 1 (zcl O))
  obtain⟨vs,rfl⟩:=za7 aa
  obtain⟨ac,ae⟩: ∃ v,vs 2=v:=⟨_,O⟩
  obtain⟨vs,rfl⟩:=za7 ae
  have b2:Ow a0 7 [] [ac] ([([109,97,105,110]:Str),([115,105,100,101]:Str),([110,101,119]:Str),([66,97,100]:Str)]:List Str):=(hN 2 (zcl O))
  have b3:Bx a0 3 a [f,vI I.2]:=hN 14 (zcl O)
  refine Tr.mono (T.call O (p86 (K:=[0,7]) (c0:=3) (x0:=(Vm.l30Rd.mk G.b I.2)) b3 ((H.ul b0).sub (M:=[0,7]) O) (b2.rd.sub (M:=[0,7]) O) O bn)) ?_
  rintro _ _ ⟨a1,rfl,b4,⟨rfl,b5⟩⟩
  exact⟨a1,O,b4,(show(vS d.1:Value)=vS d.1/\Bx a1 3 a [f,vI d.2] from⟨O,b5⟩)⟩
 ·intro vs dj lW hN hV
  exact Trq (R.mv (v:=ptr (bx a)) O) O
 ·intro vs b6 lW hN hV
  refine Tr.mono (T.bsS (α:=Str) (xs:=[([97,110,110]:Str),([98,111,98]:Str),([]:Str)]) 8 [] (W:=b6) [vS ([97,110,110]:Str),vS ([98,111,98]:Str),vS ([]:Str)] (Each.cons ((rdS _)) (Each.cons ((rdS _)) (Each.cons ((rdS _)) Each.nil))) O) ?_
  rintro b7 _ ⟨a3,rfl,b8,b9⟩
  exact⟨a3,O,b8,(show Ow a3 8 [] [b7] ([([97,110,110]:Str),([98,111,98]:Str),([]:Str)]:List Str) from b9)⟩
 ·intro vs a4 lW hN hV
  have cb:=(((J.trans L).trans N).trans Q).t lW O
  have k:vs 3=vS d.1:=(hN 3 (zcl O)).1
  obtain⟨vs,rfl⟩:=za7 k
  have cc:Bx a4 3 a [f,vI d.2]:=(hN 3 (zcl O)).2
  have af:vs 4=ptr (bx a):=(hN 4 (zcl O))
  obtain⟨vs,rfl⟩:=za7 af
  obtain⟨ah,ai⟩: ∃ v,vs 5=v:=⟨_,O⟩
  obtain⟨vs,rfl⟩:=za7 ai
  have cd:Ow a4 8 [] [ah] ([([97,110,110]:Str),([98,111,98]:Str),([]:Str)]:List Str):=(hN 5 (zcl O))
  refine Tr.mono (T.call O (p86 (K:=[0,8]) (c0:=3) (x0:=(Vm.l30Rd.mk G.b d.2)) cc ((H.ul cb).sub (M:=[0,8]) O) (cd.rd.sub (M:=[0,8]) O) O bp)) ?_
  rintro _ _ ⟨a5,rfl,ce,⟨rfl,cf⟩⟩
  exact⟨a5,O,ce,(show(vS e.1:Value)=vS e.1/\(vS d.1)=vS d.1/\Bx a5 3 a [f,vI e.2] from⟨O,O,cf⟩)⟩
 ·intro vs dk lW hN hV
  exact Trq (R.mv (v:=ptr (bx a)) O) O
 ·intro vs cg lW hN hV
  have ch:=(((J.trans L).trans N).trans Q).t lW O
  have k:vs 3=vS d.1:=(hN 6 (zcl O)).2.1
  obtain⟨vs,rfl⟩:=za7 k
  have A:vs 6=vS e.1:=(hN 6 (zcl O)).1
  obtain⟨vs,rfl⟩:=za7 A
  have ci:Bx cg 3 a [f,vI e.2]:=(hN 6 (zcl O)).2.2
  have aj:vs 7=ptr (bx a):=(hN 7 (zcl O))
  obtain⟨vs,rfl⟩:=za7 aj
  refine Tr.mono (T.call O (p87 (k0:=9) (c0:=3) (x0:=(Vm.l30Rd.mk G.b e.2)) ci (H.ul ch) O bq)) ?_
  rintro a6 _ ⟨S,rfl,cj,⟨_,rfl,ck,cl⟩⟩
  have cm:Ow (α:=List (Sh Vm.File)) S 9 [0] [a6] i.1:=ck.sub O
  exact⟨S,O,cj,(show(vS d.1)=vS d.1/\(vS e.1)=vS e.1/\Ow (α:=List (Sh Vm.File)) S 9 [0] [a6] i.1/\Bx S 3 a [f,vI i.2] from⟨O,O,cm,cl⟩)⟩
 ·intro vs co lW hN hV
  have ak:vs 0 = .agg [x,y].toArray:=(hN 0 (zcl O))
  obtain⟨vs,rfl⟩:=za7 ak
  have cp:Bx co 2 D [.slice none 0 0, .slice none 0 0]:=hN 13 (zcl O)
  refine Tr.mono (T.sta (vs:=[x,y]) cp O O (zah (ax.up lW O).oc (zah (ay.up lW O).oc za4)) O O) ?_
  rintro _ _ ⟨a7,rfl,cq,ct⟩
  exact⟨a7,O,cq,(show Bx a7 2 D [x,y] from ct)⟩
 ·intro vs a9 lW hN hV
  have k:vs 3=vS d.1:=(hN 8 (zcl O)).1
  obtain⟨vs,rfl⟩:=za7 k
  have A:vs 6=vS e.1:=(hN 8 (zcl O)).2.1
  obtain⟨vs,rfl⟩:=za7 A
  obtain⟨z,C⟩: ∃ v,vs 8=v:=⟨_,O⟩
  obtain⟨vs,rfl⟩:=za7 C
  have dl:Ow (α:=List (Sh Vm.File)) a9 9 [0] [z] i.1:=(hN 8 (zcl O)).2.2.1
  have dm:Bx a9 3 a [f,vI i.2]:=(hN 8 (zcl O)).2.2.2
  exact Trq (R.as (v:=vS d.1) O) O
 ·intro vs ba lW hN hV
  have k:vs 3=vS d.1:=(hN 8 (zcl O)).1
  obtain⟨vs,rfl⟩:=za7 k
  have A:vs 6=vS e.1:=(hN 8 (zcl O)).2.1
  obtain⟨vs,rfl⟩:=za7 A
  obtain⟨z,C⟩: ∃ v,vs 8=v:=⟨_,O⟩
  obtain⟨vs,rfl⟩:=za7 C
  have dn:Ow (α:=List (Sh Vm.File)) ba 9 [0] [z] i.1:=(hN 8 (zcl O)).2.2.1
  have dp:Bx ba 3 a [f,vI i.2]:=(hN 8 (zcl O)).2.2.2
  exact Trq (R.as (v:=vS e.1) O) O
 ·intro vs bb lW hN hV
  have k:vs 3=vS d.1:=(hN 8 (zcl O)).1
  obtain⟨vs,rfl⟩:=za7 k
  have A:vs 6=vS e.1:=(hN 8 (zcl O)).2.1
  obtain⟨vs,rfl⟩:=za7 A
  obtain⟨z,C⟩: ∃ v,vs 8=v:=⟨_,O⟩
  obtain⟨vs,rfl⟩:=za7 C
  have dq:Ow (α:=List (Sh Vm.File)) bb 9 [0] [z] i.1:=(hN 8 (zcl O)).2.2.1
  have dr:Bx bb 3 a [f,vI i.2]:=(hN 8 (zcl O)).2.2.2
  exact Trq (R.as (v:=z) O) O
 ·intro vs F am hN
  have cu:=((((a8.trans J).trans L).trans N).trans Q).t am
  have ak:vs 0 = .agg [x,y].toArray:=(hN 0 (zcl O))
  obtain⟨vs,rfl⟩:=za7 ak
  have aa:vs 1=ptr (bx a):=(hN 1 (zcl O))
  obtain⟨vs,rfl⟩:=za7 aa
  obtain⟨ac,ae⟩: ∃ v,vs 2=v:=⟨_,O⟩
  obtain⟨vs,rfl⟩:=za7 ae
  have ds:Ow F 7 [] [ac] ([([109,97,105,110]:Str),([115,105,100,101]:Str),([110,101,119]:Str),([66,97,100]:Str)]:List Str):=(hN 2 (zcl O))
  have af:vs 4=ptr (bx a):=(hN 4 (zcl O))
  obtain⟨vs,rfl⟩:=za7 af
  obtain⟨ah,ai⟩: ∃ v,vs 5=v:=⟨_,O⟩
  obtain⟨vs,rfl⟩:=za7 ai
  have dt:Ow F 8 [] [ah] ([([97,110,110]:Str),([98,111,98]:Str),([]:Str)]:List Str):=(hN 5 (zcl O))
  have aj:vs 7=ptr (bx a):=(hN 7 (zcl O))
  obtain⟨vs,rfl⟩:=za7 aj
  have k:vs 3=vS d.1:=(hN 8 (zcl O)).1
  obtain⟨vs,rfl⟩:=za7 k
  have A:vs 6=vS e.1:=(hN 8 (zcl O)).2.1
  obtain⟨vs,rfl⟩:=za7 A
  obtain⟨z,C⟩: ∃ v,vs 8=v:=⟨_,O⟩
  obtain⟨vs,rfl⟩:=za7 C
  have cv:Ow (α:=List (Sh Vm.File)) F 9 [0] [z] i.1:=(hN 8 (zcl O)).2.2.1
  have du:Bx F 3 a [f,vI i.2]:=(hN 8 (zcl O)).2.2.2
  have cw:Bx F 2 D [x,y]:=(hN 9 (zcl O))
  have cx:vs 10=vS d.1:=(hN 10 (zcl O))
  obtain⟨vs,rfl⟩:=za7 cx
  have cy:vs 11=vS e.1:=(hN 11 (zcl O))
  obtain⟨vs,rfl⟩:=za7 cy
  have cz:vs 12=z:=(hN 12 (zcl O))
  obtain⟨vs,rfl⟩:=za7 cz
  obtain⟨dv,c1,U,c2⟩:=(ax.up am).dyeO 31
  have c3:=cu.t U
  obtain⟨dw,c4,V,c5⟩:=((ay.up am).up U).dyeO 32
  have c6:=c3.t V
  obtain⟨dx,c7,X,c8⟩:=((cv.up U).up V).dyeO 33
  have c9:=c6.t X
  cases Y
  rw[<- c7.trans (c4.trans (c1))]
  exact Cw.ret (zxE (zkw.c O (((cw.up U).up V).up X) (zkw.t O (zkw.t O (zkw.t O zkw.n)))) (Res.mk c9 ⟨x,y,z,O,((c2.up V).up X).s,(c5.up X).s,c8.s⟩))
theorem p28 {x0 f k0 k1 k2 r}(h:Rd W K [f] x0)(Y:Vm.zgn x0=some r):Q1 28 [f] W [] fun W' v=> ∃ a b d,v = .tuple [.agg [a,b].toArray,vS r.2.1,vS r.2.2.1,d].toArray/\Ow W' k0 [] [a] r.1.Commits/\Ow W' k1 [] [b] r.1.Heads/\Ow (α:=List (Sh Vm.File)) W' k2 (0::K) [d] r.2.2.2:=
 zaO.adJ (J:=[]) (fun c=>bif Nat.beq c 0 then 0 else bif Nat.beq c 31 then k0 else bif Nat.beq c 32 then k1 else bif Nat.beq c 33 then k2 else 0) (c28 (h.view _) Y) fun _ _ ⟨a,b,d,e,i,k,x⟩=>⟨a,b,d,e,i.one1.backN O,k.one1.backN O,x.one1.backNS O O⟩
theorem c91 {x0 D E x1 x2 x3 y x4 b r}(V:Ow W0 2 [] [D] x0.Commits)(W:Ow W0 3 [] [E] x0.Heads)(X:Rd W0 [0] [y] x3)(Z:Ow W0 4 [] [b] x4)(Y:Vm.zfF x0 x1 x2 x3 x4=some r):Q0 91 [.agg [D,E].toArray,vS x1,vS x2,y,b] W0 fun Wf v=> ∃ F G,v = .agg [F,G].toArray/\OwS Wf [31] [] [F] r.Commits/\OwS Wf [32] [] [G] r.Heads:=by
 unfold Vm.zfF at Y
 refine zaO.of Tryz.func91 O O O O (sr (bo 5 O fun g1 W1 i b1=>?_))
 have a2:=i.o
 refine al 6 [.slice none 0 0, .slice none 0 0] fun g6 W6 f b6=>?_
 have a7:=a2.n f
 refine nl (Cw.seq (Cw.draw [] [(0,0),(1,1),(2,0),(3,0),(4,0),(5,2),(6,0),(7,2),(8,3),(9,0),(10,3)] mixed (by kernel_rfl) fun bb e=>?_))
 have H:=a7.n e
 have I:=(b1.up f).up e
 refine Dfl I O O O (Dv b O (Ds O (Dv y O ?_)))
 obtain⟨ah,ai,Y⟩:=ob Y
 refine Mw.t O O (T.call O (p99 (k0:=7) (X.ul H) ai)) ?_
 rintro k _ ⟨bc,rfl,d,⟨_,rfl,L⟩⟩
 have aj:=H.n d
 have M:=(((Z.up i).up f).up e).up d
 refine m0 d fun ak=>Mw.p O O (fun _=>R.bd (zs:=[.slice none 0 0,vS ([]:Str), .slice none 0 0]) (cs:=[b,vS x2,k]) [(0,b),(1,vS x2),(2,k)] O O O (zc0 M.oc O (zc0 O O (zc0 L.oc O zhs)))) (Mw.t O O (T.bs 8 [.agg [b,vS x2,k].toArray] (cs:=[b,vS x2,k]) O O (bsA O)) ?_)
 rintro _ _ ⟨be,bg,rfl,rfl,a,am⟩
 have an:=aj.n a
 refine mc ak a fun bh=>?_
 obtain⟨N,ao,Y⟩:=ob Y
 refine Mw.l O O (T.app1 (α:=Commit) (J:=[4,7]) (K':=[]) (((((V.up i).up f).up e).up d).up a) am (Commit.own x4 x2 ah (M.up a).s (L.up a).s) O O ao) ?_
 rintro ap _ ⟨bi,rfl,x,z⟩
 have aq:=an.t x
 refine Df O (Mw.lu O (T.st (j:=0) (v:=ap) (((I.up d).up a).up x) O O z.oc O O) ?_)
 rintro _ _ ⟨bj,rfl,h,P⟩
 have ar:=aq.t h
 refine Mw.nil (sr (la P (ms O (fl P O (Lw.ln N (z.up h).rd O (Lw.sub O (cr Y (fun _=>p112 (K:=[0]) (k0:=9) (k1:=10) (c0:=2) (c1:=3) (x0:=(Vm.Repo.mk N x0.Heads)) (z.up h) (((((((W.up i).up f).up e).up d).up a).up x).up h) O) ?_)))))))
 rintro bk _ bl Y Q ⟨au,av,rfl,S,U⟩
 have aw:=ar.t Q
 refine sta ((((((b6.up e).up d).up a).up x).up h).up Q) (zah S.oc (zah U.oc za4)) fun bm A ax=>?_
 have ay:=aw.t A
 refine nl ?_
 obtain⟨bn,az,B,a0⟩:=(S.up A).dyeO 31
 have a1:=ay.t B
 obtain⟨bp,a3,C,a4⟩:=((U.up A).up B).dyeO 32
 have a5:=a1.t C
 cases Y
 rw[<- a3.trans (az)]
 exact Cw.ret (zoh O ((ax.up B).up C) (Res.mk a5 ⟨au,av,O,(a0.up C).s,a4.s⟩))
theorem p91 {x0 d f x1 x2 x3 h x4 i k0 k1 c0 c1 c2 r}(k:Ow W c0 [] [d] x0.Commits)(x:Ow W c1 [] [f] x0.Heads)(y:Rd W K [h] x3)(z:Ow W c2 [] [i] x4)(hJ:okJ K [c0,c1,c2]=true)(Y:Vm.zfF x0 x1 x2 x3 x4=some r):Q1 91 [.agg [d,f].toArray,vS x1,vS x2,h,i] W [c0,c1,c2] fun W' v=> ∃ a b,v = .agg [a,b].toArray/\Ow W' k0 [] [a] r.Commits/\Ow W' k1 [] [b] r.Heads:=
 zaO.adJ (J:=[c0,c1,c2]) (fun c=>bif Nat.beq c 0 then 0 else bif Nat.beq c 2 then c0 else bif Nat.beq c 3 then c1 else bif Nat.beq c 4 then c2 else bif Nat.beq c 31 then k0 else bif Nat.beq c 32 then k1 else 0) (c91 (k.viewJ 0 hJ) (x.viewJ 1 hJ) (y.view _) (z.viewJ 2 hJ) Y) fun _ _ ⟨a,b,e,A,B⟩=>⟨a,b,e,A.one1.backN O,B.one1.backN O⟩
theorem c29 {x0 d e x1 x2 x3 E r}(h0:Rd W0 [0] [d,e] x0)(h3:Rd W0 [0] [E] x3)(S:Gl 0 W0 [0])(Y:Vm.zij x0 x1 x2 x3=some r):Q0 29 [.agg [d,e].toArray,vS x1,vS x2,E] W0 fun Wf v=> ∃ U V,v = .tuple [.agg [U,V].toArray,vB r.2].toArray/\OwS Wf [31] [] [U] r.1.Commits/\OwS Wf [32] [] [V] r.1.Heads:=by
 unfold Vm.zij at Y
 obtain⟨b6,b7,W,f,h⟩:=Repo.split h0
 simp only[List.cons.injEq,and_true,true_and]at W
 obtain⟨rfl,rfl⟩:=W
 refine zaO.of Tryz.func29 O O O O (sr (bo 2 O fun g1 W1 l1 X=>?_))
 have a2:=l1.o
 refine al 3 [.slice none 0 0, .slice none 0 0] fun g3 W3 F Z=>?_
 have i:=a2.n F
 refine Nb O (ssr (la (X.up F) (ca Y (fun _=>p32 (Repo.rd (K:=[0]) x0.Commits x0.Heads (f.ul i) (h.ul i)) (S.ul i)) fun z9 au Y k=>?_)))
 have x:=i.n k
 have aa:=(X.up F).up k
 refine Lw.r O (R.not O) (nl (cn Y (fun Y=>?_) fun Y=>?_))
 ·refine sr (Lw.r O (R.bd (zs:=[.slice none 0 0, .slice none 0 0]) (cs:=[.slice none 0 0, .slice none 0 0]) [] O O O zhs) (sta (Z.up k) (zah O (zah O za4)) fun ce av aw=>?_))
  have ax:=x.t av
  refine Nb O ?_
  cases Y
  exact Cw.ret (zi2 O aw O (Res.mk ax ⟨.slice none 0 0, .slice none 0 0,O,(zo3 []).sub O O,(zo3 []).sub O O⟩))
 ·refine sk (sr (Nv (.slice none 0 0) O ?_))
  obtain⟨ay,az,Y⟩:=zdC Y
  refine Cw.join 16 24 [10,11] (fun l w=> ∃ G y ac z,CW.w z=w/\Le [12] au z/\l=[y,ac]/\Ow z 4 [] [y] G/\ay G=some r) ?_ ?_
  ·rintro _ _ σ ⟨G,y,ac,z,rfl,H,rfl,a0,Y⟩
   rw[az]at Y
   have a1:=x.t H
   refine Cw.seq (Cw.draw [4,5,6,7,8] [(0,1),(1,1),(3,0),(4,0),(5,0),(6,0),(2,2),(7,2),(8,2),(9,0),(10,0),(11,3),(12,0)] mixed (by kernel_rfl) fun cf A=>?_)
   have I:=a1.n A
   have ae:=(aa.up H).up A
   refine Mw.q O O (fun _ c=>R.lda (cs:=[d,e]) (ae.clcs O c) O O) (Mw.q O O (fun _ c=>R.lda (cs:=[d,e]) (ae.clcs O c) O O) (Ds O (Ds O (Dv E O (Dv y O ?_)))))
   obtain⟨af,a3,Y⟩:=ob Y
   refine Mw.t O O (T.call O (p90 (k0:=5) (k1:=6) (Repo.rd (K:=[0]) x0.Commits x0.Heads (f.ul I) (h.ul I)) a3)) ?_
   rintro _ _ ⟨cg,rfl,B,⟨ch,ci,rfl,a5,a6⟩⟩
   have ah:=I.n B
   refine m0 B fun a7=>?_
   obtain⟨ai,a8,Y⟩:=ob Y
   refine Mw.t O O (T.call O (p91 (k0:=7) (k1:=8) (c0:=5) (c1:=6) (c2:=4) (x0:=(Vm.Repo.mk af.Commits af.Heads)) a5 a6 (h3.ul ah) ((a0.up A).up B) O a8)) ?_
   rintro _ _ ⟨cj,rfl,J,⟨ck,cl,rfl,a9,ba⟩⟩
   have C:=ah.t J
   refine mc a7 J fun bb=>?_
   obtain⟨L,bc,Y⟩:=ob Y
   refine Mw.t O O (T.call O (p89 (k0:=9) (k1:=10) (c0:=7) (c1:=8) (x1:=(Vm.Repo.mk ai.Commits ai.Heads)) (Repo.rd (K:=[0]) x0.Commits x0.Heads (f.ul C) (h.ul C)) a9 ba (S.ul C) O bc)) ?_
   rintro _ _ ⟨cm,rfl,M,⟨a,b,rfl,aj,ak⟩⟩
   have be:=C.t M
   refine mc bb M fun co=>Mw.p O O (fun _=>R.ext (vs:=[.agg [a,b].toArray,vB L.2]) (v:= .agg [a,b].toArray) O O) (Mw.p O O (fun _=>R.ext (vs:=[.agg [a,b].toArray,vB L.2]) (v:=vB L.2) O O) (Mw.lu O (T.sta (vs:=[a,b]) ((((((Z.up k).up H).up A).up B).up J).up M) O O (zah aj.oc (zah ak.oc za4)) O O) ?_))
   rintro _ _ ⟨cp,rfl,N,bg⟩
   have bh:=be.t N
   refine Hb O (Mw.nil ?_)
   obtain⟨cq,bi,P,bj⟩:=(aj.up N).dyeO 31
   have bk:=bh.t P
   obtain⟨ct,bl,Q,bm⟩:=((ak.up N).up P).dyeO 32
   have bn:=bk.t Q
   cases Y
   rw[<- bl.trans (bi)]
   exact Cw.ret (zi2 O ((bg.up P).up Q) O (Res.mk bn ⟨a,b,O,(bj.up Q).s,bm.s⟩))
  ·refine sr (la aa (ms O (ca Y (fun _=>p88 (Repo.rd (K:=[0]) x0.Commits x0.Heads (f.ul x) (h.ul x))) fun D bp Y am=>Ni O (sr (mi O (Lw.ge O (nl (cn Y (fun Y=>?_) fun Y=>?_))))))))
   ·refine rg (mv (.slice none 0 0) O (mi O (Lw.t O (T.bs 11 [vI D] (cs:=[vI D]) O O (bsv O)) ?_)))
    rintro _ _ ⟨cu,cv,rfl,rfl,bq,br⟩
    obtain⟨bu,bv,Y⟩:=ob Y
    refine Lw.t O (T.app1S (α:=Int) (K':=[]) (owN 12 []) br (rdI _) O O bv) ?_
    rintro an _ ⟨cw,rfl,bw,bz⟩
    refine Nv an O ?_
    obtain⟨b0,b2,b4,b5⟩:=bz.dyeO 4
    exact(ag) ⟨bu,an,vI D,b0,b2,(((am.j bq).j bw).j b4).w,O,b5,Y⟩
   ·exact sk ((ag) ⟨([]:List Int), .slice none 0 0,vI D,bp,O,am.w,O,owN 4 [],Y⟩)
theorem p29 {x0 d f x1 x2 x3 h k0 k1 r}(i:Rd W K [d,f] x0)(k:Rd W K [h] x3)(x:Gl 0 W K)(Y:Vm.zij x0 x1 x2 x3=some r):Q1 29 [.agg [d,f].toArray,vS x1,vS x2,h] W [] fun W' v=> ∃ a b,v = .tuple [.agg [a,b].toArray,vB r.2].toArray/\Ow W' k0 [] [a] r.1.Commits/\Ow W' k1 [] [b] r.1.Heads:=
 zaO.adJ (J:=[]) (fun c=>bif Nat.beq c 0 then 0 else bif Nat.beq c 31 then k0 else bif Nat.beq c 32 then k1 else 0) (c29 (i.view _) (k.view _) (x.view _) Y) fun _ _ ⟨a,b,e,y,z⟩=>⟨a,b,e,y.one1.backN O,z.one1.backN O⟩
theorem c33 {x0 b d r}(f:Rd W0 [0] [b,d] x0)(Y:Vm.zkg x0=some r):Q0 33 [.agg [b,d].toArray] W0 fun Wf v=>v=vB r:=by
 unfold Vm.zkg at Y
 obtain⟨A,B,e,h,i⟩:=Repo.split f
 simp only[List.cons.injEq,and_true,true_and]at e
 obtain⟨rfl,rfl⟩:=e
 refine zaO.of Tryz.func33 O O O O (sr (bo 2 O fun C D k x=>?_))
 have a:=k.o
 refine Nb O (sr (la x (ca Y (fun _=>p80 (Repo.rd (K:=[0]) x0.Commits x0.Heads (h.ul a) (i.ul a))) fun E F Y y=>?_)))
 have z:=a.n y
 exact Nb O (.ret (rt Y z))
theorem p33 {x0 a b r}(d:Rd W K [a,b] x0)(Y:Vm.zkg x0=some r):Q1 33 [.agg [a,b].toArray] W [] fun W' v=>v=vB r:=
 (c33 (d.view _) Y).ad (fk 0) fun _ _ e=>e
theorem c35 {x0 y z x1 r}(F:Rd W0 [0] [y,z] x0)(G:Gl 0 W0 [0])(Y:Vm.zjo x0 x1=some r):Q0 35 [.agg [y,z].toArray,vI x1] W0 fun Wf v=> ∃ A,v = .tuple [A,vB r.2].toArray/\OwS Wf LL [] [A] r.1:=by
 unfold Vm.zjo at Y
 obtain⟨ac,ae,B,f,h⟩:=Repo.split F
 simp only[List.cons.injEq,and_true,true_and]at B
 obtain⟨rfl,rfl⟩:=B
 refine zaO.of Tryz.func35 O O O O (sr (bo 2 O fun g1 H I i=>?_))
 have a:=I.o
 refine Gv (.slice none 0 0) O (Nb O (Cw.seq ?_))
 obtain⟨J,L,Y⟩:=zdC Y
 refine Cw.join 6 14 [14] (fun l w=> ∃ k x,CW.w x=w/\Le [] H x/\l=[vB k]/\J k=some r) ?_ ?_
 ·rintro _ _ σ ⟨k,x,rfl,C,rfl,Y⟩
  rw[L]at Y
  have d:=a.n C
  refine cn Y (fun Y=>?_) fun Y=>?_
  ·refine sr (Gv (.slice none 0 0) O (Nb O ?_))
   cases Y
   exact Cw.ret (zo2 O O (Res.mk d ⟨.slice none 0 0,O,(zo3 []).sub O O⟩))
  ·refine sk (sr (la (i.up C) (mi O (cr Y (fun _=>p100 (Repo.rd (K:=[0]) x0.Commits x0.Heads (f.ul d) (h.ul d))) ?_))))
   rintro ah ai aj Y N ⟨_,rfl,P⟩
   have Q:=P.sub (M:=[0]) O
   have S:=d.n N
   refine cr Y (fun _=>p99 (k0:=3) Q) ?_
   rintro ak D am Y T ⟨_,rfl,U⟩
   have V:=S.n T
   refine Gv D O (Nb O ?_)
   cases Y
   exact Cw.ret (zo2 O O (Res.mk V ⟨D,O,U.s.sub O O⟩))
 ·refine rg (la i (ca Y (fun _=>p32 (Repo.rd (K:=[0]) x0.Commits x0.Heads (f.ul a) (h.ul a)) (G.ul a)) fun an W Y e=>?_))
  have E:=a.n e
  refine Lw.r O (R.not O) (mb O (bs Y (fun b Y=>?_) fun b Y=>?_))
  ·exact psk 4 b O (Pb b O (nl ((ag) ⟨true,W,O,e,O,Y⟩)))
  ·exact wak 4 b (la (i.up e) (mi O (ca Y (fun _=>p98 (Repo.rd (K:=[0]) x0.Commits x0.Heads (f.ul E) (h.ul E))) fun X Z Y aa=>Lw.r O (R.not O) (Pb b O (nl ((ag) ⟨(!X),Z,O,(e.j aa).w,O,Y⟩))))))
theorem p35 {x0 b d x1 k0 r}(f:Rd W K [b,d] x0)(h:Gl 0 W K)(Y:Vm.zjo x0 x1=some r):Q1 35 [.agg [b,d].toArray,vI x1] W [] fun W' v=> ∃ a,v = .tuple [a,vB r.2].toArray/\Ow W' k0 [] [a] r.1:=
 (c35 (f.view _) (h.view _) Y).ad (fk k0) fun _ _ ⟨a,e,i⟩=>⟨a,e,i.back (zkx _)⟩
end Go.Sx
