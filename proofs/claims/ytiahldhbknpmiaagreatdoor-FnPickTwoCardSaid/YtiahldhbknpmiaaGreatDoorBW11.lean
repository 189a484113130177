/- Walks: each function answers as its model, printed by a program of ours. Conditions: the arguments read as they are given. -/
import Derived.Test.YtiahldhbknpmiaaGreatDoorBTs
import Derived.Test.YtiahldhbknpmiaaGreatDoorBM4
import Derived.Test.YtiahldhbknpmiaaGreatDoorBW0
import Derived.Test.YtiahldhbknpmiaaGreatDoorBW10
import Derived.Test.YtiahldhbknpmiaaGreatDoorBW5
import Derived.Test.YtiahldhbknpmiaaGreatDoorBW6
import Derived.Test.YtiahldhbknpmiaaGreatDoorBW9
import Derived.Test.YtiahldhbknpmiaaGreatDoorBE
namespace Go.Sx
open Go Go.Proofs Go.Vm Rp
set_option linter.unusedVariables false
set_option linter.unusedSimpArgs false
variable {W W0:CW}{K:List Nat}
theorem c111 {x0 Q r}(h0:Rd W0 [0] [Q] x0)(Y:Vm.zeF x0=some r):Q0 111 [Q] W0 fun Wf v=> ∃ an ao,v = .tuple [.agg [an,ao].toArray,vS r.2.1,vS r.2.2.1,vI r.2.2.2].toArray/\OwS Wf [31] [] [an] r.1.Commits/\OwS Wf [32] [] [ao] r.1.Heads:=by
 unfold Vm.zeF at Y
 refine zaY.of Tryz.func111 O O O O (sr (al 2 [.slice none 0 0, .slice none 0 0] fun D W1 l1 b1=>?_))
 have a2:=l1.o
 refine Gs O (Gs O (Ni O (sr (mv Q O (cr Y (fun _=>p127 (k0:=3) (h0.ul a2)) ?_)))))
 rintro G _ W6 Y l6 ⟨a,f,rfl,ba,bb⟩
 have H:=bb.sub (M:=[0]) O
 have a8:=a2.n l6
 refine Np O (sr (mp O (cr Y (fun _=>p128 (k0:=4) (k1:=5) (c0:=3) (x0:=G) ba H O) ?_)))
 rintro A _ c3 Y ar ⟨k,x,rfl,au,av,be⟩
 have I:=ar.s
 refine al 6 [.slice none 0 0, .slice none 0 0] fun c4 c5 B bg=>?_
 have J:=B.o
 refine sta bg (zai (au.up B).oc (zai (av.up B).oc zbt)) fun c6 E aw=>?_
 have L:=E.s
 refine nl (Cw.seq ?_)
 obtain⟨d,bh,Y⟩:=ob Y
 obtain⟨e,bi,Y⟩:=ob Y
 obtain⟨i,bj,Y⟩:=ob Y
 refine Cw.par [[],[],[],[1,2],[],[],[1,2,3,4,5],[],[],[1,2,3,4,5,6,7,8],[0,1,2,3,4,5,6,7,8,9],[0,1,2,3,4,5,6,7,8,9,10],[0,1,2,3,4,5,6,7,8,9,10,11],[0,1,2,3,4,5,6,7,8,9,10,11,12]] [[],[15],[],[1,2,15],[],[],[3,4,5],[],[],[6,7,8],[0,14],[9],[9],[9]] [[],[],[],[3],[],[],[3],[],[],[3],[2],[],[],[]] [[0],[1],[2],[3],[4],[5],[3,6],[7],[8],[3,6,9],[],[11],[12],[13],[],[]] [[],[],[7],[3],[],[8],[3],[],[],[3],[2],[],[],[],[2],[3]] [0,1,2,4,5,7,8,9,10,11,12,13] [2,3] [fun vs W=>(vs 0) = .agg [k,x].toArray,fun vs W=>(vs 1)=ptr (bx a),fun vs W=>Ow W 7 [] [(vs 2)] ([([109,97,105,110]:Str),([115,105,100,101]:Str),([100,101,118]:Str),([110,111,110,101]:Str)]:List Str),fun vs W=>(vs 3)=vS d.1/\Bx W 3 a [f,vI d.2],fun vs W=>(vs 4)=ptr (bx a),fun vs W=>Ow W 8 [] [(vs 5)] ([([97,110,110]:Str),([97,110,110]:Str),([]:Str)]:List Str),fun vs W=>(vs 6)=vS e.1/\(vs 3)=vS d.1/\Bx W 3 a [f,vI e.2],fun vs W=>(vs 7)=ptr (bx a),fun vs W=>(vs 8) = .agg [k,x].toArray,fun vs W=>(vs 9)=vI i.1/\(vs 3)=vS d.1/\(vs 6)=vS e.1/\Bx W 3 a [f,vI i.2],fun vs W=>Bx W 2 D [k,x],fun vs W=>(vs 11)=vS d.1,fun vs W=>(vs 12)=vS e.1,fun vs W=>(vs 13)=vI i.1] [fun _ W=>Bx W 2 D [.slice none 0 0, .slice none 0 0],fun _ W=>Bx W 3 a [f,vI A.2]] mixed (by kernel_rfl) O (zqt.cons (fun _ _ l=>((((b1.up l6).up ar).up B).up E).up l O) (zqt.cons (fun _ _ l=>((be.up B).up E).up l O) zqt.nil)) ?_
 intro c7 F
 have N:=F.o
 have S:=((au.up B).up E).up F
 have U:=((av.up B).up E).up F
 refine⟨(zcI.cons ?_ (zcI.cons ?_ (zcI.cons ?_ (zcI.cons ?_ (zcI.cons ?_ (zcI.cons ?_ (zcI.cons ?_ (zcI.cons ?_ (zcI.cons ?_ (zcI.cons ?_ (zcI.cons ?_ (zcI.cons ?_ (zcI.cons ?_ (zcI.cons ?_ zcI.nil)))))))))))))),(zha.cons SE (zha.cons SE (zha.cons SO (zha.cons (fun vs vs' W W' _ hv l hd h=>by(show(vs' 3)=vS d.1/\Bx W' 3 a [f,vI d.2]);rw[hv 3 (zbB O)];exact⟨h.1,h.2.up l (zgD hd (c:=3) O)⟩) (zha.cons SE (zha.cons SO (zha.cons (fun vs vs' W W' _ hv l hd h=>by(show(vs' 6)=vS e.1/\(vs' 3)=vS d.1/\Bx W' 3 a [f,vI e.2]);rw[hv 3 (zbB O),hv 6 (zbB O)];exact⟨h.1,h.2.1,h.2.2.up l (zgD hd (c:=3) O)⟩) (zha.cons SE (zha.cons SE (zha.cons (fun vs vs' W W' _ hv l hd h=>by(show(vs' 9)=vI i.1/\(vs' 3)=vS d.1/\(vs' 6)=vS e.1/\Bx W' 3 a [f,vI i.2]);rw[hv 3 (zbB O),hv 6 (zbB O),hv 9 (zbB O)];exact⟨h.1,h.2.1,h.2.2.1,h.2.2.2.up l (zgD hd (c:=3) O)⟩) (zha.cons (fun vs vs' W W' _ hv l hd h=>by(show Bx W' 2 D [k,x]);exact h.up l (zgD hd (c:=2) O)) (zha.cons SE (zha.cons SE (zha.cons SE (zha.cons (fun _ _ _ _ _ _ l hd h=>h.up l (zgD hd (c:=2) O)) (zha.cons (fun _ _ _ _ _ _ l hd h=>h.up l (zgD hd (c:=3) O)) zha.nil)))))))))))))))),?_⟩
 ·intro vs c8 lW hN hV
  exact Trq (R.lda (cs:=[k,x]) ((aw.up F).up lW O).cells O O) O
 ·intro vs bk lW hN hV
  have c9:Bx bk 3 a [f,vI A.2]:=hN 15 (zbB O)
  exact Trq (R.mv (v:=ptr (bx a)) O) O
 ·intro vs bl lW hN hV
  refine Tr.mono (T.bsS (α:=Str) (xs:=[([109,97,105,110]:Str),([115,105,100,101]:Str),([100,101,118]:Str),([110,111,110,101]:Str)]) 7 [] (W:=bl) [vS ([109,97,105,110]:Str),vS ([115,105,100,101]:Str),vS ([100,101,118]:Str),vS ([110,111,110,101]:Str)] (Each.cons ((rdS _)) (Each.cons ((rdS _)) (Each.cons ((rdS _)) (Each.cons ((rdS _)) Each.nil)))) O) ?_
  rintro bm _ ⟨ax,rfl,bn,bp⟩
  exact⟨ax,O,bn,(show Ow ax 7 [] [bm] ([([109,97,105,110]:Str),([115,105,100,101]:Str),([100,101,118]:Str),([110,111,110,101]:Str)]:List Str) from bp)⟩
 ·intro vs ay lW hN hV
  have bq:=(((I.trans J).trans L).trans N).t lW O
  have V:vs 1=ptr (bx a):=(hN 1 (zbB O))
  obtain⟨vs,rfl⟩:=za2 V
  obtain⟨X,Z⟩: ∃ v,vs 2=v:=⟨_,O⟩
  obtain⟨vs,rfl⟩:=za2 Z
  have br:Ow ay 7 [] [X] ([([109,97,105,110]:Str),([115,105,100,101]:Str),([100,101,118]:Str),([110,111,110,101]:Str)]:List Str):=(hN 2 (zbB O))
  have bu:Bx ay 3 a [f,vI A.2]:=hN 15 (zbB O)
  refine Tr.mono (T.call O (p135 (K:=[0,7]) (c0:=3) (x0:=(Vm.l30Rd.mk G.b A.2)) bu ((H.ul bq).sub (M:=[0,7]) O) (br.rd.sub (M:=[0,7]) O) O bh)) ?_
  rintro _ _ ⟨az,rfl,bv,⟨rfl,bw⟩⟩
  exact⟨az,O,bv,(show(vS d.1:Value)=vS d.1/\Bx az 3 a [f,vI d.2] from⟨O,bw⟩)⟩
 ·intro vs da lW hN hV
  exact Trq (R.mv (v:=ptr (bx a)) O) O
 ·intro vs bz lW hN hV
  refine Tr.mono (T.bsS (α:=Str) (xs:=[([97,110,110]:Str),([97,110,110]:Str),([]:Str)]) 8 [] (W:=bz) [vS ([97,110,110]:Str),vS ([97,110,110]:Str),vS ([]:Str)] (Each.cons ((rdS _)) (Each.cons ((rdS _)) (Each.cons ((rdS _)) Each.nil))) O) ?_
  rintro b0 _ ⟨a0,rfl,b2,b3⟩
  exact⟨a0,O,b2,(show Ow a0 8 [] [b0] ([([97,110,110]:Str),([97,110,110]:Str),([]:Str)]:List Str) from b3)⟩
 ·intro vs a1 lW hN hV
  have b4:=(((I.trans J).trans L).trans N).t lW O
  have y:vs 3=vS d.1:=(hN 3 (zbB O)).1
  obtain⟨vs,rfl⟩:=za2 y
  have b5:Bx a1 3 a [f,vI d.2]:=(hN 3 (zbB O)).2
  have aa:vs 4=ptr (bx a):=(hN 4 (zbB O))
  obtain⟨vs,rfl⟩:=za2 aa
  obtain⟨ac,ae⟩: ∃ v,vs 5=v:=⟨_,O⟩
  obtain⟨vs,rfl⟩:=za2 ae
  have b6:Ow a1 8 [] [ac] ([([97,110,110]:Str),([97,110,110]:Str),([]:Str)]:List Str):=(hN 5 (zbB O))
  refine Tr.mono (T.call O (p135 (K:=[0,8]) (c0:=3) (x0:=(Vm.l30Rd.mk G.b d.2)) b5 ((H.ul b4).sub (M:=[0,8]) O) (b6.rd.sub (M:=[0,8]) O) O bi)) ?_
  rintro _ _ ⟨a3,rfl,b7,⟨rfl,b8⟩⟩
  exact⟨a3,O,b7,(show(vS e.1:Value)=vS e.1/\(vS d.1)=vS d.1/\Bx a3 3 a [f,vI e.2] from⟨O,O,b8⟩)⟩
 ·intro vs db lW hN hV
  exact Trq (R.mv (v:=ptr (bx a)) O) O
 ·intro vs dc lW hN hV
  exact Trq (R.lda (cs:=[k,x]) ((aw.up F).up lW O).cells O O) O
 ·intro vs b9 lW hN hV
  have cb:=(((I.trans J).trans L).trans N).t lW O
  have y:vs 3=vS d.1:=(hN 6 (zbB O)).2.1
  obtain⟨vs,rfl⟩:=za2 y
  have z:vs 6=vS e.1:=(hN 6 (zbB O)).1
  obtain⟨vs,rfl⟩:=za2 z
  have cc:Bx b9 3 a [f,vI e.2]:=(hN 6 (zbB O)).2.2
  have af:vs 7=ptr (bx a):=(hN 7 (zbB O))
  obtain⟨vs,rfl⟩:=za2 af
  have ah:vs 8 = .agg [k,x].toArray:=(hN 8 (zbB O))
  obtain⟨vs,rfl⟩:=za2 ah
  refine Tr.mono (T.call O (p130 (K:=[0,4,5]) (c0:=3) (x0:=(Vm.l30Rd.mk G.b e.2)) (x1:=(Vm.Repo.mk A.1.Commits A.1.Heads)) cc ((H.ul cb).sub (M:=[0,4,5]) O) ((Repo.rd (K:=[4,5]) A.1.Commits A.1.Heads ((S.up lW O).rd.sub (M:=[4,5]) O) ((U.up lW O).rd.sub (M:=[4,5]) O)).sub (M:=[0,4,5]) O) O bj)) ?_
  rintro _ _ ⟨a4,rfl,cd,⟨rfl,ce⟩⟩
  exact⟨a4,O,cd,(show(vI i.1:Value)=vI i.1/\(vS d.1)=vS d.1/\(vS e.1)=vS e.1/\Bx a4 3 a [f,vI i.2] from⟨O,O,O,ce⟩)⟩
 ·intro vs cf lW hN hV
  have ai:vs 0 = .agg [k,x].toArray:=(hN 0 (zbB O))
  obtain⟨vs,rfl⟩:=za2 ai
  have cg:Bx cf 2 D [.slice none 0 0, .slice none 0 0]:=hN 14 (zbB O)
  refine Tr.mono (T.sta (vs:=[k,x]) cg O O (zai (S.up lW O).oc (zai (U.up lW O).oc zbt)) O O) ?_
  rintro _ _ ⟨a5,rfl,ch,ci⟩
  exact⟨a5,O,ch,(show Bx a5 2 D [k,x] from ci)⟩
 ·intro vs cj lW hN hV
  have y:vs 3=vS d.1:=(hN 9 (zbB O)).2.1
  obtain⟨vs,rfl⟩:=za2 y
  have z:vs 6=vS e.1:=(hN 9 (zbB O)).2.2.1
  obtain⟨vs,rfl⟩:=za2 z
  have C:vs 9=vI i.1:=(hN 9 (zbB O)).1
  obtain⟨vs,rfl⟩:=za2 C
  have dd:Bx cj 3 a [f,vI i.2]:=(hN 9 (zbB O)).2.2.2
  exact Trq (R.as (v:=vS d.1) O) O
 ·intro vs ck lW hN hV
  have y:vs 3=vS d.1:=(hN 9 (zbB O)).2.1
  obtain⟨vs,rfl⟩:=za2 y
  have z:vs 6=vS e.1:=(hN 9 (zbB O)).2.2.1
  obtain⟨vs,rfl⟩:=za2 z
  have C:vs 9=vI i.1:=(hN 9 (zbB O)).1
  obtain⟨vs,rfl⟩:=za2 C
  have de:Bx ck 3 a [f,vI i.2]:=(hN 9 (zbB O)).2.2.2
  exact Trq (R.as (v:=vS e.1) O) O
 ·intro vs cl lW hN hV
  have y:vs 3=vS d.1:=(hN 9 (zbB O)).2.1
  obtain⟨vs,rfl⟩:=za2 y
  have z:vs 6=vS e.1:=(hN 9 (zbB O)).2.2.1
  obtain⟨vs,rfl⟩:=za2 z
  have C:vs 9=vI i.1:=(hN 9 (zbB O)).1
  obtain⟨vs,rfl⟩:=za2 C
  have df:Bx cl 3 a [f,vI i.2]:=(hN 9 (zbB O)).2.2.2
  exact Trq (R.as (v:=vI i.1) O) O
 ·intro vs P aj hN
  have cm:=((((a8.trans I).trans J).trans L).trans N).t aj
  have ai:vs 0 = .agg [k,x].toArray:=(hN 0 (zbB O))
  obtain⟨vs,rfl⟩:=za2 ai
  have V:vs 1=ptr (bx a):=(hN 1 (zbB O))
  obtain⟨vs,rfl⟩:=za2 V
  obtain⟨X,Z⟩: ∃ v,vs 2=v:=⟨_,O⟩
  obtain⟨vs,rfl⟩:=za2 Z
  have dg:Ow P 7 [] [X] ([([109,97,105,110]:Str),([115,105,100,101]:Str),([100,101,118]:Str),([110,111,110,101]:Str)]:List Str):=(hN 2 (zbB O))
  have aa:vs 4=ptr (bx a):=(hN 4 (zbB O))
  obtain⟨vs,rfl⟩:=za2 aa
  obtain⟨ac,ae⟩: ∃ v,vs 5=v:=⟨_,O⟩
  obtain⟨vs,rfl⟩:=za2 ae
  have dh:Ow P 8 [] [ac] ([([97,110,110]:Str),([97,110,110]:Str),([]:Str)]:List Str):=(hN 5 (zbB O))
  have af:vs 7=ptr (bx a):=(hN 7 (zbB O))
  obtain⟨vs,rfl⟩:=za2 af
  have ah:vs 8 = .agg [k,x].toArray:=(hN 8 (zbB O))
  obtain⟨vs,rfl⟩:=za2 ah
  have y:vs 3=vS d.1:=(hN 9 (zbB O)).2.1
  obtain⟨vs,rfl⟩:=za2 y
  have z:vs 6=vS e.1:=(hN 9 (zbB O)).2.2.1
  obtain⟨vs,rfl⟩:=za2 z
  have C:vs 9=vI i.1:=(hN 9 (zbB O)).1
  obtain⟨vs,rfl⟩:=za2 C
  have di:Bx P 3 a [f,vI i.2]:=(hN 9 (zbB O)).2.2.2
  have co:Bx P 2 D [k,x]:=(hN 10 (zbB O))
  have cp:vs 11=vS d.1:=(hN 11 (zbB O))
  obtain⟨vs,rfl⟩:=za2 cp
  have cq:vs 12=vS e.1:=(hN 12 (zbB O))
  obtain⟨vs,rfl⟩:=za2 cq
  have ct:vs 13=vI i.1:=(hN 13 (zbB O))
  obtain⟨vs,rfl⟩:=za2 ct
  obtain⟨dj,cu,ak,cv⟩:=(S.up aj).dyeO 31
  have cw:=cm.t ak
  obtain⟨dk,cx,am,cy⟩:=((U.up aj).up ak).dyeO 32
  have cz:=cw.t am
  cases Y
  rw[<- cx.trans (cu)]
  exact Cw.ret (zvS (zjD.c O ((co.up ak).up am) (zjD.t O (zjD.t O (zjD.t O zjD.n)))) (Res.mk cz ⟨k,x,O,(cv.up am).s,cy.s⟩))
theorem p111 {x0 d k0 k1 r}(f:Rd W K [d] x0)(Y:Vm.zeF x0=some r):Q1 111 [d] W [] fun W' v=> ∃ a b,v = .tuple [.agg [a,b].toArray,vS r.2.1,vS r.2.2.1,vI r.2.2.2].toArray/\Ow W' k0 [] [a] r.1.Commits/\Ow W' k1 [] [b] r.1.Heads:=
 zaY.adJ (J:=[]) (fun c=>bif Nat.beq c 0 then 0 else bif Nat.beq c 31 then k0 else bif Nat.beq c 32 then k1 else 0) (c111 (f.view _) Y) fun _ _ ⟨a,b,e,h,i⟩=>⟨a,b,e,h.one1.backN O,i.one1.backN O⟩
theorem c88 {x0 h i x1 r}(F:Rd W0 [0] [h,i] x0)(Y:Vm.zhX x0 x1=some r):Q0 88 [.agg [h,i].toArray,vS x1] W0 fun Wf v=>v=vI r:=by
 unfold Vm.zhX at Y
 obtain⟨Q,S,k,T,e⟩:=Repo.split F
 simp only[List.cons.injEq,and_true,true_and]at k
 obtain⟨rfl,rfl⟩:=k
 refine zaY.of Tryz.func88 O O O O (sr (bo 2 O fun U x G H=>?_))
 have y:=G.o
 refine Ni O (ssr (fl H O (Lw.ln x0.Heads (e.ul y) O (mi O (nl (Cw.block ?_))))))
 obtain⟨I,J,Y⟩:=zdY Y
 refine Cw.loop 10 20 [4,6,10] (fun m l w=> ∃ a b z f,CW.w f=w/\Le [3] x f/\l=[vI a,z,vI b]/\Vm.zeL x0 x1 I m a b=some r) _ ⟨0,0,undef,x,O,Le.refl _ _,O,Y⟩ ?_
 rintro(_ |V) _ _ σ ⟨a,b,z,f,rfl,A,rfl,Y⟩
 ·cases Y
 unfold Vm.zeL at Y
 have d:=y.t A
 refine sr (Lw.lt O (nl (Cw.seq (cn Y (fun Y=>?_) fun Y=>?_))))
 ·refine sk (Cw.seq (Cw.block (sr ?_)))
  obtain⟨W,B,Y⟩:=ob Y
  refine Lw.r O (R.ix (α:=Head) (e.ul d) B O O O) ?_
  obtain⟨x16,c17,_,r18⟩:=((e.ul d).at_ B).cells
  obtain rfl:=Head.split r18
  refine Lw.r O (R.lda c17 O O) (al 3 [vS ([]:Str),vI 0] fun K X C L=>?_)
  have M:=d.n C
  refine sta L (zai O (zai O zbt)) fun N D E=>?_
  have P:=M.t D
  refine nl (sr (fl E O (ms O (Lw.seq O (nl (cn Y (fun Y=>?_) fun Y=>?_))))))
  ·exact sr (fl E O (Ni O (.ret (rt Y P))))
  ·exact sk (rg (Lw.add O (mi O (nl ((agm) ⟨a,w64 (b+1),ptr (bx K),N,O,((A.j C).j D).w,O,Y⟩)))))
 ·refine Cw.exit ?_
  rw[J]at Y
  exact sr (Ni O (.ret (rt Y d)))
theorem p88 {x0 a b x1 r}(d:Rd W K [a,b] x0)(Y:Vm.zhX x0 x1=some r):Q1 88 [.agg [a,b].toArray,vS x1] W [] fun W' v=>v=vI r:=
 (c88 (d.view _) Y).ad (fk 0) fun _ _ e=>e
theorem c90 {x0 ac ae r}(h0:Rd W0 [0] [ac,ae] x0)(Y:Vm.zc5 x0=some r):Q0 90 [.agg [ac,ae].toArray] W0 fun Wf v=> ∃ af ah,v = .agg [af,ah].toArray/\OwS Wf [31] [] [af] r.Commits/\OwS Wf [32] [] [ah] r.Heads:=by
 unfold Vm.zc5 at Y
 obtain⟨co,cp,ai,H,a1⟩:=Repo.split h0
 simp only[List.cons.injEq,and_true,true_and]at ai
 obtain⟨rfl,rfl⟩:=ai
 refine zaY.of Tryz.func90 O O O O (sr (bo 2 O fun g1 W1 l1 b1=>?_))
 have a2:=l1.o
 refine al 3 [.slice none 0 0, .slice none 0 0] fun g3 W3 l3 b3=>?_
 have a4:=a2.n l3
 refine nl (sr (Lw.t O (T.lit0 (α:=Head) 4 []) ?_))
 rintro v6 _ ⟨W6,rfl,I,o6⟩
 have a7:=a4.n I
 have b8:=(b1.up l3).up I
 refine fl b8 O ?_
 obtain⟨bb,bc,Y⟩:=ob Y
 refine Lw.t O (T.appP (α:=Head) o6 (a1.ul a7) O O bc) ?_
 rintro K _ ⟨cy,rfl,L,M⟩
 have be:=a7.t L
 refine Lw.r O (R.bd (zs:=[.slice none 0 0, .slice none 0 0]) (cs:=[.slice none 0 0,K]) [(1,K)] O O O (zc7 M.oc O zh4)) (al 5 [.slice none 0 0, .slice none 0 0] fun bg cz i bh=>?_)
 have bi:=be.n i
 refine sta bh (zai O (zai (M.up i).oc zbt)) fun an A bj=>?_
 have ao:=bi.t A
 refine nl (ssr (fl (((b8.up L).up i).up A) O (Lw.ln x0.Commits (H.ul ao) O (mi O (nl (Cw.block ?_))))))
 obtain⟨bk,bl,Y⟩:=zdY Y
 refine Cw.loop 14 33 [5,14] (fun m l w=> ∃ B N C ap D k b,CW.w b=w/\Le [5,6,7,8,9] an b/\l=[ap,vI B]/\Ow b 6 [] [D] N/\Ow b 4 [] [k] C/\Bx b 5 bg [D,k]/\Vm.zeh x0 bk m B N C=some r) _ ⟨0,([]:List Commit),bb,undef, .slice none 0 0,K,an,O,Le.refl _ _,O,owN 6 [],((M.up i).up A),bj,Y⟩ ?_
 rintro(_ |c0) _ _ σ ⟨B,N,C,ap,D,k,b,rfl,P,rfl,Q,S,aq,Y⟩
 ·cases Y
 unfold Vm.zeh at Y
 have U:=ao.t P
 refine sr (Lw.lt O (nl (Cw.seq (cn Y (fun Y=>?_) fun Y=>?_))))
 ·refine sk (Cw.seq (Cw.block (sr ?_)))
  obtain⟨x,ar,Y⟩:=ob Y
  refine Lw.r O (R.ix (α:=Commit) (H.ul U) ar O O O) ?_
  obtain⟨x47,c48,_,r49⟩:=((H.ul U).at_ ar).cells
  obtain⟨c1,c2,rfl,r51,r53⟩:=Commit.split r49
  refine Lw.r O (R.lda c48 O O) (al 7 [.slice none 0 0,vS ([]:Str), .slice none 0 0] fun bm c3 y bn=>?_)
  have bp:=y.o
  refine sta bn (zai r51.oc (zai O (zai r53.oc zbt))) fun c4 z bq=>?_
  have br:=bp.t z
  refine nl (Cw.draw [6,8,9] [(0,0),(1,1),(3,0),(4,1),(6,0),(7,1),(8,0),(9,1),(2,2),(5,2),(10,2),(11,0),(12,2),(13,2),(14,0),(15,3)] mixed (by kernel_rfl) fun c5 d=>?_)
  have bu:=br.n d
  have au:=((aq.up y).up z).up d
  have V:=bq.up d
  refine Dfl au O O O (Dfl V O O O (Dfl V O O O (Dfl V O O O (Mw.t O O (T.lit0 (α:=Int) 8 []) ?_))))
  rintro c6 _ ⟨c7,rfl,e,bv⟩
  have av:=bu.n e
  refine m0 e fun bw=>?_
  obtain⟨bz,b0,Y⟩:=ob Y
  refine Mw.t O O (T.appP (α:=Int) bv (r51.ul av) O O b0) ?_
  rintro E _ ⟨c8,rfl,f,aw⟩
  have b2:=av.t f
  refine mc bw f fun b4=>Dc Y b4 (fun _=>p117 (k0:=9) (r53.ul b2)) O ?_
  rintro b5 F c9 Y h ⟨_,rfl,ax⟩ b6
  refine Mw.p O O (fun _=>R.bd (zs:=[.slice none 0 0,vS ([]:Str), .slice none 0 0]) (cs:=[E,vS x.Who,F]) [(0,E),(1,vS x.Who),(2,F)] O O O (zc7 (aw.up h).oc O (zc7 O O (zc7 ax.oc O zh4)))) (Mw.t O O (T.bs 10 [.agg [E,vS x.Who,F].toArray] (cs:=[E,vS x.Who,F]) O O (bsA O)) ?_)
  rintro _ _ ⟨da,db,rfl,rfl,a,b7⟩
  refine mc b6 a fun b9=>?_
  obtain⟨cb,cc,Y⟩:=ob Y
  refine Mw.t O O (T.app1 (α:=Commit) (J:=[8,9]) (K':=[]) (((((((Q.up y).up z).up d).up e).up f).up h).up a) b7 (Commit.own bz x.Who b5 ((aw.up h).up a).s (ax.up a).s) O O cc) ?_
  rintro ay _ ⟨dc,rfl,G,az⟩
  refine mc b9 G fun dd=>Df O (Mw.lu O (T.st (j:=0) (v:=ay) (((((au.up e).up f).up h).up a).up G) O O az.oc O O) ?_)
  rintro _ _ ⟨cd,rfl,W,ce⟩
  exact Mw.nil (rg (Lw.add O (mi O (nl ((agm) ⟨w64 (B+1),cb,C,ptr (bx bm),ay,k,cd,O,(((((((((P.j y).j z).j d).j e).j f).j h).j a).j G).j W).w,O,(az.up W),(((((((((S.up y).up z).up d).up e).up f).up h).up a).up G).up W),ce,Y⟩)))))
 ·refine Cw.exit ?_
  rw[bl]at Y
  refine sr (la aq (sta (((((b3.up I).up L).up i).up A).up P) (zai Q.oc (zai S.oc zbt)) fun de X cf=>?_))
  have cg:=U.t X
  refine nl ?_
  obtain⟨df,ch,Z,ci⟩:=(Q.up X).dyeO 31
  have cj:=cg.t Z
  obtain⟨dg,ck,aa,cl⟩:=((S.up X).up Z).dyeO 32
  have cm:=cj.t aa
  cases Y
  rw[<- ck.trans (ch)]
  exact Cw.ret (zoQ O ((cf.up Z).up aa) (Res.mk cm ⟨D,k,O,(ci.up aa).s,cl.s⟩))
theorem p90 {x0 d f k0 k1 r}(h:Rd W K [d,f] x0)(Y:Vm.zc5 x0=some r):Q1 90 [.agg [d,f].toArray] W [] fun W' v=> ∃ a b,v = .agg [a,b].toArray/\Ow W' k0 [] [a] r.Commits/\Ow W' k1 [] [b] r.Heads:=
 zaY.adJ (J:=[]) (fun c=>bif Nat.beq c 0 then 0 else bif Nat.beq c 31 then k0 else bif Nat.beq c 32 then k1 else 0) (c90 (h.view _) Y) fun _ _ ⟨a,b,e,i,k⟩=>⟨a,b,e,i.one1.backN O,k.one1.backN O⟩
theorem c146 {x0 d e x1 r}(y:Rd W0 [0] [d,e] x0)(Y:Vm.zdH x0 x1=some r):Q0 146 [.agg [d,e].toArray,vI x1] W0 fun Wf v=>v=vI r:=by
 unfold Vm.zdH at Y
 obtain⟨C,D,f,z,E⟩:=Repo.split y
 simp only[List.cons.injEq,and_true,true_and]at f
 obtain⟨rfl,rfl⟩:=f
 refine zaY.of Tryz.func146 O O O O (sr (bo 2 O fun F G A h=>?_))
 have b:=A.o
 refine Ni O (ssr (fl h O (mi O ?_)))
 obtain⟨B,i,Y⟩:=ob Y
 have a:=z.ul b
 refine Lw.r O (R.ix (α:=Commit) a i O O O) (Lw.fa O ?_)
 obtain⟨H,c7,r8⟩:=(Commit.at0 (a.at_ i)).cell O
 refine Lw.r O (R.ld O O c7) (Lw.ln B.Parents r8 O (Lw.eq O (nl (cn Y (fun Y=>?_) fun Y=>?_))))
 ·exact sr (Ni O (.ret (rt Y b)))
 ·refine sk (sr (fl h O (mi O ?_)))
  obtain⟨I,k,Y⟩:=ob Y
  refine Lw.r O (R.ix (α:=Commit) a k O O O) (Lw.fa O ?_)
  obtain⟨J,c13,r14⟩:=(Commit.at0 (a.at_ k)).cell O
  refine Lw.r O (R.ld O O c13) ?_
  obtain⟨K,x,Y⟩:=ob Y
  exact Lw.r O (R.ix (α:=Int) r14 x O O O) (Lw.r O (R.ld O O (r14.at_ x).int) (Ni O (.ret (rt Y b))))
theorem p146 {x0 a b x1 r}(d:Rd W K [a,b] x0)(Y:Vm.zdH x0 x1=some r):Q1 146 [.agg [a,b].toArray,vI x1] W [] fun W' v=>v=vI r:=
 (c146 (d.view _) Y).ad (fk 0) fun _ _ e=>e
theorem c157 {x0 d x1 r}(i:Rd W0 [0] [d] x0)(h1:Rd W0 [0] [vS x1.Name,vI x1.At] x1)(Y:Vm.zgP x0 x1=some r):Q0 157 [d, .agg [vS x1.Name,vI x1.At].toArray] W0 fun Wf v=> ∃ P,v=P/\OwS Wf LL [] [P] r:=by
 unfold Vm.zgP at Y
 refine zaY.of Tryz.func157 O O O O (sr (bo 2 O fun g1 Q l1 S=>?_))
 have U:=l1.o
 refine Nv (.slice none 0 0) O (sr (mv d O (Lw.ln x0 (i.ul U) O (Ni O (Cw.seq (Cw.block ?_))))))
 obtain⟨K6,an,Y⟩:=zdY Y
 refine Cw.loop 8 22 [5] (fun m l w=> ∃ b k,CW.w k=w/\Le [] Q k/\l=[vI b]/\Vm.ze4 x0 x1 K6 m b=some r) _ ⟨(x0.length:Int),Q,O,Le.refl _ _,O,Y⟩ ?_
 rintro(_ |m7) _ _ σ ⟨b,k,rfl,x,rfl,Y⟩
 ·cases Y
 unfold Vm.ze4 at Y
 have V:=U.n x
 refine Cw.seq ?_
 obtain⟨ao,ap,Y⟩:=zdY Y
 refine Cw.join 8 20 [20] (fun l w=> ∃ C y,CW.w y=w/\Le [] k y/\l=[vB C]/\ao C=some r) ?_ ?_
 ·rintro _ _ σ ⟨C,y,rfl,D,rfl,Y⟩
  rw[ap]at Y
  have aq:=V.n D
  refine cn Y (fun Y=>?_) fun Y=>?_
  ·exact sk (Cw.block (rg (mi O (Lw.sub O (Ni O ((agm) ⟨w64 (b-1),y,O,(x.j D).w,O,Y⟩))))))
  ·refine Cw.exit ?_
   rw[an]at Y
   refine Cw.seq ?_
   obtain⟨E,ar,Y⟩:=ob Y
   obtain⟨z,au,Y⟩:=ob Y
   refine Cw.par [[],[],[0,1],[],[],[4],[0,1,2,3,4,5],[0,1,2,3,4,5,6]] [[],[],[0,1],[],[],[4],[2,3,5],[6]] [[],[],[3],[],[],[],[3],[]] [[0],[1],[2],[3],[4],[5],[6],[6,7]] [[3],[],[3],[],[],[4],[5],[]] [1,3,4,5,6,7] [3] [fun vs W=>Ow W 3 [] [(vs 0)] ([]:List Head),fun vs W=>(vs 1)=d,fun vs W=>Ow W 3 [] [(vs 2)] E,fun vs W=>(vs 3)=vI b,fun vs W=>(vs 4) = .agg [vS x1.Name,vI x1.At].toArray,fun vs W=>(vs 5) = .slice (some (bx (pg (vs 5)))) 1 1/\Bx W 4 (pg (vs 5)) [vS x1.Name,vI x1.At],fun vs W=>Ow W 5 [] [(vs 6)] z,fun vs W=>(vs 7)=(vs 6)] [] mixed (by kernel_rfl) O zqt.nil ?_
   intro bu X
   have Z:=aq.n X
   refine⟨(zcI.cons ?_ (zcI.cons ?_ (zcI.cons ?_ (zcI.cons ?_ (zcI.cons ?_ (zcI.cons ?_ (zcI.cons ?_ (zcI.cons ?_ zcI.nil)))))))),(zha.cons SO (zha.cons SE (zha.cons SO (zha.cons SE (zha.cons SE (zha.cons (fun vs vs' W W' _ hv l hd h=>by(show(vs' 5) = .slice (some (bx (pg (vs' 5)))) 1 1/\Bx W' 4 (pg (vs' 5)) [vS x1.Name,vI x1.At]);rw[hv 5 (zbB O)];exact⟨h.1,h.2.up l (zgD hd (c:=4) O)⟩) (zha.cons SO (zha.cons (fun vs vs' W W' _ hv l hd h=>by(show(vs' 7)=(vs' 6));rw[hv 6 (zbB O),hv 7 (zbB O)];exact h) zha.nil)))))))),?_⟩
   ·intro vs bv lW hN hV
    refine Tr.mono (T.lit0 (α:=Head) 3 []) ?_
    rintro av _ ⟨aa,rfl,aw,ax⟩
    exact⟨aa,O,aw,(show Ow aa 3 [] [av] ([]:List Head) from ax)⟩
   ·intro vs bw lW hN hV
    exact Trq (R.mv (v:=d) O) O
   ·intro vs ay lW hN hV
    have az:=Z.t lW O
    obtain⟨a0,a1⟩: ∃ v,vs 0=v:=⟨_,O⟩
    obtain⟨vs,rfl⟩:=za2 a1
    have a3:Ow ay 3 [] [a0] ([]:List Head):=(hN 0 (zbB O))
    have F:vs 1=d:=(hN 1 (zbB O))
    obtain⟨vs,rfl⟩:=za2 F
    refine Tr.mono (T.appP (α:=Head) a3 (i.ul az) O O ar) ?_
    rintro a4 _ ⟨ac,rfl,a5,a6⟩
    exact⟨ac,O,a5,(show Ow ac 3 [] [a4] E from a6)⟩
   ·intro vs bz lW hN hV
    exact Trq (R.mv (v:=vI b) O) O
   ·intro vs b0 lW hN hV
    exact Trq (R.lda (cs:=[vS x1.Name,vI x1.At]) ((((S.up x).up D).up X).up lW O).cells O O) O
   ·intro vs b2 lW hN hV
    have G:vs 4 = .agg [vS x1.Name,vI x1.At].toArray:=(hN 4 (zbB O))
    obtain⟨vs,rfl⟩:=za2 G
    refine Tr.mono (T.bs 4 [.agg [vS x1.Name,vI x1.At].toArray] (cs:=[vS x1.Name,vI x1.At]) O O (bsA O)) ?_
    rintro _ _ ⟨H,ae,rfl,rfl,a7,a9⟩
    exact⟨ae,O,a7,(show(.slice (some (bx H)) 1 1:Value) = .slice (some (bx H)) 1 1/\Bx ae 4 H [vS x1.Name,vI x1.At] from⟨O,a9⟩)⟩
   ·intro vs af lW hN hV
    obtain⟨ba,bb⟩: ∃ v,vs 2=v:=⟨_,O⟩
    obtain⟨vs,rfl⟩:=za2 bb
    have bc:Ow af 3 [] [ba] E:=(hN 2 (zbB O))
    have I:vs 3=vI b:=(hN 3 (zbB O))
    obtain⟨vs,rfl⟩:=za2 I
    obtain⟨e,J⟩: ∃ e,vs 5 = .slice (some (bx e)) 1 1:=⟨_,((hN 5 (zbB O))).1⟩
    obtain⟨vs,rfl⟩:=za2 J
    have be:Bx af 4 e [vS x1.Name,vI x1.At]:=(hN 5 (zbB O)).2
    refine Tr.mono (T.call O (p192 (k0:=5) (c0:=3) bc be (Head.rd (K:=[0]) x1.Name x1.At) O O au)) ?_
    rintro bg _ ⟨ah,rfl,bh,⟨_,rfl,bi⟩⟩
    exact⟨ah,O,bh,(show Ow ah 5 [] [bg] z from bi)⟩
   ·intro vs bj lW hN hV
    obtain⟨f,L⟩: ∃ v,vs 6=v:=⟨_,O⟩
    obtain⟨vs,rfl⟩:=za2 L
    have b3:Ow bj 5 [] [f] z:=(hN 6 (zbB O))
    exact Trq (R.as (v:=f) O) O
   ·intro vs ai bk hN
    have bl:=Z.t bk
    have F:vs 1=d:=(hN 1 (zbB O))
    obtain⟨vs,rfl⟩:=za2 F
    have I:vs 3=vI b:=(hN 3 (zbB O))
    obtain⟨vs,rfl⟩:=za2 I
    have G:vs 4 = .agg [vS x1.Name,vI x1.At].toArray:=(hN 4 (zbB O))
    obtain⟨vs,rfl⟩:=za2 G
    obtain⟨e,J⟩: ∃ e,vs 5 = .slice (some (bx e)) 1 1:=⟨_,((hN 5 (zbB O))).1⟩
    obtain⟨vs,rfl⟩:=za2 J
    have b4:Bx ai 4 e [vS x1.Name,vI x1.At]:=(hN 5 (zbB O)).2
    obtain⟨f,L⟩: ∃ v,vs 6=v:=⟨_,O⟩
    obtain⟨vs,rfl⟩:=za2 L
    have bm:Ow ai 5 [] [f] z:=(hN 6 (zbB O))
    have bn:vs 7=f:=(hN 7 (zbB O))
    obtain⟨vs,rfl⟩:=za2 bn
    cases Y
    exact Cw.ret (zmc O (Res.mk bl ⟨f,O,bm.s.sub O O⟩))
 ·refine Cw.draw [] [(0,0),(1,0),(2,0),(3,0),(4,0),(5,0),(6,0),(7,0),(8,1),(9,0),(10,1),(11,0),(12,0)] mixed (by kernel_rfl) fun aj A=>?_
  have M:=V.n A
  refine Di O (Mw.p O O (fun _=>R.gt O O) (Db O (bs Y (fun a Y=>?_) fun a Y=>?_)))
  ·refine Wp a O (fun _=>R.mv (v:=d) O) (Wp a O (fun _=>R.mv (v:=vI b) O) (Wp a O (fun _=>R.sub O O) ?_))
   obtain⟨B,N,Y⟩:=ob Y
   exact Wp a O (fun _=>R.ix (α:=Head) (i.ul M) N O O O) (Wp a O (fun _=>R.fa O) (Wq a O (fun _ c=>R.ld O O (zaW (Head.at0 ((i.ul M).at_ N)).1 O (Head.at0 ((i.ul M).at_ N)).str c)) (Wp a O (fun _=>R.fa O) (Wq a O (fun _ c=>R.ld (v:=vS x1.Name) O O (((S.up x).up A).clc O O c)) (Wp a O (fun _=>R.sgt O O) (Mw.p O O (fun _=>R.pk a O (v:=vB (!(Op.bytesLess B.Name x1.Name||B.Name==x1.Name))) O) (Mw.nil ((ag) ⟨(!(Op.bytesLess B.Name x1.Name||B.Name==x1.Name)),aj,O,A,O,Y⟩))))))))
  ·exact dps 9 a O (Mw.p O O (fun _=>R.pk a O (v:=vB false) O) (Mw.nil ((ag) ⟨false,aj,O,A,O,Y⟩)))
theorem p157 {x0 b x1 k0 r}(d:Rd W K [b] x0)(f:Rd W K [vS x1.Name,vI x1.At] x1)(Y:Vm.zgP x0 x1=some r):Q1 157 [b, .agg [vS x1.Name,vI x1.At].toArray] W [] fun W' v=> ∃ a,v=a/\Ow W' k0 [] [a] r:=
 (c157 (d.view _) (f.view _) Y).ad (fk k0) fun _ _ ⟨a,e,h⟩=>⟨a,e,h.back (zk0 _)⟩
theorem c91 {x0 k x x1 x2 r}(am:Ow W0 2 [] [k] x0.Commits)(an:Ow W0 3 [] [x] x0.Heads)(Y:Vm.zc9 x0 x1 x2=some r):Q0 91 [.agg [k,x].toArray,vS x1,vI x2] W0 fun Wf v=> ∃ V W,v = .agg [V,W].toArray/\OwS Wf [31] [] [V] r.Commits/\OwS Wf [32] [] [W] r.Heads:=by
 unfold Vm.zc9 at Y
 refine zaY.of Tryz.func91 O O O O (sr (bo 4 O fun g1 W1 F X=>?_))
 have a2:=F.o
 refine al 5 [.slice none 0 0, .slice none 0 0] fun g5 Z d b5=>?_
 have a6:=a2.n d
 have o8:=(an.up F).up d
 refine nl (ssr (fl (X.up d) O (Lw.ln x0.Heads o8.rd O (mi O (nl (Cw.block ?_))))))
 obtain⟨au,av,Y⟩:=zdY Y
 refine Cw.loop 11 29 [7,11] (fun m l w=> ∃ e y z A ac B C a,CW.w a=w/\Le [] Z a/\l=[ac,vI e]/\Ow a 6 [] [B] y/\Ow a 7 [] [C] z/\Bx a 5 g5 [B,C]/\Ow a 3 [] [x] A/\Vm.zbu x0 x1 x2 au m e y z A=some r) _ ⟨0,([]:List Commit),([]:List Head),x0.Heads,undef, .slice none 0 0, .slice none 0 0,Z,O,Le.refl _ _,O,owN 6 [],owN 7 [],b5,o8,Y⟩ ?_
 rintro(_ |bq) _ _ σ ⟨e,y,z,A,ac,B,C,a,rfl,D,rfl,aw,ax,G,b,Y⟩
 ·cases Y
 unfold Vm.zbu at Y
 have ae:=a6.n D
 have H:=((am.up F).up d).up D
 have f:=(X.up d).up D
 refine sr (Lw.lt O (nl (Cw.seq (cn Y (fun Y=>?_) fun Y=>?_))))
 ·refine sk (Cw.seq (Cw.block (sr (mi O (Ni O (sr (fl f O (mi O ?_))))))))
  obtain⟨br,af,Y⟩:=ob Y
  refine Lw.r O (R.ix (α:=Head) b.rd af O O O) (Lw.fa O (Lw.r O (R.ld O O (Head.at0 (b.rd.at_ af)).str) (ms O (Lw.seq O (nl (cn Y (fun Y=>?_) fun Y=>?_))))))
  ·refine sr (fl f O (mi O (mi O ?_)))
   obtain⟨bu,ah,Y⟩:=ob Y
   refine Lw.r O (R.ix (α:=Head) b.rd ah O O O) (Lw.fa O ?_)
   obtain⟨bv,ay,Y⟩:=ob Y
   refine Lw.u (T.stH (α:=Head) (β:=Int) (J:=[]) (Ow.hole (α:=Head) (β:=Int) (jf:=1) b ah) (OwS.atm (K:=[]) (rdI _)) ay O O O O) ?_
   rintro _ _ ⟨bw,rfl,h,ai⟩
   have az:=ae.t h
   refine nl (sr (la (f.up h) (sta (G.up h) (zai (H.up h).oc (zai ai.oc zbt)) fun bz I a0=>?_)))
   have a1:=az.t I
   refine nl ?_
   obtain⟨b0,a3,L,a4⟩:=((H.up h).up I).dyeO 31
   have a5:=a1.t L
   obtain⟨b2,a7,N,a8⟩:=((ai.up I).up L).dyeO 32
   have a9:=a5.t N
   cases Y
   rw[<- a7.trans (a3)]
   exact Cw.ret (zoQ O ((a0.up L).up N) (Res.mk a9 ⟨k,x,O,(a4.up N).s,a8.s⟩))
  ·exact sk (rg (Lw.add O (mi O (nl ((agm) ⟨w64 (e+1),y,z,A,vI e,B,C,a,O,D,O,aw,ax,G,b,Y⟩)))))
 ·refine Cw.exit ?_
  rw[av]at Y
  refine sr (fl f O (ms O (mi O (Lw.r O (R.bd (zs:=[vS ([]:Str),vI 0]) (cs:=[vS x1,vI x2]) [(0,vS x1),(1,vI x2)] O O O (zc7 O O (zc7 O O zh4))) (cr Y (fun _=>p157 (K:=[0,3]) (k0:=8) (x1:=(Vm.Head.mk x1 x2)) (b.rd.sub (M:=[0,3]) O) ((Head.rd (K:=[0]) x1 x2).sub (M:=[0,3]) O)) ?_)))))
  rintro b3 aj b4 Y E ⟨_,rfl,P⟩
  have ba:=ae.n E
  refine Lw.fa O (Lw.u (T.st (j:=1) (v:=aj) (f.up E) O O P.oc O O) ?_)
  rintro _ _ ⟨b6,rfl,i,bb⟩
  have bc:=ba.t i
  have ak:=(H.up E).up i
  refine nl (sr (la bb (sta ((G.up E).up i) (zai ak.oc (zai (P.up i).oc zbt)) fun b7 Q be=>?_)))
  have bg:=bc.t Q
  refine nl ?_
  obtain⟨b8,bh,S,bi⟩:=(ak.up Q).dyeO 31
  have bj:=bg.t S
  obtain⟨b9,bk,U,bl⟩:=(((P.up i).up Q).up S).dyeO 32
  have bm:=bj.t U
  cases Y
  rw[<- bk.trans (bh)]
  exact Cw.ret (zoQ O ((be.up S).up U) (Res.mk bm ⟨k,aj,O,(bi.up U).s,bl.s⟩))
theorem p91 {x0 d f x1 x2 k0 k1 c0 c1 r}(h:Ow W c0 [] [d] x0.Commits)(i:Ow W c1 [] [f] x0.Heads)(hJ:okJ K [c0,c1]=true)(Y:Vm.zc9 x0 x1 x2=some r):Q1 91 [.agg [d,f].toArray,vS x1,vI x2] W [c0,c1] fun W' v=> ∃ a b,v = .agg [a,b].toArray/\Ow W' k0 [] [a] r.Commits/\Ow W' k1 [] [b] r.Heads:=
 zaY.adJ (J:=[c0,c1]) (fun c=>bif Nat.beq c 0 then 0 else bif Nat.beq c 2 then c0 else bif Nat.beq c 3 then c1 else bif Nat.beq c 31 then k0 else bif Nat.beq c 32 then k1 else 0) (c91 (h.viewJ 0 hJ) (i.viewJ 1 hJ) Y) fun _ _ ⟨a,b,e,k,x⟩=>⟨a,b,e,k.one1.backN O,x.one1.backN O⟩
theorem c156 {x0 D E x1 x2 x3 y x4 b r}(V:Ow W0 2 [] [D] x0.Commits)(W:Ow W0 3 [] [E] x0.Heads)(X:Rd W0 [0] [y] x3)(Z:Ow W0 4 [] [b] x4)(Y:Vm.zdb x0 x1 x2 x3 x4=some r):Q0 156 [.agg [D,E].toArray,vS x1,vS x2,y,b] W0 fun Wf v=> ∃ F G,v = .agg [F,G].toArray/\OwS Wf [31] [] [F] r.Commits/\OwS Wf [32] [] [G] r.Heads:=by
 unfold Vm.zdb at Y
 refine zaY.of Tryz.func156 O O O O (sr (bo 5 O fun g1 W1 i b1=>?_))
 have a2:=i.o
 refine al 6 [.slice none 0 0, .slice none 0 0] fun g6 W6 f b6=>?_
 have a7:=a2.n f
 refine nl (Cw.seq (Cw.draw [] [(0,0),(1,1),(2,0),(3,0),(4,0),(5,2),(6,0),(7,2),(8,3),(9,0),(10,3)] mixed (by kernel_rfl) fun bb e=>?_))
 have H:=a7.n e
 have I:=(b1.up f).up e
 refine Dfl I O O O (Dv b O (Ds O (Dv y O ?_)))
 obtain⟨ah,ai,Y⟩:=ob Y
 refine Mw.t O O (T.call O (p117 (k0:=7) (X.ul H) ai)) ?_
 rintro k _ ⟨bc,rfl,d,⟨_,rfl,L⟩⟩
 have aj:=H.n d
 have M:=(((Z.up i).up f).up e).up d
 refine m0 d fun ak=>Mw.p O O (fun _=>R.bd (zs:=[.slice none 0 0,vS ([]:Str), .slice none 0 0]) (cs:=[b,vS x2,k]) [(0,b),(1,vS x2),(2,k)] O O O (zc7 M.oc O (zc7 O O (zc7 L.oc O zh4)))) (Mw.t O O (T.bs 8 [.agg [b,vS x2,k].toArray] (cs:=[b,vS x2,k]) O O (bsA O)) ?_)
 rintro _ _ ⟨be,bg,rfl,rfl,a,am⟩
 have an:=aj.n a
 refine mc ak a fun bh=>?_
 obtain⟨N,ao,Y⟩:=ob Y
 refine Mw.l O O (T.app1 (α:=Commit) (J:=[4,7]) (K':=[]) (((((V.up i).up f).up e).up d).up a) am (Commit.own x4 x2 ah (M.up a).s (L.up a).s) O O ao) ?_
 rintro ap _ ⟨bi,rfl,x,z⟩
 have aq:=an.t x
 refine Df O (Mw.lu O (T.st (j:=0) (v:=ap) (((I.up d).up a).up x) O O z.oc O O) ?_)
 rintro _ _ ⟨bj,rfl,h,P⟩
 have ar:=aq.t h
 refine Mw.nil (sr (la P (ms O (fl P O (Lw.ln N (z.up h).rd O (Lw.sub O (cr Y (fun _=>p91 (K:=[0]) (k0:=9) (k1:=10) (c0:=2) (c1:=3) (x0:=(Vm.Repo.mk N x0.Heads)) (z.up h) (((((((W.up i).up f).up e).up d).up a).up x).up h) O) ?_)))))))
 rintro bk _ bl Y Q ⟨au,av,rfl,S,U⟩
 have aw:=ar.t Q
 refine sta ((((((b6.up e).up d).up a).up x).up h).up Q) (zai S.oc (zai U.oc zbt)) fun bm A ax=>?_
 have ay:=aw.t A
 refine nl ?_
 obtain⟨bn,az,B,a0⟩:=(S.up A).dyeO 31
 have a1:=ay.t B
 obtain⟨bp,a3,C,a4⟩:=((U.up A).up B).dyeO 32
 have a5:=a1.t C
 cases Y
 rw[<- a3.trans (az)]
 exact Cw.ret (zoQ O ((ax.up B).up C) (Res.mk a5 ⟨au,av,O,(a0.up C).s,a4.s⟩))
theorem p156 {x0 d f x1 x2 x3 h x4 i k0 k1 c0 c1 c2 r}(k:Ow W c0 [] [d] x0.Commits)(x:Ow W c1 [] [f] x0.Heads)(y:Rd W K [h] x3)(z:Ow W c2 [] [i] x4)(hJ:okJ K [c0,c1,c2]=true)(Y:Vm.zdb x0 x1 x2 x3 x4=some r):Q1 156 [.agg [d,f].toArray,vS x1,vS x2,h,i] W [c0,c1,c2] fun W' v=> ∃ a b,v = .agg [a,b].toArray/\Ow W' k0 [] [a] r.Commits/\Ow W' k1 [] [b] r.Heads:=
 zaY.adJ (J:=[c0,c1,c2]) (fun c=>bif Nat.beq c 0 then 0 else bif Nat.beq c 2 then c0 else bif Nat.beq c 3 then c1 else bif Nat.beq c 4 then c2 else bif Nat.beq c 31 then k0 else bif Nat.beq c 32 then k1 else 0) (c156 (k.viewJ 0 hJ) (x.viewJ 1 hJ) (y.view _) (z.viewJ 2 hJ) Y) fun _ _ ⟨a,b,e,A,B⟩=>⟨a,b,e,A.one1.backN O,B.one1.backN O⟩
theorem c155 {x0 D E x1 e f r}(S:Rd W0 [0] [D,E] x0)(T:Ow W0 2 [] [e] x1.Commits)(U:Ow W0 3 [] [f] x1.Heads)(V:Gl 0 W0 [0])(Y:Vm.zdI x0 x1=some r):Q0 155 [.agg [D,E].toArray, .agg [e,f].toArray] W0 fun Wf v=> ∃ F G,v = .tuple [.agg [F,G].toArray,vB r.2].toArray/\OwS Wf [31] [] [F] r.1.Commits/\OwS Wf [32] [] [G] r.1.Heads:=by
 unfold Vm.zdI at Y
 obtain⟨a1,a3,H,W,X⟩:=Repo.split S
 simp only[List.cons.injEq,and_true,true_and]at H
 obtain⟨rfl,rfl⟩:=H
 refine zaY.of Tryz.func155 O O O O (sr (bo 4 O fun g1 W1 h Z=>?_))
 have a2:=h.o
 refine bo 5 O fun g5 W5 b I=>?_
 have a6:=a2.n b
 refine al 6 [.slice none 0 0, .slice none 0 0] fun a9 ba l10 J=>?_
 have L:=a6.n l10
 have i:=((T.up h).up b).up l10
 have k:=((U.up h).up b).up l10
 refine Nb O (ssr (la (I.up l10) (ca Y (fun _=>p43 (K:=[0,2,3]) (x0:=(Vm.Repo.mk x1.Commits x1.Heads)) ((Repo.rd (K:=[2,3]) x1.Commits x1.Heads (i.rd.sub (M:=[2,3]) O) (k.rd.sub (M:=[2,3]) O)).sub (M:=[0,2,3]) O) ((V.ul L).sub (M:=[0,2,3]) O)) fun bb bc Y a=>?_)))
 have d:=L.n a
 refine Lw.r O (R.not O) (nl (cn Y (fun Y=>?_) fun Y=>?_))
 ·refine sr (la (((Z.up b).up l10).up a) (cr Y (fun _=>p90 (k0:=7) (k1:=8) (Repo.rd (K:=[0]) x0.Commits x0.Heads (W.ul d) (X.ul d))) ?_))
  rintro be _ bg Y N ⟨ae,af,rfl,P,Q⟩
  have ah:=d.n N
  refine sta ((J.up a).up N) (zai P.oc (zai Q.oc zbt)) fun bh x ai=>?_
  have aj:=ah.t x
  refine Nb O ?_
  obtain⟨bi,ak,y,am⟩:=(P.up x).dyeO 31
  have an:=aj.t y
  obtain⟨bj,ao,z,ap⟩:=((Q.up x).up y).dyeO 32
  have aq:=an.t z
  cases Y
  rw[<- ao.trans (ak)]
  exact Cw.ret (zjs O ((ai.up y).up z) O (Res.mk aq ⟨ae,af,O,(am.up z).s,ap.s⟩))
 ·refine sk (sr (la ((I.up l10).up a) (sta (J.up a) (zai (i.up a).oc (zai (k.up a).oc zbt)) fun bk A ar=>?_)))
  have au:=d.t A
  refine Nb O ?_
  obtain⟨bl,av,B,aw⟩:=((i.up a).up A).dyeO 31
  have ax:=au.t B
  obtain⟨bm,ay,C,az⟩:=(((k.up a).up A).up B).dyeO 32
  have a0:=ax.t C
  cases Y
  rw[<- ay.trans (av)]
  exact Cw.ret (zjs O ((ar.up B).up C) O (Res.mk a0 ⟨e,f,O,(aw.up C).s,az.s⟩))
theorem p155 {x0 d f x1 h i k0 k1 c0 c1 r}(k:Rd W K [d,f] x0)(x:Ow W c0 [] [h] x1.Commits)(y:Ow W c1 [] [i] x1.Heads)(z:Gl 0 W K)(hJ:okJ K [c0,c1]=true)(Y:Vm.zdI x0 x1=some r):Q1 155 [.agg [d,f].toArray, .agg [h,i].toArray] W [c0,c1] fun W' v=> ∃ a b,v = .tuple [.agg [a,b].toArray,vB r.2].toArray/\Ow W' k0 [] [a] r.1.Commits/\Ow W' k1 [] [b] r.1.Heads:=
 zaY.adJ (J:=[c0,c1]) (fun c=>bif Nat.beq c 0 then 0 else bif Nat.beq c 2 then c0 else bif Nat.beq c 3 then c1 else bif Nat.beq c 31 then k0 else bif Nat.beq c 32 then k1 else 0) (c155 (k.view _) (x.viewJ 0 hJ) (y.viewJ 1 hJ) (z.view _) Y) fun _ _ ⟨a,b,e,A,B⟩=>⟨a,b,e,A.one1.backN O,B.one1.backN O⟩
theorem c147 {x0 f i x1 x2 x3 N x4 P r}(h0:Rd W0 [0] [f,i] x0)(h3:Rd W0 [0] [N] x3)(h4:Rd W0 [0] [P] x4)(bk:Gl 0 W0 [0])(Y:Vm.zbN x0 x1 x2 x3 x4=some r):Q0 147 [.agg [f,i].toArray,vS x1,vS x2,N,P] W0 fun Wf v=> ∃ bl bm,v = .tuple [.agg [bl,bm].toArray,vI r.2].toArray/\OwS Wf [31] [] [bl] r.1.Commits/\OwS Wf [32] [] [bm] r.1.Heads:=by
 unfold Vm.zbN at Y
 obtain⟨el,em,bn,C,D⟩:=Repo.split h0
 simp only[List.cons.injEq,and_true,true_and]at bn
 obtain⟨rfl,rfl⟩:=bn
 refine zaY.of Tryz.func147 O O O O (sr (bo 2 O fun g1 W1 l1 b1=>?_))
 have a2:=l1.o
 refine al 3 [.slice none 0 0, .slice none 0 0] fun g3 W3 Q b3=>?_
 have S:=a2.n Q
 refine Ni O (sr (la (b1.up Q) (ms O (ca Y (fun _=>p88 (Repo.rd (K:=[0]) x0.Commits x0.Heads (C.ul S) (D.ul S))) fun z es Y l10=>?_))))
 have U:=S.n l10
 have bq:=(b1.up Q).up l10
 refine Ni O (sr (mv N O (la bq (mi O (cr Y (fun _=>p105 (Repo.rd (K:=[0]) x0.Commits x0.Heads (C.ul U) (D.ul U))) ?_)))))
 rintro et eu ew Y V ⟨_,rfl,ck⟩
 have cl:=ck.sub (M:=[0]) O
 have G:=U.n V
 refine mv P O (cr Y (fun _=>p50 (k0:=4) (h3.ul G) cl (h4.ul G) (bk.ul G)) ?_)
 rintro B _ cm Y X ⟨e,rfl,co⟩
 have cp:Ow (α:=List (Sh Vm.File)) cm 4 [0] [e] B.1:=co.sub O
 have H:=G.n X
 have Z:=(bq.up V).up X
 have br:=((b3.up l10).up V).up X
 refine mv (.tuple [e,vB B.2].toArray) O (Lw.r O (R.ext (vs:=[e,vB B.2]) (v:=e) O O) (Lw.r O (R.ext (vs:=[e,vB B.2]) (v:=vB B.2) O O) (Gv e O (Nb O (ssr (mb O (Lw.r O (R.not O) (nl (cn Y (fun Y=>?_) fun Y=>?_)))))))))
 ·refine sr (la Z (cr Y (fun _=>p90 (k0:=5) (k1:=6) (Repo.rd (K:=[0]) x0.Commits x0.Heads (C.ul H) (D.ul H))) ?_))
  rintro ex _ ey Y bu ⟨cq,ct,rfl,bv,bw⟩
  have cu:=H.n bu
  refine sta (br.up bu) (zai bv.oc (zai bw.oc zbt)) fun ez aa cv=>?_
  have cw:=cu.t aa
  refine Ni O ?_
  obtain⟨e0,cx,ac,cy⟩:=(bv.up aa).dyeO 31
  have cz:=cw.t ac
  obtain⟨e1,c3,ae,c4⟩:=((bw.up aa).up ac).dyeO 32
  have c5:=cz.t ae
  cases Y
  rw[<- c3.trans (cx)]
  exact Cw.ret (zjs O ((cv.up ac).up ae) O (Res.mk c5 ⟨cq,ct,O,(cy.up ae).s,c4.s⟩))
 ·refine sk (Cw.seq ?_)
  obtain⟨k,c6,Y⟩:=ob Y
  obtain⟨x,c7,Y⟩:=ob Y
  obtain⟨a,c8,Y⟩:=ob Y
  refine Cw.par [[],[],[1],[],[],[],[],[6],[1,2,3,4,5,6,7],[0,1,2,3,4,5,6,7,8],[0,1,2,3,4,5,6,7,8,9],[0,1,2,3,4,5,6,7,8,9,10],[0,1,2,3,4,5,6,7,8,9,10],[],[0,1,2,3,4,5,6,7,8,9,10,11,13],[0,1,2,3,4,5,6,7,8,9,10,11,12,13,14]] [[],[],[1],[],[],[],[],[6],[2,3,4,5,7],[0,8],[9],[9,10],[9,10],[],[9,11,13],[12]] [[],[],[],[],[],[],[],[],[7,8,9],[10,11],[],[],[],[],[14],[]] [[0],[1],[2],[3],[4],[5],[6],[7],[8],[9],[9,10],[9,11],[12],[13],[9,13],[15]] [[],[],[7,8],[],[],[],[],[9],[10,11],[12,13],[],[],[],[14],[14],[]] [0,1,3,4,5,6,9,10,11,12,14,15] [7,8,9,10,11,14] [fun vs W=>(vs 0) = .agg [f,i].toArray,fun vs W=>(vs 1) = .agg [f,i].toArray,fun vs W=>(vs 2) = .agg [(zaZ (vs 2) 0),(zaZ (vs 2) 1)].toArray/\Ow W 7 [] [(zaZ (vs 2) 0)] k.Commits/\Ow W 8 [] [(zaZ (vs 2) 1)] k.Heads,fun vs W=>(vs 3)=vS x1,fun vs W=>(vs 4)=vS x2,fun vs W=>(vs 5)=e,fun vs W=>(vs 6)=vI z,fun vs W=>Ow W 9 [] [(vs 7)] ([z]:List Int),fun vs W=>(vs 8) = .agg [(zaZ (vs 8) 0),(zaZ (vs 8) 1)].toArray/\Ow W 10 [] [(zaZ (vs 8) 0)] x.Commits/\Ow W 11 [] [(zaZ (vs 8) 1)] x.Heads,fun vs W=>(vs 9) = .tuple [.agg [(zaZ (zaZ (vs 9) 0) 0),(zaZ (zaZ (vs 9) 0) 1)].toArray,vB a.2].toArray/\Ow W 12 [] [(zaZ (zaZ (vs 9) 0) 0)] a.1.Commits/\Ow W 13 [] [(zaZ (zaZ (vs 9) 0) 1)] a.1.Heads,fun vs W=>(vs 10) = .tuple [.agg [(zaZ (zaZ (vs 9) 0) 0),(zaZ (zaZ (vs 9) 0) 1)].toArray,vB a.2].toArray,fun vs W=>(vs 11) = .agg [(zaZ (zaZ (vs 9) 0) 0),(zaZ (zaZ (vs 9) 0) 1)].toArray,fun vs W=>(vs 12)=vB a.2,fun vs W=>(vs 13)=ptr (bx (pg (vs 13)))/\Bx W 14 (pg (vs 13)) [.slice none 0 0, .slice none 0 0],fun vs W=>(vs 13)=ptr (bx (pg (vs 13)))/\Bx W 14 (pg (vs 13)) [(zaZ (zaZ (vs 9) 0) 0),(zaZ (zaZ (vs 9) 0) 1)],fun vs W=>(vs 15)=vB a.2] [] mixed (by kernel_rfl) O zqt.nil ?_
  intro e2 E
  have af:=H.n E
  refine⟨(zcI.cons ?_ (zcI.cons ?_ (zcI.cons ?_ (zcI.cons ?_ (zcI.cons ?_ (zcI.cons ?_ (zcI.cons ?_ (zcI.cons ?_ (zcI.cons ?_ (zcI.cons ?_ (zcI.cons ?_ (zcI.cons ?_ (zcI.cons ?_ (zcI.cons ?_ (zcI.cons ?_ (zcI.cons ?_ zcI.nil)))))))))))))))),(zha.cons SE (zha.cons SE (zha.cons (fun vs vs' W W' _ hv l hd h=>by(show(vs' 2) = .agg [(zaZ (vs' 2) 0),(zaZ (vs' 2) 1)].toArray/\Ow W' 7 [] [(zaZ (vs' 2) 0)] k.Commits/\Ow W' 8 [] [(zaZ (vs' 2) 1)] k.Heads);rw[hv 2 (zbB O)];exact⟨h.1,h.2.1.upv l (zgD hd (c:=7) O),h.2.2.upv l (zgD hd (c:=8) O)⟩) (zha.cons SE (zha.cons SE (zha.cons SE (zha.cons SE (zha.cons SO (zha.cons (fun vs vs' W W' _ hv l hd h=>by(show(vs' 8) = .agg [(zaZ (vs' 8) 0),(zaZ (vs' 8) 1)].toArray/\Ow W' 10 [] [(zaZ (vs' 8) 0)] x.Commits/\Ow W' 11 [] [(zaZ (vs' 8) 1)] x.Heads);rw[hv 8 (zbB O)];exact⟨h.1,h.2.1.upv l (zgD hd (c:=10) O),h.2.2.upv l (zgD hd (c:=11) O)⟩) (zha.cons (fun vs vs' W W' _ hv l hd h=>by(show(vs' 9) = .tuple [.agg [(zaZ (zaZ (vs' 9) 0) 0),(zaZ (zaZ (vs' 9) 0) 1)].toArray,vB a.2].toArray/\Ow W' 12 [] [(zaZ (zaZ (vs' 9) 0) 0)] a.1.Commits/\Ow W' 13 [] [(zaZ (zaZ (vs' 9) 0) 1)] a.1.Heads);rw[hv 9 (zbB O)];exact⟨h.1,h.2.1.upv l (zgD hd (c:=12) O),h.2.2.upv l (zgD hd (c:=13) O)⟩) (zha.cons (fun vs vs' W W' _ hv l hd h=>by(show(vs' 10) = .tuple [.agg [(zaZ (zaZ (vs' 9) 0) 0),(zaZ (zaZ (vs' 9) 0) 1)].toArray,vB a.2].toArray);rw[hv 9 (zbB O),hv 10 (zbB O)];exact h) (zha.cons (fun vs vs' W W' _ hv l hd h=>by(show(vs' 11) = .agg [(zaZ (zaZ (vs' 9) 0) 0),(zaZ (zaZ (vs' 9) 0) 1)].toArray);rw[hv 9 (zbB O),hv 11 (zbB O)];exact h) (zha.cons SE (zha.cons (fun vs vs' W W' _ hv l hd h=>by(show(vs' 13)=ptr (bx (pg (vs' 13)))/\Bx W' 14 (pg (vs' 13)) [.slice none 0 0, .slice none 0 0]);rw[hv 13 (zbB O)];exact⟨h.1,h.2.up l (zgD hd (c:=14) O)⟩) (zha.cons (fun vs vs' W W' _ hv l hd h=>by(show(vs' 13)=ptr (bx (pg (vs' 13)))/\Bx W' 14 (pg (vs' 13)) [(zaZ (zaZ (vs' 9) 0) 0),(zaZ (zaZ (vs' 9) 0) 1)]);rw[hv 9 (zbB O),hv 13 (zbB O)];exact⟨h.1,h.2.up l (zgD hd (c:=14) O)⟩) (zha.cons SE zha.nil)))))))))))))))),?_⟩
  ·intro vs e3 lW hN hV
   exact Trq (R.lda (cs:=[f,i]) ((Z.up E).up lW O).cells O O) O
  ·intro vs e4 lW hN hV
   exact Trq (R.lda (cs:=[f,i]) ((Z.up E).up lW O).cells O O) O
  ·intro vs e5 lW hN hV
   have bz:=af.t lW O
   have ah:vs 1 = .agg [f,i].toArray:=(hN 1 (zbB O))
   obtain⟨vs,rfl⟩:=za2 ah
   refine Tr.mono (T.call O (p90 (k0:=7) (k1:=8) (Repo.rd (K:=[0]) x0.Commits x0.Heads (C.ul bz) (D.ul bz)) c6)) ?_
   rintro _ _ ⟨ai,rfl,c9,⟨aj,ak,rfl,da,db⟩⟩
   exact⟨ai,O,c9,(show(.agg [aj,ak].toArray:Value) = .agg [aj,ak].toArray/\Ow ai 7 [] [aj] k.Commits/\Ow ai 8 [] [ak] k.Heads from⟨O,da,db⟩)⟩
  ·intro vs e6 lW hN hV
   exact Trq (R.mv (v:=vS x1) O) O
  ·intro vs e7 lW hN hV
   exact Trq (R.mv (v:=vS x2) O) O
  ·intro vs e8 lW hN hV
   exact Trq (R.mv (v:=e) O) O
  ·intro vs e9 lW hN hV
   exact Trq (R.mv (v:=vI z) O) O
  ·intro vs dc lW hN hV
   have am:vs 6=vI z:=(hN 6 (zbB O))
   obtain⟨vs,rfl⟩:=za2 am
   refine Tr.mono (T.bsS (α:=Int) (xs:=[z]) 9 [] (W:=dc) [vI z] (Each.cons ((rdI _)) Each.nil) O) ?_
   rintro dd _ ⟨b0,rfl,de,df⟩
   exact⟨b0,O,de,(show Ow b0 9 [] [dd] ([z]:List Int) from df)⟩
  ·intro vs I lW hN hV
   obtain⟨an,ao,dg⟩: ∃ an ao:Value,vs 2 = .agg [an,ao].toArray:=⟨_,_,(hN 2 (zbB O)).1⟩
   obtain⟨vs,rfl⟩:=za2 dg
   have dh:Ow I 7 [] [an] k.Commits:=(hN 2 (zbB O)).2.1
   have di:Ow I 8 [] [ao] k.Heads:=(hN 2 (zbB O)).2.2
   have ap:vs 3=vS x1:=(hN 3 (zbB O))
   obtain⟨vs,rfl⟩:=za2 ap
   have aq:vs 4=vS x2:=(hN 4 (zbB O))
   obtain⟨vs,rfl⟩:=za2 aq
   have ar:vs 5=e:=(hN 5 (zbB O))
   obtain⟨vs,rfl⟩:=za2 ar
   obtain⟨dj,dk⟩: ∃ v,vs 7=v:=⟨_,O⟩
   obtain⟨vs,rfl⟩:=za2 dk
   have dl:Ow I 9 [] [dj] ([z]:List Int):=(hN 7 (zbB O))
   have dm:Rd (α:=List Vm.File) I [4,0] [e] B.1:=Ow.rdSh ((cp.up E).up lW O)
   refine Tr.mono (T.call O (p156 (K:=[0,4]) (k0:=10) (k1:=11) (c0:=7) (c1:=8) (c2:=9) (x0:=(Vm.Repo.mk k.Commits k.Heads)) dh di (dm.sub (M:=[0,4]) O) dl O c7)) ?_
   rintro _ _ ⟨au,rfl,dn,⟨av,aw,rfl,dp,dq⟩⟩
   exact⟨au,O,dn,(show(.agg [av,aw].toArray:Value) = .agg [av,aw].toArray/\Ow au 10 [] [av] x.Commits/\Ow au 11 [] [aw] x.Heads from⟨O,dp,dq⟩)⟩
  ·intro vs b2 lW hN hV
   have ax:=af.t lW O
   have ay:vs 0 = .agg [f,i].toArray:=(hN 0 (zbB O))
   obtain⟨vs,rfl⟩:=za2 ay
   obtain⟨az,a0,dr⟩: ∃ az a0:Value,vs 8 = .agg [az,a0].toArray:=⟨_,_,(hN 8 (zbB O)).1⟩
   obtain⟨vs,rfl⟩:=za2 dr
   have ds:Ow b2 10 [] [az] x.Commits:=(hN 8 (zbB O)).2.1
   have dt:Ow b2 11 [] [a0] x.Heads:=(hN 8 (zbB O)).2.2
   refine Tr.mono (T.call O (p155 (k0:=12) (k1:=13) (c0:=10) (c1:=11) (x1:=(Vm.Repo.mk x.Commits x.Heads)) (Repo.rd (K:=[0]) x0.Commits x0.Heads (C.ul ax) (D.ul ax)) ds dt (bk.ul ax) O c8)) ?_
   rintro _ _ ⟨a1,rfl,du,⟨a3,a5,rfl,dv,dw⟩⟩
   exact⟨a1,O,du,(show(.tuple [.agg [a3,a5].toArray,vB a.2].toArray:Value) = .tuple [.agg [a3,a5].toArray,vB a.2].toArray/\Ow a1 12 [] [a3] a.1.Commits/\Ow a1 13 [] [a5] a.1.Heads from⟨O,dv,dw⟩)⟩
  ·intro vs b4 lW hN hV
   obtain⟨b,d,A⟩: ∃ b d:Value,vs 9 = .tuple [.agg [b,d].toArray,vB a.2].toArray:=⟨_,_,(hN 9 (zbB O)).1⟩
   obtain⟨vs,rfl⟩:=za2 A
   have fb:Ow b4 12 [] [b] a.1.Commits:=(hN 9 (zbB O)).2.1
   have fc:Ow b4 13 [] [d] a.1.Heads:=(hN 9 (zbB O)).2.2
   exact Trq (R.mv (v:= .tuple [Value.agg [b,d].toArray,vB a.2].toArray) O) O
  ·intro vs b5 lW hN hV
   obtain⟨b,d,A⟩: ∃ b d:Value,vs 9 = .tuple [.agg [b,d].toArray,vB a.2].toArray:=⟨_,_,(hN 9 (zbB O)).1⟩
   obtain⟨vs,rfl⟩:=za2 A
   have fd:Ow b5 12 [] [b] a.1.Commits:=(hN 9 (zbB O)).2.1
   have fe:Ow b5 13 [] [d] a.1.Heads:=(hN 9 (zbB O)).2.2
   have F:vs 10 = .tuple [.agg [b,d].toArray,vB a.2].toArray:=(hN 10 (zbB O))
   obtain⟨vs,rfl⟩:=za2 F
   exact Trq (R.ext (vs:=[Value.agg [b,d].toArray,vB a.2]) (v:= .agg [b,d].toArray) O O) O
  ·intro vs b6 lW hN hV
   obtain⟨b,d,A⟩: ∃ b d:Value,vs 9 = .tuple [.agg [b,d].toArray,vB a.2].toArray:=⟨_,_,(hN 9 (zbB O)).1⟩
   obtain⟨vs,rfl⟩:=za2 A
   have ff:Ow b6 12 [] [b] a.1.Commits:=(hN 9 (zbB O)).2.1
   have fg:Ow b6 13 [] [d] a.1.Heads:=(hN 9 (zbB O)).2.2
   have F:vs 10 = .tuple [.agg [b,d].toArray,vB a.2].toArray:=(hN 10 (zbB O))
   obtain⟨vs,rfl⟩:=za2 F
   exact Trq (R.ext (vs:=[Value.agg [b,d].toArray,vB a.2]) (v:=vB a.2) O O) O
  ·intro vs fh lW hN hV
   refine Tr.mono (T.alloc 14 (cs:=[.slice none 0 0, .slice none 0 0]) O) ?_
   rintro _ _ ⟨a6,b7,rfl,rfl,dx,dy⟩
   exact⟨b7,O,dx,(show(ptr (bx a6):Value)=ptr (bx a6)/\Bx b7 14 a6 [.slice none 0 0, .slice none 0 0] from⟨O,dy⟩)⟩
  ·intro vs a7 lW hN hV
   obtain⟨b,d,A⟩: ∃ b d:Value,vs 9 = .tuple [.agg [b,d].toArray,vB a.2].toArray:=⟨_,_,(hN 9 (zbB O)).1⟩
   obtain⟨vs,rfl⟩:=za2 A
   have dz:Ow a7 12 [] [b] a.1.Commits:=(hN 9 (zbB O)).2.1
   have d0:Ow a7 13 [] [d] a.1.Heads:=(hN 9 (zbB O)).2.2
   have a8:vs 11 = .agg [b,d].toArray:=(hN 11 (zbB O))
   obtain⟨vs,rfl⟩:=za2 a8
   obtain⟨y,a9⟩: ∃ y,vs 13=ptr (bx y):=⟨_,((hN 13 (zbB O))).1⟩
   obtain⟨vs,rfl⟩:=za2 a9
   have d1:Bx a7 14 y [.slice none 0 0, .slice none 0 0]:=(hN 13 (zbB O)).2
   refine Tr.mono (T.sta (vs:=[b,d]) d1 O O (zai dz.oc (zai d0.oc zbt)) O O) ?_
   rintro _ _ ⟨b8,rfl,d2,d3⟩
   exact⟨b8,O,d2,(show(ptr (bx y))=ptr (bx y)/\Bx b8 14 y [b,d] from⟨O,d3⟩)⟩
  ·intro vs fi lW hN hV
   have ba:vs 12=vB a.2:=(hN 12 (zbB O))
   obtain⟨vs,rfl⟩:=za2 ba
   exact Trq (R.as (v:=vB a.2) O) O
  ·intro vs bb b9 hN
   have cb:=af.t b9
   have cc:=(br.up E).up b9
   have ay:vs 0 = .agg [f,i].toArray:=(hN 0 (zbB O))
   obtain⟨vs,rfl⟩:=za2 ay
   have ah:vs 1 = .agg [f,i].toArray:=(hN 1 (zbB O))
   obtain⟨vs,rfl⟩:=za2 ah
   have ap:vs 3=vS x1:=(hN 3 (zbB O))
   obtain⟨vs,rfl⟩:=za2 ap
   have aq:vs 4=vS x2:=(hN 4 (zbB O))
   obtain⟨vs,rfl⟩:=za2 aq
   have ar:vs 5=e:=(hN 5 (zbB O))
   obtain⟨vs,rfl⟩:=za2 ar
   have am:vs 6=vI z:=(hN 6 (zbB O))
   obtain⟨vs,rfl⟩:=za2 am
   obtain⟨b,d,A⟩: ∃ b d:Value,vs 9 = .tuple [.agg [b,d].toArray,vB a.2].toArray:=⟨_,_,(hN 9 (zbB O)).1⟩
   obtain⟨vs,rfl⟩:=za2 A
   have J:Ow bb 12 [] [b] a.1.Commits:=(hN 9 (zbB O)).2.1
   have L:Ow bb 13 [] [d] a.1.Heads:=(hN 9 (zbB O)).2.2
   have F:vs 10 = .tuple [.agg [b,d].toArray,vB a.2].toArray:=(hN 10 (zbB O))
   obtain⟨vs,rfl⟩:=za2 F
   have a8:vs 11 = .agg [b,d].toArray:=(hN 11 (zbB O))
   obtain⟨vs,rfl⟩:=za2 a8
   have ba:vs 12=vB a.2:=(hN 12 (zbB O))
   obtain⟨vs,rfl⟩:=za2 ba
   obtain⟨y,a9⟩: ∃ y,vs 13=ptr (bx y):=⟨_,(hN 14 (zbB O)).1⟩
   obtain⟨vs,rfl⟩:=za2 a9
   have cd:Bx bb 14 y [b,d]:=(hN 14 (zbB O)).2
   have d4:vs 15=vB a.2:=(hN 15 (zbB O))
   obtain⟨vs,rfl⟩:=za2 d4
   refine ssr (mb O (Lw.r O (R.not O) (nl (cn Y (fun Y=>?_) fun Y=>?_))))
   ·refine sr (Lw.r O (R.lda (cs:=[b,d]) cd.cells O O) (sta cc (zai J.oc (zai L.oc zbt)) fun fj bc d5=>?_))
    have d6:=cb.t bc
    refine Ni O ?_
    obtain⟨fm,d7,be,d8⟩:=(J.up bc).dyeO 31
    have d9:=d6.t be
    obtain⟨fn,ea,bg,eb⟩:=((L.up bc).up be).dyeO 32
    have ec:=d9.t bg
    cases Y
    rw[<- ea.trans (d7)]
    exact Cw.ret (zjs O ((d5.up be).up bg) O (Res.mk ec ⟨b,d,O,(d8.up bg).s,eb.s⟩))
   ·refine sk (sr (Lw.r O (R.lda (cs:=[b,d]) cd.cells O O) (sta cc (zai J.oc (zai L.oc zbt)) fun fo bh ed=>?_)))
    have ee:=cb.t bh
    refine Ni O ?_
    obtain⟨fp,ef,bi,eg⟩:=(J.up bh).dyeO 31
    have eh:=ee.t bi
    obtain⟨fq,ei,bj,ej⟩:=((L.up bh).up bi).dyeO 32
    have ek:=eh.t bj
    cases Y
    rw[<- ei.trans (ef)]
    exact Cw.ret (zjs O ((ed.up bi).up bj) O (Res.mk ek ⟨b,d,O,(eg.up bj).s,ej.s⟩))
theorem p147 {x0 d f x1 x2 x3 h x4 i k0 k1 r}(k:Rd W K [d,f] x0)(x:Rd W K [h] x3)(y:Rd W K [i] x4)(z:Gl 0 W K)(Y:Vm.zbN x0 x1 x2 x3 x4=some r):Q1 147 [.agg [d,f].toArray,vS x1,vS x2,h,i] W [] fun W' v=> ∃ a b,v = .tuple [.agg [a,b].toArray,vI r.2].toArray/\Ow W' k0 [] [a] r.1.Commits/\Ow W' k1 [] [b] r.1.Heads:=
 zaY.adJ (J:=[]) (fun c=>bif Nat.beq c 0 then 0 else bif Nat.beq c 31 then k0 else bif Nat.beq c 32 then k1 else 0) (c147 (k.view _) (x.view _) (y.view _) (z.view _) Y) fun _ _ ⟨a,b,e,A,B⟩=>⟨a,b,e,A.one1.backN O,B.one1.backN O⟩
end Go.Sx
