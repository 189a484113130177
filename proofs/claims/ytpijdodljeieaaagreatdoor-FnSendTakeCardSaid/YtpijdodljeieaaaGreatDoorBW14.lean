/- Walks: each function answers as its model, printed by a program of ours. Conditions: the arguments read as they are given. -/
import Derived.Test.YtpijdodljeieaaaGreatDoorBTs
import Derived.Test.YtpijdodljeieaaaGreatDoorBM8
import Derived.Test.YtpijdodljeieaaaGreatDoorBW11
namespace Go.Sx
open Go Go.Proofs Go.Vm Rp
set_option linter.unusedVariables false
set_option linter.unusedSimpArgs false
variable {W W0:CW}{K:List Nat}
theorem c31 {x0 af ah x1 ai aj r}(h0:Rd W0 [0] [af,ah] x0)(h1:Rd W0 [0] [ai,aj] x1)(Y:Vm.zgc x0 x1=some r):Q0 31 [.agg [af,ah].toArray, .agg [ai,aj].toArray] W0 fun Wf v=>v=vB r:=by
 unfold Vm.zgc at Y
 obtain⟨bb,bc,ak,F,b⟩:=Repo.split h0
 simp only[List.cons.injEq,and_true,true_and]at ak
 obtain⟨rfl,rfl⟩:=ak
 obtain⟨be,bg,am,an,x⟩:=Repo.split h1
 simp only[List.cons.injEq,and_true,true_and]at am
 obtain⟨rfl,rfl⟩:=am
 refine zaT.of Tryz.func31 O O O O (sr (bo 2 O fun g1 W1 l1 b1=>?_))
 have a2:=l1.o
 refine bo 3 O fun g3 G l3 H=>?_
 have d:=a2.n l3
 have I:=b1.up l3
 refine Nb O (Cw.seq ?_)
 obtain⟨K8,az,Y⟩:=zc4 Y
 refine Cw.join 7 22 [22] (fun l w=> ∃ J e,CW.w e=w/\Le [] G e/\l=[vB J]/\K8 J=some r) ?_ ?_
 ·rintro _ _ σ ⟨J,e,rfl,L,rfl,Y⟩
  rw[az]at Y
  have a9:=d.n L
  refine cn Y (fun Y=>?_) fun Y=>?_
  ·exact sr (Nb O (.ret (rt Y a9)))
  ·refine sk (ssr (Ni O (Cw.block ?_)))
   obtain⟨a0,a1,Y⟩:=zc4 Y
   refine Cw.loop 23 41 [4,5] (fun m l w=> ∃ f y h,CW.w h=w/\Le [] e h/\l=[vB f,vI y]/\Vm.zeW x0 x1 a0 m f y=some r) _ ⟨false,0,e,O,Le.refl _ _,O,Y⟩ ?_
   rintro(_ |bk) _ _ σ ⟨f,y,h,rfl,z,rfl,Y⟩
   ·cases Y
   unfold Vm.zeW at Y
   have M:=a9.n z
   have A:=(I.up L).up z
   have aq:=(H.up L).up z
   refine ssr (mi O (fl A O (Lw.ln x0.Commits (F.ul M) O (Lw.lt O (nl (cn Y (fun Y=>?_) fun Y=>?_))))))
   ·refine sk (Cw.seq (Cw.block (Cw.seq (Cw.draw [] [(0,0),(1,1),(2,0),(3,0),(4,1),(5,0),(6,1),(7,0),(8,0),(9,1),(10,2),(11,0)] mixed (by kernel_rfl) fun bl B=>?_))))
    have N:=M.n B
    refine Dfl (A.up B) O O O (Di O ?_)
    obtain⟨P,Q,Y⟩:=ob Y
    have S:=F.ul N
    refine Mw.p O O (fun _=>R.ix (α:=Commit) S Q O O O) ?_
    obtain⟨x30,c31,_,r32⟩:=(S.at_ Q).cells
    obtain⟨bm,bn,rfl,r34,r36⟩:=Commit.split r32
    refine Mw.q O O (fun _ c=>R.lda (zmh (S.at_ Q).1 O c31 c) O O) (Dfl (aq.up B) O O O (Di O ?_))
    obtain⟨U,V,Y⟩:=ob Y
    have W:=an.ul N
    refine Mw.p O O (fun _=>R.ix (α:=Commit) W V O O O) ?_
    obtain⟨x40,c41,_,r42⟩:=(W.at_ V).cells
    obtain⟨bp,bq,rfl,r44,r46⟩:=Commit.split r42
    refine Mw.q O O (fun _ c=>R.lda (zmh (W.at_ V).1 O c41 c) O O) ?_
    obtain⟨br,a3,Y⟩:=ob Y
    refine Mw.t O O (T.call O (p58 (Commit.rd (K:=[0]) P.Parents P.Who P.Tree r34 r36) (Commit.rd (K:=[0]) U.Parents U.Who U.Tree r44 r46) a3)) ?_
    rintro _ _ ⟨a5,rfl,X,rfl⟩
    have a6:=N.n X
    refine m0 X fun bu=>Mw.p O O (fun _=>R.not O) (Mw.nil (cn Y (fun Y=>?_) fun Y=>?_))
    ·exact sr (Nb O (.ret (rt Y a6)))
    ·exact sk (rg (mi O (Lw.add O (Ni O ((agm) ⟨f,w64 (y+1),a5,O,((z.j B).j X).w,O,Y⟩)))))
   ·refine Cw.exit ?_
    rw[a1]at Y
    refine ssr (Ni O (Cw.block ?_))
    obtain⟨a7,a8,Y⟩:=zc4 Y
    refine Cw.loop 42 59 [4,6] (fun m l w=> ∃ C D Z,CW.w Z=w/\Le [] h Z/\l=[vB C,vI D]/\Vm.zeV x0 x1 a7 m C D=some r) _ ⟨f,0,h,O,Le.refl _ _,O,Y⟩ ?_
    rintro(_ |bv) _ _ σ ⟨C,D,Z,rfl,i,rfl,Y⟩
    ·cases Y
    unfold Vm.zeV at Y
    have aa:=M.n i
    refine ssr (mi O (fl (A.up i) O (Lw.ln x0.Heads (b.ul aa) O (Lw.lt O (nl (cn Y (fun Y=>?_) fun Y=>?_))))))
    ·refine sk (Cw.seq (Cw.block (Cw.seq (Cw.draw [] [(0,0),(1,1),(2,0),(3,0),(4,1),(5,0),(6,1),(7,0),(8,0),(9,1),(10,0)] mixed (by kernel_rfl) fun ba E=>?_))))
     have a:=aa.n E
     refine Dfl ((A.up i).up E) O O O (Di O ?_)
     obtain⟨bw,ac,Y⟩:=ob Y
     refine Mw.p O O (fun _=>R.ix (α:=Head) (b.ul a) ac O O O) ?_
     obtain⟨x71,c72,_,r73⟩:=((b.ul a).at_ ac).cells
     obtain rfl:=Head.split r73
     refine Mw.q O O (fun _ c=>R.lda (zmh ((b.ul a).at_ ac).1 O c72 c) O O) (Dfl ((aq.up i).up E) O O O (Di O ?_))
     obtain⟨bz,ae,Y⟩:=ob Y
     refine Mw.p O O (fun _=>R.ix (α:=Head) (x.ul a) ae O O O) ?_
     obtain⟨x77,c78,_,r79⟩:=((x.ul a).at_ ae).cells
     obtain rfl:=Head.split r79
     refine Mw.q O O (fun _ c=>R.lda (zmh ((x.ul a).at_ ae).1 O c78 c) O O) (Mw.p O O (fun _=>R.hne O O) (Mw.nil (cn Y (fun Y=>?_) fun Y=>?_)))
     ·exact sr (Nb O (.ret (rt Y a)))
     ·exact sk (rg (mi O (Lw.add O (Ni O ((agm) ⟨C,w64 (D+1),ba,O,(i.j E).w,O,Y⟩)))))
    ·refine Cw.exit ?_
     rw[a8]at Y
     exact sr (Nb O (.ret (rt Y aa)))
 ·refine rg (fl I O (Lw.ln x0.Commits (F.ul d) O (fl H O (Lw.ln x1.Commits (an.ul d) O (Lw.ne O (mb O (bs Y (fun k Y=>?_) fun k Y=>?_)))))))
  ·exact psk 7 k O (Pb k O (nl ((ag) ⟨true,G,O,Le.refl _ _,O,Y⟩)))
  ·exact wak 7 k (fl I O (Lw.ln x0.Heads (b.ul d) O (fl H O (Lw.ln x1.Heads (x.ul d) O (Lw.ne O (Pb k O (nl ((ag) ⟨((x0.Heads.length:Int) !=(x1.Heads.length:Int)),G,O,Le.refl _ _,O,Y⟩))))))))
theorem p31 {x0 a b x1 d f r}(h:Rd W K [a,b] x0)(i:Rd W K [d,f] x1)(Y:Vm.zgc x0 x1=some r):Q1 31 [.agg [a,b].toArray, .agg [d,f].toArray] W [] fun W' v=>v=vB r:=
 (c31 (h.view _) (i.view _) Y).ad (fk 0) fun _ _ e=>e
end Go.Sx
