/- Walks: each function answers as its model, printed by a program of ours. Conditions: the arguments read as they are given. -/
import Derived.Test.YtpijdodljeieaaaGreatDoorBTs
import Derived.Test.YtpijdodljeieaaaGreatDoorBM2
namespace Go.Sx
open Go Go.Proofs Go.Vm Rp
set_option linter.unusedVariables false
set_option linter.unusedSimpArgs false
variable {W W0:CW}{K:List Nat}
theorem c127 {x0 a r}(f:Rd W0 [0] [a] x0)(Y:Vm.zfz x0=some r):Q0 127 [a] W0 fun Wf v=> ∃ b,v=b/\OwS Wf LL [] [b] r:=by
 unfold Vm.zfz at Y
 refine zaT.of Tryz.func127 O O O O (sr (Nv (.slice none 0 0) O (sr (Lw.t O (T.lit0 (α:=Str) 2 []) ?_))))
 rintro A _ ⟨B,rfl,h,i⟩
 have d:=h.o
 refine mv a O ?_
 obtain⟨C,k,Y⟩:=ob Y
 refine Lw.t O (T.appP (α:=Str) i (f.ul d) O O k) ?_
 rintro e _ ⟨D,rfl,x,y⟩
 have z:=d.t x
 refine Nv e O ?_
 cases Y
 exact Cw.ret (zmk O (Res.mk z ⟨e,O,y.s.sub O O⟩))
theorem p127 {x0 b k0 r}(d:Rd W K [b] x0)(Y:Vm.zfz x0=some r):Q1 127 [b] W [] fun W' v=> ∃ a,v=a/\Ow W' k0 [] [a] r:=
 (c127 (d.view _) Y).ad (fk k0) fun _ _ ⟨a,e,f⟩=>⟨a,e,f.back (zlS _)⟩
theorem c99 {x0 k r}(x:Rd W0 [0] [k] x0)(Y:Vm.zeh x0=some r):Q0 99 [k] W0 fun Wf v=> ∃ C,v=C/\OwS Wf LL [] [C] r:=by
 unfold Vm.zeh at Y
 refine zaT.of Tryz.func99 O O O O (sr (Nv (.slice none 0 0) O (sr (Nv (.slice none 0 0) O (ssr (mv k O (Lw.ln x0 x O (mi O (nl (Cw.block ?_))))))))))
 obtain⟨N,P,Y⟩:=zc4 Y
 refine Cw.loop 8 21 [3,5,8] (fun m l w=> ∃ y e a D f,CW.w f=w/\Le [2,3,4] W0 f/\l=[a,D,vI e]/\Ow f 2 [] [a] y/\Vm.zb1 x0 N m y e=some r) _ ⟨([]:List File),0, .slice none 0 0,undef,W0,O,Le.refl _ _,O,owN 2 [],Y⟩ ?_
 rintro(_ |m8) _ _ σ ⟨y,e,a,D,f,rfl,E,rfl,F,Y⟩
 ·cases Y
 unfold Vm.zb1 at Y
 have z:=E.s
 refine sr (Lw.lt O (nl (Cw.seq (cn Y (fun Y=>?_) fun Y=>?_))))
 ·refine sk (Cw.seq (Cw.block (sr ?_)))
  obtain⟨b,G,Y⟩:=ob Y
  refine Lw.r O (R.ix (α:=File) (x.ul z) G O O O) ?_
  obtain⟨x14,c15,_,r16⟩:=((x.ul z).at_ G).cells
  obtain⟨ak,rfl,r18⟩:=File.split r16
  refine Lw.r O (R.lda c15 O O) (al 3 [vS ([]:Str), .slice none 0 0] fun Q am A S=>?_)
  have U:=A.o
  refine sta S (zaf O (zaf r18.oc zaW)) fun an B H=>?_
  have V:=U.t B
  refine nl (Cw.draw [2,4] [(0,0),(1,0),(2,1),(3,0),(4,1),(5,2),(6,0),(7,2),(8,2),(9,0)] mixed (by kernel_rfl) fun ao d=>?_)
  have W:=V.n d
  refine Dv a O (Dfl (H.up d) O O O (Dfl (H.up d) O O O (Dc Y (Le.refl _ _) (fun _=>p127 (k0:=4) (r18.ul W)) O ?_)))
  rintro X h ap Y I ⟨_,rfl,K⟩ Z
  refine Mw.p O O (fun _=>R.bd (zs:=[vS ([]:Str), .slice none 0 0]) (cs:=[vS b.Path,h]) [(0,vS b.Path),(1,h)] O O O (zcK O O (zcK K.oc O zg2))) (Mw.t O O (T.bs 5 [.agg [vS b.Path,h].toArray] (cs:=[vS b.Path,h]) O O (bsA O)) ?_)
  rintro _ _ ⟨aq,ar,rfl,rfl,i,aa⟩
  refine mc Z i fun ac=>?_
  obtain⟨ae,af,Y⟩:=ob Y
  refine Mw.t O O (T.app1 (α:=File) (J:=[4]) (K':=[]) (((((F.up A).up B).up d).up I).up i) aa (File.own b.Path X (K.up i).s) O O af) ?_
  rintro L _ ⟨ah,rfl,M,ai⟩
  exact mc ac M fun au=>Hv L O (Mw.nil (rg (Lw.add O (mi O (nl ((agm) ⟨ae,w64 (e+1),L,ptr (bx Q),ah,O,((((((E.j A).j B).j d).j I).j i).j M).w,O,ai,Y⟩))))))
 ·refine Cw.exit ?_
  rw[P]at Y
  refine sr (mv a O (Nv a O ?_))
  cases Y
  exact Cw.ret (zmk O (Res.mk z ⟨a,O,F.s.sub O O⟩))
theorem p99 {x0 b k0 r}(d:Rd W K [b] x0)(Y:Vm.zeh x0=some r):Q1 99 [b] W [] fun W' v=> ∃ a,v=a/\Ow W' k0 [] [a] r:=
 (c99 (d.view _) Y).ad (fk k0) fun _ _ ⟨a,e,f⟩=>⟨a,e,f.back (zlS _)⟩
end Go.Sx
