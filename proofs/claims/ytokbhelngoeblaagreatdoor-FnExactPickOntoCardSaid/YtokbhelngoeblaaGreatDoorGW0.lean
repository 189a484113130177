/- Walks: each function answers as its model, printed by a program of ours. Conditions: the arguments read as they are given. -/
import Derived.Test.YtokbhelngoeblaaGreatDoorGTs
import Derived.Test.YtokbhelngoeblaaGreatDoorGM0
namespace Go.Sx
open Go Go.Proofs Go.Vm Rp
set_option linter.unusedVariables false
set_option linter.unusedSimpArgs false
variable {W W0 : CW} {K : List Nat}
theorem c164 {x0 a x1 r} (b : Rd W0 [0] [a] x0) (hm : Vm.ziQ x0 x1 = some r) : Q0 164 [a, vI x1] W0 fun Wf v => v = vI r := by
 unfold Vm.ziQ at hm
 refine zaj.of Tryz.func164 rfl rfl rfl rfl (sr (Ni rfl (sr (mi rfl (mv a rfl (Lw.ln x0 b rfl (Lw.sub rfl (Ni rfl (ssr (mi rfl (Lw.lt rfl (nl (cn hm (fun hm => ?_) fun hm => ?_)))))))))))))
 ·exact sr (Ni rfl (.ret (rt hm (Le.refl _ _))))
 ·exact sk (sr (mi rfl (Ni rfl (.ret (rt hm (Le.refl _ _))))))
theorem p164 {x0 a x1 r} (b : Rd W K [a] x0) (hm : Vm.ziQ x0 x1 = some r) : Q1 164 [a, vI x1] W [] fun W' v => v = vI r :=
 (c164 (b.view _) hm).ad (fk 0) fun _ _ e => e
theorem c91 {x0 a x1 r} (k : Rd W0 [0] [a] x0) (hm : Vm.zed x0 x1 = some r) : Q0 91 [a, vI x1] W0 fun Wf v => v = vI r := by
 unfold Vm.zed at hm
 refine zaj.of Tryz.func91 rfl rfl rfl rfl (sr (Ni rfl (sr (mi rfl (mv a rfl (Lw.ln x0 k rfl (Lw.sub rfl (Ni rfl (ssr (mi rfl (Lw.lt rfl (nl (cn hm (fun hm => ?_) fun hm => ?_)))))))))))))
 ·exact sr (Ni rfl (.ret (rt hm (Le.refl _ _))))
 ·refine sk (ssr (Ni rfl (Cw.block ?_)))
  obtain ⟨z, A, hm⟩ := zaS hm
  refine Cw.loop 12 26 [1, 4, 5] (fun m l w => ∃ b d e f, CW.w f = w ∧ Le [] W0 f ∧ l = [vI b, vI d, vI e] ∧ Vm.zce x0 z m b d e = some r) _ ⟨w64 (x1 - (x0.length : Int)), 0, 0, W0, rfl, Le.refl _ _, rfl, hm⟩ ?_
  rintro (_ | C) _ _ σ ⟨b, d, e, f, rfl, x, rfl, hm⟩
  ·cases hm
  unfold Vm.zce at hm
  have h := x.o
  refine ssr ?_
  have i := k.ul h
  refine mi rfl (mv a rfl (Lw.ln x0 i rfl (Lw.lt rfl (nl (cn hm (fun hm => ?_) fun hm => ?_)))))
  ·refine sk (Cw.seq (Cw.block (sr (mi rfl (mv a rfl (mi rfl ?_))))))
   obtain ⟨B, y, hm⟩ := ob hm
   refine Lw.r rfl (R.ix (α := Str) i y rfl rfl rfl) (Lw.r rfl (R.ld rfl rfl (i.at_ y).str) (Lw.r rfl (R.lenS rfl) (Lw.sub rfl (Ni rfl (sr (mi rfl (Lw.lt rfl (nl (cn hm (fun hm => ?_) fun hm => ?_)))))))))
   ·exact sr (Ni rfl (.ret (rt hm h)))
   ·exact sk (rg (mi rfl (Lw.add rfl (Ni rfl ((agm) ⟨w64 (b - (B.length : Int)), d, w64 (e + 1), f, rfl, x, rfl, hm⟩)))))
  ·refine Cw.exit ?_
   rw [A] at hm
   exact sr (mi rfl (Ni rfl (.ret (rt hm h))))
theorem p91 {x0 a x1 r} (b : Rd W K [a] x0) (hm : Vm.zed x0 x1 = some r) : Q1 91 [a, vI x1] W [] fun W' v => v = vI r :=
 (c91 (b.view _) hm).ad (fk 0) fun _ _ e => e
theorem c190 {x0 b x1 r} (h : Rd W0 [0] [vS x0.Path, b] x0) (hm : Vm.ziR x0 x1 = some r) : Q0 190 [.agg [vS x0.Path, b].toArray, vI x1] W0 fun Wf v => v = vI r := by
 unfold Vm.ziR at hm
 obtain ⟨y, d, i⟩ := File.split h
 simp only [List.cons.injEq, and_true, true_and] at d
 obtain rfl := d
 refine zaj.of Tryz.func190 rfl rfl rfl rfl (sr (bo 2 rfl fun z A k e => ?_))
 have a := k.o
 refine Ni rfl (sr (mi rfl (fl e rfl (Lw.r rfl (R.lenS rfl) (Lw.sub rfl (Ni rfl (ssr (mi rfl (Lw.lt rfl (nl (cn hm (fun hm => ?_) fun hm => ?_)))))))))))
 ·exact sr (Ni rfl (.ret (rt hm a)))
 ·refine sk (sr (fl e rfl (mi rfl (ca hm (fun _ => p91 (i.ul a)) fun B C hm x => ?_))))
  have f := a.n x
  refine Ni rfl (ssr (mi rfl (Lw.lt rfl (nl (cn hm (fun hm => ?_) fun hm => ?_)))))
  ·exact sr (Ni rfl (.ret (rt hm f)))
  ·exact sk (sr (mi rfl (Ni rfl (.ret (rt hm f)))))
theorem p190 {x0 a x1 r} (b : Rd W K [vS x0.Path, a] x0) (hm : Vm.ziR x0 x1 = some r) : Q1 190 [.agg [vS x0.Path, a].toArray, vI x1] W [] fun W' v => v = vI r :=
 (c190 (b.view _) hm).ad (fk 0) fun _ _ e => e
theorem c165 {x0 a x1 r} (k : Rd W0 [0] [a] x0) (hm : Vm.zhZ x0 x1 = some r) : Q0 165 [a, vI x1] W0 fun Wf v => v = vI r := by
 unfold Vm.zhZ at hm
 refine zaj.of Tryz.func165 rfl rfl rfl rfl (sr (Ni rfl (sr (mi rfl (mv a rfl (Lw.ln x0 k rfl (Lw.sub rfl (Ni rfl (ssr (mi rfl (Lw.lt rfl (nl (cn hm (fun hm => ?_) fun hm => ?_)))))))))))))
 ·exact sr (Ni rfl (.ret (rt hm (Le.refl _ _))))
 ·refine sk (ssr (Ni rfl (Cw.block ?_)))
  obtain ⟨B, C, hm⟩ := zaS hm
  refine Cw.loop 12 25 [1, 4, 5] (fun m l w => ∃ e b d f, CW.w f = w ∧ Le [] W0 f ∧ l = [vI e, vI b, vI d] ∧ Vm.zfc x0 B m e b d = some r) _ ⟨w64 (x1 - (x0.length : Int)), 0, 0, W0, rfl, Le.refl _ _, rfl, hm⟩ ?_
  rintro (_ | G) _ _ σ ⟨e, b, d, f, rfl, x, rfl, hm⟩
  ·cases hm
  unfold Vm.zfc at hm
  have h := x.o
  refine ssr ?_
  have i := k.ul h
  refine mi rfl (mv a rfl (Lw.ln x0 i rfl (Lw.lt rfl (nl (cn hm (fun hm => ?_) fun hm => ?_)))))
  ·refine sk (Cw.seq (Cw.block (sr (mv a rfl (mi rfl ?_)))))
   obtain ⟨y, z, hm⟩ := ob hm
   refine Lw.r rfl (R.ix (α := File) i z rfl rfl rfl) ?_
   obtain ⟨x13, c14, _, r15⟩ := (i.at_ z).cells
   obtain ⟨H, rfl, r17⟩ := File.split r15
   refine Lw.r rfl (R.lda c14 rfl rfl) (mi rfl (ca hm (fun _ => p190 (File.rd (K := [0]) y.Path y.Text r17)) fun D E hm A => ?_))
   have F := h.n A
   refine Ni rfl (sr (mi rfl (Lw.lt rfl (nl (cn hm (fun hm => ?_) fun hm => ?_)))))
   ·exact sr (Ni rfl (.ret (rt hm F)))
   ·exact sk (rg (mi rfl (Lw.add rfl (Ni rfl ((agm) ⟨D, b, w64 (d + 1), E, rfl, (x.j A).w, rfl, hm⟩)))))
  ·refine Cw.exit ?_
   rw [C] at hm
   exact sr (mi rfl (Ni rfl (.ret (rt hm h))))
theorem p165 {x0 a x1 r} (b : Rd W K [a] x0) (hm : Vm.zhZ x0 x1 = some r) : Q1 165 [a, vI x1] W [] fun W' v => v = vI r :=
 (c165 (b.view _) hm).ad (fk 0) fun _ _ e => e
theorem c117 {x0 e f x1 r} (x : Rd W0 [0] [e, vS x0.Who, f] x0) (hm : Vm.zhm x0 x1 = some r) : Q0 117 [.agg [e, vS x0.Who, f].toArray, vI x1] W0 fun Wf v => v = vI r := by
 unfold Vm.zhm at hm
 obtain ⟨C, D, h, y, z⟩ := Commit.split x
 simp only [List.cons.injEq, and_true, true_and] at h
 obtain ⟨rfl, rfl⟩ := h
 refine zaj.of Tryz.func117 rfl rfl rfl rfl (sr (bo 2 rfl fun E F A b => ?_))
 have i := A.o
 refine Ni rfl (sr (fl b rfl (mi rfl (ca hm (fun _ => p164 (y.ul i)) fun G H hm d => ?_))))
 have a := i.n d
 refine Ni rfl (ssr (mi rfl (Lw.lt rfl (nl (cn hm (fun hm => ?_) fun hm => ?_)))))
 ·exact sr (Ni rfl (.ret (rt hm a)))
 ·refine sk (sr (mi rfl (fl (b.up d) rfl (Lw.r rfl (R.lenS rfl) (Lw.sub rfl (Ni rfl (ssr (mi rfl (Lw.lt rfl (nl (cn hm (fun hm => ?_) fun hm => ?_)))))))))))
  ·exact sr (Ni rfl (.ret (rt hm a)))
  ·refine sk (sr (fl (b.up d) rfl (mi rfl (ca hm (fun _ => p165 (z.ul a)) fun I J hm B => ?_))))
   have k := a.n B
   refine Ni rfl (ssr (mi rfl (Lw.lt rfl (nl (cn hm (fun hm => ?_) fun hm => ?_)))))
   ·exact sr (Ni rfl (.ret (rt hm k)))
   ·exact sk (sr (mi rfl (Ni rfl (.ret (rt hm k)))))
theorem p117 {x0 a b x1 r} (d : Rd W K [a, vS x0.Who, b] x0) (hm : Vm.zhm x0 x1 = some r) : Q1 117 [.agg [a, vS x0.Who, b].toArray, vI x1] W [] fun W' v => v = vI r :=
 (c117 (d.view _) hm).ad (fk 0) fun _ _ e => e
theorem c53 {x0 a x1 r} (x : Rd W0 [0] [a] x0) (hm : Vm.zgs x0 x1 = some r) : Q0 53 [a, vI x1] W0 fun Wf v => v = vI r := by
 unfold Vm.zgs at hm
 refine zaj.of Tryz.func53 rfl rfl rfl rfl (sr (Ni rfl (sr (mi rfl (mv a rfl (Lw.ln x0 x rfl (Lw.sub rfl (Ni rfl (ssr (mi rfl (Lw.lt rfl (nl (cn hm (fun hm => ?_) fun hm => ?_)))))))))))))
 ·exact sr (Ni rfl (.ret (rt hm (Le.refl _ _))))
 ·refine sk (ssr (Ni rfl (Cw.block ?_)))
  obtain ⟨B, C, hm⟩ := zaS hm
  refine Cw.loop 12 25 [1, 4, 5] (fun m l w => ∃ e b d f, CW.w f = w ∧ Le [] W0 f ∧ l = [vI e, vI b, vI d] ∧ Vm.zd1 x0 B m e b d = some r) _ ⟨w64 (x1 - (x0.length : Int)), 0, 0, W0, rfl, Le.refl _ _, rfl, hm⟩ ?_
  rintro (_ | G) _ _ σ ⟨e, b, d, f, rfl, y, rfl, hm⟩
  ·cases hm
  unfold Vm.zd1 at hm
  have h := y.o
  refine ssr ?_
  have i := x.ul h
  refine mi rfl (mv a rfl (Lw.ln x0 i rfl (Lw.lt rfl (nl (cn hm (fun hm => ?_) fun hm => ?_)))))
  ·refine sk (Cw.seq (Cw.block (sr (mv a rfl (mi rfl ?_)))))
   obtain ⟨k, z, hm⟩ := ob hm
   refine Lw.r rfl (R.ix (α := Commit) i z rfl rfl rfl) ?_
   obtain ⟨x13, c14, _, r15⟩ := (i.at_ z).cells
   obtain ⟨H, I, rfl, r17, r19⟩ := Commit.split r15
   refine Lw.r rfl (R.lda c14 rfl rfl) (mi rfl (ca hm (fun _ => p117 (Commit.rd (K := [0]) k.Parents k.Who k.Tree r17 r19)) fun D E hm A => ?_))
   have F := h.n A
   refine Ni rfl (sr (mi rfl (Lw.lt rfl (nl (cn hm (fun hm => ?_) fun hm => ?_)))))
   ·exact sr (Ni rfl (.ret (rt hm F)))
   ·exact sk (rg (mi rfl (Lw.add rfl (Ni rfl ((agm) ⟨D, b, w64 (d + 1), E, rfl, (y.j A).w, rfl, hm⟩)))))
  ·refine Cw.exit ?_
   rw [C] at hm
   exact sr (mi rfl (Ni rfl (.ret (rt hm h))))
theorem p53 {x0 a x1 r} (b : Rd W K [a] x0) (hm : Vm.zgs x0 x1 = some r) : Q1 53 [a, vI x1] W [] fun W' v => v = vI r :=
 (c53 (b.view _) hm).ad (fk 0) fun _ _ e => e
theorem c118 {x0 x1 r} (e : Rd W0 [0] [vS x0.Name, vI x0.At] x0) (hm : Vm.ziS x0 x1 = some r) : Q0 118 [.agg [vS x0.Name, vI x0.At].toArray, vI x1] W0 fun Wf v => v = vI r := by
 unfold Vm.ziS at hm
 refine zaj.of Tryz.func118 rfl rfl rfl rfl (sr (bo 2 rfl fun f h b d => ?_))
 have a := b.o
 refine Ni rfl (sr (mi rfl (fl d rfl (Lw.r rfl (R.lenS rfl) (Lw.sub rfl (Ni rfl (ssr (mi rfl (Lw.lt rfl (nl (cn hm (fun hm => ?_) fun hm => ?_)))))))))))
 ·exact sr (Ni rfl (.ret (rt hm a)))
 ·exact sk (sr (mi rfl (Ni rfl (.ret (rt hm a)))))
theorem p118 {x0 x1 r} (a : Rd W K [vS x0.Name, vI x0.At] x0) (hm : Vm.ziS x0 x1 = some r) : Q1 118 [.agg [vS x0.Name, vI x0.At].toArray, vI x1] W [] fun W' v => v = vI r :=
 (c118 (a.view _) hm).ad (fk 0) fun _ _ e => e
theorem c54 {x0 a x1 r} (k : Rd W0 [0] [a] x0) (hm : Vm.zh0 x0 x1 = some r) : Q0 54 [a, vI x1] W0 fun Wf v => v = vI r := by
 unfold Vm.zh0 at hm
 refine zaj.of Tryz.func54 rfl rfl rfl rfl (sr (Ni rfl (sr (mi rfl (mv a rfl (Lw.ln x0 k rfl (Lw.sub rfl (Ni rfl (ssr (mi rfl (Lw.lt rfl (nl (cn hm (fun hm => ?_) fun hm => ?_)))))))))))))
 ·exact sr (Ni rfl (.ret (rt hm (Le.refl _ _))))
 ·refine sk (ssr (Ni rfl (Cw.block ?_)))
  obtain ⟨B, C, hm⟩ := zaS hm
  refine Cw.loop 12 25 [1, 4, 5] (fun m l w => ∃ e b d f, CW.w f = w ∧ Le [] W0 f ∧ l = [vI e, vI b, vI d] ∧ Vm.zfd x0 B m e b d = some r) _ ⟨w64 (x1 - (x0.length : Int)), 0, 0, W0, rfl, Le.refl _ _, rfl, hm⟩ ?_
  rintro (_ | G) _ _ σ ⟨e, b, d, f, rfl, x, rfl, hm⟩
  ·cases hm
  unfold Vm.zfd at hm
  have h := x.o
  refine ssr ?_
  have i := k.ul h
  refine mi rfl (mv a rfl (Lw.ln x0 i rfl (Lw.lt rfl (nl (cn hm (fun hm => ?_) fun hm => ?_)))))
  ·refine sk (Cw.seq (Cw.block (sr (mv a rfl (mi rfl ?_)))))
   obtain ⟨y, z, hm⟩ := ob hm
   refine Lw.r rfl (R.ix (α := Head) i z rfl rfl rfl) ?_
   obtain ⟨x13, c14, _, r15⟩ := (i.at_ z).cells
   obtain rfl := Head.split r15
   refine Lw.r rfl (R.lda c14 rfl rfl) (mi rfl (ca hm (fun _ => p118 (Head.rd (K := [0]) y.Name y.At )) fun D E hm A => ?_))
   have F := h.n A
   refine Ni rfl (sr (mi rfl (Lw.lt rfl (nl (cn hm (fun hm => ?_) fun hm => ?_)))))
   ·exact sr (Ni rfl (.ret (rt hm F)))
   ·exact sk (rg (mi rfl (Lw.add rfl (Ni rfl ((agm) ⟨D, b, w64 (d + 1), E, rfl, (x.j A).w, rfl, hm⟩)))))
  ·refine Cw.exit ?_
   rw [C] at hm
   exact sr (mi rfl (Ni rfl (.ret (rt hm h))))
theorem p54 {x0 a x1 r} (b : Rd W K [a] x0) (hm : Vm.zh0 x0 x1 = some r) : Q1 54 [a, vI x1] W [] fun W' v => v = vI r :=
 (c54 (b.view _) hm).ad (fk 0) fun _ _ e => e
theorem c11 {x0 b d x1 r} (x : Rd W0 [0] [b, d] x0) (hm : Vm.zhS x0 x1 = some r) : Q0 11 [.agg [b, d].toArray, vI x1] W0 fun Wf v => v = vI r := by
 unfold Vm.zhS at hm
 obtain ⟨C, D, e, y, z⟩ := Repo.split x
 simp only [List.cons.injEq, and_true, true_and] at e
 obtain ⟨rfl, rfl⟩ := e
 refine zaj.of Tryz.func11 rfl rfl rfl rfl (sr (bo 2 rfl fun E F A f => ?_))
 have h := A.o
 refine Ni rfl (sr (fl f rfl (mi rfl (ca hm (fun _ => p53 (y.ul h)) fun G H hm i => ?_))))
 have a := h.n i
 refine Ni rfl (ssr (mi rfl (Lw.lt rfl (nl (cn hm (fun hm => ?_) fun hm => ?_)))))
 ·exact sr (Ni rfl (.ret (rt hm a)))
 ·refine sk (sr (fl (f.up i) rfl (mi rfl (ca hm (fun _ => p54 (z.ul a)) fun I J hm B => ?_))))
  have k := a.n B
  refine Ni rfl (ssr (mi rfl (Lw.lt rfl (nl (cn hm (fun hm => ?_) fun hm => ?_)))))
  ·exact sr (Ni rfl (.ret (rt hm k)))
  ·exact sk (sr (mi rfl (Ni rfl (.ret (rt hm k)))))
theorem p11 {x0 a b x1 r} (d : Rd W K [a, b] x0) (hm : Vm.zhS x0 x1 = some r) : Q1 11 [.agg [a, b].toArray, vI x1] W [] fun W' v => v = vI r :=
 (c11 (d.view _) hm).ad (fk 0) fun _ _ e => e
theorem c168 {x0 b r} (d : Rd W0 [0] [b] x0) (hm : Vm.ziT x0 = some r) : Q0 168 [b] W0 fun Wf v => ∃ x, v = x ∧ OwS Wf LL [] [x] r := by
 unfold Vm.ziT at hm
 refine zaj.of Tryz.func168 rfl rfl rfl rfl (sr (Nv (.slice none 0 0) rfl (sr (mv b rfl (Lw.ln x0 d rfl ?_)))))
 obtain ⟨B, C, hm⟩ := ob hm
 refine Lw.t rfl (T.mk (α := Int) 2 [] (n := (x0.length : Int)) rfl rfl C) ?_
 rintro a _ ⟨y, rfl, D, E⟩
 have F := D.o
 refine Nv a rfl (ssr (Ni rfl (Cw.block ?_)))
 obtain ⟨G, H, hm⟩ := zaS hm
 refine Cw.loop 8 20 [4] (fun m l w => ∃ e i f, CW.w f = w ∧ Le [2] y f ∧ l = [vI e] ∧ Ow f 2 [] [a] i ∧ Vm.zfE x0 G m e i = some r) _ ⟨0, B, y, rfl, Le.refl _ _, rfl, E, hm⟩ ?_
 rintro (_ | O) _ _ σ ⟨e, i, f, rfl, z, rfl, k, hm⟩
 ·cases hm
 unfold Vm.zfE at hm
 have h := F.t z
 refine ssr (mi rfl (mv b rfl (Lw.ln x0 (d.ul h) rfl (Lw.lt rfl (nl (cn hm (fun hm => ?_) fun hm => ?_))))))
 ·refine sk (Cw.seq (Cw.block (rg (mv a rfl (mi rfl (mv b rfl (mi rfl ?_)))))))
  obtain ⟨P, A, hm⟩ := ob hm
  refine Lw.r rfl (R.ix (α := Int) (d.ul h) A rfl rfl rfl) (Lw.r rfl (R.ld rfl rfl ((d.ul h).at_ A).int) ?_)
  obtain ⟨Q, I, hm⟩ := ob hm
  refine Lw.r rfl (R.ix (α := Int) k.rd I rfl rfl rfl) ?_
  obtain ⟨J, K, hm⟩ := ob hm
  refine Lw.u (T.stS (K' := []) k (rdI _) K rfl rfl rfl) ?_
  rintro _ _ ⟨L, rfl, M, N⟩
  exact nl (rg (mi rfl (Lw.add rfl (Ni rfl ((agm) ⟨w64 (e + 1), J, L, rfl, (z.j M).w, rfl, N, hm⟩)))))
 ·refine Cw.exit ?_
  rw [H] at hm
  refine sr (mv a rfl (Nv a rfl ?_))
  cases hm
  exact Cw.ret (zhB rfl (Res.mk h ⟨a, rfl, k.s.sub rfl rfl⟩))
theorem p168 {x0 b k0 r} (d : Rd W K [b] x0) (hm : Vm.ziT x0 = some r) : Q1 168 [b] W [] fun W' v => ∃ a, v = a ∧ Ow W' k0 [] [a] r :=
 (c168 (d.view _) hm).ad (fk k0) fun _ _ ⟨a, e, f⟩ => ⟨a, e, f.back (zfR _)⟩
theorem c96 {x0 b r} (d : Rd W0 [0] [b] x0) (hm : Vm.zee x0 = some r) : Q0 96 [b] W0 fun Wf v => ∃ x, v = x ∧ OwS Wf LL [] [x] r := by
 unfold Vm.zee at hm
 refine zaj.of Tryz.func96 rfl rfl rfl rfl (sr (Nv (.slice none 0 0) rfl (sr (mv b rfl (Lw.ln x0 d rfl ?_)))))
 obtain ⟨B, C, hm⟩ := ob hm
 refine Lw.t rfl (T.mk (α := Str) 2 [] (n := (x0.length : Int)) rfl rfl C) ?_
 rintro a _ ⟨y, rfl, D, E⟩
 have F := D.o
 refine Nv a rfl (ssr (Ni rfl (Cw.block ?_)))
 obtain ⟨G, H, hm⟩ := zaS hm
 refine Cw.loop 8 20 [4] (fun m l w => ∃ e i f, CW.w f = w ∧ Le [2] y f ∧ l = [vI e] ∧ Ow f 2 [] [a] i ∧ Vm.zcf x0 G m e i = some r) _ ⟨0, B, y, rfl, Le.refl _ _, rfl, E, hm⟩ ?_
 rintro (_ | O) _ _ σ ⟨e, i, f, rfl, z, rfl, k, hm⟩
 ·cases hm
 unfold Vm.zcf at hm
 have h := F.t z
 refine ssr (mi rfl (mv b rfl (Lw.ln x0 (d.ul h) rfl (Lw.lt rfl (nl (cn hm (fun hm => ?_) fun hm => ?_))))))
 ·refine sk (Cw.seq (Cw.block (rg (mv a rfl (mi rfl (mv b rfl (mi rfl ?_)))))))
  obtain ⟨P, A, hm⟩ := ob hm
  refine Lw.r rfl (R.ix (α := Str) (d.ul h) A rfl rfl rfl) (Lw.r rfl (R.ld rfl rfl ((d.ul h).at_ A).str) ?_)
  obtain ⟨Q, I, hm⟩ := ob hm
  refine Lw.r rfl (R.ix (α := Str) k.rd I rfl rfl rfl) ?_
  obtain ⟨J, K, hm⟩ := ob hm
  refine Lw.u (T.stS (K' := []) k (rdS _) K rfl rfl rfl) ?_
  rintro _ _ ⟨L, rfl, M, N⟩
  exact nl (rg (mi rfl (Lw.add rfl (Ni rfl ((agm) ⟨w64 (e + 1), J, L, rfl, (z.j M).w, rfl, N, hm⟩)))))
 ·refine Cw.exit ?_
  rw [H] at hm
  refine sr (mv a rfl (Nv a rfl ?_))
  cases hm
  exact Cw.ret (zhB rfl (Res.mk h ⟨a, rfl, k.s.sub rfl rfl⟩))
theorem p96 {x0 b k0 r} (d : Rd W K [b] x0) (hm : Vm.zee x0 = some r) : Q1 96 [b] W [] fun W' v => ∃ a, v = a ∧ Ow W' k0 [] [a] r :=
 (c96 (d.view _) hm).ad (fk k0) fun _ _ ⟨a, e, f⟩ => ⟨a, e, f.back (zfR _)⟩
theorem c192 {x0 f r} (B : Rd W0 [0] [vS x0.Path, f] x0) (hm : Vm.ziU x0 = some r) : Q0 192 [.agg [vS x0.Path, f].toArray] W0 fun Wf v => ∃ h, v = .agg [vS r.Path, h].toArray ∧ OwS Wf LL [] [h] r.Text := by
 unfold Vm.ziU at hm
 obtain ⟨Q, i, C⟩ := File.split B
 simp only [List.cons.injEq, and_true, true_and] at i
 obtain rfl := i
 refine zaj.of Tryz.func192 rfl rfl rfl rfl (sr (bo 2 rfl fun R S D E => ?_))
 have F := D.o
 refine al 3 [vS ([] : Str), .slice none 0 0] fun U V k G => ?_
 have H := F.n k
 refine nl (sr (al 4 [vS ([] : Str), .slice none 0 0] fun W X b I => ?_))
 have J := H.n b
 have x := (E.up k).up b
 refine nl (sr (fl x rfl (Lw.fa rfl (Lw.u (T.st (j := 0) (v := vS x0.Path) I rfl rfl rfl rfl rfl) ?_))))
 rintro _ _ ⟨Y, rfl, l10, K⟩
 have y := J.t l10
 refine nl (sr (fl (x.up l10) rfl (cr hm (fun _ => p96 (k0 := 5) (C.ul y)) ?_)))
 rintro Z z aa hm d ⟨_, rfl, e⟩
 have L := y.n d
 refine Lw.fa rfl (Lw.u (T.st (j := 1) (v := z) (K.up d) rfl rfl e.oc rfl rfl) ?_)
 rintro _ _ ⟨ac, rfl, a, M⟩
 have N := L.t a
 refine nl (sr (la M (sta ((((G.up b).up l10).up d).up a) (zaa rfl (zaa (e.up a).oc zaR)) fun ae A O => ?_)))
 have P := N.t A
 refine nl ?_
 cases hm
 exact Cw.ret (zlH rfl O (Res.mk P ⟨z, rfl, ((e.up a).up A).s.sub rfl rfl⟩))
theorem p192 {x0 b k0 r} (d : Rd W K [vS x0.Path, b] x0) (hm : Vm.ziU x0 = some r) : Q1 192 [.agg [vS x0.Path, b].toArray] W [] fun W' v => ∃ a, v = .agg [vS r.Path, a].toArray ∧ Ow W' k0 [] [a] r.Text :=
 (c192 (d.view _) hm).ad (fk k0) fun _ _ ⟨a, e, f⟩ => ⟨a, e, f.back (zfR _)⟩
theorem c169 {x0 b r} (d : Rd W0 [0] [b] x0) (hm : Vm.zh1 x0 = some r) : Q0 169 [b] W0 fun Wf v => ∃ y, v = y ∧ OwS Wf LL [] [y] r := by
 unfold Vm.zh1 at hm
 refine zaj.of Tryz.func169 rfl rfl rfl rfl (sr (Nv (.slice none 0 0) rfl (sr (mv b rfl (Lw.ln x0 d rfl ?_)))))
 obtain ⟨E, F, hm⟩ := ob hm
 refine Lw.t rfl (T.mk (α := File) 2 [] (n := (x0.length : Int)) rfl rfl F) ?_
 rintro a _ ⟨z, rfl, G, H⟩
 have I := G.o
 refine Nv a rfl (ssr (Ni rfl (Cw.block ?_)))
 obtain ⟨L, M, hm⟩ := zaS hm
 refine Cw.loop 8 21 [4] (fun m l w => ∃ e i f, CW.w f = w ∧ Le [2, 3] z f ∧ l = [vI e] ∧ Ow f 2 [] [a] i ∧ Vm.zfe x0 L m e i = some r) _ ⟨0, E, z, rfl, Le.refl _ _, rfl, H, hm⟩ ?_
 rintro (_ | W) _ _ σ ⟨e, i, f, rfl, A, rfl, k, hm⟩
 ·cases hm
 unfold Vm.zfe at hm
 have h := I.t A
 refine ssr (mi rfl (mv b rfl (Lw.ln x0 (d.ul h) rfl (Lw.lt rfl (nl (cn hm (fun hm => ?_) fun hm => ?_))))))
 ·refine sk (Cw.seq (Cw.block (rg (mv a rfl (mi rfl (mv b rfl (mi rfl ?_)))))))
  obtain ⟨B, C, hm⟩ := ob hm
  refine Lw.r rfl (R.ix (α := File) (d.ul h) C rfl rfl rfl) ?_
  obtain ⟨x16, c17, _, r18⟩ := ((d.ul h).at_ C).cells
  obtain ⟨X, rfl, r20⟩ := File.split r18
  refine Lw.r rfl (R.lda c17 rfl rfl) (cr hm (fun _ => p192 (k0 := 3) (File.rd (K := [0]) B.Path B.Text r20)) ?_)
  rintro D _ Y hm x ⟨Z, rfl, N⟩
  obtain ⟨aa, O, hm⟩ := ob hm
  refine Lw.r rfl (R.ix (α := File) (k.up x).rd O rfl rfl rfl) ?_
  obtain ⟨P, Q, hm⟩ := ob hm
  refine Lw.u (T.stO (J := [3]) (k.up x) (File.own D.Path D.Text N.s) Q rfl rfl rfl) ?_
  rintro _ _ ⟨S, rfl, U, V⟩
  exact nl (rg (mi rfl (Lw.add rfl (Ni rfl ((agm) ⟨w64 (e + 1), P, S, rfl, ((A.j x).j U).w, rfl, V, hm⟩)))))
 ·refine Cw.exit ?_
  rw [M] at hm
  refine sr (mv a rfl (Nv a rfl ?_))
  cases hm
  exact Cw.ret (zhB rfl (Res.mk h ⟨a, rfl, k.s.sub rfl rfl⟩))
theorem p169 {x0 b k0 r} (d : Rd W K [b] x0) (hm : Vm.zh1 x0 = some r) : Q1 169 [b] W [] fun W' v => ∃ a, v = a ∧ Ow W' k0 [] [a] r :=
 (c169 (d.view _) hm).ad (fk k0) fun _ _ ⟨a, e, f⟩ => ⟨a, e, f.back (zfR _)⟩
theorem c124 {x0 z A r} (N : Rd W0 [0] [z, vS x0.Who, A] x0) (hm : Vm.zhn x0 = some r) : Q0 124 [.agg [z, vS x0.Who, A].toArray] W0 fun Wf v => ∃ B C, v = .agg [B, vS r.Who, C].toArray ∧ OwS Wf [31] [] [B] r.Parents ∧ OwS Wf [32] [] [C] r.Tree := by
 unfold Vm.zhn at hm
 obtain ⟨aq, ar, D, O, P⟩ := Commit.split N
 simp only [List.cons.injEq, and_true, true_and] at D
 obtain ⟨rfl, rfl⟩ := D
 refine zaj.of Tryz.func124 rfl rfl rfl rfl (sr (bo 2 rfl fun g1 W1 Q R => ?_))
 have S := Q.o
 refine al 3 [.slice none 0 0, vS ([] : Str), .slice none 0 0] fun g3 W3 E U => ?_
 have V := S.n E
 refine nl (sr (al 4 [.slice none 0 0, vS ([] : Str), .slice none 0 0] fun g6 W6 h W => ?_))
 have F := V.n h
 have G := (R.up E).up h
 refine nl (sr (fl G rfl (cr hm (fun _ => p168 (k0 := 5) (O.ul F)) ?_)))
 rintro a0 H a1 hm b ⟨_, rfl, I⟩
 have X := F.n b
 refine Lw.fa rfl (Lw.u (T.st (j := 0) (v := H) (W.up b) rfl rfl I.oc rfl rfl) ?_)
 rintro _ _ ⟨a3, rfl, d, Y⟩
 have Z := X.t d
 have J := (G.up b).up d
 refine nl (sr (fl J rfl (Lw.fa rfl (Lw.u (T.st (j := 1) (v := vS x0.Who) Y rfl rfl rfl rfl rfl) ?_))))
 rintro _ _ ⟨a5, rfl, e, aa⟩
 have K := Z.t e
 refine nl (sr (fl (J.up e) rfl (cr hm (fun _ => p169 (k0 := 6) (P.ul K)) ?_)))
 rintro a6 L a8 hm f ⟨_, rfl, i⟩
 have ac := K.n f
 refine Lw.fa rfl (Lw.u (T.st (j := 2) (v := L) (aa.up f) rfl rfl i.oc rfl rfl) ?_)
 rintro _ _ ⟨a9, rfl, a, ae⟩
 have af := ac.t a
 have M := (((I.up d).up e).up f).up a
 refine nl (sr (la ae (sta ((((((U.up h).up b).up d).up e).up f).up a) (zaa M.oc (zaa rfl (zaa (i.up a).oc zaR))) fun ba k ah => ?_)))
 have ai := af.t k
 refine nl ?_
 obtain ⟨bb, aj, x, ak⟩ := (M.up k).dyeO 31
 have am := ai.t x
 obtain ⟨bc, an, y, ao⟩ := (((i.up a).up k).up x).dyeO 32
 have ap := am.t y
 cases hm
 rw [← an.trans (aj)]
 exact Cw.ret (zlH rfl ((ah.up x).up y) (Res.mk ap ⟨H, L, rfl, (ak.up y).s, ao.s⟩))
theorem p124 {x0 d f k0 k1 r} (h : Rd W K [d, vS x0.Who, f] x0) (hm : Vm.zhn x0 = some r) : Q1 124 [.agg [d, vS x0.Who, f].toArray] W [] fun W' v => ∃ a b, v = .agg [a, vS r.Who, b].toArray ∧ Ow W' k0 [] [a] r.Parents ∧ Ow W' k1 [] [b] r.Tree :=
 zaj.adJ (J := []) (fun c => bif Nat.beq c 0 then 0 else bif Nat.beq c 31 then k0 else bif Nat.beq c 32 then k1 else 0) (c124 (h.view _) hm) fun _ _ ⟨a, b, e, i, k⟩ => ⟨a, b, e, i.one1.backN rfl, k.one1.backN rfl⟩
theorem c63 {x0 b r} (d : Rd W0 [0] [b] x0) (hm : Vm.zgt x0 = some r) : Q0 63 [b] W0 fun Wf v => ∃ A, v = A ∧ OwS Wf LL [] [A] r := by
 unfold Vm.zgt at hm
 refine zaj.of Tryz.func63 rfl rfl rfl rfl (sr (Nv (.slice none 0 0) rfl (sr (mv b rfl (Lw.ln x0 d rfl ?_)))))
 obtain ⟨E, F, hm⟩ := ob hm
 refine Lw.t rfl (T.mk (α := Commit) 2 [] (n := (x0.length : Int)) rfl rfl F) ?_
 rintro a _ ⟨B, rfl, G, H⟩
 have I := G.o
 refine Nv a rfl (ssr (Ni rfl (Cw.block ?_)))
 obtain ⟨L, M, hm⟩ := zaS hm
 refine Cw.loop 8 21 [4] (fun m l w => ∃ e i f, CW.w f = w ∧ Le [2, 3, 4] B f ∧ l = [vI e] ∧ Ow f 2 [] [a] i ∧ Vm.zd2 x0 L m e i = some r) _ ⟨0, E, B, rfl, Le.refl _ _, rfl, H, hm⟩ ?_
 rintro (_ | X) _ _ σ ⟨e, i, f, rfl, C, rfl, k, hm⟩
 ·cases hm
 unfold Vm.zd2 at hm
 have h := I.t C
 refine ssr (mi rfl (mv b rfl (Lw.ln x0 (d.ul h) rfl (Lw.lt rfl (nl (cn hm (fun hm => ?_) fun hm => ?_))))))
 ·refine sk (Cw.seq (Cw.block (rg (mv a rfl (mi rfl (mv b rfl (mi rfl ?_)))))))
  obtain ⟨x, D, hm⟩ := ob hm
  refine Lw.r rfl (R.ix (α := Commit) (d.ul h) D rfl rfl rfl) ?_
  obtain ⟨x16, c17, _, r18⟩ := ((d.ul h).at_ D).cells
  obtain ⟨Y, Z, rfl, r20, r22⟩ := Commit.split r18
  refine Lw.r rfl (R.lda c17 rfl rfl) (cr hm (fun _ => p124 (k0 := 3) (k1 := 4) (Commit.rd (K := [0]) x.Parents x.Who x.Tree r20 r22)) ?_)
  rintro y _ aa hm z ⟨ac, ae, rfl, N, O⟩
  obtain ⟨af, P, hm⟩ := ob hm
  refine Lw.r rfl (R.ix (α := Commit) (k.up z).rd P rfl rfl rfl) ?_
  obtain ⟨Q, S, hm⟩ := ob hm
  refine Lw.u (T.stO (J := [3, 4]) (k.up z) (Commit.own y.Parents y.Who y.Tree N.s O.s) S rfl rfl rfl) ?_
  rintro _ _ ⟨U, rfl, V, W⟩
  exact nl (rg (mi rfl (Lw.add rfl (Ni rfl ((agm) ⟨w64 (e + 1), Q, U, rfl, ((C.j z).j V).w, rfl, W, hm⟩)))))
 ·refine Cw.exit ?_
  rw [M] at hm
  refine sr (mv a rfl (Nv a rfl ?_))
  cases hm
  exact Cw.ret (zhB rfl (Res.mk h ⟨a, rfl, k.s.sub rfl rfl⟩))
theorem p63 {x0 b k0 r} (d : Rd W K [b] x0) (hm : Vm.zgt x0 = some r) : Q1 63 [b] W [] fun W' v => ∃ a, v = a ∧ Ow W' k0 [] [a] r :=
 (c63 (d.view _) hm).ad (fk k0) fun _ _ ⟨a, e, f⟩ => ⟨a, e, f.back (zfR _)⟩
theorem c125 {x0 r} (H : Rd W0 [0] [vS x0.Name, vI x0.At] x0) (hm : Vm.ziV x0 = some r) : Q0 125 [.agg [vS x0.Name, vI x0.At].toArray] W0 fun Wf v => v = .agg [vS r.Name, vI r.At].toArray := by
 unfold Vm.ziV at hm
 refine zaj.of Tryz.func125 rfl rfl rfl rfl (sr (bo 2 rfl fun I J f h => ?_))
 have i := f.o
 refine al 3 [vS ([] : Str), vI 0] fun K L b k => ?_
 have x := i.n b
 refine nl (sr (al 4 [vS ([] : Str), vI 0] fun M N a y => ?_))
 have z := x.n a
 have d := (h.up b).up a
 refine nl (sr (fl d rfl (Lw.fa rfl (Lw.u (T.st (j := 0) (v := vS x0.Name) y rfl rfl rfl rfl rfl) ?_))))
 rintro _ _ ⟨O, rfl, l10, A⟩
 have B := z.t l10
 refine nl (sr (fl (d.up l10) rfl (Lw.fa rfl (Lw.u (T.st (j := 1) (v := vI x0.At) A rfl rfl rfl rfl rfl) ?_))))
 rintro _ _ ⟨P, rfl, e, C⟩
 have D := B.t e
 refine nl (sr (la C (sta (((k.up a).up l10).up e) (zaa rfl (zaa rfl zaR)) fun Q E F => ?_)))
 have G := D.t E
 refine nl ?_
 cases hm
 exact Cw.ret (zlH rfl F (Res.mk G rfl))
theorem p125 {x0 r} (a : Rd W K [vS x0.Name, vI x0.At] x0) (hm : Vm.ziV x0 = some r) : Q1 125 [.agg [vS x0.Name, vI x0.At].toArray] W [] fun W' v => v = .agg [vS r.Name, vI r.At].toArray :=
 (c125 (a.view _) hm).ad (fk 0) fun _ _ e => e
theorem c64 {x0 b r} (d : Rd W0 [0] [b] x0) (hm : Vm.zh2 x0 = some r) : Q0 64 [b] W0 fun Wf v => ∃ y, v = y ∧ OwS Wf LL [] [y] r := by
 unfold Vm.zh2 at hm
 refine zaj.of Tryz.func64 rfl rfl rfl rfl (sr (Nv (.slice none 0 0) rfl (sr (mv b rfl (Lw.ln x0 d rfl ?_)))))
 obtain ⟨E, F, hm⟩ := ob hm
 refine Lw.t rfl (T.mk (α := Head) 2 [] (n := (x0.length : Int)) rfl rfl F) ?_
 rintro a _ ⟨z, rfl, G, H⟩
 have I := G.o
 refine Nv a rfl (ssr (Ni rfl (Cw.block ?_)))
 obtain ⟨J, L, hm⟩ := zaS hm
 refine Cw.loop 8 21 [4] (fun m l w => ∃ e i f, CW.w f = w ∧ Le [2] z f ∧ l = [vI e] ∧ Ow f 2 [] [a] i ∧ Vm.zff x0 J m e i = some r) _ ⟨0, E, z, rfl, Le.refl _ _, rfl, H, hm⟩ ?_
 rintro (_ | U) _ _ σ ⟨e, i, f, rfl, A, rfl, k, hm⟩
 ·cases hm
 unfold Vm.zff at hm
 have h := I.t A
 refine ssr (mi rfl (mv b rfl (Lw.ln x0 (d.ul h) rfl (Lw.lt rfl (nl (cn hm (fun hm => ?_) fun hm => ?_))))))
 ·refine sk (Cw.seq (Cw.block (rg (mv a rfl (mi rfl (mv b rfl (mi rfl ?_)))))))
  obtain ⟨B, C, hm⟩ := ob hm
  refine Lw.r rfl (R.ix (α := Head) (d.ul h) C rfl rfl rfl) ?_
  obtain ⟨x16, c17, _, r18⟩ := ((d.ul h).at_ C).cells
  obtain rfl := Head.split r18
  refine Lw.r rfl (R.lda c17 rfl rfl) (ca hm (fun _ => p125 (Head.rd (K := [0]) B.Name B.At )) fun D V hm x => ?_)
  obtain ⟨W, M, hm⟩ := ob hm
  refine Lw.r rfl (R.ix (α := Head) (k.up x).rd M rfl rfl rfl) ?_
  obtain ⟨N, O, hm⟩ := ob hm
  refine Lw.u (T.stS (K' := []) (k.up x) (Head.rd (K := []) D.Name D.At) O rfl rfl rfl) ?_
  rintro _ _ ⟨P, rfl, Q, S⟩
  exact nl (rg (mi rfl (Lw.add rfl (Ni rfl ((agm) ⟨w64 (e + 1), N, P, rfl, ((A.j x).j Q).w, rfl, S, hm⟩)))))
 ·refine Cw.exit ?_
  rw [L] at hm
  refine sr (mv a rfl (Nv a rfl ?_))
  cases hm
  exact Cw.ret (zhB rfl (Res.mk h ⟨a, rfl, k.s.sub rfl rfl⟩))
theorem p64 {x0 b k0 r} (d : Rd W K [b] x0) (hm : Vm.zh2 x0 = some r) : Q1 64 [b] W [] fun W' v => ∃ a, v = a ∧ Ow W' k0 [] [a] r :=
 (c64 (d.view _) hm).ad (fk k0) fun _ _ ⟨a, e, f⟩ => ⟨a, e, f.back (zfR _)⟩
theorem c13 {x0 y z r} (L : Rd W0 [0] [y, z] x0) (hm : Vm.zd3 x0 = some r) : Q0 13 [.agg [y, z].toArray] W0 fun Wf v => ∃ A B, v = .agg [A, B].toArray ∧ OwS Wf [31] [] [A] r.Commits ∧ OwS Wf [32] [] [B] r.Heads := by
 unfold Vm.zd3 at hm
 obtain ⟨am, an, C, M, N⟩ := Repo.split L
 simp only [List.cons.injEq, and_true, true_and] at C
 obtain ⟨rfl, rfl⟩ := C
 refine zaj.of Tryz.func13 rfl rfl rfl rfl (sr (bo 2 rfl fun g1 W1 O P => ?_))
 have Q := O.o
 refine al 3 [.slice none 0 0, .slice none 0 0] fun g3 W3 D R => ?_
 have S := Q.n D
 refine nl (sr (al 4 [.slice none 0 0, .slice none 0 0] fun g6 W6 f U => ?_))
 have E := S.n f
 have F := (P.up D).up f
 refine nl (sr (fl F rfl (cr hm (fun _ => p63 (k0 := 5) (M.ul E)) ?_)))
 rintro aw G ax hm b ⟨_, rfl, H⟩
 have V := E.n b
 refine Lw.fa rfl (Lw.u (T.st (j := 0) (v := G) (U.up b) rfl rfl H.oc rfl rfl) ?_)
 rintro _ _ ⟨ay, rfl, d, W⟩
 have I := V.t d
 refine nl (sr (fl ((F.up b).up d) rfl (cr hm (fun _ => p64 (k0 := 6) (N.ul I)) ?_)))
 rintro az J a0 hm e ⟨_, rfl, h⟩
 have X := I.n e
 refine Lw.fa rfl (Lw.u (T.st (j := 1) (v := J) (W.up e) rfl rfl h.oc rfl rfl) ?_)
 rintro _ _ ⟨a1, rfl, a, Y⟩
 have Z := X.t a
 have K := ((H.up d).up e).up a
 refine nl (sr (la Y (sta (((((R.up f).up b).up d).up e).up a) (zaa K.oc (zaa (h.up a).oc zaR)) fun a3 i aa => ?_)))
 have ac := Z.t i
 refine nl ?_
 obtain ⟨a5, ae, k, af⟩ := (K.up i).dyeO 31
 have ah := ac.t k
 obtain ⟨a6, ai, x, aj⟩ := (((h.up a).up i).up k).dyeO 32
 have ak := ah.t x
 cases hm
 rw [← ai.trans (ae)]
 exact Cw.ret (zlH rfl ((aa.up k).up x) (Res.mk ak ⟨G, J, rfl, (af.up x).s, aj.s⟩))
theorem p13 {x0 d f k0 k1 r} (h : Rd W K [d, f] x0) (hm : Vm.zd3 x0 = some r) : Q1 13 [.agg [d, f].toArray] W [] fun W' v => ∃ a b, v = .agg [a, b].toArray ∧ Ow W' k0 [] [a] r.Commits ∧ Ow W' k1 [] [b] r.Heads :=
 zaj.adJ (J := []) (fun c => bif Nat.beq c 0 then 0 else bif Nat.beq c 31 then k0 else bif Nat.beq c 32 then k1 else 0) (c13 (h.view _) hm) fun _ _ ⟨a, b, e, i, k⟩ => ⟨a, b, e, i.one1.backN rfl, k.one1.backN rfl⟩
theorem c57 {x0 x1 x2 r} (hm : Vm.zeP x0 x1 x2 = some r) : Q0 57 [vI x0, vI x1, vI x2] W0 fun Wf v => v = vB r := by
 unfold Vm.zeP at hm
 refine zaj.of Tryz.func57 rfl rfl rfl rfl (sr (Nb rfl ?_))
 obtain ⟨e, f, hm⟩ := zaS hm
 refine Cw.join 7 14 [6] (fun l w => ∃ b d, CW.w d = w ∧ Le [] W0 d ∧ l = [vB b] ∧ e b = some r) ?_ ?_
 ·rintro _ _ σ ⟨b, d, rfl, h, rfl, hm⟩
  rw [f] at hm
  have i := h.o
  exact .ret (rt hm i)
 ·refine rg (mi rfl (mi rfl (Lw.ge rfl (mb rfl (bs hm (fun a hm => ?_) fun a hm => ?_)))))
  ·exact wak 3 a (mi rfl (mi rfl (Lw.le rfl (Pb a rfl (Nb rfl ((ag) ⟨decide ((x0 : Int) ≤ (x2 : Int)), W0, rfl, Le.refl _ _, rfl, hm⟩))))))
  ·exact psk 3 a rfl (Pb a rfl (Nb rfl ((ag) ⟨false, W0, rfl, Le.refl _ _, rfl, hm⟩)))
theorem p57 {x0 x1 x2 r} (hm : Vm.zeP x0 x1 x2 = some r) : Q1 57 [vI x0, vI x1, vI x2] W [] fun W' v => v = vB r :=
 (c57 (W0 := W.view [] [])  hm).ad (fk 0) fun _ _ e => e
theorem c113 {x0 r} (hm : Vm.zcH x0 = some r) : Q0 113 [vS x0] W0 fun Wf v => v = vB r := by
 unfold Vm.zcH at hm
 refine zaj.of Tryz.func113 rfl rfl rfl rfl (sr (Nb rfl (ssr (Ni rfl (Cw.block ?_)))))
 obtain ⟨B, C, hm⟩ := zaS hm
 refine Cw.loop 4 31 [2, 3] (fun m l w => ∃ h i a, CW.w a = w ∧ Le [] W0 a ∧ l = [vB h, vI i] ∧ Vm.zcg x0 B m h i = some r) _ ⟨false, 0, W0, rfl, Le.refl _ _, rfl, hm⟩ ?_
 rintro (_ | Q) _ _ σ ⟨h, i, a, rfl, y, rfl, hm⟩
 ·cases hm
 unfold Vm.zcg at hm
 have z := y.o
 refine ssr (mi rfl (ms rfl (Lw.r rfl (R.lenS rfl) (Lw.lt rfl (nl (cn hm (fun hm => ?_) fun hm => ?_))))))
 ·refine sk (Cw.seq (Cw.block ?_))
  obtain ⟨D, E, hm⟩ := zaS hm
  refine Cw.join 10 31 [31] (fun l w => ∃ x k, CW.w k = w ∧ Le [] a k ∧ l = [vB x] ∧ D x = some r) ?_ ?_
  ·rintro _ _ σ ⟨x, k, rfl, A, rfl, hm⟩
   rw [E] at hm
   have F := z.n A
   refine cn hm (fun hm => ?_) fun hm => ?_
   ·exact sr (Nb rfl (.ret (rt hm F)))
   ·exact sk (rg (mi rfl (Lw.add rfl (Ni rfl ((agm) ⟨h, w64 (i + 1), k, rfl, (y.j A).w, rfl, hm⟩)))))
  ·refine rg (ms rfl (mi rfl ?_))
   obtain ⟨S, G, hm⟩ := ob hm
   refine Lw.r rfl (R.chm G rfl rfl) (Lw.lt rfl (mb rfl (bs hm (fun d hm => ?_) fun d hm => ?_)))
   ·refine psk 4 d rfl (Pb d rfl (mb rfl (wak 5 rfl (ms rfl (mi rfl ?_)))))
    obtain ⟨T, H, hm⟩ := ob hm
    refine Lw.r rfl (R.chm H rfl rfl) (Lw.lt rfl (mb rfl (bs hm (fun e hm => ?_) fun e hm => ?_)))
    ·exact psk 4 e rfl (wak 1 rfl (Pb e rfl (Pb rfl rfl (nl ((ag) ⟨true, a, rfl, Le.refl _ _, rfl, hm⟩)))))
    ·refine wak 4 e (ms rfl (mi rfl ?_))
     obtain ⟨I, J, hm⟩ := ob hm
     exact Lw.r rfl (R.chm J rfl rfl) (Lw.gt rfl (wak 1 rfl (Pb e rfl (Pb rfl rfl (nl ((ag) ⟨decide ((57 : Int) < ((UInt8.toNat I : Int) : Int)), a, rfl, Le.refl _ _, rfl, hm⟩))))))
   ·refine wak 4 d (ms rfl (mi rfl ?_))
    obtain ⟨U, K, hm⟩ := ob hm
    refine Lw.r rfl (R.chm K rfl rfl) (Lw.gt rfl (Pb d rfl (mb rfl (bs hm (fun b hm => ?_) fun b hm => ?_))))
    ·refine wak 5 b (ms rfl (mi rfl ?_))
     obtain ⟨V, L, hm⟩ := ob hm
     refine Lw.r rfl (R.chm L rfl rfl) (Lw.lt rfl (mb rfl (bs hm (fun f hm => ?_) fun f hm => ?_)))
     ·exact psk 4 f rfl (wak 1 b (Pb f rfl (Pb b rfl (nl ((ag) ⟨true, a, rfl, Le.refl _ _, rfl, hm⟩)))))
     ·refine wak 4 f (ms rfl (mi rfl ?_))
      obtain ⟨M, N, hm⟩ := ob hm
      exact Lw.r rfl (R.chm N rfl rfl) (Lw.gt rfl (wak 1 b (Pb f rfl (Pb b rfl (nl ((ag) ⟨decide ((57 : Int) < ((UInt8.toNat M : Int) : Int)), a, rfl, Le.refl _ _, rfl, hm⟩))))))
    ·exact psk 5 b rfl (puk 4 rfl (psk 1 b rfl (Pb b rfl (nl ((ag) ⟨false, a, rfl, Le.refl _ _, rfl, hm⟩)))))
 ·refine Cw.exit ?_
  rw [C] at hm
  refine sr (ms rfl (Lw.r rfl (R.lenS rfl) (ca hm (fun _ => p57) fun W X hm O => ?_)))
  have P := z.n O
  exact Nb rfl (.ret (rt hm P))
theorem p113 {x0 r} (hm : Vm.zcH x0 = some r) : Q1 113 [vS x0] W [] fun W' v => v = vB r :=
 (c113 (W0 := W.view [] [])  hm).ad (fk 0) fun _ _ e => e
theorem c180 {x0 x1 x2 r} (hm : Vm.zgu x0 x1 x2 = some r) : Q0 180 [vS x0, .int .u8 (UInt8.toNat x1 : Int), vI x2] W0 fun Wf v => ∃ D, v = D ∧ OwS Wf LL [] [D] r := by
 unfold Vm.zgu at hm
 refine zaj.of Tryz.func180 rfl rfl rfl rfl (sr (Nv (.slice none 0 0) rfl (sr (Lw.t rfl (T.lit0 (α := Str) 2 []) ?_))))
 rintro E _ ⟨F, rfl, O, P⟩
 have Q := O.o
 refine Nv E rfl (sr (Ni rfl (ssr (Ni rfl (Cw.block ?_)))))
 obtain ⟨S, U, hm⟩ := zaS hm
 refine Cw.loop 11 36 [7, 8, 9] (fun m l w => ∃ d k e a b, CW.w b = w ∧ Le [2] F b ∧ l = [a, vI k, vI e] ∧ Ow b 2 [] [a] d ∧ Vm.zef x0 x1 x2 S m d k e = some r) _ ⟨([] : List Str), 0, 0, E, F, rfl, Le.refl _ _, rfl, P, hm⟩ ?_
 rintro (_ | ay) _ _ σ ⟨d, k, e, a, b, rfl, G, rfl, H, hm⟩
 ·cases hm
 unfold Vm.zef at hm
 have V := Q.t G
 refine Cw.seq ?_
 obtain ⟨W, X, hm⟩ := zaS hm
 refine Cw.join 11 20 [20] (fun l w => ∃ A f, CW.w f = w ∧ Le [] b f ∧ l = [vB A] ∧ W A = some r) ?_ ?_
 ·rintro _ _ σ ⟨A, f, rfl, B, rfl, hm⟩
  rw [X] at hm
  have Y := V.n B
  have C := H.up B
  refine cn hm (fun hm => ?_) fun hm => ?_
  ·refine sk ?_
   obtain ⟨Z, aa, hm⟩ := zaS hm
   refine Cw.join 23 36 [7, 8] (fun l w => ∃ x y z h, CW.w h = w ∧ Le [2] f h ∧ l = [z, vI y] ∧ Ow h 2 [] [z] x ∧ Z x y = some r) ?_ ?_
   ·rintro _ _ σ ⟨x, y, z, h, rfl, ac, rfl, ae, hm⟩
    rw [aa] at hm
    exact rg (mi rfl (Lw.add rfl (Ni rfl ((agm) ⟨x, y, w64 (e + 1), z, h, rfl, ((G.j B).j ac).w, rfl, ae, hm⟩))))
   ·refine Cw.block (sr (ms rfl (mi rfl ?_)))
    obtain ⟨az, af, hm⟩ := ob hm
    refine Lw.r rfl (R.chm af rfl rfl) (mv (.int .u8 (UInt8.toNat x1 : Int)) rfl (Lw.eq rfl (nl (cn hm (fun hm => ?_) fun hm => ?_))))
    ·refine sr (mv a rfl (ms rfl (mi rfl (mi rfl ?_))))
     obtain ⟨I, ah, hm⟩ := ob hm
     refine Lw.r rfl (R.ss ah rfl (.inr rfl) (.inr rfl)) (Lw.t rfl (T.bs 3 [vS I] (cs := [vS I]) rfl rfl (bsv rfl)) ?_)
     rintro _ _ ⟨a0, a1, rfl, rfl, J, ai⟩
     obtain ⟨aj, ak, hm⟩ := ob hm
     refine Lw.t rfl (T.app1S (α := Str) (K' := []) (C.up J) ai (rdS _) rfl rfl ak) ?_
     rintro K _ ⟨am, rfl, an, ao⟩
     exact Nv K rfl (rg (mi rfl (Lw.add rfl (Ni rfl ((ag) ⟨aj, w64 (e + 1), K, am, rfl, (J.j an).w, rfl, ao, hm⟩)))))
    ·exact sk ((ag) ⟨d, k, a, f, rfl, Le.refl _ _, rfl, C, hm⟩)
  ·refine Cw.exit ?_
   rw [U] at hm
   refine sr (mv a rfl (ms rfl (mi rfl ?_)))
   obtain ⟨L, ap, hm⟩ := ob hm
   refine Lw.r rfl (R.ss ap rfl (.inr rfl) (.inl ⟨rfl, rfl⟩)) (Lw.t rfl (T.bs 4 [vS L] (cs := [vS L]) rfl rfl (bsv rfl)) ?_)
   rintro _ _ ⟨a3, a4, rfl, rfl, M, aq⟩
   have ar := Y.n M
   obtain ⟨a5, au, hm⟩ := ob hm
   refine Lw.t rfl (T.app1S (α := Str) (K' := []) (C.up M) aq (rdS _) rfl rfl au) ?_
   rintro N _ ⟨a6, rfl, av, aw⟩
   have ax := ar.t av
   refine Nv N rfl ?_
   cases hm
   exact Cw.ret (zhB rfl (Res.mk ax ⟨N, rfl, aw.s.sub rfl rfl⟩))
 ·refine rg (mi rfl (ms rfl (Lw.r rfl (R.lenS rfl) (Lw.lt rfl (mb rfl (bs hm (fun i hm => ?_) fun i hm => ?_))))))
  ·exact wak 4 i (mv a rfl (Lw.ln d H.rd rfl (mi rfl (Lw.lt rfl (Pb i rfl (nl ((ag) ⟨decide (((d.length : Int) : Int) < (x2 : Int)), b, rfl, Le.refl _ _, rfl, hm⟩)))))))
  ·exact psk 4 i rfl (Pb i rfl (nl ((ag) ⟨false, b, rfl, Le.refl _ _, rfl, hm⟩)))
theorem p180 {x0 x1 x2 k0 r} (hm : Vm.zgu x0 x1 x2 = some r) : Q1 180 [vS x0, .int .u8 (UInt8.toNat x1 : Int), vI x2] W [] fun W' v => ∃ a, v = a ∧ Ow W' k0 [] [a] r :=
 (c180 (W0 := W.view [] [])  hm).ad (fk k0) fun _ _ ⟨a, e, b⟩ => ⟨a, e, b.back (zfR _)⟩
theorem c145 {x0 r} (hm : Vm.zdh x0 = some r) : Q0 145 [vS x0] W0 fun Wf v => v = vB r := by
 unfold Vm.zdh at hm
 refine zaj.of Tryz.func145 rfl rfl rfl rfl (sr (Nb rfl (sr (ms rfl (cr hm (fun _ => p180 (k0 := 2)) ?_)))))
 rintro f a k hm A ⟨_, rfl, B⟩
 have C := A.o
 refine Nv a rfl (ssr (Ni rfl (Cw.block ?_)))
 obtain ⟨D, E, hm⟩ := zaS hm
 refine Cw.loop 7 18 [2, 4] (fun m l w => ∃ b d h, CW.w h = w ∧ Le [] k h ∧ l = [vB b, vI d] ∧ Vm.zch f D m b d = some r) _ ⟨false, 0, k, rfl, Le.refl _ _, rfl, hm⟩ ?_
 rintro (_ | H) _ _ σ ⟨b, d, h, rfl, i, rfl, hm⟩
 ·cases hm
 unfold Vm.zch at hm
 have x := C.n i
 have e := B.up i
 refine ssr (mi rfl (mv a rfl (Lw.ln f e.rd rfl (Lw.lt rfl (nl (cn hm (fun hm => ?_) fun hm => ?_))))))
 ·refine sk (Cw.seq (Cw.block (sr (mv a rfl (mi rfl ?_)))))
  obtain ⟨I, y, hm⟩ := ob hm
  refine Lw.r rfl (R.ix (α := Str) e.rd y rfl rfl rfl) (Lw.r rfl (R.ld rfl rfl (e.rd.at_ y).str) (ca hm (fun _ => p113) fun J F hm z => ?_))
  have G := x.n z
  refine Lw.r rfl (R.not rfl) (nl (cn hm (fun hm => ?_) fun hm => ?_))
  ·exact sr (Nb rfl (.ret (rt hm G)))
  ·exact sk (rg (mi rfl (Lw.add rfl (Ni rfl ((agm) ⟨b, w64 (d + 1), F, rfl, (i.j z).w, rfl, hm⟩)))))
 ·refine Cw.exit ?_
  rw [E] at hm
  exact sr (mv a rfl (Lw.ln f e.rd rfl (Lw.le rfl (Nb rfl (.ret (rt hm x))))))
theorem p145 {x0 r} (hm : Vm.zdh x0 = some r) : Q1 145 [vS x0] W [] fun W' v => v = vB r :=
 (c145 (W0 := W.view [] [])  hm).ad (fk 0) fun _ _ e => e
theorem c191 {x0 r} (hm : Vm.zfF x0 = some r) : Q0 191 [vS x0] W0 fun Wf v => v = vB r := by
 unfold Vm.zfF at hm
 refine zaj.of Tryz.func191 rfl rfl rfl rfl (sr (Nb rfl (ssr (Ni rfl (Cw.block ?_)))))
 obtain ⟨y, z, hm⟩ := zaS hm
 refine Cw.loop 4 19 [2, 3] (fun m l w => ∃ d e a, CW.w a = w ∧ Le [] W0 a ∧ l = [vB d, vI e] ∧ Vm.zci x0 y m d e = some r) _ ⟨false, 0, W0, rfl, Le.refl _ _, rfl, hm⟩ ?_
 rintro (_ | G) _ _ σ ⟨d, e, a, rfl, i, rfl, hm⟩
 ·cases hm
 unfold Vm.zci at hm
 have k := i.o
 refine ssr (mi rfl (ms rfl (Lw.r rfl (R.lenS rfl) (Lw.lt rfl (nl (cn hm (fun hm => ?_) fun hm => ?_))))))
 ·refine sk (Cw.seq (Cw.block ?_))
  obtain ⟨A, B, hm⟩ := zaS hm
  refine Cw.join 10 19 [19] (fun l w => ∃ h f, CW.w f = w ∧ Le [] a f ∧ l = [vB h] ∧ A h = some r) ?_ ?_
  ·rintro _ _ σ ⟨h, f, rfl, x, rfl, hm⟩
   rw [B] at hm
   have C := k.n x
   refine cn hm (fun hm => ?_) fun hm => ?_
   ·exact sr (Nb rfl (.ret (rt hm C)))
   ·exact sk (rg (mi rfl (Lw.add rfl (Ni rfl ((agm) ⟨d, w64 (e + 1), f, rfl, (i.j x).w, rfl, hm⟩)))))
  ·refine rg (ms rfl (mi rfl ?_))
   obtain ⟨H, D, hm⟩ := ob hm
   refine Lw.r rfl (R.chm D rfl rfl) (Lw.lt rfl (mb rfl (bs hm (fun b hm => ?_) fun b hm => ?_)))
   ·exact psk 4 b rfl (Pb b rfl (nl ((ag) ⟨true, a, rfl, Le.refl _ _, rfl, hm⟩)))
   ·refine wak 4 b (ms rfl (mi rfl ?_))
    obtain ⟨E, F, hm⟩ := ob hm
    exact Lw.r rfl (R.chm F rfl rfl) (Lw.gt rfl (Pb b rfl (nl ((ag) ⟨decide ((126 : Int) < ((UInt8.toNat E : Int) : Int)), a, rfl, Le.refl _ _, rfl, hm⟩))))
 ·refine Cw.exit ?_
  rw [z] at hm
  exact sr (ms rfl (Lw.r rfl (R.lenS rfl) (Lw.le rfl (Nb rfl (.ret (rt hm k))))))
theorem p191 {x0 r} (hm : Vm.zfF x0 = some r) : Q1 191 [vS x0] W [] fun W' v => v = vB r :=
 (c191 (W0 := W.view [] [])  hm).ad (fk 0) fun _ _ e => e
theorem c166 {x0 a r} (y : Rd W0 [0] [a] x0) (hm : Vm.zdq x0 = some r) : Q0 166 [a] W0 fun Wf v => v = vB r := by
 unfold Vm.zdq at hm
 refine zaj.of Tryz.func166 rfl rfl rfl rfl (sr (Nb rfl (ssr (Ni rfl (Cw.block ?_)))))
 obtain ⟨z, A, hm⟩ := zaS hm
 refine Cw.loop 4 15 [2, 3] (fun m l w => ∃ b d f, CW.w f = w ∧ Le [] W0 f ∧ l = [vB b, vI d] ∧ Vm.zdp x0 z m b d = some r) _ ⟨false, 0, W0, rfl, Le.refl _ _, rfl, hm⟩ ?_
 rintro (_ | D) _ _ σ ⟨b, d, f, rfl, i, rfl, hm⟩
 ·cases hm
 unfold Vm.zdp at hm
 have h := i.o
 refine ssr ?_
 have e := y.ul h
 refine mi rfl (mv a rfl (Lw.ln x0 e rfl (Lw.lt rfl (nl (cn hm (fun hm => ?_) fun hm => ?_)))))
 ·refine sk (Cw.seq (Cw.block (sr (mv a rfl (mi rfl ?_)))))
  obtain ⟨E, k, hm⟩ := ob hm
  refine Lw.r rfl (R.ix (α := Str) e k rfl rfl rfl) (Lw.r rfl (R.ld rfl rfl (e.at_ k).str) (ca hm (fun _ => p191) fun F B hm x => ?_))
  have C := h.n x
  refine Lw.r rfl (R.not rfl) (nl (cn hm (fun hm => ?_) fun hm => ?_))
  ·exact sr (Nb rfl (.ret (rt hm C)))
  ·exact sk (rg (mi rfl (Lw.add rfl (Ni rfl ((agm) ⟨b, w64 (d + 1), B, rfl, (i.j x).w, rfl, hm⟩)))))
 ·refine Cw.exit ?_
  rw [A] at hm
  exact sr (mv a rfl (Lw.ln x0 e rfl (Lw.le rfl (Nb rfl (.ret (rt hm h))))))
theorem p166 {x0 a r} (b : Rd W K [a] x0) (hm : Vm.zdq x0 = some r) : Q1 166 [a] W [] fun W' v => v = vB r :=
 (c166 (b.view _) hm).ad (fk 0) fun _ _ e => e
theorem c167 {x0 x1 r} (hm : Vm.zg4 x0 x1 = some r) : Q0 167 [vS x0, vS x1] W0 fun Wf v => v = vB r := by
 unfold Vm.zg4 at hm
 refine zaj.of Tryz.func167 rfl rfl rfl rfl (sr (Nb rfl ?_))
 obtain ⟨f, h, hm⟩ := zaS hm
 refine Cw.join 5 24 [4] (fun l w => ∃ d e, CW.w e = w ∧ Le [] W0 e ∧ l = [vB d] ∧ f d = some r) ?_ ?_
 ·rintro _ _ σ ⟨d, e, rfl, i, rfl, hm⟩
  rw [h] at hm
  have k := i.o
  exact .ret (rt hm k)
 ·refine rg (ms rfl (Lw.r rfl (R.lenS rfl) (ms rfl (Lw.r rfl (R.lenS rfl) (Lw.gt rfl (mb rfl (bs hm (fun a hm => ?_) fun a hm => ?_)))))))
  ·refine wak 6 a (ms rfl (ms rfl (Lw.r rfl (R.lenS rfl) ?_)))
   obtain ⟨A, x, hm⟩ := ob hm
   refine Lw.r rfl (R.ss x rfl (.inl ⟨rfl, rfl⟩) (.inr rfl)) (ms rfl (Lw.seq rfl (Pb a rfl (mb rfl (bs hm (fun b hm => ?_) fun b hm => ?_)))))
   ·refine wak 5 b (ms rfl (ms rfl (Lw.r rfl (R.lenS rfl) ?_)))
    obtain ⟨y, z, hm⟩ := ob hm
    exact Lw.r rfl (R.chm z rfl rfl) (Lw.eq rfl (Pb b rfl (Nb rfl ((ag) ⟨(((UInt8.toNat y : Int) : Int) == (47 : Int)), W0, rfl, Le.refl _ _, rfl, hm⟩))))
   ·exact psk 5 b rfl (Pb b rfl (Nb rfl ((ag) ⟨false, W0, rfl, Le.refl _ _, rfl, hm⟩)))
  ·exact psk 6 a rfl (Pb a rfl (mb rfl (psk 5 rfl rfl (Pb rfl rfl (Nb rfl ((ag) ⟨false, W0, rfl, Le.refl _ _, rfl, hm⟩))))))
theorem p167 {x0 x1 r} (hm : Vm.zg4 x0 x1 = some r) : Q1 167 [vS x0, vS x1] W [] fun W' v => v = vB r :=
 (c167 (W0 := W.view [] [])  hm).ad (fk 0) fun _ _ e => e
theorem c119 {x0 d r} (z : Rd W0 [0] [d] x0) (hm : Vm.zg5 x0 = some r) : Q0 119 [d] W0 fun Wf v => v = vB r := by
 unfold Vm.zg5 at hm
 refine zaj.of Tryz.func119 rfl rfl rfl rfl (sr (Nb rfl (ssr (Ni rfl (Cw.block ?_)))))
 obtain ⟨K5, af, hm⟩ := zaS hm
 refine Cw.loop 5 61 [2, 3, 4] (fun m l w => ∃ F h U G, CW.w G = w ∧ Le [] W0 G ∧ l = [vB F, vI h, U] ∧ Vm.zdr x0 K5 m F h = some r) _ ⟨false, 0, undef, W0, rfl, Le.refl _ _, rfl, hm⟩ ?_
 rintro (_ | m6) _ _ σ ⟨F, h, U, G, rfl, V, rfl, hm⟩
 ·cases hm
 unfold Vm.zdr at hm
 have A := V.o
 refine ssr (mi rfl (mv d rfl (Lw.ln x0 (z.ul A) rfl (Lw.lt rfl (nl (cn hm (fun hm => ?_) fun hm => ?_))))))
 ·refine sk (Cw.seq (Cw.block (Cw.seq ?_)))
  obtain ⟨ah, ai, hm⟩ := zaS hm
  refine Cw.join 11 44 [44] (fun l w => ∃ J B, CW.w B = w ∧ Le [] G B ∧ l = [vB J] ∧ ah J = some r) ?_ ?_
  ·rintro _ _ σ ⟨J, B, rfl, W, rfl, hm⟩
   rw [ai] at hm
   have X := A.n W
   refine cn hm (fun hm => ?_) fun hm => ?_
   ·exact sr (Nb rfl (.ret (rt hm X)))
   ·refine sk (sr (Ni rfl (Cw.block ?_)))
    obtain ⟨aj, ak, hm⟩ := zaS hm
    refine Cw.loop 45 61 [2, 4] (fun m l w => ∃ C D H, CW.w H = w ∧ Le [] B H ∧ l = [vB C, vI D] ∧ Vm.zcw x0 h aj m C D = some r) _ ⟨F, 0, B, rfl, Le.refl _ _, rfl, hm⟩ ?_
    rintro (_ | az) _ _ σ ⟨C, D, H, rfl, K, rfl, hm⟩
    ·cases hm
    unfold Vm.zcw at hm
    have Y := X.n K
    refine ssr (mi rfl (mv d rfl (Lw.ln x0 (z.ul Y) rfl (Lw.lt rfl (nl (cn hm (fun hm => ?_) fun hm => ?_))))))
    ·refine sk (Cw.seq (Cw.block (Cw.seq (Cw.draw [] [(0, 0), (1, 0), (2, 0), (3, 0), (4, 1), (5, 0), (6, 0), (7, 0), (8, 0), (9, 1), (10, 3)] mixed (by kernel_rfl) fun a0 Z => ?_))))
     have aa := Y.n Z
     refine Dv d rfl (Di rfl ?_)
     obtain ⟨a1, L, hm⟩ := ob hm
     have i := z.ul aa
     refine Mw.p rfl rfl (fun _ => R.ix (α := File) i L rfl rfl rfl) (Df rfl (Mw.q rfl rfl (fun _ c => R.ld rfl rfl (zah (File.at0 (i.at_ L)).1 rfl (File.at0 (i.at_ L)).str c)) (Dv d rfl (Di rfl ?_))))
     obtain ⟨a2, M, hm⟩ := ob hm
     refine Mw.p rfl rfl (fun _ => R.ix (α := File) i M rfl rfl rfl) (Df rfl (Mw.q rfl rfl (fun _ c => R.ld rfl rfl (zah (File.at0 (i.at_ M)).1 rfl (File.at0 (i.at_ M)).str c)) ?_))
     obtain ⟨a3, am, hm⟩ := ob hm
     refine Mw.l rfl rfl (T.call rfl (p167   am)) ?_
     rintro _ _ ⟨an, rfl, ac, rfl⟩
     have ao := aa.n ac
     refine Mw.nil (cn hm (fun hm => ?_) fun hm => ?_)
     ·exact sr (Nb rfl (.ret (rt hm ao)))
     ·exact sk (rg (mi rfl (Lw.add rfl (Ni rfl ((agm) ⟨C, w64 (D + 1), an, rfl, ((K.j Z).j ac).w, rfl, hm⟩)))))
    ·refine Cw.exit ?_
     rw [ak] at hm
     exact rg (mi rfl (Lw.add rfl (Ni rfl ((agm) ⟨C, w64 (h + 1), vI D, H, rfl, ((V.j W).j K).w, rfl, hm⟩))))
  ·refine Cw.draw [] [(0, 0), (1, 0), (2, 0), (3, 0), (4, 1), (5, 2), (6, 0), (7, 0), (8, 0), (9, 0), (10, 0), (11, 0), (12, 1), (13, 2), (14, 0), (15, 0), (16, 0), (17, 0), (18, 0), (19, 0), (20, 0), (21, 0), (22, 0), (23, 0), (24, 1), (25, 0), (26, 0), (27, 0), (28, 0), (29, 0), (30, 1), (31, 0), (32, 0), (33, 0)] mixed (by kernel_rfl) fun a4 E => ?_
   have ap := A.n E
   refine Dv d rfl (Di rfl ?_)
   obtain ⟨a5, N, hm⟩ := ob hm
   have b := z.ul ap
   refine Mw.p rfl rfl (fun _ => R.ix (α := File) b N rfl rfl rfl) (Df rfl (Mw.q rfl rfl (fun _ c => R.ld rfl rfl (zah (File.at0 (b.at_ N)).1 rfl (File.at0 (b.at_ N)).str c)) ?_))
   obtain ⟨a6, aq, hm⟩ := ob hm
   refine Mw.t rfl rfl (T.call rfl (p145   aq)) ?_
   rintro _ _ ⟨ar, rfl, k, rfl⟩
   have au := k.o
   refine m0 k fun av => Mw.p rfl rfl (fun _ => R.not rfl) (Db rfl (bs hm (fun e hm => ?_) fun e hm => ?_))
   ·exact dps 7 e rfl (Mw.p rfl rfl (fun _ => R.pk e rfl (v := vB true) rfl) (Db rfl (dps 3 rfl rfl (dpu 12 rfl (dps 1 rfl rfl (Mw.p rfl rfl (fun _ => R.pk rfl rfl (v := vB true) rfl) (Mw.nil ((ag) ⟨true, ar, rfl, (E.j k).w, rfl, hm⟩))))))))
   ·refine Wp e rfl (fun _ => R.mv (v := d) rfl) (Wp e rfl (fun _ => R.mv (v := vI h) rfl) ?_)
    obtain ⟨a8, O, hm⟩ := ob hm
    refine Wp e rfl (fun _ => R.ix (α := File) b O rfl rfl rfl) (Wp e rfl (fun _ => R.fa rfl) ?_)
    obtain ⟨a9, c48, r49⟩ := (File.at1 (b.at_ O)).cell rfl
    refine Wq e rfl (fun _ c => R.ld rfl rfl (zah (File.at1 (b.at_ O)).1 rfl c48 c)) ?_
    obtain ⟨aw, ax, hm⟩ := ob hm
    refine Wt e rfl (T.call rfl (p166  (r49.ul au) ax)) ?_
    rintro _ _ ⟨P, rfl, I, rfl⟩
    refine mc av I fun ba => Wp e rfl (fun _ => R.not rfl) (Mw.p rfl rfl (fun _ => R.pk e rfl (v := vB (!aw)) rfl) (Db rfl (bs hm (fun f hm => ?_) fun f hm => ?_)))
    ·exact dps 3 f rfl (dpu 12 rfl (dps 1 f rfl (Mw.p rfl rfl (fun _ => R.pk f rfl (v := vB true) rfl) (Mw.nil ((ag) ⟨true, P, rfl, ((E.j k).j I).w, rfl, hm⟩)))))
    ·refine Wp f rfl (fun _ => R.mv (v := vI h) rfl) (Wp f rfl (fun _ => R.gt rfl rfl) (Wp f rfl (fun _ => R.mv (v := vB (decide ((0 : Int) < (h : Int)))) rfl) (bs hm (fun a hm => ?_) fun a hm => ?_)))
     ·refine Wp a rfl (fun _ => R.mv (v := d) rfl) (Wp a rfl (fun _ => R.mv (v := vI h) rfl) ?_)
      obtain ⟨x, Q, hm⟩ := ob hm
      refine Wp a rfl (fun _ => R.ix (α := File) b Q rfl rfl rfl) (Wp a rfl (fun _ => R.fa rfl) (Wq a rfl (fun _ c => R.ld rfl rfl (zah (File.at0 (b.at_ Q)).1 rfl (File.at0 (b.at_ Q)).str c)) (Wp a rfl (fun _ => R.mv (v := d) rfl) (Wp a rfl (fun _ => R.mv (v := vI h) rfl) (Wp a rfl (fun _ => R.sub rfl rfl) ?_)))))
      obtain ⟨y, S, hm⟩ := ob hm
      exact Wp a rfl (fun _ => R.ix (α := File) b S rfl rfl rfl) (Wp a rfl (fun _ => R.fa rfl) (Wq a rfl (fun _ c => R.ld rfl rfl (zah (File.at0 (b.at_ S)).1 rfl (File.at0 (b.at_ S)).str c)) (Wp a rfl (fun _ => R.sle rfl rfl) (Wp f rfl (fun _ => R.pk a rfl (v := vB (Op.bytesLess x.Path y.Path || x.Path == y.Path)) rfl) (Mw.p rfl rfl (fun _ => R.pk f rfl (v := vB (Op.bytesLess x.Path y.Path || x.Path == y.Path)) rfl) (Mw.nil ((ag) ⟨(Op.bytesLess x.Path y.Path || x.Path == y.Path), P, rfl, ((E.j k).j I).w, rfl, hm⟩)))))))
     ·exact dps 12 a rfl (Wp f rfl (fun _ => R.pk a rfl (v := vB false) rfl) (Mw.p rfl rfl (fun _ => R.pk f rfl (v := vB false) rfl) (Mw.nil ((ag) ⟨false, P, rfl, ((E.j k).j I).w, rfl, hm⟩))))
 ·refine Cw.exit ?_
  rw [af] at hm
  exact sr (mv d rfl (Lw.ln x0 (z.ul A) rfl (Lw.le rfl (Nb rfl (.ret (rt hm A))))))
theorem p119 {x0 a r} (b : Rd W K [a] x0) (hm : Vm.zg5 x0 = some r) : Q1 119 [a] W [] fun W' v => v = vB r :=
 (c119 (b.view _) hm).ad (fk 0) fun _ _ e => e
end Go.Sx
