/- Walks: each function answers as its model, printed by a program of ours. Conditions: the arguments read as they are given. -/
import Derived.Test.YtokbhelngoeblaaGreatDoorCTs
import Derived.Test.YtokbhelngoeblaaGreatDoorCM1
namespace Go.Sx
open Go Go.Proofs Go.Vm Rp
set_option linter.unusedVariables false
set_option linter.unusedSimpArgs false
variable {W W0 : CW} {K : List Nat}
theorem c164 {x0 a x1 r} (b : Rd W0 [0] [a] x0) (hm : Vm.znr x0 x1 = some r) : Q0 164 [a, vI x1] W0 fun Wf v => v = vI r := by
 unfold Vm.znr at hm
 refine zau.of Tryz.func164 rfl rfl rfl rfl (sr (Ni rfl (sr (mi rfl (mv a rfl (Lw.ln x0 b rfl (Lw.sub rfl (Ni rfl (ssr (mi rfl (Lw.lt rfl (nl (cn hm (fun hm => ?_) fun hm => ?_)))))))))))))
 ·exact sr (Ni rfl (.ret (rt hm (Le.refl _ _))))
 ·exact sk (sr (mi rfl (Ni rfl (.ret (rt hm (Le.refl _ _))))))
theorem p164 {x0 a x1 r} (b : Rd W K [a] x0) (hm : Vm.znr x0 x1 = some r) : Q1 164 [a, vI x1] W [] fun W' v => v = vI r :=
 (c164 (b.view _) hm).ad (fk 0) fun _ _ e => e
theorem c91 {x0 a x1 r} (k : Rd W0 [0] [a] x0) (hm : Vm.zg9 x0 x1 = some r) : Q0 91 [a, vI x1] W0 fun Wf v => v = vI r := by
 unfold Vm.zg9 at hm
 refine zau.of Tryz.func91 rfl rfl rfl rfl (sr (Ni rfl (sr (mi rfl (mv a rfl (Lw.ln x0 k rfl (Lw.sub rfl (Ni rfl (ssr (mi rfl (Lw.lt rfl (nl (cn hm (fun hm => ?_) fun hm => ?_)))))))))))))
 ·exact sr (Ni rfl (.ret (rt hm (Le.refl _ _))))
 ·refine sk (ssr (Ni rfl (Cw.block ?_)))
  obtain ⟨z, A, hm⟩ := zbk hm
  refine Cw.loop 12 26 [1, 4, 5] (fun m l w => ∃ b d e f, CW.w f = w ∧ Le [] W0 f ∧ l = [vI b, vI d, vI e] ∧ Vm.zee x0 z m b d e = some r) _ ⟨w64 (x1 - (x0.length : Int)), 0, 0, W0, rfl, Le.refl _ _, rfl, hm⟩ ?_
  rintro (_ | C) _ _ σ ⟨b, d, e, f, rfl, x, rfl, hm⟩
  ·cases hm
  unfold Vm.zee at hm
  have h := x.o
  refine ssr ?_
  have i := k.ul h
  refine mi rfl (mv a rfl (Lw.ln x0 i rfl (Lw.lt rfl (nl (cn hm (fun hm => ?_) fun hm => ?_)))))
  ·refine sk (Cw.seq (Cw.block (sr (mi rfl (mv a rfl (mi rfl ?_))))))
   obtain ⟨B, y, hm⟩ := ob hm
   refine Lw.r rfl (R.ix (α := Str) i y rfl rfl rfl) (Lw.r rfl (R.ld rfl rfl (i.at_ y).str) (Lw.r rfl (R.lenS rfl) (Lw.sub rfl (Ni rfl (sr (mi rfl (Lw.lt rfl (nl (cn hm (fun hm => ?_) fun hm => ?_)))))))))
   ·exact sr (Ni rfl (.ret (rt hm h)))
   ·exact sk (rg (mi rfl (Lw.add rfl (Ni rfl ((agm) ⟨w64 (b - (B.length : Int)), d, w64 (e + 1), f, rfl, x, rfl, hm⟩)))))
  ·refine Cw.exit ?_
   rw [A] at hm
   exact sr (mi rfl (Ni rfl (.ret (rt hm h))))
theorem p91 {x0 a x1 r} (b : Rd W K [a] x0) (hm : Vm.zg9 x0 x1 = some r) : Q1 91 [a, vI x1] W [] fun W' v => v = vI r :=
 (c91 (b.view _) hm).ad (fk 0) fun _ _ e => e
theorem c190 {x0 b x1 r} (h : Rd W0 [0] [vS x0.Path, b] x0) (hm : Vm.zns x0 x1 = some r) : Q0 190 [.agg [vS x0.Path, b].toArray, vI x1] W0 fun Wf v => v = vI r := by
 unfold Vm.zns at hm
 obtain ⟨y, d, i⟩ := File.split h
 simp only [List.cons.injEq, and_true, true_and] at d
 obtain rfl := d
 refine zau.of Tryz.func190 rfl rfl rfl rfl (sr (bo 2 rfl fun z A k e => ?_))
 have a := k.o
 refine Ni rfl (sr (mi rfl (fl e rfl (Lw.r rfl (R.lenS rfl) (Lw.sub rfl (Ni rfl (ssr (mi rfl (Lw.lt rfl (nl (cn hm (fun hm => ?_) fun hm => ?_)))))))))))
 ·exact sr (Ni rfl (.ret (rt hm a)))
 ·refine sk (sr (fl e rfl (mi rfl (ca hm (fun _ => p91 (i.ul a)) fun B C hm x => ?_))))
  have f := a.n x
  refine Ni rfl (ssr (mi rfl (Lw.lt rfl (nl (cn hm (fun hm => ?_) fun hm => ?_)))))
  ·exact sr (Ni rfl (.ret (rt hm f)))
  ·exact sk (sr (mi rfl (Ni rfl (.ret (rt hm f)))))
theorem p190 {x0 a x1 r} (b : Rd W K [vS x0.Path, a] x0) (hm : Vm.zns x0 x1 = some r) : Q1 190 [.agg [vS x0.Path, a].toArray, vI x1] W [] fun W' v => v = vI r :=
 (c190 (b.view _) hm).ad (fk 0) fun _ _ e => e
theorem c165 {x0 a x1 r} (k : Rd W0 [0] [a] x0) (hm : Vm.zl8 x0 x1 = some r) : Q0 165 [a, vI x1] W0 fun Wf v => v = vI r := by
 unfold Vm.zl8 at hm
 refine zau.of Tryz.func165 rfl rfl rfl rfl (sr (Ni rfl (sr (mi rfl (mv a rfl (Lw.ln x0 k rfl (Lw.sub rfl (Ni rfl (ssr (mi rfl (Lw.lt rfl (nl (cn hm (fun hm => ?_) fun hm => ?_)))))))))))))
 ·exact sr (Ni rfl (.ret (rt hm (Le.refl _ _))))
 ·refine sk (ssr (Ni rfl (Cw.block ?_)))
  obtain ⟨B, C, hm⟩ := zbk hm
  refine Cw.loop 12 25 [1, 4, 5] (fun m l w => ∃ e b d f, CW.w f = w ∧ Le [] W0 f ∧ l = [vI e, vI b, vI d] ∧ Vm.ziF x0 B m e b d = some r) _ ⟨w64 (x1 - (x0.length : Int)), 0, 0, W0, rfl, Le.refl _ _, rfl, hm⟩ ?_
  rintro (_ | G) _ _ σ ⟨e, b, d, f, rfl, x, rfl, hm⟩
  ·cases hm
  unfold Vm.ziF at hm
  have h := x.o
  refine ssr ?_
  have i := k.ul h
  refine mi rfl (mv a rfl (Lw.ln x0 i rfl (Lw.lt rfl (nl (cn hm (fun hm => ?_) fun hm => ?_)))))
  ·refine sk (Cw.seq (Cw.block (sr (mv a rfl (mi rfl ?_)))))
   obtain ⟨y, z, hm⟩ := ob hm
   refine Lw.r rfl (R.ix (α := File) i z rfl rfl rfl) ?_
   obtain ⟨x13, c14, _, r15⟩ := (i.at_ z).cells
   obtain ⟨H, rfl, r17⟩ := File.split r15
   refine Lw.r rfl (R.lda c14 rfl rfl) (mi rfl (ca hm (fun _ => p190 (File.rd (K := [0]) y.Path y.Text r17)) fun D E hm A => ?_))
   have F := h.n A
   refine Ni rfl (sr (mi rfl (Lw.lt rfl (nl (cn hm (fun hm => ?_) fun hm => ?_)))))
   ·exact sr (Ni rfl (.ret (rt hm F)))
   ·exact sk (rg (mi rfl (Lw.add rfl (Ni rfl ((agm) ⟨D, b, w64 (d + 1), E, rfl, (x.j A).w, rfl, hm⟩)))))
  ·refine Cw.exit ?_
   rw [C] at hm
   exact sr (mi rfl (Ni rfl (.ret (rt hm h))))
theorem p165 {x0 a x1 r} (b : Rd W K [a] x0) (hm : Vm.zl8 x0 x1 = some r) : Q1 165 [a, vI x1] W [] fun W' v => v = vI r :=
 (c165 (b.view _) hm).ad (fk 0) fun _ _ e => e
theorem c117 {x0 e f x1 r} (x : Rd W0 [0] [e, vS x0.Who, f] x0) (hm : Vm.zlA x0 x1 = some r) : Q0 117 [.agg [e, vS x0.Who, f].toArray, vI x1] W0 fun Wf v => v = vI r := by
 unfold Vm.zlA at hm
 obtain ⟨C, D, h, y, z⟩ := Commit.split x
 simp only [List.cons.injEq, and_true, true_and] at h
 obtain ⟨rfl, rfl⟩ := h
 refine zau.of Tryz.func117 rfl rfl rfl rfl (sr (bo 2 rfl fun E F A b => ?_))
 have i := A.o
 refine Ni rfl (sr (fl b rfl (mi rfl (ca hm (fun _ => p164 (y.ul i)) fun G H hm d => ?_))))
 have a := i.n d
 refine Ni rfl (ssr (mi rfl (Lw.lt rfl (nl (cn hm (fun hm => ?_) fun hm => ?_)))))
 ·exact sr (Ni rfl (.ret (rt hm a)))
 ·refine sk (sr (mi rfl (fl (b.up d) rfl (Lw.r rfl (R.lenS rfl) (Lw.sub rfl (Ni rfl (ssr (mi rfl (Lw.lt rfl (nl (cn hm (fun hm => ?_) fun hm => ?_)))))))))))
  ·exact sr (Ni rfl (.ret (rt hm a)))
  ·refine sk (sr (fl (b.up d) rfl (mi rfl (ca hm (fun _ => p165 (z.ul a)) fun I J hm B => ?_))))
   have k := a.n B
   refine Ni rfl (ssr (mi rfl (Lw.lt rfl (nl (cn hm (fun hm => ?_) fun hm => ?_)))))
   ·exact sr (Ni rfl (.ret (rt hm k)))
   ·exact sk (sr (mi rfl (Ni rfl (.ret (rt hm k)))))
theorem p117 {x0 a b x1 r} (d : Rd W K [a, vS x0.Who, b] x0) (hm : Vm.zlA x0 x1 = some r) : Q1 117 [.agg [a, vS x0.Who, b].toArray, vI x1] W [] fun W' v => v = vI r :=
 (c117 (d.view _) hm).ad (fk 0) fun _ _ e => e
theorem c53 {x0 a x1 r} (x : Rd W0 [0] [a] x0) (hm : Vm.zko x0 x1 = some r) : Q0 53 [a, vI x1] W0 fun Wf v => v = vI r := by
 unfold Vm.zko at hm
 refine zau.of Tryz.func53 rfl rfl rfl rfl (sr (Ni rfl (sr (mi rfl (mv a rfl (Lw.ln x0 x rfl (Lw.sub rfl (Ni rfl (ssr (mi rfl (Lw.lt rfl (nl (cn hm (fun hm => ?_) fun hm => ?_)))))))))))))
 ·exact sr (Ni rfl (.ret (rt hm (Le.refl _ _))))
 ·refine sk (ssr (Ni rfl (Cw.block ?_)))
  obtain ⟨B, C, hm⟩ := zbk hm
  refine Cw.loop 12 25 [1, 4, 5] (fun m l w => ∃ e b d f, CW.w f = w ∧ Le [] W0 f ∧ l = [vI e, vI b, vI d] ∧ Vm.zgO x0 B m e b d = some r) _ ⟨w64 (x1 - (x0.length : Int)), 0, 0, W0, rfl, Le.refl _ _, rfl, hm⟩ ?_
  rintro (_ | G) _ _ σ ⟨e, b, d, f, rfl, y, rfl, hm⟩
  ·cases hm
  unfold Vm.zgO at hm
  have h := y.o
  refine ssr ?_
  have i := x.ul h
  refine mi rfl (mv a rfl (Lw.ln x0 i rfl (Lw.lt rfl (nl (cn hm (fun hm => ?_) fun hm => ?_)))))
  ·refine sk (Cw.seq (Cw.block (sr (mv a rfl (mi rfl ?_)))))
   obtain ⟨k, z, hm⟩ := ob hm
   refine Lw.r rfl (R.ix (α := Commit) i z rfl rfl rfl) ?_
   obtain ⟨x13, c14, _, r15⟩ := (i.at_ z).cells
   obtain ⟨H, I, rfl, r17, r19⟩ := Commit.split r15
   refine Lw.r rfl (R.lda c14 rfl rfl) (mi rfl (ca hm (fun _ => p117 (Commit.rd (K := [0]) k.Parents k.Who k.Tree r17 r19)) fun D E hm A => ?_))
   have F := h.n A
   refine Ni rfl (sr (mi rfl (Lw.lt rfl (nl (cn hm (fun hm => ?_) fun hm => ?_)))))
   ·exact sr (Ni rfl (.ret (rt hm F)))
   ·exact sk (rg (mi rfl (Lw.add rfl (Ni rfl ((agm) ⟨D, b, w64 (d + 1), E, rfl, (y.j A).w, rfl, hm⟩)))))
  ·refine Cw.exit ?_
   rw [C] at hm
   exact sr (mi rfl (Ni rfl (.ret (rt hm h))))
theorem p53 {x0 a x1 r} (b : Rd W K [a] x0) (hm : Vm.zko x0 x1 = some r) : Q1 53 [a, vI x1] W [] fun W' v => v = vI r :=
 (c53 (b.view _) hm).ad (fk 0) fun _ _ e => e
theorem c118 {x0 x1 r} (e : Rd W0 [0] [vS x0.Name, vI x0.At] x0) (hm : Vm.znt x0 x1 = some r) : Q0 118 [.agg [vS x0.Name, vI x0.At].toArray, vI x1] W0 fun Wf v => v = vI r := by
 unfold Vm.znt at hm
 refine zau.of Tryz.func118 rfl rfl rfl rfl (sr (bo 2 rfl fun f h b d => ?_))
 have a := b.o
 refine Ni rfl (sr (mi rfl (fl d rfl (Lw.r rfl (R.lenS rfl) (Lw.sub rfl (Ni rfl (ssr (mi rfl (Lw.lt rfl (nl (cn hm (fun hm => ?_) fun hm => ?_)))))))))))
 ·exact sr (Ni rfl (.ret (rt hm a)))
 ·exact sk (sr (mi rfl (Ni rfl (.ret (rt hm a)))))
theorem p118 {x0 x1 r} (a : Rd W K [vS x0.Name, vI x0.At] x0) (hm : Vm.znt x0 x1 = some r) : Q1 118 [.agg [vS x0.Name, vI x0.At].toArray, vI x1] W [] fun W' v => v = vI r :=
 (c118 (a.view _) hm).ad (fk 0) fun _ _ e => e
theorem c54 {x0 a x1 r} (k : Rd W0 [0] [a] x0) (hm : Vm.zl9 x0 x1 = some r) : Q0 54 [a, vI x1] W0 fun Wf v => v = vI r := by
 unfold Vm.zl9 at hm
 refine zau.of Tryz.func54 rfl rfl rfl rfl (sr (Ni rfl (sr (mi rfl (mv a rfl (Lw.ln x0 k rfl (Lw.sub rfl (Ni rfl (ssr (mi rfl (Lw.lt rfl (nl (cn hm (fun hm => ?_) fun hm => ?_)))))))))))))
 ·exact sr (Ni rfl (.ret (rt hm (Le.refl _ _))))
 ·refine sk (ssr (Ni rfl (Cw.block ?_)))
  obtain ⟨B, C, hm⟩ := zbk hm
  refine Cw.loop 12 25 [1, 4, 5] (fun m l w => ∃ e b d f, CW.w f = w ∧ Le [] W0 f ∧ l = [vI e, vI b, vI d] ∧ Vm.ziG x0 B m e b d = some r) _ ⟨w64 (x1 - (x0.length : Int)), 0, 0, W0, rfl, Le.refl _ _, rfl, hm⟩ ?_
  rintro (_ | G) _ _ σ ⟨e, b, d, f, rfl, x, rfl, hm⟩
  ·cases hm
  unfold Vm.ziG at hm
  have h := x.o
  refine ssr ?_
  have i := k.ul h
  refine mi rfl (mv a rfl (Lw.ln x0 i rfl (Lw.lt rfl (nl (cn hm (fun hm => ?_) fun hm => ?_)))))
  ·refine sk (Cw.seq (Cw.block (sr (mv a rfl (mi rfl ?_)))))
   obtain ⟨y, z, hm⟩ := ob hm
   refine Lw.r rfl (R.ix (α := Head) i z rfl rfl rfl) ?_
   obtain ⟨x13, c14, _, r15⟩ := (i.at_ z).cells
   obtain rfl := Head.split r15
   refine Lw.r rfl (R.lda c14 rfl rfl) (mi rfl (ca hm (fun _ => p118 (Head.rd (K := [0]) y.Name y.At )) fun D E hm A => ?_))
   have F := h.n A
   refine Ni rfl (sr (mi rfl (Lw.lt rfl (nl (cn hm (fun hm => ?_) fun hm => ?_)))))
   ·exact sr (Ni rfl (.ret (rt hm F)))
   ·exact sk (rg (mi rfl (Lw.add rfl (Ni rfl ((agm) ⟨D, b, w64 (d + 1), E, rfl, (x.j A).w, rfl, hm⟩)))))
  ·refine Cw.exit ?_
   rw [C] at hm
   exact sr (mi rfl (Ni rfl (.ret (rt hm h))))
theorem p54 {x0 a x1 r} (b : Rd W K [a] x0) (hm : Vm.zl9 x0 x1 = some r) : Q1 54 [a, vI x1] W [] fun W' v => v = vI r :=
 (c54 (b.view _) hm).ad (fk 0) fun _ _ e => e
theorem c11 {x0 b d x1 r} (x : Rd W0 [0] [b, d] x0) (hm : Vm.zln x0 x1 = some r) : Q0 11 [.agg [b, d].toArray, vI x1] W0 fun Wf v => v = vI r := by
 unfold Vm.zln at hm
 obtain ⟨C, D, e, y, z⟩ := Repo.split x
 simp only [List.cons.injEq, and_true, true_and] at e
 obtain ⟨rfl, rfl⟩ := e
 refine zau.of Tryz.func11 rfl rfl rfl rfl (sr (bo 2 rfl fun E F A f => ?_))
 have h := A.o
 refine Ni rfl (sr (fl f rfl (mi rfl (ca hm (fun _ => p53 (y.ul h)) fun G H hm i => ?_))))
 have a := h.n i
 refine Ni rfl (ssr (mi rfl (Lw.lt rfl (nl (cn hm (fun hm => ?_) fun hm => ?_)))))
 ·exact sr (Ni rfl (.ret (rt hm a)))
 ·refine sk (sr (fl (f.up i) rfl (mi rfl (ca hm (fun _ => p54 (z.ul a)) fun I J hm B => ?_))))
  have k := a.n B
  refine Ni rfl (ssr (mi rfl (Lw.lt rfl (nl (cn hm (fun hm => ?_) fun hm => ?_)))))
  ·exact sr (Ni rfl (.ret (rt hm k)))
  ·exact sk (sr (mi rfl (Ni rfl (.ret (rt hm k)))))
theorem p11 {x0 a b x1 r} (d : Rd W K [a, b] x0) (hm : Vm.zln x0 x1 = some r) : Q1 11 [.agg [a, b].toArray, vI x1] W [] fun W' v => v = vI r :=
 (c11 (d.view _) hm).ad (fk 0) fun _ _ e => e
theorem c168 {x0 b r} (d : Rd W0 [0] [b] x0) (hm : Vm.znu x0 = some r) : Q0 168 [b] W0 fun Wf v => ∃ x, v = x ∧ OwS Wf LL [] [x] r := by
 unfold Vm.znu at hm
 refine zau.of Tryz.func168 rfl rfl rfl rfl (sr (Nv (.slice none 0 0) rfl (sr (mv b rfl (Lw.ln x0 d rfl ?_)))))
 obtain ⟨B, C, hm⟩ := ob hm
 refine Lw.t rfl (T.mk (α := Int) 2 [] (n := (x0.length : Int)) rfl rfl C) ?_
 rintro a _ ⟨y, rfl, D, E⟩
 have F := D.o
 refine Nv a rfl (ssr (Ni rfl (Cw.block ?_)))
 obtain ⟨G, H, hm⟩ := zbk hm
 refine Cw.loop 8 20 [4] (fun m l w => ∃ e i f, CW.w f = w ∧ Le [2] y f ∧ l = [vI e] ∧ Ow f 2 [] [a] i ∧ Vm.zjo x0 G m e i = some r) _ ⟨0, B, y, rfl, Le.refl _ _, rfl, E, hm⟩ ?_
 rintro (_ | O) _ _ σ ⟨e, i, f, rfl, z, rfl, k, hm⟩
 ·cases hm
 unfold Vm.zjo at hm
 have h := F.t z
 refine ssr (mi rfl (mv b rfl (Lw.ln x0 (d.ul h) rfl (Lw.lt rfl (nl (cn hm (fun hm => ?_) fun hm => ?_))))))
 ·refine sk (Cw.seq (Cw.block (rg (mv a rfl (mi rfl (mv b rfl (mi rfl ?_)))))))
  obtain ⟨P, A, hm⟩ := ob hm
  refine Lw.r rfl (R.ix (α := Int) (d.ul h) A rfl rfl rfl) (Lw.r rfl (R.ld rfl rfl ((d.ul h).at_ A).int) ?_)
  obtain ⟨Q, I, hm⟩ := ob hm
  refine Lw.r rfl (R.ix (α := Int) k.rd I rfl rfl rfl) ?_
  obtain ⟨J, K, hm⟩ := ob hm
  refine Lw.u (T.stS (K' := []) k (rdI _) K rfl rfl rfl) ?_
  rintro _ _ ⟨L, rfl, M, N⟩
  exact nl (rg (mi rfl (Lw.add rfl (Ni rfl ((agm) ⟨w64 (e + 1), J, L, rfl, (z.j M).w, rfl, N, hm⟩)))))
 ·refine Cw.exit ?_
  rw [H] at hm
  refine sr (mv a rfl (Nv a rfl ?_))
  cases hm
  exact Cw.ret (zjQ rfl (Res.mk h ⟨a, rfl, k.s.sub rfl rfl⟩))
theorem p168 {x0 b k0 r} (d : Rd W K [b] x0) (hm : Vm.znu x0 = some r) : Q1 168 [b] W [] fun W' v => ∃ a, v = a ∧ Ow W' k0 [] [a] r :=
 (c168 (d.view _) hm).ad (fk k0) fun _ _ ⟨a, e, f⟩ => ⟨a, e, f.back (ziE _)⟩
theorem c96 {x0 b r} (d : Rd W0 [0] [b] x0) (hm : Vm.zha x0 = some r) : Q0 96 [b] W0 fun Wf v => ∃ x, v = x ∧ OwS Wf LL [] [x] r := by
 unfold Vm.zha at hm
 refine zau.of Tryz.func96 rfl rfl rfl rfl (sr (Nv (.slice none 0 0) rfl (sr (mv b rfl (Lw.ln x0 d rfl ?_)))))
 obtain ⟨B, C, hm⟩ := ob hm
 refine Lw.t rfl (T.mk (α := Str) 2 [] (n := (x0.length : Int)) rfl rfl C) ?_
 rintro a _ ⟨y, rfl, D, E⟩
 have F := D.o
 refine Nv a rfl (ssr (Ni rfl (Cw.block ?_)))
 obtain ⟨G, H, hm⟩ := zbk hm
 refine Cw.loop 8 20 [4] (fun m l w => ∃ e i f, CW.w f = w ∧ Le [2] y f ∧ l = [vI e] ∧ Ow f 2 [] [a] i ∧ Vm.zef x0 G m e i = some r) _ ⟨0, B, y, rfl, Le.refl _ _, rfl, E, hm⟩ ?_
 rintro (_ | O) _ _ σ ⟨e, i, f, rfl, z, rfl, k, hm⟩
 ·cases hm
 unfold Vm.zef at hm
 have h := F.t z
 refine ssr (mi rfl (mv b rfl (Lw.ln x0 (d.ul h) rfl (Lw.lt rfl (nl (cn hm (fun hm => ?_) fun hm => ?_))))))
 ·refine sk (Cw.seq (Cw.block (rg (mv a rfl (mi rfl (mv b rfl (mi rfl ?_)))))))
  obtain ⟨P, A, hm⟩ := ob hm
  refine Lw.r rfl (R.ix (α := Str) (d.ul h) A rfl rfl rfl) (Lw.r rfl (R.ld rfl rfl ((d.ul h).at_ A).str) ?_)
  obtain ⟨Q, I, hm⟩ := ob hm
  refine Lw.r rfl (R.ix (α := Str) k.rd I rfl rfl rfl) ?_
  obtain ⟨J, K, hm⟩ := ob hm
  refine Lw.u (T.stS (K' := []) k (rdS _) K rfl rfl rfl) ?_
  rintro _ _ ⟨L, rfl, M, N⟩
  exact nl (rg (mi rfl (Lw.add rfl (Ni rfl ((agm) ⟨w64 (e + 1), J, L, rfl, (z.j M).w, rfl, N, hm⟩)))))
 ·refine Cw.exit ?_
  rw [H] at hm
  refine sr (mv a rfl (Nv a rfl ?_))
  cases hm
  exact Cw.ret (zjQ rfl (Res.mk h ⟨a, rfl, k.s.sub rfl rfl⟩))
theorem p96 {x0 b k0 r} (d : Rd W K [b] x0) (hm : Vm.zha x0 = some r) : Q1 96 [b] W [] fun W' v => ∃ a, v = a ∧ Ow W' k0 [] [a] r :=
 (c96 (d.view _) hm).ad (fk k0) fun _ _ ⟨a, e, f⟩ => ⟨a, e, f.back (ziE _)⟩
theorem c192 {x0 f r} (B : Rd W0 [0] [vS x0.Path, f] x0) (hm : Vm.znv x0 = some r) : Q0 192 [.agg [vS x0.Path, f].toArray] W0 fun Wf v => ∃ h, v = .agg [vS r.Path, h].toArray ∧ OwS Wf LL [] [h] r.Text := by
 unfold Vm.znv at hm
 obtain ⟨Q, i, C⟩ := File.split B
 simp only [List.cons.injEq, and_true, true_and] at i
 obtain rfl := i
 refine zau.of Tryz.func192 rfl rfl rfl rfl (sr (bo 2 rfl fun R S D E => ?_))
 have F := D.o
 refine al 3 [vS ([] : Str), .slice none 0 0] fun U V k G => ?_
 have H := F.n k
 refine nl (sr (al 4 [vS ([] : Str), .slice none 0 0] fun W X b I => ?_))
 have J := H.n b
 have x := (E.up k).up b
 refine nl (sr (fl x rfl (Lw.fa rfl (Lw.u (T.st (j := 0) (v := vS x0.Path) I rfl rfl rfl rfl rfl) ?_))))
 rintro _ _ ⟨Y, rfl, l10, K⟩
 have y := J.t l10
 refine nl (sr (fl (x.up l10) rfl (cr hm (fun _ => p96 (k0 := 5) (C.ul y)) ?_)))
 rintro Z z aa hm d ⟨_, rfl, e⟩
 have L := y.n d
 refine Lw.fa rfl (Lw.u (T.st (j := 1) (v := z) (K.up d) rfl rfl e.oc rfl rfl) ?_)
 rintro _ _ ⟨ac, rfl, a, M⟩
 have N := L.t a
 refine nl (sr (la M (sta ((((G.up b).up l10).up d).up a) (zaa rfl (zaa (e.up a).oc zaF)) fun ae A O => ?_)))
 have P := N.t A
 refine nl ?_
 cases hm
 exact Cw.ret (zov rfl O (Res.mk P ⟨z, rfl, ((e.up a).up A).s.sub rfl rfl⟩))
theorem p192 {x0 b k0 r} (d : Rd W K [vS x0.Path, b] x0) (hm : Vm.znv x0 = some r) : Q1 192 [.agg [vS x0.Path, b].toArray] W [] fun W' v => ∃ a, v = .agg [vS r.Path, a].toArray ∧ Ow W' k0 [] [a] r.Text :=
 (c192 (d.view _) hm).ad (fk k0) fun _ _ ⟨a, e, f⟩ => ⟨a, e, f.back (ziE _)⟩
theorem c169 {x0 b r} (d : Rd W0 [0] [b] x0) (hm : Vm.zma x0 = some r) : Q0 169 [b] W0 fun Wf v => ∃ y, v = y ∧ OwS Wf LL [] [y] r := by
 unfold Vm.zma at hm
 refine zau.of Tryz.func169 rfl rfl rfl rfl (sr (Nv (.slice none 0 0) rfl (sr (mv b rfl (Lw.ln x0 d rfl ?_)))))
 obtain ⟨E, F, hm⟩ := ob hm
 refine Lw.t rfl (T.mk (α := File) 2 [] (n := (x0.length : Int)) rfl rfl F) ?_
 rintro a _ ⟨z, rfl, G, H⟩
 have I := G.o
 refine Nv a rfl (ssr (Ni rfl (Cw.block ?_)))
 obtain ⟨L, M, hm⟩ := zbk hm
 refine Cw.loop 8 21 [4] (fun m l w => ∃ e i f, CW.w f = w ∧ Le [2, 3] z f ∧ l = [vI e] ∧ Ow f 2 [] [a] i ∧ Vm.ziH x0 L m e i = some r) _ ⟨0, E, z, rfl, Le.refl _ _, rfl, H, hm⟩ ?_
 rintro (_ | W) _ _ σ ⟨e, i, f, rfl, A, rfl, k, hm⟩
 ·cases hm
 unfold Vm.ziH at hm
 have h := I.t A
 refine ssr (mi rfl (mv b rfl (Lw.ln x0 (d.ul h) rfl (Lw.lt rfl (nl (cn hm (fun hm => ?_) fun hm => ?_))))))
 ·refine sk (Cw.seq (Cw.block (rg (mv a rfl (mi rfl (mv b rfl (mi rfl ?_)))))))
  obtain ⟨B, C, hm⟩ := ob hm
  refine Lw.r rfl (R.ix (α := File) (d.ul h) C rfl rfl rfl) ?_
  obtain ⟨x16, c17, _, r18⟩ := ((d.ul h).at_ C).cells
  obtain ⟨X, rfl, r20⟩ := File.split r18
  refine Lw.r rfl (R.lda c17 rfl rfl) (cr hm (fun _ => p192 (k0 := 3) (File.rd (K := [0]) B.Path B.Text r20)) ?_)
  rintro D _ Y hm x ⟨Z, rfl, N⟩
  obtain ⟨aa, O, hm⟩ := ob hm
  refine Lw.r rfl (R.ix (α := File) (k.up x).rd O rfl rfl rfl) ?_
  obtain ⟨P, Q, hm⟩ := ob hm
  refine Lw.u (T.stO (J := [3]) (k.up x) (File.own D.Path D.Text N.s) Q rfl rfl rfl) ?_
  rintro _ _ ⟨S, rfl, U, V⟩
  exact nl (rg (mi rfl (Lw.add rfl (Ni rfl ((agm) ⟨w64 (e + 1), P, S, rfl, ((A.j x).j U).w, rfl, V, hm⟩)))))
 ·refine Cw.exit ?_
  rw [M] at hm
  refine sr (mv a rfl (Nv a rfl ?_))
  cases hm
  exact Cw.ret (zjQ rfl (Res.mk h ⟨a, rfl, k.s.sub rfl rfl⟩))
theorem p169 {x0 b k0 r} (d : Rd W K [b] x0) (hm : Vm.zma x0 = some r) : Q1 169 [b] W [] fun W' v => ∃ a, v = a ∧ Ow W' k0 [] [a] r :=
 (c169 (d.view _) hm).ad (fk k0) fun _ _ ⟨a, e, f⟩ => ⟨a, e, f.back (ziE _)⟩
theorem c124 {x0 z A r} (N : Rd W0 [0] [z, vS x0.Who, A] x0) (hm : Vm.zlB x0 = some r) : Q0 124 [.agg [z, vS x0.Who, A].toArray] W0 fun Wf v => ∃ B C, v = .agg [B, vS r.Who, C].toArray ∧ OwS Wf [31] [] [B] r.Parents ∧ OwS Wf [32] [] [C] r.Tree := by
 unfold Vm.zlB at hm
 obtain ⟨aq, ar, D, O, P⟩ := Commit.split N
 simp only [List.cons.injEq, and_true, true_and] at D
 obtain ⟨rfl, rfl⟩ := D
 refine zau.of Tryz.func124 rfl rfl rfl rfl (sr (bo 2 rfl fun g1 W1 Q R => ?_))
 have S := Q.o
 refine al 3 [.slice none 0 0, vS ([] : Str), .slice none 0 0] fun g3 W3 E U => ?_
 have V := S.n E
 refine nl (sr (al 4 [.slice none 0 0, vS ([] : Str), .slice none 0 0] fun g6 W6 h W => ?_))
 have F := V.n h
 have G := (R.up E).up h
 refine nl (sr (fl G rfl (cr hm (fun _ => p168 (k0 := 5) (O.ul F)) ?_)))
 rintro a0 H a1 hm b ⟨_, rfl, I⟩
 have X := F.n b
 refine Lw.fa rfl (Lw.u (T.st (j := 0) (v := H) (W.up b) rfl rfl I.oc rfl rfl) ?_)
 rintro _ _ ⟨a3, rfl, d, Y⟩
 have Z := X.t d
 have J := (G.up b).up d
 refine nl (sr (fl J rfl (Lw.fa rfl (Lw.u (T.st (j := 1) (v := vS x0.Who) Y rfl rfl rfl rfl rfl) ?_))))
 rintro _ _ ⟨a5, rfl, e, aa⟩
 have K := Z.t e
 refine nl (sr (fl (J.up e) rfl (cr hm (fun _ => p169 (k0 := 6) (P.ul K)) ?_)))
 rintro a6 L a8 hm f ⟨_, rfl, i⟩
 have ac := K.n f
 refine Lw.fa rfl (Lw.u (T.st (j := 2) (v := L) (aa.up f) rfl rfl i.oc rfl rfl) ?_)
 rintro _ _ ⟨a9, rfl, a, ae⟩
 have af := ac.t a
 have M := (((I.up d).up e).up f).up a
 refine nl (sr (la ae (sta ((((((U.up h).up b).up d).up e).up f).up a) (zaa M.oc (zaa rfl (zaa (i.up a).oc zaF))) fun ba k ah => ?_)))
 have ai := af.t k
 refine nl ?_
 obtain ⟨bb, aj, x, ak⟩ := (M.up k).dyeO 31
 have am := ai.t x
 obtain ⟨bc, an, y, ao⟩ := (((i.up a).up k).up x).dyeO 32
 have ap := am.t y
 cases hm
 rw [← an.trans (aj)]
 exact Cw.ret (zov rfl ((ah.up x).up y) (Res.mk ap ⟨H, L, rfl, (ak.up y).s, ao.s⟩))
theorem p124 {x0 d f k0 k1 r} (h : Rd W K [d, vS x0.Who, f] x0) (hm : Vm.zlB x0 = some r) : Q1 124 [.agg [d, vS x0.Who, f].toArray] W [] fun W' v => ∃ a b, v = .agg [a, vS r.Who, b].toArray ∧ Ow W' k0 [] [a] r.Parents ∧ Ow W' k1 [] [b] r.Tree :=
 zau.adJ (J := []) (fun c => bif Nat.beq c 0 then 0 else bif Nat.beq c 31 then k0 else bif Nat.beq c 32 then k1 else 0) (c124 (h.view _) hm) fun _ _ ⟨a, b, e, i, k⟩ => ⟨a, b, e, i.one1.backN rfl, k.one1.backN rfl⟩
theorem c63 {x0 b r} (d : Rd W0 [0] [b] x0) (hm : Vm.zkp x0 = some r) : Q0 63 [b] W0 fun Wf v => ∃ A, v = A ∧ OwS Wf LL [] [A] r := by
 unfold Vm.zkp at hm
 refine zau.of Tryz.func63 rfl rfl rfl rfl (sr (Nv (.slice none 0 0) rfl (sr (mv b rfl (Lw.ln x0 d rfl ?_)))))
 obtain ⟨E, F, hm⟩ := ob hm
 refine Lw.t rfl (T.mk (α := Commit) 2 [] (n := (x0.length : Int)) rfl rfl F) ?_
 rintro a _ ⟨B, rfl, G, H⟩
 have I := G.o
 refine Nv a rfl (ssr (Ni rfl (Cw.block ?_)))
 obtain ⟨L, M, hm⟩ := zbk hm
 refine Cw.loop 8 21 [4] (fun m l w => ∃ e i f, CW.w f = w ∧ Le [2, 3, 4] B f ∧ l = [vI e] ∧ Ow f 2 [] [a] i ∧ Vm.zgP x0 L m e i = some r) _ ⟨0, E, B, rfl, Le.refl _ _, rfl, H, hm⟩ ?_
 rintro (_ | X) _ _ σ ⟨e, i, f, rfl, C, rfl, k, hm⟩
 ·cases hm
 unfold Vm.zgP at hm
 have h := I.t C
 refine ssr (mi rfl (mv b rfl (Lw.ln x0 (d.ul h) rfl (Lw.lt rfl (nl (cn hm (fun hm => ?_) fun hm => ?_))))))
 ·refine sk (Cw.seq (Cw.block (rg (mv a rfl (mi rfl (mv b rfl (mi rfl ?_)))))))
  obtain ⟨x, D, hm⟩ := ob hm
  refine Lw.r rfl (R.ix (α := Commit) (d.ul h) D rfl rfl rfl) ?_
  obtain ⟨x16, c17, _, r18⟩ := ((d.ul h).at_ D).cells
  obtain ⟨Y, Z, rfl, r20, r22⟩ := Commit.split r18
  refine Lw.r rfl (R.lda c17 rfl rfl) (cr hm (fun _ => p124 (k0 := 3) (k1 := 4) (Commit.rd (K := [0]) x.Parents x.Who x.Tree r20 r22)) ?_)
  rintro y _ aa hm z ⟨ac, ae, rfl, N, O⟩
  obtain ⟨af, P, hm⟩ := ob hm
  refine Lw.r rfl (R.ix (α := Commit) (k.up z).rd P rfl rfl rfl) ?_
  obtain ⟨Q, S, hm⟩ := ob hm
  refine Lw.u (T.stO (J := [3, 4]) (k.up z) (Commit.own y.Parents y.Who y.Tree N.s O.s) S rfl rfl rfl) ?_
  rintro _ _ ⟨U, rfl, V, W⟩
  exact nl (rg (mi rfl (Lw.add rfl (Ni rfl ((agm) ⟨w64 (e + 1), Q, U, rfl, ((C.j z).j V).w, rfl, W, hm⟩)))))
 ·refine Cw.exit ?_
  rw [M] at hm
  refine sr (mv a rfl (Nv a rfl ?_))
  cases hm
  exact Cw.ret (zjQ rfl (Res.mk h ⟨a, rfl, k.s.sub rfl rfl⟩))
theorem p63 {x0 b k0 r} (d : Rd W K [b] x0) (hm : Vm.zkp x0 = some r) : Q1 63 [b] W [] fun W' v => ∃ a, v = a ∧ Ow W' k0 [] [a] r :=
 (c63 (d.view _) hm).ad (fk k0) fun _ _ ⟨a, e, f⟩ => ⟨a, e, f.back (ziE _)⟩
theorem c125 {x0 r} (H : Rd W0 [0] [vS x0.Name, vI x0.At] x0) (hm : Vm.znw x0 = some r) : Q0 125 [.agg [vS x0.Name, vI x0.At].toArray] W0 fun Wf v => v = .agg [vS r.Name, vI r.At].toArray := by
 unfold Vm.znw at hm
 refine zau.of Tryz.func125 rfl rfl rfl rfl (sr (bo 2 rfl fun I J f h => ?_))
 have i := f.o
 refine al 3 [vS ([] : Str), vI 0] fun K L b k => ?_
 have x := i.n b
 refine nl (sr (al 4 [vS ([] : Str), vI 0] fun M N a y => ?_))
 have z := x.n a
 have d := (h.up b).up a
 refine nl (sr (fl d rfl (Lw.fa rfl (Lw.u (T.st (j := 0) (v := vS x0.Name) y rfl rfl rfl rfl rfl) ?_))))
 rintro _ _ ⟨O, rfl, l10, A⟩
 have B := z.t l10
 refine nl (sr (fl (d.up l10) rfl (Lw.fa rfl (Lw.u (T.st (j := 1) (v := vI x0.At) A rfl rfl rfl rfl rfl) ?_))))
 rintro _ _ ⟨P, rfl, e, C⟩
 have D := B.t e
 refine nl (sr (la C (sta (((k.up a).up l10).up e) (zaa rfl (zaa rfl zaF)) fun Q E F => ?_)))
 have G := D.t E
 refine nl ?_
 cases hm
 exact Cw.ret (zov rfl F (Res.mk G rfl))
theorem p125 {x0 r} (a : Rd W K [vS x0.Name, vI x0.At] x0) (hm : Vm.znw x0 = some r) : Q1 125 [.agg [vS x0.Name, vI x0.At].toArray] W [] fun W' v => v = .agg [vS r.Name, vI r.At].toArray :=
 (c125 (a.view _) hm).ad (fk 0) fun _ _ e => e
theorem c64 {x0 b r} (d : Rd W0 [0] [b] x0) (hm : Vm.zmb x0 = some r) : Q0 64 [b] W0 fun Wf v => ∃ y, v = y ∧ OwS Wf LL [] [y] r := by
 unfold Vm.zmb at hm
 refine zau.of Tryz.func64 rfl rfl rfl rfl (sr (Nv (.slice none 0 0) rfl (sr (mv b rfl (Lw.ln x0 d rfl ?_)))))
 obtain ⟨E, F, hm⟩ := ob hm
 refine Lw.t rfl (T.mk (α := Head) 2 [] (n := (x0.length : Int)) rfl rfl F) ?_
 rintro a _ ⟨z, rfl, G, H⟩
 have I := G.o
 refine Nv a rfl (ssr (Ni rfl (Cw.block ?_)))
 obtain ⟨J, L, hm⟩ := zbk hm
 refine Cw.loop 8 21 [4] (fun m l w => ∃ e i f, CW.w f = w ∧ Le [2] z f ∧ l = [vI e] ∧ Ow f 2 [] [a] i ∧ Vm.ziI x0 J m e i = some r) _ ⟨0, E, z, rfl, Le.refl _ _, rfl, H, hm⟩ ?_
 rintro (_ | U) _ _ σ ⟨e, i, f, rfl, A, rfl, k, hm⟩
 ·cases hm
 unfold Vm.ziI at hm
 have h := I.t A
 refine ssr (mi rfl (mv b rfl (Lw.ln x0 (d.ul h) rfl (Lw.lt rfl (nl (cn hm (fun hm => ?_) fun hm => ?_))))))
 ·refine sk (Cw.seq (Cw.block (rg (mv a rfl (mi rfl (mv b rfl (mi rfl ?_)))))))
  obtain ⟨B, C, hm⟩ := ob hm
  refine Lw.r rfl (R.ix (α := Head) (d.ul h) C rfl rfl rfl) ?_
  obtain ⟨x16, c17, _, r18⟩ := ((d.ul h).at_ C).cells
  obtain rfl := Head.split r18
  refine Lw.r rfl (R.lda c17 rfl rfl) (ca hm (fun _ => p125 (Head.rd (K := [0]) B.Name B.At )) fun D V hm x => ?_)
  obtain ⟨W, M, hm⟩ := ob hm
  refine Lw.r rfl (R.ix (α := Head) (k.up x).rd M rfl rfl rfl) ?_
  obtain ⟨N, O, hm⟩ := ob hm
  refine Lw.u (T.stS (K' := []) (k.up x) (Head.rd (K := []) D.Name D.At) O rfl rfl rfl) ?_
  rintro _ _ ⟨P, rfl, Q, S⟩
  exact nl (rg (mi rfl (Lw.add rfl (Ni rfl ((agm) ⟨w64 (e + 1), N, P, rfl, ((A.j x).j Q).w, rfl, S, hm⟩)))))
 ·refine Cw.exit ?_
  rw [L] at hm
  refine sr (mv a rfl (Nv a rfl ?_))
  cases hm
  exact Cw.ret (zjQ rfl (Res.mk h ⟨a, rfl, k.s.sub rfl rfl⟩))
theorem p64 {x0 b k0 r} (d : Rd W K [b] x0) (hm : Vm.zmb x0 = some r) : Q1 64 [b] W [] fun W' v => ∃ a, v = a ∧ Ow W' k0 [] [a] r :=
 (c64 (d.view _) hm).ad (fk k0) fun _ _ ⟨a, e, f⟩ => ⟨a, e, f.back (ziE _)⟩
theorem c13 {x0 y z r} (L : Rd W0 [0] [y, z] x0) (hm : Vm.zeU x0 = some r) : Q0 13 [.agg [y, z].toArray] W0 fun Wf v => ∃ A B, v = .agg [A, B].toArray ∧ OwS Wf [31] [] [A] r.Commits ∧ OwS Wf [32] [] [B] r.Heads := by
 unfold Vm.zeU at hm
 obtain ⟨am, an, C, M, N⟩ := Repo.split L
 simp only [List.cons.injEq, and_true, true_and] at C
 obtain ⟨rfl, rfl⟩ := C
 refine zau.of Tryz.func13 rfl rfl rfl rfl (sr (bo 2 rfl fun g1 W1 O P => ?_))
 have Q := O.o
 refine al 3 [.slice none 0 0, .slice none 0 0] fun g3 W3 D R => ?_
 have S := Q.n D
 refine nl (sr (al 4 [.slice none 0 0, .slice none 0 0] fun g6 W6 f U => ?_))
 have E := S.n f
 have F := (P.up D).up f
 refine nl (sr (fl F rfl (cr hm (fun _ => p63 (k0 := 5) (M.ul E)) ?_)))
 rintro aw G ax hm b ⟨_, rfl, H⟩
 have V := E.n b
 refine Lw.fa rfl (Lw.u (T.st (j := 0) (v := G) (U.up b) rfl rfl H.oc rfl rfl) ?_)
 rintro _ _ ⟨ay, rfl, d, W⟩
 have I := V.t d
 refine nl (sr (fl ((F.up b).up d) rfl (cr hm (fun _ => p64 (k0 := 6) (N.ul I)) ?_)))
 rintro az J a0 hm e ⟨_, rfl, h⟩
 have X := I.n e
 refine Lw.fa rfl (Lw.u (T.st (j := 1) (v := J) (W.up e) rfl rfl h.oc rfl rfl) ?_)
 rintro _ _ ⟨a1, rfl, a, Y⟩
 have Z := X.t a
 have K := ((H.up d).up e).up a
 refine nl (sr (la Y (sta (((((R.up f).up b).up d).up e).up a) (zaa K.oc (zaa (h.up a).oc zaF)) fun a3 i aa => ?_)))
 have ac := Z.t i
 refine nl ?_
 obtain ⟨a5, ae, k, af⟩ := (K.up i).dyeO 31
 have ah := ac.t k
 obtain ⟨a6, ai, x, aj⟩ := (((h.up a).up i).up k).dyeO 32
 have ak := ah.t x
 cases hm
 rw [← ai.trans (ae)]
 exact Cw.ret (zov rfl ((aa.up k).up x) (Res.mk ak ⟨G, J, rfl, (af.up x).s, aj.s⟩))
theorem p13 {x0 d f k0 k1 r} (h : Rd W K [d, f] x0) (hm : Vm.zeU x0 = some r) : Q1 13 [.agg [d, f].toArray] W [] fun W' v => ∃ a b, v = .agg [a, b].toArray ∧ Ow W' k0 [] [a] r.Commits ∧ Ow W' k1 [] [b] r.Heads :=
 zau.adJ (J := []) (fun c => bif Nat.beq c 0 then 0 else bif Nat.beq c 31 then k0 else bif Nat.beq c 32 then k1 else 0) (c13 (h.view _) hm) fun _ _ ⟨a, b, e, i, k⟩ => ⟨a, b, e, i.one1.backN rfl, k.one1.backN rfl⟩
theorem c171 {x0 b x1 e r} (d : Rd W0 [0] [b] x0) (f : Rd W0 [0] [e] x1) (hm : Vm.znx x0 x1 = some r) : Q0 171 [b, e] W0 fun Wf v => v = vB r := by
 unfold Vm.znx at hm
 refine zau.of Tryz.func171 rfl rfl rfl rfl (sr (Nb rfl (ssr (mv b rfl (Lw.ln x0 d rfl (mv e rfl (Lw.ln x1 f rfl (Lw.ne rfl (nl (cn hm (fun hm => ?_) fun hm => ?_))))))))))
 ·exact sr (Nb rfl (.ret (rt hm (Le.refl _ _))))
 ·refine sk (ssr (Ni rfl (Cw.block ?_)))
  obtain ⟨B, C, hm⟩ := zbk hm
  refine Cw.loop 11 25 [4, 5] (fun m l w => ∃ h i k, CW.w k = w ∧ Le [] W0 k ∧ l = [vB h, vI i] ∧ Vm.zjp x0 x1 B m h i = some r) _ ⟨false, 0, W0, rfl, Le.refl _ _, rfl, hm⟩ ?_
  rintro (_ | E) _ _ σ ⟨h, i, k, rfl, A, rfl, hm⟩
  ·cases hm
  unfold Vm.zjp at hm
  have x := A.o
  refine ssr (mi rfl (mv b rfl (Lw.ln x0 (d.ul x) rfl (Lw.lt rfl (nl (cn hm (fun hm => ?_) fun hm => ?_))))))
  ·refine sk (Cw.seq (Cw.block (Cw.seq (Cw.draw [] [(0, 0), (1, 0), (2, 0), (3, 1), (4, 0), (5, 0), (6, 0), (7, 1), (8, 0)] mixed (by kernel_rfl) fun D l10 => ?_))))
   have a := x.n l10
   refine Dv b rfl (Di rfl ?_)
   obtain ⟨F, y, hm⟩ := ob hm
   refine Mw.p rfl rfl (fun _ => R.ix (α := Int) (d.ul a) y rfl rfl rfl) (Mw.q rfl rfl (fun _ c => R.ld rfl rfl (zaz ((d.ul a).at_ y).1 rfl ((d.ul a).at_ y).int c)) (Dv e rfl (Di rfl ?_)))
   obtain ⟨G, z, hm⟩ := ob hm
   refine Mw.p rfl rfl (fun _ => R.ix (α := Int) (f.ul a) z rfl rfl rfl) (Mw.q rfl rfl (fun _ c => R.ld rfl rfl (zaz ((f.ul a).at_ z).1 rfl ((f.ul a).at_ z).int c)) (Mw.p rfl rfl (fun _ => R.ne rfl rfl) (Mw.nil (cn hm (fun hm => ?_) fun hm => ?_))))
   ·exact sr (Nb rfl (.ret (rt hm a)))
   ·exact sk (rg (mi rfl (Lw.add rfl (Ni rfl ((agm) ⟨h, w64 (i + 1), D, rfl, (A.j l10).w, rfl, hm⟩)))))
  ·refine Cw.exit ?_
   rw [C] at hm
   exact sr (Nb rfl (.ret (rt hm x)))
theorem p171 {x0 a x1 b r} (d : Rd W K [a] x0) (f : Rd W K [b] x1) (hm : Vm.znx x0 x1 = some r) : Q1 171 [a, b] W [] fun W' v => v = vB r :=
 (c171 (d.view _) (f.view _) hm).ad (fk 0) fun _ _ e => e
theorem c31 {x0 b x1 e r} (d : Rd W0 [0] [b] x0) (f : Rd W0 [0] [e] x1) (hm : Vm.zeW x0 x1 = some r) : Q0 31 [b, e] W0 fun Wf v => v = vB r := by
 unfold Vm.zeW at hm
 refine zau.of Tryz.func31 rfl rfl rfl rfl (sr (Nb rfl (ssr (mv b rfl (Lw.ln x0 d rfl (mv e rfl (Lw.ln x1 f rfl (Lw.ne rfl (nl (cn hm (fun hm => ?_) fun hm => ?_))))))))))
 ·exact sr (Nb rfl (.ret (rt hm (Le.refl _ _))))
 ·refine sk (ssr (Ni rfl (Cw.block ?_)))
  obtain ⟨B, C, hm⟩ := zbk hm
  refine Cw.loop 11 25 [4, 5] (fun m l w => ∃ h i k, CW.w k = w ∧ Le [] W0 k ∧ l = [vB h, vI i] ∧ Vm.zeg x0 x1 B m h i = some r) _ ⟨false, 0, W0, rfl, Le.refl _ _, rfl, hm⟩ ?_
  rintro (_ | E) _ _ σ ⟨h, i, k, rfl, A, rfl, hm⟩
  ·cases hm
  unfold Vm.zeg at hm
  have x := A.o
  refine ssr (mi rfl (mv b rfl (Lw.ln x0 (d.ul x) rfl (Lw.lt rfl (nl (cn hm (fun hm => ?_) fun hm => ?_))))))
  ·refine sk (Cw.seq (Cw.block (Cw.seq (Cw.draw [] [(0, 0), (1, 0), (2, 0), (3, 1), (4, 0), (5, 0), (6, 0), (7, 1), (8, 0)] mixed (by kernel_rfl) fun D l10 => ?_))))
   have a := x.n l10
   refine Dv b rfl (Di rfl ?_)
   obtain ⟨F, y, hm⟩ := ob hm
   refine Mw.p rfl rfl (fun _ => R.ix (α := Str) (d.ul a) y rfl rfl rfl) (Mw.q rfl rfl (fun _ c => R.ld rfl rfl (zaz ((d.ul a).at_ y).1 rfl ((d.ul a).at_ y).str c)) (Dv e rfl (Di rfl ?_)))
   obtain ⟨G, z, hm⟩ := ob hm
   refine Mw.p rfl rfl (fun _ => R.ix (α := Str) (f.ul a) z rfl rfl rfl) (Mw.q rfl rfl (fun _ c => R.ld rfl rfl (zaz ((f.ul a).at_ z).1 rfl ((f.ul a).at_ z).str c)) (Mw.p rfl rfl (fun _ => R.sne rfl rfl) (Mw.nil (cn hm (fun hm => ?_) fun hm => ?_))))
   ·exact sr (Nb rfl (.ret (rt hm a)))
   ·exact sk (rg (mi rfl (Lw.add rfl (Ni rfl ((agm) ⟨h, w64 (i + 1), D, rfl, (A.j l10).w, rfl, hm⟩)))))
  ·refine Cw.exit ?_
   rw [C] at hm
   exact sr (Nb rfl (.ret (rt hm x)))
theorem p31 {x0 a x1 b r} (d : Rd W K [a] x0) (f : Rd W K [b] x1) (hm : Vm.zeW x0 x1 = some r) : Q1 31 [a, b] W [] fun W' v => v = vB r :=
 (c31 (d.view _) (f.view _) hm).ad (fk 0) fun _ _ e => e
theorem c195 {x0 d x1 e r} (y : Rd W0 [0] [vS x0.Path, d] x0) (z : Rd W0 [0] [vS x1.Path, e] x1) (hm : Vm.zny x0 x1 = some r) : Q0 195 [.agg [vS x0.Path, d].toArray, .agg [vS x1.Path, e].toArray] W0 fun Wf v => v = vB r := by
 unfold Vm.zny at hm
 obtain ⟨F, f, A⟩ := File.split y
 simp only [List.cons.injEq, and_true, true_and] at f
 obtain rfl := f
 obtain ⟨G, h, B⟩ := File.split z
 simp only [List.cons.injEq, and_true, true_and] at h
 obtain rfl := h
 refine zau.of Tryz.func195 rfl rfl rfl rfl (sr (bo 2 rfl fun H I C i => ?_))
 have D := C.o
 refine bo 3 rfl fun J K b k => ?_
 have a := D.n b
 refine Nb rfl (ssr (fl (i.up b) rfl (fl k rfl (Lw.sne rfl (nl (cn hm (fun hm => ?_) fun hm => ?_))))))
 ·exact sr (Nb rfl (.ret (rt hm a)))
 ·refine sk (ssr (fl (i.up b) rfl (fl k rfl (ca hm (fun _ => p31 (A.ul a) (B.ul a)) fun L M hm E => ?_))))
  have x := a.n E
  refine Lw.r rfl (R.not rfl) (nl (cn hm (fun hm => ?_) fun hm => ?_))
  ·exact sr (Nb rfl (.ret (rt hm x)))
  ·exact sk (sr (Nb rfl (.ret (rt hm x))))
theorem p195 {x0 a x1 b r} (d : Rd W K [vS x0.Path, a] x0) (f : Rd W K [vS x1.Path, b] x1) (hm : Vm.zny x0 x1 = some r) : Q1 195 [.agg [vS x0.Path, a].toArray, .agg [vS x1.Path, b].toArray] W [] fun W' v => v = vB r :=
 (c195 (d.view _) (f.view _) hm).ad (fk 0) fun _ _ e => e
theorem c172 {x0 b x1 e r} (d : Rd W0 [0] [b] x0) (f : Rd W0 [0] [e] x1) (hm : Vm.zmc x0 x1 = some r) : Q0 172 [b, e] W0 fun Wf v => v = vB r := by
 unfold Vm.zmc at hm
 refine zau.of Tryz.func172 rfl rfl rfl rfl (sr (Nb rfl (ssr (mv b rfl (Lw.ln x0 d rfl (mv e rfl (Lw.ln x1 f rfl (Lw.ne rfl (nl (cn hm (fun hm => ?_) fun hm => ?_))))))))))
 ·exact sr (Nb rfl (.ret (rt hm (Le.refl _ _))))
 ·refine sk (ssr (Ni rfl (Cw.block ?_)))
  obtain ⟨E, F, hm⟩ := zbk hm
  refine Cw.loop 11 26 [4, 5] (fun m l w => ∃ h i k, CW.w k = w ∧ Le [] W0 k ∧ l = [vB h, vI i] ∧ Vm.ziJ x0 x1 E m h i = some r) _ ⟨false, 0, W0, rfl, Le.refl _ _, rfl, hm⟩ ?_
  rintro (_ | J) _ _ σ ⟨h, i, k, rfl, A, rfl, hm⟩
  ·cases hm
  unfold Vm.ziJ at hm
  have x := A.o
  refine ssr (mi rfl (mv b rfl (Lw.ln x0 (d.ul x) rfl (Lw.lt rfl (nl (cn hm (fun hm => ?_) fun hm => ?_))))))
  ·refine sk (Cw.seq (Cw.block (Cw.seq (Cw.draw [] [(0, 0), (1, 0), (2, 0), (3, 1), (4, 0), (5, 0), (6, 0), (7, 1), (8, 3), (9, 0)] mixed (by kernel_rfl) fun L l10 => ?_))))
   have a := x.n l10
   refine Dv b rfl (Di rfl ?_)
   obtain ⟨B, y, hm⟩ := ob hm
   refine Mw.p rfl rfl (fun _ => R.ix (α := File) (d.ul a) y rfl rfl rfl) ?_
   obtain ⟨x15, c16, _, r17⟩ := ((d.ul a).at_ y).cells
   obtain ⟨M, rfl, r19⟩ := File.split r17
   refine Mw.q rfl rfl (fun _ c => R.lda (zlO ((d.ul a).at_ y).1 rfl c16 c) rfl rfl) (Dv e rfl (Di rfl ?_))
   obtain ⟨C, z, hm⟩ := ob hm
   refine Mw.p rfl rfl (fun _ => R.ix (α := File) (f.ul a) z rfl rfl rfl) ?_
   obtain ⟨x23, c24, _, r25⟩ := ((f.ul a).at_ z).cells
   obtain ⟨N, rfl, r27⟩ := File.split r25
   refine Mw.q rfl rfl (fun _ c => R.lda (zlO ((f.ul a).at_ z).1 rfl c24 c) rfl rfl) ?_
   obtain ⟨O, G, hm⟩ := ob hm
   refine Mw.l rfl rfl (T.call rfl (p195  (File.rd (K := [0]) B.Path B.Text r19) (File.rd (K := [0]) C.Path C.Text r27) G)) ?_
   rintro _ _ ⟨H, rfl, D, rfl⟩
   have I := a.n D
   refine Mw.p rfl rfl (fun _ => R.not rfl) (Mw.nil (cn hm (fun hm => ?_) fun hm => ?_))
   ·exact sr (Nb rfl (.ret (rt hm I)))
   ·exact sk (rg (mi rfl (Lw.add rfl (Ni rfl ((agm) ⟨h, w64 (i + 1), H, rfl, ((A.j l10).j D).w, rfl, hm⟩)))))
  ·refine Cw.exit ?_
   rw [F] at hm
   exact sr (Nb rfl (.ret (rt hm x)))
theorem p172 {x0 a x1 b r} (d : Rd W K [a] x0) (f : Rd W K [b] x1) (hm : Vm.zmc x0 x1 = some r) : Q1 172 [a, b] W [] fun W' v => v = vB r :=
 (c172 (d.view _) (f.view _) hm).ad (fk 0) fun _ _ e => e
theorem c130 {x0 f h x1 i k r} (C : Rd W0 [0] [f, vS x0.Who, h] x0) (D : Rd W0 [0] [i, vS x1.Who, k] x1) (hm : Vm.zlC x0 x1 = some r) : Q0 130 [.agg [f, vS x0.Who, h].toArray, .agg [i, vS x1.Who, k].toArray] W0 fun Wf v => v = vB r := by
 unfold Vm.zlC at hm
 obtain ⟨L, M, x, E, F⟩ := Commit.split C
 simp only [List.cons.injEq, and_true, true_and] at x
 obtain ⟨rfl, rfl⟩ := x
 obtain ⟨N, O, y, G, H⟩ := Commit.split D
 simp only [List.cons.injEq, and_true, true_and] at y
 obtain ⟨rfl, rfl⟩ := y
 refine zau.of Tryz.func130 rfl rfl rfl rfl (sr (bo 2 rfl fun P Q I z => ?_))
 have J := I.o
 refine bo 3 rfl fun S T b d => ?_
 have e := J.n b
 refine Nb rfl (ssr (fl (z.up b) rfl (fl d rfl (ca hm (fun _ => p171 (E.ul e) (G.ul e)) fun U V hm l10 => ?_))))
 have a := e.n l10
 have A := (z.up b).up l10
 refine Lw.r rfl (R.not rfl) (nl (cn hm (fun hm => ?_) fun hm => ?_))
 ·exact sr (Nb rfl (.ret (rt hm a)))
 ·refine sk (ssr (fl A rfl (fl (d.up l10) rfl (Lw.sne rfl (nl (cn hm (fun hm => ?_) fun hm => ?_))))))
  ·exact sr (Nb rfl (.ret (rt hm a)))
  ·refine sk (ssr (fl A rfl (fl (d.up l10) rfl (ca hm (fun _ => p172 (F.ul a) (H.ul a)) fun W X hm K => ?_))))
   have B := a.n K
   refine Lw.r rfl (R.not rfl) (nl (cn hm (fun hm => ?_) fun hm => ?_))
   ·exact sr (Nb rfl (.ret (rt hm B)))
   ·exact sk (sr (Nb rfl (.ret (rt hm B))))
theorem p130 {x0 a b x1 d f r} (h : Rd W K [a, vS x0.Who, b] x0) (i : Rd W K [d, vS x1.Who, f] x1) (hm : Vm.zlC x0 x1 = some r) : Q1 130 [.agg [a, vS x0.Who, b].toArray, .agg [d, vS x1.Who, f].toArray] W [] fun W' v => v = vB r :=
 (c130 (h.view _) (i.view _) hm).ad (fk 0) fun _ _ e => e
theorem c71 {x0 b x1 e r} (d : Rd W0 [0] [b] x0) (f : Rd W0 [0] [e] x1) (hm : Vm.zkq x0 x1 = some r) : Q0 71 [b, e] W0 fun Wf v => v = vB r := by
 unfold Vm.zkq at hm
 refine zau.of Tryz.func71 rfl rfl rfl rfl (sr (Nb rfl (ssr (mv b rfl (Lw.ln x0 d rfl (mv e rfl (Lw.ln x1 f rfl (Lw.ne rfl (nl (cn hm (fun hm => ?_) fun hm => ?_))))))))))
 ·exact sr (Nb rfl (.ret (rt hm (Le.refl _ _))))
 ·refine sk (ssr (Ni rfl (Cw.block ?_)))
  obtain ⟨E, F, hm⟩ := zbk hm
  refine Cw.loop 11 26 [4, 5] (fun m l w => ∃ h i k, CW.w k = w ∧ Le [] W0 k ∧ l = [vB h, vI i] ∧ Vm.zgQ x0 x1 E m h i = some r) _ ⟨false, 0, W0, rfl, Le.refl _ _, rfl, hm⟩ ?_
  rintro (_ | J) _ _ σ ⟨h, i, k, rfl, C, rfl, hm⟩
  ·cases hm
  unfold Vm.zgQ at hm
  have x := C.o
  refine ssr (mi rfl (mv b rfl (Lw.ln x0 (d.ul x) rfl (Lw.lt rfl (nl (cn hm (fun hm => ?_) fun hm => ?_))))))
  ·refine sk (Cw.seq (Cw.block (Cw.seq (Cw.draw [] [(0, 0), (1, 0), (2, 0), (3, 1), (4, 0), (5, 0), (6, 0), (7, 1), (8, 3), (9, 0)] mixed (by kernel_rfl) fun L l10 => ?_))))
   have a := x.n l10
   refine Dv b rfl (Di rfl ?_)
   obtain ⟨y, z, hm⟩ := ob hm
   refine Mw.p rfl rfl (fun _ => R.ix (α := Commit) (d.ul a) z rfl rfl rfl) ?_
   obtain ⟨x15, c16, _, r17⟩ := ((d.ul a).at_ z).cells
   obtain ⟨M, N, rfl, r19, r21⟩ := Commit.split r17
   refine Mw.q rfl rfl (fun _ c => R.lda (zlO ((d.ul a).at_ z).1 rfl c16 c) rfl rfl) (Dv e rfl (Di rfl ?_))
   obtain ⟨A, B, hm⟩ := ob hm
   refine Mw.p rfl rfl (fun _ => R.ix (α := Commit) (f.ul a) B rfl rfl rfl) ?_
   obtain ⟨x25, c26, _, r27⟩ := ((f.ul a).at_ B).cells
   obtain ⟨O, P, rfl, r29, r31⟩ := Commit.split r27
   refine Mw.q rfl rfl (fun _ c => R.lda (zlO ((f.ul a).at_ B).1 rfl c26 c) rfl rfl) ?_
   obtain ⟨Q, G, hm⟩ := ob hm
   refine Mw.l rfl rfl (T.call rfl (p130  (Commit.rd (K := [0]) y.Parents y.Who y.Tree r19 r21) (Commit.rd (K := [0]) A.Parents A.Who A.Tree r29 r31) G)) ?_
   rintro _ _ ⟨H, rfl, D, rfl⟩
   have I := a.n D
   refine Mw.p rfl rfl (fun _ => R.not rfl) (Mw.nil (cn hm (fun hm => ?_) fun hm => ?_))
   ·exact sr (Nb rfl (.ret (rt hm I)))
   ·exact sk (rg (mi rfl (Lw.add rfl (Ni rfl ((agm) ⟨h, w64 (i + 1), H, rfl, ((C.j l10).j D).w, rfl, hm⟩)))))
  ·refine Cw.exit ?_
   rw [F] at hm
   exact sr (Nb rfl (.ret (rt hm x)))
theorem p71 {x0 a x1 b r} (d : Rd W K [a] x0) (f : Rd W K [b] x1) (hm : Vm.zkq x0 x1 = some r) : Q1 71 [a, b] W [] fun W' v => v = vB r :=
 (c71 (d.view _) (f.view _) hm).ad (fk 0) fun _ _ e => e
theorem c131 {x0 x1 r} (i : Rd W0 [0] [vS x0.Name, vI x0.At] x0) (k : Rd W0 [0] [vS x1.Name, vI x1.At] x1) (hm : Vm.znz x0 x1 = some r) : Q0 131 [.agg [vS x0.Name, vI x0.At].toArray, .agg [vS x1.Name, vI x1.At].toArray] W0 fun Wf v => v = vB r := by
 unfold Vm.znz at hm
 refine zau.of Tryz.func131 rfl rfl rfl rfl (sr (bo 2 rfl fun x y f d => ?_))
 have h := f.o
 refine bo 3 rfl fun z A a e => ?_
 have b := h.n a
 refine Nb rfl (ssr (fl (d.up a) rfl (fl e rfl (Lw.sne rfl (nl (cn hm (fun hm => ?_) fun hm => ?_))))))
 ·exact sr (Nb rfl (.ret (rt hm b)))
 ·refine sk (ssr (fl (d.up a) rfl (fl e rfl (Lw.ne rfl (nl (cn hm (fun hm => ?_) fun hm => ?_))))))
  ·exact sr (Nb rfl (.ret (rt hm b)))
  ·exact sk (sr (Nb rfl (.ret (rt hm b))))
theorem p131 {x0 x1 r} (a : Rd W K [vS x0.Name, vI x0.At] x0) (b : Rd W K [vS x1.Name, vI x1.At] x1) (hm : Vm.znz x0 x1 = some r) : Q1 131 [.agg [vS x0.Name, vI x0.At].toArray, .agg [vS x1.Name, vI x1.At].toArray] W [] fun W' v => v = vB r :=
 (c131 (a.view _) (b.view _) hm).ad (fk 0) fun _ _ e => e
theorem c72 {x0 b x1 e r} (d : Rd W0 [0] [b] x0) (f : Rd W0 [0] [e] x1) (hm : Vm.zmd x0 x1 = some r) : Q0 72 [b, e] W0 fun Wf v => v = vB r := by
 unfold Vm.zmd at hm
 refine zau.of Tryz.func72 rfl rfl rfl rfl (sr (Nb rfl (ssr (mv b rfl (Lw.ln x0 d rfl (mv e rfl (Lw.ln x1 f rfl (Lw.ne rfl (nl (cn hm (fun hm => ?_) fun hm => ?_))))))))))
 ·exact sr (Nb rfl (.ret (rt hm (Le.refl _ _))))
 ·refine sk (ssr (Ni rfl (Cw.block ?_)))
  obtain ⟨E, F, hm⟩ := zbk hm
  refine Cw.loop 11 26 [4, 5] (fun m l w => ∃ h i k, CW.w k = w ∧ Le [] W0 k ∧ l = [vB h, vI i] ∧ Vm.ziK x0 x1 E m h i = some r) _ ⟨false, 0, W0, rfl, Le.refl _ _, rfl, hm⟩ ?_
  rintro (_ | J) _ _ σ ⟨h, i, k, rfl, A, rfl, hm⟩
  ·cases hm
  unfold Vm.ziK at hm
  have x := A.o
  refine ssr (mi rfl (mv b rfl (Lw.ln x0 (d.ul x) rfl (Lw.lt rfl (nl (cn hm (fun hm => ?_) fun hm => ?_))))))
  ·refine sk (Cw.seq (Cw.block (Cw.seq (Cw.draw [] [(0, 0), (1, 0), (2, 0), (3, 1), (4, 0), (5, 0), (6, 0), (7, 1), (8, 3), (9, 0)] mixed (by kernel_rfl) fun L l10 => ?_))))
   have a := x.n l10
   refine Dv b rfl (Di rfl ?_)
   obtain ⟨B, y, hm⟩ := ob hm
   refine Mw.p rfl rfl (fun _ => R.ix (α := Head) (d.ul a) y rfl rfl rfl) ?_
   obtain ⟨x15, c16, _, r17⟩ := ((d.ul a).at_ y).cells
   obtain rfl := Head.split r17
   refine Mw.q rfl rfl (fun _ c => R.lda (zlO ((d.ul a).at_ y).1 rfl c16 c) rfl rfl) (Dv e rfl (Di rfl ?_))
   obtain ⟨C, z, hm⟩ := ob hm
   refine Mw.p rfl rfl (fun _ => R.ix (α := Head) (f.ul a) z rfl rfl rfl) ?_
   obtain ⟨x21, c22, _, r23⟩ := ((f.ul a).at_ z).cells
   obtain rfl := Head.split r23
   refine Mw.q rfl rfl (fun _ c => R.lda (zlO ((f.ul a).at_ z).1 rfl c22 c) rfl rfl) ?_
   obtain ⟨M, G, hm⟩ := ob hm
   refine Mw.l rfl rfl (T.call rfl (p131  (Head.rd (K := [0]) B.Name B.At ) (Head.rd (K := [0]) C.Name C.At ) G)) ?_
   rintro _ _ ⟨H, rfl, D, rfl⟩
   have I := a.n D
   refine Mw.p rfl rfl (fun _ => R.not rfl) (Mw.nil (cn hm (fun hm => ?_) fun hm => ?_))
   ·exact sr (Nb rfl (.ret (rt hm I)))
   ·exact sk (rg (mi rfl (Lw.add rfl (Ni rfl ((agm) ⟨h, w64 (i + 1), H, rfl, ((A.j l10).j D).w, rfl, hm⟩)))))
  ·refine Cw.exit ?_
   rw [F] at hm
   exact sr (Nb rfl (.ret (rt hm x)))
theorem p72 {x0 a x1 b r} (d : Rd W K [a] x0) (f : Rd W K [b] x1) (hm : Vm.zmd x0 x1 = some r) : Q1 72 [a, b] W [] fun W' v => v = vB r :=
 (c72 (d.view _) (f.view _) hm).ad (fk 0) fun _ _ e => e
theorem c15 {x0 e f x1 h i r} (B : Rd W0 [0] [e, f] x0) (C : Rd W0 [0] [h, i] x1) (hm : Vm.zgg x0 x1 = some r) : Q0 15 [.agg [e, f].toArray, .agg [h, i].toArray] W0 fun Wf v => v = vB r := by
 unfold Vm.zgg at hm
 obtain ⟨K, L, k, D, E⟩ := Repo.split B
 simp only [List.cons.injEq, and_true, true_and] at k
 obtain ⟨rfl, rfl⟩ := k
 obtain ⟨M, N, x, F, G⟩ := Repo.split C
 simp only [List.cons.injEq, and_true, true_and] at x
 obtain ⟨rfl, rfl⟩ := x
 refine zau.of Tryz.func15 rfl rfl rfl rfl (sr (bo 2 rfl fun O P H y => ?_))
 have I := H.o
 refine bo 3 rfl fun Q S b z => ?_
 have d := I.n b
 refine Nb rfl (ssr (fl (y.up b) rfl (fl z rfl (ca hm (fun _ => p71 (D.ul d) (F.ul d)) fun T U hm l10 => ?_))))
 have a := d.n l10
 refine Lw.r rfl (R.not rfl) (nl (cn hm (fun hm => ?_) fun hm => ?_))
 ·exact sr (Nb rfl (.ret (rt hm a)))
 ·refine sk (ssr (fl ((y.up b).up l10) rfl (fl (z.up l10) rfl (ca hm (fun _ => p72 (E.ul a) (G.ul a)) fun V W hm J => ?_))))
  have A := a.n J
  refine Lw.r rfl (R.not rfl) (nl (cn hm (fun hm => ?_) fun hm => ?_))
  ·exact sr (Nb rfl (.ret (rt hm A)))
  ·exact sk (sr (Nb rfl (.ret (rt hm A))))
theorem p15 {x0 a b x1 d f r} (h : Rd W K [a, b] x0) (i : Rd W K [d, f] x1) (hm : Vm.zgg x0 x1 = some r) : Q1 15 [.agg [a, b].toArray, .agg [d, f].toArray] W [] fun W' v => v = vB r :=
 (c15 (h.view _) (i.view _) hm).ad (fk 0) fun _ _ e => e
theorem c132 {x0 a x1 r} (k : Ow W0 2 [] [a] x0) (hm : Vm.zlD x0 x1 = some r) : Q0 132 [a, vI x1] W0 fun Wf v => v = vI r.1 ∧ Ow Wf 2 [] [a] r.2 := by
 unfold Vm.zlD at hm
 refine zau.of Tryz.func132 rfl rfl rfl rfl (sr (Ni rfl (ssr (Ni rfl (Cw.block ?_)))))
 obtain ⟨x, y, hm⟩ := zbk hm
 refine Cw.loop 6 17 [1, 5] (fun m l w => ∃ b d e f, CW.w f = w ∧ Le [2] W0 f ∧ l = [vI b, vI d] ∧ Ow f 2 [] [a] e ∧ Vm.zhL x m b d e = some r) _ ⟨x1, 0, x0, W0, rfl, Le.refl _ _, rfl, k, hm⟩ ?_
 rintro (_ | G) _ _ σ ⟨b, d, e, f, rfl, i, rfl, h, hm⟩
 ·cases hm
 unfold Vm.zhL at hm
 have z := i.s
 refine ssr (mi rfl (mv a rfl (Lw.ln e h.rd rfl (Lw.lt rfl (nl (cn hm (fun hm => ?_) fun hm => ?_))))))
 ·refine sk (Cw.seq (Cw.block (sr (mv a rfl (mi rfl (mi rfl ?_))))))
  obtain ⟨H, A, hm⟩ := ob hm
  refine Lw.r rfl (R.ix (α := Int) h.rd A rfl rfl rfl) ?_
  obtain ⟨B, C, hm⟩ := ob hm
  refine Lw.u (T.stS (K' := []) h (rdI _) C rfl rfl rfl) ?_
  rintro _ _ ⟨D, rfl, E, F⟩
  exact nl (rg (mi rfl (Lw.add rfl (Ni rfl (rg (mi rfl (Lw.add rfl (Ni rfl ((agm) ⟨w64 (b + 1), w64 (d + 1), B, D, rfl, (i.j E).w, rfl, F, hm⟩)))))))))
 ·refine Cw.exit ?_
  rw [y] at hm
  refine sr (mi rfl (Ni rfl ?_))
  cases hm
  exact Cw.ret (zjQ rfl (Res.mk z ⟨rfl, h⟩))
theorem p132 {x0 a x1 c0 r} (b : Ow W c0 [] [a] x0) (hJ : okJ K [c0] = true) (hm : Vm.zlD x0 x1 = some r) : Q1 132 [a, vI x1] W [c0] fun W' v => v = vI r.1 ∧ Ow W' c0 [] [a] r.2 :=
 zau.adJ (J := [c0]) (fun c => bif Nat.beq c 0 then 0 else bif Nat.beq c 2 then c0 else 0) (c132 (b.viewJ 0 hJ) hm) fun _ _ ⟨e, d⟩ => ⟨e, Ow.backJ 0 d rfl⟩
theorem c105 {x0 r} (hm : Vm.zcd x0 = some r) : Q0 105 [vI x0] W0 fun Wf v => v = vS r := by
 unfold Vm.zcd at hm
 refine zau.of Tryz.func105 rfl rfl rfl rfl (sr (Ns rfl (ssr (mi rfl (Lw.le rfl (nl (cn hm (fun hm => ?_) fun hm => ?_)))))))
 ·exact sr (Ns rfl (.ret (rt hm (Le.refl _ _))))
 ·refine sk (sr (Ns rfl (Cw.seq (Cw.block ?_))))
  obtain ⟨f, i, hm⟩ := zbk hm
  refine Cw.loop 6 17 [0, 3] (fun m l w => ∃ a d b, CW.w b = w ∧ Le [] W0 b ∧ l = [vI a, vS d] ∧ Vm.zgr f m a d = some r) _ ⟨x0, ([] : Str), W0, rfl, Le.refl _ _, rfl, hm⟩ ?_
  rintro (_ | D) _ _ σ ⟨a, d, b, rfl, e, rfl, hm⟩
  ·cases hm
  unfold Vm.zgr at hm
  have k := e.o
  refine ssr (mi rfl (Lw.gt rfl (nl (cn hm (fun hm => ?_) fun hm => ?_))))
  ·refine sk (Cw.block (sr (mi rfl (Lw.r rfl (R.rem rfl rfl (by decide)) (Lw.add rfl (Lw.r rfl (R.cv8 rfl rfl) (Lw.t rfl (T.bsS (α := Byte) (xs := [(by8 (w64 (48 + (Int.tmod a 10))))]) 2 [] (W := b) [.int .u8 (UInt8.toNat (by8 (w64 (48 + (Int.tmod a 10)))) : Int)] (Each.cons ((rdY _)) Each.nil) rfl) ?_)))))))
   rintro E _ ⟨x, rfl, y, z⟩
   refine Lw.r rfl (R.cvB (xs := ([(by8 (w64 (48 + (Int.tmod a 10))))] : List Byte)) z.rd rfl (fun h => h.1)) (ms rfl ?_)
   obtain ⟨A, B, hm⟩ := ob hm
   exact Lw.r rfl (R.sad B rfl rfl) (Ns rfl (rg (mi rfl (Lw.r rfl (R.quo rfl rfl (by decide)) (Ni rfl ((agm) ⟨w64 (Int.tdiv a 10), A, x, rfl, (e.j y).w, rfl, hm⟩))))))
  ·refine Cw.exit ?_
   rw [i] at hm
   refine sr (ms rfl ?_)
   obtain ⟨F, C, hm⟩ := ob hm
   exact Lw.r rfl (R.sad C rfl rfl) (Ns rfl (.ret (rt hm k)))
theorem p105 {x0 r} (hm : Vm.zcd x0 = some r) : Q1 105 [vI x0] W [] fun W' v => v = vS r :=
 (c105 (W0 := W.view [] [])  hm).ad (fk 0) fun _ _ e => e
theorem c36 {x0 a x1 r} (x : Ow W0 2 [] [a] x0) (hm : Vm.zeb x0 x1 = some r) : Q0 36 [a, vI x1] W0 fun Wf v => v = vI r.1 ∧ Ow Wf 2 [] [a] r.2 := by
 unfold Vm.zeb at hm
 refine zau.of Tryz.func36 rfl rfl rfl rfl (sr (Ni rfl (ssr (Ni rfl (Cw.block ?_)))))
 obtain ⟨y, z, hm⟩ := zbk hm
 refine Cw.loop 6 18 [1, 5] (fun m l w => ∃ b d e f, CW.w f = w ∧ Le [2] W0 f ∧ l = [vI b, vI d] ∧ Ow f 2 [] [a] e ∧ Vm.zdM y m b d e = some r) _ ⟨x1, 0, x0, W0, rfl, Le.refl _ _, rfl, x, hm⟩ ?_
 rintro (_ | H) _ _ σ ⟨b, d, e, f, rfl, k, rfl, h, hm⟩
 ·cases hm
 unfold Vm.zdM at hm
 have A := k.s
 refine ssr (mi rfl (mv a rfl (Lw.ln e h.rd rfl (Lw.lt rfl (nl (cn hm (fun hm => ?_) fun hm => ?_))))))
 ·refine sk (Cw.seq (Cw.block (sr (mv a rfl (mi rfl (mi rfl (ca hm (fun _ => p105) fun I J hm i => ?_)))))))
  obtain ⟨K, B, hm⟩ := ob hm
  refine Lw.r rfl (R.ix (α := Str) (h.up i).rd B rfl rfl rfl) ?_
  obtain ⟨C, D, hm⟩ := ob hm
  refine Lw.u (T.stS (K' := []) (h.up i) (rdS _) D rfl rfl rfl) ?_
  rintro _ _ ⟨E, rfl, F, G⟩
  exact nl (rg (mi rfl (Lw.add rfl (Ni rfl (rg (mi rfl (Lw.add rfl (Ni rfl ((agm) ⟨w64 (b + 1), w64 (d + 1), C, E, rfl, ((k.j i).j F).w, rfl, G, hm⟩)))))))))
 ·refine Cw.exit ?_
  rw [z] at hm
  refine sr (mi rfl (Ni rfl ?_))
  cases hm
  exact Cw.ret (zjQ rfl (Res.mk A ⟨rfl, h⟩))
theorem p36 {x0 a x1 c0 r} (b : Ow W c0 [] [a] x0) (hJ : okJ K [c0] = true) (hm : Vm.zeb x0 x1 = some r) : Q1 36 [a, vI x1] W [c0] fun W' v => v = vI r.1 ∧ Ow W' c0 [] [a] r.2 :=
 zau.adJ (J := [c0]) (fun c => bif Nat.beq c 0 then 0 else bif Nat.beq c 2 then c0 else 0) (c36 (b.viewJ 0 hJ) hm) fun _ _ ⟨e, d⟩ => ⟨e, Ow.backJ 0 d rfl⟩
theorem c133 {x0 a x1 r} (C : Ow W0 2 [] [a] x0) (hm : Vm.zkr x0 x1 = some r) : Q0 133 [a, vI x1] W0 fun Wf v => v = vI r.1 ∧ Ow Wf 2 [] [a] r.2 := by
 unfold Vm.zkr at hm
 refine zau.of Tryz.func133 rfl rfl rfl rfl (sr (Ni rfl (ssr (Ni rfl (Cw.block ?_)))))
 obtain ⟨D, E, hm⟩ := zbk hm
 refine Cw.loop 6 26 [1, 5] (fun m l w => ∃ h b d e, CW.w e = w ∧ Le [2, 3] W0 e ∧ l = [vI h, vI b] ∧ Ow e 2 [] [a] d ∧ Vm.zgR D m h b d = some r) _ ⟨x1, 0, x0, W0, rfl, Le.refl _ _, rfl, C, hm⟩ ?_
 rintro (_ | W) _ _ σ ⟨h, b, d, e, rfl, y, rfl, f, hm⟩
 ·cases hm
 unfold Vm.zgR at hm
 have F := y.s
 refine ssr (mi rfl (mv a rfl (Lw.ln d f.rd rfl (Lw.lt rfl (nl (cn hm (fun hm => ?_) fun hm => ?_))))))
 ·refine sk (Cw.seq (Cw.block (sr (mv a rfl (mi rfl (mi rfl (ca hm (fun _ => p105) fun X Y hm i => ?_)))))))
  obtain ⟨Z, z, hm⟩ := ob hm
  refine Lw.r rfl (R.ix (α := File) (f.up i).rd z rfl rfl rfl) (Lw.fa rfl ?_)
  obtain ⟨aa, G, hm⟩ := ob hm
  refine Lw.u (T.stH (α := File) (β := Str) (J := []) (Ow.hole (α := File) (β := Str) (jf := 0) (f.up i) z) (OwS.atm (K := []) (rdS _)) G rfl rfl rfl rfl) ?_
  rintro _ _ ⟨ac, rfl, H, k⟩
  refine nl (sr (mi rfl (Lw.add rfl (Ni rfl (rg (mv a rfl (mi rfl ?_)))))))
  obtain ⟨ae, x, hm⟩ := ob hm
  refine Lw.r rfl (R.ix (α := File) k.rd x rfl rfl rfl) (Lw.fa rfl ?_)
  obtain ⟨af, c24, r25⟩ := (File.at1 (k.rd.at_ x)).cell rfl
  refine Lw.r rfl (R.ld rfl rfl c24) (mi rfl ?_)
  obtain ⟨ah, I, L, M, gb26⟩ := Ow.lend (α := File) (β := List Str) (j := 3) (jf := 1) k x c24 rfl
  rw [← I]
  refine cr hm (fun _ => p36 (K := [0]) (c0 := 3) M rfl) ?_
  rintro N _ ai hm A ⟨rfl, O⟩
  obtain ⟨P, Q, S, U, eq33, V⟩ := gb26 _ _ A O
  obtain ⟨B, eqm33, hm⟩ := ob hm
  obtain rfl : B = U := Option.some.inj (eqm33.symm.trans eq33)
  rw [← Q]
  exact Ni rfl (rg (mi rfl (Lw.add rfl (Ni rfl ((agm) ⟨N.1, w64 (b + 1), B, P, rfl, (((((y.j i).j H).j L).j A).j S).w, rfl, V, hm⟩)))))
 ·refine Cw.exit ?_
  rw [E] at hm
  refine sr (mi rfl (Ni rfl ?_))
  cases hm
  exact Cw.ret (zjQ rfl (Res.mk F ⟨rfl, f⟩))
theorem p133 {x0 a x1 c0 r} (b : Ow W c0 [] [a] x0) (hJ : okJ K [c0] = true) (hm : Vm.zkr x0 x1 = some r) : Q1 133 [a, vI x1] W [c0] fun W' v => v = vI r.1 ∧ Ow W' c0 [] [a] r.2 :=
 zau.adJ (J := [c0]) (fun c => bif Nat.beq c 0 then 0 else bif Nat.beq c 2 then c0 else 0) (c133 (b.viewJ 0 hJ) hm) fun _ _ ⟨e, d⟩ => ⟨e, Ow.backJ 0 d rfl⟩
end Go.Sx
