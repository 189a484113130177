/- Walks: each function answers as its model, printed by a program of ours. Conditions: the arguments read as they are given. -/
import Derived.Test.YtokbhelngoeblaaGreatDoorCTs
import Derived.Test.YtokbhelngoeblaaGreatDoorCM1
import Derived.Test.YtokbhelngoeblaaGreatDoorCW3
namespace Go.Sx
open Go Go.Proofs Go.Vm Rp
set_option linter.unusedVariables false
set_option linter.unusedSimpArgs false
variable {W W0 : CW} {K : List Nat}
theorem c73 {x0 a x1 r} (F : Ow W0 2 [] [a] x0) (hm : Vm.ziS x0 x1 = some r) : Q0 73 [a, vI x1] W0 fun Wf v => v = vI r.1 ∧ Ow Wf 2 [] [a] r.2 := by
 unfold Vm.ziS at hm
 refine zau.of Tryz.func73 rfl rfl rfl rfl (sr (Ni rfl (ssr (Ni rfl (Cw.block ?_)))))
 obtain ⟨G, H, hm⟩ := zbk hm
 refine Cw.loop 6 33 [1, 5] (fun m l w => ∃ h d e f, CW.w f = w ∧ Le [2, 3, 4] W0 f ∧ l = [vI h, vI d] ∧ Ow f 2 [] [a] e ∧ Vm.zfI G m h d e = some r) _ ⟨x1, 0, x0, W0, rfl, Le.refl _ _, rfl, F, hm⟩ ?_
 rintro (_ | m7) _ _ σ ⟨h, d, e, f, rfl, z, rfl, b, hm⟩
 ·cases hm
 unfold Vm.zfI at hm
 have I := z.s
 refine ssr (mi rfl (mv a rfl (Lw.ln e b.rd rfl (Lw.lt rfl (nl (cn hm (fun hm => ?_) fun hm => ?_))))))
 ·refine sk (Cw.seq (Cw.block (sr (mv a rfl (mi rfl ?_)))))
  obtain ⟨am, i, hm⟩ := ob hm
  refine Lw.r rfl (R.ix (α := Commit) b.rd i rfl rfl rfl) (Lw.fa rfl ?_)
  obtain ⟨an, c13, r14⟩ := (Commit.at0 (b.rd.at_ i)).cell rfl
  refine Lw.r rfl (R.ld rfl rfl c13) (mi rfl ?_)
  obtain ⟨ao, L, M, N, gb15⟩ := Ow.lend (α := Commit) (β := List Int) (j := 3) (jf := 0) b i c13 rfl
  rw [← L]
  refine cr hm (fun _ => p132 (K := [0]) (c0 := 3) N rfl) ?_
  rintro ap _ aq hm A ⟨rfl, O⟩
  obtain ⟨ar, P, Q, S, eq22, B⟩ := gb15 _ _ A O
  obtain ⟨U, eqm22, hm⟩ := ob hm
  obtain rfl : U = S := Option.some.inj (eqm22.symm.trans eq22)
  rw [← P]
  refine Ni rfl (sr (mv a rfl (mi rfl (mi rfl (ca hm (fun _ => p105) fun au av hm k => ?_)))))
  obtain ⟨aw, C, hm⟩ := ob hm
  refine Lw.r rfl (R.ix (α := Commit) (B.up k).rd C rfl rfl rfl) (Lw.fa rfl ?_)
  obtain ⟨ax, V, hm⟩ := ob hm
  refine Lw.u (T.stH (α := Commit) (β := Str) (J := []) (Ow.hole (α := Commit) (β := Str) (jf := 1) (B.up k) C) (OwS.atm (K := []) (rdS _)) V rfl rfl rfl rfl) ?_
  rintro _ _ ⟨ay, rfl, W, x⟩
  refine nl (sr (mi rfl (Lw.add rfl (Ni rfl (rg (mv a rfl (mi rfl ?_)))))))
  obtain ⟨az, y, hm⟩ := ob hm
  refine Lw.r rfl (R.ix (α := Commit) x.rd y rfl rfl rfl) (Lw.fa rfl ?_)
  obtain ⟨a0, c38, r39⟩ := (Commit.at2 (x.rd.at_ y)).cell rfl
  refine Lw.r rfl (R.ld rfl rfl c38) (mi rfl ?_)
  obtain ⟨a1, X, Y, Z, gb40⟩ := Ow.lend (α := Commit) (β := List File) (j := 4) (jf := 2) x y c38 rfl
  rw [← X]
  refine cr hm (fun _ => p133 (K := [0]) (c0 := 4) Z rfl) ?_
  rintro aa _ a2 hm D ⟨rfl, ac⟩
  obtain ⟨ae, af, ah, ai, eq47, aj⟩ := gb40 _ _ D ac
  obtain ⟨E, eqm47, hm⟩ := ob hm
  obtain rfl : E = ai := Option.some.inj (eqm47.symm.trans eq47)
  rw [← af]
  exact Ni rfl (rg (mi rfl (Lw.add rfl (Ni rfl ((agm) ⟨aa.1, w64 (d + 1), E, ae, rfl, ((((((((z.j M).j A).j Q).j k).j W).j Y).j D).j ah).w, rfl, aj, hm⟩)))))
 ·refine Cw.exit ?_
  rw [H] at hm
  refine sr (mi rfl (Ni rfl ?_))
  cases hm
  exact Cw.ret (zjQ rfl (Res.mk I ⟨rfl, b⟩))
theorem p73 {x0 a x1 c0 r} (b : Ow W c0 [] [a] x0) (hJ : okJ K [c0] = true) (hm : Vm.ziS x0 x1 = some r) : Q1 73 [a, vI x1] W [c0] fun W' v => v = vI r.1 ∧ Ow W' c0 [] [a] r.2 :=
 zau.adJ (J := [c0]) (fun c => bif Nat.beq c 0 then 0 else bif Nat.beq c 2 then c0 else 0) (c73 (b.viewJ 0 hJ) hm) fun _ _ ⟨e, d⟩ => ⟨e, Ow.backJ 0 d rfl⟩
theorem c74 {x0 a x1 r} (A : Ow W0 2 [] [a] x0) (hm : Vm.zks x0 x1 = some r) : Q0 74 [a, vI x1] W0 fun Wf v => v = vI r.1 ∧ Ow Wf 2 [] [a] r.2 := by
 unfold Vm.zks at hm
 refine zau.of Tryz.func74 rfl rfl rfl rfl (sr (Ni rfl (ssr (Ni rfl (Cw.block ?_)))))
 obtain ⟨B, C, hm⟩ := zbk hm
 refine Cw.loop 6 26 [1, 5] (fun m l w => ∃ b d e f, CW.w f = w ∧ Le [2] W0 f ∧ l = [vI b, vI d] ∧ Ow f 2 [] [a] e ∧ Vm.zgS B m b d e = some r) _ ⟨x1, 0, x0, W0, rfl, Le.refl _ _, rfl, A, hm⟩ ?_
 rintro (_ | N) _ _ σ ⟨b, d, e, f, rfl, k, rfl, h, hm⟩
 ·cases hm
 unfold Vm.zgS at hm
 have D := k.s
 refine ssr (mi rfl (mv a rfl (Lw.ln e h.rd rfl (Lw.lt rfl (nl (cn hm (fun hm => ?_) fun hm => ?_))))))
 ·refine sk (Cw.seq (Cw.block (sr (mv a rfl (mi rfl (mi rfl (ca hm (fun _ => p105) fun O P hm i => ?_)))))))
  obtain ⟨Q, x, hm⟩ := ob hm
  refine Lw.r rfl (R.ix (α := Head) (h.up i).rd x rfl rfl rfl) (Lw.fa rfl ?_)
  obtain ⟨S, E, hm⟩ := ob hm
  refine Lw.u (T.stH (α := Head) (β := Str) (J := []) (Ow.hole (α := Head) (β := Str) (jf := 0) (h.up i) x) (OwS.atm (K := []) (rdS _)) E rfl rfl rfl rfl) ?_
  rintro _ _ ⟨U, rfl, F, y⟩
  refine nl (sr (mi rfl (Lw.add rfl (Ni rfl (sr (mv a rfl (mi rfl (mi rfl ?_))))))))
  obtain ⟨V, z, hm⟩ := ob hm
  refine Lw.r rfl (R.ix (α := Head) y.rd z rfl rfl rfl) (Lw.fa rfl ?_)
  obtain ⟨G, H, hm⟩ := ob hm
  refine Lw.u (T.stH (α := Head) (β := Int) (J := []) (Ow.hole (α := Head) (β := Int) (jf := 1) y z) (OwS.atm (K := []) (rdI _)) H rfl rfl rfl rfl) ?_
  rintro _ _ ⟨I, rfl, L, M⟩
  exact nl (rg (mi rfl (Lw.add rfl (Ni rfl (rg (mi rfl (Lw.add rfl (Ni rfl ((agm) ⟨w64 ((w64 (b + 1)) + 1), w64 (d + 1), G, I, rfl, (((k.j i).j F).j L).w, rfl, M, hm⟩)))))))))
 ·refine Cw.exit ?_
  rw [C] at hm
  refine sr (mi rfl (Ni rfl ?_))
  cases hm
  exact Cw.ret (zjQ rfl (Res.mk D ⟨rfl, h⟩))
theorem p74 {x0 a x1 c0 r} (b : Ow W c0 [] [a] x0) (hJ : okJ K [c0] = true) (hm : Vm.zks x0 x1 = some r) : Q1 74 [a, vI x1] W [c0] fun W' v => v = vI r.1 ∧ Ow W' c0 [] [a] r.2 :=
 zau.adJ (J := [c0]) (fun c => bif Nat.beq c 0 then 0 else bif Nat.beq c 2 then c0 else 0) (c74 (b.viewJ 0 hJ) hm) fun _ _ ⟨e, d⟩ => ⟨e, Ow.backJ 0 d rfl⟩
theorem c16 {x0 a b x1 r} (i : Ow W0 2 [] [a] x0.Commits) (k : Ow W0 3 [] [b] x0.Heads) (hm : Vm.zhb x0 x1 = some r) : Q0 16 [.agg [a, b].toArray, vI x1] W0 fun Wf v => v = vI r.1 ∧ Ow Wf 2 [] [a] r.2.Commits ∧ Ow Wf 3 [] [b] r.2.Heads := by
 unfold Vm.zhb at hm
 refine zau.of Tryz.func16 rfl rfl rfl rfl (sr (bo 4 rfl fun C D d f => ?_))
 have x := d.o
 refine Ni rfl (sr (fl f rfl (mi rfl (cr hm (fun _ => p73 (K := [0]) (c0 := 2) (i.up d) rfl) ?_))))
 rintro E _ F hm e ⟨rfl, y⟩
 have z := x.t e
 refine Ni rfl (sr (fl (f.up e) rfl (mi rfl (cr hm (fun _ => p74 (K := [0]) (c0 := 3) ((k.up d).up e) rfl) ?_))))
 rintro G _ H hm h ⟨rfl, A⟩
 have B := z.t h
 refine Ni rfl (sr (mi rfl (Ni rfl ?_)))
 cases hm
 exact Cw.ret (zjQ rfl (Res.mk B ⟨rfl, (y.up h), A⟩))
theorem p16 {x0 a b x1 c0 c1 r} (d : Ow W c0 [] [a] x0.Commits) (f : Ow W c1 [] [b] x0.Heads) (hJ : okJ K [c0, c1] = true) (hm : Vm.zhb x0 x1 = some r) : Q1 16 [.agg [a, b].toArray, vI x1] W [c0, c1] fun W' v => v = vI r.1 ∧ Ow W' c0 [] [a] r.2.Commits ∧ Ow W' c1 [] [b] r.2.Heads :=
 zau.adJ (J := [c0, c1]) (fun c => bif Nat.beq c 0 then 0 else bif Nat.beq c 2 then c0 else bif Nat.beq c 3 then c1 else 0) (c16 (d.viewJ 0 hJ) (f.viewJ 1 hJ) hm) fun _ _ ⟨e, h, i⟩ => ⟨e, Ow.backJ 0 h rfl, Ow.backJ 1 i rfl⟩
theorem c37 {x0 a x1 r} (b : Rd W0 [0] [a] x0) (hm : Vm.zeX x0 x1 = some r) : Q0 37 [a, vI x1] W0 fun Wf v => v = vI r := by
 unfold Vm.zeX at hm
 refine zau.of Tryz.func37 rfl rfl rfl rfl (sr (Ni rfl (ssr (Ni rfl (Cw.block ?_)))))
 obtain ⟨A, B, hm⟩ := zbk hm
 refine Cw.loop 6 20 [1, 4, 5] (fun m l w => ∃ d e f i, CW.w i = w ∧ Le [] W0 i ∧ l = [vI d, vI e, vI f] ∧ Vm.zdN x0 A m d e f = some r) _ ⟨x1, 0, 0, W0, rfl, Le.refl _ _, rfl, hm⟩ ?_
 rintro (_ | F) _ _ σ ⟨d, e, f, i, rfl, z, rfl, hm⟩
 ·cases hm
 unfold Vm.zdN at hm
 have k := z.o
 refine ssr (mi rfl (mv a rfl (Lw.ln x0 (b.ul k) rfl (Lw.lt rfl (nl (cn hm (fun hm => ?_) fun hm => ?_))))))
 ·refine sk (Cw.seq (Cw.block (Cw.seq (Cw.seq (Cw.draw [] [(0, 0), (1, 0), (2, 0), (3, 1), (4, 0), (5, 2), (6, 0)] mixed (by kernel_rfl) fun G l10 => ?_)))))
  have h := k.n l10
  refine Dv a rfl (Di rfl ?_)
  obtain ⟨H, x, hm⟩ := ob hm
  refine Mw.p rfl rfl (fun _ => R.ix (α := Str) (b.ul h) x rfl rfl rfl) (Mw.q rfl rfl (fun _ c => R.ld rfl rfl (zaz ((b.ul h).at_ x).1 rfl ((b.ul h).at_ x).str c)) (Di rfl ?_))
  obtain ⟨I, C, hm⟩ := ob hm
  refine Mw.t rfl rfl (T.call rfl (p105   C)) ?_
  rintro _ _ ⟨D, rfl, y, rfl⟩
  have E := h.n y
  refine m0 y fun J => Mw.p rfl rfl (fun _ => R.sne rfl rfl) (Mw.nil (cn hm (fun hm => ?_) fun hm => ?_))
  ·exact sr (Ni rfl (.ret (rt hm E)))
  ·exact sk (rg (mi rfl (Lw.add rfl (Ni rfl (rg (mi rfl (Lw.add rfl (Ni rfl ((agm) ⟨w64 (d + 1), e, w64 (f + 1), D, rfl, ((z.j l10).j y).w, rfl, hm⟩)))))))))
 ·refine Cw.exit ?_
  rw [B] at hm
  exact sr (mi rfl (Ni rfl (.ret (rt hm k))))
theorem p37 {x0 a x1 r} (b : Rd W K [a] x0) (hm : Vm.zeX x0 x1 = some r) : Q1 37 [a, vI x1] W [] fun W' v => v = vI r :=
 (c37 (b.view _) hm).ad (fk 0) fun _ _ e => e
end Go.Sx
