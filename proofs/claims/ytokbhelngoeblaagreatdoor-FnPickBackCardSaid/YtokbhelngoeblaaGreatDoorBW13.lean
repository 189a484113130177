/- Walks: each function answers as its model, printed by a program of ours. Conditions: the arguments read as they are given. -/
import Derived.Test.YtokbhelngoeblaaGreatDoorBTs
import Derived.Test.YtokbhelngoeblaaGreatDoorBM4
import Derived.Test.YtokbhelngoeblaaGreatDoorBW10
namespace Go.Sx
open Go Go.Proofs Go.Vm Rp
set_option linter.unusedVariables false
set_option linter.unusedSimpArgs false
variable {W W0 : CW} {K : List Nat}
theorem c48 {x0 H I x1 J L r} (S : Rd W0 [0] [H, I] x0) (U : Rd W0 [0] [J, L] x1) (hm : Vm.ze7 x0 x1 = some r) : Q0 48 [.agg [H, I].toArray, .agg [J, L].toArray] W0 fun Wf v => v = vB r := by
 unfold Vm.ze7 at hm
 obtain ⟨ae, af, M, N, ah⟩ := Repo.split S
 simp only [List.cons.injEq, and_true, true_and] at M
 obtain ⟨rfl, rfl⟩ := M
 obtain ⟨ai, aj, O, h, ak⟩ := Repo.split U
 simp only [List.cons.injEq, and_true, true_and] at O
 obtain ⟨rfl, rfl⟩ := O
 refine zaI.of Tryz.func48 rfl rfl rfl rfl (sr (bo 2 rfl fun g1 W1 V P => ?_))
 have W := V.o
 refine bo 3 rfl fun g3 Q i k => ?_
 have b := W.n i
 refine Nb rfl (ssr (fl (P.up i) rfl (Lw.ln x0.Commits (N.ul b) rfl (fl k rfl (Lw.ln x1.Commits (h.ul b) rfl (Lw.lt rfl (nl (cn hm (fun hm => ?_) fun hm => ?_))))))))
 ·exact sr (Nb rfl (.ret (rt hm b)))
 ·refine sk (ssr (Ni rfl (Cw.block ?_)))
  obtain ⟨X, Y, hm⟩ := zc1 hm
  refine Cw.loop 13 31 [4, 5] (fun m l w => ∃ d e x, CW.w x = w ∧ Le [] Q x ∧ l = [vB d, vI e] ∧ Vm.zei x0 x1 X m d e = some r) _ ⟨false, 0, Q, rfl, Le.refl _ _, rfl, hm⟩ ?_
  rintro (_ | ap) _ _ σ ⟨d, e, x, rfl, a, rfl, hm⟩
  ·cases hm
  unfold Vm.zei at hm
  have y := b.n a
  refine ssr (mi rfl (fl (k.up a) rfl (Lw.ln x1.Commits (h.ul y) rfl (Lw.lt rfl (nl (cn hm (fun hm => ?_) fun hm => ?_))))))
  ·refine sk (Cw.seq (Cw.block (Cw.seq (Cw.draw [] [(0, 0), (1, 1), (2, 0), (3, 0), (4, 1), (5, 0), (6, 1), (7, 0), (8, 0), (9, 1), (10, 2), (11, 0)] mixed (by kernel_rfl) fun aq f => ?_))))
   have z := y.n f
   refine Dfl (((P.up i).up a).up f) rfl rfl rfl (Di rfl ?_)
   obtain ⟨A, B, hm⟩ := ob hm
   have C := N.ul z
   refine Mw.p rfl rfl (fun _ => R.ix (α := Commit) C B rfl rfl rfl) ?_
   obtain ⟨x26, c27, _, r28⟩ := (C.at_ B).cells
   obtain ⟨ar, au, rfl, r30, r32⟩ := Commit.split r28
   refine Mw.q rfl rfl (fun _ c => R.lda (zmc (C.at_ B).1 rfl c27 c) rfl rfl) (Dfl ((k.up a).up f) rfl rfl rfl (Di rfl ?_))
   obtain ⟨D, E, hm⟩ := ob hm
   have F := h.ul z
   refine Mw.p rfl rfl (fun _ => R.ix (α := Commit) F E rfl rfl rfl) ?_
   obtain ⟨x36, c37, _, r38⟩ := (F.at_ E).cells
   obtain ⟨av, aw, rfl, r40, r42⟩ := Commit.split r38
   refine Mw.q rfl rfl (fun _ c => R.lda (zmc (F.at_ E).1 rfl c37 c) rfl rfl) ?_
   obtain ⟨ax, Z, hm⟩ := ob hm
   refine Mw.t rfl rfl (T.call rfl (p114  (Commit.rd (K := [0]) A.Parents A.Who A.Tree r30 r32) (Commit.rd (K := [0]) D.Parents D.Who D.Tree r40 r42) Z)) ?_
   rintro _ _ ⟨aa, rfl, G, rfl⟩
   have ac := z.n G
   refine m0 G fun ay => Mw.p rfl rfl (fun _ => R.not rfl) (Mw.nil (cn hm (fun hm => ?_) fun hm => ?_))
   ·exact sr (Nb rfl (.ret (rt hm ac)))
   ·exact sk (rg (mi rfl (Lw.add rfl (Ni rfl ((agm) ⟨d, w64 (e + 1), aa, rfl, ((a.j f).j G).w, rfl, hm⟩)))))
  ·refine Cw.exit ?_
   rw [Y] at hm
   exact sr (Nb rfl (.ret (rt hm y)))
theorem p48 {x0 a b x1 d f r} (h : Rd W K [a, b] x0) (i : Rd W K [d, f] x1) (hm : Vm.ze7 x0 x1 = some r) : Q1 48 [.agg [a, b].toArray, .agg [d, f].toArray] W [] fun W' v => v = vB r :=
 (c48 (h.view _) (i.view _) hm).ad (fk 0) fun _ _ e => e
end Go.Sx
