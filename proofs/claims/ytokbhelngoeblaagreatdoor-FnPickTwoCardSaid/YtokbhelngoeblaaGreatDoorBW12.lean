/- Walks: each function answers as its model, printed by a program of ours. Conditions: the arguments read as they are given. -/
import Derived.Test.YtokbhelngoeblaaGreatDoorBTs
import Derived.Test.YtokbhelngoeblaaGreatDoorBM3
import Derived.Test.YtokbhelngoeblaaGreatDoorBW10
import Derived.Test.YtokbhelngoeblaaGreatDoorBW6
import Derived.Test.YtokbhelngoeblaaGreatDoorBW9
namespace Go.Sx
open Go Go.Proofs Go.Vm Rp
set_option linter.unusedVariables false
set_option linter.unusedSimpArgs false
variable {W W0 : CW} {K : List Nat}
theorem c42 {x0 e r} (C : Rd W0 [0] [e] x0) (hm : Vm.ze6 x0 = some r) : Q0 42 [e] W0 fun Wf v => ∃ k x, v = .tuple [.agg [k, x].toArray, vS r.2.1, vS r.2.2.1, vI r.2.2.2].toArray ∧ OwS Wf [31] [] [k] r.1.Commits ∧ OwS Wf [32] [] [x] r.1.Heads := by
 unfold Vm.ze6 at hm
 refine zaI.of Tryz.func42 rfl rfl rfl rfl (sr (al 2 [.slice none 0 0, .slice none 0 0] fun O P D E => ?_))
 have y := D.o
 refine Gs rfl (Gs rfl (Ni rfl (sr (mv e rfl (cr hm (fun _ => p112 (k0 := 3) (k1 := 4) (C.ul y)) ?_)))))
 rintro a _ Q hm z ⟨b, d, rfl, A, B⟩
 have F := y.n z
 refine Lw.r rfl (R.ext (vs := [.agg [b, d].toArray, vS a.2.1, vS a.2.2.1, vI a.2.2.2]) (v := .agg [b, d].toArray) rfl rfl) (Lw.r rfl (R.ext (vs := [.agg [b, d].toArray, vS a.2.1, vS a.2.2.1, vI a.2.2.2]) (v := vS a.2.1) rfl rfl) (Lw.r rfl (R.ext (vs := [.agg [b, d].toArray, vS a.2.1, vS a.2.2.1, vI a.2.2.2]) (v := vS a.2.2.1) rfl rfl) (Lw.r rfl (R.ext (vs := [.agg [b, d].toArray, vS a.2.1, vS a.2.2.1, vI a.2.2.2]) (v := vI a.2.2.2) rfl rfl) (sta (E.up z) (zab A.oc (zab B.oc za3)) fun S f G => ?_))))
 have H := F.t f
 refine Gs rfl (Gs rfl (Ni rfl ?_))
 obtain ⟨T, I, h, J⟩ := (A.up f).dyeO 31
 have K := H.t h
 obtain ⟨U, L, i, M⟩ := ((B.up f).up h).dyeO 32
 have N := K.t i
 cases hm
 rw [← L.trans (I)]
 exact Cw.ret (zv5 (zjk.c rfl ((G.up h).up i) (zjk.t rfl (zjk.t rfl (zjk.t rfl zjk.n)))) (Res.mk N ⟨b, d, rfl, (J.up i).s, M.s⟩))
theorem p42 {x0 d k0 k1 r} (f : Rd W K [d] x0) (hm : Vm.ze6 x0 = some r) : Q1 42 [d] W [] fun W' v => ∃ a b, v = .tuple [.agg [a, b].toArray, vS r.2.1, vS r.2.2.1, vI r.2.2.2].toArray ∧ Ow W' k0 [] [a] r.1.Commits ∧ Ow W' k1 [] [b] r.1.Heads :=
 zaI.adJ (J := []) (fun c => bif Nat.beq c 0 then 0 else bif Nat.beq c 31 then k0 else bif Nat.beq c 32 then k1 else 0) (c42 (f.view _) hm) fun _ _ ⟨a, b, e, h, i⟩ => ⟨a, b, e, h.one1.backN rfl, i.one1.backN rfl⟩
theorem c43 {x0 z A x1 x2 x3 r} (N : Rd W0 [0] [z, A] x0) (B : Gl 0 W0 [0]) (hm : Vm.zhY x0 x1 x2 x3 = some r) : Q0 43 [.agg [z, A].toArray, vS x1, vS x2, vI x3] W0 fun Wf v => ∃ C D, v = .tuple [.agg [C, D].toArray, vI r.2].toArray ∧ OwS Wf [31] [] [C] r.1.Commits ∧ OwS Wf [32] [] [D] r.1.Heads := by
 unfold Vm.zhY at hm
 obtain ⟨af, ah, E, F, G⟩ := Repo.split N
 simp only [List.cons.injEq, and_true, true_and] at E
 obtain ⟨rfl, rfl⟩ := E
 refine zaI.of Tryz.func43 rfl rfl rfl rfl (sr (bo 2 rfl fun g1 W1 O H => ?_))
 have P := O.o
 refine al 3 [.slice none 0 0, .slice none 0 0] fun g3 W3 h I => ?_
 have b := P.n h
 refine Ni rfl (ssr (la (H.up h) (ca hm (fun _ => p22 (Repo.rd (K := [0]) x0.Commits x0.Heads (F.ul b) (G.ul b)) (B.ul b)) fun z9 ao hm d => ?_)))
 have a := b.n d
 refine Lw.r rfl (R.not rfl) (nl (cn hm (fun hm => ?_) fun hm => ?_))
 ·refine sr (Lw.r rfl (R.bd (zs := [.slice none 0 0, .slice none 0 0]) (cs := [.slice none 0 0, .slice none 0 0]) [] rfl rfl rfl zfH) (sta (I.up d) (zab rfl (zab rfl za3)) fun ap Q S => ?_))
  have T := a.t Q
  refine Ni rfl ?_
  cases hm
  exact Cw.ret (zhr rfl S rfl (Res.mk T ⟨.slice none 0 0, .slice none 0 0, rfl, (zoh []).sub rfl rfl, (zoh []).sub rfl rfl⟩))
 ·refine sk (sr (la ((H.up h).up d) (ms rfl (ms rfl (mi rfl (cr hm (fun _ => p70 (k0 := 4) (k1 := 5) (Repo.rd (K := [0]) x0.Commits x0.Heads (F.ul a) (G.ul a)) (B.ul a)) ?_))))))
  rintro i _ aq hm J ⟨e, f, rfl, L, M⟩
  have U := a.n J
  refine Lw.r rfl (R.ext (vs := [.agg [e, f].toArray, vI i.2]) (v := .agg [e, f].toArray) rfl rfl) (Lw.r rfl (R.ext (vs := [.agg [e, f].toArray, vI i.2]) (v := vI i.2) rfl rfl) (sta ((I.up d).up J) (zab L.oc (zab M.oc za3)) fun ar k V => ?_))
  have W := U.t k
  refine Ni rfl ?_
  obtain ⟨au, X, x, Y⟩ := (L.up k).dyeO 31
  have Z := W.t x
  obtain ⟨av, aa, y, ac⟩ := ((M.up k).up x).dyeO 32
  have ae := Z.t y
  cases hm
  rw [← aa.trans (X)]
  exact Cw.ret (zhr rfl ((V.up x).up y) rfl (Res.mk ae ⟨e, f, rfl, (Y.up y).s, ac.s⟩))
theorem p43 {x0 d f x1 x2 x3 k0 k1 r} (h : Rd W K [d, f] x0) (i : Gl 0 W K) (hm : Vm.zhY x0 x1 x2 x3 = some r) : Q1 43 [.agg [d, f].toArray, vS x1, vS x2, vI x3] W [] fun W' v => ∃ a b, v = .tuple [.agg [a, b].toArray, vI r.2].toArray ∧ Ow W' k0 [] [a] r.1.Commits ∧ Ow W' k1 [] [b] r.1.Heads :=
 zaI.adJ (J := []) (fun c => bif Nat.beq c 0 then 0 else bif Nat.beq c 31 then k0 else bif Nat.beq c 32 then k1 else 0) (c43 (h.view _) (i.view _) hm) fun _ _ ⟨a, b, e, k, x⟩ => ⟨a, b, e, k.one1.backN rfl, x.one1.backN rfl⟩
end Go.Sx
