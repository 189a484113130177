/- Functions of the library, by the contracts of the shelf. Conditions: the arguments read as they are given. -/
import Derived.Test.YtkfeiopifiejgaaGreatDoorXTs
import Derived.Test.YtkfeiopifiejgaaGreatDoorXM0
import Derived.Test.YtkfeiopifiejgaaGreatDoorXM12
import Derived.Test.YtkfeiopifiejgaaGreatDoorXLc
import Derived.Test.YtkfeiopifiejgaaGreatDoorShelf
namespace Go.Sx
open Go Go.Proofs Go.Vm Rp Go.RowKit
set_option linter.unusedVariables false
set_option linter.unusedSimpArgs false

instance : Ia := ⟨fun h => by
  obtain ⟨c, rfl⟩ : ∃ c, _ = [c] := ⟨_, h.1⟩
  rw [Rd.int h]⟩
instance : Sa := ⟨rfl, ⟨fun h => ⟨h.1, h.2.1⟩, fun h => ⟨h.1, h.2, trivial⟩⟩, fun h => h.1⟩



theorem p86 {W : CW} {K : List Nat} {x0 : Str} {x1 : Str} {k0 : Nat} {r : (List Str)} (h99 : Gl 0 W K) (hm : Vm.strings_Split x0 x1 = some r) : CallR Tryz.prog 86 [vS x0, vS x1].toArray W.w (Res W [] fun W' v => ∃ (u0 : Value), v = u0 ∧ Ow W' k0 [] [u0] r) := by
  unfold Vm.strings_Split at hm
  exact split_call Tryz.strings_Split h99 hm



theorem p87 {W : CW} {x0 : Str} {x1 : Str} {r : Bool}  (hm : Vm.strings_HasPrefix x0 x1 = some r) : CallR Tryz.prog 87 [vS x0, vS x1].toArray W.w (Res W [] fun W' v => v = vB r) := by
  unfold Vm.strings_HasPrefix at hm
  exact prefix_call Tryz.strings_HasPrefix hm

theorem cln76 {W : CW} {x0 : List Bool} {v0 : Value} {r : List Bool} (h0 : Rd W [0] [v0] x0) (hm : (if x0.length ≤ lim then some x0 else none) = some r) :
    CallR Tryz.prog 76 [v0].toArray W.w (Res W LL fun W' v => ∃ u0, v = u0 ∧ OwS W' LL [] [u0] r) := by
  have hl : x0.length ≤ lim := by
    split at hm
    · assumption
    · cases hm
  have hap : apM ([] : List Bool) x0 = some r := by
    rw [if_pos hl] at hm
    unfold apM
    rw [if_pos (by simpa using hl), List.nil_append]
    exact hm
  have h0' := h0
  obtain ⟨ad, cp, e, hnc, hcm, ha, _⟩ := h0'
  have e' : v0 = .slice ad x0.length cp := by simpa using e
  subst e'
  refine CallR.of Tryz.func76 rfl rfl rfl rfl (Cw.seq (Cw.region (Lw.g (.slice none 0 0) rfl (Lw.nil ?_))))
  refine Cw.seq (Cw.seq (Cw.region (Lw.m (.slice ad x0.length cp) rfl (Lw.r (v := .bool ad.isNone) rfl (R.bin (u := .slice ad x0.length cp) (u' := .slice none 0 0) rfl rfl (by rw [eqGuard_at_slice]; rfl) (Lib.run_eql_slice_nil _ _ _ _ _ _ _ _ (Und.h (t := 56)))) (Lw.nil ?_)))))
  refine Cw.cond (b := ad.isNone) rfl (fun hc => ?_) (fun hc => ?_)
  · have hz : x0 = [] := by
      cases x0 with
      | nil => rfl
      | cons a l =>
        obtain ⟨q, e, _⟩ := ha (by simp)
        rw [e] at hc
        cases hc
    subst hz
    rw [if_pos (show ([] : List Bool).length ≤ lim from Nat.zero_le _)] at hm
    cases hm
    refine Cw.seq (Cw.region (Lw.g (.slice none 0 0) rfl (Lw.nil ?_)))
    exact Cw.ret (ret1 rfl (Res.mk (Le.refl _ _) ⟨_, rfl, (owsN []).sub rfl rfl⟩))
  · refine Cw.skip (Cw.seq (Cw.region (Lw.t rfl (T.lit0 (α := Bool) 2 []) fun v w' hT => ?_)))
    obtain ⟨W1, rfl, l1, o1⟩ := hT
    refine Lw.m (.slice ad x0.length cp) rfl (Lw.t rfl (T.appP (α := Bool) o1 (h0.up l1 rfl) rfl rfl hap) fun v' w' hT => ?_)
    obtain ⟨W2, rfl, l2, o2⟩ := hT
    refine Lw.g v' rfl (Lw.nil (Cw.ret (ret1 rfl (Res.mk ((l1.sub rfl).trans (l2.sub rfl)) ⟨_, rfl, o2.s.sub rfl rfl⟩))))


theorem p76 {W : CW} {K : List Nat} {x0 : List Bool} {v0_ : Value} {k0 : Nat} {r : (List Bool)} (h0 : Rd W K [v0_] x0) (hm : Vm.slices_Clone_bool_bool x0 = some r) : CallR Tryz.prog 76 [v0_].toArray W.w (Res W [] fun W' v => ∃ (u0 : Value), v = u0 ∧ Ow W' k0 [] [u0] r) := by
  unfold Vm.slices_Clone_bool_bool at hm
  exact (cln76 (h0.view _) hm).ad (fk k0) fun _ _ ⟨u0, e, f0⟩ => ⟨u0, e, f0.back (fk_LL _)⟩

end Go.Sx
