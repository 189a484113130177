/- Function values, and how shared parts of what a callee owns come back. Conditions: none; each rule's own premises. -/
import Derived.Test.YtmjjhnahdmlmaaaDoorXSo
namespace Go.Sx
open Go Go.RowKit Rp
set_option linter.unusedSimpArgs false
set_option linter.unusedVariables false
set_option linter.unusedSectionVars false
section
variable {α : Type} [Rp α] {W Wf : CW} {K J : List Nat} {cs : List Value} {x : α} {xs : List α} {v : Value} {f : Nat → Nat} {n k : Nat}
theorem Rd.sh1 (h : Rd W K cs x) : Rd (α := Sh α) W K cs x := h
theorem Rd.shL (h : Rd W K [v] xs) : Rd (α := List (Sh α)) W K [v] xs := h
theorem bsE {R : List Value → α → Prop} {vs : List Value} (css : List (List Value)) (h : vs.map (·.cells.toList) = css) (k : Each R css xs) : Each R (vs.map (·.cells.toList)) xs := h ▸ k
theorem Ow.backNS (h : Ow Wf n [0] cs x) (hf : f n = k) (h0 : f 0 = 0) (hn : Nat.ble (J.length + 2) n = true := by rfl) : Ow (W.back Wf K J f) k (0 :: K) cs x := by
  obtain ⟨S, ho, hnd, hb⟩ := h
  refine ⟨S, own_mono (fun b hb => AK.back (K1 := [0]) (fun c hc => ?_) (fun c hc => ?_) hb) ho, hnd, fun b hb' => ⟨(hb b hb').1, back_new (by rw [(hb b hb').2]; exact Nat.le_of_ble_eq_true hn) (by rw [(hb b hb').2, hf])⟩⟩
  · rw [List.mem_singleton] at hc
    rw [hc, h0]; simp
  · rw [List.mem_singleton] at hc
    exact List.mem_cons_of_mem _ (vc_zero hc)
theorem disj_sub {C L K : List Nat} (h : disj C L = true) (hs : subL K C = true) : disj K L = true := by
  unfold disj
  rw [List.all_eq_true]
  intro a ha
  rw [Bool.not_eq_true', List.any_eq_false]
  intro x hx hb
  exact disj_not h (subL_mem hs ha) (by rw [Nat.eq_of_beq_eq_true hb]; exact hx)
theorem dyeE (W : CW) (c : Nat) : ∃ W', W'.w = W.w ∧ Le [c] W W' ∧ W' = W.dye c 0 := ⟨W.dye c 0, rfl, Le.dye c 0, rfl⟩
end
theorem ret4 {P : Program} {t t' t2 t3 : Nat} {R : Value → World → Prop} {ρ : Env} {w : World} {v v' v2 v3 : Value} (h : ρ t = v) (h' : ρ t' = v') (h2 : ρ t2 = v2) (h3 : ρ t3 = v3) (hR : R (.tuple #[v, v', v2, v3]) w) : RetP P [.tmp t, .tmp t', .tmp t2, .tmp t3] R .ret ρ w := ⟨[v, v', v2, v3], ⟨h.symm, h'.symm, h2.symm, h3.symm, trivial⟩, hR⟩
section
variable {P : Program} {ρ : Env} {w : World} {ty : TypeId}
theorem R.mkF {f : FuncId} {caps : Array Operand} {vs : List Value} (h : caps.toList.map (ev ρ) = vs) : Run P ρ w (.makeFunc (.func f) #[] caps) ty (.func (.func f) #[] vs.toArray) := fun o h1 _ => by
  have ha : caps.map (ev ρ) = vs.toArray := by
    apply Array.ext'
    rw [Array.toList_map, h]
  simp [execOp, h1, Instr.makeFunc, ha]
theorem R.max {x y : Operand} {t t' : TypeId} {a b : Int} (hx : ev ρ x = vI a) (hy : ev ρ y = vI b) : Run P ρ w (.call ⟨.builtin .max, #[x, y], #[t, t']⟩) ty (vI (maxI a b)) := fun o h1 _ => by
  simp only [execOp, h1, resolve, invoke, builtin, Sem.run_bind, Sem.run_pure, Result.andThen_ok, List.map_toArray, List.map_cons, List.map_nil, hx, hy]
  unfold maxI
  by_cases h : a < b
  · simp [Builtin.max_, Builtin.max2, h]
  · simp [Builtin.max_, Builtin.max2, h]
theorem R.min {x y : Operand} {t t' : TypeId} {a b : Int} (hx : ev ρ x = vI a) (hy : ev ρ y = vI b) : Run P ρ w (.call ⟨.builtin .min, #[x, y], #[t, t']⟩) ty (vI (minI a b)) := fun o h1 _ => by
  simp only [execOp, h1, resolve, invoke, builtin, Sem.run_bind, Sem.run_pure, Result.andThen_ok, List.map_toArray, List.map_cons, List.map_nil, hx, hy]
  unfold minI
  by_cases h : b < a
  · simp [Builtin.min_, Builtin.min2, h]
  · simp [Builtin.min_, Builtin.min2, h]
theorem T.callV {f : FuncId} {x : Operand} {args : Array Operand} {tys : Array TypeId} {vals caps : List Value} {R : Value → World → Prop} [hF : Fun P f] (hx : ev ρ x = .func (.func f) #[] caps.toArray) (ha : args.toList.map (ev ρ) = vals) (hc : CallR P f (vals ++ caps).toArray w R) :
    Tr P ρ w (.call ⟨.value x, args, tys⟩) ty R := fun o h1 _ a K Q hav hk => by
  obtain ⟨fn, hf, hb, hn⟩ := hF.h
  have ha : args.map (ev ρ) = vals.toArray := by
    apply Array.ext'
    rw [Array.toList_map, ha]
  have hr : (execOp (ev ρ) o).run P w = .ok (.enter f (vals ++ caps).toArray) w := by
    simp only [execOp, h1, resolve, hx, Deferred.ofValue, Sem.run_bind, Sem.run_pure, Result.andThen_ok, invoke, callFunc, run_program, hf, hn, hb, ha, Bool.false_eq_true, if_false]
    simp
  unfold Oper.wp
  rw [hav, hr]
  exact Calls.mono hc fun e w' ⟨v, e', hv⟩ => by subst e'; exact hk v w' hv
end
/-! ### A variable of the package that holds a number -/
def Gl (g : Nat) [Rp Int] (W : CW) (K : List Nat) : Prop := ∃ m : Int, At W K ⟨g, 0, none⟩ m
section
variable {g : Nat} [Rp Int] {W W' : CW} {K L M : List Nat}
theorem Gl.up (h : Gl g W K) (l : Le L W W') (hd : disj K L = true) : Gl g W' K := let ⟨m, hm⟩ := h; ⟨m, hm.up l hd⟩
theorem Gl.ul (h : Gl g W [0]) (l : Le LL W W') : Gl g W' [0] := h.up l rfl
theorem Gl.sub (h : Gl g W K) (hs : subL K M = true) : Gl g W M := let ⟨m, ⟨h1, h2⟩, cs, h3, h4⟩ := h; ⟨m, ⟨h1, subL_mem hs h2⟩, cs, h3, h4.sub hs⟩
theorem Gl.view (h : Gl g W K) (J : List Nat) : Gl g (W.view K J) [0] := let ⟨m, hm⟩ := h; ⟨m, hm.view J⟩
end
end Go.Sx
