/- Bytes as strings; arguments that a call turns: boxes and slices that are lent to be written. Conditions: none; each rule's own premises. -/
import Derived.Test.YtmjjhnahdmlmaaaDoorXSi
import Derived.Laws.IdiomStrings
import Derived.Laws.BytesArg
namespace Go.Sx
open Go Go.RowKit Rp
set_option linter.unusedSimpArgs false
set_option linter.unusedVariables false

section
variable {P : Program} {ρ : Env} {w : World} {x : Operand} {a : Int} {ty s d e : Nat}
theorem by8_eq (n : Int) : ((by8 n).toNat : Int) = IntKind.u8.wrap n := by
  have h : IntKind.u8.wrap n = n % 256 := by
    simp [IntKind.wrap, IntKind.bits, IntKind.signed]
  rw [h]
  unfold by8
  rw [UInt8.toNat_ofNat']
  omega
theorem R.cv8 {d0 : TypeDesc} [hs : Und P s d0] [hd : Und P d (.int .u8)] {k : IntKind} (hx : ev ρ x = .int k a) (hn : (match d0 with | .slice _ | .pointer _ | .unsafePointer => false | _ => true) = true) : Run P ρ w (.convert s d x) ty (.int .u8 (UInt8.toNat (by8 a) : Int)) := by
  rw [by8_eq]
  exact R.cvI hx hn
end
/-- string(b). -/
theorem R.cvB {P : Program} {ρ : Env} {W : CW} {K : List Nat} {x : Operand} {v : Value} {xs : List Byte} {ty s d e : Nat} [Rp Byte] [hs : Und P s (.slice e)] [he : Und P e (.int .u8)] [hd : Und P d .string] (h : Rd W K [v] xs) (hx : ev ρ x = v)
    (hb : ∀ {w A cs} {y : Byte}, rd w A cs y → cs = [.int .u8 (UInt8.toNat y)]) : Run P ρ W.w (.convert s d x) ty (vS xs) := fun o h1 h2 => by
  obtain ⟨ad, cap, e0, hl, hm, ha, hc⟩ := h
  have e1 : v = .slice ad xs.length cap := by simpa using e0
  subst e1
  have hr : (convert s d (.slice ad xs.length cap)).run P W.w = .ok (.string ⟨(xs : List UInt8).toArray⟩) W.w := by
    cases ad with
    | none =>
      have hx0 : xs = [] := by
        cases xs with
        | nil => rfl
        | cons y ys => obtain ⟨a, h, _⟩ := ha (by simp); cases h
      subst hx0
      rw [run_convert_bytes_string W.w s d e none _ cap hs.h he.h hd.h]
      simp [Conv.bytesToString, Sem.run_pure, Sem.run_bind]
      rfl
    | some a =>
      refine run_convert_bytes_back W.w s d e a cap (xs : List UInt8) hs.h he.h hd.h fun j hj => ?_
      obtain ⟨ecs, h1, h2⟩ := hc j xs[j] (List.getElem?_eq_getElem hj)
      have h3 := hb h2
      have h4 := rd_len h2
      rw [h3] at h4
      have h5 := h1 0 (.int .u8 (UInt8.toNat xs[j])) (by rw [h3]; rfl)
      rw [← h4] at h5
      simp [slA, Addr.add] at h5
      simp [Addr.add]
      exact h5
  simp only [execOp, h1, hx, Sem.run_bind, hr, Result.andThen_ok, Sem.run_pure]
  rfl

/-! ### What a call may write: blocks of the colours J -/
def nodupB : List Nat → Bool
  | [] => true
  | c :: cs => !(cs.any (Nat.beq c)) && nodupB cs
def okJ (K J : List Nat) : Bool := disj K J && nodupB J
section
variable {α : Type} [Rp α] {W Wf : CW} {K J L : List Nat} {f : Nat → Nat} {cs : List Value} {x : α} {c c' g n k : Nat}
theorem any_beq {l : List Nat} {c : Nat} : l.any (Nat.beq c) = true ↔ c ∈ l := by
  rw [List.any_eq_true]
  exact ⟨fun ⟨y, hy, e⟩ => by rw [Nat.eq_of_beq_eq_true e]; exact hy, fun h => ⟨c, h, Nat.beq_refl c⟩⟩
theorem find_at : ∀ (J : List Nat) (i : Nat), nodupB J = true → J[i]? = some c → J.findIdx? (Nat.beq c) = some i
  | [], i, _, h => by simp at h
  | d :: J, 0, _, h => by
    have e : d = c := by simpa using h
    subst e
    rw [List.findIdx?_cons, Nat.beq_refl]
    rfl
  | d :: J, i + 1, hn, h => by
    simp only [nodupB, Bool.and_eq_true, Bool.not_eq_true'] at hn
    have hm : J[i]? = some c := by simpa using h
    have hne : Nat.beq c d = false := by
      cases hb : Nat.beq c d with
      | false => rfl
      | true =>
        have e := Nat.eq_of_beq_eq_true hb
        have := any_beq.2 (List.mem_of_getElem? hm)
        rw [e] at this
        rw [this] at hn
        cases hn.1
    rw [List.findIdx?_cons, hne, find_at J i hn.2 hm]
    rfl
theorem vc_at (i : Nat) (h : okJ K J = true) (hi : J[i]? = some c) : vc K J c = i + 2 := by
  simp only [okJ, Bool.and_eq_true] at h
  have hk : K.any (Nat.beq c) = false := by
    cases hb : K.any (Nat.beq c) with
    | false => rfl
    | true => exact absurd (List.mem_of_getElem? hi) (disj_not h.1 (any_beq.1 hb))
  unfold vc
  rw [hk, find_at J i h.2 hi]
  rfl
theorem find_inv : ∀ (J : List Nat) (i : Nat), J.findIdx? (Nat.beq c) = some i → J[i]? = some c
  | [], i, h => by simp at h
  | d :: J, i, h => by
    rw [List.findIdx?_cons] at h
    cases hb : Nat.beq c d with
    | true =>
      rw [hb] at h
      simp at h
      subst h
      rw [Nat.eq_of_beq_eq_true hb]
      rfl
    | false =>
      rw [hb] at h
      simp at h
      obtain ⟨j, hj, rfl⟩ := h
      simpa using find_inv J j hj
theorem vc_inv {i : Nat} (h : vc K J c = i + 2) : J[i]? = some c := by
  unfold vc at h
  cases hb : K.any (Nat.beq c) with
  | true => rw [hb] at h; simp at h
  | false =>
    rw [hb] at h
    simp only [cond_false] at h
    split at h
    · rename_i j hj
      have : j = i := by omega
      subst this
      exact find_inv J j hj
    · omega
theorem vc_lt : vc K J c < J.length + 2 := by
  cases hb : vc K J c with
  | zero => omega
  | succ m =>
    cases m with
    | zero => omega
    | succ i =>
      have := (List.getElem?_eq_some_iff.1 (vc_inv hb)).1
      omega
theorem vc_not (h : c ∉ J) : vc K J c = 0 ∨ vc K J c = 1 := by
  cases hb : vc K J c with
  | zero => exact .inl rfl
  | succ m =>
    cases m with
    | zero => exact .inr rfl
    | succ i => exact absurd (List.mem_of_getElem? (vc_inv hb)) h
theorem Bx.viewJ (h : Bx W c g cs) (i : Nat) (hJ : okJ K J = true) (hi : J[i]? = some c := by rfl) : Bx (W.view K J) (i + 2) g cs := ⟨by show vc K J (W.c g) = i + 2; rw [h.1, vc_at i hJ hi], h.2⟩
theorem Ow.viewJ (h : Ow W c [] cs x) (i : Nat) (hJ : okJ K J = true) (hi : J[i]? = some c := by rfl) : Ow (W.view K J) (i + 2) [] cs x := by
  obtain ⟨S, ho, hn, hb⟩ := h
  refine ⟨S, own_mono (fun b hb => absurd hb.2 (by simp)) ho, hn, fun b hb' => ⟨(hb b hb').1, ?_⟩⟩
  show vc K J (W.c b) = i + 2
  rw [(hb b hb').2, vc_at i hJ hi]
theorem Le.backJ (l : Le L (W.view K J) Wf) (hL : disj [0, 1] L = true) (f : Nat → Nat) : Le J W (W.back Wf K J f) :=
  ⟨l.os, l.tape, l.output, l.size, fun b hb hJ => by
    have hv : (W.view K J).c b ∉ L := by
      rcases vc_not (K := K) hJ with h2 | h2
      · show vc K J (W.c b) ∉ L
        rw [h2]; exact disj_not hL (by simp)
      · show vc K J (W.c b) ∉ L
        rw [h2]; exact disj_not hL (by simp)
    obtain ⟨h1, h2⟩ := l.keep b hb hv
    exact ⟨h1, if_pos ⟨hb, h2⟩⟩⟩
theorem back_old {b i : Nat} (hb : Wf.c b = i + 2) (hf : f (i + 2) = c) (hi : J[i]? = some c) : (W.back Wf K J f).c b = c := by
  show (if b < W.w.heap.size ∧ Wf.c b = vc K J (W.c b) then W.c b else f (Wf.c b)) = c
  split
  · rename_i hh
    have := vc_inv (i := i) (by rw [← hh.2, hb])
    rw [this] at hi
    exact Option.some.inj hi
  · rw [hb, hf]
theorem back_new {b : Nat} (hb : J.length + 2 ≤ Wf.c b) (hf : f (Wf.c b) = k) : (W.back Wf K J f).c b = k := by
  show (if b < W.w.heap.size ∧ Wf.c b = vc K J (W.c b) then W.c b else f (Wf.c b)) = k
  rw [if_neg, hf]
  rintro ⟨_, e⟩
  have := vc_lt (K := K) (J := J) (c := W.c b)
  omega
theorem Bx.backJ (i : Nat) (h : Bx Wf (i + 2) g cs) (hf : f (i + 2) = c) (hi : J[i]? = some c := by rfl) : Bx (W.back Wf K J f) c g cs := ⟨back_old h.1 hf hi, h.2⟩
theorem Ow.backJ (i : Nat) (h : Ow Wf (i + 2) [] cs x) (hf : f (i + 2) = c) (hi : J[i]? = some c := by rfl) : Ow (W.back Wf K J f) c [] cs x := by
  obtain ⟨S, ho, hn, hb⟩ := h
  exact ⟨S, own_mono (fun b hb => absurd hb.2 (by simp)) ho, hn, fun b hb' => ⟨(hb b hb').1, back_old (hb b hb').2 hf hi⟩⟩
theorem Bx.backN (h : Bx Wf n g cs) (hf : f n = k) (hn : Nat.ble (J.length + 2) n = true := by rfl) : Bx (W.back Wf K J f) k g cs := ⟨back_new (by rw [h.1]; exact Nat.le_of_ble_eq_true hn) (by rw [h.1, hf]), h.2⟩
theorem Ow.backN (h : Ow Wf n [] cs x) (hf : f n = k) (hn : Nat.ble (J.length + 2) n = true := by rfl) : Ow (W.back Wf K J f) k [] cs x := by
  obtain ⟨S, ho, hnd, hb⟩ := h
  exact ⟨S, own_mono (fun b hb => absurd hb.2 (by simp)) ho, hnd, fun b hb' => ⟨(hb b hb').1, back_new (by rw [(hb b hb').2]; exact Nat.le_of_ble_eq_true hn) (by rw [(hb b hb').2, hf])⟩⟩
theorem CallR.adJ {P : Program} {fid : FuncId} {vals : Array Value} {R R' : CW → Value → Prop} (f' : Nat → Nat) (h : CallR P fid vals (W.view K J).w (Res (W.view K J) LL R)) (hR : ∀ Wf v, R Wf v → R' (W.back Wf K J f') v) : CallR P fid vals W.w (Res W J R') :=
  CallR.mono h fun v w' ⟨Wf, e, l, hr⟩ => by subst e; exact ⟨W.back Wf K J f', rfl, l.backJ rfl f', hR Wf v hr⟩
end
end Go.Sx
