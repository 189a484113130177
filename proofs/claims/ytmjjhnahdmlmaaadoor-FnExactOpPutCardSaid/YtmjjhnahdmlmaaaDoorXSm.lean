/- Regions that draw their order, with operations that may come in any order: each leaves a fact that those which may come beside it keep. Conditions: none; each rule's own premises. -/
import Derived.Test.YtmjjhnahdmlmaaaDoorXSl
namespace Go.Sx
open Go Go.RowKit Rp
set_option linter.unusedSimpArgs false
set_option linter.unusedVariables false

/-- The slots ds hold the values vs, from number k on. -/
def ups : Env → List (Option Nat) → Nat → Env → Env
  | ρ, [], _, _ => ρ
  | ρ, some d :: ds, k, vs => ups (ρ.up d (vs k)) ds (k + 1) vs
  | ρ, none :: ds, k, vs => ups ρ ds (k + 1) vs
def inD (d : Nat) (ds : List (Option Nat)) : Bool := ds.any fun x => match x with | some e => Nat.beq d e | none => false
def nodupD : List (Option Nat) → Bool
  | [] => true
  | some d :: ds => !inD d ds && nodupD ds
  | none :: ds => nodupD ds
theorem up_comm {ρ : Env} {d e : Nat} {u v : Value} (h : Nat.beq d e = false) : (ρ.up d u).up e v = (ρ.up e v).up d u := by
  funext i
  simp only [Env.up]
  cases h1 : Nat.beq i d <;> cases h2 : Nat.beq i e <;> simp
  rw [Nat.eq_of_beq_eq_true h1] at h2
  rw [h] at h2
  cases h2
theorem up_same {ρ : Env} {d : Nat} {u v : Value} : (ρ.up d u).up d v = ρ.up d v := by
  funext i
  simp only [Env.up]
  cases Nat.beq i d <;> rfl
theorem up_self {ρ : Env} {d : Nat} : ρ.up d (ρ d) = ρ := by
  funext i
  simp only [Env.up]
  cases h : Nat.beq i d
  · rfl
  · rw [Nat.eq_of_beq_eq_true h]; rfl
theorem up_eq {vs : Env} {j : Nat} {v : Value} (h : vs j = v) : ∃ vs' : Env, vs = vs'.up j v := ⟨vs, by rw [← h, up_self]⟩
theorem up_at {vs : Env} {j k : Nat} {v : Value} (h : j ≠ k) : (vs.up j v) k = vs k := by
  simp only [Env.up]
  cases hb : Nat.beq k j with
  | false => rfl
  | true => exact absurd (Nat.eq_of_beq_eq_true hb).symm h
theorem ups_up : ∀ (ds : List (Option Nat)) (k : Nat) (vs ρ : Env) (d : Nat) (v : Value), inD d ds = false → (ups ρ ds k vs).up d v = ups (ρ.up d v) ds k vs
  | [], k, vs, ρ, d, v, _ => rfl
  | some e :: ds, k, vs, ρ, d, v, h => by
    simp only [inD, List.any_cons, Bool.or_eq_false_iff] at h
    simp only [ups]
    rw [ups_up ds _ vs _ d v h.2, up_comm]
    cases hb : Nat.beq e d with
    | false => rfl
    | true =>
      have := Nat.eq_of_beq_eq_true hb
      subst this
      rw [Nat.beq_refl] at h
      cases h.1
  | none :: ds, k, vs, ρ, d, v, h => by
    simp only [inD, List.any_cons, Bool.or_eq_false_iff] at h
    simp only [ups]
    exact ups_up ds _ vs ρ d v h.2
theorem ups_lt : ∀ (ds : List (Option Nat)) (k j : Nat) (vs ρ : Env) (v : Value), j < k → ups ρ ds k (vs.up j v) = ups ρ ds k vs
  | [], k, j, vs, ρ, v, _ => rfl
  | some e :: ds, k, j, vs, ρ, v, h => by
    simp only [ups]
    rw [up_at (by omega), ups_lt ds (k + 1) j vs _ v (by omega)]
  | none :: ds, k, j, vs, ρ, v, h => by
    simp only [ups]
    exact ups_lt ds (k + 1) j vs _ v (by omega)
theorem ups_set : ∀ (ds : List (Option Nat)) (k : Nat) (vs ρ : Env) (i d : Nat) (v : Value), nodupD ds = true → ds[i]? = some (some d) → (ups ρ ds k vs).up d v = ups ρ ds k (vs.up (k + i) v)
  | [], k, vs, ρ, i, d, v, _, h => by simp at h
  | some e :: ds, k, vs, ρ, 0, d, v, hn, h => by
    have : e = d := by simpa using h
    subst this
    simp only [nodupD, Bool.and_eq_true, Bool.not_eq_true'] at hn
    simp only [ups, Nat.add_zero]
    rw [ups_up ds _ vs _ _ _ hn.1, up_same, ups_lt ds (k + 1) k vs _ v (by omega)]
    congr 2
    simp [Env.up]
  | none :: ds, k, vs, ρ, 0, d, v, hn, h => by simp at h
  | some e :: ds, k, vs, ρ, i + 1, d, v, hn, h => by
    simp only [nodupD, Bool.and_eq_true, Bool.not_eq_true'] at hn
    simp only [ups]
    rw [ups_set ds (k + 1) vs _ i d v hn.2 (by simpa using h), up_at (by omega), show k + 1 + i = k + (i + 1) by omega]
  | none :: ds, k, vs, ρ, i + 1, d, v, hn, h => by
    simp only [nodupD] at hn
    simp only [ups]
    rw [ups_set ds (k + 1) vs _ i d v hn (by simpa using h), show k + 1 + i = k + (i + 1) by omega]
theorem ups_none : ∀ (ds : List (Option Nat)) (k : Nat) (vs ρ : Env) (i : Nat) (v : Value), ds[i]? = some none → ups ρ ds k (vs.up (k + i) v) = ups ρ ds k vs
  | [], k, vs, ρ, i, v, h => by simp at h
  | some e :: ds, k, vs, ρ, 0, v, h => by simp at h
  | none :: ds, k, vs, ρ, 0, v, h => by
    simp only [ups, Nat.add_zero]
    exact ups_lt ds (k + 1) k vs ρ v (by omega)
  | some e :: ds, k, vs, ρ, i + 1, v, h => by
    simp only [ups]
    rw [up_at (by omega), show k + (i + 1) = k + 1 + i by omega, ups_none ds (k + 1) vs _ i v (by simpa using h)]
  | none :: ds, k, vs, ρ, i + 1, v, h => by
    simp only [ups]
    rw [show k + (i + 1) = k + 1 + i by omega, ups_none ds (k + 1) vs _ i v (by simpa using h)]
def val0 (ρ : Env) (ds : List (Option Nat)) (i : Nat) : Value := match ds.getD i none with
  | some d => ρ d
  | none => undef
theorem ups_start : ∀ (ds : List (Option Nat)) (k : Nat) (ρ vs : Env), (∀ i d, ds[i]? = some (some d) → vs (k + i) = ρ d) → ups ρ ds k vs = ρ
  | [], k, ρ, vs, _ => rfl
  | some d :: ds, k, ρ, vs, h => by
    simp only [ups]
    rw [show vs k = ρ d from h 0 d rfl, up_self]
    exact ups_start ds (k + 1) ρ vs fun i e he => by
      have := h (i + 1) e (by simpa using he)
      rwa [show k + 1 + i = k + (i + 1) by omega]
  | none :: ds, k, ρ, vs, h => by
    simp only [ups]
    exact ups_start ds (k + 1) ρ vs fun i e he => by
      have := h (i + 1) e (by simpa using he)
      rwa [show k + 1 + i = k + (i + 1) by omega]

def at_ (l : List (List Nat)) (i : Nat) : List Nat := l.getD i []
def bindsOn (o : Oper) : List Nat := (o.after.toList.filter (Region.binds .any ·)).map (·.on)
/-- A: who surely came ahead; N: whose facts are wanted; L: the colours written; D: the values that a fact names; C: the colours that it leans on; E: the facts at the end. -/
def parB (l : List Oper) (n nd : Nat) (A N L D C : List (List Nat)) (E LA : List Nat) : Bool :=
  ((l.zipIdx 0).all fun p => p.1.guard.isNone && (bindsOn p.1).all (Nat.blt · p.2) && (at_ A p.2).all (fun k => (bindsOn p.1).any (Nat.beq k) || (bindsOn p.1).any fun m => (at_ A m).any (Nat.beq k)) &&
    (at_ N p.2).all (fun j => (Nat.ble n j || (at_ A p.2).any (Nat.beq j)) && (List.range n).all fun k => Nat.beq k p.2 || Nat.beq k j || disj (at_ C j) (at_ L k) || (at_ A k).any (Nat.beq p.2) || (Nat.blt j n && (at_ A j).any (Nat.beq k))) &&
    subL (at_ L p.2) LA && (match p.1.dst with | some d => Nat.blt d nd | none => true)) &&
  ((List.range n).all fun j => (at_ D j).all fun k => Nat.beq k j || (at_ A j).any (Nat.beq k)) &&
  (E.all fun j => (List.range n).all fun k => Nat.beq k j || disj (at_ C j) (at_ L k) || (Nat.blt j n && (at_ A j).any (Nat.beq k))) && (D.drop n).all (fun d => d.isEmpty) && Region.noSelect l.toArray && nodupD (l.map (·.dst)) && Nat.beq l.length n
abbrev Fact := Env → CW → Prop
def fat (F : List Fact) (j : Nat) : Fact := F.getD j fun _ _ => True
/-- One operation: it leaves its fact. -/
def Step (P : Program) (ds : List (Option Nat)) (ρ : Env) (W0 : CW) (N L : List (List Nat)) (F : List Fact) (LA : List Nat) (i : Nat) (o : Oper) : Prop :=
  ∀ vs W, Le LA W0 W → (∀ j ∈ at_ N i, fat F j vs W) → Tr P (ups ρ ds 0 vs) W.w o.op o.type fun v w' => ∃ W', W'.w = w' ∧ Le (at_ L i) W W' ∧ fat F i (vs.up i v) W'
def Steps (G : Nat → Oper → Prop) : List Oper → Nat → Prop
  | [], _ => True
  | o :: l, i => G i o ∧ Steps G l (i + 1)
theorem Steps.at_ {G : Nat → Oper → Prop} : ∀ {l : List Oper} {k i : Nat} {o : Oper}, Steps G l k → l[i]? = some o → G (k + i) o
  | [], k, i, o, _, h => by simp at h
  | x :: l, k, 0, o, hs, h => by
    have : x = o := by simpa using h
    subst this
    exact hs.1
  | x :: l, k, i + 1, o, hs, h => by
    have := Steps.at_ (i := i) hs.2 (by simpa using h)
    rwa [show k + 1 + i = k + (i + 1) by omega] at this
/-- A fact leans on nothing but the values D and the colours C. -/
def Sup (D C : List Nat) (f : Fact) : Prop := ∀ vs vs' W W' L, (∀ k ∈ D, vs' k = vs k) → Le L W W' → disj C L = true → f vs W → f vs' W'
def Sups : List (List Nat) → List (List Nat) → List Fact → Prop
  | D :: Ds, C :: Cs, f :: Fs => Sup D C f ∧ Sups Ds Cs Fs
  | _, _, [] => True
  | _, _, _ => False
theorem Sups.at_ : ∀ {Ds Cs : List (List Nat)} {Fs : List Fact} (j : Nat), Sups Ds Cs Fs → Sup (Sx.at_ Ds j) (Sx.at_ Cs j) (fat Fs j)
  | Ds, Cs, [], j, _ => fun vs vs' W W' L _ _ _ _ => by simp [fat]
  | [], _, f :: Fs, j, h => by simp [Sups] at h
  | _ :: _, [], f :: Fs, j, h => by simp [Sups] at h
  | D :: Ds, C :: Cs, f :: Fs, 0, h => h.1
  | D :: Ds, C :: Cs, f :: Fs, j + 1, h => Sups.at_ j h.2

theorem anyb {l : List Nat} {c : Nat} (h : l.any (Nat.beq c) = true) : c ∈ l := any_beq.1 h
theorem zip_at {α : Type} {p : α × Nat → Bool} : ∀ {l : List α} {k : Nat}, (l.zipIdx k).all p = true → ∀ (i : Nat) x, l[i]? = some x → p (x, k + i) = true
  | [], k, _, i, x, h => by simp at h
  | y :: l, k, ha, 0, x, h => by
    have e : y = x := by simpa using h
    subst e
    simp only [List.zipIdx_cons, List.all_cons, Bool.and_eq_true] at ha
    exact ha.1
  | y :: l, k, ha, i + 1, x, h => by
    simp only [List.zipIdx_cons, List.all_cons, Bool.and_eq_true] at ha
    have := zip_at ha.2 i x (by simpa using h)
    rwa [show k + 1 + i = k + (i + 1) by omega] at this
/-- How many of the first n are not listed. -/
def unl (listed : Array Bool) : Nat → Nat
  | 0 => 0
  | n + 1 => unl listed n + bif listed.getD n true then 0 else 1
theorem unl_set {listed : Array Bool} {i : Nat} (h : listed.getD i true = false) : ∀ n, unl (listed.setIfInBounds i true) n + (if i < n then 1 else 0) = unl listed n
  | 0 => by simp [unl]
  | n + 1 => by
    have hi : i < listed.size := by
      apply Nat.lt_of_not_le
      intro hn
      simp [hn] at h
    have ih := unl_set h n
    simp only [unl]
    by_cases e : i = n
    · subst e
      have h1 : (listed.setIfInBounds i true).getD i true = true := by simp [hi]
      rw [h1, h]
      simp only [Nat.lt_irrefl, if_false, Nat.add_zero] at ih
      simp [ih]
    · have h1 : (listed.setIfInBounds i true).getD n true = listed.getD n true := getD_set_ne true e
      rw [h1]
      by_cases hlt : i < n
      · rw [if_pos hlt] at ih
        rw [if_pos (by omega)]
        omega
      · rw [if_neg hlt] at ih
        rw [if_neg (by omega)]
        omega
theorem unl_zero {listed : Array Bool} : ∀ {n : Nat}, unl listed n = 0 → ∀ i, i < n → listed.getD i true = true
  | n + 1, h, i, hi => by
    simp only [unl] at h
    by_cases e : i = n
    · subst e
      cases hb : listed.getD i true with
      | true => rfl
      | false => rw [hb] at h; simp at h
    · exact unl_zero (n := n) (by omega) i (by omega)
section
variable {P : Program} {nd : Nat} {R : Post} {ρ : Env} {W0 : CW} {l : List Oper} {A N L D C : List (List Nat)} {E LA : List Nat} {F : List Fact}
structure ParInv (nd : Nat) (ρ : Env) (W0 : CW) (l : List Oper) (A L C : List (List Nat)) (LA : List Nat) (F : List Fact) (listed : Array Bool) (a : Act) (W : CW) (vs : Env) : Prop where
  size : listed.size = l.length
  fits : Fits nd a (ups ρ (l.map (·.dst)) 0 vs)
  le : Le LA W0 W
  closed : ∀ m, listed.getD m false = true → ∀ k ∈ at_ A m, listed.getD k false = true
  alive : ∀ j, (l.length ≤ j ∨ listed.getD j false = true) → (∀ k, listed.getD k false = true → k ≠ j → disj (at_ C j) (at_ L k) = false → j < l.length ∧ k ∈ at_ A j) → fat F j vs W
theorem getD_swap {listed : Array Bool} {i : Nat} (h : i < listed.size) : listed.getD i true = listed.getD i false := by simp [h]
theorem lt_of_listed {listed : Array Bool} {i : Nat} (h : listed.getD i false = true) : i < listed.size := by
  apply Nat.lt_of_not_le
  intro hn
  simp [hn] at h
theorem par_any (hB : parB l l.length nd A N L D C E LA = true) (hS : Steps (Step P (l.map (·.dst)) ρ W0 N L F LA) l 0) (hF : Sups D C F)
    (hQ : ∀ a vs W, Fits nd a (ups ρ (l.map (·.dst)) 0 vs) → Le LA W0 W → (∀ j ∈ E, fat F j vs W) → lift nd R .normal a W.w) :
    ∀ (fuel : Nat) (listed : Array Bool) (a : Act) (W : CW) (vs : Env), ParInv nd ρ W0 l A L C LA F listed a W vs → unl listed l.length ≤ fuel →
      wpAny P .any l.toArray (fun e a w => e = .normal ∧ lift nd R e a w) fuel listed a W.w := by
  simp only [parB, Bool.and_eq_true] at hB
  obtain ⟨⟨⟨⟨⟨⟨h1, h2⟩, h3⟩, h0⟩, h4⟩, h5⟩, h6⟩ := hB
  have row := fun i o (ho : l[i]? = some o) => zip_at h1 i o ho
  simp only [Nat.zero_add, Bool.and_eq_true, List.all_eq_true, Bool.or_eq_true, List.any_eq_true] at row
  have done : ∀ listed a W vs, ParInv nd ρ W0 l A L C LA F listed a W vs → Region.ready .any l.toArray listed = [] → (fun e a w => e = Exit.normal ∧ lift nd R e a w) Exit.normal a W.w := by
    intro listed a W vs inv hr
    have hall : ∀ i, i < l.length → listed.getD i false = true := by
      intro i
      induction i using Nat.strongRecOn with
      | ind i ih =>
        intro hi
        cases hb : listed.getD i false with
        | true => rfl
        | false =>
          have ho : l[i]? = some l[i] := List.getElem?_eq_getElem hi
          have hm : i ∈ Region.ready .any l.toArray listed := by
            rw [mem_ready]
            refine ⟨by rw [getD_swap (by rw [inv.size]; exact hi), hb], l[i], by simp, fun e he hbi => ?_⟩
            have hk : e.on ∈ bindsOn l[i] := by
              unfold bindsOn
              exact List.mem_map_of_mem (List.mem_filter.2 ⟨Array.mem_toList_iff.2 he, hbi⟩)
            have hlt := (row i l[i] ho).1.1.1.1.2 _ hk
            have hlt' : e.on < i := by simpa [Nat.blt_eq] using hlt
            exact ih e.on hlt' (by omega)
          rw [hr] at hm
          cases hm
    refine ⟨rfl, hQ a vs W inv.fits inv.le fun j hj => ?_⟩
    refine inv.alive j ?_ fun k hk hkj hd => ?_
    · by_cases hjl : l.length ≤ j
      · exact .inl hjl
      · exact .inr (hall j (by omega))
    · have hkl : k < l.length := by rw [← inv.size]; exact lt_of_listed hk
      have := List.all_eq_true.1 (List.all_eq_true.1 h3 j hj) k (List.mem_range.2 hkl)
      simp only [Bool.or_eq_true, Bool.and_eq_true] at this
      rcases this with (this | this) | this
      · exact absurd (Nat.eq_of_beq_eq_true this) hkj
      · rw [hd] at this; cases this
      · exact ⟨by simpa [Nat.blt_eq] using this.1, anyb this.2⟩
  intro fuel
  induction fuel with
  | zero =>
    intro listed a W vs inv hf
    have hr : Region.ready .any l.toArray listed = [] := by
      rw [List.eq_nil_iff_forall_not_mem]
      intro i hi
      obtain ⟨hu, o, ho, _⟩ := mem_ready.1 hi
      have hil : i < l.length := by
        have := (Array.getElem?_eq_some_iff.1 ho).1
        simpa using this
      have := unl_zero (listed := listed) (n := l.length) (by omega) i hil
      rw [this] at hu
      cases hu
    exact ⟨hr, done listed a W vs inv hr⟩
  | succ fuel ih =>
    intro listed a W vs inv hf
    refine ⟨done listed a W vs inv, fun i hi => ?_⟩
    obtain ⟨hu, o, ho, hall⟩ := mem_ready.1 hi
    have hol : l[i]? = some o := by simpa using ho
    have hil : i < l.length := (List.getElem?_eq_some_iff.1 hol).1
    obtain ⟨⟨⟨⟨⟨hg, hlt⟩, hA⟩, hN⟩, hL⟩, hd⟩ := row i o hol
    have hun : listed.getD i false = false := by rw [← getD_swap (by rw [inv.size]; exact hil), hu]
    have hbind : ∀ k ∈ bindsOn o, listed.getD k false = true := by
      intro k hk
      obtain ⟨e, he, rfl⟩ := List.mem_map.1 hk
      obtain ⟨he1, he2⟩ := List.mem_filter.1 he
      exact hall e (Array.mem_toList_iff.1 he1) he2
    have hAl : ∀ k ∈ at_ A i, listed.getD k false = true := by
      intro k hk
      rcases hA k hk with ⟨m, hm, e⟩ | ⟨m, hm, x, hx, e⟩
      · rw [Nat.eq_of_beq_eq_true e]; exact hbind m hm
      · exact inv.closed m (hbind m hm) k (by rw [Nat.eq_of_beq_eq_true e]; exact hx)
    have hNf : ∀ j ∈ at_ N i, fat F j vs W := by
      intro j hj
      obtain ⟨hj1, hj2⟩ := hN j hj
      refine inv.alive j ?_ fun k hk hkj hdis => ?_
      · rcases hj1 with hj1 | ⟨x, hx, e⟩
        · exact .inl (Nat.le_of_ble_eq_true hj1)
        · exact .inr (hAl j (by rw [Nat.eq_of_beq_eq_true e]; exact hx))
      · have hkl : k < l.length := by rw [← inv.size]; exact lt_of_listed hk
        rcases hj2 k (List.mem_range.2 hkl) with (((e | e) | e) | ⟨x, hx, e⟩) | e
        · rw [Nat.eq_of_beq_eq_true e, hun] at hk; cases hk
        · exact absurd (Nat.eq_of_beq_eq_true e) hkj
        · rw [hdis] at e; cases e
        · have := inv.closed k hk x hx
          rw [← Nat.eq_of_beq_eq_true e, hun] at this
          cases this
        · obtain ⟨e1, x, hx, e2⟩ := e
          exact ⟨by simpa [Nat.blt_eq] using e1, by rw [Nat.eq_of_beq_eq_true e2]; exact hx⟩
    have hstep := (Steps.at_ hS hol) vs W inv.le (by simpa using hNf)
    simp only [Nat.zero_add] at hstep
    unfold wpOp
    simp only [ho]
    have hw : Region.wanted o (yielded l.toArray a.tmps) = true := by
      have : o.guard = none := by simpa using hg
      simp [Region.wanted, this]
    rw [if_pos hw]
    refine .inl ?_
    refine hstep o rfl rfl a _ _ inv.fits.evalF ?_
    rintro v w' ⟨W', rfl, hle, hFi⟩
    refine ih (listed.setIfInBounds i true) _ W' (vs.up i v) ⟨by simp [inv.size], ?_, inv.le.trans (hle.sub hL), ?_, ?_⟩ ?_
    · cases hdst : o.dst with
      | none =>
        have := ups_none (l.map (·.dst)) 0 vs ρ i v (by rw [List.getElem?_map, hol]; simp [hdst])
        rw [Nat.zero_add] at this
        rw [this]
        exact inv.fits.putN v
      | some d =>
        rw [hdst] at hd
        have := ups_set (l.map (·.dst)) 0 vs ρ i d v h5 (by rw [List.getElem?_map, hol]; simp [hdst])
        rw [Nat.zero_add] at this
        rw [← this]
        exact inv.fits.put hd v
    · intro m hm k hk
      have keep : ∀ {x : Nat}, listed.getD x false = true → (listed.setIfInBounds i true).getD x false = true := by
        intro x hx
        have hne : i ≠ x := fun e => by rw [← e, hun] at hx; cases hx
        rw [getD_set_ne false hne]; exact hx
      by_cases e : i = m
      · subst e; exact keep (hAl k hk)
      · rw [getD_set_ne false e] at hm
        exact keep (inv.closed m hm k hk)
    · intro j hj hal
      have hset : ∀ {x : Nat}, i ≠ x → (listed.setIfInBounds i true).getD x false = listed.getD x false := fun h => getD_set_ne false h
      have hi1 : (listed.setIfInBounds i true).getD i false = true := by
        have : i < listed.size := by rw [inv.size]; exact hil
        simp [this]
      by_cases e : i = j
      · subst e; exact hFi
      · have hjl : l.length ≤ j ∨ listed.getD j false = true := by
          rcases hj with h | h
          · exact .inl h
          · rw [hset e] at h; exact .inr h
        have hdis : disj (at_ C j) (at_ L i) = true := by
          cases hb : disj (at_ C j) (at_ L i) with
          | true => rfl
          | false =>
            obtain ⟨hj1, hj2⟩ := hal i hi1 e hb
            rcases hjl with h | h
            · omega
            · have := inv.closed j h i hj2
              rw [hun] at this
              cases this
        have hold := inv.alive j hjl fun k hk hkj hdd => hal k (by
          have hne : i ≠ k := fun e => by rw [← e, hun] at hk; cases hk
          rw [hset hne]; exact hk) hkj hdd
        refine Sups.at_ j hF vs (vs.up i v) W W' (at_ L i) (fun k hk => ?_) hle hdis hold
        have hne : i ≠ k := by
          intro e2
          by_cases hjn : j < l.length
          · have := List.all_eq_true.1 (List.all_eq_true.1 h2 j (List.mem_range.2 hjn)) k hk
            simp only [Bool.or_eq_true] at this
            rcases this with this | this
            · exact e (by rw [e2, Nat.eq_of_beq_eq_true this])
            · rcases hjl with h | h
              · omega
              · have := inv.closed j h k (anyb this)
                rw [← e2, hun] at this
                cases this
          · have hz : at_ D j = [] := by
              unfold at_
              by_cases hjd : j < D.length
              · have hm : D[j] ∈ D.drop l.length := by
                  rw [List.mem_iff_getElem?]
                  exact ⟨j - l.length, by rw [List.getElem?_drop, show l.length + (j - l.length) = j by omega]; exact List.getElem?_eq_getElem hjd⟩
                have := List.all_eq_true.1 h0 _ hm
                simpa [hjd] using this
              · simp [Nat.le_of_not_lt hjd]
            rw [hz] at hk
            cases hk
        exact up_at hne
    · have := unl_set hu l.length
      rw [if_pos hil] at this
      omega
theorem fat_app {Fo Fp : List Fact} {n j : Nat} (h : Fo.length = n) (hj : n ≤ j) : fat (Fo ++ Fp) j = fat Fp (j - n) := by
  subst h
  unfold fat
  simp only [List.getD_eq_getElem?_getD]
  rw [List.getElem?_append_right hj]
def AllF (G : Fact → Prop) : List Fact → Prop
  | [] => True
  | f :: F => G f ∧ AllF G F
theorem AllF.at_ {G : Fact → Prop} (ht : G fun _ _ => True) : ∀ {F : List Fact} (j : Nat), AllF G F → G (fat F j)
  | [], j, _ => by simpa [fat] using ht
  | f :: F, 0, h => h.1
  | f :: F, j + 1, h => AllF.at_ ht (F := F) j h.2
theorem Steps.nil {G : Nat → Oper → Prop} {i : Nat} : Steps G [] i := trivial
theorem Steps.cons {G : Nat → Oper → Prop} {i : Nat} {o : Oper} {l : List Oper} (h : G i o) (t : Steps G l (i + 1)) : Steps G (o :: l) i := ⟨h, t⟩
theorem Sups.nil {Ds Cs : List (List Nat)} : Sups Ds Cs [] := by cases Ds <;> cases Cs <;> trivial
theorem Sups.cons {D C : List Nat} {Ds Cs : List (List Nat)} {f : Fact} {Fs : List Fact} (h : Sup D C f) (t : Sups Ds Cs Fs) : Sups (D :: Ds) (C :: Cs) (f :: Fs) := ⟨h, t⟩
theorem AllF.nil {G : Fact → Prop} : AllF G [] := trivial
theorem AllF.cons {G : Fact → Prop} {f : Fact} {F : List Fact} (h : G f) (t : AllF G F) : AllF G (f :: F) := ⟨h, t⟩
theorem disj_mem {C L : List Nat} {c : Nat} (h : disj C L = true) (hc : C.any (Nat.beq c) = true) : disj [c] L = true := by
  unfold disj at h ⊢
  rw [List.all_eq_true] at h ⊢
  intro x hx
  rw [List.mem_singleton] at hx
  rw [hx]
  exact h c (anyb hc)
theorem Ow.upv {α : Type} [Rp α] {W W' : CW} {c : Nat} {L : List Nat} {cs : List Value} {x : α} (h : Ow W c [] cs x) (l : Le L W W') (hd : disj [c] L = true) : Ow W' c [] cs x := by
  obtain ⟨S, ho, hn, hb⟩ := h
  have hk : ∀ b ∈ S, W'.w.heap[b]? = W.w.heap[b]? ∧ W'.c b = W.c b := fun b hb' => l.keep b (hb b hb').1 (by rw [(hb b hb').2]; exact disj_not hd (by simp))
  exact ⟨S, own_mono (A := AK W []) (fun b hb => absurd hb.2 (by simp)) (own_keep (fun b hb => absurd hb.2 (by simp)) (fun b hb' => (hk b hb').1) ho), hn, fun b hb' => ⟨Nat.lt_of_lt_of_le (hb b hb').1 l.size, by rw [(hk b hb').2]; exact (hb b hb').2⟩⟩
/-- The block that a pointer leads to. -/
def pg (v : Value) : Nat := match v with
  | .pointer (some a) => a.block
  | _ => 0
/-- A region that draws its order. -/
theorem Cw.par {id : Nat} (A N L D C : List (List Nat)) (E LA : List Nat) (Fo Fp : List Fact) (hm : P.follows .mixedOrders = true) (hB : parB l l.length nd A N L D C E LA = true) {W : CW} (hl : Fo.length = l.length)
    (h0 : AllF (fun f => ∀ vs W', Le [] W W' → f vs W') Fp) (h : ∀ W0, Le [] W W0 → Steps (Step P (l.map (·.dst)) ρ W0 N L (Fo ++ Fp) LA) l 0 ∧ Sups D C (Fo ++ Fp) ∧
      ∀ vs W1, Le LA W0 W1 → (∀ j ∈ E, fat (Fo ++ Fp) j vs W1) → R .normal (ups ρ (l.map (·.dst)) 0 vs) W1.w) : Cw P nd (.region id l.toArray true) R ρ W.w := fun a ha => by
  let W0 : CW := ⟨{ W.w with drawn := W.w.drawn + 1 }, W.c⟩
  have hle : Le [] W W0 := ⟨rfl, rfl, rfl, Nat.le_refl _, fun _ _ _ => ⟨rfl, rfl⟩⟩
  obtain ⟨hS, hF, hQ⟩ := h W0 hle
  have hz : ∀ k, (Array.replicate l.length false).getD k false = false := fun k => by
    by_cases hk : k < l.length <;> simp [Array.getD_eq_getD_getElem?, Array.getElem?_replicate, hk]
  have hu : ∀ (n : Nat), n ≤ l.length → unl (Array.replicate l.length false) n ≤ n := by
    intro n
    induction n with
    | zero => intro _; simp [unl]
    | succ n ih =>
      intro hn
      have := ih (by omega)
      simp only [unl]
      cases (Array.replicate l.length false).getD n true <;> simp <;> omega
  have inv0 : ParInv nd ρ W0 l A L C LA (Fo ++ Fp) (Array.replicate l.length false) a W0 (val0 ρ (l.map (·.dst))) := by
    refine ⟨by simp, ?_, Le.refl _ _, fun m hm => ?_, fun j hj _ => ?_⟩
    · rw [ups_start]
      · exact ha
      · intro i d h
        rw [Nat.zero_add]
        unfold val0
        rw [List.getD_eq_getElem?_getD, h]
        rfl
    · rw [hz] at hm; cases hm
    · rcases hj with hj | hj
      · rw [fat_app hl hj]
        exact AllF.at_ (G := fun f => ∀ vs W', Le [] W W' → f vs W') (fun _ _ _ => trivial) _ h0 _ _ hle
      · rw [hz] at hj; cases hj
  have key := par_any (P := P) (R := R) hB hS hF (fun a vs W hf hle hE => ⟨_, hf, hQ vs W hle hE⟩) l.length (Array.replicate l.length false) a W0 _ inv0 (hu _ (Nat.le_refl _))
  refine wp_mono (wp_region_any hm (Q := fun e a w => e = .normal ∧ lift nd R e a w) ?_) (fun e a w hh => hh.2)
  have e : l.toArray.size = l.length := by simp
  rw [e]
  exact key
end
end Go.Sx
