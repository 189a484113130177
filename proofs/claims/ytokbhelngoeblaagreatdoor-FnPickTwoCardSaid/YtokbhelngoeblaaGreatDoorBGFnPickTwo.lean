/- Plain law FnPickTwo, and what it uses: what the models answer. Conditions: each law's own premises. -/
import Derived.Test.YtokbhelngoeblaaGreatDoorBGFnPickTwoa
import Derived.Test.YtokbhelngoeblaaGreatDoorBLw
namespace Go.Vm
open Go Go.Sx
set_option linter.unusedSimpArgs false
set_option linter.unusedVariables false
theorem ziB {t : List File} {p : Str} (h : (getT t p).2 = false) : (getT t p).1 = [] := by
  unfold getT at *
  cases hf : t.find? (fun f => f.Path == p) with
  | none => rfl
  | some f => rw [hf] at h; cases h
theorem zhu {a b : List File} {p : Str} : zfc (getT a p) (getT b p) = decide (getT a p = getT b p) := by
  have ha := ziB (t := a) (p := p)
  have hb := ziB (t := b) (p := p)
  revert ha hb
  generalize getT a p = x
  generalize getT b p = y
  intro ha hb
  obtain ⟨x1, x2⟩ := x
  obtain ⟨y1, y2⟩ := y
  unfold zfc
  cases x2 <;> cases y2
  · have e1 : x1 = [] := ha rfl
    have e2 : y1 = [] := hb rfl
    subst e1; subst e2; simp
  · simp
  · simp
  · by_cases h : x1 = y1
    · subst h; simp
    · have e : (x1 == y1) = false := beq_false_of_ne h
      simp [e, h]
theorem zfD (o a b : List File) : Asd (zbb o a b) := zcN _ _ (zcN _ _ (zcN _ _ List.Pairwise.nil))
theorem zkf {t : List File} (h : zap t = true) : t.Pairwise fun x y => x.Path < y.Path := by
  unfold zap at h
  simp only [Bool.and_eq_true] at h
  have hb : ∀ i, i < t.length → zgh t i = true := fun i hi => by
    have := zaX.1 h.2 i (Nat.zero_le _) (by omega)
    unfold zgi at this
    simp only [Bool.and_eq_true] at this
    exact this.1
  refine List.pairwise_iff_getElem.2 fun i j hi hj hij => ?_
  have := zif hb hij hj
  rwa [zbk (List.getElem?_eq_getElem hi), zbk (List.getElem?_eq_getElem hj)] at this
theorem zmd {t : List File} (h : t.Pairwise fun x y => x.Path < y.Path) {f : File} (hf : f ∈ t) : getT t f.Path = (f.Text, true) := by
  unfold getT
  cases hg : t.find? (fun g => g.Path == f.Path) with
  | none => exact absurd (List.find?_eq_none.1 hg f hf) (by simp)
  | some g =>
    have hgm := List.mem_of_find?_eq_some hg
    have he : g.Path = f.Path := by simpa using List.find?_some hg
    obtain ⟨i, hi, rfl⟩ := List.getElem_of_mem hf
    obtain ⟨j, hj, rfl⟩ := List.getElem_of_mem hgm
    have hp := List.pairwise_iff_getElem.1 h
    rcases Nat.lt_trichotomy i j with q | q | q
    · have := hp i j hi hj q
      rw [he] at this
      exact absurd this (zaj _)
    · subst q; rfl
    · have := hp j i hj hi q
      rw [he] at this
      exact absurd this (zaj _)
theorem zh5 : ∀ {xs ys : List File}, xs.Pairwise (fun x y => x.Path < y.Path) → ys.Pairwise (fun x y => x.Path < y.Path) → (∀ a, a ∈ xs ↔ a ∈ ys) → xs = ys
  | [], [], _, _, _ => rfl
  | [], y :: ys, _, _, h => by have := (h y).2 (by simp); simp at this
  | x :: xs, [], _, _, h => by have := (h x).1 (by simp); simp at this
  | x :: xs, y :: ys, hx, hy, h => by
    have hx' := List.pairwise_cons.1 hx
    have hy' := List.pairwise_cons.1 hy
    have e : x = y := by
      rcases List.mem_cons.1 ((h x).1 (by simp)) with q | q
      · exact q
      · rcases List.mem_cons.1 ((h y).2 (by simp)) with r | r
        · exact r.symm
        · exact absurd (zaS (hy'.1 x q) (hx'.1 y r)) (zaj _)
    subst e
    have := zh5 hx'.2 hy'.2 fun a => by
      constructor
      · intro ha
        rcases List.mem_cons.1 ((h a).1 (List.mem_cons_of_mem _ ha)) with q | q
        · subst q; exact absurd (hx'.1 a ha) (zaj _)
        · exact q
      · intro ha
        rcases List.mem_cons.1 ((h a).2 (List.mem_cons_of_mem _ ha)) with q | q
        · subst q; exact absurd (hy'.1 a ha) (zaj _)
        · exact q
    rw [this]
theorem zeG (o t : List File) (p : Str) : oneF o o t p = ((getT t p).1, (getT t p).2, 0) := by
  unfold oneF
  simp only [zhu]
  simp
theorem zjR {o t : List File} (h : t.Pairwise fun x y => x.Path < y.Path) : zdC o o t = t := by
  unfold zdC
  refine zh5 ?_ h fun f => ?_
  · refine List.pairwise_filterMap.2 ((zfD o o t).imp fun {p q} hpq f hf g hg => ?_)
    unfold zf3 at hf hg
    rw [zeG] at hf hg
    cases hp : (getT t p).2 <;> cases hq : (getT t q).2 <;> simp [hp, hq] at hf hg
    rw [← hf, ← hg]
    exact hpq
  · rw [List.mem_filterMap]
    constructor
    · rintro ⟨p, _, hf⟩
      unfold zf3 at hf
      rw [zeG] at hf
      unfold getT at hf
      cases hg : t.find? (fun g => g.Path == p) with
      | none => rw [hg] at hf; simp at hf
      | some g =>
        rw [hg] at hf
        simp only [cond_true, Option.some.injEq] at hf
        have he : g.Path = p := by simpa using List.find?_some hg
        rw [← hf, ← he]
        exact List.mem_of_find?_eq_some hg
    · intro hf
      refine ⟨f.Path, pathsF_mem.2 (.inr (.inr ⟨f, hf, rfl⟩)), ?_⟩
      unfold zf3
      rw [zeG, zmd h hf]
      rfl
theorem ziL {o t : List File} (h : zap t = true) : zbc o o t = (t, []) := by
  have e : zeb o o t = [] := by
    unfold zeb
    rw [List.filterMap_eq_nil_iff]
    intro p _
    unfold zfi
    rw [zeG]
    rfl
  unfold zbc
  rw [e, zjR (zkf h), h]
  rfl
theorem zd6 {α : Type} {f : α → Nat} {c : Nat} : ∀ {t : List α}, (∀ s ∈ t, f s ≤ c) → zcT f t ≤ c * t.length
  | [], _ => by simp [zcT]
  | x :: t, h => by
    have h1 := h x (by simp)
    have h2 := zd6 (t := t) (fun s hs => h s (by simp [hs]))
    simp only [zcT, List.length_cons, Nat.mul_add, Nat.mul_one]
    omega
theorem zlr {t : List Str} (h : zar t = true) : Bk.bulk t ≤ 130 := by
  have hl := zay h
  have hs : zcT Bk.bulk t ≤ 12 * t.length := zd6 fun s hs => by
    have := zhS (zaT h s hs)
    show s.length ≤ 12
    omega
  show t.length + zcT Bk.bulk t ≤ 130
  omega
theorem zls {t : List File} (h : zap t = true) : Bk.bulk t ≤ 1208 := by
  have hl := zal h
  have hs : zcT Bk.bulk t ≤ 150 * t.length := zd6 fun f hf => by
    have h1 := zdj (zch h hf)
    have h2 := zlr (zak h f hf)
    show f.Path.length + Bk.bulk f.Text ≤ 150
    omega
  show t.length + zcT Bk.bulk t ≤ 1208
  omega
theorem zl0 {r : Repo} (h : zaa r = true) {c : Commit} (hc : c ∈ r.Commits) : c.Parents.length ≤ 2 ∧ (∀ p ∈ c.Parents, 0 ≤ p ∧ p ≤ 16) ∧ zaD c.Who = true ∧ zap c.Tree = true := by
  obtain ⟨i, hi⟩ := List.mem_iff_getElem?.1 hc
  have hil := zav hi
  have s1 := (zad h).1
  have := zgl h (i := i) (by omega)
  rw [zdG hi] at this
  unfold zki at this
  simp only [Bool.and_eq_true, decide_eq_true_eq, List.all_eq_true] at this
  refine ⟨by omega, fun p hp => ?_, this.2.2.2.1, this.2.2.2.2⟩
  have h1 := this.1 p hp
  unfold upB at h1
  simp only [Bool.and_eq_true, decide_eq_true_eq] at h1
  omega
theorem zlt {r : Repo} (h : zaa r = true) : Bk.bulk r ≤ 20000 := by
  obtain ⟨s1, s2⟩ := zad h
  have h1 : zcT Bk.bulk r.Commits ≤ 1218 * r.Commits.length := zd6 fun c hc => by
    obtain ⟨c1, _, c3, c4⟩ := zl0 h hc
    have := zbQ c3
    have := zls c4
    have hp : zcT Bk.bulk c.Parents ≤ 0 * c.Parents.length := zd6 fun p hp => Nat.le_refl 0
    show c.Parents.length + zcT Bk.bulk c.Parents + (c.Who.length + Bk.bulk c.Tree) ≤ 1218
    omega
  have h2 : zcT Bk.bulk r.Heads ≤ 6 * r.Heads.length := zd6 fun x hx => by
    have := zbQ (zgm h hx).2.2
    show x.Name.length + 0 ≤ 6
    omega
  show r.Commits.length + zcT Bk.bulk r.Commits + (r.Heads.length + zcT Bk.bulk r.Heads) ≤ 20000
  omega
theorem zlu {t : List File} (h : zap t = true) : Bk.fit t := ⟨by have := zal h; unfold zam; omega, fun f hf => ⟨by have := zdj (zch h hf); show f.Path.length ≤ zam; unfold zam; omega, by
  have h1 := zak h f hf
  have h2 := zay h1
  exact zbT (by omega) (zaT h1)⟩⟩
theorem zlv {r : Repo} (h : zaa r = true) : Bk.fit r := by
  obtain ⟨s1, s2⟩ := zad h
  refine ⟨⟨by unfold zam; omega, fun c hc => ?_⟩, by unfold zam; omega, fun x hx => ?_⟩
  · obtain ⟨c1, c2, c3, c4⟩ := zl0 h hc
    refine ⟨⟨by unfold zam; omega, fun p hp => ?_⟩, by have := zbQ c3; show c.Who.length ≤ zam; unfold zam; omega, zlu c4⟩
    have := c2 p hp
    show -9223372036854775808 ≤ p ∧ p ≤ 9223372036854775807
    omega
  · obtain ⟨h1, h2, h3⟩ := zgm h hx
    refine ⟨by have := zbQ h3; show x.Name.length ≤ zam; unfold zam; omega, ?_⟩
    show -9223372036854775808 ≤ x.At ∧ x.At ≤ 9223372036854775807
    omega
theorem zjS (l : List Str) (o a b : List File) (h : l = o.map (·.Path) ++ a.map (·.Path) ++ b.map (·.Path)) : zk3 (zdQ l) = zbb o a b := by
  refine Asd.ext (zfb _ none (zkK _) (fun q hq => by cases hq)).1 (zfD o a b) fun x => ?_
  rw [zhc, zju, h, pathsF_mem]
  simp only [List.mem_append, List.mem_map]
  constructor
  · rintro ((h | h) | h)
    · exact .inl h
    · exact .inr (.inl h)
    · exact .inr (.inr h)
  · rintro (h | h | h)
    · exact .inl (.inl h)
    · exact .inl (.inr h)
    · exact .inr h
set_option linter.unusedSectionVars false
theorem zmA {t : List File} (h : TB t) (p : Str) : ziK t p = some (getT t p) := by
  have hm := h.maxi
  unfold ziK getT
  simp only [jn, zas]
  rw [zcX (p := fun f : File => f.Path == p) (xs := t) (r := fun f => some (f.Text, true)) (Z := some ([], false)) (f := fun m k => zdK t p _ m [] false k) (fun m i x hx => by
    have hf := h.at_ hx
    simp only [zdK, zaq hx, zae hx, cond_true, Option.bind_some, zbO hf.len, zag (zav hx) hm]) (fun m => by simp only [zdK, zai, cond_false]) (by omega)]
  cases t.find? (fun f => f.Path == p) <;> rfl
def zl1 (t : List File) (p : Str) : has := ⟨(getT t p).1, (getT t p).2⟩
theorem zhz {t : List File} (h : TB t) (p : Str) : zgE t p = some (zl1 t p) := by
  unfold zgE
  rw [zmA h, Option.bind_some]
  rfl
theorem zg6 {a b : List File} {p : Str} (h : TB a) : zee (zl1 a p) (zl1 b p) = some (decide (getT a p = getT b p)) := by
  have hl := (ziN h p).1
  unfold zee zl1
  simp only [jn, zeH (zan hl), Option.bind_some]
  generalize getT a p = x at *
  generalize getT b p = y at *
  obtain ⟨x1, x2⟩ := x
  obtain ⟨y1, y2⟩ := y
  by_cases h1 : x1 = y1 <;> cases x2 <;> cases y2 <;> simp [h1]
theorem zhA {o a b : List Str} (hto : zar o = true) (hta : zar a = true) (htb : zar b = true) : zek o a b = some (zcG (zaB o a b)) := by
  have lo := zay hto
  have la := zay hta
  have lb := zay htb
  obtain ⟨hlen, hparts⟩ := zhU hto hta htb
  unfold zek zbi zcG
  rw [ziY (zbT (by omega) (zaT hto)) (zbT (by omega) (zaT hta)) (zbT (by omega) (zaT htb)), hto, hta, htb, Option.bind_some]
  simp only [jn, zas, Bool.and_self, Bool.not_true, cond_false, zjZ (show o.length ≤ 1000 by omega) (show a.length ≤ 1000 by omega) (show b.length ≤ 1000 by omega), Option.bind_some]
  obtain ⟨h1, h2⟩ := zhb (xs := zaB o a b) (step := zgY) (r0 := some (([] : List Str), false)) (Inv := zog) (s0 := []) (Z := fun s => (zbu s).bind fun z30 => bif (!z30) then (some (([] : List Str), false)) else (some (s, true))) (f := fun m s i => zao (zaB o a b) (fun _ _ y7 _ => (zbu y7).bind fun z30 => bif (!z30) then (some (([] : List Str), false)) else (some (y7, true))) m [] false s i) (fun m i p s hx hI => by
    have hi := zav hx
    obtain ⟨p1, p2, _⟩ := hparts p (List.mem_of_getElem? hx)
    refine ⟨?_, fun s' hst => zil p1 p2 hI hst⟩
    have hs := hI.1
    simp only [zao, zff, jn, zaq hx, zae hx, cond_true, Option.bind_some, zag hi (show (zaB o a b).length ≤ zam by unfold zam; omega), apT (show s.length ≤ 1000000 by omega) (show p.Lines.length ≤ 1000000 by omega)]
    unfold zgY
    cases p.Clash <;> rfl) (fun m s hI => by simp only [zao, zai, cond_false]) (m := (zaB o a b).length + 1) (by omega) ⟨by simp, by simp⟩
  rw [h1]
  cases hf : (zaB o a b).foldlM zgY [] with
  | none => rfl
  | some s =>
    have hI := h2 s hf
    have hs := hI.1
    show ((zbu s).bind _).bind _ = some (okT s)
    rw [zdM (zbT (by omega) hI.2), Option.bind_some]
    unfold okT
    cases zar s <;> rfl
theorem zks (o a b : List File) (p : Str) : ((oneF o a b p).2.2 != (0 : Int)) = decide (0 < (oneF o a b p).2.2) := by
  have h : 0 ≤ (oneF o a b p).2.2 := by
    unfold oneF
    simp only [cond_eq_ite]
    repeat' split
    all_goals simp
  generalize (oneF o a b p).2.2 = k at *
  rw [Bool.eq_iff_iff]
  simp only [bne_iff_ne, decide_eq_true_eq]
  omega
section
variable {o a b : List File} (ho : TB o) (ha : TB a) (hb : TB b) (to : zaA o) (ta : zaA a) (tb : zaA b)
include ho ha hb to ta tb
theorem zkt (p : Str) : zgx (zl1 o p) (zl1 a p) (zl1 b p) = some (⟨(oneF o a b p).1, (oneF o a b p).2.1⟩, (oneF o a b p).2.2) := by
  have no := ziB (t := o) (p := p)
  have mt := zhA (zba to p) (zba ta p) (zba tb p)
  unfold zgx oneF
  simp only [jn, zg6 ha, zg6 hb, Option.bind_some, zhu]
  unfold zl1
  simp only [mt, Option.bind_some]
  cases decide (getT a p = getT o p) <;> cases decide (getT a p = getT b p) <;> cases decide (getT b p = getT o p) <;> try rfl
  cases h1 : (getT a p).2 <;> cases h2 : (getT b p).2 <;> try rfl
  cases h3 : (getT o p).2 with
  | false => rw [no h3]; rfl
  | true => cases (zcG (zaB (getT o p).1 (getT a p).1 (getT b p).1)).2 <;> rfl
theorem zg7 {ps : List Str} (hp : ps.length ≤ 1000) {G : List File → List Clash → Int → Option (List File × List Clash)} : ∀ (k i m : Nat) (fs : List File) (cs : List Clash), i + k = ps.length → k < m → fs.length ≤ i → cs.length ≤ i →
    zcA o a b ps G m fs cs (i : Int) = G (fs ++ (ps.drop i).filterMap (zf3 o a b)) (cs ++ (ps.drop i).filterMap (zfi o a b)) (ps.length : Int)
  | k, i, 0, fs, cs, _, hm, _, _ => by omega
  | 0, i, m + 1, fs, cs, hi, _, _, _ => by
    obtain rfl : i = ps.length := by omega
    simp only [zcA, zai, cond_false, List.drop_length]
    simp
  | k + 1, i, m + 1, fs, cs, hi, hm, hf, hc => by
    have hlt : i < ps.length := by omega
    have hx : ps[i]? = some ps[i] := List.getElem?_eq_getElem hlt
    have ih := fun fs cs h1 h2 => zg7 hp (G := G) k (i + 1) m fs cs (by omega) (by omega) h1 h2
    have eh : ∀ x : has, (⟨x.text, x.file⟩ : has) = x := fun _ => rfl
    simp only [zcA, jn, zaq hx, zae hx, cond_true, Option.bind_some, zag hlt (show ps.length ≤ zam by unfold zam; omega), zhz ho, zhz ha, zhz hb, eh, zkt ho ha hb to ta tb, zks, ap1 (x := (⟨ps[i], (oneF o a b ps[i]).1⟩ : File)) (show fs.length ≤ 1048576 by omega), ap1 (x := (⟨ps[i], (oneF o a b ps[i]).2.2⟩ : Clash)) (show cs.length ≤ 1048576 by omega)]
    rw [List.drop_eq_getElem_cons hlt, List.filterMap_cons, List.filterMap_cons]
    unfold zf3 zfi at ih ⊢
    cases (oneF o a b ps[i]).2.1 <;> cases decide (0 < (oneF o a b ps[i]).2.2) <;> simp only [cond_true, cond_false, Option.bind_some]
    · rw [ih _ _ (by omega) (by omega)]
    · rw [ih _ _ (by omega) (by simp; omega)]; simp
    · rw [ih _ _ (by simp; omega) (by omega)]; simp
    · rw [ih _ _ (by simp; omega) (by simp; omega)]; simp
end
theorem zf5 {t : List File} (h : TB t) {C : List Str → Int → Option (List Str)} : ∀ (k i m : Nat) (acc : List Str), i + k = t.length → k < m → acc.length ≤ 10000 + i → t.length ≤ 1000 →
    zbE t C m acc (i : Int) = C (acc ++ (t.drop i).map (·.Path)) (t.length : Int)
  | k, i, 0, acc, _, hm, _, _ => by omega
  | 0, i, m + 1, acc, hi, _, _, _ => by
    obtain rfl : i = t.length := by omega
    simp only [zbE, zai, cond_false, List.drop_length]
    simp
  | k + 1, i, m + 1, acc, hi, hm, hl, ht => by
    have hlt : i < t.length := by omega
    have hx : t[i]? = some t[i] := List.getElem?_eq_getElem hlt
    simp only [zbE, zaq hx, zae hx, cond_true, Option.bind_some, ap1 (x := t[i].Path) (show acc.length ≤ 1048576 by omega), zag hlt h.maxi]
    rw [zf5 h k (i + 1) m _ (by omega) (by omega) (by simp; omega) ht, List.drop_eq_getElem_cons hlt, List.map_cons, List.append_assoc]
    rfl
theorem ziV {o a b : List File} (ho : TB o) (ha : TB a) (hb : TB b) (so : o.length ≤ 100) (sa : a.length ≤ 100) (sb : b.length ≤ 100) : zeU [o, a, b] = some (zbb o a b) := by
  unfold zeU
  simp only [jn, zas]
  have step : ∀ (K : List Str → Int → Option (List Str)) (m i : Nat) (t : List File) (acc : List Str), [o, a, b][i]? = some t → TB t → t.length ≤ 100 → acc.length ≤ 1000 → zaQ [o, a, b] K (m + 1) acc (i : Int) = zaQ [o, a, b] K m (acc ++ t.map (·.Path)) ((i + 1 : Nat) : Int) := fun K m i t acc hx ht hl ha => by
    have hi := zav hx
    simp only [zaQ, jn, zaq hx, zae hx, cond_true, Option.bind_some, zas]
    have := zf5 ht (C := fun e g => zaQ [o, a, b] K m e (w64 ((i : Int) + 1))) t.length 0 (t.length + 1) acc (by omega) (by omega) (by omega) (by omega)
    rw [List.drop_zero] at this
    refine this.trans ?_
    rw [zag hi (by simp [zam])]
  have hlen : ([o, a, b] : List (List File)).length + 1 = 3 + 1 := rfl
  rw [hlen]
  refine (step _ 3 0 o [] rfl ho so (by simp)).trans ?_
  refine (step _ 2 1 a _ rfl ha sa (by simp; omega)).trans ?_
  refine (step _ 1 2 b _ rfl hb sb (by simp; omega)).trans ?_
  have he : ∀ (K : List Str → Int → Option (List Str)) (m : Nat) (acc : List Str), zaQ [o, a, b] K (m + 1) acc ((2 + 1 : Nat) : Int) = K acc ((2 + 1 : Nat) : Int) := fun K m acc => rfl
  refine (he _ 0 _).trans ?_
  have e0 : [] ++ o.map (fun f : File => f.Path) ++ a.map (fun f : File => f.Path) ++ b.map (fun f : File => f.Path) = o.map (·.Path) ++ a.map (·.Path) ++ b.map (·.Path) := by simp
  rw [e0]
  have hl : (o.map (fun f : File => f.Path) ++ a.map (fun f : File => f.Path) ++ b.map (fun f : File => f.Path)).length ≤ 300 := by simp; omega
  generalize hL : o.map (fun f : File => f.Path) ++ a.map (fun f : File => f.Path) ++ b.map (fun f : File => f.Path) = L at *
  have h2 : (zdQ L).length = L.length := List.length_mergeSort _
  unfold zdh zce
  rw [if_pos (by omega), Option.bind_some, if_pos (by omega), Option.bind_some, zjS L o a b hL.symm]
section
variable {o a b : List File} (ho : TB o) (ha : TB a) (hb : TB b) (to : zap o = true) (ta : zap a = true) (tb : zap b = true)
include ho ha hb to ta tb
theorem zf6 : zet o a b = some true := by
  unfold zet
  simp only [jn, zdO ho, zdO ha, zdO hb, to, ta, tb, Option.bind_some, cond_true]
theorem zjT : zgy o a b = some (zbc o a b) := by
  have so := zal to
  have sa := zal ta
  have sb := zal tb
  have hl := zfd o a b
  unfold zgy zbc
  rw [zf6 ho ha hb to ta tb, Option.bind_some, Bool.not_true, cond_false, ziV ho ha hb (by omega) (by omega) (by omega), Option.bind_some]
  simp only [jn, zas]
  have := zg7 ho ha hb (zak to) (zak ta) (zak tb) (ps := zbb o a b) (by omega) (G := fun b' c _ => bif ((c.length : Int) == (0 : Int)) then ((zdb b').bind fun h => bif !h then ((zbm o).bind fun g => some (g, ([⟨[], 4⟩] : List Clash))) else some (b', c)) else (bif false then ((zbm o).bind fun g => some (g, ([⟨[], 4⟩] : List Clash))) else some (b', c))) (zbb o a b).length 0 ((zbb o a b).length + 1) [] [] (by omega) (by omega) (by simp) (by simp)
  refine this.trans ?_
  simp only [List.drop_zero, List.nil_append]
  rw [show (zbb o a b).filterMap (zf3 o a b) = zdC o a b from rfl, show (zbb o a b).filterMap (zfi o a b) = zeb o a b from rfl, zdO (zgn ho ha hb (zak to) (zak ta) (zak tb) (by omega) (by omega) (by omega)), zdH ho]
  simp only [Option.bind_some]
  cases (((zeb o a b).length : Int) == 0) <;> cases zap (zdC o a b) <;> rfl
theorem zgF : zb8 o a b = some (bif decide (0 < ((zbc o a b).2.length : Int)) then ([], false) else ((zbc o a b).1, true)) := by
  unfold zb8
  rw [zf6 ho ha hb to ta tb, Option.bind_some, Bool.not_true, cond_false, zjT ho ha hb to ta tb, Option.bind_some]
  cases decide (0 < ((zbc o a b).2.length : Int)) <;> rfl
end
theorem zh2.lt {l : List Int} (h : zh2 l) {i k : Nat} (hik : i < k) (hk : k < l.length) : l.getD i 0 < l.getD k 0 := by
  have h1 : i < l.length := by omega
  have := List.pairwise_iff_getElem.1 h i k h1 hk hik
  rw [zcg (List.getElem?_eq_getElem h1), zcg (List.getElem?_eq_getElem hk)]
  exact this
theorem zh2.inj {l : List Int} (h : zh2 l) {i k : Nat} (hi : i < l.length) (hk : k < l.length) (e : l.getD i 0 = l.getD k 0) : i = k := by
  rcases Nat.lt_trichotomy i k with h1 | h1 | h1
  · have := h.lt h1 hk; omega
  · exact h1
  · have := h.lt h1 hi; omega
theorem zqY (x : Repo) : (⟨x.Commits, x.Heads⟩ : Repo) = x := rfl
theorem zgJ {r : Repo} (h : RpB r) {a : Int} (ha : upB r.Commits.length a = true) : zat r a = some (zac r a.toNat) := by
  obtain ⟨a0, a1⟩ := zaz.1 ha
  unfold zat
  rw [decide_eq_false (by omega), cond_false, zbd a0 a1]
  rfl
section
variable {r : Repo} (h : RpB r) (hr : zaa r = true)
include h hr
theorem ziJ : Gd False r := ⟨h, hr, fun e => e.elim⟩
theorem znE {n : Str} (hn : n.length ≤ 1048576) {c : Commit} (hc : CB c) : ((zbn r).bind fun j => (zbs ⟨j.Commits, j.Heads⟩ n c.Who c.Tree c.Parents).bind fun k => (zbK r ⟨k.Commits, k.Heads⟩).bind fun b => bif (!b.2) then (some (Repo.mk b.1.Commits b.1.Heads, (5 : Int))) else (some (Repo.mk b.1.Commits b.1.Heads, 0))) = some (zd3 r n c) := by
  obtain ⟨s1, s2⟩ := zad hr
  rw [zi8 h, Option.bind_some, zqY, zk8 h (by omega) (zir hr) hc.tree hc.who hc.par, Option.bind_some, zqY, show (⟨c.Parents, c.Who, c.Tree⟩ : Commit) = c from rfl, zmR h (h.addR (by omega) (by omega) hn hc), Option.bind_some]
  unfold zd3
  cases zaa (zb9 r n c) <;> rfl
theorem zmB {o a b : List File} (to : TB o) (ta : TB a) (tb : TB b) (uo : zap o = true) (ua : zap a = true) (ub : zap b = true) {ps : List Int} (hps : ps.length ≤ 2) {n who : Str} (hn : n.length ≤ 1048576) (hw : who.length ≤ 1048576) : ((zb8 o a b).bind fun h => bif (!h.2) then ((zbn r).bind fun i => some (Repo.mk i.Commits i.Heads, 4)) else ((zbn r).bind fun j => (zbs ⟨j.Commits, j.Heads⟩ n who h.1 ps).bind fun k => (zbK r ⟨k.Commits, k.Heads⟩).bind fun b => bif (!b.2) then (some (Repo.mk b.1.Commits b.1.Heads, (5 : Int))) else (some (Repo.mk b.1.Commits b.1.Heads, 0)))) = some (bif decide (0 < ((zbc o a b).2.length : Int)) then (r, 4) else zd3 r n ⟨ps, who, (zbc o a b).1⟩) := by
  have so := zal uo
  have sa := zal ua
  have sb := zal ub
  have hj := zfY to ta tb (zak uo) (zak ua) (zak ub) (by omega) (by omega) (by omega)
  rw [zgF to ta tb uo ua ub, Option.bind_some]
  cases decide (0 < ((zbc o a b).2.length : Int)) with
  | true =>
    simp only [cond_true, Bool.not_false, zi8 h, Option.bind_some]
  | false =>
    exact znE h hr hn (c := ⟨ps, who, (zbc o a b).1⟩) ⟨show ps.length ≤ 1048576 by omega, hw, hj⟩
end
def znV (r : Repo) (n : Str) (x : Repo) : Prop := x = r ∨ x = zbt ∨ zaa x = true
theorem znV.bulk {r x : Repo} {n : Str} (h : znV r n x) : Bk.bulk x ≤ Bk.bulk r + 20000 := by
  rcases h with h | h | h
  · rw [h]; omega
  · rw [h]; show 0 + 0 + (0 + 0) ≤ _; omega
  · have := zlt h; omega
theorem znV.fit {r x : Repo} {n : Str} (hf : Bk.fit r) (h : znV r n x) : Bk.fit x := by
  rcases h with h | h | h
  · rw [h]; exact hf
  · rw [h]; exact ⟨⟨by simp [zbt, zam], by simp [zbt]⟩, by simp [zbt, zam], by simp [zbt]⟩
  · exact zlv h
section
variable {r : Repo} (h : RpB r) (hr : zaa r = true)
include h hr
theorem zjG {a : Int} (ha : upB r.Commits.length a = true) {Z : List File → Option (Repo × Int)} : ((zbJ r a).bind fun g => (zat r g).bind Z) = Z (zaH r a.toNat) := by
  obtain ⟨a0, a1⟩ := zaz.1 ha
  obtain ⟨n, rfl⟩ := Int.eq_ofNat_of_zero_le a0
  rw [zlM hr (by omega), Option.bind_some, Int.toNat_natCast]
  unfold zaH
  cases hp : zaf r n with
  | nil => rfl
  | cons p ps =>
    have hm := (za0 hr (i := n) (by omega)).2 p (by rw [hp]; simp)
    have hz : (((p :: ps).length : Int) == (0 : Int)) = false := by
      rw [beq_eq_false_iff_ne]
      simp only [List.length_cons]
      omega
    rw [hz, cond_false]
    show (zat r p).bind Z = _
    rw [zgJ h (zaz.2 (by omega)), Option.bind_some]
    rfl
theorem zjH {n who : Str} {o b : List File} (hn : n.length ≤ 1048576) (hw : who.length ≤ 1048576) (hat : 0 ≤ atB r n) (to : TB o) (uo : zap o = true) (tb : TB b) (ub : zap b = true) : za4 r n who o b = some (zdf r n who o b) := by
  have hg := ziJ h hr
  have ha' : atB r n ≤ (r.Commits.length : Int) - 1 := by rcases at_range hr n with e | e <;> omega
  obtain ⟨ta, ta2, _, _⟩ := hg.tree (i := (atB r n).toNat) (by have := (zad hr).1; omega)
  unfold za4
  rw [zlL h, Option.bind_some, zgJ h (zaz.2 ⟨hat, ha'⟩), Option.bind_some]
  exact zmB h hr to ta tb uo ta2 ub (ps := [atB r n]) (by simp) hn hw
theorem zlb {n who : Str} {b : Int} (hn : n.length ≤ 1048576) (hw : who.length ≤ 1048576) (t : Bool) : zel r n who b t = some (bif zhK r n who b then (r, 1) else (bif t then zdf r n who (zac r b.toNat) (zaH r b.toNat) else zdf r n who (zaH r b.toNat) (zac r b.toNat))) := by
  have hg := ziJ h hr
  unfold zel
  simp only [jn, zlL h, Option.bind_some, zeZ (zan hw), zhV h, zi8 h, zqY]
  have key : zhK r n who b = false → ((zbJ r b).bind fun g => (zat r g).bind fun d => (zat r b).bind fun e => bif t then ((za4 r n who e d).bind fun a => some (Repo.mk a.1.Commits a.1.Heads, a.2)) else ((za4 r n who d e).bind fun a => some (Repo.mk a.1.Commits a.1.Heads, a.2))) = some (bif t then zdf r n who (zac r b.toNat) (zaH r b.toNat) else zdf r n who (zaH r b.toNat) (zac r b.toNat)) := fun hbad => by
    obtain ⟨p1, p2, p3⟩ := zfL hbad
    have ub := zaz.2 ⟨p2, p3⟩
    obtain ⟨_, q2, q3⟩ := zdo hg p2 p3
    obtain ⟨tb, tb2, _, _⟩ := hg.tree (i := b.toNat) (by have := (zad hr).1; omega)
    rw [zjG h hr ub (Z := fun d => (zat r b).bind fun e => bif t then ((za4 r n who e d).bind fun a => some (Repo.mk a.1.Commits a.1.Heads, a.2)) else ((za4 r n who d e).bind fun a => some (Repo.mk a.1.Commits a.1.Heads, a.2))), zgJ h ub, Option.bind_some]
    cases t with
    | true => rw [cond_true, cond_true, zjH h hr hn hw p1 tb tb2 q2 q3, Option.bind_some]
    | false => rw [cond_false, cond_false, zjH h hr hn hw p1 q2 q3 tb tb2, Option.bind_some]
  unfold zhK at key ⊢
  cases h1 : decide (atB r n < 0) with
  | true => rfl
  | false =>
    cases h2 : zaD who with
    | false => rfl
    | true =>
      cases h3 : upB r.Commits.length b with
      | false => rfl
      | true => exact key (by rw [h1, h2, h3]; rfl)
end
theorem zjh {r : Repo} (h : RpB r) {n who : Str} {b : Int} (hn : n.length ≤ 1048576) (hw : who.length ≤ 1048576) : zhY r n who b = some (zbV r n who b) := by
  unfold zhY zbV
  rw [zbx h, Option.bind_some]
  cases hr : zaa r with
  | false => rfl
  | true =>
    rw [Bool.not_true, cond_false, cond_true, zlb h hr hn hw, Option.bind_some]
    cases zhK r n who b <;> rfl
theorem ziF {r : Repo} (h : RpB r) {n who : Str} {b : Int} (hn : n.length ≤ 1048576) (hw : who.length ≤ 1048576) : zci r n who b = some (zbV r n who b) := by
  cases hr : zaa r with
  | true => exact (zgB (ziJ h hr) hn hw).1
  | false =>
    unfold zci zbV
    rw [zcI h, hr, Option.bind_some]
    rfl
theorem zhN {r : Repo} (h : RpB r) {n who : Str} {b : Int} (hn : n.length ≤ 1048576) (hw : who.length ≤ 1048576) : zgA r n who b = some (zcH r n who b) := by
  unfold zgA zcH
  rw [zbx h, Option.bind_some]
  cases hr : zaa r with
  | false => rfl
  | true =>
    rw [Bool.not_true, cond_false, cond_true, zlb h hr hn hw, Option.bind_some]
    cases zhK r n who b <;> rfl
section
variable {x : Repo} {n : Str} {c : Commit}
theorem zlj : (zb9 x n c).Commits.length = x.Commits.length + 1 := by simp [zb9]
theorem zml (h : zaa (zb9 x n c) = true) : atB (zb9 x n c) n = (x.Commits.length : Int) := zlG (r := ⟨x.Commits ++ [c], x.Heads⟩) h
theorem zjm : (zb9 x n c).Commits.getD x.Commits.length noCommit = c := by
  refine zdG ?_
  show (x.Commits ++ [c])[x.Commits.length]? = _
  rw [List.getElem?_append_right (Nat.le_refl _), Nat.sub_self]
  rfl
theorem zpZ {i : Nat} (hi : i < x.Commits.length) : (zb9 x n c).Commits.getD i noCommit = x.Commits.getD i noCommit := by
  show (x.Commits ++ [c]).getD i noCommit = _
  rw [List.getD_eq_getElem?_getD, List.getElem?_append_left hi, ← List.getD_eq_getElem?_getD]
theorem zjU (h : zaa (zb9 x n c) = true) : zhO (zb9 x n c) (x.Commits.length : Int) = (c.Tree, true) := by
  unfold zhO
  rw [h, zaz.2 (show 0 ≤ (x.Commits.length : Int) ∧ (x.Commits.length : Int) ≤ ((zb9 x n c).Commits.length : Int) - 1 by rw [zlj]; omega), Int.toNat_natCast]
  show (zac _ _, true) = _
  unfold zac
  rw [zjm]
theorem zol {p : Int} (hp : c.Parents = [p]) (h0 : 0 ≤ p) (h1 : p.toNat < x.Commits.length) : zaH (zb9 x n c) x.Commits.length = zac x p.toNat := by
  have e : zaf (zb9 x n c) x.Commits.length = [p] := by
    show ((zb9 x n c).Commits.getD x.Commits.length noCommit).Parents = _
    rw [zjm, hp]
  unfold zaH
  rw [e]
  show zac (zb9 x n c) p.toNat = _
  unfold zac
  rw [zpZ h1]
theorem zmp : zac (zb9 x n c) x.Commits.length = c.Tree := by
  unfold zac
  rw [zjm]
end
def ziC (x : Repo) (n who : Str) (o b : List File) : Commit := ⟨[atB x n], who, (zbc o (zac x (atB x n).toNat) b).1⟩
theorem zkn {x : Repo} {n who : Str} {o b : List File} (h : (zdf x n who o b).2 = 0) : zdf x n who o b = (zb9 x n (ziC x n who o b), 0) ∧ zaa (zb9 x n (ziC x n who o b)) = true ∧ decide (0 < ((zbc o (zac x (atB x n).toNat) b).2.length : Int)) = false := by
  unfold zdf zd3 ziC at *
  simp only at *
  revert h
  cases decide (0 < ((zbc o (zac x (atB x n).toNat) b).2.length : Int)) with
  | true => intro h; cases h
  | false =>
    simp only [cond_false]
    cases ho : zaa (zb9 x n ⟨[atB x n], who, (zbc o (zac x (atB x n).toNat) b).1⟩) with
    | false => intro h; cases h
    | true => intro _; simp
section
variable {r : Repo} {n who : Str} {b : Int}
theorem zjN (h : (zbV r n who b).2 = 0) : zaa r = true ∧ zhK r n who b = false ∧ zbV r n who b = (zb9 r n (ziC r n who (zaH r b.toNat) (zac r b.toNat)), 0) ∧ zaa (zb9 r n (ziC r n who (zaH r b.toNat) (zac r b.toNat))) = true ∧ decide (0 < ((zbc (zaH r b.toNat) (zac r (atB r n).toNat) (zac r b.toNat)).2.length : Int)) = false := by
  unfold zbV at *
  cases hr : zaa r with
  | false => rw [hr] at h; cases h
  | true =>
    rw [hr, cond_true] at h
    cases hb : zhK r n who b with
    | true => rw [hb] at h; cases h
    | false =>
      rw [hb, cond_false] at h
      exact ⟨rfl, rfl, zkn h⟩
theorem pick_back (h : RpB r) (hn : n.length ≤ 1048576) (hw : who.length ≤ 1048576) (hm : (zbV r n who b).2 = 0) : (zcH (zbV r n who b).1 n who (r.Commits.length : Int)).2 = 5 ∨ (zcH (zbV r n who b).1 n who (r.Commits.length : Int)).2 = 0 ∧ ∃ c, (zcH (zbV r n who b).1 n who (r.Commits.length : Int)).1 = zb9 (zbV r n who b).1 n c ∧ zaa (zb9 (zbV r n who b).1 n c) = true ∧ c.Tree = zac r (atB r n).toNat := by
  obtain ⟨hr, hb, e, ho, hc⟩ := zjN hm
  obtain ⟨p1, p2, p3⟩ := zfL hb
  have ha' : atB r n ≤ (r.Commits.length : Int) - 1 := by rcases at_range hr n with e | e <;> omega
  have hs := (zad hr).1
  obtain ⟨ta, ta2, _, _⟩ := (ziJ h hr).tree (i := (atB r n).toNat) (by omega)
  rw [e]
  generalize hcc : ziC r n who (zaH r b.toNat) (zac r b.toNat) = c at *
  have hp : c.Parents = [atB r n] := by rw [← hcc]; rfl
  have hwho : zaD who = true := by
    unfold zhK at hb
    simp only [Bool.or_eq_false_iff, Bool.not_eq_false'] at hb
    exact hb.2.1
  have hat := zml ho
  have hbad : zhK (zb9 r n c) n who (r.Commits.length : Int) = false := by
    unfold zhK
    rw [hat, decide_eq_false (by omega), hwho, zaz.2 (by rw [zlj]; omega)]
    rfl
  have e1 : zaH (zb9 r n c) r.Commits.length = zac r (atB r n).toNat := zol hp p1 (by omega)
  have e2 : zcH (zb9 r n c) n who (r.Commits.length : Int) = zdf (zb9 r n c) n who c.Tree (zac r (atB r n).toNat) := by
    unfold zcH
    rw [ho, hbad, cond_true, cond_false, Int.toNat_natCast, zmp, e1]
  show (zcH (zb9 r n c) n who (r.Commits.length : Int)).2 = 5 ∨ _ ∧ ∃ d, (zcH (zb9 r n c) n who (r.Commits.length : Int)).1 = zb9 (zb9 r n c) n d ∧ _
  rw [e2]
  have ej : zbc c.Tree (zac (zb9 r n c) (atB (zb9 r n c) n).toNat) (zac r (atB r n).toNat) = (zac r (atB r n).toNat, []) := by
    rw [hat, Int.toNat_natCast, zmp, ziL ta2]
  unfold zdf
  simp only [ej]
  show (zd3 _ _ _).2 = 5 ∨ _
  unfold zd3
  cases hok : zaa (zb9 (zb9 r n c) n ⟨[atB (zb9 r n c) n], who, zac r (atB r n).toNat⟩) with
  | false => exact .inl rfl
  | true => exact .inr ⟨rfl, _, rfl, hok, rfl⟩
end
def ChH : Int → List Hunk → Prop
  | _, [] => True
  | lo, d :: l => lo ≤ d.At ∧ ChH (d.At + d.Less.length + 1) l
theorem ChH.mono : ∀ {l : List Hunk} {lo lo' : Int}, lo' ≤ lo → ChH lo l → ChH lo' l
  | [], _, _, _, _ => trivial
  | d :: l, _, _, h, ⟨h1, h2⟩ => ⟨Int.le_trans h h1, h2⟩
theorem zgG {code : List Byte} (h : code.length ≤ 1048576) : ∃ x n w b, zcS code = some (x, n, w, b) ∧ Drawn x ∧ n.length ≤ 10 ∧ w.length ≤ 10 ∧ -1 ≤ b ∧ b ≤ 16 := by
  unfold zcS
  obtain ⟨b, e, hr⟩ := zpp h
  obtain ⟨x, q, e2, hx, r2⟩ := zjg hr (by omega)
  obtain ⟨n, e3, hn⟩ := zjd r2 (by omega) (l := [([109, 97, 105, 110] : Str), ([115, 105, 100, 101] : Str), ([100, 101, 118] : Str), ([110, 111, 110, 101] : Str)]) (by simp) (by simp)
  have r3 : zde ⟨b, q + 1⟩ (0 + 2010 + 1) := zeW (r := ⟨b, q⟩) (q := 0 + 2010 + 1) r2 (by omega) (by omega)
  obtain ⟨w, e4, hw⟩ := zjd r3 (by omega) (l := [([97, 110, 110] : Str), ([97, 110, 110] : Str), ([] : Str)]) (by simp) (by simp)
  have r4 : zde ⟨b, q + 1 + 1⟩ (0 + 2010 + 2) := zeW (r := ⟨b, q + 1⟩) (q := 0 + 2010 + 2) r3 (by omega) (by omega)
  obtain ⟨a, e5, a0, a1⟩ := zkg r4 (by omega) hx
  simp only at e3 e4 e5
  simp only [e, Option.bind_some, e2, e3, e4, e5, zeY]
  refine ⟨x, n, w, a, rfl, hx, ?_, ?_, a0, a1⟩
  · simp only [List.mem_cons, List.not_mem_nil, or_false] at hn
    rcases hn with rfl | rfl | rfl | rfl <;> simp
  · simp only [List.mem_cons, List.not_mem_nil, or_false] at hw
    rcases hw with rfl | rfl | rfl <;> simp
theorem zj9 {code : List Byte} (h : code.length ≤ 1048576) : ∃ x n w b, ze6 code = some (x, n, w, b) ∧ Drawn x ∧ n.length ≤ 10 ∧ w.length ≤ 10 ∧ -1 ≤ b ∧ b ≤ 16 := by
  obtain ⟨x, n, w, b, e, r⟩ := zgG h
  unfold ze6
  rw [e, Option.bind_some]
  exact ⟨x, n, w, b, rfl, r⟩
theorem zlw : RpB zbt := ⟨by simp [zbt], fun c hc => by simp [zbt] at hc, by simp [zbt], fun c hc => by simp [zbt] at hc⟩
theorem zmo {r : Repo} (h : RpB r) {n who : Str} {b : Int} (hn : n.length ≤ 1048576) (hw : who.length ≤ 1048576) : RpB (zbV r n who b).1 := by
  cases hr : zaa r with
  | true => exact (zgB (ziJ h hr) hn hw).2.rb
  | false => unfold zbV; rw [hr]; exact zlw
theorem zmn {r : Repo} (h : RpB r) {n who : Str} {b : Int} (hn : n.length ≤ 1048576) (hw : who.length ≤ 1048576) : RpB (zcH r n who b).1 := by
  cases hr : zaa r with
  | true => exact (ze2 (ziJ h hr) hn hw).2.rb
  | false => unfold zcH; rw [hr]; exact zlw
theorem zjI {x : Repo} (h : zaa x = true) (n : Str) : zje x n = atB x n := by unfold zje; rw [h]; rfl
theorem zoB {code : List Byte} (h : Bk.fit code) : ziG code = some true := by
  unfold ziG
  by_cases hc : (1048576 : Int) < (code.length : Int)
  · rw [decide_eq_true hc]; rfl
  obtain ⟨x, n, w, b, e, hx, hn, hw, _, _⟩ := zj9 (code := code) (by omega)
  have hb := hx.rb
  have hn' : n.length ≤ 1048576 := by omega
  have hw' : w.length ≤ 1048576 := by omega
  have hd := zmo hb (b := b) hn' hw'
  rw [decide_eq_false hc, cond_false, e, Option.bind_some]
  simp only [zeY, zjh hb hn' hw', ziF hb hn' hw', Option.bind_some, jn, bne_self_eq_false, beq_self_eq_true, cond_false, cond_true, zg1 hd, Bool.not_true]
  cases hm : (zbV x n w b).2 != 0 with
  | true => rfl
  | false =>
    have hm' : (zbV x n w b).2 = 0 := by simpa using hm
    obtain ⟨hr, hbad, ed, hok, hj⟩ := zjN (r := x) (n := n) (who := w) (b := b) hm'
    obtain ⟨p1, p2, p3⟩ := zfL hbad
    have hs := (zad hr).1
    have hg := ziJ hb hr
    have ha' : atB x n ≤ (x.Commits.length : Int) - 1 := by rcases at_range hr n with e | e <;> omega
    obtain ⟨ta, ta2, _, _⟩ := hg.tree (i := (atB x n).toNat) (by omega)
    have e1 : zje (zbV x n w b).1 n = (x.Commits.length : Int) := by rw [ed, zjI hok]; exact zml hok
    have hd2 := zmn hd (b := (x.Commits.length : Int)) hn' hw'
    have e2 : zhO x (atB x n) = (zac x (atB x n).toNat, true) := by
      unfold zhO
      rw [hr, zaz.2 ⟨p1, ha'⟩]
      rfl
    simp only [cond_false, zfR hd, e1, Option.bind_some, zhN hd hn' hw', zfR hb, zjI hr, zfr hb, e2, zfR hd2, zfr hd2]
    rcases pick_back (r := x) (n := n) (who := w) (b := b) hb hn' hw' hm' with h5 | ⟨h0, c, ec, okc, ct⟩
    · rw [h5]; rfl
    · rw [h0, ec, zjI okc, zml okc, zjU okc, ct]
      simp only [zfT ta, beq_self_eq_true]
      rfl
end Go.Vm
