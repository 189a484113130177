/- Plain law FnUniteTree, and what it uses: what the models answer. Conditions: each law's own premises. -/
import Derived.Test.YtokbhelngoeblaaGreatDoorBGFnUniteTreea
import Derived.Test.YtokbhelngoeblaaGreatDoorBLw
namespace Go.Vm
open Go Go.Sx
set_option linter.unusedSimpArgs false
set_option linter.unusedVariables false
theorem znJ (ps : List Part) : zcG (ps.map zh3) = zcG ps := by
  unfold zcG
  rw [List.foldlM_map]
  rfl
theorem ziB {t : List File} {p : Str} (h : (getT t p).2 = false) : (getT t p).1 = [] := by
  unfold getT at *
  cases hf : t.find? (fun f => f.Path == p) with
  | none => rfl
  | some f => rw [hf] at h; cases h
theorem zhu {a b : List File} {p : Str} : zfc (getT a p) (getT b p) = decide (getT a p = getT b p) := by
  have ha := ziB (t := a) (p := p)
  have hb := ziB (t := b) (p := p)
  revert ha hb
  generalize getT a p = x
  generalize getT b p = y
  intro ha hb
  obtain ⟨x1, x2⟩ := x
  obtain ⟨y1, y2⟩ := y
  unfold zfc
  cases x2 <;> cases y2
  · have e1 : x1 = [] := ha rfl
    have e2 : y1 = [] := hb rfl
    subst e1; subst e2; simp
  · simp
  · simp
  · by_cases h : x1 = y1
    · subst h; simp
    · have e : (x1 == y1) = false := beq_false_of_ne h
      simp [e, h]
theorem zm4 (o a b : List File) (p : Str) : oneF o b a p = oneF o a b p := by
  unfold oneF
  simp only [zhu]
  generalize getT o p = zo
  generalize getT a p = za
  generalize getT b p = zb
  rw [zlQ zo.1 za.1 zb.1, znJ, Bool.or_comm (!zb.2) (!za.2)]
  by_cases h1 : za = zo
  · subst h1
    by_cases h2 : zb = za
    · subst h2; simp
    · simp [h2]
  · by_cases h2 : za = zb
    · subst h2; simp [h1]
    · have h2' : ¬ zb = za := fun e => h2 e.symm
      by_cases h3 : zb = zo
      · subst h3; simp [h1, h2']
      · simp [h1, h2, h2', h3]
theorem zfD (o a b : List File) : Asd (zbb o a b) := zcN _ _ (zcN _ _ (zcN _ _ List.Pairwise.nil))
theorem znK (o a b : List File) : zbb o b a = zbb o a b := Asd.ext (zfD o b a) (zfD o a b) fun x => by
  rw [pathsF_mem, pathsF_mem]
  constructor
  · rintro (h | h | h)
    · exact .inl h
    · exact .inr (.inr h)
    · exact .inr (.inl h)
  · rintro (h | h | h)
    · exact .inl h
    · exact .inr (.inr h)
    · exact .inr (.inl h)
theorem znp (o a b : List File) : zbc o b a = zbc o a b := by
  have e1 : zf3 o b a = zf3 o a b := by funext p; unfold zf3; rw [zm4]
  have e2 : zfi o b a = zfi o a b := by funext p; unfold zfi; rw [zm4]
  unfold zbc zdC zeb
  rw [e1, e2, znK]
theorem zkf {t : List File} (h : zap t = true) : t.Pairwise fun x y => x.Path < y.Path := by
  unfold zap at h
  simp only [Bool.and_eq_true] at h
  have hb : ∀ i, i < t.length → zgh t i = true := fun i hi => by
    have := zaX.1 h.2 i (Nat.zero_le _) (by omega)
    unfold zgi at this
    simp only [Bool.and_eq_true] at this
    exact this.1
  refine List.pairwise_iff_getElem.2 fun i j hi hj hij => ?_
  have := zif hb hij hj
  rwa [zbk (List.getElem?_eq_getElem hi), zbk (List.getElem?_eq_getElem hj)] at this
theorem zmd {t : List File} (h : t.Pairwise fun x y => x.Path < y.Path) {f : File} (hf : f ∈ t) : getT t f.Path = (f.Text, true) := by
  unfold getT
  cases hg : t.find? (fun g => g.Path == f.Path) with
  | none => exact absurd (List.find?_eq_none.1 hg f hf) (by simp)
  | some g =>
    have hgm := List.mem_of_find?_eq_some hg
    have he : g.Path = f.Path := by simpa using List.find?_some hg
    obtain ⟨i, hi, rfl⟩ := List.getElem_of_mem hf
    obtain ⟨j, hj, rfl⟩ := List.getElem_of_mem hgm
    have hp := List.pairwise_iff_getElem.1 h
    rcases Nat.lt_trichotomy i j with q | q | q
    · have := hp i j hi hj q
      rw [he] at this
      exact absurd this (zaj _)
    · subst q; rfl
    · have := hp j i hj hi q
      rw [he] at this
      exact absurd this (zaj _)
theorem zh5 : ∀ {xs ys : List File}, xs.Pairwise (fun x y => x.Path < y.Path) → ys.Pairwise (fun x y => x.Path < y.Path) → (∀ a, a ∈ xs ↔ a ∈ ys) → xs = ys
  | [], [], _, _, _ => rfl
  | [], y :: ys, _, _, h => by have := (h y).2 (by simp); simp at this
  | x :: xs, [], _, _, h => by have := (h x).1 (by simp); simp at this
  | x :: xs, y :: ys, hx, hy, h => by
    have hx' := List.pairwise_cons.1 hx
    have hy' := List.pairwise_cons.1 hy
    have e : x = y := by
      rcases List.mem_cons.1 ((h x).1 (by simp)) with q | q
      · exact q
      · rcases List.mem_cons.1 ((h y).2 (by simp)) with r | r
        · exact r.symm
        · exact absurd (zaS (hy'.1 x q) (hx'.1 y r)) (zaj _)
    subst e
    have := zh5 hx'.2 hy'.2 fun a => by
      constructor
      · intro ha
        rcases List.mem_cons.1 ((h a).1 (List.mem_cons_of_mem _ ha)) with q | q
        · subst q; exact absurd (hx'.1 a ha) (zaj _)
        · exact q
      · intro ha
        rcases List.mem_cons.1 ((h a).2 (List.mem_cons_of_mem _ ha)) with q | q
        · subst q; exact absurd (hy'.1 a ha) (zaj _)
        · exact q
    rw [this]
theorem zeG (o t : List File) (p : Str) : oneF o o t p = ((getT t p).1, (getT t p).2, 0) := by
  unfold oneF
  simp only [zhu]
  simp
theorem zjR {o t : List File} (h : t.Pairwise fun x y => x.Path < y.Path) : zdC o o t = t := by
  unfold zdC
  refine zh5 ?_ h fun f => ?_
  · refine List.pairwise_filterMap.2 ((zfD o o t).imp fun {p q} hpq f hf g hg => ?_)
    unfold zf3 at hf hg
    rw [zeG] at hf hg
    cases hp : (getT t p).2 <;> cases hq : (getT t q).2 <;> simp [hp, hq] at hf hg
    rw [← hf, ← hg]
    exact hpq
  · rw [List.mem_filterMap]
    constructor
    · rintro ⟨p, _, hf⟩
      unfold zf3 at hf
      rw [zeG] at hf
      unfold getT at hf
      cases hg : t.find? (fun g => g.Path == p) with
      | none => rw [hg] at hf; simp at hf
      | some g =>
        rw [hg] at hf
        simp only [cond_true, Option.some.injEq] at hf
        have he : g.Path = p := by simpa using List.find?_some hg
        rw [← hf, ← he]
        exact List.mem_of_find?_eq_some hg
    · intro hf
      refine ⟨f.Path, pathsF_mem.2 (.inr (.inr ⟨f, hf, rfl⟩)), ?_⟩
      unfold zf3
      rw [zeG, zmd h hf]
      rfl
theorem ziL {o t : List File} (h : zap t = true) : zbc o o t = (t, []) := by
  have e : zeb o o t = [] := by
    unfold zeb
    rw [List.filterMap_eq_nil_iff]
    intro p _
    unfold zfi
    rw [zeG]
    rfl
  unfold zbc
  rw [e, zjR (zkf h), h]
  rfl
theorem zd6 {α : Type} {f : α → Nat} {c : Nat} : ∀ {t : List α}, (∀ s ∈ t, f s ≤ c) → zcT f t ≤ c * t.length
  | [], _ => by simp [zcT]
  | x :: t, h => by
    have h1 := h x (by simp)
    have h2 := zd6 (t := t) (fun s hs => h s (by simp [hs]))
    simp only [zcT, List.length_cons, Nat.mul_add, Nat.mul_one]
    omega
theorem zlr {t : List Str} (h : zar t = true) : Bk.bulk t ≤ 130 := by
  have hl := zay h
  have hs : zcT Bk.bulk t ≤ 12 * t.length := zd6 fun s hs => by
    have := zhS (zaT h s hs)
    show s.length ≤ 12
    omega
  show t.length + zcT Bk.bulk t ≤ 130
  omega
theorem zls {t : List File} (h : zap t = true) : Bk.bulk t ≤ 1208 := by
  have hl := zal h
  have hs : zcT Bk.bulk t ≤ 150 * t.length := zd6 fun f hf => by
    have h1 := zdj (zch h hf)
    have h2 := zlr (zak h f hf)
    show f.Path.length + Bk.bulk f.Text ≤ 150
    omega
  show t.length + zcT Bk.bulk t ≤ 1208
  omega
theorem zl0 {r : Repo} (h : zaa r = true) {c : Commit} (hc : c ∈ r.Commits) : c.Parents.length ≤ 2 ∧ (∀ p ∈ c.Parents, 0 ≤ p ∧ p ≤ 16) ∧ zaD c.Who = true ∧ zap c.Tree = true := by
  obtain ⟨i, hi⟩ := List.mem_iff_getElem?.1 hc
  have hil := zav hi
  have s1 := (zad h).1
  have := zgl h (i := i) (by omega)
  rw [zdG hi] at this
  unfold zki at this
  simp only [Bool.and_eq_true, decide_eq_true_eq, List.all_eq_true] at this
  refine ⟨by omega, fun p hp => ?_, this.2.2.2.1, this.2.2.2.2⟩
  have h1 := this.1 p hp
  unfold upB at h1
  simp only [Bool.and_eq_true, decide_eq_true_eq] at h1
  omega
theorem zlt {r : Repo} (h : zaa r = true) : Bk.bulk r ≤ 20000 := by
  obtain ⟨s1, s2⟩ := zad h
  have h1 : zcT Bk.bulk r.Commits ≤ 1218 * r.Commits.length := zd6 fun c hc => by
    obtain ⟨c1, _, c3, c4⟩ := zl0 h hc
    have := zbQ c3
    have := zls c4
    have hp : zcT Bk.bulk c.Parents ≤ 0 * c.Parents.length := zd6 fun p hp => Nat.le_refl 0
    show c.Parents.length + zcT Bk.bulk c.Parents + (c.Who.length + Bk.bulk c.Tree) ≤ 1218
    omega
  have h2 : zcT Bk.bulk r.Heads ≤ 6 * r.Heads.length := zd6 fun x hx => by
    have := zbQ (zgm h hx).2.2
    show x.Name.length + 0 ≤ 6
    omega
  show r.Commits.length + zcT Bk.bulk r.Commits + (r.Heads.length + zcT Bk.bulk r.Heads) ≤ 20000
  omega
theorem zlu {t : List File} (h : zap t = true) : Bk.fit t := ⟨by have := zal h; unfold zam; omega, fun f hf => ⟨by have := zdj (zch h hf); show f.Path.length ≤ zam; unfold zam; omega, by
  have h1 := zak h f hf
  have h2 := zay h1
  exact zbT (by omega) (zaT h1)⟩⟩
theorem zlv {r : Repo} (h : zaa r = true) : Bk.fit r := by
  obtain ⟨s1, s2⟩ := zad h
  refine ⟨⟨by unfold zam; omega, fun c hc => ?_⟩, by unfold zam; omega, fun x hx => ?_⟩
  · obtain ⟨c1, c2, c3, c4⟩ := zl0 h hc
    refine ⟨⟨by unfold zam; omega, fun p hp => ?_⟩, by have := zbQ c3; show c.Who.length ≤ zam; unfold zam; omega, zlu c4⟩
    have := c2 p hp
    show -9223372036854775808 ≤ p ∧ p ≤ 9223372036854775807
    omega
  · obtain ⟨h1, h2, h3⟩ := zgm h hx
    refine ⟨by have := zbQ h3; show x.Name.length ≤ zam; unfold zam; omega, ?_⟩
    show -9223372036854775808 ≤ x.At ∧ x.At ≤ 9223372036854775807
    omega
theorem zjS (l : List Str) (o a b : List File) (h : l = o.map (·.Path) ++ a.map (·.Path) ++ b.map (·.Path)) : zk3 (zdQ l) = zbb o a b := by
  refine Asd.ext (zfb _ none (zkK _) (fun q hq => by cases hq)).1 (zfD o a b) fun x => ?_
  rw [zhc, zju, h, pathsF_mem]
  simp only [List.mem_append, List.mem_map]
  constructor
  · rintro ((h | h) | h)
    · exact .inl h
    · exact .inr (.inl h)
    · exact .inr (.inr h)
  · rintro (h | h | h)
    · exact .inl (.inl h)
    · exact .inl (.inr h)
    · exact .inr h
set_option linter.unusedSectionVars false
theorem zmA {t : List File} (h : TB t) (p : Str) : ziK t p = some (getT t p) := by
  have hm := h.maxi
  unfold ziK getT
  simp only [jn, zas]
  rw [zcX (p := fun f : File => f.Path == p) (xs := t) (r := fun f => some (f.Text, true)) (Z := some ([], false)) (f := fun m k => zdK t p _ m [] false k) (fun m i x hx => by
    have hf := h.at_ hx
    simp only [zdK, zaq hx, zae hx, cond_true, Option.bind_some, zbO hf.len, zag (zav hx) hm]) (fun m => by simp only [zdK, zai, cond_false]) (by omega)]
  cases t.find? (fun f => f.Path == p) <;> rfl
def zl1 (t : List File) (p : Str) : has := ⟨(getT t p).1, (getT t p).2⟩
theorem zhz {t : List File} (h : TB t) (p : Str) : zgE t p = some (zl1 t p) := by
  unfold zgE
  rw [zmA h, Option.bind_some]
  rfl
theorem zg6 {a b : List File} {p : Str} (h : TB a) : zee (zl1 a p) (zl1 b p) = some (decide (getT a p = getT b p)) := by
  have hl := (ziN h p).1
  unfold zee zl1
  simp only [jn, zeH (zan hl), Option.bind_some]
  generalize getT a p = x at *
  generalize getT b p = y at *
  obtain ⟨x1, x2⟩ := x
  obtain ⟨y1, y2⟩ := y
  by_cases h1 : x1 = y1 <;> cases x2 <;> cases y2 <;> simp [h1]
theorem zhA {o a b : List Str} (hto : zar o = true) (hta : zar a = true) (htb : zar b = true) : zek o a b = some (zcG (zaB o a b)) := by
  have lo := zay hto
  have la := zay hta
  have lb := zay htb
  obtain ⟨hlen, hparts⟩ := zhU hto hta htb
  unfold zek zbi zcG
  rw [ziY (zbT (by omega) (zaT hto)) (zbT (by omega) (zaT hta)) (zbT (by omega) (zaT htb)), hto, hta, htb, Option.bind_some]
  simp only [jn, zas, Bool.and_self, Bool.not_true, cond_false, zjZ (show o.length ≤ 1000 by omega) (show a.length ≤ 1000 by omega) (show b.length ≤ 1000 by omega), Option.bind_some]
  obtain ⟨h1, h2⟩ := zhb (xs := zaB o a b) (step := zgY) (r0 := some (([] : List Str), false)) (Inv := zog) (s0 := []) (Z := fun s => (zbu s).bind fun z30 => bif (!z30) then (some (([] : List Str), false)) else (some (s, true))) (f := fun m s i => zao (zaB o a b) (fun _ _ y7 _ => (zbu y7).bind fun z30 => bif (!z30) then (some (([] : List Str), false)) else (some (y7, true))) m [] false s i) (fun m i p s hx hI => by
    have hi := zav hx
    obtain ⟨p1, p2, _⟩ := hparts p (List.mem_of_getElem? hx)
    refine ⟨?_, fun s' hst => zil p1 p2 hI hst⟩
    have hs := hI.1
    simp only [zao, zff, jn, zaq hx, zae hx, cond_true, Option.bind_some, zag hi (show (zaB o a b).length ≤ zam by unfold zam; omega), apT (show s.length ≤ 1000000 by omega) (show p.Lines.length ≤ 1000000 by omega)]
    unfold zgY
    cases p.Clash <;> rfl) (fun m s hI => by simp only [zao, zai, cond_false]) (m := (zaB o a b).length + 1) (by omega) ⟨by simp, by simp⟩
  rw [h1]
  cases hf : (zaB o a b).foldlM zgY [] with
  | none => rfl
  | some s =>
    have hI := h2 s hf
    have hs := hI.1
    show ((zbu s).bind _).bind _ = some (okT s)
    rw [zdM (zbT (by omega) hI.2), Option.bind_some]
    unfold okT
    cases zar s <;> rfl
theorem zks (o a b : List File) (p : Str) : ((oneF o a b p).2.2 != (0 : Int)) = decide (0 < (oneF o a b p).2.2) := by
  have h : 0 ≤ (oneF o a b p).2.2 := by
    unfold oneF
    simp only [cond_eq_ite]
    repeat' split
    all_goals simp
  generalize (oneF o a b p).2.2 = k at *
  rw [Bool.eq_iff_iff]
  simp only [bne_iff_ne, decide_eq_true_eq]
  omega
section
variable {o a b : List File} (ho : TB o) (ha : TB a) (hb : TB b) (to : zaA o) (ta : zaA a) (tb : zaA b)
include ho ha hb to ta tb
theorem zkt (p : Str) : zgx (zl1 o p) (zl1 a p) (zl1 b p) = some (⟨(oneF o a b p).1, (oneF o a b p).2.1⟩, (oneF o a b p).2.2) := by
  have no := ziB (t := o) (p := p)
  have mt := zhA (zba to p) (zba ta p) (zba tb p)
  unfold zgx oneF
  simp only [jn, zg6 ha, zg6 hb, Option.bind_some, zhu]
  unfold zl1
  simp only [mt, Option.bind_some]
  cases decide (getT a p = getT o p) <;> cases decide (getT a p = getT b p) <;> cases decide (getT b p = getT o p) <;> try rfl
  cases h1 : (getT a p).2 <;> cases h2 : (getT b p).2 <;> try rfl
  cases h3 : (getT o p).2 with
  | false => rw [no h3]; rfl
  | true => cases (zcG (zaB (getT o p).1 (getT a p).1 (getT b p).1)).2 <;> rfl
theorem zg7 {ps : List Str} (hp : ps.length ≤ 1000) {G : List File → List Clash → Int → Option (List File × List Clash)} : ∀ (k i m : Nat) (fs : List File) (cs : List Clash), i + k = ps.length → k < m → fs.length ≤ i → cs.length ≤ i →
    zcA o a b ps G m fs cs (i : Int) = G (fs ++ (ps.drop i).filterMap (zf3 o a b)) (cs ++ (ps.drop i).filterMap (zfi o a b)) (ps.length : Int)
  | k, i, 0, fs, cs, _, hm, _, _ => by omega
  | 0, i, m + 1, fs, cs, hi, _, _, _ => by
    obtain rfl : i = ps.length := by omega
    simp only [zcA, zai, cond_false, List.drop_length]
    simp
  | k + 1, i, m + 1, fs, cs, hi, hm, hf, hc => by
    have hlt : i < ps.length := by omega
    have hx : ps[i]? = some ps[i] := List.getElem?_eq_getElem hlt
    have ih := fun fs cs h1 h2 => zg7 hp (G := G) k (i + 1) m fs cs (by omega) (by omega) h1 h2
    have eh : ∀ x : has, (⟨x.text, x.file⟩ : has) = x := fun _ => rfl
    simp only [zcA, jn, zaq hx, zae hx, cond_true, Option.bind_some, zag hlt (show ps.length ≤ zam by unfold zam; omega), zhz ho, zhz ha, zhz hb, eh, zkt ho ha hb to ta tb, zks, ap1 (x := (⟨ps[i], (oneF o a b ps[i]).1⟩ : File)) (show fs.length ≤ 1048576 by omega), ap1 (x := (⟨ps[i], (oneF o a b ps[i]).2.2⟩ : Clash)) (show cs.length ≤ 1048576 by omega)]
    rw [List.drop_eq_getElem_cons hlt, List.filterMap_cons, List.filterMap_cons]
    unfold zf3 zfi at ih ⊢
    cases (oneF o a b ps[i]).2.1 <;> cases decide (0 < (oneF o a b ps[i]).2.2) <;> simp only [cond_true, cond_false, Option.bind_some]
    · rw [ih _ _ (by omega) (by omega)]
    · rw [ih _ _ (by omega) (by simp; omega)]; simp
    · rw [ih _ _ (by simp; omega) (by omega)]; simp
    · rw [ih _ _ (by simp; omega) (by simp; omega)]; simp
end
theorem zf5 {t : List File} (h : TB t) {C : List Str → Int → Option (List Str)} : ∀ (k i m : Nat) (acc : List Str), i + k = t.length → k < m → acc.length ≤ 10000 + i → t.length ≤ 1000 →
    zbE t C m acc (i : Int) = C (acc ++ (t.drop i).map (·.Path)) (t.length : Int)
  | k, i, 0, acc, _, hm, _, _ => by omega
  | 0, i, m + 1, acc, hi, _, _, _ => by
    obtain rfl : i = t.length := by omega
    simp only [zbE, zai, cond_false, List.drop_length]
    simp
  | k + 1, i, m + 1, acc, hi, hm, hl, ht => by
    have hlt : i < t.length := by omega
    have hx : t[i]? = some t[i] := List.getElem?_eq_getElem hlt
    simp only [zbE, zaq hx, zae hx, cond_true, Option.bind_some, ap1 (x := t[i].Path) (show acc.length ≤ 1048576 by omega), zag hlt h.maxi]
    rw [zf5 h k (i + 1) m _ (by omega) (by omega) (by simp; omega) ht, List.drop_eq_getElem_cons hlt, List.map_cons, List.append_assoc]
    rfl
theorem ziV {o a b : List File} (ho : TB o) (ha : TB a) (hb : TB b) (so : o.length ≤ 100) (sa : a.length ≤ 100) (sb : b.length ≤ 100) : zeU [o, a, b] = some (zbb o a b) := by
  unfold zeU
  simp only [jn, zas]
  have step : ∀ (K : List Str → Int → Option (List Str)) (m i : Nat) (t : List File) (acc : List Str), [o, a, b][i]? = some t → TB t → t.length ≤ 100 → acc.length ≤ 1000 → zaQ [o, a, b] K (m + 1) acc (i : Int) = zaQ [o, a, b] K m (acc ++ t.map (·.Path)) ((i + 1 : Nat) : Int) := fun K m i t acc hx ht hl ha => by
    have hi := zav hx
    simp only [zaQ, jn, zaq hx, zae hx, cond_true, Option.bind_some, zas]
    have := zf5 ht (C := fun e g => zaQ [o, a, b] K m e (w64 ((i : Int) + 1))) t.length 0 (t.length + 1) acc (by omega) (by omega) (by omega) (by omega)
    rw [List.drop_zero] at this
    refine this.trans ?_
    rw [zag hi (by simp [zam])]
  have hlen : ([o, a, b] : List (List File)).length + 1 = 3 + 1 := rfl
  rw [hlen]
  refine (step _ 3 0 o [] rfl ho so (by simp)).trans ?_
  refine (step _ 2 1 a _ rfl ha sa (by simp; omega)).trans ?_
  refine (step _ 1 2 b _ rfl hb sb (by simp; omega)).trans ?_
  have he : ∀ (K : List Str → Int → Option (List Str)) (m : Nat) (acc : List Str), zaQ [o, a, b] K (m + 1) acc ((2 + 1 : Nat) : Int) = K acc ((2 + 1 : Nat) : Int) := fun K m acc => rfl
  refine (he _ 0 _).trans ?_
  have e0 : [] ++ o.map (fun f : File => f.Path) ++ a.map (fun f : File => f.Path) ++ b.map (fun f : File => f.Path) = o.map (·.Path) ++ a.map (·.Path) ++ b.map (·.Path) := by simp
  rw [e0]
  have hl : (o.map (fun f : File => f.Path) ++ a.map (fun f : File => f.Path) ++ b.map (fun f : File => f.Path)).length ≤ 300 := by simp; omega
  generalize hL : o.map (fun f : File => f.Path) ++ a.map (fun f : File => f.Path) ++ b.map (fun f : File => f.Path) = L at *
  have h2 : (zdQ L).length = L.length := List.length_mergeSort _
  unfold zdh zce
  rw [if_pos (by omega), Option.bind_some, if_pos (by omega), Option.bind_some, zjS L o a b hL.symm]
section
variable {o a b : List File} (ho : TB o) (ha : TB a) (hb : TB b) (to : zap o = true) (ta : zap a = true) (tb : zap b = true)
include ho ha hb to ta tb
theorem zf6 : zet o a b = some true := by
  unfold zet
  simp only [jn, zdO ho, zdO ha, zdO hb, to, ta, tb, Option.bind_some, cond_true]
theorem zjT : zgy o a b = some (zbc o a b) := by
  have so := zal to
  have sa := zal ta
  have sb := zal tb
  have hl := zfd o a b
  unfold zgy zbc
  rw [zf6 ho ha hb to ta tb, Option.bind_some, Bool.not_true, cond_false, ziV ho ha hb (by omega) (by omega) (by omega), Option.bind_some]
  simp only [jn, zas]
  have := zg7 ho ha hb (zak to) (zak ta) (zak tb) (ps := zbb o a b) (by omega) (G := fun b' c _ => bif ((c.length : Int) == (0 : Int)) then ((zdb b').bind fun h => bif !h then ((zbm o).bind fun g => some (g, ([⟨[], 4⟩] : List Clash))) else some (b', c)) else (bif false then ((zbm o).bind fun g => some (g, ([⟨[], 4⟩] : List Clash))) else some (b', c))) (zbb o a b).length 0 ((zbb o a b).length + 1) [] [] (by omega) (by omega) (by simp) (by simp)
  refine this.trans ?_
  simp only [List.drop_zero, List.nil_append]
  rw [show (zbb o a b).filterMap (zf3 o a b) = zdC o a b from rfl, show (zbb o a b).filterMap (zfi o a b) = zeb o a b from rfl, zdO (zgn ho ha hb (zak to) (zak ta) (zak tb) (by omega) (by omega) (by omega)), zdH ho]
  simp only [Option.bind_some]
  cases (((zeb o a b).length : Int) == 0) <;> cases zap (zdC o a b) <;> rfl
theorem zgF : zb8 o a b = some (bif decide (0 < ((zbc o a b).2.length : Int)) then ([], false) else ((zbc o a b).1, true)) := by
  unfold zb8
  rw [zf6 ho ha hb to ta tb, Option.bind_some, Bool.not_true, cond_false, zjT ho ha hb to ta tb, Option.bind_some]
  cases decide (0 < ((zbc o a b).2.length : Int)) <;> rfl
end
theorem zh2.lt {l : List Int} (h : zh2 l) {i k : Nat} (hik : i < k) (hk : k < l.length) : l.getD i 0 < l.getD k 0 := by
  have h1 : i < l.length := by omega
  have := List.pairwise_iff_getElem.1 h i k h1 hk hik
  rw [zcg (List.getElem?_eq_getElem h1), zcg (List.getElem?_eq_getElem hk)]
  exact this
theorem zh2.inj {l : List Int} (h : zh2 l) {i k : Nat} (hi : i < l.length) (hk : k < l.length) (e : l.getD i 0 = l.getD k 0) : i = k := by
  rcases Nat.lt_trichotomy i k with h1 | h1 | h1
  · have := h.lt h1 hk; omega
  · exact h1
  · have := h.lt h1 hi; omega
theorem zlO (r : Repo) (a b : Int) : zh2 (zdm r a b) := (zja r a).sublist List.filter_sublist
theorem ze3 {r : Repo} {a b x : Int} : x ∈ zdm r a b ↔ x ∈ za9 r a ∧ x ∈ za9 r b := by
  unfold zdm
  rw [List.mem_filter, zbW]
theorem zp0 {l : List Int} (h : zh2 l) (p : Nat → Bool) : zh2 (zkr p l) := by
  unfold zh2 zkr
  rw [List.pairwise_map]
  refine List.Pairwise.imp_of_mem (fun {i k} hi hk hlt => ?_) ((zmt l.length).sublist List.filter_sublist)
  exact h.lt hlt (List.mem_range.1 (List.mem_filter.1 hk).1)
theorem zka (r : Repo) (a b : Int) : zh2 (zaC r a b) := zp0 (zlO r a b) _
theorem zlH {l : List Int} {x : Int} : x ∈ l ↔ ∃ i, i < l.length ∧ l.getD i 0 = x := by
  constructor
  · intro h
    obtain ⟨i, hi⟩ := List.getElem?_of_mem h
    exact ⟨i, (List.getElem?_eq_some_iff.1 hi).1, zcg hi⟩
  · rintro ⟨i, hi, rfl⟩
    rw [zcg (List.getElem?_eq_getElem hi)]
    exact List.getElem_mem hi
theorem ziS {r : Repo} {a b x : Int} : x ∈ zaC r a b ↔ x ∈ zdm r a b ∧ ∀ y ∈ zdm r a b, y ≠ x → x ∉ za9 r y := by
  have hasc := zlO r a b
  unfold zaC zkr
  rw [List.mem_map]
  constructor
  · rintro ⟨i, hi, rfl⟩
    rw [List.mem_filter, List.mem_range] at hi
    obtain ⟨hil, hb⟩ := hi
    unfold zk4 at hb
    rw [zaX] at hb
    refine ⟨zlH.2 ⟨i, hil, rfl⟩, fun y hy hne hx => ?_⟩
    obtain ⟨k, hk, rfl⟩ := zlH.1 hy
    have := hb k (Nat.zero_le _) (by omega)
    rw [zbW.2 hx, Bool.not_true, Bool.or_false, beq_iff_eq] at this
    exact hne (by rw [show k = i by omega])
  · rintro ⟨hm, hall⟩
    obtain ⟨i, hi, rfl⟩ := zlH.1 hm
    refine ⟨i, List.mem_filter.2 ⟨List.mem_range.2 hi, ?_⟩, rfl⟩
    unfold zk4
    rw [zaX]
    intro k _ hk
    have hkl : k < (zdm r a b).length := by omega
    cases hki : ((k : Int) == (i : Int)) with
    | true => rfl
    | false =>
      have hne : k ≠ i := fun e => by rw [e] at hki; simp at hki
      have := hall _ (zlH.2 ⟨k, hkl, rfl⟩) (fun e => hne (hasc.inj hkl hi e))
      cases hq : zfW (za9 r ((zdm r a b).getD k 0)) ((zdm r a b).getD i 0) with
      | false => rfl
      | true => exact absurd (zbW.1 hq) this
theorem zom (r : Repo) (a b : Int) : zaC r b a = zaC r a b := by
  have hb : ∀ x, x ∈ zdm r b a ↔ x ∈ zdm r a b := fun x => by rw [ze3, ze3]; exact And.comm
  refine zh2.ext (zka _ _ _) (zka _ _ _) fun x => ?_
  rw [ziS, ziS, hb]
  exact and_congr Iff.rfl ⟨fun h y hy => h y ((hb y).2 hy), fun h y hy => h y ((hb y).1 hy)⟩
theorem zm5 {r : Repo} (hr : zaa r = true) {a b : Int} (ha : upB r.Commits.length a = true) (hb : upB r.Commits.length b = true) (h : a ∈ za9 r b) : zaC r a b = [a] := by
  obtain ⟨a0, a1⟩ := zaz.1 ha
  obtain ⟨b0, b1⟩ := zaz.1 hb
  have hself := zk0 hr a0 a1
  have hab : a ∈ zdm r a b := ze3.2 ⟨hself, h⟩
  refine zh2.ext (zka _ _ _) (List.pairwise_singleton _ _) fun x => ?_
  rw [ziS, List.mem_singleton]
  constructor
  · rintro ⟨hx, hall⟩
    by_cases e : a = x
    · exact e.symm
    · exact absurd (ze3.1 hx).1 (hall a hab e)
  · rintro rfl
    refine ⟨hab, fun y hy hne hx => ?_⟩
    have hym := zbI (ze3.1 hy).1
    have h1 := zna hr hym.1 hym.2 hx
    have h2 := zna hr a0 a1 (ze3.1 hy).1
    exact hne (by omega)
def zmq (x y : List Bool) (n : Nat) : List Bool := (List.range n).map fun i => x.getD i false && y.getD i false
theorem zqZ (x y : List Bool) (n i : Nat) (hi : i < n) : ((List.range i).map (fun i => x.getD i false && y.getD i false) ++ List.replicate (n - i) false).set i (x.getD i false && y.getD i false) = (List.range (i + 1)).map (fun i => x.getD i false && y.getD i false) ++ List.replicate (n - (i + 1)) false := by
  obtain ⟨k, hk⟩ : ∃ k, n - i = k + 1 := ⟨n - i - 1, by omega⟩
  rw [hk, show n - (i + 1) = k by omega, List.set_append_right _ _ (by simp), List.length_map, List.length_range, Nat.sub_self, List.replicate_succ, List.set_cons_zero, List.range_succ, List.map_append, List.append_assoc]
  rfl
theorem zm6 {x y q : List Bool} {n : Nat} (hx : x.length = n) (hy : y.length = n) (hq : q.length = n) (hn : n ≤ 1000) {F : List Bool → Option (List Int)} : ∀ (k i m : Nat), i + k = n → k < m →
    zd1 x y q (fun _ z => F z) m (i : Int) ((List.range i).map (fun i => x.getD i false && y.getD i false) ++ List.replicate (n - i) false) = F (zmq x y n)
  | k, i, 0, _, hm => by omega
  | 0, i, m + 1, hi, _ => by
    obtain rfl : i = n := by omega
    simp only [zd1, hq, zai, cond_false, Nat.sub_self, List.replicate_zero, List.append_nil]
    rfl
  | k + 1, i, m + 1, hi, hm => by
    have hlt : i < n := by omega
    have hl : ((List.range i).map (fun i => x.getD i false && y.getD i false) ++ List.replicate (n - i) false).length = n := by simp; omega
    have ih := zm6 hx hy hq hn (F := F) k (i + 1) m (by omega) (by omega)
    rw [← zqZ x y n i hlt] at ih
    simp only [zd1, hq]
    rw [decide_eq_true (show (i : Int) < (n : Int) by omega), cond_true, zd4 (by omega), Option.bind_some]
    have hsi : ∀ v, siM ((List.range i).map (fun i => x.getD i false && y.getD i false) ++ List.replicate (n - i) false) (i : Int) v = some (((List.range i).map (fun i => x.getD i false && y.getD i false) ++ List.replicate (n - i) false).set i v) := fun v => zcQ (by omega) v
    have hg := zd4 (mk := (List.range i).map (fun i => x.getD i false && y.getD i false) ++ List.replicate (n - i) false) (i := i) (by omega)
    rw [zd4 (show i < y.length by omega)]
    simp only [Option.bind_some, hg, hsi, zag hlt (show n ≤ zam by unfold zam; omega)]
    cases hxi : x.getD i false with
    | true =>
      rw [hxi, Bool.true_and] at ih
      exact ih
    | false =>
      rw [hxi, Bool.false_and] at ih
      exact ih
def zn1 (u : Int) (mk : List Bool) (p : Int) : List Bool := bif p != u then mk.set p.toNat false else mk
theorem zlP (u : Int) : ∀ (ps : List Int) (mk : List Bool), (∀ p ∈ ps, 0 ≤ p) → (ps.foldl (zn1 u) mk).length = mk.length ∧ ∀ j, j < mk.length → (ps.foldl (zn1 u) mk).getD j false = (mk.getD j false && !(zfW ps (j : Int) && !((j : Int) == u)))
  | [], mk, _ => ⟨rfl, fun j _ => by simp [zfW]⟩
  | p :: ps, mk, hp => by
    have hl : (zn1 u mk p).length = mk.length := by unfold zn1; cases (p != u) <;> simp
    obtain ⟨e1, e2⟩ := zlP u ps (zn1 u mk p) (fun q hq => hp q (List.mem_cons_of_mem _ hq))
    rw [List.foldl_cons]
    refine ⟨e1.trans hl, fun j hj => ?_⟩
    have hp0 := hp p (by simp)
    rw [e2 j (by omega)]
    have hh : zfW (p :: ps) (j : Int) = ((p == (j : Int)) || zfW ps (j : Int)) := rfl
    rw [hh]
    have hs : (zn1 u mk p).getD j false = (mk.getD j false && !((p == (j : Int)) && !((j : Int) == u))) := by
      unfold zn1
      by_cases e : p = (j : Int)
      · subst e
        cases hu : ((j : Int) == u) with
        | true => simp [bne, hu]
        | false => simp [bne, hu, List.getD, hj]
      · rw [beq_false_of_ne e, Bool.false_and, Bool.not_false, Bool.and_true]
        cases (p != u) with
        | false => rfl
        | true =>
          rw [cond_true]
          simp only [List.getD, List.getElem?_set_ne (show p.toNat ≠ j by omega)]
    rw [hs]
    cases mk.getD j false <;> cases (p == (j : Int)) <;> cases zfW ps (j : Int) <;> cases ((j : Int) == u) <;> rfl
def zmr (r : Repo) (ls : List Int) (mk : List Bool) : List Bool := ls.foldl (fun mk u => (za9 r u).foldl (zn1 u) mk) mk
theorem zkj (r : Repo) : ∀ (ls : List Int) (mk : List Bool), (zmr r ls mk).length = mk.length ∧ ∀ j, j < mk.length → (zmr r ls mk).getD j false = (mk.getD j false && ls.all fun u => !(zfW (za9 r u) (j : Int) && !((j : Int) == u)))
  | [], mk => ⟨rfl, fun j _ => by simp [zmr]⟩
  | u :: ls, mk => by
    obtain ⟨f1, f2⟩ := zlP u (za9 r u) mk (fun p hp => (zbI hp).1)
    obtain ⟨e1, e2⟩ := zkj r ls ((za9 r u).foldl (zn1 u) mk)
    refine ⟨e1.trans f1, fun j hj => ?_⟩
    refine (e2 j (by omega)).trans ?_
    rw [f2 j hj, List.all_cons, Bool.and_assoc]
theorem zoS {r : Repo} (hr : zaa r = true) {a b : Int} (ha : upB r.Commits.length a = true) (hb : upB r.Commits.length b = true) : zld (zmq (za1 r a.toNat) (za1 r b.toNat) r.Commits.length) = zdm r a b ∧ ∀ j, j < r.Commits.length → (zmq (za1 r a.toNat) (za1 r b.toNat) r.Commits.length).getD j false = zfW (zdm r a b) (j : Int) := by
  obtain ⟨a0, a1⟩ := zaz.1 ha
  obtain ⟨b0, b1⟩ := zaz.1 hb
  have hg : ∀ j, j < r.Commits.length → (zmq (za1 r a.toNat) (za1 r b.toNat) r.Commits.length).getD j false = ((za1 r a.toNat).getD j false && (za1 r b.toNat).getD j false) := fun j hj => by
    unfold zmq
    rw [List.getD, List.getElem?_map, List.getElem?_range hj]
    rfl
  have hm : ∀ j, j < r.Commits.length → ((zmq (za1 r a.toNat) (za1 r b.toNat) r.Commits.length).getD j false = true ↔ (j : Int) ∈ zdm r a b) := fun j hj => by
    rw [hg j hj, Bool.and_eq_true, ze3, zcP hr a0 a1, zcP hr b0 b1, Int.toNat_natCast]
    have h1 := zhR hr (show a.toNat < r.Commits.length by omega) j
    have h2 := zhR hr (show b.toNat < r.Commits.length by omega) j
    unfold mkd at h1 h2
    rw [h1, h2]
    exact ⟨fun h => ⟨⟨Int.natCast_nonneg j, h.1⟩, Int.natCast_nonneg j, h.2⟩, fun h => ⟨h.1.2, h.2.2⟩⟩
  have hlen : (zmq (za1 r a.toNat) (za1 r b.toNat) r.Commits.length).length = r.Commits.length := by unfold zmq; simp
  refine ⟨zh2.ext (zkZ _) (zlO _ _ _) fun x => ?_, fun j hj => ?_⟩
  · rw [zl9]
    constructor
    · rintro ⟨hx, h⟩
      have hlt := zm8 h
      have := (hm x.toNat (by omega)).1 h
      rwa [Int.toNat_of_nonneg hx] at this
    · intro h
      have hxm := zbI (ze3.1 h).1
      refine ⟨hxm.1, (hm x.toNat (by omega)).2 ?_⟩
      rwa [Int.toNat_of_nonneg hxm.1]
  · apply zc2
    rw [hm j hj, zbW]
theorem zoT {r : Repo} (hr : zaa r = true) {a b : Int} (ha : upB r.Commits.length a = true) (hb : upB r.Commits.length b = true) : zld (zmr r (zdm r a b) (zmq (za1 r a.toNat) (za1 r b.toNat) r.Commits.length)) = zaC r a b := by
  obtain ⟨_, c2⟩ := zoS hr ha hb
  have hlen : (zmq (za1 r a.toNat) (za1 r b.toNat) r.Commits.length).length = r.Commits.length := by unfold zmq; simp
  obtain ⟨g1, g2⟩ := zkj r (zdm r a b) (zmq (za1 r a.toNat) (za1 r b.toNat) r.Commits.length)
  have key : ∀ j, j < r.Commits.length → ((zmr r (zdm r a b) (zmq (za1 r a.toNat) (za1 r b.toNat) r.Commits.length)).getD j false = true ↔ (j : Int) ∈ zaC r a b) := fun j hj => by
    rw [g2 j (by omega), c2 j hj, Bool.and_eq_true, zbW, List.all_eq_true, ziS]
    refine and_congr Iff.rfl ⟨fun h y hy hne hx => ?_, fun h y hy => ?_⟩
    · have := h y hy
      rw [zbW.2 hx, beq_false_of_ne (fun e => hne e.symm)] at this
      cases this
    · by_cases e : (j : Int) = y
      · rw [e]; simp
      · have := h y hy (fun e2 => e e2.symm)
        cases hq : zfW (za9 r y) (j : Int) with
        | false => rfl
        | true => exact absurd (zbW.1 hq) this
  refine zh2.ext (zkZ _) (zka _ _ _) fun x => ?_
  rw [zl9]
  constructor
  · rintro ⟨hx, h⟩
    have hlt := zm8 h
    have := (key x.toNat (by omega)).1 h
    rwa [Int.toNat_of_nonneg hx] at this
  · intro h
    have hxm := ziM h
    refine ⟨hxm.1, (key x.toNat (by omega)).2 ?_⟩
    rwa [Int.toNat_of_nonneg hxm.1]
theorem zoU {r : Repo} (hr : zaa r = true) {a b : Int} (ha : upB r.Commits.length a = true) (hb : upB r.Commits.length b = true) : zg4 r a b = some (zaC r a b) := by
  obtain ⟨a0, a1⟩ := zaz.1 ha
  obtain ⟨b0, b1⟩ := zaz.1 hb
  have hs := (zad hr).1
  obtain ⟨c1, c2⟩ := zoS hr ha hb
  have hlen : (zmq (za1 r a.toNat) (za1 r b.toNat) r.Commits.length).length = r.Commits.length := by unfold zmq; simp
  unfold zg4
  rw [zix hr a0 a1, Option.bind_some, zix hr b0 b1, Option.bind_some, zjD (by simp [lim]; omega), Option.bind_some]
  simp only [jn, List.length_replicate, zas]
  have e1 := zm6 (x := za1 r a.toNat) (y := za1 r b.toNat) (q := List.replicate r.Commits.length false) (n := r.Commits.length) (zbR _ _) (zbR _ _) (by simp) (by omega) (F := fun y31 => (zdw y31).bind fun z64 => (zeF y31).bind fun z72 => zcf r z72 (fun _ y84 => (zeF y84).bind fun z166 => some z166) (((z72.length : Int) - 0).toNat + 1) 0 z64) r.Commits.length 0 (r.Commits.length + 1) (by omega) (by omega)
  refine (Eq.trans (by simp) e1).trans ?_
  have hcl : zdw (zmq (za1 r a.toNat) (za1 r b.toNat) r.Commits.length) = some (zmq (za1 r a.toNat) (za1 r b.toNat) r.Commits.length) := by
    unfold zdw
    rw [if_pos (by rw [hlen]; simp [lim]; omega)]
  have hbl : (zdm r a b).length ≤ r.Commits.length := Nat.le_trans (List.length_filter_le _ _) (zcM r a)
  rw [hcl, Option.bind_some, zlS (by omega), Option.bind_some, c1, zas]
  rw [zmu (xs := zdm r a b) (g := fun mk u => (za9 r u).foldl (zn1 u) mk) (I := fun mk => mk.length = r.Commits.length) (Z := fun mk => (zeF mk).bind fun z => some z) (f := fun m i mk => zcf r (zdm r a b) _ m i mk) hlen (fun m i o mk ho hmk => by
    have hom := zbI (ze3.1 (List.mem_of_getElem? ho)).1
    obtain ⟨f1, f2⟩ := zlP o (za9 r o) mk (fun p hp => (zbI hp).1)
    refine ⟨?_, f1.trans hmk⟩
    simp only [zcf, jn, zaq ho, zae ho, cond_true, Option.bind_some, zix hr hom.1 hom.2, zlS (show (za1 r o.toNat).length ≤ 1000 by rw [zbR]; omega), zas]
    have hal := zoK (za1 r o.toNat)
    rw [zbR] at hal
    rw [zmu (xs := zld (za1 r o.toNat)) (g := zn1 o) (I := fun mk => mk.length = r.Commits.length) (Z := fun mk => zcf r (zdm r a b) (fun _ y84 => (zeF y84).bind fun z166 => some z166) m (w64 ((i : Int) + 1)) mk) (f := fun m' i mk => zem o (zld (za1 r o.toNat)) _ m' i mk) hmk (fun m' i' x mk' hx hmk' => by
      have hxm := zbI (r := r) (a := o) (List.mem_of_getElem? hx)
      have hxl : x.toNat < mk'.length := by omega
      have e1 : gi mk' x = some (mk'.getD x.toNat false) := by
        have := zd4 hxl
        rwa [Int.toNat_of_nonneg hxm.1] at this
      have e2 : siM mk' x false = some (mk'.set x.toNat false) := by
        have := zcQ hxl false
        rwa [Int.toNat_of_nonneg hxm.1] at this
      refine ⟨?_, by unfold zn1; cases (x != o) <;> simp [hmk']⟩
      simp only [zem, jn, zaq hx, zae hx, cond_true, Option.bind_some, e1, e2, zag (zav hx) (show (zld (za1 r o.toNat)).length ≤ zam by unfold zam; omega)]
      unfold zn1
      cases (x != o) <;> rfl) (fun m' mk' _ => by simp only [zem, zai, cond_false]), zag (zav ho) (show (zdm r a b).length ≤ zam by unfold zam; omega)]
    rfl) (fun m mk _ => by simp only [zcf, zai, cond_false])]
  obtain ⟨g1, _⟩ := zkj r (zdm r a b) (zmq (za1 r a.toNat) (za1 r b.toNat) r.Commits.length)
  rw [show (zdm r a b).foldl (fun mk u => (za9 r u).foldl (zn1 u) mk) (zmq (za1 r a.toNat) (za1 r b.toNat) r.Commits.length) = zmr r (zdm r a b) (zmq (za1 r a.toNat) (za1 r b.toNat) r.Commits.length) from rfl, zlS (by omega), Option.bind_some, zoT hr ha hb]
theorem zgJ {r : Repo} (h : RpB r) {a : Int} (ha : upB r.Commits.length a = true) : zat r a = some (zac r a.toNat) := by
  obtain ⟨a0, a1⟩ := zaz.1 ha
  unfold zat
  rw [decide_eq_false (by omega), cond_false, zbd a0 a1]
  rfl
section
variable {r : Repo} (h : RpB r) (hr : zaa r = true)
include h hr
theorem ziJ : Gd False r := ⟨h, hr, fun e => e.elim⟩
theorem znL {a b : Int} (ha : upB r.Commits.length a = true) (hb : upB r.Commits.length b = true) : zfC r a b = some (zfS r a b) := by
  have hs := (zad hr).1
  have hl := zjK r a b
  unfold zfC zfS
  rw [zoU hr ha hb, Option.bind_some]
  cases hz : ((zaC r a b).length : Int) == 0 with
  | true => rfl
  | false =>
    have hne : ((zaC r a b).length : Int) ≠ 0 := by simpa using hz
    have e : w64 (((zaC r a b).length : Int) - 1) = (((zaC r a b).length - 1 : Nat) : Int) := by rw [zah (by omega) (by omega)]; omega
    have hlt : (zaC r a b).length - 1 < (zaC r a b).length := by omega
    have hm : (zaC r a b).getD ((zaC r a b).length - 1) 0 ∈ zaC r a b := by
      rw [zcg (List.getElem?_eq_getElem hlt)]; exact List.getElem_mem hlt
    rw [cond_false, cond_false, e, zhq hlt, Option.bind_some, zgJ h (zaz.2 (ziM hm)), Option.bind_some]
end
def znV (r : Repo) (n : Str) (x : Repo) : Prop := x = r ∨ x = zbt ∨ zaa x = true
theorem znV.bulk {r x : Repo} {n : Str} (h : znV r n x) : Bk.bulk x ≤ Bk.bulk r + 20000 := by
  rcases h with h | h | h
  · rw [h]; omega
  · rw [h]; show 0 + 0 + (0 + 0) ≤ _; omega
  · have := zlt h; omega
theorem znV.fit {r x : Repo} {n : Str} (hf : Bk.fit r) (h : znV r n x) : Bk.fit x := by
  rcases h with h | h | h
  · rw [h]; exact hf
  · rw [h]; exact ⟨⟨by simp [zbt, zam], by simp [zbt]⟩, by simp [zbt, zam], by simp [zbt]⟩
  · exact zlv h
def zmg (r : Repo) (a b : Int) : List File × List Clash := zbc (zfS r a b) (zac r a.toNat) (zac r b.toNat)
def zjO (r : Repo) (a b : Int) : List File × Bool := bif zaa r && (upB r.Commits.length a && upB r.Commits.length b) then (bif decide (0 < ((zmg r a b).2.length : Int)) then ([], false) else ((zmg r a b).1, true)) else ([], false)
theorem zon (r : Repo) (a b : Int) : zfS r b a = zfS r a b := by
  unfold zfS
  rw [zom]
theorem zoo (r : Repo) (a b : Int) : zmg r b a = zmg r a b := by
  unfold zmg
  rw [zon, znp]
theorem znM (r : Repo) (a b : Int) : zjO r b a = zjO r a b := by
  unfold zjO
  rw [zoo, Bool.and_comm (upB r.Commits.length b)]
section
variable {r : Repo} (h : RpB r) (hr : zaa r = true) {a b : Int} (ha : upB r.Commits.length a = true) (hb : upB r.Commits.length b = true)
include h hr ha hb
theorem zoV (hab : a ∈ za9 r b) : zmg r a b = (zac r b.toNat, []) := by
  obtain ⟨b0, b1⟩ := zaz.1 hb
  have hg := ziJ h hr
  obtain ⟨_, tb, _, _⟩ := hg.tree (i := b.toNat) (by omega)
  have e : zfS r a b = zac r a.toNat := by
    unfold zfS
    rw [zm5 hr ha hb hab]
    rfl
  unfold zmg
  rw [e, ziL tb]
theorem zop (hab : a ∈ za9 r b) : zjO r a b = (zac r b.toNat, true) := by
  unfold zjO
  rw [hr, ha, hb, zoV h hr ha hb hab]
  rfl
theorem zkk : TB (zfS r a b) ∧ zap (zfS r a b) = true ∧ TB (zac r a.toNat) ∧ zap (zac r a.toNat) = true ∧ TB (zac r b.toNat) ∧ zap (zac r b.toNat) = true ∧ TB (zmg r a b).1 := by
  obtain ⟨a0, a1⟩ := zaz.1 ha
  obtain ⟨b0, b1⟩ := zaz.1 hb
  have hs := (zad hr).1
  have hg := ziJ h hr
  obtain ⟨_, e2, e3⟩ := ziO hg a0 a1 b0 b1
  obtain ⟨ta, ta2, ta3, ta4⟩ := hg.tree (i := a.toNat) (by omega)
  obtain ⟨tb, tb2, tb3, tb4⟩ := hg.tree (i := b.toNat) (by omega)
  have := zal e3
  exact ⟨e2, e3, ta, ta2, tb, tb2, zfY e2 ta tb (zak e3) ta3 tb3 (by omega) (by omega) (by omega)⟩
end
theorem zoW {r : Repo} (h : RpB r) (a b : Int) : TB (zjO r a b).1 := by
  unfold zjO
  cases hc : zaa r && (upB r.Commits.length a && upB r.Commits.length b) with
  | false => exact TB.nil
  | true =>
    simp only [Bool.and_eq_true] at hc
    rw [cond_true]
    cases decide (0 < ((zmg r a b).2.length : Int)) with
    | true => exact TB.nil
    | false => exact (zkk h hc.1 hc.2.1 hc.2.2).2.2.2.2.2.2
theorem zmT {r : Repo} (h : RpB r) (a b : Int) : zgZ r a b = some (zjO r a b) := by
  unfold zgZ zjO
  rw [zqp h (by simp), Option.bind_some]
  simp only [List.all_cons, List.all_nil, Bool.and_true]
  cases hc : zaa r && (upB r.Commits.length a && upB r.Commits.length b) with
  | false => rfl
  | true =>
    simp only [Bool.and_eq_true] at hc
    obtain ⟨hr, ha, hb⟩ := hc
    obtain ⟨e2, e3, ta, ta2, tb, tb2, _⟩ := zkk h hr ha hb
    rw [Bool.not_true, cond_false, cond_true, znL h hr ha hb, Option.bind_some, zgJ h ha, Option.bind_some, zgJ h hb, Option.bind_some, zgF e2 ta tb e3 ta2 tb2]
    rfl
theorem zmU {r : Repo} (h : RpB r) (a b : Int) : zhQ r a b = some (zjO r a b) := by
  unfold zhQ zjO
  simp only [jn, zcI h, zeg, zeo (zan h.coms), Option.bind_some]
  rw [show (decide ((0 : Int) ≤ a) && decide (a ≤ (r.Commits.length : Int) - 1)) = upB r.Commits.length a from rfl, show (decide ((0 : Int) ≤ b) && decide (b ≤ (r.Commits.length : Int) - 1)) = upB r.Commits.length b from rfl]
  cases hr : zaa r with
  | false => rfl
  | true =>
    cases ha : upB r.Commits.length a with
    | false => rfl
    | true =>
      cases hb : upB r.Commits.length b with
      | false => rfl
      | true =>
        obtain ⟨a0, a1⟩ := zaz.1 ha
        obtain ⟨b0, b1⟩ := zaz.1 hb
        have hs := (zad hr).1
        obtain ⟨e2, e3, ta, ta2, tb, tb2, tj⟩ := zkk h hr ha hb
        have so := zal e3
        have sa := zal ta2
        have sb := zal tb2
        have hj := zhw e2 ta tb (zak e3) (zak ta2) (zak tb2) (by omega) (by omega) (by omega)
        have e1 := (ziO (ziJ h hr) a0 a1 b0 b1).1
        unfold zmg at tj ⊢
        unfold zac at hj tj ⊢
        simp only [Bool.not_true, cond_false, Bool.and_true, cond_true, e1, zbd a0 a1, zbd b0 b1, Option.bind_some, hj]
        cases decide (0 < ((zbc (zfS r a b) (r.Commits.getD a.toNat noCommit).Tree (r.Commits.getD b.toNat noCommit).Tree).2.length : Int)) with
        | true => rfl
        | false => simp only [cond_false, zcj tj, Option.bind_some]
theorem zln {code : List Byte} (h : code.length ≤ 1048576) : ∃ x a b, zfB code = some (x, a, b) ∧ Drawn x ∧ -1 ≤ a ∧ a ≤ 16 ∧ -1 ≤ b ∧ b ≤ 16 := by
  obtain ⟨x, a, b, e, r⟩ := znb h
  unfold zfB
  rw [e, Option.bind_some]
  exact ⟨x, a, b, rfl, r⟩
theorem znz {code : List Byte} (h : Bk.fit code) : zhs code = some true := by
  unfold zhs
  by_cases hc : (1048576 : Int) < (code.length : Int)
  · rw [decide_eq_true hc]; rfl
  obtain ⟨x, a, b, e, hx, a0, a1, b0, b1⟩ := zln (code := code) (by omega)
  have hb := hx.rb
  have ht := zoW hb a b
  rw [decide_eq_false hc, cond_false, e, Option.bind_some]
  simp only [zeY, zmT hb, zmU hb, Option.bind_some, jn, bne_self_eq_false, beq_self_eq_true, cond_false, cond_true, zfT ht, Bool.not_true, zbx hb]
  cases hr : zaa x with
  | false => rfl
  | true =>
    simp only [Bool.not_true, cond_false]
    by_cases h1 : a < 0
    · rw [decide_eq_true h1]; rfl
    rw [decide_eq_false h1, cond_false]
    by_cases h2 : b < 0
    · rw [decide_eq_true h2]; rfl
    rw [decide_eq_false h2, cond_false]
    by_cases h3 : (x.Commits.length : Int) ≤ a
    · rw [decide_eq_true h3]; rfl
    rw [decide_eq_false h3, cond_false]
    by_cases h4 : (x.Commits.length : Int) ≤ b
    · rw [decide_eq_true h4]; rfl
    rw [decide_eq_false h4, cond_false]
    have ua : upB x.Commits.length a = true := zaz.2 (by omega)
    have ub : upB x.Commits.length b = true := zaz.2 (by omega)
    have eM : zhO x b = (zac x b.toNat, true) := by unfold zhO; rw [hr, ub]; rfl
    have eI : zlT x a b = zfW (za9 x b) a := by unfold zlT; rw [hr, ua, ub]; rfl
    simp only [znM x a b, zfr hb, eM, zoZ hb, eI, Option.bind_some, beq_self_eq_true, zfT ht, cond_true]
    cases hq : zfW (za9 x b) a with
    | false => simp
    | true =>
      rw [zop hb hr ua ub (zbW.1 hq)] at ht ⊢
      simp [zfT ht]
def ChH : Int → List Hunk → Prop
  | _, [] => True
  | lo, d :: l => lo ≤ d.At ∧ ChH (d.At + d.Less.length + 1) l
theorem ChH.mono : ∀ {l : List Hunk} {lo lo' : Int}, lo' ≤ lo → ChH lo l → ChH lo' l
  | [], _, _, _, _ => trivial
  | d :: l, _, _, h, ⟨h1, h2⟩ => ⟨Int.le_trans h h1, h2⟩
end Go.Vm
