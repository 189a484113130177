/- Plain laws of the statements' own helpers: they count bulk, copy, compare, mark; printed by a program of ours. Conditions: each law's own premises. -/
import Derived.Test.YtokbhelngoeblaaGreatDoorGLw
import Derived.Test.YtokbhelngoeblaaGreatDoorGM0
import Derived.Test.YtokbhelngoeblaaGreatDoorGM1
import Derived.Test.YtokbhelngoeblaaGreatDoorGM2
namespace Go.Vm
open Go Go.Sx
set_option linter.unusedSimpArgs false
set_option linter.unusedVariables false
theorem zxj {xs : List Int} {n : Int} (hf : Bk.fit xs) (h0 : 0 ≤ n) (hN : n ≤ 1048576) : ziQ xs n = some (if (Bk.bulk xs : Int) ≤ n then n - Bk.bulk xs else -1) := by
  have hl := zb6 hf
  unfold ziQ
  have hw : w64 (n - (xs.length : Int)) = n - xs.length := zai (by unfold maxi at hl; omega) (by omega)
  have hb : (Bk.bulk xs : Int) = xs.length + sumB Bk.bulk xs := by simp [Bk.bulk]
  simp only [hw, jn, zak]
  by_cases h : n - (xs.length : Int) < 0
  · rw [decide_eq_true h, cond_true, if_neg (by omega)]
  · rw [decide_eq_false h, cond_false]
    have hz : sumB Bk.bulk xs = 0 := by
      clear hb h hw hN h0 hl hf
      induction xs with
      | nil => rfl
      | cons x xs ih => show 0 + sumB Bk.bulk xs = 0; omega
    rw [if_pos (by omega)]
    congr 1; omega
theorem zqA {xs : List Str} {n : Int} (hf : Bk.fit xs) (h0 : 0 ≤ n) (hN : n ≤ 1048576) : zed xs n = some (if (Bk.bulk xs : Int) ≤ n then n - Bk.bulk xs else -1) := by
  have hl := zb6 hf
  unfold zed
  have hw : w64 (n - (xs.length : Int)) = n - xs.length := zai (by unfold maxi at hl; omega) (by omega)
  have hb : (Bk.bulk xs : Int) = xs.length + sumB Bk.bulk xs := by simp [Bk.bulk]
  simp only [hw, jn, zak]
  by_cases h : n - (xs.length : Int) < 0
  · rw [decide_eq_true h, cond_true, if_neg (by omega)]
  · rw [decide_eq_false h, cond_false]
    rw [zld (α := Str) (xs := xs) (b := Bk.bulk) (N := 1048576) (r0 := some (-1)) (Z := fun a => some a) (f := fun m a i => zce xs (fun y2 _ _ => some y2) m a 0 i) (fun m a i x hx ha hA => by
      have hx2 : x.length ≤ maxi := zfY hf hx
      have hw2 : w64 (a - (x.length : Int)) = a - x.length := zai (by unfold maxi at hx2; omega) (by omega)
      simp only [zce, zal hx, zaf hx, cond_true, Option.bind_some, hw2, zac (zau hx) hl]
      by_cases h1 : a - (x.length : Int) < 0
      · rw [decide_eq_true h1, cond_true, if_neg (by simp only [Bk.bulk]; omega)]
      · rw [decide_eq_false h1, cond_false, if_pos (by simp only [Bk.bulk]; omega)]; rfl) (fun m a => by
      simp only [zce, zad, cond_false]) (by omega) (by omega) (by omega)]
    by_cases h2 : (sumB Bk.bulk xs : Int) ≤ n - xs.length
    · rw [if_pos h2, if_pos (by omega), hb]; congr 1; omega
    · rw [if_neg h2, if_neg (by omega)]
theorem zxk {x : File} {n : Int} (hf : Bk.fit x) (h0 : 0 ≤ n) (hN : n ≤ 1048576) : ziR x n = some (if (Bk.bulk x : Int) ≤ n then n - Bk.bulk x else -1) := by
  obtain ⟨f0, f1⟩ := hf
  have hb : Bk.bulk x = Bk.bulk x.Path + (Bk.bulk x.Text) := rfl
  have b0 : Bk.bulk x.Path = x.Path.length := rfl
  have g0 : x.Path.length ≤ maxi := f0
  unfold maxi at g0
  unfold ziR
  have w0 : w64 (n - (x.Path.length : Int)) = n - (x.Path.length : Int) := zai (by omega) (by omega)
  simp only [w0]
  by_cases h0 : n - (x.Path.length : Int) < 0
  case pos => rw [decide_eq_true h0, cond_true, if_neg (by omega)]
  rw [decide_eq_false h0, cond_false]
  rw [zqA f1 (by omega) (by omega), Option.bind_some]
  by_cases h1 : (Bk.bulk x.Text : Int) ≤ n - (x.Path.length : Int)
  case neg => rw [if_neg h1, if_neg (by omega)]; rfl
  rw [if_pos h1, decide_eq_false (by omega), cond_false]
  rw [if_pos (by omega)]
  congr 1 <;> omega
theorem zv0 {xs : List File} {n : Int} (hf : Bk.fit xs) (h0 : 0 ≤ n) (hN : n ≤ 1048576) : zhZ xs n = some (if (Bk.bulk xs : Int) ≤ n then n - Bk.bulk xs else -1) := by
  have hl := zb6 hf
  unfold zhZ
  have hw : w64 (n - (xs.length : Int)) = n - xs.length := zai (by unfold maxi at hl; omega) (by omega)
  have hb : (Bk.bulk xs : Int) = xs.length + sumB Bk.bulk xs := by simp [Bk.bulk]
  simp only [hw, jn, zak]
  by_cases h : n - (xs.length : Int) < 0
  · rw [decide_eq_true h, cond_true, if_neg (by omega)]
  · rw [decide_eq_false h, cond_false]
    rw [zld (α := File) (xs := xs) (b := Bk.bulk) (N := 1048576) (r0 := some (-1)) (Z := fun a => some a) (f := fun m a i => zfc xs (fun y2 _ _ => some y2) m a 0 i) (fun m a i x hx ha hA => by
      simp only [zfc, zal hx, zaf hx, cond_true, Option.bind_some, zxk (zfY hf hx) ha hA, zac (zau hx) hl]
      by_cases h1 : (Bk.bulk x : Int) ≤ a
      · rw [if_pos h1, decide_eq_false (by omega), cond_false, if_pos h1]
      · rw [if_neg h1, if_neg h1]; rfl) (fun m a => by
      simp only [zfc, zad, cond_false]) (by omega) (by omega) (by omega)]
    by_cases h2 : (sumB Bk.bulk xs : Int) ≤ n - xs.length
    · rw [if_pos h2, if_pos (by omega), hb]; congr 1; omega
    · rw [if_neg h2, if_neg (by omega)]
theorem zvg {x : Commit} {n : Int} (hf : Bk.fit x) (h0 : 0 ≤ n) (hN : n ≤ 1048576) : zhm x n = some (if (Bk.bulk x : Int) ≤ n then n - Bk.bulk x else -1) := by
  obtain ⟨f0, f1, f2⟩ := hf
  have hb : Bk.bulk x = Bk.bulk x.Parents + (Bk.bulk x.Who + (Bk.bulk x.Tree)) := rfl
  have b1 : Bk.bulk x.Who = x.Who.length := rfl
  have g1 : x.Who.length ≤ maxi := f1
  unfold maxi at g1
  unfold zhm
  rw [zxj f0 (by omega) (by omega), Option.bind_some]
  by_cases h0 : (Bk.bulk x.Parents : Int) ≤ n
  case neg => rw [if_neg h0, if_neg (by omega)]; rfl
  rw [if_pos h0, decide_eq_false (by omega), cond_false]
  have w1 : w64 (n - (Bk.bulk x.Parents : Int) - (x.Who.length : Int)) = n - (Bk.bulk x.Parents : Int) - (x.Who.length : Int) := zai (by omega) (by omega)
  simp only [w1]
  by_cases h1 : n - (Bk.bulk x.Parents : Int) - (x.Who.length : Int) < 0
  case pos => rw [decide_eq_true h1, cond_true, if_neg (by omega)]
  rw [decide_eq_false h1, cond_false]
  rw [zv0 f2 (by omega) (by omega), Option.bind_some]
  by_cases h2 : (Bk.bulk x.Tree : Int) ≤ n - (Bk.bulk x.Parents : Int) - (x.Who.length : Int)
  case neg => rw [if_neg h2, if_neg (by omega)]; rfl
  rw [if_pos h2, decide_eq_false (by omega), cond_false]
  rw [if_pos (by omega)]
  congr 1 <;> omega
theorem ztS {xs : List Commit} {n : Int} (hf : Bk.fit xs) (h0 : 0 ≤ n) (hN : n ≤ 1048576) : zgs xs n = some (if (Bk.bulk xs : Int) ≤ n then n - Bk.bulk xs else -1) := by
  have hl := zb6 hf
  unfold zgs
  have hw : w64 (n - (xs.length : Int)) = n - xs.length := zai (by unfold maxi at hl; omega) (by omega)
  have hb : (Bk.bulk xs : Int) = xs.length + sumB Bk.bulk xs := by simp [Bk.bulk]
  simp only [hw, jn, zak]
  by_cases h : n - (xs.length : Int) < 0
  · rw [decide_eq_true h, cond_true, if_neg (by omega)]
  · rw [decide_eq_false h, cond_false]
    rw [zld (α := Commit) (xs := xs) (b := Bk.bulk) (N := 1048576) (r0 := some (-1)) (Z := fun a => some a) (f := fun m a i => zd1 xs (fun y2 _ _ => some y2) m a 0 i) (fun m a i x hx ha hA => by
      simp only [zd1, zal hx, zaf hx, cond_true, Option.bind_some, zvg (zfY hf hx) ha hA, zac (zau hx) hl]
      by_cases h1 : (Bk.bulk x : Int) ≤ a
      · rw [if_pos h1, decide_eq_false (by omega), cond_false, if_pos h1]
      · rw [if_neg h1, if_neg h1]; rfl) (fun m a => by
      simp only [zd1, zad, cond_false]) (by omega) (by omega) (by omega)]
    by_cases h2 : (sumB Bk.bulk xs : Int) ≤ n - xs.length
    · rw [if_pos h2, if_pos (by omega), hb]; congr 1; omega
    · rw [if_neg h2, if_neg (by omega)]
theorem zxl {x : Head} {n : Int} (hf : Bk.fit x) (h0 : 0 ≤ n) (hN : n ≤ 1048576) : ziS x n = some (if (Bk.bulk x : Int) ≤ n then n - Bk.bulk x else -1) := by
  obtain ⟨f0, f1⟩ := hf
  have hb : Bk.bulk x = Bk.bulk x.Name + (Bk.bulk x.At) := rfl
  have b0 : Bk.bulk x.Name = x.Name.length := rfl
  have g0 : x.Name.length ≤ maxi := f0
  unfold maxi at g0
  have b1 : Bk.bulk x.At = 0 := rfl
  unfold ziS
  have w0 : w64 (n - (x.Name.length : Int)) = n - (x.Name.length : Int) := zai (by omega) (by omega)
  simp only [w0]
  by_cases h0 : n - (x.Name.length : Int) < 0
  case pos => rw [decide_eq_true h0, cond_true, if_neg (by omega)]
  rw [decide_eq_false h0, cond_false]
  rw [if_pos (by omega)]
  congr 1 <;> omega
theorem zv1 {xs : List Head} {n : Int} (hf : Bk.fit xs) (h0 : 0 ≤ n) (hN : n ≤ 1048576) : zh0 xs n = some (if (Bk.bulk xs : Int) ≤ n then n - Bk.bulk xs else -1) := by
  have hl := zb6 hf
  unfold zh0
  have hw : w64 (n - (xs.length : Int)) = n - xs.length := zai (by unfold maxi at hl; omega) (by omega)
  have hb : (Bk.bulk xs : Int) = xs.length + sumB Bk.bulk xs := by simp [Bk.bulk]
  simp only [hw, jn, zak]
  by_cases h : n - (xs.length : Int) < 0
  · rw [decide_eq_true h, cond_true, if_neg (by omega)]
  · rw [decide_eq_false h, cond_false]
    rw [zld (α := Head) (xs := xs) (b := Bk.bulk) (N := 1048576) (r0 := some (-1)) (Z := fun a => some a) (f := fun m a i => zfd xs (fun y2 _ _ => some y2) m a 0 i) (fun m a i x hx ha hA => by
      simp only [zfd, zal hx, zaf hx, cond_true, Option.bind_some, zxl (zfY hf hx) ha hA, zac (zau hx) hl]
      by_cases h1 : (Bk.bulk x : Int) ≤ a
      · rw [if_pos h1, decide_eq_false (by omega), cond_false, if_pos h1]
      · rw [if_neg h1, if_neg h1]; rfl) (fun m a => by
      simp only [zfd, zad, cond_false]) (by omega) (by omega) (by omega)]
    by_cases h2 : (sumB Bk.bulk xs : Int) ≤ n - xs.length
    · rw [if_pos h2, if_pos (by omega), hb]; congr 1; omega
    · rw [if_neg h2, if_neg (by omega)]
theorem zv2 {x : Owner} {n : Int} (hf : Bk.fit x) (h0 : 0 ≤ n) (hN : n ≤ 1048576) : zh6 x n = some (if (Bk.bulk x : Int) ≤ n then n - Bk.bulk x else -1) := by
  obtain ⟨f0, f1⟩ := hf
  have hb : Bk.bulk x = Bk.bulk x.Path + (Bk.bulk x.Who) := rfl
  have b0 : Bk.bulk x.Path = x.Path.length := rfl
  have g0 : x.Path.length ≤ maxi := f0
  unfold maxi at g0
  have b1 : Bk.bulk x.Who = x.Who.length := rfl
  have g1 : x.Who.length ≤ maxi := f1
  unfold maxi at g1
  unfold zh6
  have w0 : w64 (n - (x.Path.length : Int)) = n - (x.Path.length : Int) := zai (by omega) (by omega)
  simp only [w0]
  by_cases h0 : n - (x.Path.length : Int) < 0
  case pos => rw [decide_eq_true h0, cond_true, if_neg (by omega)]
  rw [decide_eq_false h0, cond_false]
  have w1 : w64 (n - (x.Path.length : Int) - (x.Who.length : Int)) = n - (x.Path.length : Int) - (x.Who.length : Int) := zai (by omega) (by omega)
  simp only [w1]
  by_cases h1 : n - (x.Path.length : Int) - (x.Who.length : Int) < 0
  case pos => rw [decide_eq_true h1, cond_true, if_neg (by omega)]
  rw [decide_eq_false h1, cond_false]
  rw [if_pos (by omega)]
  congr 1 <;> omega
theorem zsd {xs : List Owner} {n : Int} (hf : Bk.fit xs) (h0 : 0 ≤ n) (hN : n ≤ 1048576) : zhs xs n = some (if (Bk.bulk xs : Int) ≤ n then n - Bk.bulk xs else -1) := by
  have hl := zb6 hf
  unfold zhs
  have hw : w64 (n - (xs.length : Int)) = n - xs.length := zai (by unfold maxi at hl; omega) (by omega)
  have hb : (Bk.bulk xs : Int) = xs.length + sumB Bk.bulk xs := by simp [Bk.bulk]
  simp only [hw, jn, zak]
  by_cases h : n - (xs.length : Int) < 0
  · rw [decide_eq_true h, cond_true, if_neg (by omega)]
  · rw [decide_eq_false h, cond_false]
    rw [zld (α := Owner) (xs := xs) (b := Bk.bulk) (N := 1048576) (r0 := some (-1)) (Z := fun a => some a) (f := fun m a i => zeK xs (fun y2 _ _ => some y2) m a 0 i) (fun m a i x hx ha hA => by
      simp only [zeK, zal hx, zaf hx, cond_true, Option.bind_some, zv2 (zfY hf hx) ha hA, zac (zau hx) hl]
      by_cases h1 : (Bk.bulk x : Int) ≤ a
      · rw [if_pos h1, decide_eq_false (by omega), cond_false, if_pos h1]
      · rw [if_neg h1, if_neg h1]; rfl) (fun m a => by
      simp only [zeK, zad, cond_false]) (by omega) (by omega) (by omega)]
    by_cases h2 : (sumB Bk.bulk xs : Int) ≤ n - xs.length
    · rw [if_pos h2, if_pos (by omega), hb]; congr 1; omega
    · rw [if_neg h2, if_neg (by omega)]
theorem zrp {x : Repo} {n : Int} (hf : Bk.fit x) (h0 : 0 ≤ n) (hN : n ≤ 1048576) : zhS x n = some (if (Bk.bulk x : Int) ≤ n then n - Bk.bulk x else -1) := by
  obtain ⟨f0, f1⟩ := hf
  have hb : Bk.bulk x = Bk.bulk x.Commits + (Bk.bulk x.Heads) := rfl
  unfold zhS
  rw [ztS f0 (by omega) (by omega), Option.bind_some]
  by_cases h0 : (Bk.bulk x.Commits : Int) ≤ n
  case neg => rw [if_neg h0, if_neg (by omega)]; rfl
  rw [if_pos h0, decide_eq_false (by omega), cond_false]
  rw [zv1 f1 (by omega) (by omega), Option.bind_some]
  by_cases h1 : (Bk.bulk x.Heads : Int) ≤ n - (Bk.bulk x.Commits : Int)
  case neg => rw [if_neg h1, if_neg (by omega)]; rfl
  rw [if_pos h1, decide_eq_false (by omega), cond_false]
  rw [if_pos (by omega)]
  congr 1 <;> omega
theorem zse {x : Review} {n : Int} (hf : Bk.fit x) (h0 : 0 ≤ n) (hN : n ≤ 1048576) : zht x n = some (if (Bk.bulk x : Int) ≤ n then n - Bk.bulk x else -1) := by
  obtain ⟨f0, f1, f2, f3⟩ := hf
  have hb : Bk.bulk x = Bk.bulk x.Branch + (Bk.bulk x.Into + (Bk.bulk x.By + (Bk.bulk x.Yes))) := rfl
  have b0 : Bk.bulk x.Branch = x.Branch.length := rfl
  have g0 : x.Branch.length ≤ maxi := f0
  unfold maxi at g0
  have b1 : Bk.bulk x.Into = x.Into.length := rfl
  have g1 : x.Into.length ≤ maxi := f1
  unfold maxi at g1
  have b2 : Bk.bulk x.By = x.By.length := rfl
  have g2 : x.By.length ≤ maxi := f2
  unfold maxi at g2
  unfold zht
  have w0 : w64 (n - (x.Branch.length : Int)) = n - (x.Branch.length : Int) := zai (by omega) (by omega)
  simp only [w0]
  by_cases h0 : n - (x.Branch.length : Int) < 0
  case pos => rw [decide_eq_true h0, cond_true, if_neg (by omega)]
  rw [decide_eq_false h0, cond_false]
  have w1 : w64 (n - (x.Branch.length : Int) - (x.Into.length : Int)) = n - (x.Branch.length : Int) - (x.Into.length : Int) := zai (by omega) (by omega)
  simp only [w1]
  by_cases h1 : n - (x.Branch.length : Int) - (x.Into.length : Int) < 0
  case pos => rw [decide_eq_true h1, cond_true, if_neg (by omega)]
  rw [decide_eq_false h1, cond_false]
  have w2 : w64 (n - (x.Branch.length : Int) - (x.Into.length : Int) - (x.By.length : Int)) = n - (x.Branch.length : Int) - (x.Into.length : Int) - (x.By.length : Int) := zai (by omega) (by omega)
  simp only [w2]
  by_cases h2 : n - (x.Branch.length : Int) - (x.Into.length : Int) - (x.By.length : Int) < 0
  case pos => rw [decide_eq_true h2, cond_true, if_neg (by omega)]
  rw [decide_eq_false h2, cond_false]
  rw [zqA f3 (by omega) (by omega), Option.bind_some]
  by_cases h3 : (Bk.bulk x.Yes : Int) ≤ n - (x.Branch.length : Int) - (x.Into.length : Int) - (x.By.length : Int)
  case neg => rw [if_neg h3, if_neg (by omega)]; rfl
  rw [if_pos h3, decide_eq_false (by omega), cond_false]
  rw [if_pos (by omega)]
  congr 1 <;> omega
theorem zxm {xs : List Int} (h : Bk.bulk xs ≤ 1048576) : ziT xs = some xs := by
  have hl := zcT h
  unfold ziT
  simp only [zgO (zpJ hl), jn, zak, Option.bind_some]
  rw [zkc (g := id) (Z := fun ys => some ys) (f := fun m i out => zfE xs (fun _ y6 => some y6) m i out) (fun m i x out hx ho => by
    have hi := zau hx
    simp only [zfE, zal hx, zaf hx, cond_true, Option.bind_some, zac hi (zas hl), zbG (show i < out.length by omega), zaf (List.getElem?_eq_getElem (show i < out.length by omega)), id]) (fun m out => by
    simp only [zfE, zad, cond_false]) (by omega)]
  simp
theorem zqB {xs : List Str} (h : Bk.bulk xs ≤ 1048576) : zee xs = some xs := by
  have hl := zcT h
  unfold zee
  simp only [zgO (zpJ hl), jn, zak, Option.bind_some]
  rw [zkc (g := id) (Z := fun ys => some ys) (f := fun m i out => zcf xs (fun _ y6 => some y6) m i out) (fun m i x out hx ho => by
    have hi := zau hx
    simp only [zcf, zal hx, zaf hx, cond_true, Option.bind_some, zac hi (zas hl), zbG (show i < out.length by omega), zaf (List.getElem?_eq_getElem (show i < out.length by omega)), id]) (fun m out => by
    simp only [zcf, zad, cond_false]) (by omega)]
  simp
theorem zxn {x : File} (h : Bk.bulk x ≤ 1048576) : ziU x = some x := by
  have hb : Bk.bulk x = Bk.bulk x.Path + (Bk.bulk x.Text) := rfl
  unfold ziU
  simp only [zqB (show Bk.bulk x.Text ≤ 1048576 by omega), Option.bind_some]
theorem zv3 {xs : List File} (h : Bk.bulk xs ≤ 1048576) : zh1 xs = some xs := by
  have hl := zcT h
  unfold zh1
  simp only [zgO (zpJ hl), jn, zak, Option.bind_some]
  rw [zkc (g := id) (Z := fun ys => some ys) (f := fun m i out => zfe xs (fun _ y6 => some y6) m i out) (fun m i x out hx ho => by
    have hi := zau hx
    simp only [zfe, zal hx, zaf hx, cond_true, Option.bind_some, zxn (zq9 h hx), zac hi (zas hl), zbG (show i < out.length by omega), zaf (List.getElem?_eq_getElem (show i < out.length by omega)), id]) (fun m out => by
    simp only [zfe, zad, cond_false]) (by omega)]
  simp
theorem zvh {x : Commit} (h : Bk.bulk x ≤ 1048576) : zhn x = some x := by
  have hb : Bk.bulk x = Bk.bulk x.Parents + (Bk.bulk x.Who + (Bk.bulk x.Tree)) := rfl
  unfold zhn
  simp only [zxm (show Bk.bulk x.Parents ≤ 1048576 by omega), zv3 (show Bk.bulk x.Tree ≤ 1048576 by omega), Option.bind_some]
theorem ztT {xs : List Commit} (h : Bk.bulk xs ≤ 1048576) : zgt xs = some xs := by
  have hl := zcT h
  unfold zgt
  simp only [zgO (zpJ hl), jn, zak, Option.bind_some]
  rw [zkc (g := id) (Z := fun ys => some ys) (f := fun m i out => zd2 xs (fun _ y6 => some y6) m i out) (fun m i x out hx ho => by
    have hi := zau hx
    simp only [zd2, zal hx, zaf hx, cond_true, Option.bind_some, zvh (zq9 h hx), zac hi (zas hl), zbG (show i < out.length by omega), zaf (List.getElem?_eq_getElem (show i < out.length by omega)), id]) (fun m out => by
    simp only [zd2, zad, cond_false]) (by omega)]
  simp
theorem zxo {x : Head} (h : Bk.bulk x ≤ 1048576) : ziV x = some x := by
  have hb : Bk.bulk x = Bk.bulk x.Name + (Bk.bulk x.At) := rfl
  unfold ziV
  rfl
theorem zv4 {xs : List Head} (h : Bk.bulk xs ≤ 1048576) : zh2 xs = some xs := by
  have hl := zcT h
  unfold zh2
  simp only [zgO (zpJ hl), jn, zak, Option.bind_some]
  rw [zkc (g := id) (Z := fun ys => some ys) (f := fun m i out => zff xs (fun _ y6 => some y6) m i out) (fun m i x out hx ho => by
    have hi := zau hx
    simp only [zff, zal hx, zaf hx, cond_true, Option.bind_some, zxo (zq9 h hx), zac hi (zas hl), zbG (show i < out.length by omega), zaf (List.getElem?_eq_getElem (show i < out.length by omega)), id]) (fun m out => by
    simp only [zff, zad, cond_false]) (by omega)]
  simp
theorem zv5 {x : Owner} (h : Bk.bulk x ≤ 1048576) : zh7 x = some x := by
  have hb : Bk.bulk x = Bk.bulk x.Path + (Bk.bulk x.Who) := rfl
  unfold zh7
  rfl
theorem zsf {xs : List Owner} (h : Bk.bulk xs ≤ 1048576) : zeU xs = some xs := by
  have hl := zcT h
  unfold zeU
  simp only [zgO (zpJ hl), jn, zak, Option.bind_some]
  rw [zkc (g := id) (Z := fun ys => some ys) (f := fun m i out => zeL xs (fun _ y6 => some y6) m i out) (fun m i x out hx ho => by
    have hi := zau hx
    simp only [zeL, zal hx, zaf hx, cond_true, Option.bind_some, zv5 (zq9 h hx), zac hi (zas hl), zbG (show i < out.length by omega), zaf (List.getElem?_eq_getElem (show i < out.length by omega)), id]) (fun m out => by
    simp only [zeL, zad, cond_false]) (by omega)]
  simp
theorem zrq {x : Repo} (h : Bk.bulk x ≤ 1048576) : zd3 x = some x := by
  have hb : Bk.bulk x = Bk.bulk x.Commits + (Bk.bulk x.Heads) := rfl
  unfold zd3
  simp only [ztT (show Bk.bulk x.Commits ≤ 1048576 by omega), zv4 (show Bk.bulk x.Heads ≤ 1048576 by omega), Option.bind_some]
theorem zsg {x : Review} (h : Bk.bulk x ≤ 1048576) : zeV x = some x := by
  have hb : Bk.bulk x = Bk.bulk x.Branch + (Bk.bulk x.Into + (Bk.bulk x.By + (Bk.bulk x.Yes))) := rfl
  unfold zeV
  simp only [zqB (show Bk.bulk x.Yes ≤ 1048576 by omega), Option.bind_some]
theorem zxp {xs ys : List Int} (h : Bk.fit xs) : ziW xs ys = some (xs == ys) := by
  have hl := zb6 h
  unfold ziW
  simp only [ziO, jn, zak]
  by_cases hn : xs.length = ys.length
  · rw [hn, beq_self_eq_true, Bool.not_true, cond_false, ← hn]
    rw [ziN (α := Int) (r0 := some false) (Z := some true) (f := fun m i => zfH xs ys (fun _ _ => some true) m false i) hn (fun m i x y hx hy => by
      simp only [zfH, zal hx, zaf hx, zaf hy, cond_true, Option.bind_some, zac (zau hx) hl, bne]
      cases x == y <;> rfl) (fun m => by simp only [zfH, zad, cond_false]) (by omega)]
    cases xs == ys <;> rfl
  · rw [beq_false_of_ne hn, Bool.not_false, cond_true, beq_false_of_ne (fun e => hn (by rw [e]))]
theorem zm3 {xs ys : List Str} (h : Bk.fit xs) : zcI xs ys = some (xs == ys) := by
  have hl := zb6 h
  unfold zcI
  simp only [ziO, jn, zak]
  by_cases hn : xs.length = ys.length
  · rw [hn, beq_self_eq_true, Bool.not_true, cond_false, ← hn]
    rw [ziN (α := Str) (r0 := some false) (Z := some true) (f := fun m i => zcr xs ys (fun _ _ => some true) m false i) hn (fun m i x y hx hy => by
      simp only [zcr, zal hx, zaf hx, zaf hy, cond_true, Option.bind_some, zac (zau hx) hl, bne]
      cases x == y <;> rfl) (fun m => by simp only [zcr, zad, cond_false]) (by omega)]
    cases xs == ys <;> rfl
  · rw [beq_false_of_ne hn, Bool.not_false, cond_true, beq_false_of_ne (fun e => hn (by rw [e]))]
theorem zxq {x y : File} (h : Bk.fit x) : ziX x y = some (x == y) := by
  obtain ⟨f0, f1⟩ := h
  unfold ziX
  simp only [zm3 f1, Option.bind_some, bne]
  obtain ⟨a0, a1⟩ := x
  obtain ⟨b0, b1⟩ := y
  have : ((⟨a0, a1⟩ : File) == ⟨b0, b1⟩) = (a0 == b0 && (a1 == b1)) := by
    have hb : ∀ b c : Bool, (b = true ↔ c = true) → b = c := by decide
    apply hb
    simp
  rw [this]
  cases a0 == b0 <;> cases a1 == b1 <;> rfl
theorem zv6 {xs ys : List File} (h : Bk.fit xs) : zh3 xs ys = some (xs == ys) := by
  have hl := zb6 h
  unfold zh3
  simp only [ziO, jn, zak]
  by_cases hn : xs.length = ys.length
  · rw [hn, beq_self_eq_true, Bool.not_true, cond_false, ← hn]
    rw [ziN (α := File) (r0 := some false) (Z := some true) (f := fun m i => zfh xs ys (fun _ _ => some true) m false i) hn (fun m i x y hx hy => by
      simp only [zfh, zal hx, zaf hx, zaf hy, cond_true, Option.bind_some, zac (zau hx) hl, zxq (zfY h hx)]
      cases x == y <;> rfl) (fun m => by simp only [zfh, zad, cond_false]) (by omega)]
    cases xs == ys <;> rfl
  · rw [beq_false_of_ne hn, Bool.not_false, cond_true, beq_false_of_ne (fun e => hn (by rw [e]))]
theorem zvi {x y : Commit} (h : Bk.fit x) : zho x y = some (x == y) := by
  obtain ⟨f0, f1, f2⟩ := h
  unfold zho
  simp only [zxp f0, zv6 f2, Option.bind_some, bne]
  obtain ⟨a0, a1, a2⟩ := x
  obtain ⟨b0, b1, b2⟩ := y
  have : ((⟨a0, a1, a2⟩ : Commit) == ⟨b0, b1, b2⟩) = (a0 == b0 && (a1 == b1 && (a2 == b2))) := by
    have hb : ∀ b c : Bool, (b = true ↔ c = true) → b = c := by decide
    apply hb
    simp
  rw [this]
  cases a0 == b0 <;> cases a1 == b1 <;> cases a2 == b2 <;> rfl
theorem ztU {xs ys : List Commit} (h : Bk.fit xs) : zgv xs ys = some (xs == ys) := by
  have hl := zb6 h
  unfold zgv
  simp only [ziO, jn, zak]
  by_cases hn : xs.length = ys.length
  · rw [hn, beq_self_eq_true, Bool.not_true, cond_false, ← hn]
    rw [ziN (α := Commit) (r0 := some false) (Z := some true) (f := fun m i => zd7 xs ys (fun _ _ => some true) m false i) hn (fun m i x y hx hy => by
      simp only [zd7, zal hx, zaf hx, zaf hy, cond_true, Option.bind_some, zac (zau hx) hl, zvi (zfY h hx)]
      cases x == y <;> rfl) (fun m => by simp only [zd7, zad, cond_false]) (by omega)]
    cases xs == ys <;> rfl
  · rw [beq_false_of_ne hn, Bool.not_false, cond_true, beq_false_of_ne (fun e => hn (by rw [e]))]
theorem zxr {x y : Head} (h : Bk.fit x) : ziY x y = some (x == y) := by
  obtain ⟨f0, f1⟩ := h
  unfold ziY
  simp only [Option.bind_some, bne]
  obtain ⟨a0, a1⟩ := x
  obtain ⟨b0, b1⟩ := y
  have : ((⟨a0, a1⟩ : Head) == ⟨b0, b1⟩) = (a0 == b0 && (a1 == b1)) := by
    have hb : ∀ b c : Bool, (b = true ↔ c = true) → b = c := by decide
    apply hb
    simp
  rw [this]
  cases a0 == b0 <;> cases a1 == b1 <;> rfl
theorem zv7 {xs ys : List Head} (h : Bk.fit xs) : zh4 xs ys = some (xs == ys) := by
  have hl := zb6 h
  unfold zh4
  simp only [ziO, jn, zak]
  by_cases hn : xs.length = ys.length
  · rw [hn, beq_self_eq_true, Bool.not_true, cond_false, ← hn]
    rw [ziN (α := Head) (r0 := some false) (Z := some true) (f := fun m i => zfi xs ys (fun _ _ => some true) m false i) hn (fun m i x y hx hy => by
      simp only [zfi, zal hx, zaf hx, zaf hy, cond_true, Option.bind_some, zac (zau hx) hl, zxr (zfY h hx)]
      cases x == y <;> rfl) (fun m => by simp only [zfi, zad, cond_false]) (by omega)]
    cases xs == ys <;> rfl
  · rw [beq_false_of_ne hn, Bool.not_false, cond_true, beq_false_of_ne (fun e => hn (by rw [e]))]
theorem zv8 {x y : Owner} (h : Bk.fit x) : zib x y = some (x == y) := by
  obtain ⟨f0, f1⟩ := h
  unfold zib
  simp only [Option.bind_some, bne]
  obtain ⟨a0, a1⟩ := x
  obtain ⟨b0, b1⟩ := y
  have : ((⟨a0, a1⟩ : Owner) == ⟨b0, b1⟩) = (a0 == b0 && (a1 == b1)) := by
    have hb : ∀ b c : Bool, (b = true ↔ c = true) → b = c := by decide
    apply hb
    simp
  rw [this]
  cases a0 == b0 <;> cases a1 == b1 <;> rfl
theorem zsh {xs ys : List Owner} (h : Bk.fit xs) : zhv xs ys = some (xs == ys) := by
  have hl := zb6 h
  unfold zhv
  simp only [ziO, jn, zak]
  by_cases hn : xs.length = ys.length
  · rw [hn, beq_self_eq_true, Bool.not_true, cond_false, ← hn]
    rw [ziN (α := Owner) (r0 := some false) (Z := some true) (f := fun m i => zeM xs ys (fun _ _ => some true) m false i) hn (fun m i x y hx hy => by
      simp only [zeM, zal hx, zaf hx, zaf hy, cond_true, Option.bind_some, zac (zau hx) hl, zv8 (zfY h hx)]
      cases x == y <;> rfl) (fun m => by simp only [zeM, zad, cond_false]) (by omega)]
    cases xs == ys <;> rfl
  · rw [beq_false_of_ne hn, Bool.not_false, cond_true, beq_false_of_ne (fun e => hn (by rw [e]))]
theorem zoz {x y : Repo} (h : Bk.fit x) : zfI x y = some (x == y) := by
  obtain ⟨f0, f1⟩ := h
  unfold zfI
  simp only [ztU f0, zv7 f1, Option.bind_some, bne]
  obtain ⟨a0, a1⟩ := x
  obtain ⟨b0, b1⟩ := y
  have : ((⟨a0, a1⟩ : Repo) == ⟨b0, b1⟩) = (a0 == b0 && (a1 == b1)) := by
    have hb : ∀ b c : Bool, (b = true ↔ c = true) → b = c := by decide
    apply hb
    simp
  rw [this]
  cases a0 == b0 <;> cases a1 == b1 <;> rfl
theorem zsi {x y : Review} (h : Bk.fit x) : zhw x y = some (x == y) := by
  obtain ⟨f0, f1, f2, f3⟩ := h
  unfold zhw
  simp only [zm3 f3, Option.bind_some, bne]
  obtain ⟨a0, a1, a2, a3⟩ := x
  obtain ⟨b0, b1, b2, b3⟩ := y
  have : ((⟨a0, a1, a2, a3⟩ : Review) == ⟨b0, b1, b2, b3⟩) = (a0 == b0 && (a1 == b1 && (a2 == b2 && (a3 == b3)))) := by
    have hb : ∀ b c : Bool, (b = true ↔ c = true) → b = c := by decide
    apply hb
    simp
  rw [this]
  cases a0 == b0 <;> cases a1 == b1 <;> cases a2 == b2 <;> cases a3 == b3 <;> rfl
theorem zy8 {k : Int} (h : 0 < k) : 0 ≤ Int.tdiv k 10 ∧ Int.tdiv k 10 ≤ k - 1 ∧ 0 ≤ Int.tmod k 10 ∧ Int.tmod k 10 ≤ 9 := by
  obtain ⟨n, rfl⟩ := Int.eq_ofNat_of_zero_le (show 0 ≤ k by omega)
  have h1 : Int.tdiv (n : Int) 10 = ((n / 10 : Nat) : Int) := rfl
  have h2 : Int.tmod (n : Int) 10 = ((n % 10 : Nat) : Int) := rfl
  rw [h1, h2]
  omega
theorem zlE {K : Int → Str → Option Str} (hK : ∀ (k : Int) (s : Str), s.length ≤ 1073741824 → ∃ t, K k s = some t ∧ t.length ≤ 2000000000) :
    ∀ (m : Nat) (k : Int) (out : Str), 0 ≤ k → k < m → out.length + k ≤ 1073741824 → ∃ t, zdU K m k out = some t ∧ t.length ≤ 2000000000
  | 0, k, out, h0, hm, hl => by omega
  | m + 1, k, out, h0, hm, hl => by
    simp only [zdU]
    by_cases hk : 0 < k
    · obtain ⟨h1, h2, h3, h4⟩ := zy8 hk
      have hs : saM (([(by8 (w64 (48 + (Int.tmod k 10))))] : List zlK) : Str) out = some ((by8 (w64 (48 + (Int.tmod k 10)))) :: out) := by
        unfold saM
        rw [if_pos]
        · rfl
        · show 1 + out.length ≤ 4294967296
          omega
      rw [decide_eq_true hk, cond_true, hs, Option.bind_some, zai (by omega) (by omega)]
      exact zlE hK m _ _ h1 (by omega) (by simp only [List.length_append, List.length_cons, List.length_nil]; omega)
    · rw [decide_eq_false hk, cond_false]
      exact hK k out (by omega)
/-- The text of a mark. -/
def mt (k : Int) : Str := ((za0 k).getD []).take 2000000000
theorem zfM {k : Int} (h0 : 0 ≤ k) (hN : k ≤ 536870912) : za0 k = some (mt k) := by
  have : ∃ t, za0 k = some t ∧ t.length ≤ 2000000000 := by
    unfold za0
    by_cases hk : k ≤ 0
    · rw [decide_eq_true hk]; exact ⟨_, rfl, by simp⟩
    · rw [decide_eq_false hk, cond_false]
      simp only [jn]
      refine zlE (fun k s hs => ?_) _ k _ h0 (by omega) (by simp; omega)
      refine ⟨[109] ++ s, ?_, by simp; omega⟩
      have : saM ([109] : Str) s = some ([109] ++ s) := by
        unfold saM
        rw [if_pos]
        simp only [List.length_cons, List.length_nil, lim]
        omega
      rw [this, Option.bind_some]
  obtain ⟨t, ht, hl⟩ := this
  unfold mt
  rw [ht]
  show some t = some (t.take 2000000000)
  rw [List.take_of_length_le hl]
def mb (k : Int) : Bool := Int.tmod k 3 == 0
def zfb : MkD Str := MkD.one mt
def zfN : MkD Int := MkD.one (fun k => k)
def zwz : MkD Bool := MkD.one mb
theorem zo5 (xs : List Str) : zfb.list.cn xs = xs.length := by
  show sumB (fun _ => 1) xs = xs.length
  induction xs with
  | nil => rfl
  | cons y ys ih => simp only [sumB, ih, List.length_cons]; omega
theorem zix : zfb.Fits := MkD.fits_one fun k _ _ => by
  show (((za0 k).getD []).take 2000000000).length ≤ maxi
  rw [List.length_take]
  unfold maxi
  omega
theorem zsj : zfN.Fits := MkD.fits_one fun k h0 hN => ⟨by omega, by omega⟩
theorem zx9 : zwz.Fits := MkD.fits_one fun _ _ _ => trivial
theorem zkg : zfb.Few 1 := MkD.few_one
theorem zsk : zfN.Few 1 := MkD.few_one
theorem zya : zwz.Few 1 := MkD.few_one
def zeu : MkD File := MkD.via (MkD.pair zfb zfb.list) (fun x => (x.Path, x.Text)) (fun p => ⟨p.1, p.2⟩) (fun _ => rfl)
theorem zsX : zeu.Fits := MkD.fits_via (MkD.fits_pair zix (MkD.fits_list zix)) (fun _ h => h) (fun _ h => h)
theorem zsY : zeu.Few 2 := MkD.few_via (MkD.few_pair zkg (MkD.few_list zkg)) (fun _ => rfl)
def zba : MkD Commit := MkD.via (MkD.pair zfN.list (MkD.pair zfb zeu.list)) (fun x => (x.Parents, (x.Who, x.Tree))) (fun p => ⟨p.1, p.2.1, p.2.2⟩) (fun _ => rfl)
theorem zrr : zba.Fits := MkD.fits_via (MkD.fits_pair (MkD.fits_list zsj) (MkD.fits_pair zix (MkD.fits_list zsX))) (fun _ h => h) (fun _ h => h)
theorem zrs : zba.Few 4 := MkD.few_via (MkD.few_pair (MkD.few_list zsk) (MkD.few_pair zkg (MkD.few_list zsY))) (fun _ => rfl)
theorem zvj {xs : List Int} {k : Int} (h0 : 0 ≤ k) (hN : k + zfN.list.cn xs ≤ 536870912) (hf : Bk.fit xs) : zhp xs k = some (zfN.list.wr k xs) := by
  unfold zhp
  simp only [jn, zak]
  rw [zkd (xs := xs) (g := zfN.wr) (b := zfN.cn) (N := 536870912) (Z := fun k out => some (k, out)) (f := fun m k i out => zeH (fun y1 _ y3 => some (y1, y3)) m k i out) zfN.fst (fun m k i x out hx ho hlen hk hkN => by
    have hi := zau hx
    have hi' : i < out.length := by omega
    have ei := zac hi (zb6 hf)
    have hc : k + 1 ≤ 536870912 := hkN
    simp only [zeH, zal ho, cond_true, Option.bind_some, zaf ho, zbG hi', zaf (setAt hi'), zbG (show i < (out.set i _).length by simpa using hi'), List.set_set, ei, zai (show -9223372036854775808 ≤ k + 1 by omega) (show k + 1 ≤ 9223372036854775807 by omega), zai (show -9223372036854775808 ≤ k by omega) (show k ≤ 9223372036854775807 by omega)]
    try rfl) (fun m k out hl => by
    simp only [zeH, ← hl, zad, cond_false]) (by omega) h0 hN]
  rfl
theorem zkB {xs : List Str} {k : Int} (h0 : 0 ≤ k) (hN : k + zfb.list.cn xs ≤ 536870912) (hf : Bk.fit xs) : zb8 xs k = some (zfb.list.wr k xs) := by
  unfold zb8
  simp only [jn, zak]
  rw [zkd (xs := xs) (g := zfb.wr) (b := zfb.cn) (N := 536870912) (Z := fun k out => some (k, out)) (f := fun m k i out => zbH (fun y1 _ y3 => some (y1, y3)) m k i out) zfb.fst (fun m k i x out hx ho hlen hk hkN => by
    have hi := zau hx
    have hi' : i < out.length := by omega
    have ei := zac hi (zb6 hf)
    have hc : k + 1 ≤ 536870912 := hkN
    simp only [zbH, zal ho, cond_true, Option.bind_some, zaf ho, zbG hi', zaf (setAt hi'), zbG (show i < (out.set i _).length by simpa using hi'), List.set_set, ei, zfM hk (by omega), zai (show -9223372036854775808 ≤ k + 1 by omega) (show k + 1 ≤ 9223372036854775807 by omega)]
    try rfl) (fun m k out hl => by
    simp only [zbH, ← hl, zad, cond_false]) (by omega) h0 hN]
  rfl
theorem ztV {xs : List File} {k : Int} (h0 : 0 ≤ k) (hN : k + zeu.list.cn xs ≤ 536870912) (hf : Bk.fit xs) : zgw xs k = some (zeu.list.wr k xs) := by
  unfold zgw
  simp only [jn, zak]
  rw [zkd (xs := xs) (g := zeu.wr) (b := zeu.cn) (N := 536870912) (Z := fun k out => some (k, out)) (f := fun m k i out => zd8 (fun y1 _ y3 => some (y1, y3)) m k i out) zeu.fst (fun m k i x out hx ho hlen hk hkN => by
    have hi := zau hx
    have hi' : i < out.length := by omega
    have ei := zac hi (zb6 hf)
    have hc : zeu.cn x = 1 + (zfb.list.cn x.Text) := rfl
    have e1 := zfb.list.fst (k + 1) x.Text
    obtain ⟨f0, f1⟩ := zfY hf hx
    simp only [zd8, zal ho, cond_true, Option.bind_some, zaf ho, zbG hi', zaf (setAt hi'), zbG (show i < (out.set i _).length by simpa using hi'), List.set_set, ei, zfM (show 0 ≤ k by omega) (show k ≤ 536870912 by omega), zai (show -9223372036854775808 ≤ k + 1 by omega) (show k + 1 ≤ 9223372036854775807 by omega), zkB (k := k + 1) (show 0 ≤ k + 1 by omega) (show k + 1 + zfb.list.cn x.Text ≤ 536870912 by omega) f1]
    try rfl) (fun m k out hl => by
    simp only [zd8, ← hl, zad, cond_false]) (by omega) h0 hN]
  rfl
theorem zsl {xs : List Commit} {k : Int} (h0 : 0 ≤ k) (hN : k + zba.list.cn xs ≤ 536870912) (hf : Bk.fit xs) : zfp xs k = some (zba.list.wr k xs) := by
  unfold zfp
  simp only [jn, zak]
  rw [zkd (xs := xs) (g := zba.wr) (b := zba.cn) (N := 536870912) (Z := fun k out => some (k, out)) (f := fun m k i out => zdj (fun y1 _ y3 => some (y1, y3)) m k i out) zba.fst (fun m k i x out hx ho hlen hk hkN => by
    have hi := zau hx
    have hi' : i < out.length := by omega
    have ei := zac hi (zb6 hf)
    have hc : zba.cn x = zfN.list.cn x.Parents + (1 + (zeu.list.cn x.Tree)) := rfl
    have e0 := zfN.list.fst (k) x.Parents
    have e2 := zeu.list.fst ((zfN.list.wr (k) x.Parents).1 + 1) x.Tree
    obtain ⟨f0, f1, f2⟩ := zfY hf hx
    simp only [zdj, zal ho, cond_true, Option.bind_some, zaf ho, zbG hi', zaf (setAt hi'), zbG (show i < (out.set i _).length by simpa using hi'), List.set_set, ei, zvj (k := k) (show 0 ≤ k by omega) (show k + zfN.list.cn x.Parents ≤ 536870912 by omega) f0, zfM (show 0 ≤ (zfN.list.wr (k) x.Parents).1 by omega) (show (zfN.list.wr (k) x.Parents).1 ≤ 536870912 by omega), zai (show -9223372036854775808 ≤ (zfN.list.wr (k) x.Parents).1 + 1 by omega) (show (zfN.list.wr (k) x.Parents).1 + 1 ≤ 9223372036854775807 by omega), ztV (k := (zfN.list.wr (k) x.Parents).1 + 1) (show 0 ≤ (zfN.list.wr (k) x.Parents).1 + 1 by omega) (show (zfN.list.wr (k) x.Parents).1 + 1 + zeu.list.cn x.Tree ≤ 536870912 by omega) f2]
    try rfl) (fun m k out hl => by
    simp only [zdj, ← hl, zad, cond_false]) (by omega) h0 hN]
  rfl
def zev : MkD Head := MkD.via (MkD.pair zfb zfN) (fun x => (x.Name, x.At)) (fun p => ⟨p.1, p.2⟩) (fun _ => rfl)
theorem zsZ : zev.Fits := MkD.fits_via (MkD.fits_pair zix zsj) (fun _ h => h) (fun _ h => h)
theorem zs0 : zev.Few 2 := MkD.few_via (MkD.few_pair zkg zsk) (fun _ => rfl)
theorem ztW {xs : List Head} {k : Int} (h0 : 0 ≤ k) (hN : k + zev.list.cn xs ≤ 536870912) (hf : Bk.fit xs) : zgx xs k = some (zev.list.wr k xs) := by
  unfold zgx
  simp only [jn, zak]
  rw [zkd (xs := xs) (g := zev.wr) (b := zev.cn) (N := 536870912) (Z := fun k out => some (k, out)) (f := fun m k i out => zd9 (fun y1 _ y3 => some (y1, y3)) m k i out) zev.fst (fun m k i x out hx ho hlen hk hkN => by
    have hi := zau hx
    have hi' : i < out.length := by omega
    have ei := zac hi (zb6 hf)
    have hc : zev.cn x = 1 + (1) := rfl
    obtain ⟨f0, f1⟩ := zfY hf hx
    simp only [zd9, zal ho, cond_true, Option.bind_some, zaf ho, zbG hi', zaf (setAt hi'), zbG (show i < (out.set i _).length by simpa using hi'), List.set_set, ei, zfM (show 0 ≤ k by omega) (show k ≤ 536870912 by omega), zai (show -9223372036854775808 ≤ k + 1 by omega) (show k + 1 ≤ 9223372036854775807 by omega), zai (show -9223372036854775808 ≤ k + 1 by omega) (show k + 1 ≤ 9223372036854775807 by omega), zai (show -9223372036854775808 ≤ k + 1 + 1 by omega) (show k + 1 + 1 ≤ 9223372036854775807 by omega)]
    try rfl) (fun m k out hl => by
    simp only [zd9, ← hl, zad, cond_false]) (by omega) h0 hN]
  rfl
def zfj : MkD Owner := MkD.via (MkD.pair zfb zfb) (fun x => (x.Path, x.Who)) (fun p => ⟨p.1, p.2⟩) (fun _ => rfl)
theorem zwA : zfj.Fits := MkD.fits_via (MkD.fits_pair zix zix) (fun _ h => h) (fun _ h => h)
theorem zoP : zfj.Few 2 := MkD.few_via (MkD.few_pair zkg zkg) (fun _ => rfl)
theorem zp1 {xs : List Owner} {k : Int} (h0 : 0 ≤ k) (hN : k + zfj.list.cn xs ≤ 536870912) (hf : Bk.fit xs) : zfZ xs k = some (zfj.list.wr k xs) := by
  unfold zfZ
  simp only [jn, zak]
  rw [zkd (xs := xs) (g := zfj.wr) (b := zfj.cn) (N := 536870912) (Z := fun k out => some (k, out)) (f := fun m k i out => zdQ (fun y1 _ y3 => some (y1, y3)) m k i out) zfj.fst (fun m k i x out hx ho hlen hk hkN => by
    have hi := zau hx
    have hi' : i < out.length := by omega
    have ei := zac hi (zb6 hf)
    have hc : zfj.cn x = 1 + (1) := rfl
    obtain ⟨f0, f1⟩ := zfY hf hx
    simp only [zdQ, zal ho, cond_true, Option.bind_some, zaf ho, zbG hi', zaf (setAt hi'), zbG (show i < (out.set i _).length by simpa using hi'), List.set_set, ei, zfM (show 0 ≤ k by omega) (show k ≤ 536870912 by omega), zai (show -9223372036854775808 ≤ k + 1 by omega) (show k + 1 ≤ 9223372036854775807 by omega), zfM (show 0 ≤ k + 1 by omega) (show k + 1 ≤ 536870912 by omega), zai (show -9223372036854775808 ≤ k + 1 + 1 by omega) (show k + 1 + 1 ≤ 9223372036854775807 by omega)]
    try rfl) (fun m k out hl => by
    simp only [zdQ, ← hl, zad, cond_false]) (by omega) h0 hN]
  rfl
def zbA : MkD Repo := MkD.via (MkD.pair zba.list zev.list) (fun x => (x.Commits, x.Heads)) (fun p => ⟨p.1, p.2⟩) (fun _ => rfl)
theorem zp2 : zbA.Fits := MkD.fits_via (MkD.fits_pair (MkD.fits_list zrr) (MkD.fits_list zsZ)) (fun _ h => h) (fun _ h => h)
theorem ziZ : zbA.Few 6 := MkD.few_via (MkD.few_pair (MkD.few_list zrs) (MkD.few_list zs0)) (fun _ => rfl)
theorem zlh {x : Repo} {k : Int} (hk : 0 ≤ k) (hkN : k + zbA.cn x ≤ 536870912)(hf : Bk.fit x) : zfw x k = some (zbA.wr k x) := by
  unfold zfw
  have hc : zbA.cn x = zba.list.cn x.Commits + (zev.list.cn x.Heads) := rfl
  have e0 := zba.list.fst (k) x.Commits
  have e1 := zev.list.fst ((zba.list.wr (k) x.Commits).1) x.Heads
  obtain ⟨f0, f1⟩ := hf
  simp only [Option.bind_some, zsl (k := k) (show 0 ≤ k by omega) (show k + zba.list.cn x.Commits ≤ 536870912 by omega) f0, ztW (k := (zba.list.wr (k) x.Commits).1) (show 0 ≤ (zba.list.wr (k) x.Commits).1 by omega) (show (zba.list.wr (k) x.Commits).1 + zev.list.cn x.Heads ≤ 536870912 by omega) f1]
  try rfl
def zhg : MkD Review := MkD.via (MkD.pair MkD.keep (MkD.pair MkD.keep (MkD.pair MkD.keep zfb.list))) (fun x => (x.Branch, (x.Into, (x.By, x.Yes)))) (fun p => ⟨p.1, p.2.1, p.2.2.1, p.2.2.2⟩) (fun _ => rfl)
theorem zv9 : zhg.Fits := MkD.fits_via (MkD.fits_pair MkD.fits_keep (MkD.fits_pair MkD.fits_keep (MkD.fits_pair MkD.fits_keep (MkD.fits_list zix)))) (fun _ h => h) (fun _ h => h)
theorem zwa : zhg.Few 1 := MkD.few_via (MkD.few_pair MkD.few_keep (MkD.few_pair MkD.few_keep (MkD.few_pair MkD.few_keep (MkD.few_list zkg)))) (fun _ => rfl)
theorem zp3 {x : Review} {k : Int} (hk : 0 ≤ k) (hkN : k + zhg.cn x ≤ 536870912)(hf : Bk.fit x) : zf0 x k = some (zhg.wr k x) := by
  unfold zf0
  have hc : zhg.cn x = 0 + (0 + (0 + (zfb.list.cn x.Yes))) := rfl
  have e3 := zfb.list.fst (k) x.Yes
  obtain ⟨f0, f1, f2, f3⟩ := hf
  simp only [Option.bind_some, zkB (k := k) (show 0 ≤ k by omega) (show k + zfb.list.cn x.Yes ≤ 536870912 by omega) f3]
  try rfl
theorem zvk {xs : List Int} {k : Int} (hH : zfN.list.Held k xs) (h0 : 0 ≤ k) (hN : k + zfN.list.cn xs ≤ 536870912) (hf : Bk.fit xs) : zhr xs k = some (zfN.list.wr k xs).1 := by
  have hh := MkD.list_held zfN hH
  unfold zhr
  simp only [jn, zak]
  rw [zle (xs := xs) (q := zfN.Held) (b := zfN.cn) (N := 536870912) (Z := fun k => some k) (f := fun m k i => zeJ xs (fun y1 _ _ => some y1) m k 0 i) (fun m k i x hx hq hk hkN => by
    have hi := zau hx
    have ei := zac hi (zb6 hf)
    rw [← zfN.fst k x]
    have hc : k + 1 ≤ 536870912 := hkN
    have q0 : k = x := hq
    simp only [zeJ, zal hx, cond_true, Option.bind_some, zaf hx, ei, bne_self_eq_false, cond_false, zai (show -9223372036854775808 ≤ k by omega) (show k ≤ 9223372036854775807 by omega), ← q0, zai (show -9223372036854775808 ≤ k + 1 by omega) (show k + 1 ≤ 9223372036854775807 by omega)]
    try rfl) (fun m k => by
    simp only [zeJ, zad, cond_false]) (by omega) h0 hN hh, zfN.list.fst]
  rfl
theorem zmR {xs : List Str} {k : Int} (hH : zfb.list.Held k xs) (h0 : 0 ≤ k) (hN : k + zfb.list.cn xs ≤ 536870912) (hf : Bk.fit xs) : zcJ xs k = some (zfb.list.wr k xs).1 := by
  have hh := MkD.list_held zfb hH
  unfold zcJ
  simp only [jn, zak]
  rw [zle (xs := xs) (q := zfb.Held) (b := zfb.cn) (N := 536870912) (Z := fun k => some k) (f := fun m k i => zbI xs (fun y1 _ _ => some y1) m k 0 i) (fun m k i x hx hq hk hkN => by
    have hi := zau hx
    have ei := zac hi (zb6 hf)
    rw [← zfb.fst k x]
    have hc : k + 1 ≤ 536870912 := hkN
    have q0 : mt k = x := hq
    simp only [zbI, zal hx, cond_true, Option.bind_some, zaf hx, ei, bne_self_eq_false, cond_false, zfM hk (by omega), q0, zai (show -9223372036854775808 ≤ k + 1 by omega) (show k + 1 ≤ 9223372036854775807 by omega)]
    try rfl) (fun m k => by
    simp only [zbI, zad, cond_false]) (by omega) h0 hN hh, zfb.list.fst]
  rfl
theorem ztX {xs : List File} {k : Int} (hH : zeu.list.Held k xs) (h0 : 0 ≤ k) (hN : k + zeu.list.cn xs ≤ 536870912) (hf : Bk.fit xs) : zgA xs k = some (zeu.list.wr k xs).1 := by
  have hh := MkD.list_held zeu hH
  unfold zgA
  simp only [jn, zak]
  rw [zle (xs := xs) (q := zeu.Held) (b := zeu.cn) (N := 536870912) (Z := fun k => some k) (f := fun m k i => zea xs (fun y1 _ _ => some y1) m k 0 i) (fun m k i x hx hq hk hkN => by
    have hi := zau hx
    have ei := zac hi (zb6 hf)
    rw [← zeu.fst k x]
    have hc : zeu.cn x = 1 + (zfb.list.cn x.Text) := rfl
    have e1 := zfb.list.fst (k + 1) x.Text
    obtain ⟨f0, f1⟩ := zfY hf hx
    have q0 : mt (k) = x.Path := congrArg File.Path hq
    have q1 : zfb.list.Held (k + 1) x.Text := congrArg File.Text hq
    simp only [zea, zal hx, cond_true, Option.bind_some, zaf hx, ei, bne_self_eq_false, cond_false, zfM (show 0 ≤ k by omega) (show k ≤ 536870912 by omega), zai (show -9223372036854775808 ≤ k + 1 by omega) (show k + 1 ≤ 9223372036854775807 by omega), q0, zmR q1 (show 0 ≤ k + 1 by omega) (show k + 1 + zfb.list.cn x.Text ≤ 536870912 by omega) f1, decide_eq_false (show ¬ (zfb.list.wr (k + 1) x.Text).1 < 0 by omega)]
    try rfl) (fun m k => by
    simp only [zea, zad, cond_false]) (by omega) h0 hN hh, zeu.list.fst]
  rfl
theorem zsm {xs : List Commit} {k : Int} (hH : zba.list.Held k xs) (h0 : 0 ≤ k) (hN : k + zba.list.cn xs ≤ 536870912) (hf : Bk.fit xs) : zfq xs k = some (zba.list.wr k xs).1 := by
  have hh := MkD.list_held zba hH
  unfold zfq
  simp only [jn, zak]
  rw [zle (xs := xs) (q := zba.Held) (b := zba.cn) (N := 536870912) (Z := fun k => some k) (f := fun m k i => zdk xs (fun y1 _ _ => some y1) m k 0 i) (fun m k i x hx hq hk hkN => by
    have hi := zau hx
    have ei := zac hi (zb6 hf)
    rw [← zba.fst k x]
    have hc : zba.cn x = zfN.list.cn x.Parents + (1 + (zeu.list.cn x.Tree)) := rfl
    have e0 := zfN.list.fst (k) x.Parents
    have e2 := zeu.list.fst ((zfN.list.wr (k) x.Parents).1 + 1) x.Tree
    obtain ⟨f0, f1, f2⟩ := zfY hf hx
    have q0 : zfN.list.Held (k) x.Parents := congrArg Commit.Parents hq
    have q1 : mt ((zfN.list.wr (k) x.Parents).1) = x.Who := congrArg Commit.Who hq
    have q2 : zeu.list.Held ((zfN.list.wr (k) x.Parents).1 + 1) x.Tree := congrArg Commit.Tree hq
    simp only [zdk, zal hx, cond_true, Option.bind_some, zaf hx, ei, bne_self_eq_false, cond_false, zfM (show 0 ≤ (zfN.list.wr (k) x.Parents).1 by omega) (show (zfN.list.wr (k) x.Parents).1 ≤ 536870912 by omega), zai (show -9223372036854775808 ≤ (zfN.list.wr (k) x.Parents).1 + 1 by omega) (show (zfN.list.wr (k) x.Parents).1 + 1 ≤ 9223372036854775807 by omega), zvk q0 (show 0 ≤ k by omega) (show k + zfN.list.cn x.Parents ≤ 536870912 by omega) f0, decide_eq_false (show ¬ (zfN.list.wr (k) x.Parents).1 < 0 by omega), q1, ztX q2 (show 0 ≤ (zfN.list.wr (k) x.Parents).1 + 1 by omega) (show (zfN.list.wr (k) x.Parents).1 + 1 + zeu.list.cn x.Tree ≤ 536870912 by omega) f2, decide_eq_false (show ¬ (zeu.list.wr ((zfN.list.wr (k) x.Parents).1 + 1) x.Tree).1 < 0 by omega)]
    try rfl) (fun m k => by
    simp only [zdk, zad, cond_false]) (by omega) h0 hN hh, zba.list.fst]
  rfl
theorem ztY {xs : List Head} {k : Int} (hH : zev.list.Held k xs) (h0 : 0 ≤ k) (hN : k + zev.list.cn xs ≤ 536870912) (hf : Bk.fit xs) : zgB xs k = some (zev.list.wr k xs).1 := by
  have hh := MkD.list_held zev hH
  unfold zgB
  simp only [jn, zak]
  rw [zle (xs := xs) (q := zev.Held) (b := zev.cn) (N := 536870912) (Z := fun k => some k) (f := fun m k i => zeb xs (fun y1 _ _ => some y1) m k 0 i) (fun m k i x hx hq hk hkN => by
    have hi := zau hx
    have ei := zac hi (zb6 hf)
    rw [← zev.fst k x]
    have hc : zev.cn x = 1 + (1) := rfl
    obtain ⟨f0, f1⟩ := zfY hf hx
    have q0 : mt (k) = x.Name := congrArg Head.Name hq
    have q1 : k + 1 = x.At := congrArg Head.At hq
    simp only [zeb, zal hx, cond_true, Option.bind_some, zaf hx, ei, bne_self_eq_false, cond_false, zfM (show 0 ≤ k by omega) (show k ≤ 536870912 by omega), zai (show -9223372036854775808 ≤ k + 1 by omega) (show k + 1 ≤ 9223372036854775807 by omega), zai (show -9223372036854775808 ≤ k + 1 by omega) (show k + 1 ≤ 9223372036854775807 by omega), zai (show -9223372036854775808 ≤ k + 1 + 1 by omega) (show k + 1 + 1 ≤ 9223372036854775807 by omega), q0, ← q1]
    try rfl) (fun m k => by
    simp only [zeb, zad, cond_false]) (by omega) h0 hN hh, zev.list.fst]
  rfl
theorem zsn {x : Repo} {k : Int} (hq : zbA.Held k x) (hk : 0 ≤ k) (hkN : k + zbA.cn x ≤ 536870912)(hf : Bk.fit x) : zgh x k = some (zbA.wr k x).1 := by
  unfold zgh
  have hc : zbA.cn x = zba.list.cn x.Commits + (zev.list.cn x.Heads) := rfl
  have e0 := zba.list.fst (k) x.Commits
  have e1 := zev.list.fst ((zba.list.wr (k) x.Commits).1) x.Heads
  obtain ⟨f0, f1⟩ := hf
  have q0 : zba.list.Held (k) x.Commits := congrArg Repo.Commits hq
  have q1 : zev.list.Held ((zba.list.wr (k) x.Commits).1) x.Heads := congrArg Repo.Heads hq
  simp only [Option.bind_some, bne_self_eq_false, cond_false, zsm q0 (show 0 ≤ k by omega) (show k + zba.list.cn x.Commits ≤ 536870912 by omega) f0, decide_eq_false (show ¬ (zba.list.wr (k) x.Commits).1 < 0 by omega), ztY q1 (show 0 ≤ (zba.list.wr (k) x.Commits).1 by omega) (show (zba.list.wr (k) x.Commits).1 + zev.list.cn x.Heads ≤ 536870912 by omega) f1, decide_eq_false (show ¬ (zev.list.wr ((zba.list.wr (k) x.Commits).1) x.Heads).1 < 0 by omega)]
  try rfl
end Go.Vm
