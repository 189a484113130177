/- Walks: each function answers as its model, printed by a program of ours. Conditions: the arguments read as they are given. -/
import Derived.Test.YtokbhelngoeblaaGreatDoorCTs
import Derived.Test.YtokbhelngoeblaaGreatDoorCM5
import Derived.Test.YtokbhelngoeblaaGreatDoorCW0
import Derived.Test.YtokbhelngoeblaaGreatDoorCW6
namespace Go.Sx
open Go Go.Proofs Go.Vm Rp
set_option linter.unusedVariables false
set_option linter.unusedSimpArgs false
variable {W W0 : CW} {K : List Nat}
theorem c62 {x0 k x x1 r} (D : Rd W0 [0] [k, x] x0) (hm : Vm.zcM x0 x1 = some r) : Q0 62 [.agg [k, x].toArray, vI x1] W0 fun Wf v => ∃ y, v = y ∧ Rd Wf [0] [y] r := by
 unfold Vm.zcM at hm
 obtain ⟨G, H, z, d, I⟩ := Repo.split D
 simp only [List.cons.injEq, and_true, true_and] at z
 obtain ⟨rfl, rfl⟩ := z
 refine zau.of Tryz.func62 rfl rfl rfl rfl (sr (bo 2 rfl fun J L E e => ?_))
 have b := E.o
 refine Nv (.slice none 0 0) rfl (ssr (fl e rfl (mi rfl ?_)))
 obtain ⟨F, A, hm⟩ := ob hm
 refine Lw.r rfl (R.ix (α := Commit) (d.ul b) A rfl rfl rfl) (Lw.fa rfl ?_)
 obtain ⟨M, c7, r8⟩ := (Commit.at0 ((d.ul b).at_ A)).cell rfl
 refine Lw.r rfl (R.ld rfl rfl c7) (Lw.ln F.Parents r8 rfl (Lw.eq rfl (nl (cn hm (fun hm => ?_) fun hm => ?_))))
 ·refine sr (Nv (.slice none 0 0) rfl ?_)
  cases hm
  exact Cw.ret (zjQ rfl (Res.mk b ⟨.slice none 0 0, rfl, (rdN (K := [0]))⟩))
 ·refine sk (Cw.seq (Cw.draw [] [(0, 0), (1, 1), (2, 0), (3, 1), (4, 0), (5, 0), (6, 0), (7, 1), (8, 0), (9, 1), (10, 0), (11, 0), (12, 1), (13, 0)] mixed (by kernel_rfl) fun N l10 => ?_))
  have B := b.n l10
  refine Dfl (e.up l10) rfl rfl rfl (Dfl (e.up l10) rfl rfl rfl (Di rfl ?_))
  obtain ⟨O, f, hm⟩ := ob hm
  have a := d.ul B
  refine Mw.p rfl rfl (fun _ => R.ix (α := Commit) a f rfl rfl rfl) (Df rfl ?_)
  obtain ⟨P, c17, r18⟩ := (Commit.at0 (a.at_ f)).cell rfl
  refine Mw.q rfl rfl (fun _ c => R.ld rfl rfl (zaz (Commit.at0 (a.at_ f)).1 rfl c17 c)) ?_
  obtain ⟨Q, h, hm⟩ := ob hm
  refine Mw.p rfl rfl (fun _ => R.ix (α := Int) r18 h rfl rfl rfl) (Mw.q rfl rfl (fun _ c => R.ld rfl rfl (zaz (r18.at_ h).1 rfl (r18.at_ h).int c)) ?_)
  obtain ⟨S, i, hm⟩ := ob hm
  refine Mw.p rfl rfl (fun _ => R.ix (α := Commit) a i rfl rfl rfl) (Df rfl ?_)
  obtain ⟨C, c24, r25⟩ := (Commit.at2 (a.at_ i)).cell rfl
  refine Mw.q rfl rfl (fun _ c => R.ld rfl rfl (zaz (Commit.at2 (a.at_ i)).1 rfl c24 c)) (Hv C rfl (Mw.nil ?_))
  cases hm
  exact Cw.ret (zjQ rfl (Res.mk B ⟨C, rfl, r25⟩))
theorem p62 {x0 b d x1 r} (f : Rd W K [b, d] x0) (hm : Vm.zcM x0 x1 = some r) : Q1 62 [.agg [b, d].toArray, vI x1] W [] fun W' v => ∃ a, v = a ∧ Rd W' (0 :: K) [a] r :=
 (c62 (f.view _) hm).ad (fk 0) fun _ _ ⟨a, e, h⟩ => ⟨a, e, h.back rfl⟩
theorem c61 {x0 B C x1 x2 x3 H x4 I r} (h0 : Rd W0 [0] [B, C] x0) (h3 : Rd W0 [0] [H] x3) (h4 : Rd W0 [0] [I] x4) (hm : Vm.zdZ x0 x1 x2 x3 x4 = some r) : Q0 61 [.agg [B, C].toArray, vS x1, vS x2, H, I] W0 fun Wf v => ∃ ai aj, v = .tuple [.agg [ai, aj].toArray, vI r.2].toArray ∧ Rd Wf [0] [ai] r.1.Commits ∧ Rd Wf [0] [aj] r.1.Heads := by
 unfold Vm.zdZ at hm
 obtain ⟨b5, b6, ak, e, h⟩ := Repo.split h0
 simp only [List.cons.injEq, and_true, true_and] at ak
 obtain ⟨rfl, rfl⟩ := ak
 refine zau.of Tryz.func61 rfl rfl rfl rfl (sr (bo 2 rfl fun g1 W1 l1 b1 => ?_))
 have a2 := l1.o
 refine al 3 [.slice none 0 0, .slice none 0 0] fun g3 W3 J b3 => ?_
 have L := a2.n J
 refine Ni rfl (sr (la (b1.up J) (ms rfl (ca hm (fun _ => p56 (Repo.rd (K := [0]) x0.Commits x0.Heads (e.ul L) (h.ul L))) fun x cc hm l10 => ?_))))
 have y := L.n l10
 have an := (b1.up J).up l10
 refine Ni rfl (sr (mv H rfl (fl an rfl (mi rfl ?_))))
 obtain ⟨cd, ao, hm⟩ := ob hm
 refine Lw.r rfl (R.ix (α := Commit) (e.ul y) ao rfl rfl rfl) (Lw.fa rfl ?_)
 obtain ⟨ce, c18, r19⟩ := (Commit.at2 ((e.ul y).at_ ao)).cell rfl
 refine Lw.r rfl (R.ld rfl rfl c18) (mv I rfl (cr hm (fun _ => p81 (k0 := 4) (k1 := 5) (h3.ul y) r19 (h4.ul y)) ?_))
 rintro D _ a5 hm N ⟨a, i, rfl, a6, a7⟩
 have ap := y.n N
 have O := an.up N
 have aq := (b3.up l10).up N
 refine mv (.tuple [a, i].toArray) rfl (Lw.r rfl (R.ext (vs := [a, i]) (v := a) rfl rfl) (Lw.r rfl (R.ext (vs := [a, i]) (v := i) rfl rfl) (Gv a rfl (Nv i rfl (ssr (mv i rfl (Lw.ln D.2 a7.rd rfl (Lw.gt rfl (nl (cn hm (fun hm => ?_) fun hm => ?_))))))))))
 ·refine sr (la O (sta aq (zaa e.oc (zaa h.oc zaF)) fun cf a8 a9 => ?_))
  have P := ap.t a8
  refine Ni rfl ?_
  cases hm
  exact Cw.ret (zfa rfl a9 rfl (Res.mk P ⟨B, C, rfl, (e.ul P), (h.ul P)⟩))
 ·refine sk (sr (la O (ms rfl (mi rfl (Lw.t rfl (T.bsS (α := Int) (xs := [x]) 6 [] (W := a5) [vI x] (Each.cons ((rdI _)) Each.nil) rfl) ?_)))))
  rintro Q _ ⟨cg, rfl, E, S⟩
  have U := ap.n E
  have V := a6.up E
  refine ms rfl (mv a rfl (Lw.r rfl (R.bd (zs := [.slice none 0 0, vS ([] : Str), .slice none 0 0]) (cs := [Q, vS x2, a]) [(0, Q), (1, vS x2), (2, a)] rfl rfl rfl (zaK S.oc rfl (zaK rfl rfl (zaK V.oc rfl zdL)))) (cr hm (fun _ => p123 (K := [0, 4, 6]) (x2 := (Vm.Commit.mk ([x] : List Int) x2 D.1)) ((Repo.rd (K := [0]) x0.Commits x0.Heads (e.ul U) (h.ul U)).sub (M := [0, 4, 6]) rfl) ((Commit.rd (K := [4, 6]) ([x] : List Int) x2 D.1 (S.rd.sub (M := [4, 6]) rfl) (V.rd.sub (M := [4, 6]) rfl)).sub (M := [0, 4, 6]) rfl)) ?_)))
  rintro k _ ch hm z ⟨X, Y, rfl, ba, bb⟩
  have F := ba.sub (M := [0, 4, 6]) rfl
  have G := bb.sub (M := [0, 4, 6]) rfl
  have bc := U.n z
  refine al 7 [.slice none 0 0, .slice none 0 0] fun ci cj b be => ?_
  have bg := bc.n b
  refine sta be (zaa F.oc (zaa G.oc zaF)) fun ck d ar => ?_
  have bh := bg.t d
  refine nl (ssr (la ar ?_))
  have bi := F.up ((b.sub (M := [7]) rfl).trans (d.sub (M := [7]) rfl)) rfl
  have bj := G.up ((b.sub (M := [7]) rfl).trans (d.sub (M := [7]) rfl)) rfl
  refine ca hm (fun _ => p55 (K := [0, 4, 6]) (Repo.rd (K := [0, 4, 6]) k.Commits k.Heads bi bj)) fun cl cm hm f => ?_
  have au := bh.n f
  have av := ((((aq.up E).up z).up b).up d).up f
  refine Lw.r rfl (R.not rfl) (nl (cn hm (fun hm => ?_) fun hm => ?_))
  ·refine sr (la (((((O.up E).up z).up b).up d).up f) (sta av (zaa e.oc (zaa h.oc zaF)) fun co bk bl => ?_))
   have Z := au.t bk
   refine Ni rfl ?_
   cases hm
   exact Cw.ret (zfa rfl bl rfl (Res.mk Z ⟨B, C, rfl, (e.ul Z), (h.ul Z)⟩))
  ·refine sk (sr (la (ar.up f) (sta av (zaa F.oc (zaa G.oc zaF)) fun cp A bm => ?_)))
   have bn := au.t A
   refine Ni rfl ?_
   have bp := F.up ((b.sub (M := [3, 7]) rfl).trans ((d.sub (M := [3, 7]) rfl).trans ((f.sub (M := [3, 7]) rfl).trans (A.sub (M := [3, 7]) rfl)))) rfl
   have bq := G.up ((b.sub (M := [3, 7]) rfl).trans ((d.sub (M := [3, 7]) rfl).trans ((f.sub (M := [3, 7]) rfl).trans (A.sub (M := [3, 7]) rfl)))) rfl
   obtain ⟨aa, br, ac, ae⟩ := zl7 _ 4
   have bu : Rd aa [0, 6] [X] k.Commits := by rw [ae]; exact (bp.dye 4).sub (M := [0, 6]) rfl
   have bv : Rd aa [0, 6] [Y] k.Heads := by rw [ae]; exact (bq.dye 4).sub (M := [0, 6]) rfl
   have cq : Rd (α := List Vm.File) aa [0] [a] D.1 := by rw [ae]; exact ((((((V.up z).up b).up d).up f).up A).rd.dye 4).sub (M := [0]) rfl
   have bw := bn.t ac
   obtain ⟨af, bz, aw, ah⟩ := zl7 _ 6
   have b0 : Rd af [0] [X] k.Commits := by rw [ah]; exact (bu.dye 6).sub (M := [0]) rfl
   have b2 : Rd af [0] [Y] k.Heads := by rw [ah]; exact (bv.dye 6).sub (M := [0]) rfl
   have ct : Rd (α := List Int) af [0] [Q] ([x] : List Int) := by rw [ah]; exact (((((((S.up z).up b).up d).up f).up A).up ac).rd.dye 6).sub (M := [0]) rfl
   have b4 := bw.t aw
   cases hm
   rw [← bz.trans (br)]
   exact Cw.ret (zfa rfl ((bm.up ac).up aw) rfl (Res.mk b4 ⟨X, Y, rfl, b0, b2⟩))
theorem p61 {x0 d f x1 x2 x3 h x4 i r} (k : Rd W K [d, f] x0) (x : Rd W K [h] x3) (y : Rd W K [i] x4) (hm : Vm.zdZ x0 x1 x2 x3 x4 = some r) : Q1 61 [.agg [d, f].toArray, vS x1, vS x2, h, i] W [] fun W' v => ∃ a b, v = .tuple [.agg [a, b].toArray, vI r.2].toArray ∧ Rd W' (0 :: K) [a] r.1.Commits ∧ Rd W' (0 :: K) [b] r.1.Heads :=
 (c61 (k.view _) (x.view _) (y.view _) hm).ad (fk 0) fun _ _ ⟨a, b, e, z, A⟩ => ⟨a, b, e, z.back rfl, A.back rfl⟩
end Go.Sx
