/- Walks: each function answers as its model, printed by a program of ours. Conditions: the arguments read as they are given. -/
import Derived.Test.YtokbhelngoeblaaGreatDoorBTs
import Derived.Test.YtokbhelngoeblaaGreatDoorBM5
import Derived.Test.YtokbhelngoeblaaGreatDoorBW0
import Derived.Test.YtokbhelngoeblaaGreatDoorBW1
import Derived.Test.YtokbhelngoeblaaGreatDoorBW3
import Derived.Test.YtokbhelngoeblaaGreatDoorBW4
import Derived.Test.YtokbhelngoeblaaGreatDoorBW6
import Derived.Test.YtokbhelngoeblaaGreatDoorBW8
import Derived.Test.YtokbhelngoeblaaGreatDoorBE
namespace Go.Sx
open Go Go.Proofs Go.Vm Rp
set_option linter.unusedVariables false
set_option linter.unusedSimpArgs false
variable {W W0 : CW} {K : List Nat}
theorem c77 {x0 z r} (h0 : Rd W0 [0] [z] x0) (hm : Vm.zhP x0 = some r) : Q0 77 [z] W0 fun Wf v => ∃ J L, v = .tuple [.agg [J, L].toArray, vI r.2.1, vI r.2.2].toArray ∧ OwS Wf [31] [] [J] r.1.Commits ∧ OwS Wf [32] [] [L] r.1.Heads := by
 unfold Vm.zhP at hm
 refine zaI.of Tryz.func77 rfl rfl rfl rfl (sr (al 2 [.slice none 0 0, .slice none 0 0] fun g1 W1 l1 b1 => ?_))
 have N := l1.o
 refine Gi rfl (Ni rfl (sr (mv z rfl (cr hm (fun _ => p108 (k0 := 3) (h0.ul N)) ?_))))
 rintro A _ W6 hm O ⟨a5, a6, rfl, af, ah⟩
 have B := ah.sub (M := [0]) rfl
 have a8 := N.n O
 refine Np rfl (sr (mp rfl (cr hm (fun _ => p109 (k0 := 4) (k1 := 5) (c0 := 3) (x0 := A) af B rfl) ?_)))
 rintro a _ a7 hm P ⟨k, x, rfl, Q, S, aj⟩
 have C := P.s
 refine al 6 [.slice none 0 0, .slice none 0 0] fun a9 ba d ak => ?_
 have D := d.o
 refine sta ak (zab (Q.up d).oc (zab (S.up d).oc za3)) fun bb h U => ?_
 have E := h.s
 have V := (Q.up d).up h
 have W := (S.up d).up h
 refine nl (sr (mp rfl (la U (cr hm (fun _ => p136 (K := [0, 4, 5]) (c0 := 3) (x0 := (Vm.l30Rd.mk A.b a.2)) (x1 := (Vm.Repo.mk a.1.Commits a.1.Heads)) ((aj.up d).up h) ((B.ul ((C.trans D).trans E)).sub (M := [0, 4, 5]) rfl) ((Repo.rd (K := [4, 5]) a.1.Commits a.1.Heads (V.rd.sub (M := [4, 5]) rfl) (W.rd.sub (M := [4, 5]) rfl)).sub (M := [0, 4, 5]) rfl) rfl) ?_))))
 rintro am _ bc hm i ⟨rfl, an⟩
 have X := i.s
 refine Ni rfl (Cw.seq (Cw.draw [2, 3] [(0, 1), (1, 0), (2, 0), (3, 1), (4, 2), (5, 2), (6, 0), (7, 0)] mixed (by kernel_rfl) fun be f => ?_))
 have Y := f.o
 have F := (V.up i).up f
 have G := (W.up i).up f
 have Z := (U.up i).up f
 refine Mw.q rfl rfl (fun _ c => R.lda (cs := [k, x]) (Z.clcs rfl c) rfl rfl) (Di rfl (Dp rfl (Mw.q rfl rfl (fun _ c => R.lda (cs := [k, x]) (Z.clcs rfl c) rfl rfl) ?_)))
 obtain ⟨bg, ao, hm⟩ := ob hm
 refine Mw.t rfl rfl (T.call rfl (p136 (K := [0, 4, 5])  (c0 := 3) (x0 := (Vm.l30Rd.mk A.b am.2)) (x1 := (Vm.Repo.mk a.1.Commits a.1.Heads)) (an.up f) ((B.ul ((((C.trans D).trans E).trans X).trans Y)).sub (M := [0, 4, 5]) rfl) ((Repo.rd (K := [4, 5]) a.1.Commits a.1.Heads (F.rd.sub (M := [4, 5]) rfl) (G.rd.sub (M := [4, 5]) rfl)).sub (M := [0, 4, 5]) rfl) rfl ao)) ?_
 rintro _ _ ⟨bh, rfl, e, ⟨rfl, bi⟩⟩
 have ap := (((((a8.trans C).trans D).trans E).trans X).trans Y).t e
 refine m0 e fun aq => Mw.tu rfl (T.sta (vs := [k, x]) (((((((b1.up O).up P).up d).up h).up i).up f).up e) rfl rfl (zab (F.up e).oc (zab (G.up e).oc za3)) rfl rfl) ?_
 rintro _ _ ⟨bj, rfl, y, ar⟩
 have au := ap.t y
 refine mc aq y fun bk => Hi rfl (Hi rfl (Mw.nil ?_))
 obtain ⟨bl, av, H, aw⟩ := ((F.up e).up y).dyeO 31
 have ax := au.t H
 obtain ⟨bm, ay, I, az⟩ := (((G.up e).up y).up H).dyeO 32
 have a0 := ax.t I
 cases hm
 rw [← ay.trans (av)]
 exact Cw.ret (zv5 (zjk.c rfl ((ar.up H).up I) (zjk.t rfl (zjk.t rfl zjk.n))) (Res.mk a0 ⟨k, x, rfl, (aw.up I).s, az.s⟩))
theorem p77 {x0 d k0 k1 r} (f : Rd W K [d] x0) (hm : Vm.zhP x0 = some r) : Q1 77 [d] W [] fun W' v => ∃ a b, v = .tuple [.agg [a, b].toArray, vI r.2.1, vI r.2.2].toArray ∧ Ow W' k0 [] [a] r.1.Commits ∧ Ow W' k1 [] [b] r.1.Heads :=
 zaI.adJ (J := []) (fun c => bif Nat.beq c 0 then 0 else bif Nat.beq c 31 then k0 else bif Nat.beq c 32 then k1 else 0) (c77 (f.view _) hm) fun _ _ ⟨a, b, e, h, i⟩ => ⟨a, b, e, h.one1.backN rfl, i.one1.backN rfl⟩
theorem c18 {x0 e r} (C : Rd W0 [0] [e] x0) (hm : Vm.zfB x0 = some r) : Q0 18 [e] W0 fun Wf v => ∃ k x, v = .tuple [.agg [k, x].toArray, vI r.2.1, vI r.2.2].toArray ∧ OwS Wf [31] [] [k] r.1.Commits ∧ OwS Wf [32] [] [x] r.1.Heads := by
 unfold Vm.zfB at hm
 refine zaI.of Tryz.func18 rfl rfl rfl rfl (sr (al 2 [.slice none 0 0, .slice none 0 0] fun O P D E => ?_))
 have y := D.o
 refine Gi rfl (Ni rfl (sr (mv e rfl (cr hm (fun _ => p77 (k0 := 3) (k1 := 4) (C.ul y)) ?_))))
 rintro a _ Q hm z ⟨b, d, rfl, A, B⟩
 have F := y.n z
 refine Lw.r rfl (R.ext (vs := [.agg [b, d].toArray, vI a.2.1, vI a.2.2]) (v := .agg [b, d].toArray) rfl rfl) (Lw.r rfl (R.ext (vs := [.agg [b, d].toArray, vI a.2.1, vI a.2.2]) (v := vI a.2.1) rfl rfl) (Lw.r rfl (R.ext (vs := [.agg [b, d].toArray, vI a.2.1, vI a.2.2]) (v := vI a.2.2) rfl rfl) (sta (E.up z) (zab A.oc (zab B.oc za3)) fun S f G => ?_)))
 have H := F.t f
 refine Gi rfl (Ni rfl ?_)
 obtain ⟨T, I, h, J⟩ := (A.up f).dyeO 31
 have K := H.t h
 obtain ⟨U, L, i, M⟩ := ((B.up f).up h).dyeO 32
 have N := K.t i
 cases hm
 rw [← L.trans (I)]
 exact Cw.ret (zv5 (zjk.c rfl ((G.up h).up i) (zjk.t rfl (zjk.t rfl zjk.n))) (Res.mk N ⟨b, d, rfl, (J.up i).s, M.s⟩))
theorem p18 {x0 d k0 k1 r} (f : Rd W K [d] x0) (hm : Vm.zfB x0 = some r) : Q1 18 [d] W [] fun W' v => ∃ a b, v = .tuple [.agg [a, b].toArray, vI r.2.1, vI r.2.2].toArray ∧ Ow W' k0 [] [a] r.1.Commits ∧ Ow W' k1 [] [b] r.1.Heads :=
 zaI.adJ (J := []) (fun c => bif Nat.beq c 0 then 0 else bif Nat.beq c 31 then k0 else bif Nat.beq c 32 then k1 else 0) (c18 (f.view _) hm) fun _ _ ⟨a, b, e, h, i⟩ => ⟨a, b, e, h.one1.backN rfl, i.one1.backN rfl⟩
theorem c78 {x0 y z x1 f r} (J : Rd W0 [0] [y, z] x0) (h : Rd W0 [0] [f] x1) (L : Gl 0 W0 [0]) (hm : Vm.zhL x0 x1 = some r) : Q0 78 [.agg [y, z].toArray, f] W0 fun Wf v => v = vB r := by
 unfold Vm.zhL at hm
 obtain ⟨T, U, A, B, C⟩ := Repo.split J
 simp only [List.cons.injEq, and_true, true_and] at A
 obtain ⟨rfl, rfl⟩ := A
 refine zaI.of Tryz.func78 rfl rfl rfl rfl (sr (bo 2 rfl fun V W M D => ?_))
 have b := M.o
 refine Nb rfl (ssr (la D (ca hm (fun _ => p22 (Repo.rd (K := [0]) x0.Commits x0.Heads (B.ul b) (C.ul b)) (L.ul b)) fun X E hm F => ?_)))
 have i := b.n F
 refine Lw.r rfl (R.not rfl) (nl (cn hm (fun hm => ?_) fun hm => ?_))
 ·exact sr (Nb rfl (.ret (rt hm i)))
 ·refine sk (ssr (mv f rfl (Lw.ln x1 (h.ul i) rfl (mi rfl (nl (Cw.block ?_))))))
  obtain ⟨N, O, hm⟩ := zc1 hm
  refine Cw.loop 12 20 [4, 6, 12] (fun m l w => ∃ d e G k, CW.w k = w ∧ Le [] E k ∧ l = [vB d, G, vI e] ∧ Vm.ze8 x0 x1 N m d e = some r) _ ⟨false, 0, undef, E, rfl, Le.refl _ _, rfl, hm⟩ ?_
  rintro (_ | Y) _ _ σ ⟨d, e, G, k, rfl, x, rfl, hm⟩
  ·cases hm
  unfold Vm.ze8 at hm
  have a := i.n x
  refine sr (Lw.lt rfl (nl (Cw.seq (cn hm (fun hm => ?_) fun hm => ?_))))
  ·refine sk (Cw.seq (Cw.block (sr ?_)))
   obtain ⟨P, H, hm⟩ := ob hm
   refine Lw.r rfl (R.ix (α := Int) (h.ul a) H rfl rfl rfl) (Lw.r rfl (R.ld rfl rfl ((h.ul a).at_ H).int) (Ni rfl (sr (la ((D.up F).up x) (mi rfl (ca hm (fun _ => p66 (Repo.rd (K := [0]) x0.Commits x0.Heads (B.ul a) (C.ul a))) fun Z Q hm I => ?_))))))
   have S := a.n I
   refine Lw.r rfl (R.not rfl) (nl (cn hm (fun hm => ?_) fun hm => ?_))
   ·exact sr (Nb rfl (.ret (rt hm S)))
   ·exact sk (rg (Lw.add rfl (mi rfl (nl ((agm) ⟨d, w64 (e + 1), vI P, Q, rfl, (x.j I).w, rfl, hm⟩)))))
  ·refine Cw.exit ?_
   rw [O] at hm
   exact sr (Nb rfl (.ret (rt hm a)))
theorem p78 {x0 a b x1 d r} (f : Rd W K [a, b] x0) (h : Rd W K [d] x1) (i : Gl 0 W K) (hm : Vm.zhL x0 x1 = some r) : Q1 78 [.agg [a, b].toArray, d] W [] fun W' v => v = vB r :=
 (c78 (f.view _) (h.view _) (i.view _) hm).ad (fk 0) fun _ _ e => e
theorem c89 {x0 H I x1 r} (Z : Rd W0 [0] [H, I] x0) (hm : Vm.zdt x0 x1 = some r) : Q0 89 [.agg [H, I].toArray, vI x1] W0 fun Wf v => ∃ J, v = J ∧ OwS Wf LL [] [J] r := by
 unfold Vm.zdt at hm
 obtain ⟨a0, a1, K, A, a3⟩ := Repo.split Z
 simp only [List.cons.injEq, and_true, true_and] at K
 obtain ⟨rfl, rfl⟩ := K
 refine zaI.of Tryz.func89 rfl rfl rfl rfl (sr (bo 2 rfl fun g1 W1 l1 L => ?_))
 have M := l1.o
 refine Nv (.slice none 0 0) rfl (sr (fl L rfl (Lw.ln x0.Commits (A.ul M) rfl ?_)))
 obtain ⟨q4, e5, hm⟩ := ob hm
 refine Lw.t rfl (T.mk (α := Bool) 3 [] (n := (x0.Commits.length : Int)) rfl rfl e5) ?_
 rintro a _ ⟨W6, rfl, N, O⟩
 have a7 := M.n N
 refine Nv a rfl (sr (mv a rfl (mi rfl ?_)))
 obtain ⟨u9, af, hm⟩ := ob hm
 refine Lw.r rfl (R.ix (α := Bool) O.rd af rfl rfl rfl) ?_
 obtain ⟨ah, ai, hm⟩ := ob hm
 refine Lw.u (T.stS (K' := []) O (rdB _) ai rfl rfl rfl) ?_
 rintro _ _ ⟨P, rfl, Q, aj⟩
 have ak := a7.t Q
 refine nl (ssr (mi rfl (Ni rfl (Cw.block ?_))))
 obtain ⟨am, an, hm⟩ := zc1 hm
 refine Cw.loop 17 39 [6, 8] (fun m l w => ∃ i d k b, CW.w b = w ∧ Le [3] P b ∧ l = [vI i, k] ∧ Ow b 3 [] [a] d ∧ Vm.zbP x0 am m i d = some r) _ ⟨x1, ah, undef, P, rfl, Le.refl _ _, rfl, aj, hm⟩ ?_
 rintro (_ | ba) _ _ σ ⟨i, d, k, b, rfl, B, rfl, e, hm⟩
 ·cases hm
 unfold Vm.zbP at hm
 have C := ak.t B
 refine ssr (mi rfl (Lw.ge rfl (nl (cn hm (fun hm => ?_) fun hm => ?_))))
 ·refine sk ?_
  obtain ⟨S, ao, hm⟩ := zc1 hm
  refine Cw.join 21 39 [8] (fun l w => ∃ x D f, CW.w f = w ∧ Le [3] b f ∧ l = [D] ∧ Ow f 3 [] [a] x ∧ S x = some r) ?_ ?_
  ·rintro _ _ σ ⟨x, D, f, rfl, ap, rfl, aq, hm⟩
   rw [ao] at hm
   exact rg (mi rfl (Lw.sub rfl (Ni rfl ((agm) ⟨w64 (i - 1), x, D, f, rfl, (B.j ap).w, rfl, aq, hm⟩))))
  ·refine Cw.block (sr (mv a rfl (mi rfl ?_)))
   obtain ⟨bb, U, hm⟩ := ob hm
   refine Lw.r rfl (R.ix (α := Bool) e.rd U rfl rfl rfl) (Lw.r rfl (R.ld rfl rfl (e.rd.at_ U).bool) (nl (cn hm (fun hm => ?_) fun hm => ?_)))
   ·refine sr (fl (((L.up N).up Q).up B) rfl (mi rfl ?_))
    obtain ⟨V, W, hm⟩ := ob hm
    refine Lw.r rfl (R.ix (α := Commit) (A.ul C) W rfl rfl rfl) (Lw.fa rfl ?_)
    obtain ⟨bc, c40, r41⟩ := (Commit.at0 ((A.ul C).at_ W)).cell rfl
    refine Lw.r rfl (R.ld rfl rfl c40) (Lw.ln V.Parents r41 rfl (mi rfl (nl (Cw.block (Cw.loop 32 39 [8, 32] (fun m l w => ∃ y z E h, CW.w h = w ∧ Le [3] b h ∧ l = [E, vI y] ∧ Ow h 3 [] [a] z ∧ Vm.zcU S V m y z = some r) _ ⟨0, d, k, b, rfl, Le.refl _ _, rfl, e, hm⟩ ?_)))))
    rintro (_ | be) _ _ σ ⟨y, z, E, h, rfl, F, rfl, G, hm⟩
    ·cases hm
    unfold Vm.zcU at hm
    have X := F.s
    refine sr (Lw.lt rfl (nl (Cw.seq (cn hm (fun hm => ?_) fun hm => ?_))))
    ·refine sk (Cw.seq (Cw.block (sr ?_)))
     obtain ⟨ar, Y, hm⟩ := ob hm
     refine Lw.r rfl (R.ix (α := Int) (r41.ul X) Y rfl rfl rfl) (Lw.r rfl (R.ld rfl rfl ((r41.ul X).at_ Y).int) (Ni rfl (rg (mv a rfl (mi rfl ?_)))))
     obtain ⟨bg, au, hm⟩ := ob hm
     refine Lw.r rfl (R.ix (α := Bool) G.rd au rfl rfl rfl) ?_
     obtain ⟨av, aw, hm⟩ := ob hm
     refine Lw.u (T.stS (K' := []) G (rdB _) aw rfl rfl rfl) ?_
     rintro _ _ ⟨ax, rfl, ay, az⟩
     exact nl (rg (Lw.add rfl (mi rfl (nl ((agm) ⟨w64 (y + 1), av, vI ar, ax, rfl, (F.j ay).w, rfl, az, hm⟩)))))
    ·exact Cw.exit ((ag) ⟨z, E, h, rfl, F, rfl, G, hm⟩)
   ·exact sk ((ag) ⟨d, k, b, rfl, Le.refl _ _, rfl, e, hm⟩)
 ·refine Cw.exit ?_
  rw [an] at hm
  refine sr (mv a rfl (Nv a rfl ?_))
  cases hm
  exact Cw.ret (zlh rfl (Res.mk C ⟨a, rfl, e.s.sub rfl rfl⟩))
theorem p89 {x0 b d x1 k0 r} (f : Rd W K [b, d] x0) (hm : Vm.zdt x0 x1 = some r) : Q1 89 [.agg [b, d].toArray, vI x1] W [] fun W' v => ∃ a, v = a ∧ Ow W' k0 [] [a] r :=
 (c89 (f.view _) hm).ad (fk k0) fun _ _ ⟨a, e, h⟩ => ⟨a, e, h.back (zkb _)⟩
theorem c127 {x0 k r} (x : Rd W0 [0] [k] x0) (hm : Vm.zeF x0 = some r) : Q0 127 [k] W0 fun Wf v => ∃ C, v = C ∧ OwS Wf LL [] [C] r := by
 unfold Vm.zeF at hm
 refine zaI.of Tryz.func127 rfl rfl rfl rfl (sr (Nv (.slice none 0 0) rfl (sr (Nv (.slice none 0 0) rfl (ssr (mv k rfl (Lw.ln x0 x rfl (mi rfl (nl (Cw.block ?_))))))))))
 obtain ⟨K, L, hm⟩ := zc1 hm
 refine Cw.loop 8 18 [3, 4, 5, 8] (fun m l w => ∃ f a b D E d, CW.w d = w ∧ Le [2] W0 d ∧ l = [b, D, E, vI a] ∧ Ow d 2 [] [b] f ∧ Vm.zf4 x0 K m f a = some r) _ ⟨([] : List Int), 0, .slice none 0 0, undef, undef, W0, rfl, Le.refl _ _, rfl, owN 2 [], hm⟩ ?_
 rintro (_ | Y) _ _ σ ⟨f, a, b, D, E, d, rfl, F, rfl, y, hm⟩
 ·cases hm
 unfold Vm.zf4 at hm
 have z := F.s
 refine sr (Lw.lt rfl (nl (Cw.seq (cn hm (fun hm => ?_) fun hm => ?_))))
 ·refine sk ?_
  obtain ⟨M, N, hm⟩ := zc1 hm
  refine Cw.join 10 17 [3, 4, 5] (fun l w => ∃ h i A B e, CW.w e = w ∧ Le [2] d e ∧ l = [i, A, B] ∧ Ow e 2 [] [i] h ∧ M h = some r) ?_ ?_
  ·rintro _ _ σ ⟨h, i, A, B, e, rfl, O, rfl, P, hm⟩
   rw [N] at hm
   exact rg (Lw.add rfl (mi rfl (nl ((agm) ⟨h, w64 (a + 1), i, A, B, e, rfl, (F.j O).w, rfl, P, hm⟩))))
  ·refine Cw.block (sr (mi rfl ?_))
   obtain ⟨G, H, hm⟩ := ob hm
   refine Lw.r rfl (R.ix (α := Bool) (x.ul z) H rfl rfl rfl) (Lw.r rfl (R.ld rfl rfl ((x.ul z).at_ H).bool) (Gi rfl (Nb rfl (sr (mb rfl (nl (cn hm (fun hm => ?_) fun hm => ?_)))))))
   ·refine rg (mv b rfl (mi rfl (Lw.t rfl (T.bs 3 [vI a] (cs := [vI a]) rfl rfl (bsv rfl)) ?_)))
    rintro _ _ ⟨Z, aa, rfl, rfl, I, Q⟩
    obtain ⟨S, U, hm⟩ := ob hm
    refine Lw.t rfl (T.app1S (α := Int) (K' := []) (y.up I) Q (rdI _) rfl rfl U) ?_
    rintro J _ ⟨V, rfl, W, X⟩
    exact Nv J rfl ((ag) ⟨S, J, vI a, vB G, V, rfl, (I.j W).w, rfl, X, hm⟩)
   ·exact sk ((ag) ⟨f, b, vI a, vB G, d, rfl, Le.refl _ _, rfl, y, hm⟩)
 ·refine Cw.exit ?_
  rw [L] at hm
  refine sr (mv b rfl (Nv b rfl ?_))
  cases hm
  exact Cw.ret (zlh rfl (Res.mk z ⟨b, rfl, y.s.sub rfl rfl⟩))
theorem p127 {x0 b k0 r} (d : Rd W K [b] x0) (hm : Vm.zeF x0 = some r) : Q1 127 [b] W [] fun W' v => ∃ a, v = a ∧ Ow W' k0 [] [a] r :=
 (c127 (d.view _) hm).ad (fk k0) fun _ _ ⟨a, e, f⟩ => ⟨a, e, f.back (zkb _)⟩
theorem c137 {x0 z A x1 x2 r} (h0 : Rd W0 [0] [z, A] x0) (hm : Vm.zg4 x0 x1 x2 = some r) : Q0 137 [.agg [z, A].toArray, vI x1, vI x2] W0 fun Wf v => ∃ u0, v = u0 ∧ OwS Wf LL [] [u0] r := by
 unfold Vm.zg4 at hm
 obtain ⟨c3, c4, ah, B, N⟩ := Repo.split h0
 simp only [List.cons.injEq, and_true, true_and] at ah
 obtain ⟨rfl, rfl⟩ := ah
 refine zaI.of Tryz.func137 rfl rfl rfl rfl (sr (bo 2 rfl fun g1 W1 l1 b1 => ?_))
 have a2 := l1.o
 refine Nv (.slice none 0 0) rfl (Cw.seq (Cw.draw [] [(0, 1), (1, 0), (3, 1), (4, 0), (2, 2), (5, 2), (6, 0), (7, 0)] mixed (by kernel_rfl) fun W3 l3 => ?_))
 have O := a2.n l3
 have P := b1.up l3
 refine Mw.q rfl rfl (fun _ c => R.lda (cs := [z, A]) (P.clcs rfl c) rfl rfl) (Di rfl (Mw.q rfl rfl (fun _ c => R.lda (cs := [z, A]) (P.clcs rfl c) rfl rfl) (Di rfl ?_)))
 obtain ⟨z8, e9, hm⟩ := ob hm
 refine Mw.t rfl rfl (T.call rfl (p89 (k0 := 3) (Repo.rd (K := [0]) x0.Commits x0.Heads (B.ul O) (N.ul O)) e9)) ?_
 rintro aj _ ⟨c8, rfl, l10, ⟨_, rfl, bk⟩⟩
 have Q := O.n l10
 refine m0 l10 fun bl => ?_
 obtain ⟨bm, bn, hm⟩ := ob hm
 refine Mw.t rfl rfl (T.call rfl (p89 (k0 := 4) (Repo.rd (K := [0]) x0.Commits x0.Heads (B.ul Q) (N.ul Q)) bn)) ?_
 rintro ak _ ⟨c9, rfl, C, ⟨_, rfl, bp⟩⟩
 have am := Q.n C
 have an := (P.up l10).up C
 refine mc bl C fun da => Hv aj rfl (Hv ak rfl (Mw.nil (sr (fl an rfl (Lw.ln x0.Commits (B.ul am) rfl ?_)))))
 obtain ⟨S, bq, hm⟩ := ob hm
 refine Lw.t rfl (T.mk (α := Bool) 5 [] (n := (x0.Commits.length : Int)) rfl rfl bq) ?_
 rintro d _ ⟨ao, rfl, D, ap⟩
 have br := am.n D
 refine Nv d rfl (ssr (mv d rfl (Lw.ln S ap.rd rfl (mi rfl (nl (Cw.block ?_))))))
 obtain ⟨bu, bv, hm⟩ := zc1 hm
 refine Cw.loop 28 44 [10, 28] (fun m l w => ∃ a U aq E, CW.w E = w ∧ Le [5] ao E ∧ l = [aq, vI a] ∧ Ow E 5 [] [d] U ∧ Vm.zd1 z8 bm S bu m a U = some r) _ ⟨0, S, undef, ao, rfl, Le.refl _ _, rfl, ap, hm⟩ ?_
 rintro (_ | db) _ _ σ ⟨a, U, aq, E, rfl, e, rfl, f, hm⟩
 ·cases hm
 unfold Vm.zd1 at hm
 have bw := br.t e
 have ar := ((bk.up C).up D).up e
 have au := (bp.up D).up e
 refine sr (Lw.lt rfl (nl (Cw.seq (cn hm (fun hm => ?_) fun hm => ?_))))
 ·refine sk (Cw.seq (Cw.block (sr (mi rfl (Ni rfl (rg (mv d rfl (mi rfl (mv aj rfl (mi rfl ?_))))))))))
  obtain ⟨dc, av, hm⟩ := ob hm
  refine Lw.r rfl (R.ix (α := Bool) ar.rd av rfl rfl rfl) (Lw.r rfl (R.ld rfl rfl (ar.rd.at_ av).bool) (mb rfl (bs hm (fun i hm => ?_) fun i hm => ?_)))
  ·refine wak 4 i (mv ak rfl (mi rfl ?_))
   obtain ⟨dd, aw, hm⟩ := ob hm
   refine Lw.r rfl (R.ix (α := Bool) au.rd aw rfl rfl rfl) (Lw.r rfl (R.ld rfl rfl (au.rd.at_ aw).bool) (Pb i rfl ?_))
   obtain ⟨de, bz, hm⟩ := ob hm
   refine Lw.r rfl (R.ix (α := Bool) f.rd bz rfl rfl rfl) ?_
   obtain ⟨b0, b2, hm⟩ := ob hm
   refine Lw.u (T.stS (K' := []) f (rdB _) b2 rfl rfl rfl) ?_
   rintro _ _ ⟨b3, rfl, b4, b6⟩
   exact nl (rg (Lw.add rfl (mi rfl (nl ((agm) ⟨w64 (a + 1), b0, vI a, b3, rfl, (e.j b4).w, rfl, b6, hm⟩)))))
  ·refine psk 4 i rfl (Pb i rfl ?_)
   obtain ⟨df, b7, hm⟩ := ob hm
   refine Lw.r rfl (R.ix (α := Bool) f.rd b7 rfl rfl rfl) ?_
   obtain ⟨b8, b9, hm⟩ := ob hm
   refine Lw.u (T.stS (K' := []) f (rdB _) b9 rfl rfl rfl) ?_
   rintro _ _ ⟨cb, rfl, cc, cd⟩
   exact nl (rg (Lw.add rfl (mi rfl (nl ((agm) ⟨w64 (a + 1), b8, vI a, cb, rfl, (e.j cc).w, rfl, cd, hm⟩)))))
 ·refine Cw.exit ?_
  rw [bv] at hm
  refine sr (mv d rfl (cr hm (fun _ => p174 (K := [5]) (k0 := 6) f.rd) ?_))
  rintro ce h dg hm V ⟨_, rfl, cf⟩
  have cg := bw.n V
  refine Nv h rfl (ssr (mv d rfl (cr hm (fun _ => p127 (K := [5]) (k0 := 7) (f.up V).rd) ?_)))
  rintro ax dh ay hm W ⟨_, rfl, X⟩
  have ch := cg.n W
  refine Lw.ln ax X.rd rfl (mi rfl (nl (Cw.block ?_)))
  obtain ⟨ci, cj, hm⟩ := zc1 hm
  refine Cw.loop 50 70 [13, 15, 50] (fun m l w => ∃ F G az Y H, CW.w H = w ∧ Le [6] ay H ∧ l = [az, Y, vI F] ∧ Ow H 6 [] [h] G ∧ Vm.zcf x0 ax ci m F G = some r) _ ⟨0, ce, undef, undef, ay, rfl, Le.refl _ _, rfl, (cf.up W), hm⟩ ?_
  rintro (_ | di) _ _ σ ⟨F, G, az, Y, H, rfl, k, rfl, a0, hm⟩
  ·cases hm
  unfold Vm.zcf at hm
  have Z := ch.t k
  refine sr (Lw.lt rfl (nl (Cw.seq (cn hm (fun hm => ?_) fun hm => ?_))))
  ·refine sk (Cw.seq (Cw.block (sr ?_)))
   obtain ⟨a1, a3, hm⟩ := ob hm
   refine Lw.r rfl (R.ix (α := Int) (X.up k).rd a3 rfl rfl rfl) (Lw.r rfl (R.ld rfl rfl ((X.up k).rd.at_ a3).int) (Ni rfl (sr (la (((((an.up D).up e).up V).up W).up k) (mi rfl (cr hm (fun _ => p89 (k0 := 8) (Repo.rd (K := [0]) x0.Commits x0.Heads (B.ul Z) (N.ul Z))) ?_))))))
   rintro dj dk dl hm a5 ⟨_, rfl, ck⟩
   refine cr hm (fun _ => p127 (K := [8]) (k0 := 9) ck.rd) ?_
   rintro a6 dm a7 hm a8 ⟨_, rfl, aa⟩
   refine Lw.ln a6 aa.rd rfl (mi rfl (nl (Cw.block ?_)))
   obtain ⟨cl, cm, hm⟩ := zc1 hm
   refine Cw.loop 59 69 [15, 59] (fun m l w => ∃ I x ac b, CW.w b = w ∧ Le [6] a7 b ∧ l = [ac, vI I] ∧ Ow b 6 [] [h] x ∧ Vm.zem a1 a6 cl m I x = some r) _ ⟨0, G, Y, a7, rfl, Le.refl _ _, rfl, ((a0.up a5).up a8), hm⟩ ?_
   rintro (_ | dn) _ _ σ ⟨I, x, ac, b, rfl, J, rfl, L, hm⟩
   ·cases hm
   unfold Vm.zem at hm
   refine sr (Lw.lt rfl (nl (Cw.seq (cn hm (fun hm => ?_) fun hm => ?_))))
   ·refine sk ?_
    obtain ⟨co, cp, hm⟩ := zc1 hm
    refine Cw.join 61 68 [15] (fun l w => ∃ M ae y, CW.w y = w ∧ Le [6] b y ∧ l = [ae] ∧ Ow y 6 [] [h] M ∧ co M = some r) ?_ ?_
    ·rintro _ _ σ ⟨M, ae, y, rfl, cq, rfl, ct, hm⟩
     rw [cp] at hm
     exact rg (Lw.add rfl (mi rfl (nl ((agm) ⟨w64 (I + 1), M, ae, y, rfl, (J.j cq).w, rfl, ct, hm⟩))))
    ·refine Cw.block (sr ?_)
     obtain ⟨a9, ba, hm⟩ := ob hm
     refine Lw.r rfl (R.ix (α := Int) (aa.up J).rd ba rfl rfl rfl) (Lw.r rfl (R.ld rfl rfl ((aa.up J).rd.at_ ba).int) (Ni rfl (sr (mi rfl (mi rfl (Lw.ne rfl (nl (cn hm (fun hm => ?_) fun hm => ?_))))))))
     ·refine rg (mv h rfl (mi rfl ?_))
      obtain ⟨dp, cu, hm⟩ := ob hm
      refine Lw.r rfl (R.ix (α := Bool) L.rd cu rfl rfl rfl) ?_
      obtain ⟨cv, cw, hm⟩ := ob hm
      refine Lw.u (T.stS (K' := []) L (rdB _) cw rfl rfl rfl) ?_
      rintro _ _ ⟨cx, rfl, cy, cz⟩
      exact nl ((ag) ⟨cv, vI a9, cx, rfl, cy, rfl, cz, hm⟩)
     ·exact sk ((ag) ⟨x, vI a9, b, rfl, Le.refl _ _, rfl, L, hm⟩)
   ·refine Cw.exit ?_
    rw [cm] at hm
    exact rg (Lw.add rfl (mi rfl (nl ((agm) ⟨w64 (F + 1), x, vI a1, ac, b, rfl, (((k.j a5).j a8).j J).w, rfl, L, hm⟩))))
  ·refine Cw.exit ?_
   rw [cj] at hm
   refine sr (mv h rfl (cr hm (fun _ => p127 (K := [6]) (k0 := 10) a0.rd) ?_))
   rintro dq bb dr hm c0 ⟨_, rfl, c1⟩
   have c2 := Z.n c0
   refine Nv bb rfl ?_
   cases hm
   exact Cw.ret (zlh rfl (Res.mk c2 ⟨bb, rfl, c1.s.sub rfl rfl⟩))
theorem p137 {x0 b d x1 x2 k0 r} (f : Rd W K [b, d] x0) (hm : Vm.zg4 x0 x1 x2 = some r) : Q1 137 [.agg [b, d].toArray, vI x1, vI x2] W [] fun W' v => ∃ a, v = a ∧ Ow W' k0 [] [a] r :=
 (c137 (f.view _) hm).ad (fk k0) fun _ _ ⟨a, e, h⟩ => ⟨a, e, h.back (zkb _)⟩
theorem c79 {x0 d e x1 x2 r} (H : Rd W0 [0] [d, e] x0) (hm : Vm.zfC x0 x1 x2 = some r) : Q0 79 [.agg [d, e].toArray, vI x1, vI x2] W0 fun Wf v => ∃ x, v = x ∧ Rd Wf [0] [x] r := by
 unfold Vm.zfC at hm
 obtain ⟨Q, S, y, z, A⟩ := Repo.split H
 simp only [List.cons.injEq, and_true, true_and] at y
 obtain ⟨rfl, rfl⟩ := y
 refine zaI.of Tryz.func79 rfl rfl rfl rfl (sr (bo 2 rfl fun U V I B => ?_))
 have f := I.o
 refine Nv (.slice none 0 0) rfl (sr (la B (mi rfl (mi rfl (cr hm (fun _ => p137 (k0 := 3) (Repo.rd (K := [0]) x0.Commits x0.Heads (z.ul f) (A.ul f))) ?_)))))
 rintro C a W hm D ⟨_, rfl, E⟩
 have F := f.n D
 refine Nv a rfl (ssr (mv a rfl (Lw.ln C E.rd rfl (Lw.eq rfl (nl (cn hm (fun hm => ?_) fun hm => ?_))))))
 ·refine sr (Nv (.slice none 0 0) rfl ?_)
  cases hm
  exact Cw.ret (zlh rfl (Res.mk F ⟨.slice none 0 0, rfl, (rdN (K := [0]))⟩))
 ·refine sk (Cw.seq (Cw.draw [] [(0, 1), (1, 0), (2, 0), (3, 0), (4, 0), (5, 0), (6, 1), (7, 3), (8, 0)] mixed (by kernel_rfl) fun X h => ?_))
  have i := F.n h
  have b := E.up h
  refine Mw.q rfl rfl (fun _ c => R.lda (cs := [d, e]) (((B.up D).up h).clcs rfl c) rfl rfl) (Dv a rfl (Dv a rfl (Mw.p rfl rfl (fun _ => zrU (xs := C) b.rd rfl) (Mw.p rfl rfl (fun _ => R.sub rfl rfl) ?_))))
  obtain ⟨Y, k, hm⟩ := ob hm
  refine Mw.p rfl rfl (fun _ => R.ix (α := Int) b.rd k rfl rfl rfl) (Mw.q rfl rfl (fun _ c => R.ld rfl rfl (zaE (b.rd.at_ k).1 rfl (b.rd.at_ k).int c)) ?_)
  obtain ⟨Z, J, hm⟩ := ob hm
  refine Mw.l rfl rfl (T.call rfl (p80  (Repo.rd (K := [0]) x0.Commits x0.Heads (z.ul i) (A.ul i)) J)) ?_
  rintro G _ ⟨aa, rfl, L, ⟨_, rfl, N⟩⟩
  have O := N.sub (M := [0]) rfl
  have P := i.n L
  refine Hv G rfl (Mw.nil ?_)
  cases hm
  exact Cw.ret (zlh rfl (Res.mk P ⟨G, rfl, O⟩))
theorem p79 {x0 b d x1 x2 r} (f : Rd W K [b, d] x0) (hm : Vm.zfC x0 x1 x2 = some r) : Q1 79 [.agg [b, d].toArray, vI x1, vI x2] W [] fun W' v => ∃ a, v = a ∧ Rd W' (0 :: K) [a] r :=
 (c79 (f.view _) hm).ad (fk 0) fun _ _ ⟨a, e, h⟩ => ⟨a, e, h.back rfl⟩
theorem c19 {x0 d e x1 x2 r} (P : Rd W0 [0] [d, e] x0) (B : Gl 0 W0 [0]) (hm : Vm.zgZ x0 x1 x2 = some r) : Q0 19 [.agg [d, e].toArray, vI x1, vI x2] W0 fun Wf v => ∃ C, v = .tuple [C, vB r.2].toArray ∧ OwS (α := List (Sh Vm.File)) Wf LL [0] [C] r.1 := by
 unfold Vm.zgZ at hm
 obtain ⟨au, av, D, h, i⟩ := Repo.split P
 simp only [List.cons.injEq, and_true, true_and] at D
 obtain ⟨rfl, rfl⟩ := D
 refine zaI.of Tryz.func19 rfl rfl rfl rfl (sr (bo 2 rfl fun g1 Q S E => ?_))
 have U := S.o
 refine Gv (.slice none 0 0) rfl (Nb rfl (ssr (la E (mi rfl (mi rfl (Lw.t rfl (T.bsS (α := Int) (xs := [x1, x2]) 3 [] (W := Q) [vI x1, vI x2] (Each.cons ((rdI _)) (Each.cons ((rdI _)) Each.nil)) rfl) ?_))))))
 rintro v3 _ ⟨W3, rfl, F, V⟩
 have k := U.n F
 refine ca hm (fun _ => p78 (K := [0, 3]) ((Repo.rd (K := [0]) x0.Commits x0.Heads (h.ul k) (i.ul k)).sub (M := [0, 3]) rfl) (V.rd.sub (M := [0, 3]) rfl) ((B.ul k).sub (M := [0, 3]) rfl)) fun z9 a0 hm G => ?_
 have H := k.n G
 refine Lw.r rfl (R.not rfl) (nl (cn hm (fun hm => ?_) fun hm => ?_))
 ·refine sr (Gv (.slice none 0 0) rfl (Nb rfl ?_))
  cases hm
  exact Cw.ret (zmZ rfl rfl (Res.mk H ⟨.slice none 0 0, rfl, (zo4 [0]).sub rfl rfl⟩))
 ·refine sk (Cw.seq (Cw.draw [] [(0, 1), (1, 0), (2, 0), (4, 1), (5, 0), (7, 1), (8, 0), (3, 2), (6, 2), (9, 2), (10, 2), (11, 0), (12, 0), (13, 0), (14, 0)] mixed (by kernel_rfl) fun a1 I => ?_))
  have z := H.n I
  have A := ((E.up F).up G).up I
  refine Mw.q rfl rfl (fun _ c => R.lda (cs := [d, e]) (A.clcs rfl c) rfl rfl) (Di rfl (Di rfl (Mw.q rfl rfl (fun _ c => R.lda (cs := [d, e]) (A.clcs rfl c) rfl rfl) (Di rfl (Mw.q rfl rfl (fun _ c => R.lda (cs := [d, e]) (A.clcs rfl c) rfl rfl) (Di rfl ?_))))))
  obtain ⟨a3, X, hm⟩ := ob hm
  refine Mw.t rfl rfl (T.call rfl (p79  (Repo.rd (K := [0]) x0.Commits x0.Heads (h.ul z) (i.ul z)) X)) ?_
  rintro a5 _ ⟨a6, rfl, J, ⟨_, rfl, Y⟩⟩
  have Z := Y.sub (M := [0]) rfl
  have a := z.n J
  refine m0 J fun aa => ?_
  obtain ⟨a7, ac, hm⟩ := ob hm
  refine Mw.t rfl rfl (T.call rfl (p80  (Repo.rd (K := [0]) x0.Commits x0.Heads (h.ul a) (i.ul a)) ac)) ?_
  rintro a8 _ ⟨a9, rfl, L, ⟨_, rfl, ae⟩⟩
  have af := ae.sub (M := [0]) rfl
  have f := L.o
  refine mc aa L fun ah => ?_
  obtain ⟨ba, ai, hm⟩ := ob hm
  refine Mw.t rfl rfl (T.call rfl (p80  (Repo.rd (K := [0]) x0.Commits x0.Heads (h.ul (a.trans f)) (i.ul (a.trans f))) ai)) ?_
  rintro bb _ ⟨bc, rfl, N, ⟨_, rfl, aj⟩⟩
  have ak := aj.sub (M := [0]) rfl
  have x := N.o
  refine mc ah N fun am => ?_
  obtain ⟨y, an, hm⟩ := ob hm
  refine Mw.t rfl rfl (T.call rfl (p47 (k0 := 4) (Z.ul (f.trans x)) (af.ul x) ak (B.ul ((a.trans f).trans x)) an)) ?_
  rintro _ _ ⟨ao, rfl, O, ⟨b, rfl, ap⟩⟩
  have aq : Ow (α := List (Sh Vm.File)) ao 4 [0] [b] y.1 := ap.sub rfl
  have ar := ((a.trans f).trans x).n O
  refine mc am O fun be => Mw.p rfl rfl (fun _ => R.ext (vs := [b, vB y.2]) (v := b) rfl rfl) (Mw.p rfl rfl (fun _ => R.ext (vs := [b, vB y.2]) (v := vB y.2) rfl rfl) (Hv b rfl (Hb rfl (Mw.nil ?_))))
  cases hm
  exact Cw.ret (zmZ rfl rfl (Res.mk ar ⟨b, rfl, aq.s.sub rfl rfl⟩))
theorem p19 {x0 b d x1 x2 k0 r} (f : Rd W K [b, d] x0) (h : Gl 0 W K) (hm : Vm.zgZ x0 x1 x2 = some r) : Q1 19 [.agg [b, d].toArray, vI x1, vI x2] W [] fun W' v => ∃ a, v = .tuple [a, vB r.2].toArray ∧ Ow (α := List (Sh Vm.File)) W' k0 (0 :: K) [a] r.1 :=
 (c19 (f.view _) (h.view _) hm).ad (fk k0) fun _ _ ⟨a, e, i⟩ => ⟨a, e, i.backS (zkb _) rfl⟩
theorem c20 {x0 z A x1 x2 r} (X : Rd W0 [0] [z, A] x0) (hm : Vm.zhQ x0 x1 x2 = some r) : Q0 20 [.agg [z, A].toArray, vI x1, vI x2] W0 fun Wf v => ∃ I, v = .tuple [I, vB r.2].toArray ∧ OwS Wf LL [] [I] r.1 := by
 unfold Vm.zhQ at hm
 obtain ⟨az, a0, J, i, L⟩ := Repo.split X
 simp only [List.cons.injEq, and_true, true_and] at J
 obtain ⟨rfl, rfl⟩ := J
 refine zaI.of Tryz.func20 rfl rfl rfl rfl (sr (bo 2 rfl fun g1 Y Z k => ?_))
 have x := Z.o
 refine Gv (.slice none 0 0) rfl (Nb rfl (Cw.seq ?_))
 obtain ⟨K5, ac, hm⟩ := zc1 hm
 refine Cw.join 10 30 [30] (fun l w => ∃ B C, CW.w C = w ∧ Le [] Y C ∧ l = [vB B] ∧ K5 B = some r) ?_ ?_
 ·rintro _ _ σ ⟨B, C, rfl, N, rfl, hm⟩
  rw [ac] at hm
  have O := x.n N
  refine cn hm (fun hm => ?_) fun hm => ?_
  ·refine sr (Gv (.slice none 0 0) rfl (Nb rfl ?_))
   cases hm
   exact Cw.ret (zmZ rfl rfl (Res.mk O ⟨.slice none 0 0, rfl, (zoh []).sub rfl rfl⟩))
  ·refine sk (Cw.seq (Cw.draw [] [(0, 1), (1, 0), (2, 0), (4, 0), (5, 1), (6, 0), (7, 0), (8, 0), (9, 1), (10, 0), (11, 1), (12, 0), (13, 0), (14, 0), (15, 1), (3, 2), (16, 2), (17, 0), (18, 0), (19, 0), (20, 0), (21, 0)] mixed (by kernel_rfl) fun W9 P => ?_))
   have D := O.n P
   have E := (k.up N).up P
   refine Mw.q rfl rfl (fun _ c => R.lda (cs := [z, A]) (E.clcs rfl c) rfl rfl) (Di rfl (Di rfl (Dfl E rfl rfl rfl (Di rfl ?_))))
   obtain ⟨a4, F, hm⟩ := ob hm
   have a := i.ul D
   refine Mw.p rfl rfl (fun _ => R.ix (α := Commit) a F rfl rfl rfl) (Df rfl ?_)
   obtain ⟨a5, c16, r17⟩ := (Commit.at2 (a.at_ F)).cell rfl
   refine Mw.q rfl rfl (fun _ c => R.ld rfl rfl (zaE (Commit.at2 (a.at_ F)).1 rfl c16 c)) (Dfl E rfl rfl rfl (Di rfl ?_))
   obtain ⟨a7, G, hm⟩ := ob hm
   refine Mw.p rfl rfl (fun _ => R.ix (α := Commit) a G rfl rfl rfl) (Df rfl ?_)
   obtain ⟨a8, c21, r22⟩ := (Commit.at2 (a.at_ G)).cell rfl
   refine Mw.q rfl rfl (fun _ c => R.ld rfl rfl (zaE (Commit.at2 (a.at_ G)).1 rfl c21 c)) ?_
   obtain ⟨a9, ae, hm⟩ := ob hm
   refine Mw.t rfl rfl (T.call rfl (p82  (Repo.rd (K := [0]) x0.Commits x0.Heads a (L.ul D)) ae)) ?_
   rintro ba _ ⟨bb, rfl, Q, ⟨_, rfl, af⟩⟩
   have ah := af.sub (M := [0]) rfl
   have H := Q.o
   refine m0 Q fun ai => ?_
   obtain ⟨aj, ak, hm⟩ := ob hm
   refine Mw.t rfl rfl (T.call rfl (p81 (k0 := 3) (k1 := 4) ah (r17.ul H) (r22.ul H) ak)) ?_
   rintro _ _ ⟨bc, rfl, S, ⟨b, d, rfl, am, an⟩⟩
   have U := (D.trans H).n S
   refine mc ai S fun be => Dv (.tuple [b, d].toArray) rfl (Mw.p rfl rfl (fun _ => R.ext (vs := [b, d]) (v := b) rfl rfl) (Mw.p rfl rfl (fun _ => R.ext (vs := [b, d]) (v := d) rfl rfl) (Hv b rfl (Hv d rfl (Mw.nil (ssr (mv d rfl (Lw.ln aj.2 an.rd rfl (Lw.gt rfl (nl (cn hm (fun hm => ?_) fun hm => ?_)))))))))))
   ·refine sr (Gv (.slice none 0 0) rfl (Nb rfl ?_))
    cases hm
    exact Cw.ret (zmZ rfl rfl (Res.mk U ⟨.slice none 0 0, rfl, (zoh []).sub rfl rfl⟩))
   ·refine sk (sr (mv b rfl (cr hm (fun _ => p83 (K := [3]) (k0 := 5) am.rd) ?_)))
    rintro bg V bh hm ao ⟨_, rfl, ap⟩
    have aq := U.n ao
    refine Gv V rfl (Nb rfl ?_)
    cases hm
    exact Cw.ret (zmZ rfl rfl (Res.mk aq ⟨V, rfl, ap.s.sub rfl rfl⟩))
 ·refine rg (la k (ca hm (fun _ => p55 (Repo.rd (K := [0]) x0.Commits x0.Heads (i.ul x) (L.ul x))) fun bi ar hm e => ?_))
  have W := x.n e
  refine Lw.r rfl (R.not rfl) (mb rfl (bs hm (fun f hm => ?_) fun f hm => ?_))
  ·exact psk 7 f rfl (Pb f rfl (mb rfl (psk 7 rfl rfl (Pb rfl rfl (nl ((ag) ⟨true, ar, rfl, e, rfl, hm⟩))))))
  ·refine wak 7 f (mi rfl (fl (k.up e) rfl (Lw.ln x0.Commits (i.ul W) rfl (Lw.sub rfl (ca hm (fun _ => p57) fun bj au hm y => ?_)))))
   have av := W.n y
   refine Lw.r rfl (R.not rfl) (Pb f rfl (mb rfl (bs hm (fun h hm => ?_) fun h hm => ?_)))
   ·exact psk 7 h rfl (Pb h rfl (nl ((ag) ⟨true, au, rfl, (e.j y).w, rfl, hm⟩)))
   ·exact wak 7 h (mi rfl (fl ((k.up e).up y) rfl (Lw.ln x0.Commits (i.ul av) rfl (Lw.sub rfl (ca hm (fun _ => p57) fun aw ax hm ay => Lw.r rfl (R.not rfl) (Pb h rfl (nl ((ag) ⟨(!aw), ax, rfl, ((e.j y).j ay).w, rfl, hm⟩))))))))
theorem p20 {x0 b d x1 x2 k0 r} (f : Rd W K [b, d] x0) (hm : Vm.zhQ x0 x1 x2 = some r) : Q1 20 [.agg [b, d].toArray, vI x1, vI x2] W [] fun W' v => ∃ a, v = .tuple [a, vB r.2].toArray ∧ Ow W' k0 [] [a] r.1 :=
 (c20 (f.view _) hm).ad (fk k0) fun _ _ ⟨a, e, h⟩ => ⟨a, e, h.back (zkb _)⟩
theorem c24 {x0 i k x1 x2 r} (G : Rd W0 [0] [i, k] x0) (H : Gl 0 W0 [0]) (hm : Vm.zkp x0 x1 x2 = some r) : Q0 24 [.agg [i, k].toArray, vI x1, vI x2] W0 fun Wf v => v = vB r := by
 unfold Vm.zkp at hm
 obtain ⟨X, Y, x, y, z⟩ := Repo.split G
 simp only [List.cons.injEq, and_true, true_and] at x
 obtain ⟨rfl, rfl⟩ := x
 refine zaI.of Tryz.func24 rfl rfl rfl rfl (sr (bo 2 rfl fun Z A I B => ?_))
 have C := I.o
 refine Nb rfl ?_
 obtain ⟨J, L, hm⟩ := zc1 hm
 refine Cw.join 7 19 [6] (fun l w => ∃ f h, CW.w h = w ∧ Le [] A h ∧ l = [vB f] ∧ J f = some r) ?_ ?_
 ·rintro _ _ σ ⟨f, h, rfl, N, rfl, hm⟩
  rw [L] at hm
  have O := C.n N
  exact .ret (rt hm O)
 ·refine rg (la B (mi rfl (mi rfl (Lw.t rfl (T.bsS (α := Int) (xs := [x1, x2]) 3 [] (W := A) [vI x1, vI x2] (Each.cons ((rdI _)) (Each.cons ((rdI _)) Each.nil)) rfl) ?_))))
  rintro v8 _ ⟨W8, rfl, b, P⟩
  have d := C.n b
  refine ca hm (fun _ => p78 (K := [0, 3]) ((Repo.rd (K := [0]) x0.Commits x0.Heads (y.ul d) (z.ul d)).sub (M := [0, 3]) rfl) (P.rd.sub (M := [0, 3]) rfl) ((H.ul d).sub (M := [0, 3]) rfl)) fun ae Q hm e => ?_
  have D := d.n e
  refine mb rfl (bs hm (fun a hm => ?_) fun a hm => ?_)
  ·refine wak 6 a (la ((B.up b).up e) (mi rfl (cr hm (fun _ => p89 (k0 := 4) (Repo.rd (K := [0]) x0.Commits x0.Heads (y.ul D) (z.ul D))) ?_)))
   rintro af ah S hm U ⟨_, rfl, E⟩
   refine mi rfl ?_
   obtain ⟨V, F, hm⟩ := ob hm
   exact Lw.r rfl (R.ix (α := Bool) E.rd F rfl rfl rfl) (Lw.r rfl (R.ld rfl rfl (E.rd.at_ F).bool) (Pb a rfl (Nb rfl ((ag) ⟨V, S, rfl, ((b.j e).j U).w, rfl, hm⟩))))
  ·exact psk 6 a rfl (Pb a rfl (Nb rfl ((ag) ⟨false, Q, rfl, (b.j e).w, rfl, hm⟩)))
theorem p24 {x0 a b x1 x2 r} (d : Rd W K [a, b] x0) (f : Gl 0 W K) (hm : Vm.zkp x0 x1 x2 = some r) : Q1 24 [.agg [a, b].toArray, vI x1, vI x2] W [] fun W' v => v = vB r :=
 (c24 (d.view _) (f.view _) hm).ad (fk 0) fun _ _ e => e
theorem c4 {x0 Z r} (h0 : Rd W0 [0] [Z] x0) (G : Gl 0 W0 [0]) (hm : Vm.zhs x0 = some r) : Q0 4 [Z] W0 fun Wf v => v = vB r := by
 unfold Vm.zhs at hm
 refine zaI.of Tryz.func4 rfl rfl rfl rfl (sr (Nb rfl (ssr (mv Z rfl (Lw.ln x0 h0 rfl (Lw.gt rfl (nl (cn hm (fun hm => ?_) fun hm => ?_))))))))
 ·exact sr (Nb rfl (.ret (rt hm (Le.refl _ _))))
 ·refine sk (sr (mv Z rfl (cr hm (fun _ => p18 (k0 := 2) (k1 := 3) h0) ?_)))
  rintro a _ W4 hm l4 ⟨H, I, rfl, ay, az⟩
  have a5 := l4.o
  refine mv (.tuple [.agg [H, I].toArray, vI a.2.1, vI a.2.2].toArray) rfl (Lw.r rfl (R.ext (vs := [.agg [H, I].toArray, vI a.2.1, vI a.2.2]) (v := .agg [H, I].toArray) rfl rfl) (Lw.r rfl (R.ext (vs := [.agg [H, I].toArray, vI a.2.1, vI a.2.2]) (v := vI a.2.1) rfl rfl) (Lw.r rfl (R.ext (vs := [.agg [H, I].toArray, vI a.2.1, vI a.2.2]) (v := vI a.2.2) rfl rfl) (al 4 [.slice none 0 0, .slice none 0 0] fun g6 W6 J b6 => ?_))))
  have a7 := a5.n J
  refine sta b6 (zab (ay.up J).oc (zab (az.up J).oc za3)) fun ct l10 ai => ?_
  have a0 := a7.t l10
  have aj := (ay.up J).up l10
  have ak := (az.up J).up l10
  refine Gi rfl (Ni rfl (sr (la ai (mi rfl (mi rfl (cr hm (fun _ => p19 (K := [0, 2, 3]) (k0 := 5) (x0 := (Vm.Repo.mk a.1.Commits a.1.Heads)) ((Repo.rd (K := [2, 3]) a.1.Commits a.1.Heads (aj.rd.sub (M := [2, 3]) rfl) (ak.rd.sub (M := [2, 3]) rfl)).sub (M := [0, 2, 3]) rfl) ((G.ul a0).sub (M := [0, 2, 3]) rfl)) ?_))))))
  rintro h _ bl hm y ⟨b, rfl, bm⟩
  have a1 : Ow (α := List (Sh Vm.File)) bl 5 [0, 2, 3] [b] h.1 := bm.sub rfl
  have bn := a0.n y
  refine mv (.tuple [b, vB h.2].toArray) rfl (Lw.r rfl (R.ext (vs := [b, vB h.2]) (v := b) rfl rfl) (Lw.r rfl (R.ext (vs := [b, vB h.2]) (v := vB h.2) rfl rfl) (Gv b rfl (Nb rfl (sr (la (ai.up y) (mi rfl (mi rfl (cr hm (fun _ => p20 (K := [2, 3]) (k0 := 6) (x0 := (Vm.Repo.mk a.1.Commits a.1.Heads)) (Repo.rd (K := [2, 3]) a.1.Commits a.1.Heads ((aj.up y).rd.sub (M := [2, 3]) rfl) ((ak.up y).rd.sub (M := [2, 3]) rfl))) ?_)))))))))
  rintro aa _ am hm B ⟨z, rfl, a2⟩
  have a3 := bn.n B
  have ac := (aj.up y).up B
  have an := (ak.up y).up B
  have ae := (ai.up y).up B
  refine mv (.tuple [z, vB aa.2].toArray) rfl (Lw.r rfl (R.ext (vs := [z, vB aa.2]) (v := z) rfl rfl) (Lw.r rfl (R.ext (vs := [z, vB aa.2]) (v := vB aa.2) rfl rfl) (Gv z rfl (Nb rfl (Cw.seq ?_)))))
  obtain ⟨bp, bq, hm⟩ := zc1 hm
  refine Cw.join 37 72 [72] (fun l w => ∃ ao C, CW.w C = w ∧ Le [] am C ∧ l = [vB ao] ∧ bp ao = some r) ?_ ?_
  ·rintro _ _ σ ⟨ao, C, rfl, i, rfl, hm⟩
   rw [bq] at hm
   have ap := a3.n i
   have a4 := (a1.up B).up i
   refine cn hm (fun hm => ?_) fun hm => ?_
   ·obtain ⟨br, bu, hm⟩ := zc1 hm
    refine Cw.join 73 80 [2] (fun l w => ∃ aq ar, CW.w ar = w ∧ Le [] C ar ∧ l = [vB aq] ∧ br aq = some r) ?_ ?_
    ·rintro _ _ σ ⟨aq, ar, rfl, bv, rfl, hm⟩
     rw [bu] at hm
     have bw := ap.n bv
     exact .ret (rt hm bw)
    ·refine rg (mb rfl (mb rfl (Lw.r rfl (R.beq rfl rfl) (mb rfl (bs hm (fun L hm => ?_) fun L hm => ?_)))))
     ·refine wak 3 L (mv b rfl (mv z rfl ?_))
      have bz : Rd (α := List Vm.File) C [5, 0, 2, 3] [b] h.1 := Ow.rdSh a4
      exact ca hm (fun _ => p21 (K := [0, 2, 3, 5, 6]) (bz.sub (M := [0, 2, 3, 5, 6]) rfl) ((a2.up i).rd.sub (M := [0, 2, 3, 5, 6]) rfl)) fun b0 b1 hm b2 => Pb L rfl (Nb rfl ((ag) ⟨b0, b1, rfl, b2, rfl, hm⟩))
     ·exact psk 3 L rfl (Pb L rfl (Nb rfl ((ag) ⟨false, C, rfl, Le.refl _ _, rfl, hm⟩)))
   ·refine sk (sr (la (ae.up i) (mi rfl (mi rfl (cr hm (fun _ => p19 (K := [0, 2, 3]) (k0 := 7) (x0 := (Vm.Repo.mk a.1.Commits a.1.Heads)) ((Repo.rd (K := [2, 3]) a.1.Commits a.1.Heads ((ac.up i).rd.sub (M := [2, 3]) rfl) ((an.up i).rd.sub (M := [2, 3]) rfl)).sub (M := [0, 2, 3]) rfl) ((G.ul ap).sub (M := [0, 2, 3]) rfl)) ?_)))))
    rintro D _ b3 hm N ⟨x, rfl, b4⟩
    have b5 : Ow (α := List (Sh Vm.File)) b3 7 [0, 2, 3] [x] D.1 := b4.sub rfl
    have a6 := ap.n N
    have a8 := (ac.up i).up N
    have a9 := (an.up i).up N
    have ba := (ae.up i).up N
    refine mv (.tuple [x, vB D.2].toArray) rfl (Lw.r rfl (R.ext (vs := [x, vB D.2]) (v := x) rfl rfl) (Lw.r rfl (R.ext (vs := [x, vB D.2]) (v := vB D.2) rfl rfl) (Gv x rfl (Nb rfl (sr (la ba (mi rfl (cr hm (fun _ => p23 (K := [0, 2, 3]) (k0 := 8) (x0 := (Vm.Repo.mk a.1.Commits a.1.Heads)) ((Repo.rd (K := [2, 3]) a.1.Commits a.1.Heads (a8.rd.sub (M := [2, 3]) rfl) (a9.rd.sub (M := [2, 3]) rfl)).sub (M := [0, 2, 3]) rfl) ((G.ul a6).sub (M := [0, 2, 3]) rfl)) ?_))))))))
    rintro af _ ah hm E ⟨F, rfl, b7⟩
    have bb := a6.n E
    have bc := (a4.up N).up E
    refine mv (.tuple [F, vB af.2].toArray) rfl (Lw.r rfl (R.ext (vs := [F, vB af.2]) (v := F) rfl rfl) (Lw.r rfl (R.ext (vs := [F, vB af.2]) (v := vB af.2) rfl rfl) (Gv F rfl (Nb rfl ?_))))
    obtain ⟨b8, b9, hm⟩ := zc1 hm
    refine Cw.join 94 116 [2] (fun l w => ∃ au av, CW.w av = w ∧ Le [] ah av ∧ l = [vB au] ∧ b8 au = some r) ?_ ?_
    ·rintro _ _ σ ⟨au, av, rfl, cb, rfl, hm⟩
     rw [b9] at hm
     have cc := bb.n cb
     exact .ret (rt hm cc)
    ·refine rg (mb rfl (mb rfl (Lw.r rfl (R.beq rfl rfl) (mb rfl (bs hm (fun O hm => ?_) fun O hm => ?_)))))
     ·refine wak 3 O (mv x rfl (mv b rfl ?_))
      have cd : Rd (α := List Vm.File) ah [7, 0, 2, 3] [x] D.1 := Ow.rdSh (b5.up E)
      have ce : Rd (α := List Vm.File) ah [5, 0, 2, 3] [b] h.1 := Ow.rdSh bc
      refine ca hm (fun _ => p21 (K := [0, 2, 3, 5, 7]) (cd.sub (M := [0, 2, 3, 5, 7]) rfl) (ce.sub (M := [0, 2, 3, 5, 7]) rfl)) fun cu cf hm f => ?_
      have cg := bb.n f
      refine Pb O rfl (mb rfl (bs hm (fun e hm => ?_) fun e hm => ?_))
      ·refine wak 6 e (la ((ba.up E).up f) (mi rfl (mi rfl (ca hm (fun _ => p24 (K := [0, 2, 3]) (x0 := (Vm.Repo.mk a.1.Commits a.1.Heads)) ((Repo.rd (K := [2, 3]) a.1.Commits a.1.Heads (((a8.up E).up f).rd.sub (M := [2, 3]) rfl) (((a9.up E).up f).rd.sub (M := [2, 3]) rfl)).sub (M := [0, 2, 3]) rfl) ((G.ul cg).sub (M := [0, 2, 3]) rfl)) fun cv aw hm P => Lw.r rfl (R.not rfl) (mb rfl (bs hm (fun k hm => ?_) fun k hm => ?_))))))
       ·exact psk 2 k rfl (puk 3 rfl (psk 1 k rfl (wak 1 e (Pb k rfl (Pb e rfl (Nb rfl ((ag) ⟨true, aw, rfl, (f.j P).w, rfl, hm⟩)))))))
       ·refine wak 2 k (mb rfl (mb rfl (bs hm (fun Q hm => ?_) fun Q hm => ?_)))
        ·refine wak 3 Q (mv b rfl (mv F rfl ?_))
         have ch : Rd (α := List Vm.File) aw [5, 0, 2, 3] [b] h.1 := Ow.rdSh ((bc.up f).up P)
         exact ca hm (fun _ => p21 (K := [0, 2, 3, 5, 8]) (ch.sub (M := [0, 2, 3, 5, 8]) rfl) (((b7.up f).up P).rd.sub (M := [0, 2, 3, 5, 8]) rfl)) fun ci cj hm ck => wak 1 k (Pb Q rfl (wak 1 e (Pb k rfl (Pb e rfl (Nb rfl ((ag) ⟨ci, cj, rfl, ((f.j P).j ck).w, rfl, hm⟩))))))
        ·exact psk 3 Q rfl (wak 1 k (Pb Q rfl (wak 1 e (Pb k rfl (Pb e rfl (Nb rfl ((ag) ⟨false, aw, rfl, (f.j P).w, rfl, hm⟩)))))))
      ·exact psk 6 e rfl (puk 6 rfl (psk 1 e rfl (Pb e rfl (Nb rfl ((ag) ⟨false, cf, rfl, f, rfl, hm⟩)))))
     ·exact psk 3 O rfl (Pb O rfl (mb rfl (psk 6 rfl rfl (puk 6 rfl (psk 1 rfl rfl (Pb rfl rfl (Nb rfl ((ag) ⟨false, ah, rfl, Le.refl _ _, rfl, hm⟩))))))))
  ·refine rg (mb rfl (mb rfl (Lw.r rfl (R.bne rfl rfl) (mb rfl (bs hm (fun S hm => ?_) fun S hm => ?_)))))
   ·exact psk 4 S rfl (Pb S rfl (mb rfl (psk 3 rfl rfl (Pb rfl rfl (mb rfl (psk 2 rfl rfl (Pb rfl rfl (mb rfl (psk 2 rfl rfl (Pb rfl rfl (mb rfl (psk 5 rfl rfl (Pb rfl rfl (mb rfl (psk 5 rfl rfl (Pb rfl rfl (nl ((ag) ⟨true, am, rfl, Le.refl _ _, rfl, hm⟩))))))))))))))))))
   ·refine wak 4 S (mv b rfl (mv z rfl ?_))
    have cl : Rd (α := List Vm.File) am [5, 0, 2, 3] [b] h.1 := Ow.rdSh (a1.up B)
    refine ca hm (fun _ => p21 (K := [0, 2, 3, 5, 6]) (cl.sub (M := [0, 2, 3, 5, 6]) rfl) (a2.rd.sub (M := [0, 2, 3, 5, 6]) rfl)) fun cw cm hm d => ?_
    have co := a3.n d
    refine Lw.r rfl (R.not rfl) (Pb S rfl (mb rfl (bs hm (fun T hm => ?_) fun T hm => ?_)))
    ·exact psk 3 T rfl (Pb T rfl (mb rfl (psk 2 rfl rfl (Pb rfl rfl (mb rfl (psk 2 rfl rfl (Pb rfl rfl (mb rfl (psk 5 rfl rfl (Pb rfl rfl (mb rfl (psk 5 rfl rfl (Pb rfl rfl (nl ((ag) ⟨true, cm, rfl, d, rfl, hm⟩)))))))))))))))
    ·refine wak 3 T (la (ae.up d) (ca hm (fun _ => p22 (K := [0, 2, 3]) (x0 := (Vm.Repo.mk a.1.Commits a.1.Heads)) ((Repo.rd (K := [2, 3]) a.1.Commits a.1.Heads ((ac.up d).rd.sub (M := [2, 3]) rfl) ((an.up d).rd.sub (M := [2, 3]) rfl)).sub (M := [0, 2, 3]) rfl) ((G.ul co).sub (M := [0, 2, 3]) rfl)) fun cx U hm A => ?_))
     have be := (ac.up d).up A
     have bg := (ae.up d).up A
     refine Lw.r rfl (R.not rfl) (Pb T rfl (mb rfl (bs hm (fun V hm => ?_) fun V hm => ?_)))
     ·exact psk 2 V rfl (Pb V rfl (mb rfl (psk 2 rfl rfl (Pb rfl rfl (mb rfl (psk 5 rfl rfl (Pb rfl rfl (mb rfl (psk 5 rfl rfl (Pb rfl rfl (nl ((ag) ⟨true, U, rfl, (d.j A).w, rfl, hm⟩))))))))))))
     ·refine wak 2 V (mi rfl (Lw.lt rfl (Pb V rfl (mb rfl (bs hm (fun W hm => ?_) fun W hm => ?_)))))
      ·exact psk 2 W rfl (Pb W rfl (mb rfl (psk 5 rfl rfl (Pb rfl rfl (mb rfl (psk 5 rfl rfl (Pb rfl rfl (nl ((ag) ⟨true, U, rfl, (d.j A).w, rfl, hm⟩)))))))))
      ·refine wak 2 W (mi rfl (Lw.lt rfl (Pb W rfl (mb rfl (bs hm (fun X hm => ?_) fun X hm => ?_)))))
       ·exact psk 5 X rfl (Pb X rfl (mb rfl (psk 5 rfl rfl (Pb rfl rfl (nl ((ag) ⟨true, U, rfl, (d.j A).w, rfl, hm⟩))))))
       ·refine wak 5 X (mi rfl (fl bg rfl (Lw.ln a.1.Commits be.rd rfl (Lw.ge rfl (Pb X rfl (mb rfl (bs hm (fun Y hm => ?_) fun Y hm => ?_)))))))
        ·exact psk 5 Y rfl (Pb Y rfl (nl ((ag) ⟨true, U, rfl, (d.j A).w, rfl, hm⟩)))
        ·exact wak 5 Y (mi rfl (fl bg rfl (Lw.ln a.1.Commits be.rd rfl (Lw.ge rfl (Pb Y rfl (nl ((ag) ⟨decide (((a.1.Commits.length : Int) : Int) ≤ (a.2.2 : Int)), U, rfl, (d.j A).w, rfl, hm⟩)))))))
theorem p4 {x0 a r} (b : Rd W K [a] x0) (d : Gl 0 W K) (hm : Vm.zhs x0 = some r) : Q1 4 [a] W [] fun W' v => v = vB r :=
 (c4 (b.view _) (d.view _) hm).ad (fk 0) fun _ _ e => e
end Go.Sx
