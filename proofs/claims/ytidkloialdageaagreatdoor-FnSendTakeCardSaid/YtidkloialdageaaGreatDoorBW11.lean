/- Walks: each function answers as its model, printed by a program of ours. Conditions: the arguments read as they are given. -/
import Derived.Test.YtidkloialdageaaGreatDoorBTs
import Derived.Test.YtidkloialdageaaGreatDoorBM5
import Derived.Test.YtidkloialdageaaGreatDoorBW0
import Derived.Test.YtidkloialdageaaGreatDoorBW1
import Derived.Test.YtidkloialdageaaGreatDoorBW2
import Derived.Test.YtidkloialdageaaGreatDoorBW3
import Derived.Test.YtidkloialdageaaGreatDoorBW5
import Derived.Test.YtidkloialdageaaGreatDoorBW6
import Derived.Test.YtidkloialdageaaGreatDoorBW7
import Derived.Test.YtidkloialdageaaGreatDoorBW9
namespace Go.Sx
open Go Go.Proofs Go.Vm Rp
set_option linter.unusedVariables false
set_option linter.unusedSimpArgs false

variable {W W0 : CW} {K : List Nat}
theorem c65 {x0 v0_ r} (h0 : Rd W0 [0] [v0_] x0) (hm : Vm.spec_DrawSendTake x0 = some r) : Q0 65 [v0_] W0 fun Wf v => ∃ u0_0 u0_1 u1 u2, v = .tuple [.agg [u0_0, u0_1].toArray, u1, u2, vS r.2.2.2].toArray ∧ OwS Wf [31] [] [u0_0] r.1.Commits ∧ OwS Wf [32] [] [u0_1] r.1.Heads ∧ OwS Wf [33] [] [u1] r.2.1 ∧ OwS Wf [34] [] [u2] r.2.2.1 := by
 unfold Vm.spec_DrawSendTake at hm
 refine CallR.of Tryz.func65 rfl rfl rfl rfl (sr (al 2 [.slice none 0 0, .slice none 0 0] fun g1 W1 l1 b1 => ?_))
 have a2 := l1.o
 refine Gv (.slice none 0 0) rfl (Gv (.slice none 0 0) rfl (Ns rfl (sr (mv v0_ rfl (cr hm (fun _ => p81 (k0 := 3) (h0.ul a2)) ?_)))))
 rintro z4 _ W6 hm l6 ⟨g0_6, v0_0_6, rfl, f6_0, f6_1⟩
 have s7 := f6_1.sub (M := [0]) rfl
 have a8 := a2.n l6
 refine Np rfl (sr (mp rfl (cr hm (fun _ => p135 (k0 := 4) (k1 := 5) (c0 := 3) (x0 := z4) f6_0 s7 rfl) ?_)))
 rintro z10 _ W12 hm l12 ⟨v0_0_12, v0_1_12, rfl, f12_0, f12_1, f12_2⟩
 have a13 := l12.s
 refine al 6 [.slice none 0 0, .slice none 0 0] fun g15 W15 l15 b15 => ?_
 have a16 := l15.o
 refine sta b15 (oc_cons (f12_0.up l15).oc (oc_cons (f12_1.up l15).oc oc_nil)) fun W21 l21 b21 => ?_
 have a22 := l21.s
 refine nl (sr (Lw.t rfl (T.lit0 (α := Int) 7 []) ?_))
 rintro v27 _ ⟨W27, rfl, l27, o27⟩
 have a28 := l27.o
 have o29 := ((f12_0.up l15).up l21).up l27
 have o30 := ((f12_1.up l15).up l21).up l27
 have b32 := ((f12_2.up l15).up l21).up l27
 have b33 := b21.up l27
 refine Nv v27 rfl ?_
 obtain ⟨K43, hK43, hm⟩ := jn_e hm
 refine Cw.join 16 26 [8] (fun l w => ∃ y34 y37 y40 v35 v38 W42, CW.w W42 = w ∧ Le [3, 12] W27 W42 ∧ l = [v35] ∧ Ow W42 7 [] [v35] y34 ∧ Rd W42 [0] [v38] y37 ∧ Bx W42 3 g0_6 [v38, vI y40] ∧ K43 y34 y37 y40 = some r) ?_ ?_
 ·rintro _ _ σ ⟨y34, y37, y40, v35, v38, W42, rfl, l42, rfl, o36, r39, b41, hm⟩
  rw [hK43] at hm
  have a44 := ((((a8.trans a13).trans a16).trans a22).trans a28).t l42
  refine Cw.seq (Cw.draw [3] [(0, 1), (1, 0), (2, 0), (3, 1), (4, 2), (5, 2), (6, 0), (7, 0), (8, 0), (9, 0), (10, 0)] mixed (by kernel_rfl) fun W49 l49 => ?_)
  have a50 := l49.o
  have o51 := (o29.up l42).up l49
  have o52 := (o30.up l42).up l49
  have b56 := (b33.up l42).up l49
  refine Mw.q rfl rfl (fun _ c => R.lda (cs := [v0_0_12, v0_1_12]) (b56.clcs rfl c) rfl rfl) (Dv v35 rfl (Dp rfl (Mw.q rfl rfl (fun _ c => R.lda (cs := [v0_0_12, v0_1_12]) (b56.clcs rfl c) rfl rfl) ?_)))
  obtain ⟨z58, e59, hm⟩ := ob hm
  refine Mw.t rfl rfl (T.call rfl (p83 (K := [0, 4, 5])  (c0 := 3) (x0 := (Vm.l30Rd.mk y37 y40)) (x1 := (Vm.Repo.mk z10.1.Commits z10.1.Heads)) (b41.up l49) ((r39.ul a50).sub (M := [0, 4, 5]) rfl) ((Repo.rd (K := [4, 5]) z10.1.Commits z10.1.Heads (o51.rd.sub (M := [4, 5]) rfl) (o52.rd.sub (M := [4, 5]) rfl)).sub (M := [0, 4, 5]) rfl) rfl e59)) ?_
  rintro _ _ ⟨W60, rfl, l60, ⟨rfl, f60_0⟩⟩
  have a61 := l60.s
  have o64 := (o36.up l49).up l60
  refine m0 l60 fun d60 => ?_
  obtain ⟨z67, e68, hm⟩ := ob hm
  refine Mw.t rfl rfl (T.call rfl (p45 (K := [4, 5, 7]) (k0 := 8) (x0 := (Vm.Repo.mk z10.1.Commits z10.1.Heads)) ((Repo.rd (K := [4, 5]) z10.1.Commits z10.1.Heads ((o51.up l60).rd.sub (M := [4, 5]) rfl) ((o52.up l60).rd.sub (M := [4, 5]) rfl)).sub (M := [4, 5, 7]) rfl) (o64.rd.sub (M := [4, 5, 7]) rfl) e68)) ?_
  rintro _ _ ⟨W69, rfl, l69, ⟨v0_69, rfl, f69_0⟩⟩
  have a70 := l69.o
  refine mc d60 l69 fun d69 => Dv (.tuple [v0_69, vB z67.2].toArray) rfl (Mw.p rfl rfl (fun _ => R.ext (vs := [v0_69, vB z67.2]) (v := v0_69) rfl rfl) (Mw.p rfl rfl (fun _ => R.ext (vs := [v0_69, vB z67.2]) (v := vB z67.2) rfl rfl) (Hv v0_69 rfl (Hb rfl (Mw.nil ?_)))))
  obtain ⟨K81, hK81, hm⟩ := jn_e hm
  refine Cw.join 36 40 [9] (fun l w => ∃ y77 v78 W80, CW.w W80 = w ∧ Le [] W69 W80 ∧ l = [v78] ∧ Ow W80 8 [] [v78] y77 ∧ K81 y77 = some r) ?_ ?_
  ·rintro _ _ σ ⟨y77, v78, W80, rfl, l80, rfl, o79, hm⟩
   rw [hK81] at hm
   have a82 := l80.o
   have b87 := (f60_0.up l69).up l80
   obtain ⟨K97, hK97, hm⟩ := jn_e hm
   refine Cw.join 41 55 [] (fun l w => ∃ y89 y92 y94 v90 W96, CW.w W96 = w ∧ Le [3, 8, 11] W80 W96 ∧ l = [] ∧ Rd W96 [0] [v90] y89 ∧ Bx W96 3 g0_6 [v90, vI y92] ∧ Ow W96 8 [] [v78] y94 ∧ K97 y89 y92 y94 = some r) ?_ ?_
   ·rintro _ _ σ ⟨y89, y92, y94, v90, W96, rfl, l96, rfl, r91, b93, o95, hm⟩
    rw [hK97] at hm
    have a98 := ((((a44.trans a50).trans a61).trans a70).trans a82).t l96
    refine Cw.seq (Cw.draw [3] [(0, 1), (1, 0), (2, 0), (3, 0), (4, 2), (5, 2), (6, 3), (7, 0), (8, 0), (9, 0)] mixed (by kernel_rfl) fun W104 l104 => ?_)
    have a105 := l104.o
    refine Mw.q rfl rfl (fun _ c => R.lda (cs := [v0_0_12, v0_1_12]) ((((((b56.up l60).up l69).up l80).up l96).up l104).clcs rfl c) rfl rfl) (Dv v35 rfl (Dv v78 rfl (Dp rfl (Mw.t rfl rfl (T.bsS (α := Str) (xs := [([110, 101, 119] : Str), ([109, 97, 105, 110] : Str), ([120] : Str)]) 9 [] (W := W104) [vS ([110, 101, 119] : Str), vS ([109, 97, 105, 110] : Str), vS ([120] : Str)] (Each.cons ((rdS _)) (Each.cons ((rdS _)) (Each.cons ((rdS _)) Each.nil))) rfl) ?_))))
    rintro v113 _ ⟨W113, rfl, l113, o113⟩
    have a114 := l113.o
    refine m0 l113 fun d113 => ?_
    obtain ⟨z123, e124, hm⟩ := ob hm
    refine Mw.t rfl rfl (T.call rfl (p102 (K := [0, 9])  (c0 := 3) (x0 := (Vm.l30Rd.mk y89 y92)) ((b93.up l104).up l113) ((r91.ul (a105.trans a114)).sub (M := [0, 9]) rfl) (o113.rd.sub (M := [0, 9]) rfl) rfl e124)) ?_
    rintro _ _ ⟨W125, rfl, l125, ⟨rfl, f125_0⟩⟩
    have a126 := ((a98.trans a105).trans a114).t l125
    have o127 := ((((((o51.up l60).up l69).up l80).up l96).up l104).up l113).up l125
    have o128 := ((((((o52.up l60).up l69).up l80).up l96).up l104).up l113).up l125
    refine mc d113 l125 fun d125 => Mw.lu rfl (T.sta (vs := [v0_0_12, v0_1_12]) ((((((((((((((b1.up l6).up l12).up l15).up l21).up l27).up l42).up l49).up l60).up l69).up l80).up l96).up l104).up l113).up l125) rfl rfl (oc_cons o127.oc (oc_cons o128.oc oc_nil)) rfl rfl) ?_
    rintro _ _ ⟨W134, rfl, l134, b134⟩
    have a135 := a126.t l134
    refine Hv v35 rfl (Hv v78 rfl (Hs rfl (Mw.nil ?_)))
    obtain ⟨W143, ew143, l143, o143⟩ := (o127.up l134).dyeO 31
    have a144 := a135.t l143
    obtain ⟨W152, ew152, l152, o152⟩ := ((o128.up l134).up l143).dyeO 32
    have a153 := a144.t l152
    obtain ⟨W161, ew161, l161, o161⟩ := (((((((((o64.up l69).up l80).up l96).up l104).up l113).up l125).up l134).up l143).up l152).dyeO 33
    have a162 := a153.t l161
    obtain ⟨W170, ew170, l170, o170⟩ := (((((((o95.up l104).up l113).up l125).up l134).up l143).up l152).up l161).dyeO 34
    have a171 := a162.t l170
    cases hm
    rw [← ew170.trans (ew161.trans (ew152.trans (ew143)))]
    exact Cw.ret (retG (ResOk.c rfl ((((b134.up l143).up l152).up l161).up l170) (ResOk.t rfl (ResOk.t rfl (ResOk.t rfl ResOk.n)))) (Res.mk a171 ⟨v0_0_12, v0_1_12, v35, v78, rfl, (((o143.up l152).up l161).up l170).s, ((o152.up l161).up l170).s, (o161.up l170).s, o170.s⟩))
   ·obtain ⟨K186, hK186, hm⟩ := jn_e hm
    refine Cw.join 41 48 [48] (fun l w => ∃ y179 y180 y183 v181 W185, CW.w W185 = w ∧ Le [3] W80 W185 ∧ l = [vB y179] ∧ Rd W185 [0] [v181] y180 ∧ Bx W185 3 g0_6 [v181, vI y183] ∧ K186 y179 y180 y183 = some r) ?_ ?_
    ·rintro _ _ σ ⟨y179, y180, y183, v181, W185, rfl, l185, rfl, r182, b184, hm⟩
     rw [hK186] at hm
     refine cn hm (fun hm => ?_) fun hm => ?_
     ·refine rg (mv v78 rfl (mp rfl (Lw.t rfl (T.bsS (α := Int) (xs := [(-99), 5, 0]) 10 [] (W := W185) [vI (-99), vI 5, vI 0] (Each.cons ((rdI _)) (Each.cons ((rdI _)) (Each.cons ((rdI _)) Each.nil))) rfl) ?_)))
      rintro v195 _ ⟨W195, rfl, l195, o195⟩
      have a196 := l195.o
      refine cr hm (fun _ => p136 (K := [0, 10]) (c0 := 3) (x0 := (Vm.l30Rd.mk y180 y183)) (b184.up l195) ((r182.ul a196).sub (M := [0, 10]) rfl) (o195.rd.sub (M := [0, 10]) rfl) rfl) ?_
      rintro z205 _ W207 hm l207 ⟨rfl, f207_0⟩
      have a208 := a196.t l207
      refine Lw.t rfl (T.bsS (α := Int) (xs := [z205.1]) 11 [] (W := W207) [vI z205.1] (Each.cons ((rdI _)) Each.nil) rfl) ?_
      rintro v216 _ ⟨W216, rfl, l216, o216⟩
      have a217 := a208.n l216
      have o221 := (((o79.up l185).up l195).up l207).up l216
      obtain ⟨u226, e227, hm⟩ := ob hm
      refine Lw.r rfl (R.ix (α := Commit) o221.rd e227 rfl rfl rfl) (Lw.fa rfl ?_)
      obtain ⟨q229, e230, hm⟩ := ob hm
      refine Lw.u (T.stH (α := Commit) (β := List Int) (J := [11]) (Ow.hole (α := Commit) (β := List Int) (jf := 0) o221 e227) o216.s e230 rfl rfl rfl rfl) ?_
      rintro _ _ ⟨W228, rfl, l228, o228⟩
      have a231 := a217.t l228
      exact nl ((ag) ⟨y180, z205.2, q229, v181, W228, rfl, ((((l185.j l195).j l207).j l216).j l228).w, rfl, (r182.ul a231), ((f207_0.up l216).up l228), o228, hm⟩)
     ·exact sk ((ag) ⟨y180, y183, y77, v181, W185, rfl, l185.w, rfl, r182, b184, (o79.up l185), hm⟩)
    ·refine rg (mv v78 rfl (Lw.ln y77 o79.rd rfl (Lw.gt rfl (mb rfl (bs hm (fun hc240 hm => ?_) fun hc240 hm => ?_)))))
     ·refine wak 3 hc240 (mp rfl (cr hm (fun _ => p85 (c0 := 3) (x0 := (Vm.l30Rd.mk y37 z58.2)) b87 (r39.ul (((a50.trans a61).trans a70).trans a82)) rfl) ?_))
      rintro z242 _ W244 hm l244 ⟨rfl, f244_0⟩
      have a245 := (((a50.trans a61).trans a70).trans a82).t l244
      exact Lw.eq rfl (Pb hc240 rfl (nl ((ag) ⟨((z242.1 : Int) == (0 : Int)), y37, z242.2, v38, W244, rfl, l244, rfl, (r39.ul a245), f244_0, hm⟩)))
     ·exact psk 3 hc240 rfl (Pb hc240 rfl (nl ((ag) ⟨false, y37, z58.2, v38, W80, rfl, Le.refl _ _, rfl, (r39.ul (((a50.trans a61).trans a70).trans a82)), b87, hm⟩)))
  ·refine sr (mv v0_69 rfl (Lw.ln z67.1 f69_0.rd rfl (Lw.gt rfl (nl (cn hm (fun hm => ?_) fun hm => ?_)))))
   ·refine rg (mv v0_69 rfl ?_)
    obtain ⟨q255, e256, hm⟩ := ob hm
    have o257 := f69_0.preM e256
    exact Lw.r rfl (R.sl f69_0.rd e256 rfl (.inl ⟨rfl, rfl⟩) (.inr rfl)) (Nv (cutV v0_69 (0 : Int).toNat (3 : Int).toNat (Rp.sz (Commit))) rfl ((ag) ⟨q255, (cutV v0_69 (0 : Int).toNat (3 : Int).toNat (Rp.sz (Commit))), W69, rfl, Le.refl _ _, rfl, o257, hm⟩))
   ·exact sk ((ag) ⟨z67.1, v0_69, W69, rfl, Le.refl _ _, rfl, f69_0, hm⟩)
 ·refine sr (fl b33 rfl (Lw.ln z10.1.Commits o29.rd rfl (Lw.gt rfl (nl (cn hm (fun hm => ?_) fun hm => ?_)))))
  ·refine Cw.draw [3] [(0, 1), (1, 0), (2, 0), (3, 1), (4, 0), (5, 2), (6, 2), (7, 0)] mixed (by kernel_rfl) fun W259 l259 => ?_
   have a260 := (((a13.trans a16).trans a22).trans a28).n l259
   refine Mw.q rfl rfl (fun _ c => R.lda (cs := [v0_0_12, v0_1_12]) ((b33.up l259).clcs rfl c) rfl rfl) (Dp rfl (Dfl (b33.up l259) rfl rfl rfl (Mw.p rfl rfl (fun _ => lenR (xs := z10.1.Commits) (o29.up l259).rd rfl) ?_)))
   obtain ⟨z268, e269, hm⟩ := ob hm
   refine Mw.t rfl rfl (T.call rfl (p85  (c0 := 3) (x0 := (Vm.l30Rd.mk z4.b z10.2)) (b32.up l259) (s7.ul a260) rfl e269)) ?_
   rintro _ _ ⟨W270, rfl, l270, ⟨rfl, f270_0⟩⟩
   have a271 := a260.t l270
   refine m0 l270 fun d270 => ?_
   obtain ⟨z277, e278, hm⟩ := ob hm
   refine Mw.t rfl rfl (T.call rfl (p106 (K := [4, 5]) (k0 := 12) (x0 := (Vm.Repo.mk z10.1.Commits z10.1.Heads)) (Repo.rd (K := [4, 5]) z10.1.Commits z10.1.Heads (((o29.up l259).up l270).rd.sub (M := [4, 5]) rfl) (((o30.up l259).up l270).rd.sub (M := [4, 5]) rfl)) e278)) ?_
   rintro v0_279 _ ⟨W279, rfl, l279, ⟨_, rfl, f279_0⟩⟩
   have a280 := a271.n l279
   refine mc d270 l279 fun d279 => Hv v0_279 rfl (Mw.nil ?_)
   obtain ⟨W287, ew287, l287, o287⟩ := f279_0.dyeO 7
   have a288 := a280.t l287
   exact (ag) ⟨z277, z4.b, z268.2, v0_279, v0_0_6, W287, ew287, (((l259.j l270).j l279).j l287).w, rfl, o287, (s7.ul a288), ((f270_0.up l279).up l287), hm⟩
  ·exact sk ((ag) ⟨([] : List Int), z4.b, z10.2, v27, v0_0_6, W27, rfl, Le.refl _ _, rfl, o27, (s7.ul (((a13.trans a16).trans a22).trans a28)), b32, hm⟩)

theorem p65 {x0 v0_ k0 k1 k2 k3 r} (h0 : Rd W K [v0_] x0) (hm : Vm.spec_DrawSendTake x0 = some r) : Q1 65 [v0_] W [] fun W' v => ∃ u0_0 u0_1 u1 u2, v = .tuple [.agg [u0_0, u0_1].toArray, u1, u2, vS r.2.2.2].toArray ∧ Ow W' k0 [] [u0_0] r.1.Commits ∧ Ow W' k1 [] [u0_1] r.1.Heads ∧ Ow W' k2 [] [u1] r.2.1 ∧ Ow W' k3 [] [u2] r.2.2.1 :=
 CallR.adJ (J := []) (fun c => bif Nat.beq c 0 then 0 else bif Nat.beq c 31 then k0 else bif Nat.beq c 32 then k1 else bif Nat.beq c 33 then k2 else bif Nat.beq c 34 then k3 else 0) (c65 (h0.view _) hm) fun _ _ ⟨u0_0, u0_1, u1, u2, e, f0, f1, f2, f3⟩ => ⟨u0_0, u0_1, u1, u2, e, f0.one1.backN rfl, f1.one1.backN rfl, f2.one1.backN rfl, f3.one1.backN rfl⟩

theorem c67 {x0 v0_0_ v0_1_ x1 v1_ x2 v2_ x3 r} (h0 : Rd W0 [0] [v0_0_, v0_1_] x0) (h1 : Rd W0 [0] [v1_] x1) (h2 : Rd W0 [0] [v2_] x2) (hm : Vm.spec_SendTake x0 x1 x2 x3 = some r) : Q0 67 [.agg [v0_0_, v0_1_].toArray, v1_, v2_, vS x3] W0 fun Wf v => ∃ u0_0 u0_1, v = .tuple [.agg [u0_0, u0_1].toArray, vB r.2].toArray ∧ Rd Wf [0] [u0_0] r.1.Commits ∧ Rd Wf [0] [u0_1] r.1.Heads := by
 unfold Vm.spec_SendTake at hm
 obtain ⟨w0_0, w0_1, he0, h0_0, h0_1⟩ := Repo.split h0
 simp only [List.cons.injEq, and_true, true_and] at he0
 obtain ⟨rfl, rfl⟩ := he0
 refine CallR.of Tryz.func67 rfl rfl rfl rfl (sr (bo 2 rfl fun g1 W1 l1 b1 => ?_))
 have a2 := l1.o
 refine al 3 [.slice none 0 0, .slice none 0 0] fun g3 W3 l3 b3 => ?_
 have a4 := a2.n l3
 refine Nb rfl (ssr (la (b1.up l3) (ca hm (fun _ => p74 (Repo.rd (K := [0]) x0.Commits x0.Heads (h0_0.ul a4) (h0_1.ul a4))) fun z8 W10 hm l10 => ?_)))
 have a11 := a4.n l10
 have b12 := (b1.up l3).up l10
 refine Lw.r rfl (R.not rfl) (nl (cn hm (fun hm => ?_) fun hm => ?_))
 ·refine sr (Lw.r rfl (R.bd (zs := [.slice none 0 0, .slice none 0 0]) (cs := [.slice none 0 0, .slice none 0 0]) [] rfl rfl rfl bp_nil) (sta (b3.up l10) (oc_cons rfl (oc_cons rfl oc_nil)) fun W15 l15 b15 => ?_))
  have a16 := a11.t l15
  refine Nb rfl ?_
  cases hm
  exact Cw.ret (retA2 rfl b15 rfl (Res.mk a16 ⟨.slice none 0 0, .slice none 0 0, rfl, (rdN (K := [0])), (rdN (K := [0]))⟩))
 ·refine sk (sr (la b12 (cr hm (fun _ => p75 (k0 := 4) (k1 := 5) (Repo.rd (K := [0]) x0.Commits x0.Heads (h0_0.ul a11) (h0_1.ul a11))) ?_)))
  rintro z20 _ W22 hm l22 ⟨v0_0_22, v0_1_22, rfl, f22_0, f22_1⟩
  have a23 := a11.n l22
  refine al 6 [.slice none 0 0, .slice none 0 0] fun g26 W26 l26 b26 => ?_
  have a27 := a23.n l26
  refine sta b26 (oc_cons (f22_0.up l26).oc (oc_cons (f22_1.up l26).oc oc_nil)) fun W32 l32 b32 => ?_
  have a33 := a27.t l32
  have b36 := ((b12.up l22).up l26).up l32
  refine nl (sr (fl b36 rfl (Lw.ln x0.Commits (h0_0.ul a33) rfl (Ni rfl (sr (Ni rfl ?_))))))
  obtain ⟨K41, hK41, hm⟩ := jn_e hm
  refine Cw.join 26 31 [12] (fun l w => ∃ y39 W40, CW.w W40 = w ∧ Le [] W32 W40 ∧ l = [vI y39] ∧ K41 y39 = some r) ?_ ?_
  ·rintro _ _ σ ⟨y39, W40, rfl, l40, rfl, hm⟩
   rw [hK41] at hm
   have a42 := a33.n l40
   refine ssr (Ni rfl (Cw.block ?_))
   obtain ⟨K69, hK69, hm⟩ := jn_e hm
   refine Cw.loop 32 98 [9, 12, 13, 14, 15, 16] (fun m l w => ∃ y48 y49 y50 y54 y57 y61 y64 j51 j52 j53 v55 v58 v62 v65 W68, CW.w W68 = w ∧ Le [4, 6, 9, 10, 11] W40 W68 ∧ l = [vB y48, vI y49, vI y50, j51, j52, j53] ∧ Ow W68 4 [] [v55] y54 ∧ Ow W68 5 [] [v58] y57 ∧ Bx W68 6 g26 [v55, v58] ∧ Ow W68 7 [] [v62] y61 ∧ Ow W68 8 [] [v65] y64 ∧ Bx W68 3 g3 [v62, v65] ∧ Vm.spec_SendTake_l1 x0 x1 x2 K69 m y48 y49 y50 y54 y57 y61 y64 = some r) _ ⟨false, y39, 0, z20.Commits, z20.Heads, ([] : List Commit), ([] : List Head), undef, undef, undef, v0_0_22, v0_1_22, .slice none 0 0, .slice none 0 0, W40, rfl, Le.refl _ _, rfl, (((f22_0.up l26).up l32).up l40), (((f22_1.up l26).up l32).up l40), (b32.up l40), owN 7 [], owN 8 [], (((((b3.up l10).up l22).up l26).up l32).up l40), hm⟩ ?_
   rintro (_ | m70) _ _ σ ⟨y48, y49, y50, y54, y57, y61, y64, j51, j52, j53, v55, v58, v62, v65, W68, rfl, l68, rfl, o56, o59, b60, o63, o66, b67, hm⟩
   ·cases hm
   unfold Vm.spec_SendTake_l1 at hm
   have a71 := a42.t l68
   have b72 := (b36.up l40).up l68
   refine ssr (mi rfl (mv v2_ rfl (Lw.ln x2 (h2.ul a71) rfl (Lw.lt rfl (nl (cn hm (fun hm => ?_) fun hm => ?_))))))
   ·refine sk (Cw.seq (Cw.block (sr (mv v2_ rfl (mi rfl ?_)))))
    obtain ⟨u75, e76, hm⟩ := ob hm
    refine Lw.r rfl (R.ix (α := Commit) (h2.ul a71) e76 rfl rfl rfl) ?_
    obtain ⟨x77, c78, _, r79⟩ := ((h2.ul a71).at_ e76).cells
    obtain ⟨v80, v82, rfl, r81, r83⟩ := Commit.split r79
    refine Lw.r rfl (R.lda c78 rfl rfl) (cr hm (fun _ => p119 (k0 := 9) (k1 := 10) (Commit.rd (K := [0]) u75.Parents u75.Who u75.Tree r81 r83)) ?_)
    rintro z84 _ W86 hm l86 ⟨v0_0_86, v0_2_86, rfl, f86_0, f86_1⟩
    have a87 := a71.n l86
    refine al 11 [.slice none 0 0, vS ([] : Str), .slice none 0 0] fun g95 W95 l95 b95 => ?_
    have a96 := a87.n l95
    refine sta b95 (oc_cons (f86_0.up l95).oc (oc_cons rfl (oc_cons (f86_1.up l95).oc oc_nil))) fun W106 l106 b106 => ?_
    have a107 := a96.t l106
    refine nl (ssr (Ni rfl (Cw.block ?_)))
    obtain ⟨K130, hK130, hm⟩ := jn_e hm
    refine Cw.loop 43 88 [9, 15, 16] (fun m l w => ∃ y117 y118 y120 y123 y127 j119 v121 v124 W129, CW.w W129 = w ∧ Le [9] W106 W129 ∧ l = [vB y117, vI y118, j119] ∧ Ow W129 7 [] [v121] y120 ∧ Ow W129 8 [] [v124] y123 ∧ Bx W129 3 g3 [v121, v124] ∧ Ow W129 9 [] [v0_0_86] y127 ∧ Vm.spec_SendTake_l2 x0 x1 y50 K130 m y117 y118 y120 y123 y127 = some r) _ ⟨y48, 0, y61, y64, z84.Parents, j53, v62, v65, W106, rfl, Le.refl _ _, rfl, (((o63.up l86).up l95).up l106), (((o66.up l86).up l95).up l106), (((b67.up l86).up l95).up l106), ((f86_0.up l95).up l106), hm⟩ ?_
    rintro (_ | m131) _ _ σ ⟨y117, y118, y120, y123, y127, j119, v121, v124, W129, rfl, l129, rfl, o122, o125, b126, o128, hm⟩
    ·cases hm
    unfold Vm.spec_SendTake_l2 at hm
    have a132 := a107.t l129
    have b137 := (((b60.up l86).up l95).up l106).up l129
    have b138 := b106.up l129
    refine ssr (mi rfl (fl b138 rfl (Lw.ln y127 o128.rd rfl (Lw.lt rfl (nl (cn hm (fun hm => ?_) fun hm => ?_))))))
    ·refine sk ?_
     obtain ⟨K152, hK152, hm⟩ := jn_e hm
     refine Cw.join 50 88 [9, 16] (fun l w => ∃ y140 y142 y145 y149 j141 v143 v146 W151, CW.w W151 = w ∧ Le [9] W129 W151 ∧ l = [vB y140, j141] ∧ Ow W151 7 [] [v143] y142 ∧ Ow W151 8 [] [v146] y145 ∧ Bx W151 3 g3 [v143, v146] ∧ Ow W151 9 [] [v0_0_86] y149 ∧ K152 y140 y142 y145 y149 = some r) ?_ ?_
     ·rintro _ _ σ ⟨y140, y142, y145, y149, j141, v143, v146, W151, rfl, l151, rfl, o144, o147, b148, o150, hm⟩
      rw [hK152] at hm
      exact rg (mi rfl (Lw.add rfl (Ni rfl ((agm) ⟨y140, w64 (y118 + 1), y142, y145, y149, j141, v143, v146, W151, rfl, (l129.j l151).w, rfl, o144, o147, b148, o150, hm⟩))))
     ·refine Cw.block (sr (fl b138 rfl (mi rfl ?_)))
      obtain ⟨u160, e161, hm⟩ := ob hm
      refine Lw.r rfl (R.ix (α := Int) o128.rd e161 rfl rfl rfl) (Lw.r rfl (R.ld rfl rfl (o128.rd.at_ e161).int) (Ni rfl (Cw.block (sr (mi rfl (mi rfl (Lw.sub rfl (ca hm (fun _ => p84) fun z162 W164 hm l164 => ?_))))))))
      have a165 := a132.n l164
      have o170 := o128.up l164
      refine Nb rfl (cn hm (fun hm => ?_) fun hm => ?_)
      ·refine rg (fl (b138.up l164) rfl (mi rfl (mi rfl (mi rfl (Lw.add rfl ?_)))))
       obtain ⟨u177, e178, hm⟩ := ob hm
       refine Lw.r rfl (R.ix (α := Int) o170.rd e178 rfl rfl rfl) ?_
       obtain ⟨q180, e181, hm⟩ := ob hm
       refine Lw.u (T.stS (K' := []) o170 (rdI _) e181 rfl rfl rfl) ?_
       rintro _ _ ⟨W179, rfl, l179, o179⟩
       exact nl ((ag) ⟨y117, y120, y123, q180, vI u160, v121, v124, W179, rfl, (l164.j l179).w, rfl, ((o122.up l164).up l179), ((o125.up l164).up l179), ((b126.up l164).up l179), o179, hm⟩)
      ·obtain ⟨K194, hK194, hm⟩ := jn_e hm
       refine Cw.join 69 79 [69] (fun l w => ∃ y192 W193, CW.w W193 = w ∧ Le [] W164 W193 ∧ l = [vB y192] ∧ K194 y192 = some r) ?_ ?_
       ·rintro _ _ σ ⟨y192, W193, rfl, l193, rfl, hm⟩
        rw [hK194] at hm
        have a195 := a165.n l193
        have b203 := (b126.up l164).up l193
        refine cn hm (fun hm => ?_) fun hm => ?_
        ·refine Cw.draw [] [(0, 0), (1, 1), (2, 0), (3, 0), (4, 0), (5, 0), (6, 0), (7, 1), (8, 0), (9, 3)] mixed (by kernel_rfl) fun W207 l207 => ?_
         have a208 := a195.n l207
         have o213 := (o170.up l193).up l207
         refine Dfl (((b138.up l164).up l193).up l207) rfl rfl rfl (Di rfl (Dv v1_ rfl (Di rfl (Mw.p rfl rfl (fun _ => R.sub rfl rfl) ?_))))
         obtain ⟨u219, e220, hm⟩ := ob hm
         refine Mw.p rfl rfl (fun _ => R.ix (α := Int) (h1.ul a208) e220 rfl rfl rfl) (Mw.q rfl rfl (fun _ c => R.ld rfl rfl (cl_cell ((h1.ul a208).at_ e220).1 rfl ((h1.ul a208).at_ e220).int c)) ?_)
         obtain ⟨u222, e223, hm⟩ := ob hm
         refine Mw.p rfl rfl (fun _ => R.ix (α := Int) o213.rd e223 rfl rfl rfl) ?_
         obtain ⟨q225, e226, hm⟩ := ob hm
         refine Mw.lu rfl (T.stS (K' := []) o213 (rdI _) e226 rfl rfl rfl) ?_
         rintro _ _ ⟨W224, rfl, l224, o224⟩
         exact Mw.nil ((ag) ⟨y117, y120, y123, q225, vI u160, v121, v124, W224, rfl, (((l164.j l193).j l207).j l224).w, rfl, ((((o122.up l164).up l193).up l207).up l224), ((((o125.up l164).up l193).up l207).up l224), ((b203.up l207).up l224), o224, hm⟩)
        ·refine sr (la ((((((b72.up l86).up l95).up l106).up l129).up l164).up l193) (cr hm (fun _ => p75 (k0 := 12) (k1 := 13) (Repo.rd (K := [0]) x0.Commits x0.Heads (h0_0.ul a195) (h0_1.ul a195))) ?_))
         rintro z239 _ W241 hm l241 ⟨v0_0_241, v0_1_241, rfl, f241_0, f241_1⟩
         have a242 := a195.n l241
         refine sta (b203.up l241) (oc_cons f241_0.oc (oc_cons f241_1.oc oc_nil)) fun W253 l253 b253 => ?_
         have a254 := a242.t l253
         refine Nb rfl ?_
         obtain ⟨W266, ew266, l266, dj266⟩ := dyeE _ 12
         have s267 : Rd (α := List Vm.Commit) W266 [0] [v0_0_241] z239.Commits := by rw [dj266]; exact ((f241_0.up l253).rd.dye 12).sub (M := [0]) rfl
         have a268 := a254.t l266
         obtain ⟨W280, ew280, l280, dj280⟩ := dyeE _ 13
         have s281 : Rd (α := List Vm.Head) W280 [0] [v0_1_241] z239.Heads := by rw [dj280]; exact (((f241_1.up l253).up l266).rd.dye 13).sub (M := [0]) rfl
         have a282 := l280.s
         cases hm
         rw [← ew280.trans (ew266)]
         exact Cw.ret (retA2 rfl ((b253.up l266).up l280) rfl (Res.mk (a268.trans a282) ⟨v0_0_241, v0_1_241, rfl, (s267.ul a282), s281⟩))
       ·refine rg (mi rfl (Lw.sub rfl (mv v1_ rfl (Lw.ln x1 (h1.ul a165) rfl (Lw.sub rfl (ca hm (fun _ => p84) fun z295 W297 hm l297 => mb rfl (bs hm (fun hc309 hm => ?_) fun hc309 hm => ?_)))))))
        ·exact wak 2 hc309 (mi rfl (Lw.lt rfl (Pb hc309 rfl (Nb rfl ((ag) ⟨decide ((u160 : Int) < (0 : Int)), W297, rfl, l297, rfl, hm⟩)))))
        ·exact psk 2 hc309 rfl (Pb hc309 rfl (Nb rfl ((ag) ⟨false, W297, rfl, l297, rfl, hm⟩)))
    ·refine Cw.exit ?_
     rw [hK130] at hm
     refine sr (fl b137 rfl (la b138 (Lw.t rfl (T.bs 14 [.agg [v0_0_86, vS z84.Who, v0_2_86].toArray] (cs := [v0_0_86, vS z84.Who, v0_2_86]) rfl rfl (bsA rfl)) ?_)))
     rintro _ _ ⟨g310, W310, rfl, rfl, l310, b310⟩
     obtain ⟨q322, e323, hm⟩ := ob hm
     refine Lw.t rfl (T.app1 (α := Commit) (J := [9, 10]) (K' := []) (((((o56.up l86).up l95).up l106).up l129).up l310) b310 (Commit.own y127 z84.Who z84.Tree (o128.up l310).s ((((f86_1.up l95).up l106).up l129).up l310).s) rfl rfl e323) ?_
     rintro v324 _ ⟨W324, rfl, l324, o324⟩
     refine Lw.fa rfl (Lw.u (T.st (j := 0) (v := v324) ((b137.up l310).up l324) rfl rfl o324.oc rfl rfl) ?_)
     rintro _ _ ⟨W334, rfl, l334, b334⟩
     exact nl (rg (fl b334 rfl (Lw.ln q322 (o324.up l334).rd rfl (Lw.sub rfl (Ni rfl (rg (mi rfl (Lw.add rfl (Ni rfl ((agm) ⟨y117, w64 ((q322.length : Int) - 1), w64 (y50 + 1), q322, y57, y120, y123, ptr (bx g95), vI y118, j119, v324, v58, v121, v124, W334, rfl, (((((((l68.j l86).j l95).j l106).j l129).j l310).j l324).j l334).w, rfl, (o324.up l334), (((((((o59.up l86).up l95).up l106).up l129).up l310).up l324).up l334), b334, (((o122.up l310).up l324).up l334), (((o125.up l310).up l324).up l334), (((b126.up l310).up l324).up l334), hm⟩))))))))))
   ·refine Cw.exit ?_
    rw [hK69] at hm
    refine sr (la b60 (ms rfl (mi rfl (cr hm (fun _ => p129 (K := [4, 5]) (x0 := (Vm.Repo.mk y54 y57)) (Repo.rd (K := [4, 5]) y54 y57 (o56.rd.sub (M := [4, 5]) rfl) (o59.rd.sub (M := [4, 5]) rfl))) ?_))))
    rintro z344 _ W346 hm l346 ⟨v0_0_346, v0_1_346, rfl, f346_0, f346_1⟩
    have s347 := f346_0.sub (M := [0, 4, 5]) rfl
    have s348 := f346_1.sub (M := [0, 4, 5]) rfl
    have a349 := a71.n l346
    refine sta (b60.up l346) (oc_cons s347.oc (oc_cons s348.oc oc_nil)) fun W357 l357 b357 => ?_
    have a358 := a349.t l357
    have b363 := (b72.up l346).up l357
    refine nl (Cw.seq ?_)
    obtain ⟨K367, hK367, hm⟩ := jn_e hm
    refine Cw.join 103 111 [111] (fun l w => ∃ y365 W366, CW.w W366 = w ∧ Le [] W357 W366 ∧ l = [vB y365] ∧ K367 y365 = some r) ?_ ?_
    ·rintro _ _ σ ⟨y365, W366, rfl, l366, rfl, hm⟩
     rw [hK367] at hm
     have a368 := a358.n l366
     have b374 := ((b67.up l346).up l357).up l366
     refine cn hm (fun hm => ?_) fun hm => ?_
     ·refine sr (la (b363.up l366) (cr hm (fun _ => p75 (k0 := 15) (k1 := 16) (Repo.rd (K := [0]) x0.Commits x0.Heads (h0_0.ul a368) (h0_1.ul a368))) ?_))
      rintro z379 _ W381 hm l381 ⟨v0_0_381, v0_1_381, rfl, f381_0, f381_1⟩
      have a382 := a368.n l381
      refine sta (b374.up l381) (oc_cons f381_0.oc (oc_cons f381_1.oc oc_nil)) fun W390 l390 b390 => ?_
      have a391 := a382.t l390
      refine Nb rfl ?_
      obtain ⟨W400, ew400, l400, dj400⟩ := dyeE _ 15
      have s401 : Rd (α := List Vm.Commit) W400 [0] [v0_0_381] z379.Commits := by rw [dj400]; exact ((f381_0.up l390).rd.dye 15).sub (M := [0]) rfl
      have a402 := a391.t l400
      obtain ⟨W411, ew411, l411, dj411⟩ := dyeE _ 16
      have s412 : Rd (α := List Vm.Head) W411 [0] [v0_1_381] z379.Heads := by rw [dj411]; exact (((f381_1.up l390).up l400).rd.dye 16).sub (M := [0]) rfl
      have a413 := l411.s
      cases hm
      rw [← ew411.trans (ew400)]
      exact Cw.ret (retA2 rfl ((b390.up l400).up l411) rfl (Res.mk (a402.trans a413) ⟨v0_0_381, v0_1_381, rfl, (s401.ul a413), s412⟩))
     ·refine sk (sr (la (b357.up l366) (sta b374 (oc_cons s347.oc (oc_cons s348.oc oc_nil)) fun W422 l422 b422 => ?_)))
      have a423 := a368.t l422
      refine Nb rfl ?_
      have s430 := s347.up ((l357.sub (M := [3, 6]) rfl).trans ((l366.sub (M := [3, 6]) rfl).trans (l422.sub (M := [3, 6]) rfl))) rfl
      have s431 := s348.up ((l357.sub (M := [3, 6]) rfl).trans ((l366.sub (M := [3, 6]) rfl).trans (l422.sub (M := [3, 6]) rfl))) rfl
      obtain ⟨W432, ew432, l432, dj432⟩ := dyeE _ 4
      have s433 : Rd W432 [0, 5] [v0_0_346] z344.Commits := by rw [dj432]; exact (s430.dye 4).sub (M := [0, 5]) rfl
      have s434 : Rd W432 [0, 5] [v0_1_346] z344.Heads := by rw [dj432]; exact (s431.dye 4).sub (M := [0, 5]) rfl
      have s435 : Rd (α := List Vm.Commit) W432 [0] [v55] y54 := by rw [dj432]; exact (((((o56.up l346).up l357).up l366).up l422).rd.dye 4).sub (M := [0]) rfl
      have a436 := a423.t l432
      obtain ⟨W443, ew443, l443, dj443⟩ := dyeE _ 5
      have s444 : Rd W443 [0] [v0_0_346] z344.Commits := by rw [dj443]; exact (s433.dye 5).sub (M := [0]) rfl
      have s445 : Rd W443 [0] [v0_1_346] z344.Heads := by rw [dj443]; exact (s434.dye 5).sub (M := [0]) rfl
      have s446 : Rd (α := List Vm.Head) W443 [0] [v58] y57 := by rw [dj443]; exact ((((((o59.up l346).up l357).up l366).up l422).up l432).rd.dye 5).sub (M := [0]) rfl
      have a447 := a436.t l443
      cases hm
      rw [← ew443.trans (ew432)]
      exact Cw.ret (retA2 rfl ((b422.up l432).up l443) rfl (Res.mk a447 ⟨v0_0_346, v0_1_346, rfl, s444, s445⟩))
    ·refine rg (la b363 (mv v1_ rfl (ca hm (fun _ => p117 (Repo.rd (K := [0]) x0.Commits x0.Heads (h0_0.ul a358) (h0_1.ul a358)) (h1.ul a358)) fun z456 W458 hm l458 => Lw.r rfl (R.not rfl) (mb rfl (bs hm (fun hc467 hm => ?_) fun hc467 hm => ?_)))))
     ·exact psk 3 hc467 rfl (Pb hc467 rfl (nl ((ag) ⟨true, W458, rfl, l458, rfl, hm⟩)))
     ·refine wak 3 hc467 (la (b357.up l458) ?_)
      have s468 := s347.up ((l357.sub (M := [6]) rfl).trans (l458.sub (M := [6]) rfl)) rfl
      have s469 := s348.up ((l357.sub (M := [6]) rfl).trans (l458.sub (M := [6]) rfl)) rfl
      exact ca hm (fun _ => p74 (K := [0, 4, 5]) (Repo.rd (K := [0, 4, 5]) z344.Commits z344.Heads s468 s469)) fun z470 W472 hm l472 => Lw.r rfl (R.not rfl) (Pb hc467 rfl (nl ((ag) ⟨(!z470), W472, rfl, (l458.j l472).w, rfl, hm⟩)))
  ·refine sr (mv v1_ rfl (Lw.ln x1 (h1.ul a33) rfl (Lw.gt rfl (nl (cn hm (fun hm => ?_) fun hm => ?_)))))
   ·refine rg (mv v1_ rfl ?_)
    obtain ⟨u483, e484, hm⟩ := ob hm
    exact Lw.r rfl (R.ix (α := Int) (h1.ul a33) e484 rfl rfl rfl) (Lw.r rfl (R.ld rfl rfl ((h1.ul a33).at_ e484).int) (Ni rfl ((ag) ⟨u483, W32, rfl, Le.refl _ _, rfl, hm⟩)))
   ·exact sk ((ag) ⟨(-1), W32, rfl, Le.refl _ _, rfl, hm⟩)

theorem p67 {x0 v0_0_ v0_1_ x1 v1_ x2 v2_ x3 r} (h0 : Rd W K [v0_0_, v0_1_] x0) (h1 : Rd W K [v1_] x1) (h2 : Rd W K [v2_] x2) (hm : Vm.spec_SendTake x0 x1 x2 x3 = some r) : Q1 67 [.agg [v0_0_, v0_1_].toArray, v1_, v2_, vS x3] W [] fun W' v => ∃ u0_0 u0_1, v = .tuple [.agg [u0_0, u0_1].toArray, vB r.2].toArray ∧ Rd W' (0 :: K) [u0_0] r.1.Commits ∧ Rd W' (0 :: K) [u0_1] r.1.Heads :=
 (c67 (h0.view _) (h1.view _) (h2.view _) hm).ad (fk 0) fun _ _ ⟨u0_0, u0_1, e, f0, f1⟩ => ⟨u0_0, u0_1, e, f0.back rfl, f1.back rfl⟩

theorem c18 {x0 v0_0_ v0_1_ x1 v1_0_ v1_1_ r} (h0 : Rd W0 [0] [v0_0_, v0_1_] x0) (h1 : Rd W0 [0] [v1_0_, v1_1_] x1) (hm : Vm.laws_smRepo x0 x1 = some r) : Q0 18 [.agg [v0_0_, v0_1_].toArray, .agg [v1_0_, v1_1_].toArray] W0 fun Wf v => v = vB r := by
 unfold Vm.laws_smRepo at hm
 obtain ⟨w0_0, w0_1, he0, h0_0, h0_1⟩ := Repo.split h0
 simp only [List.cons.injEq, and_true, true_and] at he0
 obtain ⟨rfl, rfl⟩ := he0
 obtain ⟨w1_0, w1_1, he1, h1_0, h1_1⟩ := Repo.split h1
 simp only [List.cons.injEq, and_true, true_and] at he1
 obtain ⟨rfl, rfl⟩ := he1
 refine CallR.of Tryz.func18 rfl rfl rfl rfl (sr (bo 2 rfl fun g1 W1 l1 b1 => ?_))
 have a2 := l1.o
 refine bo 3 rfl fun g3 W3 l3 b3 => ?_
 have a4 := a2.n l3
 have b5 := b1.up l3
 refine Nb rfl (Cw.seq ?_)
 obtain ⟨K8, hK8, hm⟩ := jn_e hm
 refine Cw.join 7 22 [22] (fun l w => ∃ y6 W7, CW.w W7 = w ∧ Le [] W3 W7 ∧ l = [vB y6] ∧ K8 y6 = some r) ?_ ?_
 ·rintro _ _ σ ⟨y6, W7, rfl, l7, rfl, hm⟩
  rw [hK8] at hm
  have a9 := a4.n l7
  refine cn hm (fun hm => ?_) fun hm => ?_
  ·exact sr (Nb rfl (.ret (rt hm a9)))
  ·refine sk (ssr (Ni rfl (Cw.block ?_)))
   obtain ⟨K16, hK16, hm⟩ := jn_e hm
   refine Cw.loop 23 41 [4, 5] (fun m l w => ∃ y13 y14 W15, CW.w W15 = w ∧ Le [] W7 W15 ∧ l = [vB y13, vI y14] ∧ Vm.laws_smRepo_l1 x0 x1 K16 m y13 y14 = some r) _ ⟨false, 0, W7, rfl, Le.refl _ _, rfl, hm⟩ ?_
   rintro (_ | m17) _ _ σ ⟨y13, y14, W15, rfl, l15, rfl, hm⟩
   ·cases hm
   unfold Vm.laws_smRepo_l1 at hm
   have a18 := a9.n l15
   have b19 := (b5.up l7).up l15
   have b20 := (b3.up l7).up l15
   refine ssr (mi rfl (fl b19 rfl (Lw.ln x0.Commits (h0_0.ul a18) rfl (Lw.lt rfl (nl (cn hm (fun hm => ?_) fun hm => ?_))))))
   ·refine sk (Cw.seq (Cw.block (Cw.seq (Cw.draw [] [(0, 0), (1, 1), (2, 0), (3, 0), (4, 1), (5, 0), (6, 1), (7, 0), (8, 0), (9, 1), (10, 2), (11, 0)] mixed (by kernel_rfl) fun W23 l23 => ?_))))
    have a24 := a18.n l23
    refine Dfl (b19.up l23) rfl rfl rfl (Di rfl ?_)
    obtain ⟨u27, e28, hm⟩ := ob hm
    have s29 := h0_0.ul a24
    refine Mw.p rfl rfl (fun _ => R.ix (α := Commit) s29 e28 rfl rfl rfl) ?_
    obtain ⟨x30, c31, _, r32⟩ := (s29.at_ e28).cells
    obtain ⟨v33, v35, rfl, r34, r36⟩ := Commit.split r32
    refine Mw.q rfl rfl (fun _ c => R.lda (cl_cells (s29.at_ e28).1 rfl c31 c) rfl rfl) (Dfl (b20.up l23) rfl rfl rfl (Di rfl ?_))
    obtain ⟨u37, e38, hm⟩ := ob hm
    have s39 := h1_0.ul a24
    refine Mw.p rfl rfl (fun _ => R.ix (α := Commit) s39 e38 rfl rfl rfl) ?_
    obtain ⟨x40, c41, _, r42⟩ := (s39.at_ e38).cells
    obtain ⟨v43, v45, rfl, r44, r46⟩ := Commit.split r42
    refine Mw.q rfl rfl (fun _ c => R.lda (cl_cells (s39.at_ e38).1 rfl c41 c) rfl rfl) ?_
    obtain ⟨z47, e48, hm⟩ := ob hm
    refine Mw.t rfl rfl (T.call rfl (p49  (Commit.rd (K := [0]) u27.Parents u27.Who u27.Tree r34 r36) (Commit.rd (K := [0]) u37.Parents u37.Who u37.Tree r44 r46) e48)) ?_
    rintro _ _ ⟨W49, rfl, l49, rfl⟩
    have a50 := a24.n l49
    refine m0 l49 fun d49 => Mw.p rfl rfl (fun _ => R.not rfl) (Mw.nil (cn hm (fun hm => ?_) fun hm => ?_))
    ·exact sr (Nb rfl (.ret (rt hm a50)))
    ·exact sk (rg (mi rfl (Lw.add rfl (Ni rfl ((agm) ⟨y13, w64 (y14 + 1), W49, rfl, ((l15.j l23).j l49).w, rfl, hm⟩)))))
   ·refine Cw.exit ?_
    rw [hK16] at hm
    refine ssr (Ni rfl (Cw.block ?_))
    obtain ⟨K57, hK57, hm⟩ := jn_e hm
    refine Cw.loop 42 59 [4, 6] (fun m l w => ∃ y54 y55 W56, CW.w W56 = w ∧ Le [] W15 W56 ∧ l = [vB y54, vI y55] ∧ Vm.laws_smRepo_l2 x0 x1 K57 m y54 y55 = some r) _ ⟨y13, 0, W15, rfl, Le.refl _ _, rfl, hm⟩ ?_
    rintro (_ | m58) _ _ σ ⟨y54, y55, W56, rfl, l56, rfl, hm⟩
    ·cases hm
    unfold Vm.laws_smRepo_l2 at hm
    have a59 := a18.n l56
    refine ssr (mi rfl (fl (b19.up l56) rfl (Lw.ln x0.Heads (h0_1.ul a59) rfl (Lw.lt rfl (nl (cn hm (fun hm => ?_) fun hm => ?_))))))
    ·refine sk (Cw.seq (Cw.block (Cw.seq (Cw.draw [] [(0, 0), (1, 1), (2, 0), (3, 0), (4, 1), (5, 0), (6, 1), (7, 0), (8, 0), (9, 1), (10, 0)] mixed (by kernel_rfl) fun W64 l64 => ?_))))
     have a65 := a59.n l64
     refine Dfl ((b19.up l56).up l64) rfl rfl rfl (Di rfl ?_)
     obtain ⟨u68, e69, hm⟩ := ob hm
     refine Mw.p rfl rfl (fun _ => R.ix (α := Head) (h0_1.ul a65) e69 rfl rfl rfl) ?_
     obtain ⟨x71, c72, _, r73⟩ := ((h0_1.ul a65).at_ e69).cells
     obtain rfl := Head.split r73
     refine Mw.q rfl rfl (fun _ c => R.lda (cl_cells ((h0_1.ul a65).at_ e69).1 rfl c72 c) rfl rfl) (Dfl ((b20.up l56).up l64) rfl rfl rfl (Di rfl ?_))
     obtain ⟨u74, e75, hm⟩ := ob hm
     refine Mw.p rfl rfl (fun _ => R.ix (α := Head) (h1_1.ul a65) e75 rfl rfl rfl) ?_
     obtain ⟨x77, c78, _, r79⟩ := ((h1_1.ul a65).at_ e75).cells
     obtain rfl := Head.split r79
     refine Mw.q rfl rfl (fun _ c => R.lda (cl_cells ((h1_1.ul a65).at_ e75).1 rfl c78 c) rfl rfl) (Mw.p rfl rfl (fun _ => R.hne rfl rfl) (Mw.nil (cn hm (fun hm => ?_) fun hm => ?_)))
     ·exact sr (Nb rfl (.ret (rt hm a65)))
     ·exact sk (rg (mi rfl (Lw.add rfl (Ni rfl ((agm) ⟨y54, w64 (y55 + 1), W64, rfl, (l56.j l64).w, rfl, hm⟩)))))
    ·refine Cw.exit ?_
     rw [hK57] at hm
     exact sr (Nb rfl (.ret (rt hm a59)))
 ·refine rg (fl b5 rfl (Lw.ln x0.Commits (h0_0.ul a4) rfl (fl b3 rfl (Lw.ln x1.Commits (h1_0.ul a4) rfl (Lw.ne rfl (mb rfl (bs hm (fun hc83 hm => ?_) fun hc83 hm => ?_)))))))
  ·exact psk 7 hc83 rfl (Pb hc83 rfl (nl ((ag) ⟨true, W3, rfl, Le.refl _ _, rfl, hm⟩)))
  ·exact wak 7 hc83 (fl b5 rfl (Lw.ln x0.Heads (h0_1.ul a4) rfl (fl b3 rfl (Lw.ln x1.Heads (h1_1.ul a4) rfl (Lw.ne rfl (Pb hc83 rfl (nl ((ag) ⟨(((x0.Heads.length : Int) : Int) != ((x1.Heads.length : Int) : Int)), W3, rfl, Le.refl _ _, rfl, hm⟩))))))))

theorem p18 {x0 v0_0_ v0_1_ x1 v1_0_ v1_1_ r} (h0 : Rd W K [v0_0_, v0_1_] x0) (h1 : Rd W K [v1_0_, v1_1_] x1) (hm : Vm.laws_smRepo x0 x1 = some r) : Q1 18 [.agg [v0_0_, v0_1_].toArray, .agg [v1_0_, v1_1_].toArray] W [] fun W' v => v = vB r :=
 (c18 (h0.view _) (h1.view _) hm).ad (fk 0) fun _ _ e => e

theorem c21 {x0 v0_0_ v0_1_ x1 v1_0_ v1_1_ r} (h0 : Rd W0 [0] [v0_0_, v0_1_] x0) (h1 : Rd W0 [0] [v1_0_, v1_1_] x1) (hm : Vm.laws_smKeeps x0 x1 = some r) : Q0 21 [.agg [v0_0_, v0_1_].toArray, .agg [v1_0_, v1_1_].toArray] W0 fun Wf v => v = vB r := by
 unfold Vm.laws_smKeeps at hm
 obtain ⟨w0_0, w0_1, he0, h0_0, h0_1⟩ := Repo.split h0
 simp only [List.cons.injEq, and_true, true_and] at he0
 obtain ⟨rfl, rfl⟩ := he0
 obtain ⟨w1_0, w1_1, he1, h1_0, h1_1⟩ := Repo.split h1
 simp only [List.cons.injEq, and_true, true_and] at he1
 obtain ⟨rfl, rfl⟩ := he1
 refine CallR.of Tryz.func21 rfl rfl rfl rfl (sr (bo 2 rfl fun g1 W1 l1 b1 => ?_))
 have a2 := l1.o
 refine bo 3 rfl fun g3 W3 l3 b3 => ?_
 have a4 := a2.n l3
 refine Nb rfl (ssr (fl (b1.up l3) rfl (Lw.ln x0.Commits (h0_0.ul a4) rfl (fl b3 rfl (Lw.ln x1.Commits (h1_0.ul a4) rfl (Lw.lt rfl (nl (cn hm (fun hm => ?_) fun hm => ?_))))))))
 ·exact sr (Nb rfl (.ret (rt hm a4)))
 ·refine sk (ssr (Ni rfl (Cw.block ?_)))
  obtain ⟨K12, hK12, hm⟩ := jn_e hm
  refine Cw.loop 13 31 [4, 5] (fun m l w => ∃ y9 y10 W11, CW.w W11 = w ∧ Le [] W3 W11 ∧ l = [vB y9, vI y10] ∧ Vm.laws_smKeeps_l1 x0 x1 K12 m y9 y10 = some r) _ ⟨false, 0, W3, rfl, Le.refl _ _, rfl, hm⟩ ?_
  rintro (_ | m13) _ _ σ ⟨y9, y10, W11, rfl, l11, rfl, hm⟩
  ·cases hm
  unfold Vm.laws_smKeeps_l1 at hm
  have a14 := a4.n l11
  refine ssr (mi rfl (fl (b3.up l11) rfl (Lw.ln x1.Commits (h1_0.ul a14) rfl (Lw.lt rfl (nl (cn hm (fun hm => ?_) fun hm => ?_))))))
  ·refine sk (Cw.seq (Cw.block (Cw.seq (Cw.draw [] [(0, 0), (1, 1), (2, 0), (3, 0), (4, 1), (5, 0), (6, 1), (7, 0), (8, 0), (9, 1), (10, 2), (11, 0)] mixed (by kernel_rfl) fun W19 l19 => ?_))))
   have a20 := a14.n l19
   refine Dfl (((b1.up l3).up l11).up l19) rfl rfl rfl (Di rfl ?_)
   obtain ⟨u23, e24, hm⟩ := ob hm
   have s25 := h0_0.ul a20
   refine Mw.p rfl rfl (fun _ => R.ix (α := Commit) s25 e24 rfl rfl rfl) ?_
   obtain ⟨x26, c27, _, r28⟩ := (s25.at_ e24).cells
   obtain ⟨v29, v31, rfl, r30, r32⟩ := Commit.split r28
   refine Mw.q rfl rfl (fun _ c => R.lda (cl_cells (s25.at_ e24).1 rfl c27 c) rfl rfl) (Dfl ((b3.up l11).up l19) rfl rfl rfl (Di rfl ?_))
   obtain ⟨u33, e34, hm⟩ := ob hm
   have s35 := h1_0.ul a20
   refine Mw.p rfl rfl (fun _ => R.ix (α := Commit) s35 e34 rfl rfl rfl) ?_
   obtain ⟨x36, c37, _, r38⟩ := (s35.at_ e34).cells
   obtain ⟨v39, v41, rfl, r40, r42⟩ := Commit.split r38
   refine Mw.q rfl rfl (fun _ c => R.lda (cl_cells (s35.at_ e34).1 rfl c37 c) rfl rfl) ?_
   obtain ⟨z43, e44, hm⟩ := ob hm
   refine Mw.t rfl rfl (T.call rfl (p49  (Commit.rd (K := [0]) u23.Parents u23.Who u23.Tree r30 r32) (Commit.rd (K := [0]) u33.Parents u33.Who u33.Tree r40 r42) e44)) ?_
   rintro _ _ ⟨W45, rfl, l45, rfl⟩
   have a46 := a20.n l45
   refine m0 l45 fun d45 => Mw.p rfl rfl (fun _ => R.not rfl) (Mw.nil (cn hm (fun hm => ?_) fun hm => ?_))
   ·exact sr (Nb rfl (.ret (rt hm a46)))
   ·exact sk (rg (mi rfl (Lw.add rfl (Ni rfl ((agm) ⟨y9, w64 (y10 + 1), W45, rfl, ((l11.j l19).j l45).w, rfl, hm⟩)))))
  ·refine Cw.exit ?_
   rw [hK12] at hm
   exact sr (Nb rfl (.ret (rt hm a14)))

theorem p21 {x0 v0_0_ v0_1_ x1 v1_0_ v1_1_ r} (h0 : Rd W K [v0_0_, v0_1_] x0) (h1 : Rd W K [v1_0_, v1_1_] x1) (hm : Vm.laws_smKeeps x0 x1 = some r) : Q1 21 [.agg [v0_0_, v0_1_].toArray, .agg [v1_0_, v1_1_].toArray] W [] fun W' v => v = vB r :=
 (c21 (h0.view _) (h1.view _) hm).ad (fk 0) fun _ _ e => e

theorem c13 {x0 v0_ r} (h0 : Rd W0 [0] [v0_] x0) (h99 : Gl 0 W0 [0]) (hm : Vm.laws_FnSendTake x0 = some r) : Q0 13 [v0_] W0 fun Wf v => v = vB r := by
 unfold Vm.laws_FnSendTake at hm
 refine CallR.of Tryz.func13 rfl rfl rfl rfl (sr (Nb rfl (ssr (mv v0_ rfl (Lw.ln x0 h0 rfl (Lw.gt rfl (nl (cn hm (fun hm => ?_) fun hm => ?_))))))))
 ·exact sr (Nb rfl (.ret (rt hm (Le.refl _ _))))
 ·refine sk (sr (mv v0_ rfl (cr hm (fun _ => p65 (k0 := 2) (k1 := 3) (k2 := 4) (k3 := 5) h0) ?_)))
  rintro z2 _ W4 hm l4 ⟨v0_0_4, v0_1_4, v1_4, v2_4, rfl, f4_0, f4_1, f4_2, f4_3⟩
  have a5 := l4.o
  refine mv (.tuple [.agg [v0_0_4, v0_1_4].toArray, v1_4, v2_4, vS z2.2.2.2].toArray) rfl (Lw.r rfl (R.ext (vs := [.agg [v0_0_4, v0_1_4].toArray, v1_4, v2_4, vS z2.2.2.2]) (v := .agg [v0_0_4, v0_1_4].toArray) rfl rfl) (Lw.r rfl (R.ext (vs := [.agg [v0_0_4, v0_1_4].toArray, v1_4, v2_4, vS z2.2.2.2]) (v := v1_4) rfl rfl) (Lw.r rfl (R.ext (vs := [.agg [v0_0_4, v0_1_4].toArray, v1_4, v2_4, vS z2.2.2.2]) (v := v2_4) rfl rfl) (Lw.r rfl (R.ext (vs := [.agg [v0_0_4, v0_1_4].toArray, v1_4, v2_4, vS z2.2.2.2]) (v := vS z2.2.2.2) rfl rfl) (al 6 [.slice none 0 0, .slice none 0 0] fun g6 W6 l6 b6 => ?_)))))
  have a7 := a5.n l6
  refine sta b6 (oc_cons (f4_0.up l6).oc (oc_cons (f4_1.up l6).oc oc_nil)) fun W12 l12 b12 => ?_
  have a13 := a7.t l12
  have o14 := (f4_0.up l6).up l12
  have o15 := (f4_1.up l6).up l12
  have o16 := (f4_2.up l6).up l12
  have o17 := (f4_3.up l6).up l12
  refine Gv v1_4 rfl (Gv v2_4 rfl (Ns rfl (sr (la b12 (mv v1_4 rfl (mv v2_4 rfl (ms rfl (cr hm (fun _ => p66 (K := [0, 2, 3, 4, 5]) (k0 := 7) (k1 := 8) (x0 := (Vm.Repo.mk z2.1.Commits z2.1.Heads)) ((Repo.rd (K := [2, 3]) z2.1.Commits z2.1.Heads (o14.rd.sub (M := [2, 3]) rfl) (o15.rd.sub (M := [2, 3]) rfl)).sub (M := [0, 2, 3, 4, 5]) rfl) (o16.rd.sub (M := [0, 2, 3, 4, 5]) rfl) (o17.rd.sub (M := [0, 2, 3, 4, 5]) rfl) ((h99.ul a13).sub (M := [0, 2, 3, 4, 5]) rfl)) ?_))))))))
  rintro z19 _ W21 hm l21 ⟨v0_0_21, v0_1_21, rfl, f21_0, f21_1⟩
  have a22 := a13.n l21
  refine mv (.tuple [.agg [v0_0_21, v0_1_21].toArray, vB z19.2].toArray) rfl (Lw.r rfl (R.ext (vs := [.agg [v0_0_21, v0_1_21].toArray, vB z19.2]) (v := .agg [v0_0_21, v0_1_21].toArray) rfl rfl) (Lw.r rfl (R.ext (vs := [.agg [v0_0_21, v0_1_21].toArray, vB z19.2]) (v := vB z19.2) rfl rfl) (al 9 [.slice none 0 0, .slice none 0 0] fun g28 W28 l28 b28 => ?_)))
  have a29 := a22.n l28
  refine sta b28 (oc_cons (f21_0.up l28).oc (oc_cons (f21_1.up l28).oc oc_nil)) fun W37 l37 b37 => ?_
  have a38 := a29.t l37
  have o39 := ((o14.up l21).up l28).up l37
  have o40 := ((o15.up l21).up l28).up l37
  have o41 := ((o16.up l21).up l28).up l37
  have o42 := ((o17.up l21).up l28).up l37
  have b45 := ((b12.up l21).up l28).up l37
  refine Nb rfl (sr (la b45 (mv v1_4 rfl (mv v2_4 rfl (ms rfl (cr hm (fun _ => p67 (K := [2, 3, 4, 5]) (x0 := (Vm.Repo.mk z2.1.Commits z2.1.Heads)) ((Repo.rd (K := [2, 3]) z2.1.Commits z2.1.Heads (o39.rd.sub (M := [2, 3]) rfl) (o40.rd.sub (M := [2, 3]) rfl)).sub (M := [2, 3, 4, 5]) rfl) (o41.rd.sub (M := [2, 3, 4, 5]) rfl) (o42.rd.sub (M := [2, 3, 4, 5]) rfl)) ?_))))))
  rintro z46 _ W48 hm l48 ⟨v0_0_48, v0_1_48, rfl, f48_0, f48_1⟩
  have s49 := f48_0.sub (M := [0, 2, 3, 4, 5]) rfl
  have s50 := f48_1.sub (M := [0, 2, 3, 4, 5]) rfl
  have a51 := a38.n l48
  refine mv (.tuple [.agg [v0_0_48, v0_1_48].toArray, vB z46.2].toArray) rfl (Lw.r rfl (R.ext (vs := [.agg [v0_0_48, v0_1_48].toArray, vB z46.2]) (v := .agg [v0_0_48, v0_1_48].toArray) rfl rfl) (Lw.r rfl (R.ext (vs := [.agg [v0_0_48, v0_1_48].toArray, vB z46.2]) (v := vB z46.2) rfl rfl) (al 10 [.slice none 0 0, .slice none 0 0] fun g60 W60 l60 b60 => ?_)))
  have a61 := a51.n l60
  refine sta b60 (oc_cons s49.oc (oc_cons s50.oc oc_nil)) fun W70 l70 b70 => ?_
  have a71 := a61.t l70
  have o72 := ((o39.up l48).up l60).up l70
  have o73 := ((o40.up l48).up l60).up l70
  have o76 := ((((f21_0.up l28).up l37).up l48).up l60).up l70
  have o77 := ((((f21_1.up l28).up l37).up l48).up l60).up l70
  have b78 := ((b45.up l48).up l60).up l70
  have b79 := ((b37.up l48).up l60).up l70
  refine Nb rfl (Cw.seq ?_)
  obtain ⟨K82, hK82, hm⟩ := jn_e hm
  refine Cw.join 40 53 [53] (fun l w => ∃ y80 W81, CW.w W81 = w ∧ Le [] W70 W81 ∧ l = [vB y80] ∧ K82 y80 = some r) ?_ ?_
  ·rintro _ _ σ ⟨y80, W81, rfl, l81, rfl, hm⟩
   rw [hK82] at hm
   have a83 := a71.n l81
   have o88 := o76.up l81
   have o89 := o77.up l81
   have b91 := b79.up l81
   refine cn hm (fun hm => ?_) fun hm => ?_
   ·obtain ⟨K96, hK96, hm⟩ := jn_e hm
    refine Cw.join 54 61 [2] (fun l w => ∃ y94 W95, CW.w W95 = w ∧ Le [] W81 W95 ∧ l = [vB y94] ∧ K96 y94 = some r) ?_ ?_
    ·rintro _ _ σ ⟨y94, W95, rfl, l95, rfl, hm⟩
     rw [hK96] at hm
     have a97 := a83.n l95
     exact .ret (rt hm a97)
    ·refine rg (mb rfl (mb rfl (Lw.r rfl (R.beq rfl rfl) (mb rfl (bs hm (fun hc107 hm => ?_) fun hc107 hm => ?_)))))
     ·refine wak 3 hc107 (la b91 (la (b70.up l81) ?_))
      have s108 := s49.up ((l60.sub (M := [10]) rfl).trans ((l70.sub (M := [10]) rfl).trans (l81.sub (M := [10]) rfl))) rfl
      have s109 := s50.up ((l60.sub (M := [10]) rfl).trans ((l70.sub (M := [10]) rfl).trans (l81.sub (M := [10]) rfl))) rfl
      exact ca hm (fun _ => p18 (K := [0, 2, 3, 4, 5, 7, 8]) (x0 := (Vm.Repo.mk z19.1.Commits z19.1.Heads)) ((Repo.rd (K := [7, 8]) z19.1.Commits z19.1.Heads (o88.rd.sub (M := [7, 8]) rfl) (o89.rd.sub (M := [7, 8]) rfl)).sub (M := [0, 2, 3, 4, 5, 7, 8]) rfl) ((Repo.rd (K := [0, 2, 3, 4, 5]) z46.1.Commits z46.1.Heads s108 s109).sub (M := [0, 2, 3, 4, 5, 7, 8]) rfl)) fun z110 W112 hm l112 => Pb hc107 rfl (Nb rfl ((ag) ⟨z110, W112, rfl, l112, rfl, hm⟩))
     ·exact psk 3 hc107 rfl (Pb hc107 rfl (Nb rfl ((ag) ⟨false, W81, rfl, Le.refl _ _, rfl, hm⟩)))
   ·refine sk (ssr (mb rfl (Lw.r rfl (R.not rfl) (nl (cn hm (fun hm => ?_) fun hm => ?_)))))
    ·refine sr (la b91 (la (b78.up l81) (ca hm (fun _ => p18 (K := [2, 3, 7, 8]) (x0 := (Vm.Repo.mk z19.1.Commits z19.1.Heads)) (x1 := (Vm.Repo.mk z2.1.Commits z2.1.Heads)) ((Repo.rd (K := [7, 8]) z19.1.Commits z19.1.Heads (o88.rd.sub (M := [7, 8]) rfl) (o89.rd.sub (M := [7, 8]) rfl)).sub (M := [2, 3, 7, 8]) rfl) ((Repo.rd (K := [2, 3]) z2.1.Commits z2.1.Heads ((o72.up l81).rd.sub (M := [2, 3]) rfl) ((o73.up l81).rd.sub (M := [2, 3]) rfl)).sub (M := [2, 3, 7, 8]) rfl)) fun z124 W126 hm l126 => ?_)))
     have a127 := a83.n l126
     exact Nb rfl (.ret (rt hm a127))
    ·refine sk (sr (la b91 (ms rfl (ca hm (fun _ => p20 (K := [0, 7, 8]) (x0 := (Vm.Repo.mk z19.1.Commits z19.1.Heads)) ((Repo.rd (K := [7, 8]) z19.1.Commits z19.1.Heads (o88.rd.sub (M := [7, 8]) rfl) (o89.rd.sub (M := [7, 8]) rfl)).sub (M := [0, 7, 8]) rfl) ((h99.ul a83).sub (M := [0, 7, 8]) rfl)) fun z138 W140 hm l140 => ?_))))
     have a141 := a83.n l140
     refine Ni rfl (ssr (Ni rfl (Cw.block ?_)))
     obtain ⟨K155, hK155, hm⟩ := jn_e hm
     refine Cw.loop 70 115 [2, 12, 13] (fun m l w => ∃ y151 y152 j153 W154, CW.w W154 = w ∧ Le [11] W140 W154 ∧ l = [vB y151, vI y152, j153] ∧ Vm.laws_FnSendTake_l1 z2 z19 K155 m y151 y152 = some r) _ ⟨false, 0, undef, W140, rfl, Le.refl _ _, rfl, hm⟩ ?_
     rintro (_ | m156) _ _ σ ⟨y151, y152, j153, W154, rfl, l154, rfl, hm⟩
     ·cases hm
     unfold Vm.laws_FnSendTake_l1 at hm
     have a157 := a141.t l154
     have o158 := ((o72.up l81).up l140).up l154
     have o161 := (((((o42.up l48).up l60).up l70).up l81).up l140).up l154
     have o162 := (o88.up l140).up l154
     have o163 := (o89.up l140).up l154
     have b164 := ((b78.up l81).up l140).up l154
     have b165 := (b91.up l140).up l154
     refine ssr (mi rfl (mv v2_4 rfl (Lw.ln z2.2.2.1 o161.rd rfl (Lw.lt rfl (nl (cn hm (fun hm => ?_) fun hm => ?_))))))
     ·refine sk (Cw.seq (Cw.block (sr (fl b165 rfl (fl b164 rfl (Lw.ln z2.1.Commits o158.rd rfl (mi rfl (Lw.add rfl ?_))))))))
      obtain ⟨u168, e169, hm⟩ := ob hm
      refine Lw.r rfl (R.ix (α := Commit) o162.rd e169 rfl rfl rfl) ?_
      obtain ⟨x170, c171, _, r172⟩ := (o162.rd.at_ e169).cells
      obtain ⟨v173, v175, rfl, r174, r176⟩ := Commit.split r172
      refine Lw.r rfl (R.lda c171 rfl rfl) (al 11 [.slice none 0 0, vS ([] : Str), .slice none 0 0] fun g177 W177 l177 b177 => ?_)
      have a178 := a157.n l177
      refine sta b177 (oc_cons r174.oc (oc_cons rfl (oc_cons r176.oc oc_nil))) fun W188 l188 b188 => ?_
      have a189 := a178.t l188
      refine nl ?_
      obtain ⟨K201, hK201, hm⟩ := jn_e hm
      refine Cw.join 85 115 [115] (fun l w => ∃ y199 W200, CW.w W200 = w ∧ Le [] W188 W200 ∧ l = [vB y199] ∧ K201 y199 = some r) ?_ ?_
      ·rintro _ _ σ ⟨y199, W200, rfl, l200, rfl, hm⟩
       rw [hK201] at hm
       have a202 := a189.n l200
       refine cn hm (fun hm => ?_) fun hm => ?_
       ·exact sr (Nb rfl (.ret (rt hm a202)))
       ·exact sk (rg (mi rfl (Lw.add rfl (Ni rfl ((agm) ⟨y151, w64 (y152 + 1), ptr (bx g177), W200, rfl, (((l154.j l177).j l188).j l200).w, rfl, hm⟩)))))
      ·refine Cw.draw [] [(0, 0), (1, 1), (2, 0), (3, 0), (4, 0), (5, 0), (6, 1), (7, 0), (8, 0), (9, 0), (10, 1), (11, 0), (12, 0), (13, 0), (14, 0), (15, 1), (16, 2), (17, 0), (18, 0), (19, 0), (20, 0), (21, 1), (22, 0), (23, 0), (24, 0), (25, 0), (26, 0), (27, 1), (28, 0), (29, 0), (30, 0)] mixed (by kernel_rfl) fun W214 l214 => ?_
       have o219 := ((o161.up l177).up l188).up l214
       have b225 := b188.up l214
       refine Dfl b225 rfl rfl rfl (Dv v2_4 rfl (Di rfl ?_))
       obtain ⟨u226, e227, hm⟩ := ob hm
       refine Mw.p rfl rfl (fun _ => R.ix (α := Commit) o219.rd e227 rfl rfl rfl) (Df rfl (Mw.q rfl rfl (fun _ c => R.ld rfl rfl (cl_cell (Commit.at1 (o219.rd.at_ e227)).1 rfl (Commit.at1 (o219.rd.at_ e227)).str c)) (Mw.p rfl rfl (fun _ => R.sne rfl rfl) (Db rfl (bs hm (fun hc228 hm => ?_) fun hc228 hm => ?_)))))
       ·exact dps 9 hc228 rfl (Mw.p rfl rfl (fun _ => R.pk hc228 rfl (v := vB true) rfl) (Db rfl (dps 10 rfl rfl (Mw.p rfl rfl (fun _ => R.pk rfl rfl (v := vB true) rfl) (Mw.nil ((ag) ⟨true, W214, rfl, l214, rfl, hm⟩))))))
       ·refine Wp hc228 rfl (fun _ => R.fa rfl) (Wq hc228 rfl (fun _ c => R.ld (v := v175) rfl rfl (b225.clc rfl rfl c)) (Wp hc228 rfl (fun _ => R.mv (v := v2_4) rfl) (Wp hc228 rfl (fun _ => R.mv (v := vI y152) rfl) ?_)))
        obtain ⟨u229, e230, hm⟩ := ob hm
        refine Wp hc228 rfl (fun _ => R.ix (α := Commit) o219.rd e230 rfl rfl rfl) (Wp hc228 rfl (fun _ => R.fa rfl) ?_)
        obtain ⟨v231, c232, r233⟩ := (Commit.at2 (o219.rd.at_ e230)).cell rfl
        refine Wq hc228 rfl (fun _ c => R.ld rfl rfl (cl_cell (Commit.at2 (o219.rd.at_ e230)).1 rfl c232 c)) ?_
        have s234 := r176.up ((l177.sub (M := [11]) rfl).trans ((l188.sub (M := [11]) rfl).trans (l214.sub (M := [11]) rfl))) rfl
        obtain ⟨z235, e236, hm⟩ := ob hm
        refine Wt hc228 rfl (T.call rfl (p42 (K := [5, 7])  (s234.sub (M := [5, 7]) rfl) (r233.sub (M := [5, 7]) rfl) e236)) ?_
        rintro _ _ ⟨W237, rfl, l237, rfl⟩
        refine m0 l237 fun d237 => Wp hc228 rfl (fun _ => R.not rfl) (Mw.p rfl rfl (fun _ => R.pk hc228 rfl (v := vB (!z235)) rfl) (Db rfl (bs hm (fun hc249 hm => ?_) fun hc249 hm => ?_)))
        ·exact dps 10 hc249 rfl (Mw.p rfl rfl (fun _ => R.pk hc249 rfl (v := vB true) rfl) (Mw.nil ((ag) ⟨true, W237, rfl, (l214.j l237).w, rfl, hm⟩)))
        ·have s250 := r174.up ((l177.sub (M := [11]) rfl).trans ((l188.sub (M := [11]) rfl).trans ((l214.sub (M := [11]) rfl).trans (l237.sub (M := [11]) rfl)))) rfl
         refine Wp hc249 rfl (fun _ => R.fa rfl) (Wq hc249 rfl (fun _ c => R.ld (v := v173) rfl rfl (b225.clc rfl rfl c)) (Wp hc249 rfl (fun _ => lenR (xs := u168.Parents) s250 rfl) (Wp hc249 rfl (fun _ => R.mv (v := v2_4) rfl) (Wp hc249 rfl (fun _ => R.mv (v := vI y152) rfl) ?_))))
         obtain ⟨u251, e252, hm⟩ := ob hm
         refine Wp hc249 rfl (fun _ => R.ix (α := Commit) o219.rd e252 rfl rfl rfl) (Wp hc249 rfl (fun _ => R.fa rfl) ?_)
         obtain ⟨v253, c254, r255⟩ := (Commit.at0 (o219.rd.at_ e252)).cell rfl
         have s256 := r255.up (l237.sub (M := []) rfl) rfl
         exact Wq hc249 rfl (fun _ c => R.ld rfl rfl (cl_cell (Commit.at0 (o219.rd.at_ e252)).1 rfl c254 c)) (Wp hc249 rfl (fun _ => lenR (xs := u251.Parents) s256 rfl) (Wp hc249 rfl (fun _ => R.ne rfl rfl) (Mw.p rfl rfl (fun _ => R.pk hc249 rfl (v := vB (((u168.Parents.length : Int) : Int) != ((u251.Parents.length : Int) : Int))) rfl) (Mw.nil ((ag) ⟨(((u168.Parents.length : Int) : Int) != ((u251.Parents.length : Int) : Int)), W237, rfl, (l214.j l237).w, rfl, hm⟩)))))
     ·refine Cw.exit ?_
      rw [hK155] at hm
      obtain ⟨K259, hK259, hm⟩ := jn_e hm
      refine Cw.join 116 159 [2] (fun l w => ∃ y257 W258, CW.w W258 = w ∧ Le [] W154 W258 ∧ l = [vB y257] ∧ K259 y257 = some r) ?_ ?_
      ·rintro _ _ σ ⟨y257, W258, rfl, l258, rfl, hm⟩
       rw [hK259] at hm
       have a260 := a157.n l258
       exact .ret (rt hm a260)
      ·refine rg (la b165 (ca hm (fun _ => p19 (K := [0, 7, 8]) (x0 := (Vm.Repo.mk z19.1.Commits z19.1.Heads)) ((Repo.rd (K := [7, 8]) z19.1.Commits z19.1.Heads (o162.rd.sub (M := [7, 8]) rfl) (o163.rd.sub (M := [7, 8]) rfl)).sub (M := [0, 7, 8]) rfl) ((h99.ul a157).sub (M := [0, 7, 8]) rfl)) fun z271 W273 hm l273 => mb rfl (bs hm (fun hc284 hm => ?_) fun hc284 hm => ?_)))
       ·refine wak 3 hc284 (la (b165.up l273) (la (b164.up l273) (ca hm (fun _ => p21 (K := [2, 3, 7, 8]) (x0 := (Vm.Repo.mk z19.1.Commits z19.1.Heads)) (x1 := (Vm.Repo.mk z2.1.Commits z2.1.Heads)) ((Repo.rd (K := [7, 8]) z19.1.Commits z19.1.Heads ((o162.up l273).rd.sub (M := [7, 8]) rfl) ((o163.up l273).rd.sub (M := [7, 8]) rfl)).sub (M := [2, 3, 7, 8]) rfl) ((Repo.rd (K := [2, 3]) z2.1.Commits z2.1.Heads ((o158.up l273).rd.sub (M := [2, 3]) rfl) (((((o73.up l81).up l140).up l154).up l273).rd.sub (M := [2, 3]) rfl)).sub (M := [2, 3, 7, 8]) rfl)) fun z285 W287 hm l287 => ?_)))
        have o291 := (((((((o41.up l48).up l60).up l70).up l81).up l140).up l154).up l273).up l287
        have o292 := (o161.up l273).up l287
        have o293 := (o162.up l273).up l287
        have b296 := (b165.up l273).up l287
        refine Pb hc284 rfl (mb rfl (bs hm (fun hc298 hm => ?_) fun hc298 hm => ?_))
        ·refine wak 10 hc298 (fl b296 rfl (Lw.ln z19.1.Commits o293.rd rfl (fl ((b164.up l273).up l287) rfl (Lw.ln z2.1.Commits ((o158.up l273).up l287).rd rfl (mv v2_4 rfl (Lw.ln z2.2.2.1 o292.rd rfl (Lw.add rfl (Lw.eq rfl (Pb hc298 rfl (mb rfl (bs hm (fun hc299 hm => ?_) fun hc299 hm => ?_)))))))))))
         ·refine wak 4 hc299 (mv v2_4 rfl (Lw.ln z2.2.2.1 o292.rd rfl (Lw.gt rfl (mb rfl (bs hm (fun hc300 hm => ?_) fun hc300 hm => ?_)))))
          ·refine wak 6 hc300 (mi rfl (fl b296 rfl (Lw.ln z19.1.Commits o293.rd rfl (Lw.sub rfl (Lw.eq rfl (wak 2 hc299 (Pb hc300 rfl (mb rfl (bs hm (fun hc301 hm => ?_) fun hc301 hm => ?_)))))))))
           ·exact psk 4 hc301 rfl (puk 5 rfl (psk 1 hc301 rfl (wak 1 hc299 (Pb hc301 rfl (Pb hc299 rfl (Nb rfl ((ag) ⟨true, W287, rfl, (l273.j l287).w, rfl, hm⟩)))))))
           ·refine wak 4 hc301 (mv v2_4 rfl (Lw.ln z2.2.2.1 o292.rd rfl (Lw.eq rfl (mb rfl (bs hm (fun hc302 hm => ?_) fun hc302 hm => ?_)))))
            ·refine wak 5 hc302 (mi rfl (mv v1_4 rfl ?_))
             obtain ⟨u303, e304, hm⟩ := ob hm
             exact Lw.r rfl (R.ix (α := Int) o291.rd e304 rfl rfl rfl) (Lw.r rfl (R.ld rfl rfl (o291.rd.at_ e304).int) (Lw.eq rfl (wak 1 hc301 (Pb hc302 rfl (wak 1 hc299 (Pb hc301 rfl (Pb hc299 rfl (Nb rfl ((ag) ⟨((z138 : Int) == (u303 : Int)), W287, rfl, (l273.j l287).w, rfl, hm⟩)))))))))
            ·exact psk 5 hc302 rfl (wak 1 hc301 (Pb hc302 rfl (wak 1 hc299 (Pb hc301 rfl (Pb hc299 rfl (Nb rfl ((ag) ⟨false, W287, rfl, (l273.j l287).w, rfl, hm⟩)))))))
          ·refine psk 6 hc300 rfl (wak 2 hc299 (Pb hc300 rfl (mb rfl (wak 4 rfl (mv v2_4 rfl (Lw.ln z2.2.2.1 o292.rd rfl (Lw.eq rfl (mb rfl (bs hm (fun hc305 hm => ?_) fun hc305 hm => ?_)))))))))
           ·refine wak 5 hc305 (mi rfl (mv v1_4 rfl ?_))
            obtain ⟨u306, e307, hm⟩ := ob hm
            exact Lw.r rfl (R.ix (α := Int) o291.rd e307 rfl rfl rfl) (Lw.r rfl (R.ld rfl rfl (o291.rd.at_ e307).int) (Lw.eq rfl (wak 1 rfl (Pb hc305 rfl (wak 1 hc299 (Pb rfl rfl (Pb hc299 rfl (Nb rfl ((ag) ⟨((z138 : Int) == (u306 : Int)), W287, rfl, (l273.j l287).w, rfl, hm⟩)))))))))
           ·exact psk 5 hc305 rfl (wak 1 rfl (Pb hc305 rfl (wak 1 hc299 (Pb rfl rfl (Pb hc299 rfl (Nb rfl ((ag) ⟨false, W287, rfl, (l273.j l287).w, rfl, hm⟩)))))))
         ·exact psk 4 hc299 rfl (puk 6 rfl (psk 2 hc299 rfl (puk 10 rfl (psk 1 hc299 rfl (Pb hc299 rfl (Nb rfl ((ag) ⟨false, W287, rfl, (l273.j l287).w, rfl, hm⟩)))))))
        ·exact psk 10 hc298 rfl (Pb hc298 rfl (mb rfl (psk 4 rfl rfl (puk 6 rfl (psk 2 rfl rfl (puk 10 rfl (psk 1 rfl rfl (Pb rfl rfl (Nb rfl ((ag) ⟨false, W287, rfl, (l273.j l287).w, rfl, hm⟩))))))))))
       ·exact psk 3 hc284 rfl (Pb hc284 rfl (mb rfl (psk 10 rfl rfl (Pb rfl rfl (mb rfl (psk 4 rfl rfl (puk 6 rfl (psk 2 rfl rfl (puk 10 rfl (psk 1 rfl rfl (Pb rfl rfl (Nb rfl ((ag) ⟨false, W273, rfl, l273, rfl, hm⟩)))))))))))))
  ·refine rg (mb rfl (mb rfl (Lw.r rfl (R.bne rfl rfl) (mb rfl (bs hm (fun hc308 hm => ?_) fun hc308 hm => ?_)))))
   ·exact psk 4 hc308 rfl (Pb hc308 rfl (mb rfl (psk 3 rfl rfl (Pb rfl rfl (nl ((ag) ⟨true, W70, rfl, Le.refl _ _, rfl, hm⟩))))))
   ·refine wak 4 hc308 (la b79 (la b70 ?_))
    have s309 := s49.up ((l60.sub (M := [10]) rfl).trans (l70.sub (M := [10]) rfl)) rfl
    have s310 := s50.up ((l60.sub (M := [10]) rfl).trans (l70.sub (M := [10]) rfl)) rfl
    refine ca hm (fun _ => p18 (K := [0, 2, 3, 4, 5, 7, 8]) (x0 := (Vm.Repo.mk z19.1.Commits z19.1.Heads)) ((Repo.rd (K := [7, 8]) z19.1.Commits z19.1.Heads (o76.rd.sub (M := [7, 8]) rfl) (o77.rd.sub (M := [7, 8]) rfl)).sub (M := [0, 2, 3, 4, 5, 7, 8]) rfl) ((Repo.rd (K := [0, 2, 3, 4, 5]) z46.1.Commits z46.1.Heads s309 s310).sub (M := [0, 2, 3, 4, 5, 7, 8]) rfl)) fun z311 W313 hm l313 => ?_
    have a314 := a71.n l313
    refine Lw.r rfl (R.not rfl) (Pb hc308 rfl (mb rfl (bs hm (fun hc324 hm => ?_) fun hc324 hm => ?_)))
    ·exact psk 3 hc324 rfl (Pb hc324 rfl (nl ((ag) ⟨true, W313, rfl, l313, rfl, hm⟩)))
    ·exact wak 3 hc324 (la (b78.up l313) (ca hm (fun _ => p19 (K := [0, 2, 3]) (x0 := (Vm.Repo.mk z2.1.Commits z2.1.Heads)) ((Repo.rd (K := [2, 3]) z2.1.Commits z2.1.Heads ((o72.up l313).rd.sub (M := [2, 3]) rfl) ((o73.up l313).rd.sub (M := [2, 3]) rfl)).sub (M := [0, 2, 3]) rfl) ((h99.ul a314).sub (M := [0, 2, 3]) rfl)) fun z326 W328 hm l328 => Lw.r rfl (R.not rfl) (Pb hc324 rfl (nl ((ag) ⟨(!z326), W328, rfl, (l313.j l328).w, rfl, hm⟩)))))

theorem p13 {x0 v0_ r} (h0 : Rd W K [v0_] x0) (h99 : Gl 0 W K) (hm : Vm.laws_FnSendTake x0 = some r) : Q1 13 [v0_] W [] fun W' v => v = vB r :=
 (c13 (h0.view _) (h99.view _) hm).ad (fk 0) fun _ _ e => e

end Go.Sx
