/- Walks: each function answers as its model, printed by a program of ours. Conditions: the arguments read as they are given. -/
import Derived.Test.YtidkloialdageaaGreatDoorCTs
import Derived.Test.YtidkloialdageaaGreatDoorCM7
import Derived.Test.YtidkloialdageaaGreatDoorCW14
import Derived.Test.YtidkloialdageaaGreatDoorCW15
import Derived.Test.YtidkloialdageaaGreatDoorCW2
import Derived.Test.YtidkloialdageaaGreatDoorCW6
namespace Go.Sx
open Go Go.Proofs Go.Vm Rp
set_option linter.unusedVariables false
set_option linter.unusedSimpArgs false
variable {W W0 : CW} {K : List Nat}
theorem c12 {x0 v0_ r} (h0 : Rd W0 [0] [v0_] x0) (h99 : Gl 0 W0 [0]) (hm : Vm.laws_FnRepoCommit x0 = some r) : Q0 12 [v0_] W0 fun Wf v => v = vB r := by
 unfold Vm.laws_FnRepoCommit at hm
 refine CallR.of Tryz.func12 rfl rfl rfl rfl (sr (Nb rfl (ssr (mv v0_ rfl (Lw.ln x0 h0 rfl (Lw.gt rfl (nl (cn hm (fun hm => ?_) fun hm => ?_))))))))
 ·exact sr (Nb rfl (.ret (rt hm (Le.refl _ _))))
 ·refine sk (sr (mv v0_ rfl (cr hm (fun _ => p61 (k0 := 2) (k1 := 3) (k2 := 4) h0) ?_)))
  rintro z2 _ W4 hm l4 ⟨v0_0_4, v0_1_4, v3_4, rfl, f4_0, f4_1, f4_2⟩
  have o5 : Ow (α := List (Sh Vm.File)) W4 4 [0] [v3_4] z2.2.2.2 := f4_2.sub rfl
  have a6 := l4.o
  refine mv (.tuple [.agg [v0_0_4, v0_1_4].toArray, vS z2.2.1, vS z2.2.2.1, v3_4].toArray) rfl (Lw.r rfl (R.ext (vs := [.agg [v0_0_4, v0_1_4].toArray, vS z2.2.1, vS z2.2.2.1, v3_4]) (v := .agg [v0_0_4, v0_1_4].toArray) rfl rfl) (Lw.r rfl (R.ext (vs := [.agg [v0_0_4, v0_1_4].toArray, vS z2.2.1, vS z2.2.2.1, v3_4]) (v := vS z2.2.1) rfl rfl) (Lw.r rfl (R.ext (vs := [.agg [v0_0_4, v0_1_4].toArray, vS z2.2.1, vS z2.2.2.1, v3_4]) (v := vS z2.2.2.1) rfl rfl) (Lw.r rfl (R.ext (vs := [.agg [v0_0_4, v0_1_4].toArray, vS z2.2.1, vS z2.2.2.1, v3_4]) (v := v3_4) rfl rfl) (al 5 [.slice none 0 0, .slice none 0 0] fun g7 W7 l7 b7 => ?_)))))
  have a8 := a6.n l7
  refine sta b7 (oc_cons (f4_0.up l7).oc (oc_cons (f4_1.up l7).oc oc_nil)) fun W12 l12 b12 => ?_
  have a13 := a8.t l12
  have o14 := (f4_0.up l7).up l12
  have o15 := (f4_1.up l7).up l12
  have o16 := (o5.up l7).up l12
  refine Gs rfl (Gs rfl (Nv v3_4 rfl (sr (la b12 (ms rfl (ms rfl (mv v3_4 rfl ?_)))))))
  have s17 : Rd (α := List Vm.File) W12 [4, 0] [v3_4] z2.2.2.2 := Ow.rdSh o16
  refine cr hm (fun _ => p62 (K := [0, 2, 3, 4]) (k0 := 6) (k1 := 7) (x0 := (Vm.Repo.mk z2.1.Commits z2.1.Heads)) ((Repo.rd (K := [2, 3]) z2.1.Commits z2.1.Heads (o14.rd.sub (M := [2, 3]) rfl) (o15.rd.sub (M := [2, 3]) rfl)).sub (M := [0, 2, 3, 4]) rfl) (s17.sub (M := [0, 2, 3, 4]) rfl) ((h99.ul a13).sub (M := [0, 2, 3, 4]) rfl)) ?_
  rintro z19 _ W21 hm l21 ⟨v0_0_21, v0_1_21, rfl, f21_0, f21_1⟩
  have a22 := a13.n l21
  refine mv (.tuple [.agg [v0_0_21, v0_1_21].toArray, vB z19.2].toArray) rfl (Lw.r rfl (R.ext (vs := [.agg [v0_0_21, v0_1_21].toArray, vB z19.2]) (v := .agg [v0_0_21, v0_1_21].toArray) rfl rfl) (Lw.r rfl (R.ext (vs := [.agg [v0_0_21, v0_1_21].toArray, vB z19.2]) (v := vB z19.2) rfl rfl) (al 8 [.slice none 0 0, .slice none 0 0] fun g27 W27 l27 b27 => ?_)))
  have a28 := a22.n l27
  refine sta b27 (oc_cons (f21_0.up l27).oc (oc_cons (f21_1.up l27).oc oc_nil)) fun W35 l35 b35 => ?_
  have a36 := a28.t l35
  have o37 := ((o14.up l21).up l27).up l35
  have o38 := ((o15.up l21).up l27).up l35
  have o39 := ((o16.up l21).up l27).up l35
  have b42 := ((b12.up l21).up l27).up l35
  refine Nb rfl (sr (la b42 (ms rfl (ms rfl (mv v3_4 rfl ?_)))))
  have s43 : Rd (α := List Vm.File) W35 [4, 0] [v3_4] z2.2.2.2 := Ow.rdSh o39
  refine cr hm (fun _ => p63 (K := [0, 2, 3, 4]) (x0 := (Vm.Repo.mk z2.1.Commits z2.1.Heads)) ((Repo.rd (K := [2, 3]) z2.1.Commits z2.1.Heads (o37.rd.sub (M := [2, 3]) rfl) (o38.rd.sub (M := [2, 3]) rfl)).sub (M := [0, 2, 3, 4]) rfl) (s43.sub (M := [0, 2, 3, 4]) rfl)) ?_
  rintro z44 _ W46 hm l46 ⟨v0_0_46, v0_1_46, rfl, f46_0, f46_1⟩
  have s47 := f46_0.sub (M := [0, 2, 3, 4]) rfl
  have s48 := f46_1.sub (M := [0, 2, 3, 4]) rfl
  have a49 := a36.n l46
  refine mv (.tuple [.agg [v0_0_46, v0_1_46].toArray, vB z44.2].toArray) rfl (Lw.r rfl (R.ext (vs := [.agg [v0_0_46, v0_1_46].toArray, vB z44.2]) (v := .agg [v0_0_46, v0_1_46].toArray) rfl rfl) (Lw.r rfl (R.ext (vs := [.agg [v0_0_46, v0_1_46].toArray, vB z44.2]) (v := vB z44.2) rfl rfl) (al 9 [.slice none 0 0, .slice none 0 0] fun g57 W57 l57 b57 => ?_)))
  have a58 := a49.n l57
  refine sta b57 (oc_cons s47.oc (oc_cons s48.oc oc_nil)) fun W66 l66 b66 => ?_
  have a67 := a58.t l66
  have o68 := ((o37.up l46).up l57).up l66
  have o69 := ((o38.up l46).up l57).up l66
  have o71 := ((((f21_0.up l27).up l35).up l46).up l57).up l66
  have o72 := ((((f21_1.up l27).up l35).up l46).up l57).up l66
  have b73 := ((b42.up l46).up l57).up l66
  have b74 := ((b35.up l46).up l57).up l66
  refine Nb rfl (Cw.seq ?_)
  obtain ⟨K77, hK77, hm⟩ := jn_e hm
  refine Cw.join 42 62 [62] (fun l w => ∃ y75 W76, CW.w W76 = w ∧ Le [] W66 W76 ∧ l = [vB y75] ∧ K77 y75 = some r) ?_ ?_
  ·rintro _ _ σ ⟨y75, W76, rfl, l76, rfl, hm⟩
   rw [hK77] at hm
   have a78 := a67.n l76
   have o79 := o68.up l76
   have o80 := o69.up l76
   have o82 := o71.up l76
   have o83 := o72.up l76
   have b84 := b73.up l76
   have b85 := b74.up l76
   refine cn hm (fun hm => ?_) fun hm => ?_
   ·obtain ⟨K90, hK90, hm⟩ := jn_e hm
    refine Cw.join 63 77 [2] (fun l w => ∃ y88 W89, CW.w W89 = w ∧ Le [] W76 W89 ∧ l = [vB y88] ∧ K90 y88 = some r) ?_ ?_
    ·rintro _ _ σ ⟨y88, W89, rfl, l89, rfl, hm⟩
     rw [hK90] at hm
     have a91 := a78.n l89
     exact .ret (rt hm a91)
    ·refine Cw.draw [] [(0, 0), (1, 0), (2, 0), (3, 0), (4, 1), (5, 1), (6, 2), (7, 0), (8, 0), (9, 1), (11, 1), (10, 2), (12, 2), (13, 0), (14, 0), (15, 0)] mixed (by kernel_rfl) fun W100 l100 => ?_
     have a101 := a78.n l100
     refine Db rfl (Db rfl (Mw.p rfl rfl (fun _ => R.beq rfl rfl) (Db rfl (bs hm (fun hc110 hm => ?_) fun hc110 hm => ?_))))
     ·refine Wq hc110 rfl (fun _ c => R.lda (cs := [v0_0_21, v0_1_21]) ((b85.up l100).clcs rfl c) rfl rfl) (Wq hc110 rfl (fun _ c => R.lda (cs := [v0_0_46, v0_1_46]) (((b66.up l76).up l100).clcs rfl c) rfl rfl) ?_)
      have s111 := s47.up ((l57.sub (M := [9]) rfl).trans ((l66.sub (M := [9]) rfl).trans ((l76.sub (M := [9]) rfl).trans (l100.sub (M := [9]) rfl)))) rfl
      have s112 := s48.up ((l57.sub (M := [9]) rfl).trans ((l66.sub (M := [9]) rfl).trans ((l76.sub (M := [9]) rfl).trans (l100.sub (M := [9]) rfl)))) rfl
      obtain ⟨z113, e114, hm⟩ := ob hm
      refine Wt hc110 rfl (T.call rfl (p18 (K := [0, 2, 3, 4, 6, 7])  (x0 := (Vm.Repo.mk z19.1.Commits z19.1.Heads)) ((Repo.rd (K := [6, 7]) z19.1.Commits z19.1.Heads ((o82.up l100).rd.sub (M := [6, 7]) rfl) ((o83.up l100).rd.sub (M := [6, 7]) rfl)).sub (M := [0, 2, 3, 4, 6, 7]) rfl) ((Repo.rd (K := [0, 2, 3, 4]) z44.1.Commits z44.1.Heads s111 s112).sub (M := [0, 2, 3, 4, 6, 7]) rfl) e114)) ?_
      rintro _ _ ⟨W115, rfl, l115, rfl⟩
      have a116 := a101.n l115
      have o117 := (o79.up l100).up l115
      have o118 := (o80.up l100).up l115
      refine m0 l115 fun d115 => Mw.p rfl rfl (fun _ => R.pk hc110 rfl (v := vB z113) rfl) (Db rfl (bs hm (fun hc125 hm => ?_) fun hc125 hm => ?_))
      ·refine Wq hc125 rfl (fun _ c => R.lda (cs := [v0_0_4, v0_1_4]) ((b84.up l100).clcs rfl c) rfl rfl) (Wq hc125 rfl (fun _ c => R.lda (cs := [v0_0_4, v0_1_4]) ((b84.up l100).clcs rfl c) rfl rfl) ?_)
       obtain ⟨z127, e128, hm⟩ := ob hm
       refine Wt hc125 rfl (T.call rfl (p19 (K := [0, 2, 3])  (x0 := (Vm.Repo.mk z2.1.Commits z2.1.Heads)) ((Repo.rd (K := [2, 3]) z2.1.Commits z2.1.Heads (o117.rd.sub (M := [2, 3]) rfl) (o118.rd.sub (M := [2, 3]) rfl)).sub (M := [0, 2, 3]) rfl) ((h99.ul a116).sub (M := [0, 2, 3]) rfl) e128)) ?_
       rintro _ _ ⟨W129, rfl, l129, rfl⟩
       refine mc d115 l129 fun d129 => ?_
       obtain ⟨z139, e140, hm⟩ := ob hm
       refine Wt hc125 rfl (T.call rfl (p64 (K := [2, 3])  (x0 := (Vm.Repo.mk z2.1.Commits z2.1.Heads)) (Repo.rd (K := [2, 3]) z2.1.Commits z2.1.Heads ((o117.up l129).rd.sub (M := [2, 3]) rfl) ((o118.up l129).rd.sub (M := [2, 3]) rfl)) e140)) ?_
       rintro _ _ ⟨W141, rfl, l141, rfl⟩
       exact mc d129 l141 fun d141 => Wp hc125 rfl (fun _ => R.beq rfl rfl) (Mw.p rfl rfl (fun _ => R.pk hc125 rfl (v := vB (z127 == z139)) rfl) (Hb rfl (Mw.nil ((ag) ⟨(z127 == z139), W141, rfl, (((l100.j l115).j l129).j l141).w, rfl, hm⟩))))
      ·exact dps 5 hc125 rfl (Mw.p rfl rfl (fun _ => R.pk hc125 rfl (v := vB false) rfl) (Hb rfl (Mw.nil ((ag) ⟨false, W115, rfl, (l100.j l115).w, rfl, hm⟩))))
     ·exact dps 3 hc110 rfl (Mw.p rfl rfl (fun _ => R.pk hc110 rfl (v := vB false) rfl) (Db rfl (dps 5 rfl rfl (Mw.p rfl rfl (fun _ => R.pk rfl rfl (v := vB false) rfl) (Hb rfl (Mw.nil ((ag) ⟨false, W100, rfl, l100, rfl, hm⟩)))))))
   ·refine sk (ssr (mb rfl (Lw.r rfl (R.not rfl) (nl (cn hm (fun hm => ?_) fun hm => ?_)))))
    ·refine sr (la b85 (la b84 (ca hm (fun _ => p18 (K := [2, 3, 6, 7]) (x0 := (Vm.Repo.mk z19.1.Commits z19.1.Heads)) (x1 := (Vm.Repo.mk z2.1.Commits z2.1.Heads)) ((Repo.rd (K := [6, 7]) z19.1.Commits z19.1.Heads (o82.rd.sub (M := [6, 7]) rfl) (o83.rd.sub (M := [6, 7]) rfl)).sub (M := [2, 3, 6, 7]) rfl) ((Repo.rd (K := [2, 3]) z2.1.Commits z2.1.Heads (o79.rd.sub (M := [2, 3]) rfl) (o80.rd.sub (M := [2, 3]) rfl)).sub (M := [2, 3, 6, 7]) rfl)) fun z152 W154 hm l154 => ?_)))
     have a155 := a78.n l154
     exact Nb rfl (.ret (rt hm a155))
    ·refine sk (sr (la b85 (ms rfl (ca hm (fun _ => p20 (K := [0, 6, 7]) (x0 := (Vm.Repo.mk z19.1.Commits z19.1.Heads)) ((Repo.rd (K := [6, 7]) z19.1.Commits z19.1.Heads (o82.rd.sub (M := [6, 7]) rfl) (o83.rd.sub (M := [6, 7]) rfl)).sub (M := [0, 6, 7]) rfl) ((h99.ul a78).sub (M := [0, 6, 7]) rfl)) fun z165 W167 hm l167 => ?_))))
     have a168 := a78.n l167
     refine Ni rfl (sr (la (b85.up l167) (mi rfl (cr hm (fun _ => p56 (K := [0, 6, 7]) (k0 := 10) (x0 := (Vm.Repo.mk z19.1.Commits z19.1.Heads)) ((Repo.rd (K := [6, 7]) z19.1.Commits z19.1.Heads ((o82.up l167).rd.sub (M := [6, 7]) rfl) ((o83.up l167).rd.sub (M := [6, 7]) rfl)).sub (M := [0, 6, 7]) rfl) ((h99.ul a168).sub (M := [0, 6, 7]) rfl)) ?_))))
     rintro z178 _ W180 hm l180 ⟨v0_180, rfl, f180_0⟩
     have a181 := a168.n l180
     have o182 := (o79.up l167).up l180
     have o183 := (o80.up l167).up l180
     have b187 := (b84.up l167).up l180
     refine mv (.tuple [v0_180, vB z178.2].toArray) rfl (Lw.r rfl (R.ext (vs := [v0_180, vB z178.2]) (v := v0_180) rfl rfl) (Lw.r rfl (R.ext (vs := [v0_180, vB z178.2]) (v := vB z178.2) rfl rfl) (Gv v0_180 rfl (Nb rfl (sr (la b187 (ms rfl (ca hm (fun _ => p20 (K := [0, 2, 3]) (x0 := (Vm.Repo.mk z2.1.Commits z2.1.Heads)) ((Repo.rd (K := [2, 3]) z2.1.Commits z2.1.Heads (o182.rd.sub (M := [2, 3]) rfl) (o183.rd.sub (M := [2, 3]) rfl)).sub (M := [0, 2, 3]) rfl) ((h99.ul a181).sub (M := [0, 2, 3]) rfl)) fun z191 W193 hm l193 => ?_))))))))
     have a194 := a181.n l193
     refine Ni rfl (ssr (Ni rfl (Cw.block ?_)))
     obtain ⟨K207, hK207, hm⟩ := jn_e hm
     refine Cw.loop 95 126 [2, 15] (fun m l w => ∃ y204 y205 W206, CW.w W206 = w ∧ Le [] W193 W206 ∧ l = [vB y204, vI y205] ∧ Vm.laws_FnRepoCommit_l1 z2 z19 K207 m y204 y205 = some r) _ ⟨false, 0, W193, rfl, Le.refl _ _, rfl, hm⟩ ?_
     rintro (_ | m208) _ _ σ ⟨y204, y205, W206, rfl, l206, rfl, hm⟩
     ·cases hm
     unfold Vm.laws_FnRepoCommit_l1 at hm
     have a209 := a194.n l206
     have o211 := (o183.up l193).up l206
     have o213 := (((o82.up l167).up l180).up l193).up l206
     have o214 := (((o83.up l167).up l180).up l193).up l206
     have b216 := (b187.up l193).up l206
     have b217 := (((b85.up l167).up l180).up l193).up l206
     refine ssr (mi rfl (fl b216 rfl (Lw.ln z2.1.Heads o211.rd rfl (Lw.lt rfl (nl (cn hm (fun hm => ?_) fun hm => ?_))))))
     ·refine sk (Cw.seq (Cw.block ?_))
      obtain ⟨K222, hK222, hm⟩ := jn_e hm
      refine Cw.join 102 126 [126] (fun l w => ∃ y220 W221, CW.w W221 = w ∧ Le [] W206 W221 ∧ l = [vB y220] ∧ K222 y220 = some r) ?_ ?_
      ·rintro _ _ σ ⟨y220, W221, rfl, l221, rfl, hm⟩
       rw [hK222] at hm
       have a223 := a209.n l221
       refine cn hm (fun hm => ?_) fun hm => ?_
       ·exact sr (Nb rfl (.ret (rt hm a223)))
       ·exact sk (rg (mi rfl (Lw.add rfl (Ni rfl ((agm) ⟨y204, w64 (y205 + 1), W221, rfl, (l206.j l221).w, rfl, hm⟩)))))
      ·refine Cw.draw [] [(0, 0), (1, 1), (2, 0), (3, 0), (4, 0), (5, 1), (6, 0), (7, 0), (8, 0), (9, 1), (10, 0), (11, 1), (12, 0), (13, 0), (14, 0), (15, 1), (17, 0), (18, 1), (19, 0), (20, 0), (21, 0), (22, 1), (16, 2), (23, 0), (24, 0)] mixed (by kernel_rfl) fun W234 l234 => ?_
       have a235 := a209.n l234
       have o237 := o211.up l234
       have b242 := b216.up l234
       refine Dfl b242 rfl rfl rfl (Di rfl ?_)
       obtain ⟨u245, e246, hm⟩ := ob hm
       refine Mw.p rfl rfl (fun _ => R.ix (α := Head) o237.rd e246 rfl rfl rfl) (Df rfl (Mw.q rfl rfl (fun _ c => R.ld rfl rfl (cl_cell (Head.at0 (o237.rd.at_ e246)).1 rfl (Head.at0 (o237.rd.at_ e246)).str c)) (Ds rfl (Mw.p rfl rfl (fun _ => R.sne rfl rfl) (Db rfl (bs hm (fun hc247 hm => ?_) fun hc247 hm => ?_))))))
       ·refine Wq hc247 rfl (fun _ c => R.lda (cs := [v0_0_21, v0_1_21]) ((b217.up l234).clcs rfl c) rfl rfl) (Wp hc247 rfl (fun _ => R.fa rfl) (Wq hc247 rfl (fun _ c => R.ld (v := v0_1_4) rfl rfl (b242.clc rfl rfl c)) (Wp hc247 rfl (fun _ => R.mv (v := vI y205) rfl) ?_)))
        obtain ⟨u248, e249, hm⟩ := ob hm
        refine Wp hc247 rfl (fun _ => R.ix (α := Head) o237.rd e249 rfl rfl rfl) (Wp hc247 rfl (fun _ => R.fa rfl) (Wq hc247 rfl (fun _ c => R.ld rfl rfl (cl_cell (Head.at0 (o237.rd.at_ e249)).1 rfl (Head.at0 (o237.rd.at_ e249)).str c)) (Wp hc247 rfl (fun _ => R.fa rfl) (Wq hc247 rfl (fun _ c => R.ld (v := v0_1_4) rfl rfl (b242.clc rfl rfl c)) (Wp hc247 rfl (fun _ => R.mv (v := vI y205) rfl) ?_)))))
        obtain ⟨u250, e251, hm⟩ := ob hm
        refine Wp hc247 rfl (fun _ => R.ix (α := Head) o237.rd e251 rfl rfl rfl) (Wp hc247 rfl (fun _ => R.fa rfl) (Wq hc247 rfl (fun _ c => R.ld rfl rfl (cl_cell (Head.at1 (o237.rd.at_ e251)).1 rfl (Head.at1 (o237.rd.at_ e251)).int c)) ?_))
        obtain ⟨z253, e254, hm⟩ := ob hm
        refine Wt hc247 rfl (T.call rfl (p20 (K := [0, 6, 7])  (x0 := (Vm.Repo.mk z19.1.Commits z19.1.Heads)) ((Repo.rd (K := [6, 7]) z19.1.Commits z19.1.Heads ((o213.up l234).rd.sub (M := [6, 7]) rfl) ((o214.up l234).rd.sub (M := [6, 7]) rfl)).sub (M := [0, 6, 7]) rfl) ((h99.ul a235).sub (M := [0, 6, 7]) rfl) e254)) ?_
        rintro _ _ ⟨W255, rfl, l255, rfl⟩
        exact m0 l255 fun d255 => Wp hc247 rfl (fun _ => R.ne rfl rfl) (Mw.p rfl rfl (fun _ => R.pk hc247 rfl (v := vB ((z253 : Int) != (u250.At : Int))) rfl) (Mw.nil ((ag) ⟨((z253 : Int) != (u250.At : Int)), W255, rfl, (l234.j l255).w, rfl, hm⟩)))
       ·exact dps 15 hc247 rfl (Mw.p rfl rfl (fun _ => R.pk hc247 rfl (v := vB false) rfl) (Mw.nil ((ag) ⟨false, W234, rfl, l234, rfl, hm⟩)))
     ·refine Cw.exit ?_
      rw [hK207] at hm
      obtain ⟨K268, hK268, hm⟩ := jn_e hm
      refine Cw.join 127 177 [2] (fun l w => ∃ y266 W267, CW.w W267 = w ∧ Le [] W206 W267 ∧ l = [vB y266] ∧ K268 y266 = some r) ?_ ?_
      ·rintro _ _ σ ⟨y266, W267, rfl, l267, rfl, hm⟩
       rw [hK268] at hm
       have a269 := a209.n l267
       exact .ret (rt hm a269)
      ·refine rg (la b217 (ca hm (fun _ => p19 (K := [0, 6, 7]) (x0 := (Vm.Repo.mk z19.1.Commits z19.1.Heads)) ((Repo.rd (K := [6, 7]) z19.1.Commits z19.1.Heads (o213.rd.sub (M := [6, 7]) rfl) (o214.rd.sub (M := [6, 7]) rfl)).sub (M := [0, 6, 7]) rfl) ((h99.ul a209).sub (M := [0, 6, 7]) rfl)) fun z280 W282 hm l282 => ?_))
       have o284 := ((o182.up l193).up l206).up l282
       refine mb rfl (bs hm (fun hc293 hm => ?_) fun hc293 hm => ?_)
       ·refine wak 3 hc293 (la (b217.up l282) (la (b216.up l282) (ca hm (fun _ => p21 (K := [2, 3, 6, 7]) (x0 := (Vm.Repo.mk z19.1.Commits z19.1.Heads)) (x1 := (Vm.Repo.mk z2.1.Commits z2.1.Heads)) ((Repo.rd (K := [6, 7]) z19.1.Commits z19.1.Heads ((o213.up l282).rd.sub (M := [6, 7]) rfl) ((o214.up l282).rd.sub (M := [6, 7]) rfl)).sub (M := [2, 3, 6, 7]) rfl) ((Repo.rd (K := [2, 3]) z2.1.Commits z2.1.Heads (o284.rd.sub (M := [2, 3]) rfl) ((o211.up l282).rd.sub (M := [2, 3]) rfl)).sub (M := [2, 3, 6, 7]) rfl)) fun z294 W296 hm l296 => Pb hc293 rfl (mb rfl (bs hm (fun hc307 hm => ?_) fun hc307 hm => ?_)))))
        ·refine wak 5 hc307 (mi rfl (fl ((b216.up l282).up l296) rfl (Lw.ln z2.1.Commits (o284.up l296).rd rfl (Lw.eq rfl (Pb hc307 rfl (mb rfl (bs hm (fun hc308 hm => ?_) fun hc308 hm => ?_)))))))
         ·refine wak 1 hc308 (mb rfl (Pb hc308 rfl (mb rfl (bs hm (fun hc309 hm => ?_) fun hc309 hm => ?_))))
          ·refine wak 3 hc309 (mv v0_180 rfl (mv v3_4 rfl ?_))
           have s310 : Rd (α := List Vm.File) W296 [4, 0] [v3_4] z2.2.2.2 := Ow.rdSh ((((((((((o39.up l46).up l57).up l66).up l76).up l167).up l180).up l193).up l206).up l282).up l296)
           refine ca hm (fun _ => p42 (K := [0, 4, 10]) (((((f180_0.up l193).up l206).up l282).up l296).rd.sub (M := [0, 4, 10]) rfl) (s310.sub (M := [0, 4, 10]) rfl)) fun z311 W313 hm l313 => ?_
           have o318 := ((o213.up l282).up l296).up l313
           have b322 := ((b217.up l282).up l296).up l313
           refine Pb hc309 rfl (mb rfl (bs hm (fun hc324 hm => ?_) fun hc324 hm => ?_))
           ·refine wak 3 hc324 (mi rfl (Lw.lt rfl (mb rfl (bs hm (fun hc325 hm => ?_) fun hc325 hm => ?_))))
            ·refine wak 8 hc325 (fl b322 rfl (mi rfl ?_))
             obtain ⟨u326, e327, hm⟩ := ob hm
             refine Lw.r rfl (R.ix (α := Commit) o318.rd e327 rfl rfl rfl) (Lw.fa rfl ?_)
             obtain ⟨v328, c329, r330⟩ := (Commit.at0 (o318.rd.at_ e327)).cell rfl
             refine Lw.r rfl (R.ld rfl rfl c329) (Lw.ln u326.Parents r330 rfl (Lw.eq rfl (wak 2 hc324 (Pb hc325 rfl (mb rfl (bs hm (fun hc331 hm => ?_) fun hc331 hm => ?_))))))
             ·exact psk 3 hc331 rfl (puk 9 rfl (psk 1 hc331 rfl (wak 1 hc324 (Pb hc331 rfl (Pb hc324 rfl (Nb rfl ((ag) ⟨true, W313, rfl, ((l282.j l296).j l313).w, rfl, hm⟩)))))))
             ·refine wak 3 hc331 (mi rfl (Lw.ge rfl (mb rfl (bs hm (fun hc332 hm => ?_) fun hc332 hm => ?_))))
              ·refine wak 9 hc332 (fl b322 rfl (mi rfl ?_))
               obtain ⟨u333, e334, hm⟩ := ob hm
               refine Lw.r rfl (R.ix (α := Commit) o318.rd e334 rfl rfl rfl) (Lw.fa rfl ?_)
               obtain ⟨v335, c336, r337⟩ := (Commit.at0 (o318.rd.at_ e334)).cell rfl
               refine Lw.r rfl (R.ld rfl rfl c336) (mi rfl (Lw.t rfl (T.bsS (α := Int) (xs := [z191]) 11 [] (W := W313) [vI z191] (Each.cons ((rdI _)) Each.nil) rfl) ?_))
               rintro v338 _ ⟨W338, rfl, l338, o338⟩
               have s349 := r337.up (l338.sub (M := []) rfl) rfl
               exact ca hm (fun _ => p24 (K := [6, 11]) (s349.sub (M := [6, 11]) rfl) (o338.rd.sub (M := [6, 11]) rfl)) fun z350 W352 hm l352 => wak 1 hc331 (Pb hc332 rfl (wak 1 hc324 (Pb hc331 rfl (Pb hc324 rfl (Nb rfl ((ag) ⟨z350, W352, rfl, ((((l282.j l296).j l313).j l338).j l352).w, rfl, hm⟩))))))
              ·exact psk 9 hc332 rfl (wak 1 hc331 (Pb hc332 rfl (wak 1 hc324 (Pb hc331 rfl (Pb hc324 rfl (Nb rfl ((ag) ⟨false, W313, rfl, ((l282.j l296).j l313).w, rfl, hm⟩)))))))
            ·refine psk 8 hc325 rfl (wak 2 hc324 (Pb hc325 rfl (mb rfl (wak 3 rfl (mi rfl (Lw.ge rfl (mb rfl (bs hm (fun hc364 hm => ?_) fun hc364 hm => ?_))))))))
             ·refine wak 9 hc364 (fl b322 rfl (mi rfl ?_))
              obtain ⟨u365, e366, hm⟩ := ob hm
              refine Lw.r rfl (R.ix (α := Commit) o318.rd e366 rfl rfl rfl) (Lw.fa rfl ?_)
              obtain ⟨v367, c368, r369⟩ := (Commit.at0 (o318.rd.at_ e366)).cell rfl
              refine Lw.r rfl (R.ld rfl rfl c368) (mi rfl (Lw.t rfl (T.bsS (α := Int) (xs := [z191]) 12 [] (W := W313) [vI z191] (Each.cons ((rdI _)) Each.nil) rfl) ?_))
              rintro v370 _ ⟨W370, rfl, l370, o370⟩
              have s381 := r369.up (l370.sub (M := []) rfl) rfl
              exact ca hm (fun _ => p24 (K := [6, 12]) (s381.sub (M := [6, 12]) rfl) (o370.rd.sub (M := [6, 12]) rfl)) fun z382 W384 hm l384 => wak 1 rfl (Pb hc364 rfl (wak 1 hc324 (Pb rfl rfl (Pb hc324 rfl (Nb rfl ((ag) ⟨z382, W384, rfl, ((((l282.j l296).j l313).j l370).j l384).w, rfl, hm⟩))))))
             ·exact psk 9 hc364 rfl (wak 1 rfl (Pb hc364 rfl (wak 1 hc324 (Pb rfl rfl (Pb hc324 rfl (Nb rfl ((ag) ⟨false, W313, rfl, ((l282.j l296).j l313).w, rfl, hm⟩)))))))
           ·exact psk 3 hc324 rfl (puk 8 rfl (psk 2 hc324 rfl (puk 13 rfl (psk 1 hc324 rfl (Pb hc324 rfl (Nb rfl ((ag) ⟨false, W313, rfl, ((l282.j l296).j l313).w, rfl, hm⟩)))))))
          ·exact psk 3 hc309 rfl (Pb hc309 rfl (mb rfl (psk 3 rfl rfl (puk 8 rfl (psk 2 rfl rfl (puk 13 rfl (psk 1 rfl rfl (Pb rfl rfl (Nb rfl ((ag) ⟨false, W296, rfl, (l282.j l296).w, rfl, hm⟩))))))))))
         ·exact psk 1 hc308 rfl (Pb hc308 rfl (mb rfl (psk 3 rfl rfl (Pb rfl rfl (mb rfl (psk 3 rfl rfl (puk 8 rfl (psk 2 rfl rfl (puk 13 rfl (psk 1 rfl rfl (Pb rfl rfl (Nb rfl ((ag) ⟨false, W296, rfl, (l282.j l296).w, rfl, hm⟩)))))))))))))
        ·exact psk 5 hc307 rfl (Pb hc307 rfl (mb rfl (psk 1 rfl rfl (Pb rfl rfl (mb rfl (psk 3 rfl rfl (Pb rfl rfl (mb rfl (psk 3 rfl rfl (puk 8 rfl (psk 2 rfl rfl (puk 13 rfl (psk 1 rfl rfl (Pb rfl rfl (Nb rfl ((ag) ⟨false, W296, rfl, (l282.j l296).w, rfl, hm⟩))))))))))))))))
       ·exact psk 3 hc293 rfl (Pb hc293 rfl (mb rfl (psk 5 rfl rfl (Pb rfl rfl (mb rfl (psk 1 rfl rfl (Pb rfl rfl (mb rfl (psk 3 rfl rfl (Pb rfl rfl (mb rfl (psk 3 rfl rfl (puk 8 rfl (psk 2 rfl rfl (puk 13 rfl (psk 1 rfl rfl (Pb rfl rfl (Nb rfl ((ag) ⟨false, W282, rfl, l282, rfl, hm⟩)))))))))))))))))))
  ·refine Cw.draw [] [(0, 0), (1, 0), (2, 0), (3, 0), (4, 1), (5, 1), (6, 2), (7, 0), (8, 0), (9, 0), (10, 1), (12, 1), (11, 2), (13, 2), (14, 0), (15, 0), (16, 0), (17, 1), (18, 2), (19, 0), (20, 0)] mixed (by kernel_rfl) fun W396 l396 => ?_
   have a397 := a67.n l396
   have b403 := b73.up l396
   refine Db rfl (Db rfl (Mw.p rfl rfl (fun _ => R.bne rfl rfl) (Db rfl (bs hm (fun hc406 hm => ?_) fun hc406 hm => ?_))))
   ·exact dps 4 hc406 rfl (Mw.p rfl rfl (fun _ => R.pk hc406 rfl (v := vB true) rfl) (Db rfl (dps 5 rfl rfl (Mw.p rfl rfl (fun _ => R.pk rfl rfl (v := vB true) rfl) (Db rfl (dps 3 rfl rfl (Mw.p rfl rfl (fun _ => R.pk rfl rfl (v := vB true) rfl) (Mw.nil ((ag) ⟨true, W396, rfl, l396, rfl, hm⟩)))))))))
   ·refine Wq hc406 rfl (fun _ c => R.lda (cs := [v0_0_21, v0_1_21]) ((b74.up l396).clcs rfl c) rfl rfl) (Wq hc406 rfl (fun _ c => R.lda (cs := [v0_0_46, v0_1_46]) ((b66.up l396).clcs rfl c) rfl rfl) ?_)
    have s407 := s47.up ((l57.sub (M := [9]) rfl).trans ((l66.sub (M := [9]) rfl).trans (l396.sub (M := [9]) rfl))) rfl
    have s408 := s48.up ((l57.sub (M := [9]) rfl).trans ((l66.sub (M := [9]) rfl).trans (l396.sub (M := [9]) rfl))) rfl
    obtain ⟨z409, e410, hm⟩ := ob hm
    refine Wt hc406 rfl (T.call rfl (p18 (K := [0, 2, 3, 4, 6, 7])  (x0 := (Vm.Repo.mk z19.1.Commits z19.1.Heads)) ((Repo.rd (K := [6, 7]) z19.1.Commits z19.1.Heads ((o71.up l396).rd.sub (M := [6, 7]) rfl) ((o72.up l396).rd.sub (M := [6, 7]) rfl)).sub (M := [0, 2, 3, 4, 6, 7]) rfl) ((Repo.rd (K := [0, 2, 3, 4]) z44.1.Commits z44.1.Heads s407 s408).sub (M := [0, 2, 3, 4, 6, 7]) rfl) e410)) ?_
    rintro _ _ ⟨W411, rfl, l411, rfl⟩
    have a412 := a397.n l411
    have o413 := (o68.up l396).up l411
    have o414 := (o69.up l396).up l411
    refine m0 l411 fun d411 => Wp hc406 rfl (fun _ => R.not rfl) (Mw.p rfl rfl (fun _ => R.pk hc406 rfl (v := vB (!z409)) rfl) (Db rfl (bs hm (fun hc421 hm => ?_) fun hc421 hm => ?_)))
    ·exact dps 5 hc421 rfl (Mw.p rfl rfl (fun _ => R.pk hc421 rfl (v := vB true) rfl) (Db rfl (dps 3 rfl rfl (Mw.p rfl rfl (fun _ => R.pk rfl rfl (v := vB true) rfl) (Mw.nil ((ag) ⟨true, W411, rfl, (l396.j l411).w, rfl, hm⟩))))))
    ·refine Wq hc421 rfl (fun _ c => R.lda (cs := [v0_0_4, v0_1_4]) (b403.clcs rfl c) rfl rfl) (Wq hc421 rfl (fun _ c => R.lda (cs := [v0_0_4, v0_1_4]) (b403.clcs rfl c) rfl rfl) ?_)
     obtain ⟨z423, e424, hm⟩ := ob hm
     refine Wt hc421 rfl (T.call rfl (p19 (K := [0, 2, 3])  (x0 := (Vm.Repo.mk z2.1.Commits z2.1.Heads)) ((Repo.rd (K := [2, 3]) z2.1.Commits z2.1.Heads (o413.rd.sub (M := [2, 3]) rfl) (o414.rd.sub (M := [2, 3]) rfl)).sub (M := [0, 2, 3]) rfl) ((h99.ul a412).sub (M := [0, 2, 3]) rfl) e424)) ?_
     rintro _ _ ⟨W425, rfl, l425, rfl⟩
     have a426 := a412.n l425
     refine mc d411 l425 fun d425 => ?_
     obtain ⟨z435, e436, hm⟩ := ob hm
     refine Wt hc421 rfl (T.call rfl (p64 (K := [2, 3])  (x0 := (Vm.Repo.mk z2.1.Commits z2.1.Heads)) (Repo.rd (K := [2, 3]) z2.1.Commits z2.1.Heads ((o413.up l425).rd.sub (M := [2, 3]) rfl) ((o414.up l425).rd.sub (M := [2, 3]) rfl)) e436)) ?_
     rintro _ _ ⟨W437, rfl, l437, rfl⟩
     have a438 := a426.n l437
     refine mc d425 l437 fun d437 => Wp hc421 rfl (fun _ => R.bne rfl rfl) (Mw.p rfl rfl (fun _ => R.pk hc421 rfl (v := vB (z423 != z435)) rfl) (Db rfl (bs hm (fun hc447 hm => ?_) fun hc447 hm => ?_)))
     ·exact dps 3 hc447 rfl (Mw.p rfl rfl (fun _ => R.pk hc447 rfl (v := vB true) rfl) (Mw.nil ((ag) ⟨true, W437, rfl, (((l396.j l411).j l425).j l437).w, rfl, hm⟩)))
     ·refine Wq hc447 rfl (fun _ c => R.lda (cs := [v0_0_4, v0_1_4]) (b403.clcs rfl c) rfl rfl) ?_
      obtain ⟨z449, e450, hm⟩ := ob hm
      refine Wt hc447 rfl (T.call rfl (p19 (K := [0, 2, 3])  (x0 := (Vm.Repo.mk z2.1.Commits z2.1.Heads)) ((Repo.rd (K := [2, 3]) z2.1.Commits z2.1.Heads (((o413.up l425).up l437).rd.sub (M := [2, 3]) rfl) (((o414.up l425).up l437).rd.sub (M := [2, 3]) rfl)).sub (M := [0, 2, 3]) rfl) ((h99.ul a438).sub (M := [0, 2, 3]) rfl) e450)) ?_
      rintro _ _ ⟨W451, rfl, l451, rfl⟩
      exact mc d437 l451 fun d451 => Wp hc447 rfl (fun _ => R.not rfl) (Mw.p rfl rfl (fun _ => R.pk hc447 rfl (v := vB (!z449)) rfl) (Mw.nil ((ag) ⟨(!z449), W451, rfl, ((((l396.j l411).j l425).j l437).j l451).w, rfl, hm⟩)))
theorem p12 {x0 v0_ r} (h0 : Rd W K [v0_] x0) (h99 : Gl 0 W K) (hm : Vm.laws_FnRepoCommit x0 = some r) : Q1 12 [v0_] W [] fun W' v => v = vB r :=
 (c12 (h0.view _) (h99.view _) hm).ad (fk 0) fun _ _ e => e
end Go.Sx
