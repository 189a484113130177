/- Walks: each function answers as its model, printed by a program of ours. Conditions: the arguments read as they are given. -/
import Derived.Test.YtnjcbcngjmkajaaGreatDoorETs
import Derived.Test.YtnjcbcngjmkajaaGreatDoorEM0
import Derived.Test.YtnjcbcngjmkajaaGreatDoorEW6
import Derived.Test.YtnjcbcngjmkajaaGreatDoorEW7
namespace Go.Sx
open Go Go.Proofs Go.Vm Rp
set_option linter.unusedVariables false
set_option linter.unusedSimpArgs false
variable {W W0 : CW} {K : List Nat}
theorem c3 {x0 am r} (h0 : Rd W0 [0] [am] x0) (co : Gl 0 W0 [0]) (hm : Vm.zcQ x0 = some r) : Q0 3 [am] W0 fun Wf v => v = vB r := by
 unfold Vm.zcQ at hm
 refine zap.of Tryz.func3 rfl rfl rfl rfl (sr (Nb rfl (ssr (mv am rfl (Lw.ln x0 h0 rfl (Lw.gt rfl (nl (cn hm (fun hm => ?_) fun hm => ?_))))))))
 ·exact sr (Nb rfl (.ret (rt hm (Le.refl _ _))))
 ·refine sk (sr (mv am rfl (cr hm (fun _ => p5 (k0 := 2) (k1 := 3) h0) ?_)))
  rintro e _ W4 hm l4 ⟨cq, d5, rfl, bv, bw⟩
  have a5 := l4.o
  refine al 4 [.slice none 0 0, .slice none 0 0] fun g6 W6 P b6 => ?_
  have a7 := a5.n P
  refine sta b6 (zaa (bv.up P).oc (zaa (bw.up P).oc zaw)) fun d8 l10 aw => ?_
  have bz := a7.t l10
  have ax := (bv.up P).up l10
  have b0 := (bw.up P).up l10
  refine nl (sr (la aw (cr hm (fun _ => p6 (K := [0, 2, 3]) (k0 := 5) (x0 := (Vm.Repo.mk e.Commits e.Heads)) ((Repo.rd (K := [2, 3]) e.Commits e.Heads (ax.rd.sub (M := [2, 3]) rfl) (b0.rd.sub (M := [2, 3]) rfl)).sub (M := [0, 2, 3]) rfl) ((co.ul bz).sub (M := [0, 2, 3]) rfl)) ?_)))
  rintro b _ d9 hm E ⟨d, rfl, b1⟩
  have cv := bz.n E
  refine mv (.tuple [d, vB b.2].toArray) rfl (Lw.r rfl (R.ext (vs := [d, vB b.2]) (v := d) rfl rfl) (Lw.r rfl (R.ext (vs := [d, vB b.2]) (v := vB b.2) rfl rfl) (Gv d rfl (Nb rfl (sr (la (aw.up E) (cr hm (fun _ => p7 (K := [2, 3]) (k0 := 6) (x0 := (Vm.Repo.mk e.Commits e.Heads)) (Repo.rd (K := [2, 3]) e.Commits e.Heads ((ax.up E).rd.sub (M := [2, 3]) rfl) ((b0.up E).rd.sub (M := [2, 3]) rfl))) ?_)))))))
  rintro h _ an hm Q ⟨i, rfl, ay⟩
  have cw := cv.n Q
  refine mv (.tuple [i, vB h.2].toArray) rfl (Lw.r rfl (R.ext (vs := [i, vB h.2]) (v := i) rfl rfl) (Lw.r rfl (R.ext (vs := [i, vB h.2]) (v := vB h.2) rfl rfl) (Gv i rfl (Nb rfl (Cw.seq ?_)))))
  obtain ⟨cx, cy, hm⟩ := za1 hm
  refine Cw.join 32 45 [45] (fun l w => ∃ az F, CW.w F = w ∧ Le [] an F ∧ l = [vB az] ∧ cx az = some r) ?_ ?_
  ·rintro _ _ σ ⟨az, F, rfl, G, rfl, hm⟩
   rw [cy] at hm
   have b2 := cw.n G
   have a0 := (b1.up Q).up G
   refine cn hm (fun hm => ?_) fun hm => ?_
   ·obtain ⟨cz, c0, hm⟩ := za1 hm
    refine Cw.join 46 55 [2] (fun l w => ∃ a1 a2, CW.w a2 = w ∧ Le [] F a2 ∧ l = [vB a1] ∧ cz a1 = some r) ?_ ?_
    ·rintro _ _ σ ⟨a1, a2, rfl, c1, rfl, hm⟩
     rw [c0] at hm
     have c2 := b2.n c1
     exact .ret (rt hm c2)
    ·refine rg (mb rfl (mb rfl (Lw.r rfl (R.beq rfl rfl) (mb rfl (bs hm (fun S hm => ?_) fun S hm => ?_)))))
     ·exact wak 5 S (mv d rfl (Lw.ln b.1 a0.rd rfl (mv i rfl (Lw.ln h.1 (ay.up G).rd rfl (Lw.eq rfl (Pb S rfl (Nb rfl ((ag) ⟨(((b.1.length : Int) : Int) == ((h.1.length : Int) : Int)), F, rfl, Le.refl _ _, rfl, hm⟩))))))))
     ·exact psk 5 S rfl (Pb S rfl (Nb rfl ((ag) ⟨false, F, rfl, Le.refl _ _, rfl, hm⟩)))
   ·refine sk (sr (mv d rfl (cr hm (fun _ => p8 (K := [5]) (k0 := 7) a0.rd) ?_)))
    rintro c4 b3 b4 hm U ⟨_, rfl, c5⟩
    have c6 := b2.n U
    refine Nv b3 rfl (ssr (Ni rfl (Cw.block ?_)))
    obtain ⟨c7, c8, hm⟩ := za1 hm
    refine Cw.loop 58 106 [2, 9, 10, 11, 12] (fun m l w => ∃ V H b5 b7 b8 W, CW.w W = w ∧ Le [] b4 W ∧ l = [vB V, vI H, b5, b7, b8] ∧ Vm.zav b h c4 c7 m V H = some r) _ ⟨false, 0, undef, undef, undef, b4, rfl, Le.refl _ _, rfl, hm⟩ ?_
    rintro (_ | ea) _ _ σ ⟨V, H, b5, b7, b8, W, rfl, k, rfl, hm⟩
    ·cases hm
    unfold Vm.zav at hm
    have b9 := c6.n k
    have ao := (a0.up U).up k
    refine ssr (mi rfl (mv d rfl (Lw.ln b.1 ao.rd rfl (Lw.lt rfl (nl (cn hm (fun hm => ?_) fun hm => ?_))))))
    ·refine sk (Cw.seq (Cw.block (sr (mv b3 rfl (mi rfl (cr hm (fun _ => p9 (K := [7]) (c5.up k).rd) ?_))))))
     rintro x _ c9 hm X ⟨y, rfl, da⟩
     have db := da.sub (M := [0, 7]) rfl
     have dc := b9.n X
     refine mv (.tuple [y, vB x.2].toArray) rfl (Lw.r rfl (R.ext (vs := [y, vB x.2]) (v := y) rfl rfl) (Lw.r rfl (R.ext (vs := [y, vB x.2]) (v := vB x.2) rfl rfl) (Gv y rfl (Nb rfl (Cw.seq ?_)))))
     obtain ⟨dd, de, hm⟩ := za1 hm
     refine Cw.join 70 92 [92] (fun l w => ∃ a3 Y, CW.w Y = w ∧ Le [] c9 Y ∧ l = [vB a3] ∧ dd a3 = some r) ?_ ?_
     ·rintro _ _ σ ⟨a3, Y, rfl, a4, rfl, hm⟩
      rw [de] at hm
      have cb := dc.n a4
      refine cn hm (fun hm => ?_) fun hm => ?_
      ·exact sr (Nb rfl (.ret (rt hm cb)))
      ·refine sk (sr (Ni rfl (Cw.block ?_)))
       obtain ⟨df, dg, hm⟩ := za1 hm
       refine Cw.loop 93 106 [2, 12] (fun m l w => ∃ Z aa ap, CW.w ap = w ∧ Le [] Y ap ∧ l = [vB Z, vI aa] ∧ Vm.zaY b H df m Z aa = some r) _ ⟨V, 0, Y, rfl, Le.refl _ _, rfl, hm⟩ ?_
       rintro (_ | eb) _ _ σ ⟨Z, aa, ap, rfl, aq, rfl, hm⟩
       ·cases hm
       unfold Vm.zaY at hm
       have dh := cb.n aq
       refine ssr (mi rfl (mi rfl (Lw.lt rfl (nl (cn hm (fun hm => ?_) fun hm => ?_)))))
       ·refine sk (Cw.seq (Cw.block (Cw.seq (Cw.draw [] [(0, 0), (1, 0), (2, 0), (3, 1), (4, 0), (5, 0), (6, 0), (7, 1), (8, 3)] mixed (by kernel_rfl) fun ec a6 => ?_))))
        have di := dh.n a6
        have I := (((ao.up X).up a4).up aq).up a6
        refine Dv d rfl (Di rfl ?_)
        obtain ⟨ed, a8, hm⟩ := ob hm
        refine Mw.p rfl rfl (fun _ => R.ix (α := List Str) I.rd a8 rfl rfl rfl) ?_
        obtain ⟨ee, c121, r122⟩ := (I.rd.at_ a8).cell rfl
        refine Mw.q rfl rfl (fun _ c => R.ld rfl rfl (zam (I.rd.at_ a8).1 rfl c121 c)) (Dv d rfl (Di rfl ?_))
        obtain ⟨ef, a9, hm⟩ := ob hm
        refine Mw.p rfl rfl (fun _ => R.ix (α := List Str) I.rd a9 rfl rfl rfl) ?_
        obtain ⟨eg, c126, r127⟩ := (I.rd.at_ a9).cell rfl
        refine Mw.q rfl rfl (fun _ c => R.ld rfl rfl (zam (I.rd.at_ a9).1 rfl c126 c)) ?_
        obtain ⟨eh, dj, hm⟩ := ob hm
        refine Mw.l rfl rfl (T.call rfl (p10 (K := [5])  r122 r127 dj)) ?_
        rintro _ _ ⟨dk, rfl, cc, rfl⟩
        have dl := di.n cc
        refine Mw.nil (cn hm (fun hm => ?_) fun hm => ?_)
        ·exact sr (Nb rfl (.ret (rt hm dl)))
        ·exact sk (rg (mi rfl (Lw.add rfl (Ni rfl ((agm) ⟨Z, w64 (aa + 1), dk, rfl, ((aq.j a6).j cc).w, rfl, hm⟩)))))
       ·refine Cw.exit ?_
        rw [dg] at hm
        exact rg (mi rfl (Lw.add rfl (Ni rfl ((agm) ⟨Z, w64 (H + 1), y, vB x.2, vI aa, ap, rfl, (((k.j X).j a4).j aq).w, rfl, hm⟩))))
     ·refine Cw.draw [] [(0, 0), (1, 0), (2, 0), (3, 1), (4, 0), (5, 0), (6, 0), (7, 1), (8, 2), (9, 0), (10, 0), (11, 0), (12, 0), (13, 0), (14, 0), (15, 0), (16, 0), (17, 0), (18, 0), (19, 1), (20, 2), (21, 0), (22, 0)] mixed (by kernel_rfl) fun ei J => ?_
      have L := (ao.up X).up J
      have ba := ((((ay.up G).up U).up k).up X).up J
      refine Dv d rfl (Di rfl ?_)
      obtain ⟨ej, bb, hm⟩ := ob hm
      refine Mw.p rfl rfl (fun _ => R.ix (α := List Str) L.rd bb rfl rfl rfl) ?_
      obtain ⟨ek, c150, r151⟩ := (L.rd.at_ bb).cell rfl
      refine Mw.q rfl rfl (fun _ c => R.ld rfl rfl (zam (L.rd.at_ bb).1 rfl c150 c)) (Dv i rfl (Di rfl ?_))
      obtain ⟨el, bc, hm⟩ := ob hm
      refine Mw.p rfl rfl (fun _ => R.ix (α := List Str) ba.rd bc rfl rfl rfl) ?_
      obtain ⟨em, c155, r156⟩ := (ba.rd.at_ bc).cell rfl
      refine Mw.q rfl rfl (fun _ c => R.ld rfl rfl (zam (ba.rd.at_ bc).1 rfl c155 c)) (Dc hm (Le.refl _ _) (fun _ => p10 (K := [5, 6]) (r151.sub (M := [5, 6]) rfl) (r156.sub (M := [5, 6]) rfl)) rfl ?_)
      rintro en _ cd hm ac rfl dm
      refine Mw.p rfl rfl (fun _ => R.not rfl) (Db rfl (bs hm (fun N hm => ?_) fun N hm => ?_))
      ·exact dps 2 N rfl (Mw.p rfl rfl (fun _ => R.pk N rfl (v := vB true) rfl) (Db rfl (dps 7 rfl rfl (Mw.p rfl rfl (fun _ => R.pk rfl rfl (v := vB true) rfl) (Mw.nil ((ag) ⟨true, cd, rfl, (J.j ac).w, rfl, hm⟩))))))
      ·refine Wp N rfl (fun _ => R.mv (v := vB x.2) rfl) (Wp N rfl (fun _ => R.not rfl) (Mw.p rfl rfl (fun _ => R.pk N rfl (v := vB (!x.2)) rfl) (Db rfl (bs hm (fun f hm => ?_) fun f hm => ?_))))
       ·exact dps 7 f rfl (Mw.p rfl rfl (fun _ => R.pk f rfl (v := vB true) rfl) (Mw.nil ((ag) ⟨true, cd, rfl, (J.j ac).w, rfl, hm⟩)))
       ·refine Wp f rfl (fun _ => R.mv (v := y) rfl) (Wp f rfl (fun _ => R.mv (v := d) rfl) (Wp f rfl (fun _ => R.mv (v := vI H) rfl) ?_))
        obtain ⟨eo, be, hm⟩ := ob hm
        refine Wp f rfl (fun _ => R.ix (α := List Str) L.rd be rfl rfl rfl) ?_
        obtain ⟨ep, c172, r173⟩ := (L.rd.at_ be).cell rfl
        refine Wq f rfl (fun _ c => R.ld rfl rfl (zam (L.rd.at_ be).1 rfl c172 c)) ?_
        have dn := db.up ((J.sub (M := []) rfl).trans (ac.sub (M := []) rfl)) rfl
        have dp := r173.up (ac.sub (M := []) rfl) rfl
        obtain ⟨ce, dq, hm⟩ := ob hm
        refine Wt f rfl (T.call rfl (p10 (K := [0, 5, 7])  (dn.sub (M := [0, 5, 7]) rfl) (dp.sub (M := [0, 5, 7]) rfl) dq)) ?_
        rintro _ _ ⟨dr, rfl, cf, rfl⟩
        exact mc dm cf fun er => Wp f rfl (fun _ => R.not rfl) (Mw.p rfl rfl (fun _ => R.pk f rfl (v := vB (!ce)) rfl) (Mw.nil ((ag) ⟨(!ce), dr, rfl, ((J.j ac).j cf).w, rfl, hm⟩)))
    ·refine Cw.exit ?_
     rw [c8] at hm
     refine ssr (Ni rfl (Cw.block ?_))
     obtain ⟨ds, dt, hm⟩ := za1 hm
     refine Cw.loop 107 150 [2, 13, 14, 15, 16] (fun m l w => ∃ ar z cg bg bh ae, CW.w ae = w ∧ Le [] W ae ∧ l = [vB ar, vI z, cg, bg, bh] ∧ Vm.zak e b ds m ar z = some r) _ ⟨V, 0, undef, undef, undef, W, rfl, Le.refl _ _, rfl, hm⟩ ?_
     rintro (_ | es) _ _ σ ⟨ar, z, cg, bg, bh, ae, rfl, af, rfl, hm⟩
     ·cases hm
     unfold Vm.zak at hm
     have ch := b9.n af
     have ci := (((((ax.up E).up Q).up G).up U).up k).up af
     have bi := (((((aw.up E).up Q).up G).up U).up k).up af
     refine ssr (mi rfl (fl bi rfl (Lw.ln e.Commits ci.rd rfl (Lw.lt rfl (nl (cn hm (fun hm => ?_) fun hm => ?_))))))
     ·refine sk (Cw.seq (Cw.block (sr (Ni rfl (Cw.block ?_)))))
      obtain ⟨du, dv, hm⟩ := za1 hm
      refine Cw.loop 114 150 [2, 14, 15, 16] (fun m l w => ∃ ah A bj bk O, CW.w O = w ∧ Le [] ae O ∧ l = [vB ah, vI A, bj, bk] ∧ Vm.zaZ e b z du m ah A = some r) _ ⟨ar, 0, bg, bh, ae, rfl, Le.refl _ _, rfl, hm⟩ ?_
      rintro (_ | et) _ _ σ ⟨ah, A, bj, bk, O, rfl, B, rfl, hm⟩
      ·cases hm
      unfold Vm.zaZ at hm
      have dw := ch.n B
      have bl := ci.up B
      refine ssr (mi rfl (fl (bi.up B) rfl (mi rfl ?_)))
      obtain ⟨dx, cj, hm⟩ := ob hm
      refine Lw.r rfl (R.ix (α := Commit) bl.rd cj rfl rfl rfl) (Lw.fa rfl ?_)
      obtain ⟨eu, c219, r220⟩ := (Commit.at2 (bl.rd.at_ cj)).cell rfl
      refine Lw.r rfl (R.ld rfl rfl c219) (Lw.ln dx.Tree r220 rfl (Lw.lt rfl (nl (cn hm (fun hm => ?_) fun hm => ?_))))
      ·refine sk (Cw.seq (Cw.block (sr (Nb rfl (ssr (Ni rfl (Cw.block ?_)))))))
       obtain ⟨dy, dz, hm⟩ := za1 hm
       refine Cw.loop 125 148 [15, 16] (fun m l w => ∃ au C av, CW.w av = w ∧ Le [] O av ∧ l = [vB au, vI C] ∧ Vm.zaB e b z A dy m au C = some r) _ ⟨false, 0, O, rfl, Le.refl _ _, rfl, hm⟩ ?_
       rintro (_ | ew) _ _ σ ⟨au, C, av, rfl, D, rfl, hm⟩
       ·cases hm
       unfold Vm.zaB at hm
       have d0 := dw.n D
       have ck := ((ao.up af).up B).up D
       refine ssr (mi rfl (mv d rfl (Lw.ln b.1 ck.rd rfl (Lw.lt rfl (nl (cn hm (fun hm => ?_) fun hm => ?_))))))
       ·refine sk (Cw.seq (Cw.block (Cw.draw [] [(0, 0), (1, 0), (2, 0), (3, 0), (4, 0), (5, 1), (6, 0), (7, 1), (8, 0), (9, 0), (10, 0), (11, 1), (12, 0), (13, 0), (14, 0), (15, 1), (16, 2), (17, 0), (18, 0)] mixed (by kernel_rfl) fun d1 ai => ?_)))
        have bm := (bl.up D).up ai
        have bn := ck.up ai
        refine Db rfl (Db rfl (bs hm (fun a hm => ?_) fun a hm => ?_))
        ·exact dps 15 a rfl (Mw.p rfl rfl (fun _ => R.pk a rfl (v := vB true) rfl) (Hb rfl (Mw.nil (rg (mi rfl (Lw.add rfl (Ni rfl ((agm) ⟨true, w64 (C + 1), d1, rfl, (D.j ai).w, rfl, hm⟩))))))))
        ·refine Wp a rfl (fun _ => R.mv (v := d) rfl) (Wp a rfl (fun _ => R.mv (v := vI C) rfl) ?_)
         obtain ⟨ex, bp, hm⟩ := ob hm
         refine Wp a rfl (fun _ => R.ix (α := List Str) bn.rd bp rfl rfl rfl) ?_
         obtain ⟨ey, c247, r248⟩ := (bn.rd.at_ bp).cell rfl
         refine Wq a rfl (fun _ c => R.ld rfl rfl (zam (bn.rd.at_ bp).1 rfl c247 c)) (Wp a rfl (fun _ => R.fa rfl) (Wq a rfl (fun _ c => R.ld (v := cq) rfl rfl ((((bi.up B).up D).up ai).clc rfl rfl c)) (Wp a rfl (fun _ => R.mv (v := vI z) rfl) ?_)))
         obtain ⟨ez, bq, hm⟩ := ob hm
         refine Wp a rfl (fun _ => R.ix (α := Commit) bm.rd bq rfl rfl rfl) (Wp a rfl (fun _ => R.fa rfl) ?_)
         obtain ⟨e0, c252, r253⟩ := (Commit.at2 (bm.rd.at_ bq)).cell rfl
         refine Wq a rfl (fun _ c => R.ld rfl rfl (zam (Commit.at2 (bm.rd.at_ bq)).1 rfl c252 c)) (Wp a rfl (fun _ => R.mv (v := vI A) rfl) ?_)
         obtain ⟨e1, br, hm⟩ := ob hm
         refine Wp a rfl (fun _ => R.ix (α := File) r253 br rfl rfl rfl) (Wp a rfl (fun _ => R.fa rfl) ?_)
         obtain ⟨e2, c257, r258⟩ := (File.at1 (r253.at_ br)).cell rfl
         refine Wq a rfl (fun _ c => R.ld rfl rfl (zam (File.at1 (r253.at_ br)).1 rfl c257 c)) ?_
         obtain ⟨cl, d2, hm⟩ := ob hm
         refine Wt a rfl (T.call rfl (p10 (K := [2, 5])  (r248.sub (M := [2, 5]) rfl) (r258.sub (M := [2, 5]) rfl) d2)) ?_
         rintro _ _ ⟨d3, rfl, cm, rfl⟩
         exact m0 cm fun e3 => Mw.p rfl rfl (fun _ => R.pk a rfl (v := vB cl) rfl) (Hb rfl (Mw.nil (rg (mi rfl (Lw.add rfl (Ni rfl ((agm) ⟨cl, w64 (C + 1), d3, rfl, ((D.j ai).j cm).w, rfl, hm⟩)))))))
       ·refine Cw.exit ?_
        rw [dz] at hm
        refine sr (mb rfl (Lw.r rfl (R.not rfl) (nl (cn hm (fun hm => ?_) fun hm => ?_))))
        ·exact sr (Nb rfl (.ret (rt hm d0)))
        ·exact sk (rg (mi rfl (Lw.add rfl (Ni rfl ((agm) ⟨ah, w64 (A + 1), vB au, vI C, av, rfl, (B.j D).w, rfl, hm⟩)))))
      ·refine Cw.exit ?_
       rw [dv] at hm
       exact rg (mi rfl (Lw.add rfl (Ni rfl ((agm) ⟨ah, w64 (z + 1), vI A, bj, bk, O, rfl, (af.j B).w, rfl, hm⟩))))
     ·refine Cw.exit ?_
      rw [dt] at hm
      exact sr (Nb rfl (.ret (rt hm ch)))
  ·refine rg (mb rfl (mb rfl (Lw.r rfl (R.bne rfl rfl) (mb rfl (bs hm (fun aj hm => ?_) fun aj hm => ?_)))))
   ·exact psk 5 aj rfl (Pb aj rfl (mb rfl (psk 2 rfl rfl (Pb rfl rfl (nl ((ag) ⟨true, an, rfl, Le.refl _ _, rfl, hm⟩))))))
   ·refine wak 5 aj (mv d rfl (Lw.ln b.1 (b1.up Q).rd rfl (mv i rfl (Lw.ln h.1 ay.rd rfl (Lw.ne rfl (Pb aj rfl (mb rfl (bs hm (fun ak hm => ?_) fun ak hm => ?_))))))))
    ·exact psk 2 ak rfl (Pb ak rfl (nl ((ag) ⟨true, an, rfl, Le.refl _ _, rfl, hm⟩)))
    ·exact wak 2 ak (mb rfl (Lw.r rfl (R.not rfl) (Pb ak rfl (nl ((ag) ⟨(!b.2), an, rfl, Le.refl _ _, rfl, hm⟩)))))
theorem p3 {x0 a r} (b : Rd W K [a] x0) (d : Gl 0 W K) (hm : Vm.zcQ x0 = some r) : Q1 3 [a] W [] fun W' v => v = vB r :=
 (c3 (b.view _) (d.view _) hm).ad (fk 0) fun _ _ e => e
end Go.Sx
