/- Walks: each function answers as its model, printed by a program of ours. Conditions: the arguments read as they are given. -/
import Derived.Test.YtokbhelngoeblaaGreatDoorCTs
import Derived.Test.YtokbhelngoeblaaGreatDoorCM0
import Derived.Test.YtokbhelngoeblaaGreatDoorCW1
namespace Go.Sx
open Go Go.Proofs Go.Vm Rp
set_option linter.unusedVariables false
set_option linter.unusedSimpArgs false
variable {W W0 : CW} {K : List Nat}
theorem c127 {x0 k r} (x : Rd W0 [0] [k] x0) (hm : Vm.zbg x0 = some r) : Q0 127 [k] W0 fun Wf v => ∃ C, v = C ∧ OwS Wf LL [] [C] r := by
 unfold Vm.zbg at hm
 refine zau.of Tryz.func127 rfl rfl rfl rfl (sr (Nv (.slice none 0 0) rfl (sr (Nv (.slice none 0 0) rfl (ssr (mv k rfl (Lw.ln x0 x rfl (mi rfl (nl (Cw.block ?_))))))))))
 obtain ⟨K, L, hm⟩ := zbk hm
 refine Cw.loop 8 18 [3, 4, 5, 8] (fun m l w => ∃ f a b D E d, CW.w d = w ∧ Le [2] W0 d ∧ l = [b, D, E, vI a] ∧ Ow d 2 [] [b] f ∧ Vm.zcC x0 K m f a = some r) _ ⟨([] : List Int), 0, .slice none 0 0, undef, undef, W0, rfl, Le.refl _ _, rfl, owN 2 [], hm⟩ ?_
 rintro (_ | Y) _ _ σ ⟨f, a, b, D, E, d, rfl, F, rfl, y, hm⟩
 ·cases hm
 unfold Vm.zcC at hm
 have z := F.s
 refine sr (Lw.lt rfl (nl (Cw.seq (cn hm (fun hm => ?_) fun hm => ?_))))
 ·refine sk ?_
  obtain ⟨M, N, hm⟩ := zbk hm
  refine Cw.join 10 17 [3, 4, 5] (fun l w => ∃ h i A B e, CW.w e = w ∧ Le [2] d e ∧ l = [i, A, B] ∧ Ow e 2 [] [i] h ∧ M h = some r) ?_ ?_
  ·rintro _ _ σ ⟨h, i, A, B, e, rfl, O, rfl, P, hm⟩
   rw [N] at hm
   exact rg (Lw.add rfl (mi rfl (nl ((agm) ⟨h, w64 (a + 1), i, A, B, e, rfl, (F.j O).w, rfl, P, hm⟩))))
  ·refine Cw.block (sr (mi rfl ?_))
   obtain ⟨G, H, hm⟩ := ob hm
   refine Lw.r rfl (R.ix (α := Bool) (x.ul z) H rfl rfl rfl) (Lw.r rfl (R.ld rfl rfl ((x.ul z).at_ H).bool) (Gi rfl (Nb rfl (sr (mb rfl (nl (cn hm (fun hm => ?_) fun hm => ?_)))))))
   ·refine rg (mv b rfl (mi rfl (Lw.t rfl (T.bs 3 [vI a] (cs := [vI a]) rfl rfl (bsv rfl)) ?_)))
    rintro _ _ ⟨Z, aa, rfl, rfl, I, Q⟩
    obtain ⟨S, U, hm⟩ := ob hm
    refine Lw.t rfl (T.app1S (α := Int) (K' := []) (y.up I) Q (rdI _) rfl rfl U) ?_
    rintro J _ ⟨V, rfl, W, X⟩
    exact Nv J rfl ((ag) ⟨S, J, vI a, vB G, V, rfl, (I.j W).w, rfl, X, hm⟩)
   ·exact sk ((ag) ⟨f, b, vI a, vB G, d, rfl, Le.refl _ _, rfl, y, hm⟩)
 ·refine Cw.exit ?_
  rw [L] at hm
  refine sr (mv b rfl (Nv b rfl ?_))
  cases hm
  exact Cw.ret (zjQ rfl (Res.mk z ⟨b, rfl, y.s.sub rfl rfl⟩))
theorem p127 {x0 b k0 r} (d : Rd W K [b] x0) (hm : Vm.zbg x0 = some r) : Q1 127 [b] W [] fun W' v => ∃ a, v = a ∧ Ow W' k0 [] [a] r :=
 (c127 (d.view _) hm).ad (fk k0) fun _ _ ⟨a, e, f⟩ => ⟨a, e, f.back (ziE _)⟩
theorem c80 {x0 b d x1 r} (x : Rd W0 [0] [b, d] x0) (hm : Vm.zaN x0 x1 = some r) : Q0 80 [.agg [b, d].toArray, vI x1] W0 fun Wf v => ∃ e, v = e ∧ Rd Wf [0] [e] r := by
 unfold Vm.zaN at hm
 obtain ⟨A, B, f, h, C⟩ := Repo.split x
 simp only [List.cons.injEq, and_true, true_and] at f
 obtain ⟨rfl, rfl⟩ := f
 refine zau.of Tryz.func80 rfl rfl rfl rfl (sr (bo 2 rfl fun D E y z => ?_))
 have a := y.o
 refine Nv (.slice none 0 0) rfl (ssr (mi rfl (Lw.lt rfl (nl (cn hm (fun hm => ?_) fun hm => ?_)))))
 ·refine sr (Nv (.slice none 0 0) rfl ?_)
  cases hm
  exact Cw.ret (zjQ rfl (Res.mk a ⟨.slice none 0 0, rfl, (rdN (K := [0]))⟩))
 ·refine sk (sr (fl z rfl (mi rfl ?_)))
  obtain ⟨F, i, hm⟩ := ob hm
  refine Lw.r rfl (R.ix (α := Commit) (h.ul a) i rfl rfl rfl) (Lw.fa rfl ?_)
  obtain ⟨k, c8, r9⟩ := (Commit.at2 ((h.ul a).at_ i)).cell rfl
  refine Lw.r rfl (R.ld rfl rfl c8) (Nv k rfl ?_)
  cases hm
  exact Cw.ret (zjQ rfl (Res.mk a ⟨k, rfl, r9⟩))
theorem p80 {x0 b d x1 r} (f : Rd W K [b, d] x0) (hm : Vm.zaN x0 x1 = some r) : Q1 80 [.agg [b, d].toArray, vI x1] W [] fun W' v => ∃ a, v = a ∧ Rd W' (0 :: K) [a] r :=
 (c80 (f.view _) hm).ad (fk 0) fun _ _ ⟨a, e, h⟩ => ⟨a, e, h.back rfl⟩
theorem c151 {x0 i x1 r} (k : Rd W0 [0] [i] x0) (hm : Vm.zg8 x0 x1 = some r) : Q0 151 [i, vS x1] W0 fun Wf v => ∃ z, v = .tuple [z, vB r.2].toArray ∧ OwS Wf LL [] [z] r.1 := by
 unfold Vm.zg8 at hm
 refine zau.of Tryz.func151 rfl rfl rfl rfl (sr (Gv (.slice none 0 0) rfl (Nb rfl (ssr (mv i rfl (Lw.ln x0 k rfl (mi rfl (nl (Cw.block ?_)))))))))
 obtain ⟨H, I, hm⟩ := zbk hm
 refine Cw.loop 10 21 [4, 5, 7, 10] (fun m l w => ∃ a b d e A f, CW.w f = w ∧ Le [3] W0 f ∧ l = [e, vB b, A, vI d] ∧ Ow f 2 [] [e] a ∧ Vm.zcN x0 x1 H m a b d = some r) _ ⟨([] : List Str), false, 0, .slice none 0 0, undef, W0, rfl, Le.refl _ _, rfl, owN 2 [], hm⟩ ?_
 rintro (_ | Q) _ _ σ ⟨a, b, d, e, A, f, rfl, B, rfl, J, hm⟩
 ·cases hm
 unfold Vm.zcN at hm
 have h := B.s
 refine sr (Lw.lt rfl (nl (Cw.seq (cn hm (fun hm => ?_) fun hm => ?_))))
 ·refine sk (Cw.seq (Cw.block (sr ?_)))
  obtain ⟨S, C, hm⟩ := ob hm
  refine Lw.r rfl (R.ix (α := File) (k.ul h) C rfl rfl rfl) ?_
  obtain ⟨x15, c16, _, r17⟩ := ((k.ul h).at_ C).cells
  obtain ⟨T, rfl, r19⟩ := File.split r17
  refine Lw.r rfl (R.lda c16 rfl rfl) (al 3 [vS ([] : Str), .slice none 0 0] fun K U x L => ?_)
  have D := x.o
  refine sta L (zaa rfl (zaa r19.oc zaF)) fun M y E => ?_
  have F := y.s
  refine nl (sr (fl E rfl (ms rfl (Lw.seq rfl (nl (cn hm (fun hm => ?_) fun hm => ?_))))))
  ·refine sr (fl E rfl (cr hm (fun _ => p144 (k0 := 4) (r19.ul (D.trans F))) ?_))
   rintro V G W hm N ⟨_, rfl, O⟩
   have P := ((h.trans D).trans F).n N
   refine Gv G rfl (Nb rfl ?_)
   cases hm
   exact Cw.ret (zqd rfl rfl (Res.mk P ⟨G, rfl, O.s.sub rfl rfl⟩))
  ·exact sk (rg (Lw.add rfl (mi rfl (nl ((agm) ⟨a, b, w64 (d + 1), e, ptr (bx K), M, rfl, ((B.j x).j y).w, rfl, ((J.up x).up y), hm⟩)))))
 ·refine Cw.exit ?_
  rw [I] at hm
  refine sr (Gv (.slice none 0 0) rfl (Nb rfl ?_))
  cases hm
  exact Cw.ret (zqd rfl rfl (Res.mk h ⟨.slice none 0 0, rfl, (zqe []).sub rfl rfl⟩))
theorem p151 {x0 b x1 k0 r} (d : Rd W K [b] x0) (hm : Vm.zg8 x0 x1 = some r) : Q1 151 [b, vS x1] W [] fun W' v => ∃ a, v = .tuple [a, vB r.2].toArray ∧ Ow W' k0 [] [a] r.1 :=
 (c151 (d.view _) hm).ad (fk k0) fun _ _ ⟨a, e, f⟩ => ⟨a, e, f.back (ziE _)⟩
theorem c152 {x0 b x1 f r} (d : Rd W0 [0] [b] x0) (h : Rd W0 [0] [f] x1) (hm : Vm.zaH x0 x1 = some r) : Q0 152 [b, f] W0 fun Wf v => v = vB r := by
 unfold Vm.zaH at hm
 refine zau.of Tryz.func152 rfl rfl rfl rfl (sr (Nb rfl (ssr (mv b rfl (Lw.ln x0 d rfl (mv f rfl (Lw.ln x1 h rfl (Lw.ne rfl (nl (cn hm (fun hm => ?_) fun hm => ?_))))))))))
 ·exact sr (Nb rfl (.ret (rt hm (Le.refl _ _))))
 ·refine sk (ssr (mv b rfl (Lw.ln x0 d rfl (mi rfl (nl (Cw.block ?_))))))
  obtain ⟨C, D, hm⟩ := zbk hm
  refine Cw.loop 13 25 [4, 5, 13] (fun m l w => ∃ i e z k, CW.w k = w ∧ Le [] W0 k ∧ l = [vB i, z, vI e] ∧ Vm.zaA x0 x1 C m i e = some r) _ ⟨false, 0, undef, W0, rfl, Le.refl _ _, rfl, hm⟩ ?_
  rintro (_ | F) _ _ σ ⟨i, e, z, k, rfl, A, rfl, hm⟩
  ·cases hm
  unfold Vm.zaA at hm
  have B := A.o
  refine sr (Lw.lt rfl (nl (Cw.seq (cn hm (fun hm => ?_) fun hm => ?_))))
  ·refine sk (Cw.seq (Cw.block (sr (mi rfl (Ni rfl (Cw.seq (Cw.draw [] [(0, 0), (1, 0), (2, 0), (3, 1), (4, 0), (5, 0), (6, 0), (7, 1), (8, 0)] mixed (by kernel_rfl) fun E l10 => ?_)))))))
   have a := B.n l10
   refine Dv b rfl (Di rfl ?_)
   obtain ⟨G, x, hm⟩ := ob hm
   refine Mw.p rfl rfl (fun _ => R.ix (α := Str) (d.ul a) x rfl rfl rfl) (Mw.q rfl rfl (fun _ c => R.ld rfl rfl (zaz ((d.ul a).at_ x).1 rfl ((d.ul a).at_ x).str c)) (Dv f rfl (Di rfl ?_)))
   obtain ⟨H, y, hm⟩ := ob hm
   refine Mw.p rfl rfl (fun _ => R.ix (α := Str) (h.ul a) y rfl rfl rfl) (Mw.q rfl rfl (fun _ c => R.ld rfl rfl (zaz ((h.ul a).at_ y).1 rfl ((h.ul a).at_ y).str c)) (Mw.p rfl rfl (fun _ => R.sne rfl rfl) (Mw.nil (cn hm (fun hm => ?_) fun hm => ?_))))
   ·exact sr (Nb rfl (.ret (rt hm a)))
   ·exact sk (rg (Lw.add rfl (mi rfl (nl ((agm) ⟨i, w64 (e + 1), vI e, E, rfl, (A.j l10).w, rfl, hm⟩)))))
  ·refine Cw.exit ?_
   rw [D] at hm
   exact sr (Nb rfl (.ret (rt hm B)))
theorem p152 {x0 a x1 b r} (d : Rd W K [a] x0) (f : Rd W K [b] x1) (hm : Vm.zaH x0 x1 = some r) : Q1 152 [a, b] W [] fun W' v => v = vB r :=
 (c152 (d.view _) (f.view _) hm).ad (fk 0) fun _ _ e => e
theorem c217 {x0 k x1 x r} (y : Rd W0 [0] [k] x0) (z : Rd W0 [0] [x] x1) (hm : Vm.zkO x0 x1 = some r) : Q0 217 [k, x] W0 fun Wf v => ∃ u0, v = u0 ∧ OwS Wf LL [] [u0] r := by
 unfold Vm.zkO at hm
 refine zau.of Tryz.func217 rfl rfl rfl rfl (sr (Nv (.slice none 0 0) rfl (sr (mv k rfl (Lw.ln x0 y rfl (Lw.add rfl ?_))))))
 obtain ⟨M, e2, hm⟩ := ob hm
 refine Lw.t rfl (T.mk (α := List Int) 2 [] (n := w64 ((x0.length : Int) + 1)) rfl rfl e2) ?_
 rintro a _ ⟨W3, rfl, l3, o3⟩
 have a4 := l3.o
 refine Nv a rfl (ssr (mv a rfl (Lw.ln M o3.rd rfl (mi rfl (nl (Cw.block ?_))))))
 obtain ⟨a1, a2, hm⟩ := zbk hm
 refine Cw.loop 15 25 [6, 15] (fun m l w => ∃ A F j5 e, CW.w e = w ∧ Le [2, 3] W3 e ∧ l = [j5, vI A] ∧ Ow e 2 [] [a] F ∧ Vm.zd5 x1 M a1 m A F = some r) _ ⟨0, M, undef, W3, rfl, Le.refl _ _, rfl, o3, hm⟩ ?_
 rintro (_ | ce) _ _ σ ⟨A, F, j5, e, rfl, l9, rfl, N, hm⟩
 ·cases hm
 unfold Vm.zd5 at hm
 have O := a4.t l9
 refine sr (Lw.lt rfl (nl (Cw.seq (cn hm (fun hm => ?_) fun hm => ?_))))
 ·refine sk (Cw.seq (Cw.block (sr (mi rfl (Ni rfl (rg (mv a rfl (mi rfl (mv x rfl (Lw.ln x1 (z.ul O) rfl (Lw.add rfl ?_)))))))))))
  obtain ⟨cf, a3, hm⟩ := ob hm
  refine Lw.t rfl (T.mk (α := Int) 3 [] (n := w64 ((x1.length : Int) + 1)) rfl rfl a3) ?_
  rintro cg _ ⟨ch, rfl, P, am⟩
  obtain ⟨ci, a5, hm⟩ := ob hm
  refine Lw.r rfl (R.ix (α := List Int) (N.up P).rd a5 rfl rfl rfl) ?_
  obtain ⟨a6, a7, hm⟩ := ob hm
  refine Lw.u (T.stO (J := [3]) (N.up P) am.s a7 rfl rfl (zsX am.oc)) ?_
  rintro _ _ ⟨a8, rfl, a9, ba⟩
  exact nl (rg (Lw.add rfl (mi rfl (nl ((agm) ⟨w64 (A + 1), a6, vI A, a8, rfl, ((l9.j P).j a9).w, rfl, ba, hm⟩)))))
 ·refine Cw.exit ?_
  rw [a2] at hm
  refine ssr (mv k rfl (Lw.ln x0 (y.ul O) rfl (Lw.sub rfl (Ni rfl (Cw.block ?_)))))
  obtain ⟨bb, bc, hm⟩ := zbk hm
  refine Cw.loop 29 87 [7, 8] (fun m l w => ∃ B G an f, CW.w f = w ∧ Le [2, 4, 5] e f ∧ l = [vI B, an] ∧ Ow f 2 [] [a] G ∧ Vm.zc6 x0 x1 bb m B G = some r) _ ⟨w64 ((x0.length : Int) - 1), F, undef, e, rfl, Le.refl _ _, rfl, N, hm⟩ ?_
  rintro (_ | cj) _ _ σ ⟨B, G, an, f, rfl, ao, rfl, ap, hm⟩
  ·cases hm
  unfold Vm.zc6 at hm
  have Q := O.t ao
  refine ssr (mi rfl (Lw.ge rfl (nl (cn hm (fun hm => ?_) fun hm => ?_))))
  ·refine sk (Cw.seq (Cw.block (sr (mv x rfl (Lw.ln x1 (z.ul Q) rfl (Lw.sub rfl (Ni rfl (Cw.block ?_))))))))
   obtain ⟨be, bg, hm⟩ := zbk hm
   refine Cw.loop 36 87 [8] (fun m l w => ∃ C H h, CW.w h = w ∧ Le [2, 4, 5] f h ∧ l = [vI C] ∧ Ow h 2 [] [a] H ∧ Vm.zd4 x0 x1 B be m C H = some r) _ ⟨w64 ((x1.length : Int) - 1), G, f, rfl, Le.refl _ _, rfl, ap, hm⟩ ?_
   rintro (_ | ck) _ _ σ ⟨C, H, h, rfl, S, rfl, U, hm⟩
   ·cases hm
   unfold Vm.zd4 at hm
   have bh := Q.t S
   refine ssr (mi rfl (Lw.ge rfl (nl (cn hm (fun hm => ?_) fun hm => ?_))))
   ·refine sk ?_
    obtain ⟨bi, bj, hm⟩ := zbk hm
    refine Cw.join 40 87 [] (fun l w => ∃ I D, CW.w D = w ∧ Le [2, 4, 5] h D ∧ l = [] ∧ Ow D 2 [] [a] I ∧ bi I = some r) ?_ ?_
    ·rintro _ _ σ ⟨I, D, rfl, bk, rfl, bl, hm⟩
     rw [bj] at hm
     exact rg (mi rfl (Lw.sub rfl (Ni rfl ((agm) ⟨w64 (C - 1), I, D, rfl, (S.j bk).w, rfl, bl, hm⟩))))
    ·refine Cw.block (Cw.seq (Cw.draw [] [(0, 0), (1, 0), (2, 0), (3, 1), (4, 0), (5, 0), (6, 0), (7, 1), (8, 0)] mixed (by kernel_rfl) fun cl E => ?_))
     have i := bh.n E
     refine Dv k rfl (Di rfl ?_)
     obtain ⟨cm, V, hm⟩ := ob hm
     refine Mw.p rfl rfl (fun _ => R.ix (α := Str) (y.ul i) V rfl rfl rfl) (Mw.q rfl rfl (fun _ c => R.ld rfl rfl (zaz ((y.ul i).at_ V).1 rfl ((y.ul i).at_ V).str c)) (Dv x rfl (Di rfl ?_)))
     obtain ⟨co, W, hm⟩ := ob hm
     refine Mw.p rfl rfl (fun _ => R.ix (α := Str) (z.ul i) W rfl rfl rfl) (Mw.q rfl rfl (fun _ c => R.ld rfl rfl (zaz ((z.ul i).at_ W).1 rfl ((z.ul i).at_ W).str c)) (Mw.p rfl rfl (fun _ => R.seq rfl rfl) (Mw.nil (cn hm (fun hm => ?_) fun hm => ?_))))
     ·refine Cw.draw [] [(0, 0), (1, 0), (2, 0), (3, 1), (4, 0), (5, 0), (6, 0), (7, 0), (8, 0), (9, 1), (10, 0), (11, 0), (12, 0), (13, 1), (14, 0), (15, 0), (16, 3)] mixed (by kernel_rfl) fun cp aq => ?_
      have d := (U.up E).up aq
      refine Dv a rfl (Di rfl ?_)
      obtain ⟨cq, K, hm⟩ := ob hm
      refine Mw.p rfl rfl (fun _ => R.ix (α := List Int) d.rd K rfl rfl rfl) ?_
      obtain ⟨cs, c66, r67⟩ := (d.rd.at_ K).cell rfl
      refine Mw.q rfl rfl (fun _ c => R.ld rfl rfl (zaz (d.rd.at_ K).1 rfl c66 c)) (Di rfl (Dv a rfl (Di rfl (Mw.p rfl rfl (fun _ => R.add rfl rfl) ?_))))
      obtain ⟨ct, X, hm⟩ := ob hm
      refine Mw.p rfl rfl (fun _ => R.ix (α := List Int) d.rd X rfl rfl rfl) ?_
      obtain ⟨cu, c71, r72⟩ := (d.rd.at_ X).cell rfl
      refine Mw.q rfl rfl (fun _ c => R.ld rfl rfl (zaz (d.rd.at_ X).1 rfl c71 c)) (Di rfl (Mw.p rfl rfl (fun _ => R.add rfl rfl) ?_))
      obtain ⟨cv, Y, hm⟩ := ob hm
      refine Mw.p rfl rfl (fun _ => R.ix (α := Int) r72 Y rfl rfl rfl) (Mw.q rfl rfl (fun _ c => R.ld rfl rfl (zaz (r72.at_ Y).1 rfl (r72.at_ Y).int c)) (Mw.p rfl rfl (fun _ => R.add rfl rfl) ?_))
      obtain ⟨cw, bm, hm⟩ := ob hm
      refine Mw.p rfl rfl (fun _ => R.ix (α := Int) r67 bm rfl rfl rfl) ?_
      obtain ⟨cx, bn, bp, bq, gb77⟩ := Ow.lend (α := List Int) (β := List Int) (j := 4) (jf := 0) d K (by rw [zmX]; exact c66) rfl
      rw [← bn]
      obtain ⟨cy, br, hm⟩ := ob hm
      refine Mw.lu rfl (T.stS (K' := []) bq (rdI _) br rfl rfl rfl) ?_
      rintro _ _ ⟨cz, rfl, ar, bu⟩
      obtain ⟨bv, bw, bz, b0, eq84, b1⟩ := gb77 _ _ ar bu
      obtain ⟨au, eqm84, hm⟩ := ob hm
      obtain rfl : au = b0 := Option.some.inj (eqm84.symm.trans eq84)
      rw [← bw]
      exact Mw.nil ((ag) ⟨au, bv, rfl, ((((E.j aq).j bp).j ar).j bz).w, rfl, b1, hm⟩)
     ·refine Cw.draw [] [(0, 0), (1, 0), (2, 0), (3, 1), (4, 0), (5, 0), (6, 0), (7, 0), (8, 0), (9, 1), (10, 0), (11, 0), (12, 1), (13, 0), (14, 0), (15, 0), (16, 1), (17, 0), (18, 0), (19, 0), (20, 1), (21, 0), (22, 0), (23, 3)] mixed (by kernel_rfl) fun c0 av => ?_
      have b := (U.up E).up av
      refine Dv a rfl (Di rfl ?_)
      obtain ⟨c1, L, hm⟩ := ob hm
      refine Mw.p rfl rfl (fun _ => R.ix (α := List Int) b.rd L rfl rfl rfl) ?_
      obtain ⟨c2, c92, r93⟩ := (b.rd.at_ L).cell rfl
      refine Mw.q rfl rfl (fun _ c => R.ld rfl rfl (zaz (b.rd.at_ L).1 rfl c92 c)) (Di rfl (Dv a rfl (Di rfl (Mw.p rfl rfl (fun _ => R.add rfl rfl) ?_))))
      obtain ⟨c3, Z, hm⟩ := ob hm
      refine Mw.p rfl rfl (fun _ => R.ix (α := List Int) b.rd Z rfl rfl rfl) ?_
      obtain ⟨c4, c97, r98⟩ := (b.rd.at_ Z).cell rfl
      refine Mw.q rfl rfl (fun _ c => R.ld rfl rfl (zaz (b.rd.at_ Z).1 rfl c97 c)) (Di rfl ?_)
      obtain ⟨c5, aa, hm⟩ := ob hm
      refine Mw.p rfl rfl (fun _ => R.ix (α := Int) r98 aa rfl rfl rfl) (Mw.q rfl rfl (fun _ c => R.ld rfl rfl (zaz (r98.at_ aa).1 rfl (r98.at_ aa).int c)) (Dv a rfl (Di rfl ?_)))
      obtain ⟨c6, ac, hm⟩ := ob hm
      refine Mw.p rfl rfl (fun _ => R.ix (α := List Int) b.rd ac rfl rfl rfl) ?_
      obtain ⟨c7, c104, r105⟩ := (b.rd.at_ ac).cell rfl
      refine Mw.q rfl rfl (fun _ c => R.ld rfl rfl (zaz (b.rd.at_ ac).1 rfl c104 c)) (Di rfl (Mw.p rfl rfl (fun _ => R.add rfl rfl) ?_))
      obtain ⟨c8, ae, hm⟩ := ob hm
      refine Mw.p rfl rfl (fun _ => R.ix (α := Int) r105 ae rfl rfl rfl) (Mw.q rfl rfl (fun _ c => R.ld rfl rfl (zaz (r105.at_ ae).1 rfl (r105.at_ ae).int c)) (Mw.p rfl rfl (fun _ => R.max rfl rfl) ?_))
      obtain ⟨c9, b2, hm⟩ := ob hm
      refine Mw.p rfl rfl (fun _ => R.ix (α := Int) r93 b2 rfl rfl rfl) ?_
      obtain ⟨da, b3, b4, b5, gb110⟩ := Ow.lend (α := List Int) (β := List Int) (j := 5) (jf := 0) b L (by rw [zmX]; exact c92) rfl
      rw [← b3]
      obtain ⟨db, b6, hm⟩ := ob hm
      refine Mw.lu rfl (T.stS (K' := []) b5 (rdI _) b6 rfl rfl rfl) ?_
      rintro _ _ ⟨dc, rfl, aw, b7⟩
      obtain ⟨b8, b9, cb, cc, eq117, cd⟩ := gb110 _ _ aw b7
      obtain ⟨ax, eqm117, hm⟩ := ob hm
      obtain rfl : ax = cc := Option.some.inj (eqm117.symm.trans eq117)
      rw [← b9]
      exact Mw.nil ((ag) ⟨ax, b8, rfl, ((((E.j av).j b4).j aw).j cb).w, rfl, cd, hm⟩)
   ·refine Cw.exit ?_
    rw [bg] at hm
    exact rg (mi rfl (Lw.sub rfl (Ni rfl ((agm) ⟨w64 (B - 1), H, vI C, h, rfl, (ao.j S).w, rfl, U, hm⟩))))
  ·refine Cw.exit ?_
   rw [bc] at hm
   refine sr (mv a rfl (Nv a rfl ?_))
   cases hm
   exact Cw.ret (zjQ rfl (Res.mk Q ⟨a, rfl, ap.s.sub rfl rfl⟩))
theorem p217 {x0 b x1 d k0 r} (f : Rd W K [b] x0) (h : Rd W K [d] x1) (hm : Vm.zkO x0 x1 = some r) : Q1 217 [b, d] W [] fun W' v => ∃ a, v = a ∧ Ow W' k0 [] [a] r :=
 (c217 (f.view _) (h.view _) hm).ad (fk k0) fun _ _ ⟨a, e, i⟩ => ⟨a, e, i.back (ziE _)⟩
theorem c185 {x0 x x1 i r} (y : Rd W0 [0] [x] x0) (H : Rd W0 [0] [i] x1) (hm : Vm.zgn x0 x1 = some r) : Q0 185 [x, i] W0 fun Wf v => ∃ W, v = W ∧ OwS Wf LL [] [W] r := by
 unfold Vm.zgn at hm
 refine zau.of Tryz.func185 rfl rfl rfl rfl (sr (Nv (.slice none 0 0) rfl (sr (mv x rfl (mv i rfl (cr hm (fun _ => p217 (k0 := 2) y H) ?_))))))
 rintro z1 I X hm l3 ⟨_, rfl, ap⟩
 have a4 := l3.o
 refine Nv I rfl (sr (Nv (.slice none 0 0) rfl (ssr (Gi rfl (Ni rfl (Cw.block ?_))))))
 obtain ⟨ar, au, hm⟩ := zbk hm
 refine Cw.loop 12 70 [6, 7, 8] (fun m l w => ∃ A e d f z, CW.w z = w ∧ Le [3] X z ∧ l = [f, vI e, vI d] ∧ Ow z 3 [] [f] A ∧ Vm.zdS x0 x1 z1 ar m A e d = some r) _ ⟨([] : List Int), 0, 0, .slice none 0 0, X, rfl, Le.refl _ _, rfl, owN 3 [], hm⟩ ?_
 rintro (_ | bg) _ _ σ ⟨A, e, d, f, z, rfl, l10, rfl, J, hm⟩
 ·cases hm
 unfold Vm.zdS at hm
 have B := a4.t l10
 refine ssr (mi rfl (mv x rfl (Lw.ln x0 (y.ul B) rfl (Lw.lt rfl (nl (cn hm (fun hm => ?_) fun hm => ?_))))))
 ·refine sk (Cw.block (Cw.block ?_))
  obtain ⟨av, aw, hm⟩ := zbk hm
  refine Cw.join 18 33 [18] (fun l w => ∃ K C, CW.w C = w ∧ Le [] z C ∧ l = [vB K] ∧ av K = some r) ?_ ?_
  ·rintro _ _ σ ⟨K, C, rfl, h, rfl, hm⟩
   rw [aw] at hm
   have ax := B.n h
   refine cn hm (fun hm => ?_) fun hm => ?_
   ·refine sr (mv f rfl (mi rfl (Lw.t rfl (T.bs 4 [vI d] (cs := [vI d]) rfl rfl (bsv rfl)) ?_)))
    rintro _ _ ⟨bh, bi, rfl, rfl, Y, ay⟩
    obtain ⟨az, a0, hm⟩ := ob hm
    refine Lw.t rfl (T.app1S (α := Int) (K' := []) ((J.up h).up Y) ay (rdI _) rfl rfl a0) ?_
    rintro Z _ ⟨a1, rfl, a2, a3⟩
    exact Nv Z rfl (sr (mi rfl (Lw.add rfl (Ni rfl (rg (mi rfl (Lw.add rfl (Ni rfl ((agm) ⟨az, w64 (e + 1), w64 (d + 1), Z, a1, rfl, (((l10.j h).j Y).j a2).w, rfl, a3, hm⟩)))))))))
   ·obtain ⟨a5, a6, hm⟩ := zbk hm
    refine Cw.join 42 65 [42] (fun l w => ∃ L D, CW.w D = w ∧ Le [] C D ∧ l = [vB L] ∧ a5 L = some r) ?_ ?_
    ·rintro _ _ σ ⟨L, D, rfl, M, rfl, hm⟩
     rw [a6] at hm
     have aa := (J.up h).up M
     refine cn hm (fun hm => ?_) fun hm => ?_
     ·refine sr (mv f rfl (Lw.t rfl (T.bs 5 [vI (-1)] (cs := [vI (-1)]) rfl rfl (bsv rfl)) ?_))
      rintro _ _ ⟨bj, bk, rfl, rfl, ac, a7⟩
      obtain ⟨a8, a9, hm⟩ := ob hm
      refine Lw.t rfl (T.app1S (α := Int) (K' := []) (aa.up ac) a7 (rdI _) rfl rfl a9) ?_
      rintro ae _ ⟨ba, rfl, bb, bc⟩
      exact Nv ae rfl (rg (mi rfl (Lw.add rfl (Ni rfl ((agm) ⟨a8, w64 (e + 1), d, ae, ba, rfl, ((((l10.j h).j M).j ac).j bb).w, rfl, bc, hm⟩)))))
     ·exact rg (mi rfl (Lw.add rfl (Ni rfl ((agm) ⟨A, e, w64 (d + 1), f, D, rfl, ((l10.j h).j M).w, rfl, aa, hm⟩))))
    ·refine Cw.draw [] [(0, 0), (1, 0), (2, 0), (3, 0), (4, 0), (5, 0), (6, 0), (7, 0), (8, 0), (9, 1), (10, 0), (11, 0), (12, 1), (13, 0), (14, 0), (15, 0), (16, 1), (17, 0), (18, 0), (19, 0), (20, 1), (21, 0), (22, 0), (23, 0)] mixed (by kernel_rfl) fun af E => ?_
     have be := ax.n E
     have k := ((ap.up l10).up h).up E
     refine Di rfl (Dv i rfl (Mw.p rfl rfl (fun _ => zt4 (xs := x1) (H.ul be) rfl) (Mw.p rfl rfl (fun _ => R.eq rfl rfl) (Db rfl (bs hm (fun a hm => ?_) fun a hm => ?_)))))
     ·exact dps 17 a rfl (Mw.p rfl rfl (fun _ => R.pk a rfl (v := vB true) rfl) (Hb rfl (Mw.nil ((ag) ⟨true, af, rfl, E, rfl, hm⟩))))
     ·refine Wp a rfl (fun _ => R.mv (v := I) rfl) (Wp a rfl (fun _ => R.mv (v := vI e) rfl) (Wp a rfl (fun _ => R.add rfl rfl) ?_))
      obtain ⟨bl, N, hm⟩ := ob hm
      refine Wp a rfl (fun _ => R.ix (α := List Int) k.rd N rfl rfl rfl) ?_
      obtain ⟨bm, c60, r61⟩ := (k.rd.at_ N).cell rfl
      refine Wq a rfl (fun _ c => R.ld rfl rfl (zaz (k.rd.at_ N).1 rfl c60 c)) (Wp a rfl (fun _ => R.mv (v := vI d) rfl) ?_)
      obtain ⟨ah, O, hm⟩ := ob hm
      refine Wp a rfl (fun _ => R.ix (α := Int) r61 O rfl rfl rfl) (Wq a rfl (fun _ c => R.ld rfl rfl (zaz (r61.at_ O).1 rfl (r61.at_ O).int c)) (Wp a rfl (fun _ => R.mv (v := I) rfl) (Wp a rfl (fun _ => R.mv (v := vI e) rfl) ?_)))
      obtain ⟨u64, P, hm⟩ := ob hm
      refine Wp a rfl (fun _ => R.ix (α := List Int) k.rd P rfl rfl rfl) ?_
      obtain ⟨bn, c67, r68⟩ := (k.rd.at_ P).cell rfl
      refine Wq a rfl (fun _ c => R.ld rfl rfl (zaz (k.rd.at_ P).1 rfl c67 c)) (Wp a rfl (fun _ => R.mv (v := vI d) rfl) (Wp a rfl (fun _ => R.add rfl rfl) ?_))
      obtain ⟨ai, Q, hm⟩ := ob hm
      exact Wp a rfl (fun _ => R.ix (α := Int) r68 Q rfl rfl rfl) (Wq a rfl (fun _ c => R.ld rfl rfl (zaz (r68.at_ Q).1 rfl (r68.at_ Q).int c)) (Wp a rfl (fun _ => R.ge rfl rfl) (Mw.p rfl rfl (fun _ => R.pk a rfl (v := vB (decide ((ai : Int) ≤ (ah : Int)))) rfl) (Hb rfl (Mw.nil ((ag) ⟨decide ((ai : Int) ≤ (ah : Int)), af, rfl, E, rfl, hm⟩))))))
  ·refine Cw.draw [] [(0, 0), (1, 0), (2, 0), (3, 0), (4, 0), (5, 0), (6, 0), (7, 0), (8, 1), (9, 0), (10, 0), (11, 0), (12, 1), (13, 0), (14, 0), (15, 0)] mixed (by kernel_rfl) fun aj S => ?_
   have F := B.n S
   have G := H.ul F
   refine Di rfl (Dv i rfl (Mw.p rfl rfl (fun _ => zt4 (xs := x1) G rfl) (Mw.p rfl rfl (fun _ => R.lt rfl rfl) (Db rfl (bs hm (fun b hm => ?_) fun b hm => ?_)))))
   ·refine Wp b rfl (fun _ => R.mv (v := x) rfl) (Wp b rfl (fun _ => R.mv (v := vI e) rfl) ?_)
    obtain ⟨ak, U, hm⟩ := ob hm
    refine Wp b rfl (fun _ => R.ix (α := Str) (y.ul F) U rfl rfl rfl) (Wq b rfl (fun _ c => R.ld rfl rfl (zaz ((y.ul F).at_ U).1 rfl ((y.ul F).at_ U).str c)) (Wp b rfl (fun _ => R.mv (v := i) rfl) (Wp b rfl (fun _ => R.mv (v := vI d) rfl) ?_)))
    obtain ⟨am, V, hm⟩ := ob hm
    exact Wp b rfl (fun _ => R.ix (α := Str) G V rfl rfl rfl) (Wq b rfl (fun _ c => R.ld rfl rfl (zaz (G.at_ V).1 rfl (G.at_ V).str c)) (Wp b rfl (fun _ => R.seq rfl rfl) (Mw.p rfl rfl (fun _ => R.pk b rfl (v := vB (ak == am)) rfl) (Hb rfl (Mw.nil ((ag) ⟨(ak == am), aj, rfl, S, rfl, hm⟩))))))
   ·exact dps 9 b rfl (Mw.p rfl rfl (fun _ => R.pk b rfl (v := vB false) rfl) (Hb rfl (Mw.nil ((ag) ⟨false, aj, rfl, S, rfl, hm⟩))))
 ·refine Cw.exit ?_
  rw [au] at hm
  refine sr (mv f rfl (Nv f rfl ?_))
  cases hm
  exact Cw.ret (zjQ rfl (Res.mk B ⟨f, rfl, J.s.sub rfl rfl⟩))
theorem p185 {x0 b x1 d k0 r} (f : Rd W K [b] x0) (h : Rd W K [d] x1) (hm : Vm.zgn x0 x1 = some r) : Q1 185 [b, d] W [] fun W' v => ∃ a, v = a ∧ Ow W' k0 [] [a] r :=
 (c185 (f.view _) (h.view _) hm).ad (fk k0) fun _ _ ⟨a, e, i⟩ => ⟨a, e, i.back (ziE _)⟩
end Go.Sx
