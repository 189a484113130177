/- Walks: each function answers as its model, printed by a program of ours. Conditions: the arguments read as they are given. -/
import Derived.Test.YtnjcbcngjmkajaaGreatDoorETs
import Derived.Test.YtnjcbcngjmkajaaGreatDoorEM0
import Derived.Test.YtnjcbcngjmkajaaGreatDoorEW0
import Derived.Test.YtnjcbcngjmkajaaGreatDoorEW5
import Derived.Test.YtnjcbcngjmkajaaGreatDoorEE
namespace Go.Sx
open Go Go.Proofs Go.Vm Rp
set_option linter.unusedVariables false
set_option linter.unusedSimpArgs false
variable {W W0 : CW} {K : List Nat}
theorem c16 {x0 E F r} (hB0 : Bx W0 2 E [F, vI x0.p]) (Z : Rd W0 [0] [F] x0.b) (hm : Vm.zcI x0 = some r) : Q0 16 [ptr (bx E)] W0 fun Wf v => ∃ aj ak, v = .agg [aj, ak].toArray ∧ OwS Wf [31] [] [aj] r.1.Commits ∧ OwS Wf [32] [] [ak] r.1.Heads ∧ Bx Wf 2 E [F, vI r.2] := by
 unfold Vm.zcI at hm
 refine zap.of Tryz.func16 rfl rfl rfl rfl (sr (al 3 [.slice none 0 0, .slice none 0 0] fun g1 W1 l1 b1 => ?_))
 have a2 := l1.o
 have b3 := hB0.up l1
 refine nl (sr (mp rfl (cr hm (fun _ => p36 (k0 := 4) (k1 := 5) (c0 := 2) (x0 := x0) b3 (Z.ul a2) rfl) ?_)))
 rintro a _ W7 hm l7 ⟨A, G, rfl, ap, aq, ba⟩
 have a8 := a2.t l7
 refine al 6 [.slice none 0 0, .slice none 0 0] fun bc cm l10 be => ?_
 have bg := a8.n l10
 refine sta be (zaa (ap.up l10).oc (zaa (aq.up l10).oc zaw)) fun ar B H => ?_
 have aa := bg.t B
 have I := (ap.up l10).up B
 have au := (aq.up l10).up B
 have av := (ba.up l10).up B
 refine nl ?_
 obtain ⟨bh, bi, hm⟩ := za1 hm
 refine Cw.join 7 44 [4] (fun l w => ∃ ac ae af aw L M e, CW.w e = w ∧ Le [2, 4, 5, 6, 7] ar e ∧ l = [aw] ∧ Bx e 2 E [F, vI ac] ∧ Ow e 4 [] [L] ae ∧ Ow e 5 [] [M] af ∧ Bx e 6 bc [L, M] ∧ bh ac ae af = some r) ?_ ?_
 ·rintro _ _ σ ⟨ac, ae, af, aw, L, M, e, rfl, ax, rfl, bj, ay, az, bk, hm⟩
  rw [bi] at hm
  have bl := aa.t ax
  refine sr (la bk (sta ((((b1.up l7).up l10).up B).up ax) (zaa ay.oc (zaa az.oc zaw)) fun co N bm => ?_))
  have bn := bl.t N
  refine nl ?_
  obtain ⟨cp, bp, O, bq⟩ := (ay.up N).dyeO 31
  have br := bn.t O
  obtain ⟨cq, bu, P, bv⟩ := ((az.up N).up O).dyeO 32
  have bw := br.t P
  cases hm
  rw [← bu.trans (bp)]
  exact Cw.ret (zke rfl ((bm.up O).up P) (Res.mk bw ⟨L, M, rfl, (bq.up P).s, bv.s, (((bj.up N).up O).up P)⟩))
 ·refine sr (fl H rfl (Lw.ln a.1.Commits I.rd rfl (Lw.gt rfl (nl (cn hm (fun hm => ?_) fun hm => ?_)))))
  ·refine sr (mp rfl (fl H rfl (Lw.ln a.1.Commits I.rd rfl (cr hm (fun _ => p37 (c0 := 2) (x0 := (Vm.l30Rd.mk x0.b a.2)) av (Z.ul aa) rfl) ?_))))
   rintro f _ ct hm d ⟨rfl, bz⟩
   have b0 := aa.t d
   refine Ni rfl (sr (mp rfl (cr hm (fun _ => p37 (c0 := 2) (x0 := (Vm.l30Rd.mk x0.b f.2)) bz (Z.ul b0) rfl) ?_)))
   rintro Q _ a0 hm h ⟨rfl, S⟩
   have i := (I.up d).up h
   have U := (au.up d).up h
   have k := (H.up d).up h
   refine nl (Cw.block (sr (Lw.eq rfl (Nb rfl (cn hm (fun hm => ?_) fun hm => ?_)))))
   ·refine rg (fl k rfl (mi rfl (mi rfl (Lw.t rfl (T.bsS (α := Int) (xs := [f.1]) 7 [] (W := a0) [vI f.1] (Each.cons ((rdI _)) Each.nil) rfl) ?_))))
    rintro cu _ ⟨cv, rfl, x, b2⟩
    obtain ⟨cw, a1, hm⟩ := ob hm
    refine Lw.r rfl (R.ix (α := Commit) (i.up x).rd a1 rfl rfl rfl) (Lw.fa rfl ?_)
    obtain ⟨b4, b5, hm⟩ := ob hm
    refine Lw.u (T.stH (α := Commit) (β := List Int) (J := [7]) (Ow.hole (α := Commit) (β := List Int) (jf := 0) (i.up x) a1) b2.s b5 rfl rfl rfl rfl) ?_
    rintro _ _ ⟨b6, rfl, V, b7⟩
    exact nl ((ag) ⟨Q.2, b4, a.1.Heads, vI f.1, A, G, b6, rfl, (((d.j h).j x).j V).w, rfl, ((S.up x).up V), b7, ((U.up x).up V), ((k.up x).up V), hm⟩)
   ·refine sr (Lw.eq rfl (Nb rfl (cn hm (fun hm => ?_) fun hm => ?_)))
    ·refine rg (fl k rfl (mi rfl ?_))
     obtain ⟨cx, a3, hm⟩ := ob hm
     refine Lw.r rfl (R.ix (α := Commit) i.rd a3 rfl rfl rfl) (Lw.fa rfl ?_)
     obtain ⟨b8, b9, hm⟩ := ob hm
     refine Lw.u (T.stH (α := Commit) (β := Str) (J := []) (Ow.hole (α := Commit) (β := Str) (jf := 1) i a3) (OwS.atm (K := []) (rdS _)) b9 rfl rfl rfl rfl) ?_
     rintro _ _ ⟨cb, rfl, X, cc⟩
     exact nl ((ag) ⟨Q.2, b8, a.1.Heads, vI f.1, A, G, cb, rfl, ((d.j h).j X).w, rfl, (S.up X), cc, (U.up X), (k.up X), hm⟩)
    ·refine sr (Lw.eq rfl (Nb rfl (cn hm (fun hm => ?_) fun hm => ?_)))
     ·refine Cw.draw [5] [(0, 0), (1, 1), (2, 0), (3, 1), (4, 0), (5, 2), (6, 2), (7, 2), (8, 0), (9, 3)] mixed (by kernel_rfl) fun cy C => ?_
      have ah := U.up C
      have ai := k.up C
      refine Dfl ai rfl rfl rfl (Dfl ai rfl rfl rfl ?_)
      obtain ⟨y, a4, hm⟩ := ob hm
      refine Mw.p rfl rfl (fun _ => R.ix (α := Head) ah.rd a4 rfl rfl rfl) ?_
      obtain ⟨x112, c113, _, r114⟩ := (ah.rd.at_ a4).cells
      obtain rfl := Head.split r114
      refine Mw.t rfl rfl (Run.tr (R.lda c113 rfl rfl)) ?_
      rintro _ _ ⟨hu, rfl⟩
      obtain rfl := hu.symm
      refine ⟨⟨_, rfl, (Le.refl _ _)⟩, ?_⟩
      refine Mw.t rfl rfl (T.bs 8 [.agg [vS y.Name, vI y.At].toArray] (cs := [vS y.Name, vI y.At]) rfl rfl (bsA rfl)) ?_
      rintro _ _ ⟨cz, c1, rfl, rfl, z, cd⟩
      refine m0 z fun ce => ?_
      obtain ⟨cf, cg, hm⟩ := ob hm
      refine Mw.t rfl rfl (T.app1S (α := Head) (K' := []) (ah.up z) cd (Head.rd (K := []) y.Name y.At) rfl rfl cg) ?_
      rintro a5 _ ⟨c2, rfl, D, a6⟩
      refine mc ce D fun c3 => Df rfl (Mw.lu rfl (T.st (j := 1) (v := a5) ((ai.up z).up D) rfl rfl a6.oc rfl rfl) ?_)
      rintro _ _ ⟨ch, rfl, Y, ci⟩
      exact Mw.nil ((ag) ⟨Q.2, a.1.Commits, cf, vI f.1, A, a5, ch, rfl, (((((d.j h).j C).j z).j D).j Y).w, rfl, ((((S.up C).up z).up D).up Y), ((((i.up C).up z).up D).up Y), (a6.up Y), ci, hm⟩)
     ·exact sk ((ag) ⟨Q.2, a.1.Commits, a.1.Heads, vI f.1, A, G, a0, rfl, (d.j h).w, rfl, S, i, U, k, hm⟩)
  ·exact sk ((ag) ⟨a.2, a.1.Commits, a.1.Heads, undef, A, G, ar, rfl, Le.refl _ _, rfl, av, I, au, H, hm⟩)
theorem p16 {x0 f h k0 k1 c0 r} (hB0 : Bx W c0 f [h, vI x0.p]) (i : Rd W K [h] x0.b) (hJ : okJ K [c0] = true) (hm : Vm.zcI x0 = some r) : Q1 16 [ptr (bx f)] W [c0] fun W' v => ∃ a d, v = .agg [a, d].toArray ∧ Ow W' k0 [] [a] r.1.Commits ∧ Ow W' k1 [] [d] r.1.Heads ∧ Bx W' c0 f [h, vI r.2] :=
 zap.adJ (J := [c0]) (fun c => bif Nat.beq c 0 then 0 else bif Nat.beq c 2 then c0 else bif Nat.beq c 31 then k0 else bif Nat.beq c 32 then k1 else 0) (c16 (hB0.viewJ 0 hJ) (i.view _) hm) fun _ _ ⟨a, d, e, k, x, y⟩ => ⟨a, d, e, k.one1.backN rfl, x.one1.backN rfl, Bx.backJ 0 y rfl⟩
theorem c5 {x0 a r} (A : Rd W0 [0] [a] x0) (hm : Vm.zbw x0 = some r) : Q0 5 [a] W0 fun Wf v => ∃ f h, v = .agg [f, h].toArray ∧ OwS Wf [31] [] [f] r.Commits ∧ OwS Wf [32] [] [h] r.Heads := by
 unfold Vm.zbw at hm
 refine zap.of Tryz.func5 rfl rfl rfl rfl (sr (al 2 [.slice none 0 0, .slice none 0 0] fun U V B C => ?_))
 have i := B.o
 refine nl (sr (mv a rfl (cr hm (fun _ => p17 (k0 := 3) (A.ul i)) ?_)))
 rintro D _ W hm k ⟨X, Y, rfl, E, F⟩
 have G := F.sub (M := [0]) rfl
 have H := i.n k
 refine cr hm (fun _ => p16 (k0 := 4) (k1 := 5) (c0 := 3) (x0 := D) E G rfl) ?_
 rintro Z _ aa hm x ⟨I, J, rfl, y, z, ac⟩
 have K := H.t x
 refine sta ((C.up k).up x) (zaa y.oc (zaa z.oc zaw)) fun ae b L => ?_
 have N := K.t b
 refine nl ?_
 obtain ⟨af, O, d, P⟩ := (y.up b).dyeO 31
 have Q := N.t d
 obtain ⟨ah, R, e, S⟩ := ((z.up b).up d).dyeO 32
 have T := Q.t e
 cases hm
 rw [← R.trans (O)]
 exact Cw.ret (zke rfl ((L.up d).up e) (Res.mk T ⟨I, J, rfl, (P.up e).s, S.s⟩))
theorem p5 {x0 d k0 k1 r} (f : Rd W K [d] x0) (hm : Vm.zbw x0 = some r) : Q1 5 [d] W [] fun W' v => ∃ a b, v = .agg [a, b].toArray ∧ Ow W' k0 [] [a] r.Commits ∧ Ow W' k1 [] [b] r.Heads :=
 zap.adJ (J := []) (fun c => bif Nat.beq c 0 then 0 else bif Nat.beq c 31 then k0 else bif Nat.beq c 32 then k1 else 0) (c5 (f.view _) hm) fun _ _ ⟨a, b, e, h, i⟩ => ⟨a, b, e, h.one1.backN rfl, i.one1.backN rfl⟩
theorem c29 {x0 x1 x2 r} (hm : Vm.zce x0 x1 x2 = some r) : Q0 29 [vI x0, vI x1, vI x2] W0 fun Wf v => v = vB r := by
 unfold Vm.zce at hm
 refine zap.of Tryz.func29 rfl rfl rfl rfl (sr (Nb rfl ?_))
 obtain ⟨e, f, hm⟩ := za1 hm
 refine Cw.join 7 14 [6] (fun l w => ∃ b d, CW.w d = w ∧ Le [] W0 d ∧ l = [vB b] ∧ e b = some r) ?_ ?_
 ·rintro _ _ σ ⟨b, d, rfl, h, rfl, hm⟩
  rw [f] at hm
  have i := h.o
  exact .ret (rt hm i)
 ·refine rg (mi rfl (mi rfl (Lw.le rfl (mb rfl (bs hm (fun a hm => ?_) fun a hm => ?_)))))
  ·exact wak 3 a (mi rfl (mi rfl (Lw.le rfl (Pb a rfl (Nb rfl ((ag) ⟨decide ((x0 : Int) ≤ (x2 : Int)), W0, rfl, Le.refl _ _, rfl, hm⟩))))))
  ·exact psk 3 a rfl (Pb a rfl (Nb rfl ((ag) ⟨false, W0, rfl, Le.refl _ _, rfl, hm⟩)))
theorem p29 {x0 x1 x2 r} (hm : Vm.zce x0 x1 x2 = some r) : Q1 29 [vI x0, vI x1, vI x2] W [] fun W' v => v = vB r :=
 (c29 (W0 := W.view [] [])  hm).ad (fk 0) fun _ _ e => e
theorem c62 {x0 r} (hm : Vm.zdv x0 = some r) : Q0 62 [.int .u8 (UInt8.toNat x0 : Int)] W0 fun Wf v => v = vB r := by
 unfold Vm.zdv at hm
 refine zap.of Tryz.func62 rfl rfl rfl rfl (sr (Nb rfl ?_))
 obtain ⟨i, k, hm⟩ := za1 hm
 refine Cw.join 3 16 [2] (fun l w => ∃ f h, CW.w h = w ∧ Le [] W0 h ∧ l = [vB f] ∧ i f = some r) ?_ ?_
 ·rintro _ _ σ ⟨f, h, rfl, x, rfl, hm⟩
  rw [k] at hm
  have y := x.o
  exact .ret (rt hm y)
 ·refine rg (mv (.int .u8 (UInt8.toNat x0 : Int)) rfl (Lw.ge rfl (mb rfl (bs hm (fun b hm => ?_) fun b hm => ?_))))
  ·refine wak 2 b (mv (.int .u8 (UInt8.toNat x0 : Int)) rfl (Lw.le rfl (Pb b rfl (mb rfl (bs hm (fun a hm => ?_) fun a hm => ?_)))))
   ·exact psk 3 a rfl (puk 2 rfl (psk 1 a rfl (Pb a rfl (Nb rfl ((ag) ⟨true, W0, rfl, Le.refl _ _, rfl, hm⟩)))))
   ·refine wak 3 a (mv (.int .u8 (UInt8.toNat x0 : Int)) rfl (Lw.ge rfl (mb rfl (bs hm (fun d hm => ?_) fun d hm => ?_))))
    ·exact wak 2 d (mv (.int .u8 (UInt8.toNat x0 : Int)) rfl (Lw.le rfl (wak 1 a (Pb d rfl (Pb a rfl (Nb rfl ((ag) ⟨decide (((UInt8.toNat x0 : Int) : Int) ≤ (57 : Int)), W0, rfl, Le.refl _ _, rfl, hm⟩)))))))
    ·exact psk 2 d rfl (wak 1 a (Pb d rfl (Pb a rfl (Nb rfl ((ag) ⟨false, W0, rfl, Le.refl _ _, rfl, hm⟩)))))
  ·refine psk 2 b rfl (Pb b rfl (mb rfl (wak 3 rfl (mv (.int .u8 (UInt8.toNat x0 : Int)) rfl (Lw.ge rfl (mb rfl (bs hm (fun e hm => ?_) fun e hm => ?_)))))))
   ·exact wak 2 e (mv (.int .u8 (UInt8.toNat x0 : Int)) rfl (Lw.le rfl (wak 1 rfl (Pb e rfl (Pb rfl rfl (Nb rfl ((ag) ⟨decide (((UInt8.toNat x0 : Int) : Int) ≤ (57 : Int)), W0, rfl, Le.refl _ _, rfl, hm⟩)))))))
   ·exact psk 2 e rfl (wak 1 rfl (Pb e rfl (Pb rfl rfl (Nb rfl ((ag) ⟨false, W0, rfl, Le.refl _ _, rfl, hm⟩)))))
theorem p62 {x0 r} (hm : Vm.zdv x0 = some r) : Q1 62 [.int .u8 (UInt8.toNat x0 : Int)] W [] fun W' v => v = vB r :=
 (c62 (W0 := W.view [] [])  hm).ad (fk 0) fun _ _ e => e
theorem c38 {x0 r} (hm : Vm.zdd x0 = some r) : Q0 38 [vS x0] W0 fun Wf v => v = vB r := by
 unfold Vm.zdd at hm
 refine zap.of Tryz.func38 rfl rfl rfl rfl (sr (Nb rfl (ssr (ms rfl (Lw.r rfl (R.lenS rfl) (ca hm (fun _ => p29) fun D e hm x => ?_))))))
 have f := x.o
 refine Lw.r rfl (R.not rfl) (nl (cn hm (fun hm => ?_) fun hm => ?_))
 ·exact sr (Nb rfl (.ret (rt hm f)))
 ·refine sk (ssr (Ni rfl (Cw.block ?_)))
  obtain ⟨y, z, hm⟩ := za1 hm
  refine Cw.loop 8 18 [2, 3] (fun m l w => ∃ a b d, CW.w d = w ∧ Le [] e d ∧ l = [vB a, vI b] ∧ Vm.zb1 x0 y m a b = some r) _ ⟨false, 0, e, rfl, Le.refl _ _, rfl, hm⟩ ?_
  rintro (_ | E) _ _ σ ⟨a, b, d, rfl, h, rfl, hm⟩
  ·cases hm
  unfold Vm.zb1 at hm
  have i := f.n h
  refine ssr (mi rfl (ms rfl (Lw.r rfl (R.lenS rfl) (Lw.lt rfl (nl (cn hm (fun hm => ?_) fun hm => ?_))))))
  ·refine sk (Cw.seq (Cw.block (sr (ms rfl (mi rfl ?_)))))
   obtain ⟨F, A, hm⟩ := ob hm
   refine Lw.r rfl (R.chm A rfl rfl) (ca hm (fun _ => p62) fun G B hm k => ?_)
   have C := i.n k
   refine Lw.r rfl (R.not rfl) (nl (cn hm (fun hm => ?_) fun hm => ?_))
   ·exact sr (Nb rfl (.ret (rt hm C)))
   ·exact sk (rg (mi rfl (Lw.add rfl (Ni rfl ((agm) ⟨a, w64 (b + 1), B, rfl, (h.j k).w, rfl, hm⟩)))))
  ·refine Cw.exit ?_
   rw [z] at hm
   exact sr (Nb rfl (.ret (rt hm i)))
theorem p38 {x0 r} (hm : Vm.zdd x0 = some r) : Q1 38 [vS x0] W [] fun W' v => v = vB r :=
 (c38 (W0 := W.view [] [])  hm).ad (fk 0) fun _ _ e => e
theorem c45 {x0 r} (hm : Vm.zeB x0 = some r) : Q0 45 [vS x0] W0 fun Wf v => v = vB r := by
 unfold Vm.zeB at hm
 refine zap.of Tryz.func45 rfl rfl rfl rfl (sr (Nb rfl (ssr (ms rfl (Lw.r rfl (R.lenS rfl) (Lw.gt rfl (nl (cn hm (fun hm => ?_) fun hm => ?_))))))))
 ·exact sr (Nb rfl (.ret (rt hm (Le.refl _ _))))
 ·refine sk (ssr (Ni rfl (Cw.block ?_)))
  obtain ⟨x, y, hm⟩ := za1 hm
  refine Cw.loop 7 22 [2, 3] (fun m l w => ∃ d e a, CW.w a = w ∧ Le [] W0 a ∧ l = [vB d, vI e] ∧ Vm.zb2 x0 x m d e = some r) _ ⟨false, 0, W0, rfl, Le.refl _ _, rfl, hm⟩ ?_
  rintro (_ | F) _ _ σ ⟨d, e, a, rfl, i, rfl, hm⟩
  ·cases hm
  unfold Vm.zb2 at hm
  have k := i.o
  refine ssr (mi rfl (ms rfl (Lw.r rfl (R.lenS rfl) (Lw.lt rfl (nl (cn hm (fun hm => ?_) fun hm => ?_))))))
  ·refine sk (Cw.seq (Cw.block ?_))
   obtain ⟨z, A, hm⟩ := za1 hm
   refine Cw.join 13 22 [22] (fun l w => ∃ h f, CW.w f = w ∧ Le [] a f ∧ l = [vB h] ∧ z h = some r) ?_ ?_
   ·rintro _ _ σ ⟨h, f, rfl, l10, rfl, hm⟩
    rw [A] at hm
    have B := k.n l10
    refine cn hm (fun hm => ?_) fun hm => ?_
    ·exact sr (Nb rfl (.ret (rt hm B)))
    ·exact sk (rg (mi rfl (Lw.add rfl (Ni rfl ((agm) ⟨d, w64 (e + 1), f, rfl, (i.j l10).w, rfl, hm⟩)))))
   ·refine rg (ms rfl (mi rfl ?_))
    obtain ⟨G, C, hm⟩ := ob hm
    refine Lw.r rfl (R.chm C rfl rfl) (Lw.lt rfl (mb rfl (bs hm (fun b hm => ?_) fun b hm => ?_)))
    ·exact psk 4 b rfl (Pb b rfl (nl ((ag) ⟨true, a, rfl, Le.refl _ _, rfl, hm⟩)))
    ·refine wak 4 b (ms rfl (mi rfl ?_))
     obtain ⟨D, E, hm⟩ := ob hm
     exact Lw.r rfl (R.chm E rfl rfl) (Lw.gt rfl (Pb b rfl (nl ((ag) ⟨decide ((126 : Int) < ((UInt8.toNat D : Int) : Int)), a, rfl, Le.refl _ _, rfl, hm⟩))))
  ·refine Cw.exit ?_
   rw [y] at hm
   exact sr (Nb rfl (.ret (rt hm k)))
theorem p45 {x0 r} (hm : Vm.zeB x0 = some r) : Q1 45 [vS x0] W [] fun W' v => v = vB r :=
 (c45 (W0 := W.view [] [])  hm).ad (fk 0) fun _ _ e => e
theorem c25 {x0 a r} (b : Rd W0 [0] [a] x0) (hm : Vm.zbv x0 = some r) : Q0 25 [a] W0 fun Wf v => v = vB r := by
 unfold Vm.zbv at hm
 refine zap.of Tryz.func25 rfl rfl rfl rfl (sr (Nb rfl (ssr (mv a rfl (Lw.ln x0 b rfl (Lw.gt rfl (nl (cn hm (fun hm => ?_) fun hm => ?_))))))))
 ·exact sr (Nb rfl (.ret (rt hm (Le.refl _ _))))
 ·refine sk (ssr (mv a rfl (Lw.ln x0 b rfl (mi rfl (nl (Cw.block ?_))))))
  obtain ⟨z, A, hm⟩ := za1 hm
  refine Cw.loop 10 17 [2, 4, 10] (fun m l w => ∃ d e i h, CW.w h = w ∧ Le [] W0 h ∧ l = [vB d, i, vI e] ∧ Vm.zb3 x0 z m d e = some r) _ ⟨false, 0, undef, W0, rfl, Le.refl _ _, rfl, hm⟩ ?_
  rintro (_ | E) _ _ σ ⟨d, e, i, h, rfl, k, rfl, hm⟩
  ·cases hm
  unfold Vm.zb3 at hm
  have f := k.o
  refine sr (Lw.lt rfl (nl (Cw.seq (cn hm (fun hm => ?_) fun hm => ?_))))
  ·refine sk (Cw.seq (Cw.block (sr ?_)))
   obtain ⟨B, x, hm⟩ := ob hm
   refine Lw.r rfl (R.ix (α := Str) (b.ul f) x rfl rfl rfl) (Lw.r rfl (R.ld rfl rfl ((b.ul f).at_ x).str) (Ns rfl (sr (ms rfl (ca hm (fun _ => p45) fun F C hm y => ?_)))))
   have D := f.n y
   refine Lw.r rfl (R.not rfl) (nl (cn hm (fun hm => ?_) fun hm => ?_))
   ·exact sr (Nb rfl (.ret (rt hm D)))
   ·exact sk (rg (Lw.add rfl (mi rfl (nl ((agm) ⟨d, w64 (e + 1), vS B, C, rfl, (k.j y).w, rfl, hm⟩)))))
  ·refine Cw.exit ?_
   rw [A] at hm
   exact sr (Nb rfl (.ret (rt hm f)))
theorem p25 {x0 a r} (b : Rd W K [a] x0) (hm : Vm.zbv x0 = some r) : Q1 25 [a] W [] fun W' v => v = vB r :=
 (c25 (b.view _) hm).ad (fk 0) fun _ _ e => e
theorem c63 {x0 r} (C : Gl 0 W0 [0]) (hm : Vm.zdC x0 = some r) : Q0 63 [vS x0] W0 fun Wf v => v = vB r := by
 unfold Vm.zdC at hm
 refine zap.of Tryz.func63 rfl rfl rfl rfl (sr (Nb rfl (sr (ms rfl (cr hm (fun _ => p81 (k0 := 2) C) ?_)))))
 rintro f h k hm D ⟨_, rfl, a⟩
 have x := D.o
 refine Nv h rfl (ssr (mv h rfl (Lw.ln f a.rd rfl (Lw.gt rfl (nl (cn hm (fun hm => ?_) fun hm => ?_))))))
 ·exact sr (Nb rfl (.ret (rt hm x)))
 ·refine sk (ssr (mv h rfl (Lw.ln f a.rd rfl (mi rfl (nl (Cw.block ?_))))))
  obtain ⟨E, F, hm⟩ := za1 hm
  refine Cw.loop 13 20 [2, 5, 13] (fun m l w => ∃ b d y i, CW.w i = w ∧ Le [] k i ∧ l = [vB b, y, vI d] ∧ Vm.zb4 f E m b d = some r) _ ⟨false, 0, undef, k, rfl, Le.refl _ _, rfl, hm⟩ ?_
  rintro (_ | J) _ _ σ ⟨b, d, y, i, rfl, e, rfl, hm⟩
  ·cases hm
  unfold Vm.zb4 at hm
  have z := x.n e
  refine sr (Lw.lt rfl (nl (Cw.seq (cn hm (fun hm => ?_) fun hm => ?_))))
  ·refine sk (Cw.seq (Cw.block (sr ?_)))
   obtain ⟨G, A, hm⟩ := ob hm
   refine Lw.r rfl (R.ix (α := Str) (a.up e).rd A rfl rfl rfl) (Lw.r rfl (R.ld rfl rfl ((a.up e).rd.at_ A).str) (Ns rfl (sr (ms rfl (ca hm (fun _ => p38) fun K H hm B => ?_)))))
   have I := z.n B
   refine Lw.r rfl (R.not rfl) (nl (cn hm (fun hm => ?_) fun hm => ?_))
   ·exact sr (Nb rfl (.ret (rt hm I)))
   ·exact sk (rg (Lw.add rfl (mi rfl (nl ((agm) ⟨b, w64 (d + 1), vS G, H, rfl, (e.j B).w, rfl, hm⟩)))))
  ·refine Cw.exit ?_
   rw [F] at hm
   exact sr (Nb rfl (.ret (rt hm z)))
theorem p63 {x0 r} (a : Gl 0 W K) (hm : Vm.zdC x0 = some r) : Q1 63 [vS x0] W [] fun W' v => v = vB r :=
 (c63 (a.view _) hm).ad (fk 0) fun _ _ e => e
theorem c64 {x0 x1 r} (h : Gl 0 W0 [0]) (hm : Vm.zcf x0 x1 = some r) : Q0 64 [vS x0, vS x1] W0 fun Wf v => v = vB r := by
 unfold Vm.zcf at hm
 refine zap.of Tryz.func64 rfl rfl rfl rfl (sr (Nb rfl ?_))
 obtain ⟨k, x, hm⟩ := za1 hm
 refine Cw.join 5 16 [4] (fun l w => ∃ e f, CW.w f = w ∧ Le [] W0 f ∧ l = [vB e] ∧ k e = some r) ?_ ?_
 ·rintro _ _ σ ⟨e, f, rfl, y, rfl, hm⟩
  rw [x] at hm
  have z := y.o
  exact .ret (rt hm z)
 ·refine rg (ms rfl (ca hm (fun _ => p63 h) fun H A hm d => ?_))
  have B := d.o
  refine mb rfl (bs hm (fun a hm => ?_) fun a hm => ?_)
  ·refine wak 2 a (ms rfl (ca hm (fun _ => p63 (h.ul B)) fun I C hm i => Pb a rfl (mb rfl (bs hm (fun b hm => ?_) fun b hm => ?_))))
   ·refine wak 4 b (ms rfl (ms rfl ?_))
    obtain ⟨J, D, hm⟩ := ob hm
    exact Lw.r rfl (R.sad D rfl rfl) (ca hm (fun _ => p82) fun E F hm G => Pb b rfl (Nb rfl ((ag) ⟨E, F, rfl, ((d.j i).j G).w, rfl, hm⟩)))
   ·exact psk 4 b rfl (Pb b rfl (Nb rfl ((ag) ⟨false, C, rfl, (d.j i).w, rfl, hm⟩)))
  ·exact psk 2 a rfl (Pb a rfl (mb rfl (psk 4 rfl rfl (Pb rfl rfl (Nb rfl ((ag) ⟨false, A, rfl, d, rfl, hm⟩))))))
theorem p64 {x0 x1 r} (a : Gl 0 W K) (hm : Vm.zcf x0 x1 = some r) : Q1 64 [vS x0, vS x1] W [] fun W' v => v = vB r :=
 (c64 (a.view _) hm).ad (fk 0) fun _ _ e => e
theorem c39 {x0 h r} (f : Rd W0 [0] [h] x0) (Z : Gl 0 W0 [0]) (hm : Vm.zeb x0 = some r) : Q0 39 [h] W0 fun Wf v => v = vB r := by
 unfold Vm.zeb at hm
 refine zap.of Tryz.func39 rfl rfl rfl rfl (sr (Nb rfl (ssr (mv h rfl (Lw.ln x0 f rfl (Lw.gt rfl (nl (cn hm (fun hm => ?_) fun hm => ?_))))))))
 ·exact sr (Nb rfl (.ret (rt hm (Le.refl _ _))))
 ·refine sk (ssr (mv h rfl (Lw.ln x0 f rfl (mi rfl (nl (Cw.block ?_))))))
  obtain ⟨K8, ar, hm⟩ := za1 hm
  refine Cw.loop 12 56 [2, 3, 4, 6, 12] (fun m l w => ∃ B d j3 j4 J K, CW.w K = w ∧ Le [2, 3] W0 K ∧ l = [vB B, j3, j4, J, vI d] ∧ Vm.zb5 x0 K8 m B d = some r) _ ⟨false, 0, undef, undef, undef, W0, rfl, Le.refl _ _, rfl, hm⟩ ?_
  rintro (_ | m9) _ _ σ ⟨B, d, j3, j4, J, K, rfl, l7, rfl, hm⟩
  ·cases hm
  unfold Vm.zb5 at hm
  have i := l7.s
  refine sr (Lw.lt rfl (nl (Cw.seq (cn hm (fun hm => ?_) fun hm => ?_))))
  ·refine sk (Cw.seq (Cw.block (sr (mi rfl ?_))))
   obtain ⟨k, af, hm⟩ := ob hm
   refine Lw.r rfl (R.ix (α := File) (f.ul i) af rfl rfl rfl) ?_
   obtain ⟨x15, c16, _, r17⟩ := ((f.ul i).at_ af).cells
   obtain ⟨bg, rfl, r19⟩ := File.split r17
   refine Lw.r rfl (R.lda c16 rfl rfl) (al 2 [vS ([] : Str), .slice none 0 0] fun au bh ah av => ?_)
   have C := ah.o
   refine Gi rfl (sta av (zaa rfl (zaa r19.oc zaw)) fun aw ai aj => ?_)
   have D := ai.s
   refine nl (Cw.seq ?_)
   obtain ⟨ax, ay, hm⟩ := za1 hm
   refine Cw.join 17 41 [41] (fun l w => ∃ L z, CW.w z = w ∧ Le [] aw z ∧ l = [vB L] ∧ ax L = some r) ?_ ?_
   ·rintro _ _ σ ⟨L, z, rfl, M, rfl, hm⟩
    rw [ay] at hm
    have E := ((i.trans C).trans D).n M
    refine cn hm (fun hm => ?_) fun hm => ?_
    ·exact sr (Nb rfl (.ret (rt hm E)))
    ·refine sk (sr (mv h rfl (mi rfl ?_)))
     obtain ⟨ak, am, hm⟩ := ob hm
     have r34 := (f.ul E).cutV am
     refine Lw.r rfl (R.sl (f.ul E) am rfl (.inl ⟨rfl, rfl⟩) (.inr rfl)) (Lw.ln ak r34 rfl (mi rfl (nl (Cw.block ?_))))
     obtain ⟨az, a0, hm⟩ := za1 hm
     refine Cw.loop 46 55 [2, 6, 46] (fun m l w => ∃ A F N G, CW.w G = w ∧ Le [3] z G ∧ l = [vB A, N, vI F] ∧ Vm.zbl k ak az m A F = some r) _ ⟨B, 0, J, z, rfl, Le.refl _ _, rfl, hm⟩ ?_
     rintro (_ | bi) _ _ σ ⟨A, F, N, G, rfl, H, rfl, hm⟩
     ·cases hm
     unfold Vm.zbl at hm
     have O := H.s
     refine sr (Lw.lt rfl (nl (Cw.seq (cn hm (fun hm => ?_) fun hm => ?_))))
     ·refine sk (Cw.seq (Cw.block (sr ?_)))
      obtain ⟨bj, an, hm⟩ := ob hm
      refine Lw.r rfl (R.ix (α := File) (r34.ul O) an rfl rfl rfl) ?_
      obtain ⟨x47, c48, _, r49⟩ := ((r34.ul O).at_ an).cells
      obtain ⟨bk, rfl, r51⟩ := File.split r49
      refine Lw.r rfl (R.lda c48 rfl rfl) (al 3 [vS ([] : Str), .slice none 0 0] fun a1 bl P a2 => ?_)
      have a3 := (E.trans O).n P
      refine sta a2 (zaa rfl (zaa r51.oc zaw)) fun bm Q a4 => ?_
      have ao := a3.t Q
      refine nl (sr (fl a4 rfl (fl ((((aj.up M).up H).up P).up Q) rfl (ca hm (fun _ => p64 (Z.ul ao)) fun bn a5 hm ap => ?_))))
      have a6 := ao.n ap
      refine nl (cn hm (fun hm => ?_) fun hm => ?_)
      ·exact sr (Nb rfl (.ret (rt hm a6)))
      ·exact sk (rg (Lw.add rfl (mi rfl (nl ((agm) ⟨A, w64 (F + 1), ptr (bx a1), a5, rfl, (((H.j P).j Q).j ap).w, rfl, hm⟩)))))
     ·refine Cw.exit ?_
      rw [a0] at hm
      exact rg (Lw.add rfl (mi rfl (nl ((agm) ⟨A, w64 (d + 1), vI d, ptr (bx au), N, G, rfl, ((((l7.j ah).j ai).j M).j H).w, rfl, hm⟩))))
   ·refine Cw.draw [] [(0, 0), (1, 1), (2, 2), (3, 0), (4, 0), (5, 0), (6, 1), (7, 2), (8, 0), (9, 0), (10, 0), (11, 0), (12, 0), (13, 0), (14, 0), (15, 0), (16, 0), (17, 0), (18, 0), (19, 1), (20, 0), (21, 1), (22, 0), (23, 0), (24, 0)] mixed (by kernel_rfl) fun bp x => ?_
    have S := x.o
    have U := aj.up x
    refine Dfl U rfl rfl rfl ?_
    obtain ⟨bq, a7, hm⟩ := ob hm
    refine Mw.t rfl rfl (T.call rfl (p25  (r19.ul ((C.trans D).trans S)) a7)) ?_
    rintro _ _ ⟨a8, rfl, y, rfl⟩
    have a9 := (((i.trans C).trans D).trans S).n y
    refine m0 y fun ba => Mw.p rfl rfl (fun _ => R.not rfl) (Db rfl (bs hm (fun e hm => ?_) fun e hm => ?_))
    ·exact dps 4 e rfl (Mw.p rfl rfl (fun _ => R.pk e rfl (v := vB true) rfl) (Db rfl (dps 3 rfl rfl (dpu 9 rfl (dps 1 rfl rfl (Mw.p rfl rfl (fun _ => R.pk rfl rfl (v := vB true) rfl) (Mw.nil ((ag) ⟨true, a8, rfl, (x.j y).w, rfl, hm⟩))))))))
    ·refine Wp e rfl (fun _ => R.fa rfl) (Wq e rfl (fun _ c => R.ld (v := vS k.Path) rfl rfl (U.clc rfl rfl c)) ?_)
     obtain ⟨bb, bc, hm⟩ := ob hm
     refine Wt e rfl (T.call rfl (p63  (Z.ul a9) bc)) ?_
     rintro _ _ ⟨V, rfl, I, rfl⟩
     refine mc ba I fun br => Wp e rfl (fun _ => R.not rfl) (Mw.p rfl rfl (fun _ => R.pk e rfl (v := vB (!bb)) rfl) (Db rfl (bs hm (fun b hm => ?_) fun b hm => ?_)))
     ·exact dps 3 b rfl (dpu 9 rfl (dps 1 b rfl (Mw.p rfl rfl (fun _ => R.pk b rfl (v := vB true) rfl) (Mw.nil ((ag) ⟨true, V, rfl, ((x.j y).j I).w, rfl, hm⟩)))))
     ·refine Wp b rfl (fun _ => R.mv (v := vI d) rfl) (Wp b rfl (fun _ => R.gt rfl rfl) (Wp b rfl (fun _ => R.mv (v := vB (decide ((0 : Int) < (d : Int)))) rfl) (bs hm (fun a hm => ?_) fun a hm => ?_)))
      ·refine Wp a rfl (fun _ => R.mv (v := h) rfl) (Wp a rfl (fun _ => R.mv (v := vI d) rfl) (Wp a rfl (fun _ => R.sub rfl rfl) ?_))
       obtain ⟨W, X, hm⟩ := ob hm
       have Y := f.ul (((i.trans C).trans D).trans S)
       exact Wp a rfl (fun _ => R.ix (α := File) Y X rfl rfl rfl) (Wp a rfl (fun _ => R.fa rfl) (Wq a rfl (fun _ c => R.ld rfl rfl (zam (File.at0 (Y.at_ X)).1 rfl (File.at0 (Y.at_ X)).str c)) (Wp a rfl (fun _ => R.fa rfl) (Wq a rfl (fun _ c => R.ld (v := vS k.Path) rfl rfl (U.clc rfl rfl c)) (Wp a rfl (fun _ => R.sge rfl rfl) (Wp b rfl (fun _ => R.pk a rfl (v := vB (!Op.bytesLess W.Path k.Path)) rfl) (Mw.p rfl rfl (fun _ => R.pk b rfl (v := vB (!Op.bytesLess W.Path k.Path)) rfl) (Mw.nil ((ag) ⟨(!Op.bytesLess W.Path k.Path), V, rfl, ((x.j y).j I).w, rfl, hm⟩)))))))))
      ·exact dps 9 a rfl (Wp b rfl (fun _ => R.pk a rfl (v := vB false) rfl) (Mw.p rfl rfl (fun _ => R.pk b rfl (v := vB false) rfl) (Mw.nil ((ag) ⟨false, V, rfl, ((x.j y).j I).w, rfl, hm⟩))))
  ·refine Cw.exit ?_
   rw [ar] at hm
   exact sr (Nb rfl (.ret (rt hm i)))
theorem p39 {x0 a r} (b : Rd W K [a] x0) (d : Gl 0 W K) (hm : Vm.zeb x0 = some r) : Q1 39 [a] W [] fun W' v => v = vB r :=
 (c39 (b.view _) (d.view _) hm).ad (fk 0) fun _ _ e => e
theorem c54 {x0 a b x1 r} (f : Rd W0 [0] [a, b] x0) (hm : Vm.zcn x0 x1 = some r) : Q0 54 [.agg [a, b].toArray, vI x1] W0 fun Wf v => v = vB r := by
 unfold Vm.zcn at hm
 obtain ⟨z, A, d, h, B⟩ := Repo.split f
 simp only [List.cons.injEq, and_true, true_and] at d
 obtain ⟨rfl, rfl⟩ := d
 refine zap.of Tryz.func54 rfl rfl rfl rfl (sr (bo 2 rfl fun C D i k => ?_))
 have e := i.o
 refine Nb rfl (sr (mi rfl (fl k rfl (Lw.ln x0.Commits (h.ul e) rfl (Lw.sub rfl (ca hm (fun _ => p29) fun E F hm x => ?_))))))
 have y := e.n x
 exact Nb rfl (.ret (rt hm y))
theorem p54 {x0 a b x1 r} (d : Rd W K [a, b] x0) (hm : Vm.zcn x0 x1 = some r) : Q1 54 [.agg [a, b].toArray, vI x1] W [] fun W' v => v = vB r :=
 (c54 (d.view _) hm).ad (fk 0) fun _ _ e => e
theorem c40 {x0 E F x1 k r} (h0 : Rd W0 [0] [E, F] x0) (f : Rd W0 [0] [k] x1) (hm : Vm.zd1 x0 x1 = some r) : Q0 40 [.agg [E, F].toArray, k] W0 fun Wf v => v = vB r := by
 unfold Vm.zd1 at hm
 obtain ⟨a0, a1, Q, ac, ae⟩ := Repo.split h0
 simp only [List.cons.injEq, and_true, true_and] at Q
 obtain ⟨rfl, rfl⟩ := Q
 refine zap.of Tryz.func40 rfl rfl rfl rfl (sr (bo 2 rfl fun g1 S l1 b1 => ?_))
 have y := l1.o
 refine Nb rfl (ssr (mv k rfl (Lw.ln x1 (f.ul y) rfl (Lw.gt rfl (nl (cn hm (fun hm => ?_) fun hm => ?_))))))
 ·exact sr (Nb rfl (.ret (rt hm y)))
 ·refine sk (ssr (mv k rfl (Lw.ln x1 (f.ul y) rfl (mi rfl (nl (Cw.block ?_))))))
  obtain ⟨ai, aj, hm⟩ := za1 hm
  refine Cw.loop 12 43 [4, 5, 6, 12] (fun m l w => ∃ z e U V G, CW.w G = w ∧ Le [3] S G ∧ l = [vB z, U, V, vI e] ∧ Vm.zbE x0 x1 ai m z e = some r) _ ⟨false, 0, undef, undef, S, rfl, Le.refl _ _, rfl, hm⟩ ?_
  rintro (_ | a4) _ _ σ ⟨z, e, U, V, G, rfl, H, rfl, hm⟩
  ·cases hm
  unfold Vm.zbE at hm
  have A := y.t H
  refine sr (Lw.lt rfl (nl (Cw.seq (cn hm (fun hm => ?_) fun hm => ?_))))
  ·refine sk (Cw.seq (Cw.block (sr (mi rfl ?_))))
   obtain ⟨x, W, hm⟩ := ob hm
   refine Lw.r rfl (R.ix (α := Head) (f.ul A) W rfl rfl rfl) ?_
   obtain ⟨x18, c19, _, r20⟩ := ((f.ul A).at_ W).cells
   obtain rfl := Head.split r20
   refine Lw.r rfl (R.lda c19 rfl rfl) (al 3 [vS ([] : Str), vI 0] fun ak a5 I am => ?_)
   have an := A.n I
   refine Gi rfl (sta am (zaa rfl (zaa rfl zaw)) fun ao J ap => ?_)
   have X := an.t J
   refine nl ?_
   obtain ⟨aq, ar, hm⟩ := za1 hm
   refine Cw.join 17 42 [42] (fun l w => ∃ L B, CW.w B = w ∧ Le [] ao B ∧ l = [vB L] ∧ aq L = some r) ?_ ?_
   ·rintro _ _ σ ⟨L, B, rfl, Y, rfl, hm⟩
    rw [ar] at hm
    have au := X.n Y
    refine cn hm (fun hm => ?_) fun hm => ?_
    ·exact sr (Nb rfl (.ret (rt hm au)))
    ·exact sk (rg (Lw.add rfl (mi rfl (nl ((agm) ⟨z, w64 (e + 1), vI e, ptr (bx ak), B, rfl, (((H.j I).j J).j Y).w, rfl, hm⟩)))))
   ·refine Cw.draw [] [(0, 0), (1, 1), (2, 2), (3, 0), (4, 0), (5, 1), (6, 0), (7, 1), (8, 2), (9, 0), (10, 0), (11, 0), (12, 0), (13, 0), (14, 0), (15, 0), (16, 0), (17, 0), (18, 0), (19, 0), (20, 1), (21, 0), (22, 1), (23, 0), (24, 0), (25, 0)] mixed (by kernel_rfl) fun a6 h => ?_
    have C := X.n h
    have M := ap.up h
    refine Dfl M rfl rfl rfl ?_
    obtain ⟨a7, av, hm⟩ := ob hm
    refine Mw.t rfl rfl (T.call rfl (p38   av)) ?_
    rintro _ _ ⟨aw, rfl, i, rfl⟩
    have Z := C.n i
    refine m0 i fun ax => Mw.p rfl rfl (fun _ => R.not rfl) (Db rfl (bs hm (fun d hm => ?_) fun d hm => ?_))
    ·exact dps 5 d rfl (Mw.p rfl rfl (fun _ => R.pk d rfl (v := vB true) rfl) (Db rfl (dps 3 rfl rfl (dpu 9 rfl (dps 1 rfl rfl (Mw.p rfl rfl (fun _ => R.pk rfl rfl (v := vB true) rfl) (Mw.nil ((ag) ⟨true, aw, rfl, (h.j i).w, rfl, hm⟩))))))))
    ·refine Wq d rfl (fun _ c => R.lda (cs := [E, F]) (((((b1.up H).up I).up J).up h).clcs rfl c) rfl rfl) (Wp d rfl (fun _ => R.fa rfl) (Wq d rfl (fun _ c => R.ld (v := vI x.At) rfl rfl (M.clc rfl rfl c)) ?_))
     obtain ⟨ay, az, hm⟩ := ob hm
     refine Wt d rfl (T.call rfl (p54  (Repo.rd (K := [0]) x0.Commits x0.Heads (ac.ul Z) (ae.ul Z)) az)) ?_
     rintro _ _ ⟨N, rfl, D, rfl⟩
     refine mc ax D fun a8 => Wp d rfl (fun _ => R.not rfl) (Mw.p rfl rfl (fun _ => R.pk d rfl (v := vB (!ay)) rfl) (Db rfl (bs hm (fun b hm => ?_) fun b hm => ?_)))
     ·exact dps 3 b rfl (dpu 9 rfl (dps 1 b rfl (Mw.p rfl rfl (fun _ => R.pk b rfl (v := vB true) rfl) (Mw.nil ((ag) ⟨true, N, rfl, ((h.j i).j D).w, rfl, hm⟩)))))
     ·refine Wp b rfl (fun _ => R.mv (v := vI e) rfl) (Wp b rfl (fun _ => R.gt rfl rfl) (Wp b rfl (fun _ => R.mv (v := vB (decide ((0 : Int) < (e : Int)))) rfl) (bs hm (fun a hm => ?_) fun a hm => ?_)))
      ·refine Wp a rfl (fun _ => R.mv (v := k) rfl) (Wp a rfl (fun _ => R.mv (v := vI e) rfl) (Wp a rfl (fun _ => R.sub rfl rfl) ?_))
       obtain ⟨O, P, hm⟩ := ob hm
       exact Wp a rfl (fun _ => R.ix (α := Head) (f.ul C) P rfl rfl rfl) (Wp a rfl (fun _ => R.fa rfl) (Wq a rfl (fun _ c => R.ld rfl rfl (zam (Head.at0 ((f.ul C).at_ P)).1 rfl (Head.at0 ((f.ul C).at_ P)).str c)) (Wp a rfl (fun _ => R.fa rfl) (Wq a rfl (fun _ c => R.ld (v := vS x.Name) rfl rfl (M.clc rfl rfl c)) (Wp a rfl (fun _ => R.sge rfl rfl) (Wp b rfl (fun _ => R.pk a rfl (v := vB (!Op.bytesLess O.Name x.Name)) rfl) (Mw.p rfl rfl (fun _ => R.pk b rfl (v := vB (!Op.bytesLess O.Name x.Name)) rfl) (Mw.nil ((ag) ⟨(!Op.bytesLess O.Name x.Name), N, rfl, ((h.j i).j D).w, rfl, hm⟩)))))))))
      ·exact dps 9 a rfl (Wp b rfl (fun _ => R.pk a rfl (v := vB false) rfl) (Mw.p rfl rfl (fun _ => R.pk b rfl (v := vB false) rfl) (Mw.nil ((ag) ⟨false, N, rfl, ((h.j i).j D).w, rfl, hm⟩))))
  ·refine Cw.exit ?_
   rw [aj] at hm
   exact sr (Nb rfl (.ret (rt hm A)))
theorem p40 {x0 a b x1 d r} (f : Rd W K [a, b] x0) (h : Rd W K [d] x1) (hm : Vm.zd1 x0 x1 = some r) : Q1 40 [.agg [a, b].toArray, d] W [] fun W' v => v = vB r :=
 (c40 (f.view _) (h.view _) hm).ad (fk 0) fun _ _ e => e
theorem c18 {x0 aa ac r} (h0 : Rd W0 [0] [aa, ac] x0) (ae : Gl 0 W0 [0]) (hm : Vm.zeC x0 = some r) : Q0 18 [.agg [aa, ac].toArray] W0 fun Wf v => v = vB r := by
 unfold Vm.zeC at hm
 obtain ⟨b7, b8, af, C, ah⟩ := Repo.split h0
 simp only [List.cons.injEq, and_true, true_and] at af
 obtain ⟨rfl, rfl⟩ := af
 refine zap.of Tryz.func18 rfl rfl rfl rfl (sr (bo 2 rfl fun g1 W1 l1 G => ?_))
 have H := l1.o
 refine Nb rfl (ssr (fl G rfl (Lw.ln x0.Commits (C.ul H) rfl (Lw.gt rfl (nl (cn hm (fun hm => ?_) fun hm => ?_))))))
 ·exact sr (Nb rfl (.ret (rt hm H)))
 ·refine sk (ssr (fl G rfl (Lw.ln x0.Commits (C.ul H) rfl (mi rfl (nl (Cw.block ?_))))))
  obtain ⟨a9, ba, hm⟩ := za1 hm
  refine Cw.loop 14 65 [2, 3, 4, 6, 14] (fun m l w => ∃ I B j6 j7 P Q, CW.w Q = w ∧ Le [3] W1 Q ∧ l = [vB I, j6, j7, P, vI B] ∧ Vm.zb6 x0 a9 m I B = some r) _ ⟨false, 0, undef, undef, undef, W1, rfl, Le.refl _ _, rfl, hm⟩ ?_
  rintro (_ | cb) _ _ σ ⟨I, B, j6, j7, P, Q, rfl, l10, rfl, hm⟩
  ·cases hm
  unfold Vm.zb6 at hm
  have d := H.t l10
  refine sr (Lw.lt rfl (nl (Cw.seq (cn hm (fun hm => ?_) fun hm => ?_))))
  ·refine sk (Cw.seq (Cw.block (sr (mi rfl ?_))))
   obtain ⟨A, am, hm⟩ := ob hm
   refine Lw.r rfl (R.ix (α := Commit) (C.ul d) am rfl rfl rfl) ?_
   obtain ⟨x19, c20, _, r21⟩ := ((C.ul d).at_ am).cells
   obtain ⟨S, an, rfl, r23, r25⟩ := Commit.split r21
   refine Lw.r rfl (R.lda c20 rfl rfl) (al 3 [.slice none 0 0, vS ([] : Str), .slice none 0 0] fun bb cc ao bc => ?_)
   have e := ao.o
   refine Gi rfl (sta bc (zaa r23.oc (zaa rfl (zaa r25.oc zaw))) fun be ap aq => ?_)
   have f := ap.s
   refine nl (Cw.seq ?_)
   obtain ⟨bg, bh, hm⟩ := za1 hm
   refine Cw.join 19 51 [51] (fun l w => ∃ U D, CW.w D = w ∧ Le [] be D ∧ l = [vB U] ∧ bg U = some r) ?_ ?_
   ·rintro _ _ σ ⟨U, D, rfl, V, rfl, hm⟩
    rw [bh] at hm
    have J := V.o
    refine cn hm (fun hm => ?_) fun hm => ?_
    ·exact sr (Nb rfl (.ret (rt hm (((d.trans e).trans f).trans J))))
    ·refine sk (sr (fl (aq.up V) rfl (Lw.ln A.Parents (r23.ul ((e.trans f).trans J)) rfl (mi rfl (nl (Cw.block ?_))))))
     obtain ⟨bi, bj, hm⟩ := za1 hm
     refine Cw.loop 55 64 [2, 6, 55] (fun m l w => ∃ E L W M, CW.w M = w ∧ Le [] D M ∧ l = [vB E, W, vI L] ∧ Vm.zbm B A bi m E L = some r) _ ⟨I, 0, P, D, rfl, Le.refl _ _, rfl, hm⟩ ?_
     rintro (_ | cd) _ _ σ ⟨E, L, W, M, rfl, X, rfl, hm⟩
     ·cases hm
     unfold Vm.zbm at hm
     have ar := X.o
     refine sr (Lw.lt rfl (nl (Cw.seq (cn hm (fun hm => ?_) fun hm => ?_))))
     ·refine sk (Cw.seq (Cw.block (sr ?_)))
      obtain ⟨bk, au, hm⟩ := ob hm
      have av := r23.ul (((e.trans f).trans J).trans ar)
      refine Lw.r rfl (R.ix (α := Int) av au rfl rfl rfl) (Lw.r rfl (R.ld rfl rfl (av.at_ au).int) (Ni rfl (sr (mi rfl (mi rfl (Lw.sub rfl (ca hm (fun _ => p29) fun ce bl hm aw => ?_)))))))
      have bm := ((((d.trans e).trans f).trans J).trans ar).n aw
      refine Lw.r rfl (R.not rfl) (nl (cn hm (fun hm => ?_) fun hm => ?_))
      ·exact sr (Nb rfl (.ret (rt hm bm)))
      ·exact sk (rg (Lw.add rfl (mi rfl (nl ((agm) ⟨E, w64 (L + 1), vI bk, bl, rfl, (X.j aw).w, rfl, hm⟩)))))
     ·refine Cw.exit ?_
      rw [bj] at hm
      exact rg (Lw.add rfl (mi rfl (nl ((agm) ⟨E, w64 (B + 1), vI B, ptr (bx bb), W, M, rfl, ((((l10.j ao).j ap).j V).j X).w, rfl, hm⟩))))
   ·refine Cw.draw [] [(0, 0), (1, 1), (2, 0), (3, 0), (4, 0), (5, 0), (6, 1), (7, 0), (8, 0), (9, 0), (10, 0), (11, 1), (12, 0), (13, 1), (14, 0), (15, 1), (16, 0), (17, 1), (18, 0), (19, 0), (20, 0), (21, 0), (22, 0), (23, 1), (24, 2), (25, 0), (26, 0), (27, 0), (28, 0), (29, 1), (30, 2), (31, 0), (32, 0)] mixed (by kernel_rfl) fun ax h => ?_
    have F := h.o
    have i := aq.up h
    have k := r23.ul ((e.trans f).trans F)
    refine Dfl i rfl rfl rfl (Mw.p rfl rfl (fun _ => zpF (xs := A.Parents) k rfl) (Mw.p rfl rfl (fun _ => R.gt rfl rfl) (Db rfl (bs hm (fun a hm => ?_) fun a hm => ?_))))
    ·exact dps 5 a rfl (dpu 9 rfl (dps 1 a rfl (Mw.p rfl rfl (fun _ => R.pk a rfl (v := vB true) rfl) (Db rfl (dps 4 rfl rfl (Mw.p rfl rfl (fun _ => R.pk rfl rfl (v := vB true) rfl) (Db rfl (dps 4 rfl rfl (Mw.p rfl rfl (fun _ => R.pk rfl rfl (v := vB true) rfl) (Mw.nil ((ag) ⟨true, ax, rfl, h, rfl, hm⟩)))))))))))
    ·refine Wp a rfl (fun _ => R.fa rfl) (Wq a rfl (fun _ c => R.ld (v := S) rfl rfl (i.clc rfl rfl c)) (Wp a rfl (fun _ => zpF (xs := A.Parents) k rfl) (Wp a rfl (fun _ => R.eq rfl rfl) (Wp a rfl (fun _ => R.mv (v := vB (((A.Parents.length : Int) : Int) == (2 : Int))) rfl) (bs hm (fun b hm => ?_) fun b hm => ?_)))))
     ·refine Wp b rfl (fun _ => R.fa rfl) (Wq b rfl (fun _ c => R.ld (v := S) rfl rfl (i.clc rfl rfl c)) ?_)
      obtain ⟨ay, Y, hm⟩ := ob hm
      refine Wp b rfl (fun _ => R.ix (α := Int) k Y rfl rfl rfl) (Wq b rfl (fun _ c => R.ld rfl rfl (zam (k.at_ Y).1 rfl (k.at_ Y).int c)) (Wp b rfl (fun _ => R.fa rfl) (Wq b rfl (fun _ c => R.ld (v := S) rfl rfl (i.clc rfl rfl c)) ?_)))
      obtain ⟨az, Z, hm⟩ := ob hm
      refine Wp b rfl (fun _ => R.ix (α := Int) k Z rfl rfl rfl) (Wq b rfl (fun _ c => R.ld rfl rfl (zam (k.at_ Z).1 rfl (k.at_ Z).int c)) (Wp b rfl (fun _ => R.eq rfl rfl) (Wp a rfl (fun _ => R.pk b rfl (v := vB ((ay : Int) == (az : Int))) rfl) (Mw.p rfl rfl (fun _ => R.pk a rfl (v := vB ((ay : Int) == (az : Int))) rfl) (Db rfl (bs hm (fun x hm => ?_) fun x hm => ?_))))))
      ·exact dps 4 x rfl (Mw.p rfl rfl (fun _ => R.pk x rfl (v := vB true) rfl) (Db rfl (dps 4 rfl rfl (Mw.p rfl rfl (fun _ => R.pk rfl rfl (v := vB true) rfl) (Mw.nil ((ag) ⟨true, ax, rfl, h, rfl, hm⟩))))))
      ·refine Wp x rfl (fun _ => R.fa rfl) (Wq x rfl (fun _ c => R.ld (v := vS A.Who) rfl rfl (i.clc rfl rfl c)) ?_)
       obtain ⟨bn, bp, hm⟩ := ob hm
       refine Wt x rfl (T.call rfl (p38   bp)) ?_
       rintro _ _ ⟨bq, rfl, N, rfl⟩
       have a0 := N.o
       refine m0 N fun br => Wp x rfl (fun _ => R.not rfl) (Mw.p rfl rfl (fun _ => R.pk x rfl (v := vB (!bn)) rfl) (Db rfl (bs hm (fun y hm => ?_) fun y hm => ?_)))
       ·exact dps 4 y rfl (Mw.p rfl rfl (fun _ => R.pk y rfl (v := vB true) rfl) (Mw.nil ((ag) ⟨true, bq, rfl, (h.j N).w, rfl, hm⟩)))
       ·refine Wp y rfl (fun _ => R.fa rfl) (Wq y rfl (fun _ c => R.ld (v := an) rfl rfl (i.clc rfl rfl c)) ?_)
        obtain ⟨a1, bu, hm⟩ := ob hm
        refine Wt y rfl (T.call rfl (p39  (r25.ul (((e.trans f).trans F).trans a0)) (ae.ul ((((d.trans e).trans f).trans F).trans a0)) bu)) ?_
        rintro _ _ ⟨bv, rfl, a3, rfl⟩
        exact mc br a3 fun cf => Wp y rfl (fun _ => R.not rfl) (Mw.p rfl rfl (fun _ => R.pk y rfl (v := vB (!a1)) rfl) (Mw.nil ((ag) ⟨(!a1), bv, rfl, ((h.j N).j a3).w, rfl, hm⟩)))
     ·refine dps 9 b rfl (Wp a rfl (fun _ => R.pk b rfl (v := vB false) rfl) (Mw.p rfl rfl (fun _ => R.pk a rfl (v := vB false) rfl) (Db rfl (Wp rfl rfl (fun _ => R.fa rfl) (Wq rfl rfl (fun _ c => R.ld (v := vS A.Who) rfl rfl (i.clc rfl rfl c)) ?_)))))
      obtain ⟨bw, bz, hm⟩ := ob hm
      refine Wt rfl rfl (T.call rfl (p38   bz)) ?_
      rintro _ _ ⟨b0, rfl, O, rfl⟩
      have a4 := O.o
      refine m0 O fun b2 => Wp rfl rfl (fun _ => R.not rfl) (Mw.p rfl rfl (fun _ => R.pk rfl rfl (v := vB (!bw)) rfl) (Db rfl (bs hm (fun z hm => ?_) fun z hm => ?_)))
      ·exact dps 4 z rfl (Mw.p rfl rfl (fun _ => R.pk z rfl (v := vB true) rfl) (Mw.nil ((ag) ⟨true, b0, rfl, (h.j O).w, rfl, hm⟩)))
      ·refine Wp z rfl (fun _ => R.fa rfl) (Wq z rfl (fun _ c => R.ld (v := an) rfl rfl (i.clc rfl rfl c)) ?_)
       obtain ⟨a5, b3, hm⟩ := ob hm
       refine Wt z rfl (T.call rfl (p39  (r25.ul (((e.trans f).trans F).trans a4)) (ae.ul ((((d.trans e).trans f).trans F).trans a4)) b3)) ?_
       rintro _ _ ⟨b4, rfl, a6, rfl⟩
       exact mc b2 a6 fun cg => Wp z rfl (fun _ => R.not rfl) (Mw.p rfl rfl (fun _ => R.pk z rfl (v := vB (!a5)) rfl) (Mw.nil ((ag) ⟨(!a5), b4, rfl, ((h.j O).j a6).w, rfl, hm⟩)))
  ·refine Cw.exit ?_
   rw [ba] at hm
   refine sr (la (G.up l10) (fl (G.up l10) rfl (ca hm (fun _ => p40 (Repo.rd (K := [0]) x0.Commits x0.Heads (C.ul d) (ah.ul d)) (ah.ul d)) fun ch ci hm b5 => ?_)))
   have b6 := d.n b5
   exact Nb rfl (.ret (rt hm b6))
theorem p18 {x0 a b r} (d : Rd W K [a, b] x0) (f : Gl 0 W K) (hm : Vm.zeC x0 = some r) : Q1 18 [.agg [a, b].toArray] W [] fun W' v => v = vB r :=
 (c18 (d.view _) (f.view _) hm).ad (fk 0) fun _ _ e => e
theorem c21 {x0 b x1 f r} (d : Rd W0 [0] [b] x0) (h : Rd W0 [0] [f] x1) (hm : Vm.zaE x0 x1 = some r) : Q0 21 [b, f] W0 fun Wf v => v = vB r := by
 unfold Vm.zaE at hm
 refine zap.of Tryz.func21 rfl rfl rfl rfl (sr (Nb rfl (ssr (mv b rfl (Lw.ln x0 d rfl (mv f rfl (Lw.ln x1 h rfl (Lw.ne rfl (nl (cn hm (fun hm => ?_) fun hm => ?_))))))))))
 ·exact sr (Nb rfl (.ret (rt hm (Le.refl _ _))))
 ·refine sk (ssr (mv b rfl (Lw.ln x0 d rfl (mi rfl (nl (Cw.block ?_))))))
  obtain ⟨C, D, hm⟩ := za1 hm
  refine Cw.loop 13 25 [4, 5, 13] (fun m l w => ∃ i e z k, CW.w k = w ∧ Le [] W0 k ∧ l = [vB i, z, vI e] ∧ Vm.zaq x0 x1 C m i e = some r) _ ⟨false, 0, undef, W0, rfl, Le.refl _ _, rfl, hm⟩ ?_
  rintro (_ | F) _ _ σ ⟨i, e, z, k, rfl, A, rfl, hm⟩
  ·cases hm
  unfold Vm.zaq at hm
  have B := A.o
  refine sr (Lw.lt rfl (nl (Cw.seq (cn hm (fun hm => ?_) fun hm => ?_))))
  ·refine sk (Cw.seq (Cw.block (sr (mi rfl (Ni rfl (Cw.seq (Cw.draw [] [(0, 0), (1, 0), (2, 0), (3, 1), (4, 0), (5, 0), (6, 0), (7, 1), (8, 0)] mixed (by kernel_rfl) fun E l10 => ?_)))))))
   have a := B.n l10
   refine Dv b rfl (Di rfl ?_)
   obtain ⟨G, x, hm⟩ := ob hm
   refine Mw.p rfl rfl (fun _ => R.ix (α := Str) (d.ul a) x rfl rfl rfl) (Mw.q rfl rfl (fun _ c => R.ld rfl rfl (zam ((d.ul a).at_ x).1 rfl ((d.ul a).at_ x).str c)) (Dv f rfl (Di rfl ?_)))
   obtain ⟨H, y, hm⟩ := ob hm
   refine Mw.p rfl rfl (fun _ => R.ix (α := Str) (h.ul a) y rfl rfl rfl) (Mw.q rfl rfl (fun _ c => R.ld rfl rfl (zam ((h.ul a).at_ y).1 rfl ((h.ul a).at_ y).str c)) (Mw.p rfl rfl (fun _ => R.sne rfl rfl) (Mw.nil (cn hm (fun hm => ?_) fun hm => ?_))))
   ·exact sr (Nb rfl (.ret (rt hm a)))
   ·exact sk (rg (Lw.add rfl (mi rfl (nl ((agm) ⟨i, w64 (e + 1), vI e, E, rfl, (A.j l10).w, rfl, hm⟩)))))
  ·refine Cw.exit ?_
   rw [D] at hm
   exact sr (Nb rfl (.ret (rt hm B)))
theorem p21 {x0 a x1 b r} (d : Rd W K [a] x0) (f : Rd W K [b] x1) (hm : Vm.zaE x0 x1 = some r) : Q1 21 [a, b] W [] fun W' v => v = vB r :=
 (c21 (d.view _) (f.view _) hm).ad (fk 0) fun _ _ e => e
theorem c20 {x0 b x1 d a r} (f : Rd W0 [0] [b] x0) (hB1 : Bx W0 2 d [vS x1.Path, a]) (h : Rd W0 [0] [a] x1.Text) (hm : Vm.zbP x0 x1 = some r) : Q0 20 [b, ptr (bx d)] W0 fun Wf v => v = vB r ∧ Bx Wf 2 d [vS x1.Path, a] := by
 unfold Vm.zbP at hm
 refine zap.of Tryz.func20 rfl rfl rfl rfl (sr (Nb rfl (sr (mv b rfl (Lw.fa rfl (Lw.r rfl (R.ld (v := a) rfl rfl (hB1.cell rfl)) (ca hm (fun _ => p21 f h) fun x y hm e => ?_)))))))
 have i := e.o
 have k := hB1.up e
 refine Nb rfl ?_
 cases hm
 exact Cw.ret (zhh rfl (Res.mk i ⟨rfl, k⟩))
theorem p20 {x0 d x1 a b c0 r} (f : Rd W K [d] x0) (hB1 : Bx W c0 a [vS x1.Path, b]) (h : Rd W K [b] x1.Text) (hJ : okJ K [c0] = true) (hm : Vm.zbP x0 x1 = some r) : Q1 20 [d, ptr (bx a)] W [c0] fun W' v => v = vB r ∧ Bx W' c0 a [vS x1.Path, b] :=
 zap.adJ (J := [c0]) (fun c => bif Nat.beq c 0 then 0 else bif Nat.beq c 2 then c0 else 0) (c20 (f.view _) (hB1.viewJ 0 hJ) (h.view _) hm) fun _ _ ⟨e, i⟩ => ⟨e, Bx.backJ 0 i rfl⟩
theorem c22 {x0 a r} (f : Rd W0 [0] [a] x0) (hm : Vm.zdw x0 = some r) : Q0 22 [a] W0 fun Wf v => ∃ b, v = b ∧ OwS Wf LL [] [b] r := by
 unfold Vm.zdw at hm
 refine zap.of Tryz.func22 rfl rfl rfl rfl (sr (Nv (.slice none 0 0) rfl (sr (Lw.t rfl (T.lit0 (α := Str) 2 []) ?_))))
 rintro A _ ⟨B, rfl, h, i⟩
 have d := h.o
 refine mv a rfl ?_
 obtain ⟨C, k, hm⟩ := ob hm
 refine Lw.t rfl (T.appP (α := Str) i (f.ul d) rfl rfl k) ?_
 rintro e _ ⟨D, rfl, x, y⟩
 have z := d.t x
 refine Nv e rfl ?_
 cases hm
 exact Cw.ret (zhh rfl (Res.mk z ⟨e, rfl, y.s.sub rfl rfl⟩))
theorem p22 {x0 b k0 r} (d : Rd W K [b] x0) (hm : Vm.zdw x0 = some r) : Q1 22 [b] W [] fun W' v => ∃ a, v = a ∧ Ow W' k0 [] [a] r :=
 (c22 (d.view _) hm).ad (fk k0) fun _ _ ⟨a, e, f⟩ => ⟨a, e, f.back (zhf _)⟩
theorem c41_20 {x0 e x2 a f r} (k : Rd W0 [0] [e] x0) (hB2 : Bx W0 2 a [vS x2.Path, f]) (D : Rd W0 [0] [f] x2.Text) (hm : Vm.zan x0 x2 = some r) : Q0 41 [e, .func (.func 20) #[] [ptr (bx a)].toArray] W0 fun Wf v => v = vI r ∧ Bx Wf 2 a [vS x2.Path, f] := by
 unfold Vm.zan at hm
 refine zap.of Tryz.func41 rfl rfl rfl rfl (sr (Ni rfl (ssr (mv e rfl (Lw.ln x0 k rfl (mi rfl (nl (Cw.block ?_))))))))
 obtain ⟨E, F, hm⟩ := za1 hm
 refine Cw.loop 8 18 [4, 5, 8] (fun m l w => ∃ h b x i, CW.w i = w ∧ Le [2] W0 i ∧ l = [vI h, x, vI b] ∧ Bx i 2 a [vS x2.Path, f] ∧ Vm.zab x0 x2 E m h b = some r) _ ⟨0, 0, undef, W0, rfl, Le.refl _ _, rfl, hB2, hm⟩ ?_
 rintro (_ | K) _ _ σ ⟨h, b, x, i, rfl, y, rfl, z, hm⟩
 ·cases hm
 unfold Vm.zab at hm
 have d := y.s
 refine sr (Lw.lt rfl (nl (Cw.seq (cn hm (fun hm => ?_) fun hm => ?_))))
 ·refine sk (Cw.seq (Cw.block (sr (mi rfl (Ni rfl (sr (mv (.func (.func 20) #[] [ptr (bx a)].toArray) rfl (mv e rfl (mi rfl ?_)))))))))
  obtain ⟨L, A, hm⟩ := ob hm
  refine Lw.r rfl (R.ix (α := List Str) (k.ul d) A rfl rfl rfl) ?_
  obtain ⟨G, c14, r15⟩ := ((k.ul d).at_ A).cell rfl
  refine Lw.r rfl (R.ld rfl rfl c14) ?_
  obtain ⟨M, H, hm⟩ := ob hm
  refine Lw.t rfl (T.callV (vals := [G]) (caps := [ptr (bx a)]) rfl rfl (p20  (c0 := 2) (x1 := (Vm.File.mk x2.Path x2.Text)) r15 z (D.ul d) rfl H)) ?_
  rintro _ _ ⟨I, rfl, B, ⟨rfl, C⟩⟩
  have J := d.t B
  refine nl (cn hm (fun hm => ?_) fun hm => ?_)
  ·refine sr (mi rfl (Ni rfl ?_))
   cases hm
   exact Cw.ret (zhh rfl (Res.mk J ⟨rfl, C⟩))
  ·exact sk (rg (Lw.add rfl (mi rfl (nl ((agm) ⟨h, w64 (b + 1), vI b, I, rfl, (y.j B).w, rfl, C, hm⟩)))))
 ·refine Cw.exit ?_
  rw [F] at hm
  refine sr (Ni rfl ?_)
  cases hm
  exact Cw.ret (zhh rfl (Res.mk d ⟨rfl, z⟩))
theorem p41_20 {x0 d x2 a b c0 r} (f : Rd W K [d] x0) (hB2 : Bx W c0 a [vS x2.Path, b]) (h : Rd W K [b] x2.Text) (hJ : okJ K [c0] = true) (hm : Vm.zan x0 x2 = some r) : Q1 41 [d, .func (.func 20) #[] [ptr (bx a)].toArray] W [c0] fun W' v => v = vI r ∧ Bx W' c0 a [vS x2.Path, b] :=
 zap.adJ (J := [c0]) (fun c => bif Nat.beq c 0 then 0 else bif Nat.beq c 2 then c0 else 0) (c41_20 (f.view _) (hB2.viewJ 0 hJ) (h.view _) hm) fun _ _ ⟨e, i⟩ => ⟨e, Bx.backJ 0 i rfl⟩
theorem c19_20 {x0 b x2 a d r} (e : Rd W0 [0] [b] x0) (hB2 : Bx W0 2 a [vS x2.Path, d]) (f : Rd W0 [0] [d] x2.Text) (hm : Vm.zad x0 x2 = some r) : Q0 19 [b, .func (.func 20) #[] [ptr (bx a)].toArray] W0 fun Wf v => v = vB r ∧ Bx Wf 2 a [vS x2.Path, d] := by
 unfold Vm.zad at hm
 refine zap.of Tryz.func19 rfl rfl rfl rfl (sr (Nb rfl (sr (mv b rfl (mv (.func (.func 20) #[] [ptr (bx a)].toArray) rfl (cr hm (fun _ => p41_20 (c0 := 2) (x2 := x2) e hB2 f rfl) ?_))))))
 rintro x _ y hm h ⟨rfl, i⟩
 have k := h.s
 refine Lw.ge rfl (Nb rfl ?_)
 cases hm
 exact Cw.ret (zhh rfl (Res.mk k ⟨rfl, i⟩))
theorem p19_20 {x0 d x2 a b c0 r} (f : Rd W K [d] x0) (hB2 : Bx W c0 a [vS x2.Path, b]) (h : Rd W K [b] x2.Text) (hJ : okJ K [c0] = true) (hm : Vm.zad x0 x2 = some r) : Q1 19 [d, .func (.func 20) #[] [ptr (bx a)].toArray] W [c0] fun W' v => v = vB r ∧ Bx W' c0 a [vS x2.Path, b] :=
 zap.adJ (J := [c0]) (fun c => bif Nat.beq c 0 then 0 else bif Nat.beq c 2 then c0 else 0) (c19_20 (f.view _) (hB2.viewJ 0 hJ) (h.view _) hm) fun _ _ ⟨e, i⟩ => ⟨e, Bx.backJ 0 i rfl⟩
theorem c6 {x0 X Y r} (h0 : Rd W0 [0] [X, Y] x0) (ay : Gl 0 W0 [0]) (hm : Vm.zbn x0 = some r) : Q0 6 [.agg [X, Y].toArray] W0 fun Wf v => ∃ Z, v = .tuple [Z, vB r.2].toArray ∧ OwS Wf LL [] [Z] r.1 := by
 unfold Vm.zbn at hm
 obtain ⟨b0, b2, aa, k, az⟩ := Repo.split h0
 simp only [List.cons.injEq, and_true, true_and] at aa
 obtain ⟨rfl, rfl⟩ := aa
 refine zap.of Tryz.func6 rfl rfl rfl rfl (sr (bo 2 rfl fun g1 W1 l1 b1 => ?_))
 have x := l1.o
 refine Gv (.slice none 0 0) rfl (Nb rfl (ssr (la b1 (ca hm (fun _ => p18 (Repo.rd (K := [0]) x0.Commits x0.Heads (k.ul x) (az.ul x)) (ay.ul x)) fun z6 W8 hm l8 => ?_))))
 have G := x.n l8
 refine Lw.r rfl (R.not rfl) (nl (cn hm (fun hm => ?_) fun hm => ?_))
 ·refine sr (Gv (.slice none 0 0) rfl (Nb rfl ?_))
  cases hm
  exact Cw.ret (zis rfl rfl (Res.mk G ⟨.slice none 0 0, rfl, (zmA []).sub rfl rfl⟩))
 ·refine sk (sr (Nv (.slice none 0 0) rfl (ssr (fl (b1.up l8) rfl (Lw.ln x0.Commits (k.ul G) rfl (mi rfl (nl (Cw.block ?_))))))))
  obtain ⟨a1, a3, hm⟩ := za1 hm
  refine Cw.loop 15 37 [4, 6, 8, 15] (fun m l w => ∃ e y a ah H z, CW.w z = w ∧ Le [3, 4, 5, 6] W8 z ∧ l = [a, ah, H, vI y] ∧ Ow z 3 [] [a] e ∧ Vm.zba x0 a1 m e y = some r) _ ⟨([] : List (List Str)), 0, .slice none 0 0, undef, undef, W8, rfl, Le.refl _ _, rfl, owN 3 [], hm⟩ ?_
  rintro (_ | b6) _ _ σ ⟨e, y, a, ah, H, z, rfl, ai, rfl, I, hm⟩
  ·cases hm
  unfold Vm.zba at hm
  have A := G.t ai
  refine sr (Lw.lt rfl (nl (Cw.seq (cn hm (fun hm => ?_) fun hm => ?_))))
  ·refine sk (Cw.seq (Cw.block (sr ?_)))
   obtain ⟨aj, ak, hm⟩ := ob hm
   refine Lw.r rfl (R.ix (α := Commit) (k.ul A) ak rfl rfl rfl) ?_
   obtain ⟨x28, c29, _, r30⟩ := ((k.ul A).at_ ak).cells
   obtain ⟨b7, b8, rfl, r32, r34⟩ := Commit.split r30
   refine Lw.r rfl (R.lda c29 rfl rfl) (al 4 [.slice none 0 0, vS ([] : Str), .slice none 0 0] fun a4 b9 L a5 => ?_)
   have a6 := L.o
   refine sta a5 (zaa r32.oc (zaa rfl (zaa r34.oc zaw))) fun am N a7 => ?_
   have an := a6.t N
   refine nl (sr (fl a7 rfl (Lw.ln aj.Tree (r34.ul an) rfl (mi rfl (nl (Cw.block ?_))))))
   obtain ⟨a8, ba, hm⟩ := za1 hm
   refine Cw.loop 22 36 [4, 8, 22] (fun m l w => ∃ f B b O d, CW.w d = w ∧ Le [3, 5, 6] am d ∧ l = [b, O, vI B] ∧ Ow d 3 [] [b] f ∧ Vm.zaU aj a8 m f B = some r) _ ⟨e, 0, a, H, am, rfl, Le.refl _ _, rfl, ((I.up L).up N), hm⟩ ?_
   rintro (_ | cb) _ _ σ ⟨f, B, b, O, d, rfl, P, rfl, ao, hm⟩
   ·cases hm
   unfold Vm.zaU at hm
   have ap := an.t P
   refine sr (Lw.lt rfl (nl (Cw.seq (cn hm (fun hm => ?_) fun hm => ?_))))
   ·refine sk ?_
    obtain ⟨bb, bc, hm⟩ := za1 hm
    refine Cw.join 24 35 [4, 8] (fun l w => ∃ C D Q h, CW.w h = w ∧ Le [3, 5, 6] d h ∧ l = [D, Q] ∧ Ow h 3 [] [D] C ∧ bb C = some r) ?_ ?_
    ·rintro _ _ σ ⟨C, D, Q, h, rfl, be, rfl, bg, hm⟩
     rw [bc] at hm
     exact rg (Lw.add rfl (mi rfl (nl ((agm) ⟨C, w64 (B + 1), D, Q, h, rfl, (P.j be).w, rfl, bg, hm⟩))))
    ·refine Cw.block (sr ?_)
     obtain ⟨bh, aq, hm⟩ := ob hm
     refine Lw.r rfl (R.ix (α := File) (r34.ul ap) aq rfl rfl rfl) ?_
     obtain ⟨x68, c69, _, r70⟩ := ((r34.ul ap).at_ aq).cells
     obtain ⟨bi, rfl, r72⟩ := File.split r70
     refine Lw.r rfl (R.lda c69 rfl rfl) (al 5 [vS ([] : Str), .slice none 0 0] fun S cc E bj => ?_)
     have bk := E.o
     refine sta bj (zaa rfl (zaa r72.oc zaw)) fun cd F bl => ?_
     have ar := bk.t F
     have U := (ao.up E).up F
     refine nl (sr (mv b rfl (Lw.r rfl (R.mkF (vs := [ptr (bx S)]) rfl) (cr hm (fun _ => p19_20 (K := [0, 3]) (c0 := 5) (x2 := bh) (U.rd.sub (M := [0, 3]) rfl) bl ((r72.ul ar).sub (M := [0, 3]) rfl) rfl) ?_))))
     rintro ce _ bm hm i ⟨rfl, bn⟩
     have bp := ar.t i
     refine Lw.r rfl (R.not rfl) (nl (cn hm (fun hm => ?_) fun hm => ?_))
     ·refine rg (mv b rfl (Lw.fa rfl (Lw.r rfl (R.ld (v := bi) rfl rfl (bn.cell rfl)) (cr hm (fun _ => p22 (k0 := 6) (r72.ul bp)) ?_))))
      rintro cf au cg hm av ⟨_, rfl, V⟩
      refine Lw.t rfl (T.bs 7 [au] (cs := [au]) (bsc V.oc) rfl (bsv V.oc)) ?_
      rintro _ _ ⟨ch, ci, rfl, rfl, W, bq⟩
      obtain ⟨br, bu, hm⟩ := ob hm
      refine Lw.t rfl (T.app1 (α := List Str) (J := [6]) (K' := []) (((U.up i).up av).up W) bq (V.up W).s rfl rfl bu) ?_
      rintro aw _ ⟨bv, rfl, bw, bz⟩
      exact Nv aw rfl ((ag) ⟨br, aw, ptr (bx S), bv, rfl, (((((E.j F).j i).j av).j W).j bw).w, rfl, bz, hm⟩)
     ·exact sk ((ag) ⟨f, b, ptr (bx S), bm, rfl, ((E.j F).j i).w, rfl, (U.up i), hm⟩)
   ·refine Cw.exit ?_
    rw [ba] at hm
    exact rg (Lw.add rfl (mi rfl (nl ((agm) ⟨f, w64 (y + 1), b, ptr (bx a4), O, d, rfl, (((ai.j L).j N).j P).w, rfl, ao, hm⟩))))
  ·refine Cw.exit ?_
   rw [a3] at hm
   refine ssr (mv a rfl (Lw.ln e I.rd rfl (Lw.gt rfl (nl (cn hm (fun hm => ?_) fun hm => ?_)))))
   ·refine sr (Gv (.slice none 0 0) rfl (Nb rfl ?_))
    cases hm
    exact Cw.ret (zis rfl rfl (Res.mk A ⟨.slice none 0 0, rfl, (zmA []).sub rfl rfl⟩))
   ·refine sk (sr (mv a rfl (Gv a rfl (Nb rfl ?_))))
    cases hm
    exact Cw.ret (zis rfl rfl (Res.mk A ⟨a, rfl, I.s.sub rfl rfl⟩))
theorem p6 {x0 b d k0 r} (f : Rd W K [b, d] x0) (h : Gl 0 W K) (hm : Vm.zbn x0 = some r) : Q1 6 [.agg [b, d].toArray] W [] fun W' v => ∃ a, v = .tuple [a, vB r.2].toArray ∧ Ow W' k0 [] [a] r.1 :=
 (c6 (f.view _) (h.view _) hm).ad (fk k0) fun _ _ ⟨a, e, i⟩ => ⟨a, e, i.back (zhf _)⟩
end Go.Sx
