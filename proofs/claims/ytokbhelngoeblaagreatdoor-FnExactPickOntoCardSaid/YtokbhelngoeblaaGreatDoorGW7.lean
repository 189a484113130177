/- Walks: each function answers as its model, printed by a program of ours. Conditions: the arguments read as they are given. -/
import Derived.Test.YtokbhelngoeblaaGreatDoorGTs
import Derived.Test.YtokbhelngoeblaaGreatDoorGM1
import Derived.Test.YtokbhelngoeblaaGreatDoorGW1
import Derived.Test.YtokbhelngoeblaaGreatDoorGW2
import Derived.Test.YtokbhelngoeblaaGreatDoorGW6
import Derived.Test.YtokbhelngoeblaaGreatDoorGE
namespace Go.Sx
open Go Go.Proofs Go.Vm Rp
set_option linter.unusedVariables false
set_option linter.unusedSimpArgs false
variable {W W0 : CW} {K : List Nat}
theorem c68 {x0 k x x1 x2 r} (aj : Ow W0 2 [] [k] x0.Commits) (ak : Ow W0 3 [] [x] x0.Heads) (hm : Vm.zbs x0 x1 x2 = some r) : Q0 68 [.agg [k, x].toArray, vS x1, vI x2] W0 fun Wf v => ∃ U V, v = .agg [U, V].toArray ∧ OwS Wf [31] [] [U] r.Commits ∧ OwS Wf [32] [] [V] r.Heads := by
 unfold Vm.zbs at hm
 refine zaj.of Tryz.func68 rfl rfl rfl rfl (sr (bo 4 rfl fun g1 W1 F W => ?_))
 have a2 := F.o
 refine al 5 [.slice none 0 0, .slice none 0 0] fun g5 X d b5 => ?_
 have a6 := a2.n d
 have Y := (ak.up F).up d
 refine nl (ssr (fl (W.up d) rfl (Lw.ln x0.Heads Y.rd rfl (mi rfl (nl (Cw.block ?_))))))
 obtain ⟨aq, ar, hm⟩ := zaS hm
 refine Cw.loop 11 29 [7, 11] (fun m l w => ∃ e y z A Z B C a, CW.w a = w ∧ Le [] X a ∧ l = [Z, vI e] ∧ Ow a 6 [] [B] y ∧ Ow a 7 [] [C] z ∧ Bx a 5 g5 [B, C] ∧ Ow a 3 [] [x] A ∧ Vm.za3 x0 x1 x2 aq m e y z A = some r) _ ⟨0, ([] : List Commit), ([] : List Head), x0.Heads, undef, .slice none 0 0, .slice none 0 0, X, rfl, Le.refl _ _, rfl, owN 6 [], owN 7 [], b5, Y, hm⟩ ?_
 rintro (_ | bn) _ _ σ ⟨e, y, z, A, Z, B, C, a, rfl, D, rfl, au, av, G, b, hm⟩
 ·cases hm
 unfold Vm.za3 at hm
 have aa := a6.n D
 have H := ((aj.up F).up d).up D
 have f := (W.up d).up D
 refine sr (Lw.lt rfl (nl (Cw.seq (cn hm (fun hm => ?_) fun hm => ?_))))
 ·refine sk (Cw.seq (Cw.block (sr (mi rfl (Ni rfl (sr (fl f rfl (mi rfl ?_))))))))
  obtain ⟨bp, ac, hm⟩ := ob hm
  refine Lw.r rfl (R.ix (α := Head) b.rd ac rfl rfl rfl) (Lw.fa rfl (Lw.r rfl (R.ld rfl rfl (Head.at0 (b.rd.at_ ac)).str) (ms rfl (Lw.seq rfl (nl (cn hm (fun hm => ?_) fun hm => ?_))))))
  ·refine sr (fl f rfl (mi rfl (mi rfl ?_)))
   obtain ⟨bq, ae, hm⟩ := ob hm
   refine Lw.r rfl (R.ix (α := Head) b.rd ae rfl rfl rfl) (Lw.fa rfl ?_)
   obtain ⟨br, aw, hm⟩ := ob hm
   refine Lw.u (T.stH (α := Head) (β := Int) (J := []) (Ow.hole (α := Head) (β := Int) (jf := 1) b ae) (OwS.atm (K := []) (rdI _)) aw rfl rfl rfl rfl) ?_
   rintro _ _ ⟨bu, rfl, h, af⟩
   have ax := aa.t h
   refine nl (sr (la (f.up h) (sta (G.up h) (zaa (H.up h).oc (zaa af.oc zaR)) fun bv I ay => ?_)))
   have az := ax.t I
   refine nl ?_
   obtain ⟨bw, a0, L, a1⟩ := ((H.up h).up I).dyeO 31
   have a3 := az.t L
   obtain ⟨bz, a4, N, a5⟩ := ((af.up I).up L).dyeO 32
   have a7 := a3.t N
   cases hm
   rw [← a4.trans (a0)]
   exact Cw.ret (zlH rfl ((ay.up L).up N) (Res.mk a7 ⟨k, x, rfl, (a1.up N).s, a5.s⟩))
  ·exact sk (rg (Lw.add rfl (mi rfl (nl ((agm) ⟨w64 (e + 1), y, z, A, vI e, B, C, a, rfl, D, rfl, au, av, G, b, hm⟩)))))
 ·refine Cw.exit ?_
  rw [ar] at hm
  refine sr (fl f rfl (ms rfl (mi rfl (Lw.r rfl (R.bd (zs := [vS ([] : Str), vI 0]) (cs := [vS x1, vI x2]) [(0, vS x1), (1, vI x2)] rfl rfl rfl (zaD rfl rfl (zaD rfl rfl zdN))) (cr hm (fun _ => p126 (K := [0, 3]) (k0 := 8) (x1 := (Vm.Head.mk x1 x2)) (b.rd.sub (M := [0, 3]) rfl) ((Head.rd (K := [0]) x1 x2 ).sub (M := [0, 3]) rfl)) ?_)))))
  rintro b0 ah b2 hm E ⟨_, rfl, O⟩
  have a8 := aa.n E
  refine Lw.fa rfl (Lw.u (T.st (j := 1) (v := ah) (f.up E) rfl rfl O.oc rfl rfl) ?_)
  rintro _ _ ⟨b3, rfl, i, a9⟩
  have ba := a8.t i
  have ai := (H.up E).up i
  refine nl (sr (la a9 (sta ((G.up E).up i) (zaa ai.oc (zaa (O.up i).oc zaR)) fun b4 P bb => ?_)))
  have bc := ba.t P
  refine nl ?_
  obtain ⟨b6, be, Q, bg⟩ := (ai.up P).dyeO 31
  have bh := bc.t Q
  obtain ⟨b7, bi, S, bj⟩ := (((O.up i).up P).up Q).dyeO 32
  have bk := bh.t S
  cases hm
  rw [← bi.trans (be)]
  exact Cw.ret (zlH rfl ((bb.up Q).up S) (Res.mk bk ⟨k, ah, rfl, (bg.up S).s, bj.s⟩))
theorem p68 {x0 d f x1 x2 k0 k1 c0 c1 r} (h : Ow W c0 [] [d] x0.Commits) (i : Ow W c1 [] [f] x0.Heads) (hJ : okJ K [c0, c1] = true) (hm : Vm.zbs x0 x1 x2 = some r) : Q1 68 [.agg [d, f].toArray, vS x1, vI x2] W [c0, c1] fun W' v => ∃ a b, v = .agg [a, b].toArray ∧ Ow W' k0 [] [a] r.Commits ∧ Ow W' k1 [] [b] r.Heads :=
 zaj.adJ (J := [c0, c1]) (fun c => bif Nat.beq c 0 then 0 else bif Nat.beq c 2 then c0 else bif Nat.beq c 3 then c1 else bif Nat.beq c 31 then k0 else bif Nat.beq c 32 then k1 else 0) (c68 (h.viewJ 0 hJ) (i.viewJ 1 hJ) hm) fun _ _ ⟨a, b, e, k, x⟩ => ⟨a, b, e, k.one1.backN rfl, x.one1.backN rfl⟩
theorem c69 {x0 G H x1 x2 y r} (h0 : Rd W0 [0] [G, H] x0) (z : Rd W0 [0] [y] x2) (hm : Vm.zer x0 x1 x2 = some r) : Q0 69 [.agg [G, H].toArray, vI x1, y] W0 fun Wf v => ∃ I, v = I ∧ OwS Wf LL [] [I] r := by
 unfold Vm.zer at hm
 obtain ⟨a3, a4, J, L, M⟩ := Repo.split h0
 simp only [List.cons.injEq, and_true, true_and] at J
 obtain ⟨rfl, rfl⟩ := J
 refine zaj.of Tryz.func69 rfl rfl rfl rfl (sr (bo 2 rfl fun g1 W1 l1 N => ?_))
 have A := l1.o
 refine Nv (.slice none 0 0) rfl (sr (la N (mi rfl (cr hm (fun _ => p89 (k0 := 3) (Repo.rd (K := [0]) x0.Commits x0.Heads (L.ul A) (M.ul A))) ?_))))
 rintro z5 a O hm P ⟨_, rfl, ai⟩
 have Q := A.n P
 refine Nv a rfl (ssr (mv y rfl (Lw.ln x2 (z.ul Q) rfl (mi rfl (nl (Cw.block ?_))))))
 obtain ⟨aj, ak, hm⟩ := zaS hm
 refine Cw.loop 17 34 [9, 11, 17] (fun m l w => ∃ e f S B h, CW.w h = w ∧ Le [3] O h ∧ l = [S, B, vI e] ∧ Ow h 3 [] [a] f ∧ Vm.zbn x0 x2 aj m e f = some r) _ ⟨0, z5, undef, undef, O, rfl, Le.refl _ _, rfl, ai, hm⟩ ?_
 rintro (_ | a7) _ _ σ ⟨e, f, S, B, h, rfl, C, rfl, U, hm⟩
 ·cases hm
 unfold Vm.zbn at hm
 have b := Q.t C
 refine sr (Lw.lt rfl (nl (Cw.seq (cn hm (fun hm => ?_) fun hm => ?_))))
 ·refine sk (Cw.seq (Cw.block (sr ?_)))
  obtain ⟨am, V, hm⟩ := ob hm
  refine Lw.r rfl (R.ix (α := Int) (z.ul b) V rfl rfl rfl) (Lw.r rfl (R.ld rfl rfl ((z.ul b).at_ V).int) (Ni rfl (sr (la ((N.up P).up C) (mi rfl (cr hm (fun _ => p89 (k0 := 4) (Repo.rd (K := [0]) x0.Commits x0.Heads (L.ul b) (M.ul b))) ?_))))))
  rintro a9 ba bb hm W ⟨_, rfl, an⟩
  refine cr hm (fun _ => p127 (K := [4]) (k0 := 5) an.rd) ?_
  rintro X bc Y hm Z ⟨_, rfl, D⟩
  refine Lw.ln X D.rd rfl (mi rfl (nl (Cw.block ?_)))
  obtain ⟨ao, ap, hm⟩ := zaS hm
  refine Cw.loop 26 33 [11, 26] (fun m l w => ∃ i k E d, CW.w d = w ∧ Le [3] Y d ∧ l = [E, vI i] ∧ Ow d 3 [] [a] k ∧ Vm.zbV X ao m i k = some r) _ ⟨0, f, B, Y, rfl, Le.refl _ _, rfl, ((U.up W).up Z), hm⟩ ?_
  rintro (_ | be) _ _ σ ⟨i, k, E, d, rfl, x, rfl, F, hm⟩
  ·cases hm
  unfold Vm.zbV at hm
  refine sr (Lw.lt rfl (nl (Cw.seq (cn hm (fun hm => ?_) fun hm => ?_))))
  ·refine sk (Cw.seq (Cw.block (sr ?_)))
   obtain ⟨aq, aa, hm⟩ := ob hm
   refine Lw.r rfl (R.ix (α := Int) (D.up x).rd aa rfl rfl rfl) (Lw.r rfl (R.ld rfl rfl ((D.up x).rd.at_ aa).int) (Ni rfl (rg (mv a rfl (mi rfl ?_)))))
   obtain ⟨bg, ar, hm⟩ := ob hm
   refine Lw.r rfl (R.ix (α := Bool) F.rd ar rfl rfl rfl) ?_
   obtain ⟨au, av, hm⟩ := ob hm
   refine Lw.u (T.stS (K' := []) F (rdB _) av rfl rfl rfl) ?_
   rintro _ _ ⟨aw, rfl, ax, ay⟩
   exact nl (rg (Lw.add rfl (mi rfl (nl ((agm) ⟨w64 (i + 1), au, vI aq, aw, rfl, (x.j ax).w, rfl, ay, hm⟩)))))
  ·refine Cw.exit ?_
   rw [ap] at hm
   exact rg (Lw.add rfl (mi rfl (nl ((agm) ⟨w64 (e + 1), k, vI am, E, d, rfl, (((C.j W).j Z).j x).w, rfl, F, hm⟩))))
 ·refine Cw.exit ?_
  rw [ak] at hm
  refine sr (mv a rfl (cr hm (fun _ => p127 (K := [3]) (k0 := 6) U.rd) ?_))
  rintro bh ac bi hm az ⟨_, rfl, a0⟩
  have a1 := b.n az
  refine Nv ac rfl ?_
  cases hm
  exact Cw.ret (zhB rfl (Res.mk a1 ⟨ac, rfl, a0.s.sub rfl rfl⟩))
theorem p69 {x0 b d x1 x2 f k0 r} (h : Rd W K [b, d] x0) (i : Rd W K [f] x2) (hm : Vm.zer x0 x1 x2 = some r) : Q1 69 [.agg [b, d].toArray, vI x1, f] W [] fun W' v => ∃ a, v = a ∧ Ow W' k0 [] [a] r :=
 (c69 (h.view _) (i.view _) hm).ad (fk k0) fun _ _ ⟨a, e, k⟩ => ⟨a, e, k.back (zfR _)⟩
theorem c128 {x0 d e x1 r} (y : Rd W0 [0] [d, e] x0) (hm : Vm.zb9 x0 x1 = some r) : Q0 128 [.agg [d, e].toArray, vI x1] W0 fun Wf v => v = vI r := by
 unfold Vm.zb9 at hm
 obtain ⟨C, D, f, z, E⟩ := Repo.split y
 simp only [List.cons.injEq, and_true, true_and] at f
 obtain ⟨rfl, rfl⟩ := f
 refine zaj.of Tryz.func128 rfl rfl rfl rfl (sr (bo 2 rfl fun F G A h => ?_))
 have b := A.o
 refine Ni rfl (ssr (fl h rfl (mi rfl ?_)))
 obtain ⟨B, i, hm⟩ := ob hm
 have a := z.ul b
 refine Lw.r rfl (R.ix (α := Commit) a i rfl rfl rfl) (Lw.fa rfl ?_)
 obtain ⟨H, c7, r8⟩ := (Commit.at0 (a.at_ i)).cell rfl
 refine Lw.r rfl (R.ld rfl rfl c7) (Lw.ln B.Parents r8 rfl (Lw.eq rfl (nl (cn hm (fun hm => ?_) fun hm => ?_))))
 ·exact sr (Ni rfl (.ret (rt hm b)))
 ·refine sk (sr (fl h rfl (mi rfl ?_)))
  obtain ⟨I, k, hm⟩ := ob hm
  refine Lw.r rfl (R.ix (α := Commit) a k rfl rfl rfl) (Lw.fa rfl ?_)
  obtain ⟨J, c13, r14⟩ := (Commit.at0 (a.at_ k)).cell rfl
  refine Lw.r rfl (R.ld rfl rfl c13) ?_
  obtain ⟨K, x, hm⟩ := ob hm
  exact Lw.r rfl (R.ix (α := Int) r14 x rfl rfl rfl) (Lw.r rfl (R.ld rfl rfl (r14.at_ x).int) (Ni rfl (.ret (rt hm b))))
theorem p128 {x0 a b x1 r} (d : Rd W K [a, b] x0) (hm : Vm.zb9 x0 x1 = some r) : Q1 128 [.agg [a, b].toArray, vI x1] W [] fun W' v => v = vI r :=
 (c128 (d.view _) hm).ad (fk 0) fun _ _ e => e
theorem c115 {x0 e x1 f x2 h r} (B : Rd W0 [0] [e] x0) (C : Rd W0 [0] [f] x1) (D : Rd W0 [0] [h] x2) (i : Gl 0 W0 [0]) (hm : Vm.zeS x0 x1 x2 = some r) : Q0 115 [e, f, h] W0 fun Wf v => v = vB r := by
 unfold Vm.zeS at hm
 refine zaj.of Tryz.func115 rfl rfl rfl rfl (sr (Nb rfl ?_))
 obtain ⟨E, F, hm⟩ := zaS hm
 refine Cw.join 7 16 [6] (fun l w => ∃ k x, CW.w x = w ∧ Le [] W0 x ∧ l = [vB k] ∧ E k = some r) ?_ ?_
 ·rintro _ _ σ ⟨k, x, rfl, G, rfl, hm⟩
  rw [F] at hm
  have H := G.o
  exact .ret (rt hm H)
 ·refine rg (mv e rfl (ca hm (fun _ => p85 B i) fun N I hm d => ?_))
  have y := d.o
  refine mb rfl (bs hm (fun a hm => ?_) fun a hm => ?_)
  ·refine wak 2 a (mv f rfl (ca hm (fun _ => p85 (C.ul y) (i.ul y)) fun O J hm z => ?_))
   have A := y.n z
   refine Pb a rfl (mb rfl (bs hm (fun b hm => ?_) fun b hm => ?_))
   ·exact wak 2 b (mv h rfl (ca hm (fun _ => p85 (D.ul A) (i.ul A)) fun K L hm M => Pb b rfl (Nb rfl ((ag) ⟨K, L, rfl, ((d.j z).j M).w, rfl, hm⟩))))
   ·exact psk 2 b rfl (Pb b rfl (Nb rfl ((ag) ⟨false, J, rfl, (d.j z).w, rfl, hm⟩)))
  ·exact psk 2 a rfl (Pb a rfl (mb rfl (psk 2 rfl rfl (Pb rfl rfl (Nb rfl ((ag) ⟨false, I, rfl, d, rfl, hm⟩))))))
theorem p115 {x0 a x1 b x2 d r} (f : Rd W K [a] x0) (h : Rd W K [b] x1) (i : Rd W K [d] x2) (k : Gl 0 W K) (hm : Vm.zeS x0 x1 x2 = some r) : Q1 115 [a, b, d] W [] fun W' v => v = vB r :=
 (c115 (f.view _) (h.view _) (i.view _) (k.view _) hm).ad (fk 0) fun _ _ e => e
theorem c161 {x0 x r} (y : Rd W0 [0] [x] x0) (hm : Vm.zfy x0 = some r) : Q0 161 [x] W0 fun Wf v => ∃ E, v = E ∧ OwS Wf LL [] [E] r := by
 unfold Vm.zfy at hm
 refine zaj.of Tryz.func161 rfl rfl rfl rfl (sr (Nv (.slice none 0 0) rfl (sr (Nv (.slice none 0 0) rfl (ssr (mv x rfl (Lw.ln x0 y rfl (mi rfl (nl (Cw.block ?_))))))))))
 obtain ⟨W, X, hm⟩ := zaS hm
 refine Cw.loop 10 26 [3, 5, 7, 10] (fun m l w => ∃ f h a F z b, CW.w b = w ∧ Le [2, 3] W0 b ∧ l = [a, F, z, vI h] ∧ Ow b 2 [] [a] f ∧ Vm.zbo x0 W m f h = some r) _ ⟨([] : List Str), 0, .slice none 0 0, undef, undef, W0, rfl, Le.refl _ _, rfl, owN 2 [], hm⟩ ?_
 rintro (_ | m9) _ _ σ ⟨f, h, a, F, z, b, rfl, G, rfl, H, hm⟩
 ·cases hm
 unfold Vm.zbo at hm
 have A := G.s
 refine sr (Lw.lt rfl (nl (Cw.seq (cn hm (fun hm => ?_) fun hm => ?_))))
 ·refine sk (Cw.seq (Cw.block (sr ?_)))
  obtain ⟨I, J, hm⟩ := ob hm
  refine Lw.r rfl (R.ix (α := List File) (y.ul A) J rfl rfl rfl) ?_
  obtain ⟨B, c16, r17⟩ := ((y.ul A).at_ J).cell rfl
  refine Lw.r rfl (R.ld rfl rfl c16) (Nv B rfl (sr (mv B rfl (Lw.ln I r17 rfl (mi rfl (nl (Cw.block ?_)))))))
  obtain ⟨Y, Z, hm⟩ := zaS hm
  refine Cw.loop 16 25 [3, 7, 16] (fun m l w => ∃ i k d C e, CW.w e = w ∧ Le [2, 3] b e ∧ l = [d, C, vI k] ∧ Ow e 2 [] [d] i ∧ Vm.zcN I Y m i k = some r) _ ⟨f, 0, a, z, b, rfl, Le.refl _ _, rfl, H, hm⟩ ?_
  rintro (_ | aw) _ _ σ ⟨i, k, d, C, e, rfl, D, rfl, L, hm⟩
  ·cases hm
  unfold Vm.zcN at hm
  have M := D.s
  refine sr (Lw.lt rfl (nl (Cw.seq (cn hm (fun hm => ?_) fun hm => ?_))))
  ·refine sk (Cw.seq (Cw.block (sr ?_)))
   obtain ⟨N, O, hm⟩ := ob hm
   refine Lw.r rfl (R.ix (α := File) (r17.ul M) O rfl rfl rfl) ?_
   obtain ⟨x31, c32, _, r33⟩ := ((r17.ul M).at_ O).cells
   obtain ⟨ax, rfl, r35⟩ := File.split r33
   refine Lw.r rfl (R.lda c32 rfl rfl) (al 3 [vS ([] : Str), .slice none 0 0] fun aa ay P ac => sta ac (zaa rfl (zaa r35.oc zaR)) fun az Q ae => nl (rg (mv d rfl (fl ae rfl (Lw.t rfl (T.bs 4 [vS N.Path] (cs := [vS N.Path]) rfl rfl (bsv rfl)) ?_)))))
   rintro _ _ ⟨a0, a1, rfl, rfl, S, af⟩
   obtain ⟨ah, ai, hm⟩ := ob hm
   refine Lw.t rfl (T.app1S (α := Str) (K' := []) (((L.up P).up Q).up S) af (rdS _) rfl rfl ai) ?_
   rintro U _ ⟨aj, rfl, ak, am⟩
   exact Nv U rfl (rg (Lw.add rfl (mi rfl (nl ((agm) ⟨ah, w64 (k + 1), U, ptr (bx aa), aj, rfl, ((((D.j P).j Q).j S).j ak).w, rfl, am, hm⟩)))))
  ·refine Cw.exit ?_
   rw [Z] at hm
   exact rg (Lw.add rfl (mi rfl (nl ((agm) ⟨i, w64 (h + 1), d, B, C, e, rfl, (G.j D).w, rfl, L, hm⟩))))
 ·refine Cw.exit ?_
  rw [X] at hm
  refine sr (mv a rfl (cr hm (fun _ => p150 (K := [0]) (c0 := 2) H rfl) ?_))
  rintro a2 _ a3 hm an ⟨rfl, ao⟩
  have ap := A.t an
  refine nl (sr (mv a rfl (cr hm (fun _ => p155 (K := [0]) (k0 := 5) (c0 := 2) ao rfl) ?_)))
  rintro a4 V a5 hm aq ⟨_, rfl, ar⟩
  have au := ap.t aq
  refine Nv V rfl ?_
  cases hm
  exact Cw.ret (zhB rfl (Res.mk au ⟨V, rfl, ar.s.sub rfl rfl⟩))
theorem p161 {x0 b k0 r} (d : Rd W K [b] x0) (hm : Vm.zfy x0 = some r) : Q1 161 [b] W [] fun W' v => ∃ a, v = a ∧ Ow W' k0 [] [a] r :=
 (c161 (d.view _) hm).ad (fk k0) fun _ _ ⟨a, e, f⟩ => ⟨a, e, f.back (zfR _)⟩
theorem c163 {x0 d x1 r} (x : Rd W0 [0] [d] x0) (hm : Vm.zgz x0 x1 = some r) : Q0 163 [d, vS x1] W0 fun Wf v => ∃ f, v = .agg [f, vB r.file].toArray ∧ OwS Wf LL [] [f] r.text := by
 unfold Vm.zgz at hm
 refine zaj.of Tryz.func163 rfl rfl rfl rfl (sr (al 2 [.slice none 0 0, vB false] fun D E y z => ?_))
 have h := y.o
 refine nl (sr (mv d rfl (ms rfl (cr hm (fun _ => p151 (k0 := 3) (x.ul h)) ?_))))
 rintro b _ F hm i ⟨a, rfl, e⟩
 have A := h.n i
 refine mv (.tuple [a, vB b.2].toArray) rfl (Lw.r rfl (R.ext (vs := [a, vB b.2]) (v := a) rfl rfl) (Lw.r rfl (R.ext (vs := [a, vB b.2]) (v := vB b.2) rfl rfl) (Gv a rfl (Nb rfl (sr (mv a rfl (mb rfl (Lw.r rfl (R.bd (zs := [.slice none 0 0, vB false]) (cs := [a, vB b.2]) [(0, a), (1, vB b.2)] rfl rfl rfl (zaD e.oc rfl (zaD rfl rfl zdN))) (sta (z.up i) (zaa e.oc (zaa rfl zaR)) fun G k B => ?_)))))))))
 have C := A.t k
 refine nl ?_
 cases hm
 exact Cw.ret (zlH rfl B (Res.mk C ⟨a, rfl, (e.up k).s.sub rfl rfl⟩))
theorem p163 {x0 b x1 k0 r} (d : Rd W K [b] x0) (hm : Vm.zgz x0 x1 = some r) : Q1 163 [b, vS x1] W [] fun W' v => ∃ a, v = .agg [a, vB r.file].toArray ∧ Ow W' k0 [] [a] r.text :=
 (c163 (d.view _) hm).ad (fk k0) fun _ _ ⟨a, e, f⟩ => ⟨a, e, f.back (zfR _)⟩
theorem c188 {x0 h x1 i r} (B : Rd W0 [0] [h, vB x0.file] x0) (C : Rd W0 [0] [i, vB x1.file] x1) (hm : Vm.zeh x0 x1 = some r) : Q0 188 [.agg [h, vB x0.file].toArray, .agg [i, vB x1.file].toArray] W0 fun Wf v => v = vB r := by
 unfold Vm.zeh at hm
 obtain ⟨O, k, D⟩ := has.split B
 simp only [List.cons.injEq, and_true, true_and] at k
 obtain rfl := k
 obtain ⟨P, x, E⟩ := has.split C
 simp only [List.cons.injEq, and_true, true_and] at x
 obtain rfl := x
 refine zaj.of Tryz.func188 rfl rfl rfl rfl (sr (bo 2 rfl fun Q S F y => ?_))
 have G := F.o
 refine bo 3 rfl fun T z b A => ?_
 have d := G.n b
 refine Nb rfl ?_
 obtain ⟨H, I, hm⟩ := zaS hm
 refine Cw.join 5 16 [4] (fun l w => ∃ e f, CW.w f = w ∧ Le [] z f ∧ l = [vB e] ∧ H e = some r) ?_ ?_
 ·rintro _ _ σ ⟨e, f, rfl, J, rfl, hm⟩
  rw [I] at hm
  have K := d.n J
  exact .ret (rt hm K)
 ·refine rg (fl (y.up b) rfl (fl A rfl (Lw.r rfl (R.beq rfl rfl) (mb rfl (bs hm (fun a hm => ?_) fun a hm => ?_)))))
  ·exact wak 5 a (fl (y.up b) rfl (fl A rfl (ca hm (fun _ => p152 (D.ul d) (E.ul d)) fun L M hm N => Pb a rfl (Nb rfl ((ag) ⟨L, M, rfl, N, rfl, hm⟩)))))
  ·exact psk 5 a rfl (Pb a rfl (Nb rfl ((ag) ⟨false, z, rfl, Le.refl _ _, rfl, hm⟩)))
theorem p188 {x0 a x1 b r} (d : Rd W K [a, vB x0.file] x0) (f : Rd W K [b, vB x1.file] x1) (hm : Vm.zeh x0 x1 = some r) : Q1 188 [.agg [a, vB x0.file].toArray, .agg [b, vB x1.file].toArray] W [] fun W' v => v = vB r :=
 (c188 (d.view _) (f.view _) hm).ad (fk 0) fun _ _ e => e
theorem c249 {x0 e x1 f x2 h r} (z : Rd W0 [0] [e] x0) (A : Rd W0 [0] [f] x1) (B : Rd W0 [0] [h] x2) (hm : Vm.zfz x0 x1 x2 = some r) : Q0 249 [e, f, h] W0 fun Wf v => v = vB r := by
 unfold Vm.zfz at hm
 refine zaj.of Tryz.func249 rfl rfl rfl rfl (sr (Nb rfl ?_))
 obtain ⟨C, D, hm⟩ := zaS hm
 refine Cw.join 7 16 [6] (fun l w => ∃ i k, CW.w k = w ∧ Le [] W0 k ∧ l = [vB i] ∧ C i = some r) ?_ ?_
 ·rintro _ _ σ ⟨i, k, rfl, E, rfl, hm⟩
  rw [D] at hm
  have F := E.o
  exact .ret (rt hm F)
 ·refine rg (mv e rfl (ca hm (fun _ => p141 z) fun M G hm d => ?_))
  have y := d.o
  refine mb rfl (bs hm (fun a hm => ?_) fun a hm => ?_)
  ·refine wak 2 a (mv f rfl (ca hm (fun _ => p141 (A.ul y)) fun N H hm x => ?_))
   have I := y.n x
   refine Pb a rfl (mb rfl (bs hm (fun b hm => ?_) fun b hm => ?_))
   ·exact wak 2 b (mv h rfl (ca hm (fun _ => p141 (B.ul I)) fun J K hm L => Pb b rfl (Nb rfl ((ag) ⟨J, K, rfl, ((d.j x).j L).w, rfl, hm⟩))))
   ·exact psk 2 b rfl (Pb b rfl (Nb rfl ((ag) ⟨false, H, rfl, (d.j x).w, rfl, hm⟩)))
  ·exact psk 2 a rfl (Pb a rfl (mb rfl (psk 2 rfl rfl (Pb rfl rfl (Nb rfl ((ag) ⟨false, G, rfl, d, rfl, hm⟩))))))
theorem p249 {x0 a x1 b x2 d r} (f : Rd W K [a] x0) (h : Rd W K [b] x1) (i : Rd W K [d] x2) (hm : Vm.zfz x0 x1 x2 = some r) : Q1 249 [a, b, d] W [] fun W' v => v = vB r :=
 (c249 (f.view _) (h.view _) (i.view _) hm).ad (fk 0) fun _ _ e => e
theorem c263 {x0 i x1 k a r} (I : Rd W0 [0] [i] x0) (hB1 : Bx W0 2 k [a]) (b : Ow W0 3 [] [a] x1) (hm : Vm.zca x0 x1 = some r) : Q0 263 [i, ptr (bx k)] W0 fun Wf v => ∃ uc1, v = .tuple #[] ∧ Ow Wf 3 [] [uc1] r ∧ Bx Wf 2 k [uc1] := by
 unfold Vm.zca at hm
 refine zaj.of Tryz.func263 rfl rfl rfl rfl (ssr (mv i rfl (Lw.ln x0 I rfl (Lw.eq rfl (nl (cn hm (fun hm => ?_) fun hm => ?_))))))
 ·cases hm
  exact Cw.ret (zAW (Res.mk (Le.refl _ _) ⟨a, rfl, b, hB1⟩))
 ·refine sk (sr (Lw.r rfl (R.ld (v := a) rfl rfl (hB1.cell0 rfl)) (Lw.ln x1 b.rd rfl (Lw.sub rfl (Ni rfl ?_)))))
  obtain ⟨U, V, hm⟩ := zaS hm
  refine Cw.join 10 24 [3] (fun l w => ∃ A B d e, CW.w e = w ∧ Le [2, 3] W0 e ∧ l = [vI A] ∧ Ow e 3 [] [d] B ∧ Bx e 2 k [d] ∧ U A B = some r) ?_ ?_
  ·rintro _ _ σ ⟨A, B, d, e, rfl, W, rfl, X, Y, hm⟩
   rw [V] at hm
   have Z := W.s
   refine Cw.draw [3, 4] [(0, 1), (1, 0), (2, 1), (3, 0), (4, 0), (5, 0), (7, 0), (6, 2), (8, 2), (9, 0), (10, 0), (11, 3)] mixed (by kernel_rfl) fun az l10 => ?_
   have aa := Z.n l10
   have x := X.up l10
   have C := Y.up l10
   refine Mw.q rfl rfl (fun _ c => R.ld (v := d) rfl rfl (C.clc0 rfl rfl c)) (Di rfl (Mw.q rfl rfl (fun _ c => R.ld (v := d) rfl rfl (C.clc0 rfl rfl c)) (Di rfl ?_)))
   obtain ⟨a0, D, hm⟩ := ob hm
   refine Mw.p rfl rfl (fun _ => R.ix (α := Part) x.rd D rfl rfl rfl) (Df rfl (Dv i rfl ?_))
   obtain ⟨a1, c17, r18⟩ := (Part.at1 (x.rd.at_ D)).cell rfl
   refine Mw.t rfl rfl (Run.tr (R.ld rfl rfl c17)) ?_
   rintro _ _ ⟨hu, rfl⟩
   obtain rfl := hu.symm
   refine ⟨⟨_, rfl, (Le.refl _ _)⟩, ?_⟩
   obtain ⟨a2, ac, E, ae, af⟩ := Ow.take (α := Part) (β := List Str) (j := 4) (jf := 1) x D c17 rfl
   rw [← ac]
   have K := aa.t E
   obtain ⟨a3, ah, hm⟩ := ob hm
   refine Mw.t rfl rfl (T.appP (α := Str) ae (I.ul K) rfl rfl ah) ?_
   rintro a4 _ ⟨a5, rfl, y, ai⟩
   have aj := K.t y
   refine ⟨⟨_, rfl, ((E.sub (M := [3, 4]) rfl).trans (y.sub (M := [3, 4]) rfl))⟩, ?_⟩
   obtain ⟨a6, ak, hm⟩ := ob hm
   refine Mw.p rfl rfl (fun _ => R.ix (α := Part) x.rd ak rfl rfl rfl) (Df rfl ?_)
   obtain ⟨a7, am, hm⟩ := ob hm
   refine Mw.lu rfl (T.stH (α := Part) (β := List Str) (J := [4]) (af.up (y.sub (M := [4]) rfl) rfl) ai.s am rfl rfl rfl rfl) ?_
   rintro _ _ ⟨a8, rfl, L, an⟩
   have ao := aj.t L
   refine Mw.nil ?_
   cases hm
   show zvp _ _ _ .ret _ _
   exact zAW (Res.mk ao ⟨d, rfl, an, (((C.up E).up y).up L)⟩)
  ·obtain ⟨ap, aq, hm⟩ := zaS hm
   refine Cw.join 10 18 [18] (fun l w => ∃ F z, CW.w z = w ∧ Le [] W0 z ∧ l = [vB F] ∧ ap F = some r) ?_ ?_
   ·rintro _ _ σ ⟨F, z, rfl, f, rfl, hm⟩
    rw [aq] at hm
    have G := hB1.up f
    refine cn hm (fun hm => ?_) fun hm => ?_
    ·refine sr (lz G rfl (Lw.r rfl (R.bd (zs := [vB false, .slice none 0 0, .slice none 0 0, .slice none 0 0, .slice none 0 0]) (cs := [vB false, .slice none 0 0, .slice none 0 0, .slice none 0 0, .slice none 0 0]) [] rfl rfl rfl zdN) (Lw.t rfl (T.bs 5 [.agg [vB false, .slice none 0 0, .slice none 0 0, .slice none 0 0, .slice none 0 0].toArray] (cs := [vB false, .slice none 0 0, .slice none 0 0, .slice none 0 0, .slice none 0 0]) rfl rfl (bsA rfl)) ?_)))
     rintro _ _ ⟨ba, bb, rfl, rfl, H, ar⟩
     obtain ⟨au, av, hm⟩ := ob hm
     refine Lw.t rfl (T.app1 (α := Part) (J := []) (K' := []) ((b.up f).up H) ar (Part.own false ([] : List Str) ([] : List Str) ([] : List Str) ([] : List Str) (zm5 []) (zm5 []) (zm5 []) (zm5 [])) rfl rfl av) ?_
     rintro N _ ⟨bc, rfl, O, P⟩
     refine Lw.u (T.st0 (v := N) ((G.up H).up O) rfl rfl P.oc rfl rfl) ?_
     rintro _ _ ⟨aw, rfl, Q, ax⟩
     exact nl (rg (mi rfl (Lw.add rfl (Ni rfl ((ag) ⟨w64 ((w64 ((x1.length : Int) - 1)) + 1), au, N, aw, rfl, (((f.j H).j O).j Q).w, rfl, (P.up Q), ax, hm⟩)))))
    ·exact sk ((ag) ⟨w64 ((x1.length : Int) - 1), x1, a, z, rfl, f.w, rfl, (b.up f), G, hm⟩)
   ·refine rg (mi rfl (Lw.lt rfl (mb rfl (bs hm (fun h hm => ?_) fun h hm => ?_))))
    ·exact psk 5 h rfl (Pb h rfl (nl ((ag) ⟨true, W0, rfl, Le.refl _ _, rfl, hm⟩)))
    ·refine wak 5 h (Lw.r rfl (R.ld (v := a) rfl rfl (hB1.cell0 rfl)) (mi rfl ?_))
     obtain ⟨ay, S, hm⟩ := ob hm
     exact Lw.r rfl (R.ix (α := Part) b.rd S rfl rfl rfl) (Lw.fa rfl (Lw.r rfl (R.ld rfl rfl (Part.at0 (b.rd.at_ S)).bool) (Pb h rfl (nl ((ag) ⟨ay.Clash, W0, rfl, Le.refl _ _, rfl, hm⟩)))))
theorem p263 {x0 b x1 a d c0 c1 r} (f : Rd W K [b] x0) (hB1 : Bx W c0 a [d]) (h : Ow W c1 [] [d] x1) (hJ : okJ K [c0, c1] = true) (hm : Vm.zca x0 x1 = some r) : Q1 263 [b, ptr (bx a)] W [c0, c1] fun W' v => ∃ uc1, v = .tuple #[] ∧ Ow W' c1 [] [uc1] r ∧ Bx W' c0 a [uc1] :=
 zaj.adJ (J := [c0, c1]) (fun c => bif Nat.beq c 0 then 0 else bif Nat.beq c 2 then c0 else bif Nat.beq c 3 then c1 else 0) (c263 (f.view _) (hB1.viewJ 0 hJ) (h.viewJ 1 hJ) hm) fun _ _ ⟨uc1, e, i, k⟩ => ⟨uc1, e, Ow.backJ 1 i rfl, Bx.backJ 0 k rfl⟩
theorem c250 {x0 b x1 d x2 e r} (z : Rd W0 [0] [b] x0) (X : Rd W0 [0] [d] x1) (Y : Rd W0 [0] [e] x2) (hm : Vm.zf4 x0 x1 x2 = some r) : Q0 250 [b, d, e] W0 fun Wf v => ∃ u0, v = u0 ∧ OwS Wf LL [] [u0] r := by
 unfold Vm.zf4 at hm
 refine zaj.of Tryz.func250 rfl rfl rfl rfl (sr (Nv (.slice none 0 0) rfl (sr (mv b rfl (mv d rfl (cr hm (fun _ => p185 (k0 := 2) z X) ?_))))))
 rintro z1 fe W3 hm l3 ⟨_, rfl, c3⟩
 have a4 := l3.o
 refine mv d rfl (Lw.ln x1 (X.ul a4) rfl (Lw.t rfl (T.bs 3 [vI (x1.length : Int)] (cs := [vI (x1.length : Int)]) rfl rfl (bsv rfl)) ?_))
 rintro _ _ ⟨g6, W6, rfl, rfl, l6, b6⟩
 have a7 := a4.n l6
 obtain ⟨q9, c6, hm⟩ := ob hm
 refine Lw.t rfl (T.app1S (α := Int) (K' := []) (c3.up l6) b6 (rdI _) rfl rfl c6) ?_
 rintro O _ ⟨fi, rfl, c7, c8⟩
 have ay := a7.t c7
 refine mv b rfl (mv e rfl (cr hm (fun _ => p185 (k0 := 4) (z.ul ay) (Y.ul ay)) ?_))
 rintro fj fm fn hm b3 ⟨_, rfl, c9⟩
 have b4 := ay.n b3
 refine mv e rfl (Lw.ln x2 (Y.ul b4) rfl (Lw.t rfl (T.bs 5 [vI (x2.length : Int)] (cs := [vI (x2.length : Int)]) rfl rfl (bsv rfl)) ?_))
 rintro _ _ ⟨fo, fp, rfl, rfl, az, da⟩
 have db := b4.n az
 obtain ⟨dc, dd, hm⟩ := ob hm
 refine Lw.t rfl (T.app1S (α := Int) (K' := []) (c9.up az) da (rdI _) rfl rfl dd) ?_
 rintro Z _ ⟨fq, rfl, b5, de⟩
 have df := db.t b5
 refine Gv O rfl (Nv Z rfl (sr (al 6 [.slice none 0 0] fun f b7 a0 dg => ?_)))
 have dh := df.n a0
 have b8 := (((c8.up b3).up az).up b5).up a0
 refine nl (sr (Lw.r rfl (R.mkF (vs := [ptr (bx f)]) rfl) (Nv (.func (.func 263) #[] [ptr (bx f)].toArray) rfl (sr (Gi rfl (Gi rfl (Ni rfl (ssr (mv O rfl (Lw.ln q9 b8.rd rfl (mi rfl (nl (Cw.block ?_)))))))))))))
 obtain ⟨di, dj, hm⟩ := zaS hm
 refine Cw.loop 35 120 [11, 12, 13, 14, 15, 16, 17, 35] (fun m l w => ∃ k h i a I b9 a1 a2 a3 A x, CW.w x = w ∧ Le [6, 7, 8, 9, 10] b7 x ∧ l = [vI k, vI h, vI i, b9, a1, a2, a3, vI a] ∧ Ow x 7 [] [A] I ∧ Bx x 6 f [A] ∧ Vm.zbi x0 x1 x2 q9 dc di m k h i a I = some r) _ ⟨0, 0, 0, 0, ([] : List Part), undef, undef, undef, undef, .slice none 0 0, b7, rfl, Le.refl _ _, rfl, owN 7 [], dg, hm⟩ ?_
 rintro (_ | fr) _ _ σ ⟨k, h, i, a, I, b9, a1, a2, a3, A, x, rfl, aa, rfl, a5, a6, hm⟩
 ·cases hm
 unfold Vm.zbi at hm
 have cb := dh.t aa
 have a8 := b8.up aa
 have a9 := (de.up a0).up aa
 refine sr (Lw.lt rfl (nl (Cw.seq (cn hm (fun hm => ?_) fun hm => ?_))))
 ·refine sk ?_
  obtain ⟨dk, dl, hm⟩ := zaS hm
  refine Cw.join 37 119 [11, 12, 13, 14, 15, 16, 17] (fun l w => ∃ ac ae af ah ba bb bc be ai K, CW.w K = w ∧ Le [6, 7, 8, 9, 10] x K ∧ l = [vI ac, vI ae, vI af, ba, bb, bc, be] ∧ Ow K 7 [] [ai] ah ∧ Bx K 6 f [ai] ∧ dk ac ae af ah = some r) ?_ ?_
  ·rintro _ _ σ ⟨ac, ae, af, ah, ba, bb, bc, be, ai, K, rfl, dm, rfl, dn, dp, hm⟩
   rw [dl] at hm
   exact rg (Lw.add rfl (mi rfl (nl ((agm) ⟨ac, ae, af, w64 (a + 1), ah, ba, bb, bc, be, ai, K, rfl, (aa.j dm).w, rfl, dn, dp, hm⟩))))
  ·refine Cw.block (sr (mi rfl (Ni rfl (Cw.seq ?_))))
   obtain ⟨dq, dr, hm⟩ := zaS hm
   refine Cw.join 38 49 [49] (fun l w => ∃ bg aj, CW.w aj = w ∧ Le [] x aj ∧ l = [vB bg] ∧ dq bg = some r) ?_ ?_
   ·rintro _ _ σ ⟨bg, aj, rfl, y, rfl, hm⟩
    rw [dr] at hm
    have ds := cb.n y
    refine cn hm (fun hm => ?_) fun hm => ?_
    ·exact Cw.exit ((ag) ⟨k, h, i, I, vI a, a1, a2, a3, A, aj, rfl, y.w, rfl, (a5.up y), (a6.up y), hm⟩)
    ·refine sk (Cw.seq (Cw.draw [] [(0, 0), (1, 0), (2, 0), (3, 0), (4, 0), (5, 0), (6, 0), (7, 0), (8, 0), (9, 1), (10, 0), (11, 0), (12, 0), (13, 0), (14, 0), (15, 0), (16, 1), (17, 0), (18, 0), (19, 0), (20, 0)] mixed (by kernel_rfl) fun cc L => ?_))
     have B := ds.n L
     have ak := (a8.up y).up L
     have am := (a9.up y).up L
     refine Dv b rfl (Di rfl (Di rfl ?_))
     obtain ⟨fs, cd, hm⟩ := ob hm
     have r103 := (z.ul B).cutV cd
     refine Mw.p rfl rfl (fun _ => R.sl (z.ul B) cd rfl (.inr rfl) (.inr rfl)) (Dv d rfl (Di rfl (Dv O rfl (Di rfl ?_))))
     obtain ⟨C, bh, hm⟩ := ob hm
     refine Mw.p rfl rfl (fun _ => R.ix (α := Int) ak.rd bh rfl rfl rfl) (Mw.q rfl rfl (fun _ c => R.ld rfl rfl (zah (ak.rd.at_ bh).1 rfl (ak.rd.at_ bh).int c)) ?_)
     obtain ⟨ft, ce, hm⟩ := ob hm
     have r110 := (X.ul B).cutV ce
     refine Mw.p rfl rfl (fun _ => R.sl (X.ul B) ce rfl (.inr rfl) (.inr rfl)) (Dv e rfl (Di rfl (Dv Z rfl (Di rfl ?_))))
     obtain ⟨D, bi, hm⟩ := ob hm
     refine Mw.p rfl rfl (fun _ => R.ix (α := Int) am.rd bi rfl rfl rfl) (Mw.q rfl rfl (fun _ c => R.ld rfl rfl (zah (am.rd.at_ bi).1 rfl (am.rd.at_ bi).int c)) ?_)
     obtain ⟨fu, cf, hm⟩ := ob hm
     have r117 := (Y.ul B).cutV cf
     refine Mw.p rfl rfl (fun _ => R.sl (Y.ul B) cf rfl (.inr rfl) (.inr rfl)) (Hv (cutV b (k : Int).toNat (a : Int).toNat (Rp.sz (Str))) rfl (Hv (cutV d (h : Int).toNat (C : Int).toNat (Rp.sz (Str))) rfl (Hv (cutV e (i : Int).toNat (D : Int).toNat (Rp.sz (Str))) rfl (Mw.nil ?_))))
     obtain ⟨dt, du, hm⟩ := zaS hm
     refine Cw.join 68 96 [] (fun l w => ∃ P an E, CW.w E = w ∧ Le [6, 7, 8, 9, 10] cc E ∧ l = [] ∧ Ow E 7 [] [an] P ∧ Bx E 6 f [an] ∧ dt P = some r) ?_ ?_
     ·rintro _ _ σ ⟨P, an, E, rfl, ao, rfl, cg, ch, hm⟩
      rw [du] at hm
      have bj := B.t ao
      obtain ⟨dv, dw, hm⟩ := zaS hm
      refine Cw.join 97 107 [] (fun l w => ∃ ap aq Q, CW.w Q = w ∧ Le [6, 7] E Q ∧ l = [] ∧ Ow Q 7 [] [aq] ap ∧ Bx Q 6 f [aq] ∧ dv ap = some r) ?_ ?_
      ·rintro _ _ σ ⟨ap, aq, Q, rfl, bk, rfl, dx, dy, hm⟩
       rw [dw] at hm
       refine Cw.draw [] [(0, 0), (1, 0), (2, 0), (3, 0), (4, 0), (5, 1), (6, 0), (7, 0), (8, 0), (9, 0), (10, 1), (11, 0), (12, 0), (13, 0), (14, 0)] mixed (by kernel_rfl) fun dz S => ?_
       have bl := ((ak.up ao).up bk).up S
       have bm := ((am.up ao).up bk).up S
       refine Di rfl (Mw.p rfl rfl (fun _ => R.add rfl rfl) (Dv O rfl (Di rfl ?_)))
       obtain ⟨d0, bn, hm⟩ := ob hm
       refine Mw.p rfl rfl (fun _ => R.ix (α := Int) bl.rd bn rfl rfl rfl) (Mw.q rfl rfl (fun _ c => R.ld rfl rfl (zah (bl.rd.at_ bn).1 rfl (bl.rd.at_ bn).int c)) (Mw.p rfl rfl (fun _ => R.add rfl rfl) (Dv Z rfl (Di rfl ?_))))
       obtain ⟨d1, bp, hm⟩ := ob hm
       exact Mw.p rfl rfl (fun _ => R.ix (α := Int) bm.rd bp rfl rfl rfl) (Mw.q rfl rfl (fun _ c => R.ld rfl rfl (zah (bm.rd.at_ bp).1 rfl (bm.rd.at_ bp).int c)) (Mw.p rfl rfl (fun _ => R.add rfl rfl) (Hi rfl (Hi rfl (Hi rfl (Mw.nil ((ag) ⟨w64 (a + 1), w64 (d0 + 1), w64 (d1 + 1), ap, vI a, (cutV b (k : Int).toNat (a : Int).toNat (Rp.sz (Str))), (cutV d (h : Int).toNat (C : Int).toNat (Rp.sz (Str))), (cutV e (i : Int).toNat (D : Int).toNat (Rp.sz (Str))), aq, dz, rfl, ((((y.j L).j ao).j bk).j S).w, rfl, (dx.up S), (dy.up S), hm⟩)))))))
      ·refine sr (mi rfl (mv b rfl (Lw.ln x0 (z.ul bj) rfl (Lw.lt rfl (nl (cn hm (fun hm => ?_) fun hm => ?_))))))
       ·refine rg (mv (.func (.func 263) #[] [ptr (bx f)].toArray) rfl (mv b rfl (mi rfl (mi rfl (Lw.add rfl ?_)))))
        obtain ⟨fv, ci, hm⟩ := ob hm
        have r157 := (z.ul bj).cutV ci
        refine Lw.r rfl (R.sl (z.ul bj) ci rfl (.inr rfl) (.inr rfl)) ?_
        obtain ⟨d2, d3, hm⟩ := ob hm
        refine Lw.t rfl (T.callV (vals := [(cutV b (a : Int).toNat (w64 (a + 1) : Int).toNat (Rp.sz (Str)))]) (caps := [ptr (bx f)]) rfl rfl (p263  (c0 := 6) (c1 := 7) (x1 := P) r157 ch cg rfl d3)) ?_
        rintro _ _ ⟨d4, rfl, d5, ⟨d6, rfl, d7, d8⟩⟩
        exact nl ((ag) ⟨d2, d6, d4, rfl, d5, rfl, d7, d8, hm⟩)
       ·exact sk ((ag) ⟨P, an, E, rfl, Le.refl _ _, rfl, cg, ch, hm⟩)
     ·refine Cw.block ?_
      obtain ⟨d9, ea, hm⟩ := zaS hm
      refine Cw.join 78 86 [78] (fun l w => ∃ bq br, CW.w br = w ∧ Le [] cc br ∧ l = [vB bq] ∧ d9 bq = some r) ?_ ?_
      ·rintro _ _ σ ⟨bq, br, rfl, M, rfl, hm⟩
       rw [ea] at hm
       have ar := M.o
       have bu := ((a5.up y).up L).up M
       have bv := ((a6.up y).up L).up M
       refine cn hm (fun hm => ?_) fun hm => ?_
       ·refine rg (mv (.func (.func 263) #[] [ptr (bx f)].toArray) rfl (mv (cutV e (i : Int).toNat (D : Int).toNat (Rp.sz (Str))) rfl ?_))
        obtain ⟨eb, ec, hm⟩ := ob hm
        refine Lw.t rfl (T.callV (vals := [(cutV e (i : Int).toNat (D : Int).toNat (Rp.sz (Str)))]) (caps := [ptr (bx f)]) rfl rfl (p263  (c0 := 6) (c1 := 7) (x1 := I) (r117.ul ar) bv bu rfl ec)) ?_
        rintro _ _ ⟨ed, rfl, ee, ⟨ef, rfl, eg, eh⟩⟩
        exact nl ((ag) ⟨eb, ef, ed, rfl, (M.j ee).w, rfl, eg, eh, hm⟩)
       ·refine sr (mv (cutV e (i : Int).toNat (D : Int).toNat (Rp.sz (Str))) rfl (mv (cutV b (k : Int).toNat (a : Int).toNat (Rp.sz (Str))) rfl (ca hm (fun _ => p152 (r117.ul ar) (r103.ul ar)) fun fw fx hm F => ?_)))
        have cj := ar.n F
        refine Nb rfl (cn hm (fun hm => ?_) fun hm => ?_)
        ·refine rg (mv (.func (.func 263) #[] [ptr (bx f)].toArray) rfl (mv (cutV d (h : Int).toNat (C : Int).toNat (Rp.sz (Str))) rfl ?_))
         obtain ⟨ei, ej, hm⟩ := ob hm
         refine Lw.t rfl (T.callV (vals := [(cutV d (h : Int).toNat (C : Int).toNat (Rp.sz (Str)))]) (caps := [ptr (bx f)]) rfl rfl (p263  (c0 := 6) (c1 := 7) (x1 := I) (r110.ul cj) (bv.up F) (bu.up F) rfl ej)) ?_
         rintro _ _ ⟨ek, rfl, el, ⟨em, rfl, en, eo⟩⟩
         exact nl ((ag) ⟨ei, em, ek, rfl, ((M.j F).j el).w, rfl, en, eo, hm⟩)
        ·refine Cw.draw [] [(0, 1), (1, 0), (3, 0), (5, 0), (2, 2), (4, 2), (6, 2), (7, 0), (8, 2), (9, 3), (10, 3)] mixed (by kernel_rfl) fun fy au => ?_
         have ck := cj.n au
         have cl := (bv.up F).up au
         refine Mw.q rfl rfl (fun _ c => R.ld (v := A) rfl rfl (cl.clc0 rfl rfl c)) (Dv (cutV b (k : Int).toNat (a : Int).toNat (Rp.sz (Str))) rfl (Dv (cutV d (h : Int).toNat (C : Int).toNat (Rp.sz (Str))) rfl (Dv (cutV e (i : Int).toNat (D : Int).toNat (Rp.sz (Str))) rfl ?_)))
         obtain ⟨ep, er, hm⟩ := ob hm
         refine Mw.t rfl rfl (T.call rfl (p144 (k0 := 8) (r103.ul ck) er)) ?_
         rintro av _ ⟨fz, rfl, U, ⟨_, rfl, es⟩⟩
         have cm := ck.n U
         refine m0 U fun et => ?_
         obtain ⟨eu, ew, hm⟩ := ob hm
         refine Mw.t rfl rfl (T.call rfl (p144 (k0 := 9) (r110.ul cm) ew)) ?_
         rintro aw _ ⟨f0, rfl, N, ⟨_, rfl, co⟩⟩
         have ex := cm.n N
         refine mc et N fun ey => ?_
         obtain ⟨ez, e0, hm⟩ := ob hm
         refine Mw.t rfl rfl (T.call rfl (p144 (k0 := 10) (r117.ul ex) e0)) ?_
         rintro ax _ ⟨f1, rfl, G, ⟨_, rfl, cp⟩⟩
         have cq := (es.up N).up G
         refine mc ey G fun e1 => Mw.p rfl rfl (fun _ => R.bd (zs := [vB false, .slice none 0 0, .slice none 0 0, .slice none 0 0, .slice none 0 0]) (cs := [vB true, .slice none 0 0, av, aw, ax]) [(0, vB true), (2, av), (3, aw), (4, ax)] rfl rfl rfl (zaD rfl rfl (zaD cq.oc rfl (zaD (co.up G).oc rfl (zaD cp.oc rfl zdN))))) (Mw.t rfl rfl (T.bs 11 [.agg [vB true, .slice none 0 0, av, aw, ax].toArray] (cs := [vB true, .slice none 0 0, av, aw, ax]) rfl rfl (bsA rfl)) ?_)
         rintro _ _ ⟨f2, f3, rfl, rfl, H, e2⟩
         refine mc e1 H fun f4 => ?_
         obtain ⟨e3, e4, hm⟩ := ob hm
         refine Mw.l rfl rfl (T.app1 (α := Part) (J := [8, 9, 10]) (K' := []) ((((((bu.up F).up au).up U).up N).up G).up H) e2 (Part.own true ([] : List Str) ep eu ez (zm5 []) (cq.up H).s ((co.up G).up H).s (cp.up H).s) rfl rfl e4) ?_
         rintro ct _ ⟨f5, rfl, cu, cv⟩
         refine Mw.lu rfl (T.st0 (v := ct) (((((cl.up U).up N).up G).up H).up cu) rfl rfl cv.oc rfl rfl) ?_
         rintro _ _ ⟨e5, rfl, cw, e6⟩
         exact Mw.nil ((ag) ⟨e3, ct, e5, rfl, ((((((((M.j F).j au).j U).j N).j G).j H).j cu).j cw).w, rfl, (cv.up cw), e6, hm⟩)
      ·refine rg (mv (cutV d (h : Int).toNat (C : Int).toNat (Rp.sz (Str))) rfl (mv (cutV b (k : Int).toNat (a : Int).toNat (Rp.sz (Str))) rfl (ca hm (fun _ => p152 r110 r103) fun f6 e7 hm bw => ?_)))
       have cx := bw.o
       refine mb rfl (bs hm (fun V hm => ?_) fun V hm => ?_)
       ·exact psk 3 V rfl (Pb V rfl (Nb rfl ((ag) ⟨true, e7, rfl, bw, rfl, hm⟩)))
       ·exact wak 3 V (mv (cutV d (h : Int).toNat (C : Int).toNat (Rp.sz (Str))) rfl (mv (cutV e (i : Int).toNat (D : Int).toNat (Rp.sz (Str))) rfl (ca hm (fun _ => p152 (r110.ul cx) (r117.ul cx)) fun e8 e9 hm fb => Pb V rfl (Nb rfl ((ag) ⟨e8, e9, rfl, (bw.j fb).w, rfl, hm⟩)))))
   ·refine rg (mv O rfl (mi rfl ?_))
    obtain ⟨f7, cy, hm⟩ := ob hm
    refine Lw.r rfl (R.ix (α := Int) a8.rd cy rfl rfl rfl) (Lw.r rfl (R.ld rfl rfl (a8.rd.at_ cy).int) (Lw.lt rfl (mb rfl (bs hm (fun W hm => ?_) fun W hm => ?_))))
    ·exact psk 5 W rfl (Pb W rfl (nl ((ag) ⟨true, x, rfl, Le.refl _ _, rfl, hm⟩)))
    ·refine wak 5 W (mv Z rfl (mi rfl ?_))
     obtain ⟨fc, cz, hm⟩ := ob hm
     exact Lw.r rfl (R.ix (α := Int) a9.rd cz rfl rfl rfl) (Lw.r rfl (R.ld rfl rfl (a9.rd.at_ cz).int) (Lw.lt rfl (Pb W rfl (nl ((ag) ⟨decide ((fc : Int) < (0 : Int)), x, rfl, Le.refl _ _, rfl, hm⟩)))))
 ·refine Cw.exit ?_
  rw [dj] at hm
  refine sr (lz a6 rfl (Nv A rfl ?_))
  cases hm
  exact Cw.ret (zhB rfl (Res.mk cb ⟨A, rfl, a5.s.sub rfl rfl⟩))
theorem p250 {x0 b x1 d x2 f k0 r} (h : Rd W K [b] x0) (i : Rd W K [d] x1) (k : Rd W K [f] x2) (hm : Vm.zf4 x0 x1 x2 = some r) : Q1 250 [b, d, f] W [] fun W' v => ∃ a, v = a ∧ Ow W' k0 [] [a] r :=
 (c250 (h.view _) (i.view _) (k.view _) hm).ad (fk k0) fun _ _ ⟨a, e, x⟩ => ⟨a, e, x.back (zfR _)⟩
theorem c222 {x0 a b d e r} (i : Rd W0 [0] [vB x0.Clash, a, b, d, e] x0) (hm : Vm.zfa x0 = some r) : Q0 222 [.agg [vB x0.Clash, a, b, d, e].toArray] W0 fun Wf v => ∃ f, v = .tuple [f, vB r.2].toArray ∧ OwS Wf LL [] [f] r.1 := by
 unfold Vm.zfa at hm
 obtain ⟨y, z, A, B, h, C, D, E, F⟩ := Part.split i
 simp only [List.cons.injEq, and_true, true_and] at h
 obtain ⟨rfl, rfl, rfl, rfl⟩ := h
 refine zaj.of Tryz.func222 rfl rfl rfl rfl (sr (bo 2 rfl fun G H k I => ?_))
 have x := k.o
 refine Gv (.slice none 0 0) rfl (Nb rfl (sr (Gv (.slice none 0 0) rfl (Nb rfl ?_))))
 cases hm
 exact Cw.ret (zoI rfl rfl (Res.mk x ⟨.slice none 0 0, rfl, (zm5 []).sub rfl rfl⟩))
theorem p222 {x0 b d f h k0 r} (i : Rd W K [vB x0.Clash, b, d, f, h] x0) (hm : Vm.zfa x0 = some r) : Q1 222 [.agg [vB x0.Clash, b, d, f, h].toArray] W [] fun W' v => ∃ a, v = .tuple [a, vB r.2].toArray ∧ Ow W' k0 [] [a] r.1 :=
 (c222 (i.view _) hm).ad (fk k0) fun _ _ ⟨a, e, k⟩ => ⟨a, e, k.back (zfR _)⟩
theorem c221_222 {x0 C x1 D x2 E r} (h0 : Rd W0 [0] [C] x0) (h1 : Rd W0 [0] [D] x1) (h2 : Rd W0 [0] [E] x2) (hm : Vm.zbl x0 x1 x2 = some r) : Q0 221 [C, D, E, .func (.func 222) #[] [].toArray] W0 fun Wf v => ∃ u0, v = .tuple [u0, vB r.2].toArray ∧ OwS Wf LL [] [u0] r.1 := by
 unfold Vm.zbl at hm
 refine zaj.of Tryz.func221 rfl rfl rfl rfl (sr (Gv (.slice none 0 0) rfl (Nb rfl (ssr (mv C rfl (mv D rfl (mv E rfl (ca hm (fun _ => p249 h0 h1 h2) fun z1 W3 hm l3 => ?_))))))))
 have i := l3.o
 refine Lw.r rfl (R.not rfl) (nl (cn hm (fun hm => ?_) fun hm => ?_))
 ·refine sr (Gv (.slice none 0 0) rfl (Nb rfl ?_))
  cases hm
  exact Cw.ret (zoI rfl rfl (Res.mk i ⟨.slice none 0 0, rfl, (zm5 []).sub rfl rfl⟩))
 ·refine sk (sr (Nv (.slice none 0 0) rfl (ssr (mv C rfl (mv D rfl (mv E rfl (cr hm (fun _ => p250 (k0 := 2) (h0.ul i) (h1.ul i) (h2.ul i)) ?_)))))))
  rintro O a3 b4 hm a5 ⟨_, rfl, aj⟩
  have a6 := i.n a5
  refine Lw.ln O aj.rd rfl (mi rfl (nl (Cw.block ?_)))
  obtain ⟨P, a7, a8, a9⟩ := zp4 _ 2
  rw [← a7]
  have ak : Rd (α := List Vm.Part) P [0] [a3] O := by rw [a9]; exact (aj.rd.dye 2).sub (M := [0]) rfl
  have am := a6.t a8
  obtain ⟨ba, bb, hm⟩ := zaS hm
  refine Cw.loop 26 46 [8, 9, 10, 12, 13, 14, 15, 26] (fun m l w => ∃ k x Q F y b an ao S U z, CW.w z = w ∧ Le [6, 7, 8] P z ∧ l = [y, vB x, b, an, ao, S, U, vI F] ∧ Ow z 5 [] [y] k ∧ Ow z 6 [] [b] Q ∧ Vm.zaz O ba m k x Q F = some r) _ ⟨([] : List Str), false, ([] : List Str), 0, .slice none 0 0, .slice none 0 0, undef, undef, undef, undef, P, rfl, Le.refl _ _, rfl, owN 5 [], owN 6 [], hm⟩ ?_
  rintro (_ | b5) _ _ σ ⟨k, x, Q, F, y, b, an, ao, S, U, z, rfl, ap, rfl, bc, V, hm⟩
  ·cases hm
  unfold Vm.zaz at hm
  have G := ap.s
  refine sr (Lw.lt rfl (nl (Cw.seq (cn hm (fun hm => ?_) fun hm => ?_))))
  ·refine sk (Cw.seq (Cw.block (sr ?_)))
   obtain ⟨d, aq, hm⟩ := ob hm
   refine Lw.r rfl (R.ix (α := Part) (ak.ul G) aq rfl rfl rfl) ?_
   obtain ⟨x36, c37, _, r38⟩ := ((ak.ul G).at_ aq).cells
   obtain ⟨W, be, bg, bh, rfl, r40, r42, r44, r46⟩ := Part.split r38
   refine Lw.r rfl (R.lda c37 rfl rfl) (al 7 [vB false, .slice none 0 0, .slice none 0 0, .slice none 0 0, .slice none 0 0] fun bi b6 H bj => ?_)
   have f := H.o
   refine sta bj (zaa rfl (zaa r40.oc (zaa r42.oc (zaa r44.oc (zaa r46.oc zaR))))) fun ar I X => ?_
   have h := I.s
   have au := (bc.up H).up I
   refine nl (sr (fl X rfl (Nv W rfl ?_)))
   obtain ⟨bk, bl, hm⟩ := zaS hm
   refine Cw.join 32 42 [8, 9, 13, 14, 15] (fun l w => ∃ J L Y N A Z aa B, CW.w B = w ∧ Le [8] ar B ∧ l = [N, vB L, A, Z, aa] ∧ Ow B 5 [] [N] J ∧ Rd B [0] [A] Y ∧ bk J L Y = some r) ?_ ?_
   ·rintro _ _ σ ⟨J, L, Y, N, A, Z, aa, B, rfl, av, rfl, bm, r61, hm⟩
    rw [bl] at hm
    refine rg (mv b rfl (mv A rfl ?_))
    obtain ⟨bn, bp, hm⟩ := ob hm
    refine Lw.t rfl (T.appP (α := Str) (((V.up H).up I).up av) r61 rfl rfl bp) ?_
    rintro aw _ ⟨bq, rfl, ax, br⟩
    exact Nv aw rfl (rg (Lw.add rfl (mi rfl (nl ((agm) ⟨J, L, bn, w64 (F + 1), N, aw, ptr (bx bi), A, Z, aa, bq, rfl, ((((ap.j H).j I).j av).j ax).w, rfl, (bm.up ax), br, hm⟩)))))
   ·refine sr (fl X rfl (nl (cn hm (fun hm => ?_) fun hm => ?_)))
    ·refine sr (mv (.func (.func 222) #[] [].toArray) rfl (la X ?_))
     obtain ⟨e, bu, hm⟩ := ob hm
     refine Lw.t rfl (T.callV (vals := [.agg [vB d.Clash, W, be, bg, bh].toArray]) (caps := []) rfl rfl (p222 (k0 := 8) (Part.rd (K := [0]) d.Clash d.Lines d.Old d.One d.Two (r40.ul (f.trans h)) (r42.ul (f.trans h)) (r44.ul (f.trans h)) (r46.ul (f.trans h))) bu)) ?_
     rintro _ _ ⟨b7, rfl, ac, ⟨a, rfl, bv⟩⟩
     have bw := (((am.trans G).trans f).trans h).n ac
     refine mv (.tuple [a, vB e.2].toArray) rfl (Lw.r rfl (R.ext (vs := [a, vB e.2]) (v := a) rfl rfl) (Lw.r rfl (R.ext (vs := [a, vB e.2]) (v := vB e.2) rfl rfl) (Gv a rfl (Nb rfl (ssr (mb rfl (Lw.r rfl (R.not rfl) (nl (cn hm (fun hm => ?_) fun hm => ?_)))))))))
     ·refine sr (Gv (.slice none 0 0) rfl (Nb rfl ?_))
      cases hm
      exact Cw.ret (zoI rfl rfl (Res.mk bw ⟨.slice none 0 0, rfl, (zm5 []).sub rfl rfl⟩))
     ·refine sk (rg (mv a rfl (Nv a rfl ?_)))
      obtain ⟨ay, bz, az, b0⟩ := zp4 _ 8
      have b1 : Rd (α := List Str) ay [0] [a] e.1 := by rw [b0]; exact (bv.rd.dye 8).sub (M := [0]) rfl
      exact (ag) ⟨k, x, e.1, y, a, a, vB e.2, ay, bz, (ac.j az).w, rfl, ((au.up ac).up az), b1, hm⟩
    ·exact sk ((ag) ⟨k, x, d.Lines, y, W, S, U, ar, rfl, Le.refl _ _, rfl, au, (r40.ul (f.trans h)), hm⟩)
  ·refine Cw.exit ?_
   rw [bb] at hm
   refine ssr (mv b rfl (ca hm (fun _ => p141 (K := [6]) V.rd) fun b8 b9 hm a0 => ?_))
   have a1 := (am.trans G).n a0
   refine Lw.r rfl (R.not rfl) (nl (cn hm (fun hm => ?_) fun hm => ?_))
   ·refine sr (Gv (.slice none 0 0) rfl (Nb rfl ?_))
    cases hm
    exact Cw.ret (zoI rfl rfl (Res.mk a1 ⟨.slice none 0 0, rfl, (zm5 []).sub rfl rfl⟩))
   ·refine sk (sr (mv b rfl (Gv b rfl (Nb rfl ?_))))
    cases hm
    exact Cw.ret (zoI rfl rfl (Res.mk a1 ⟨b, rfl, (V.up a0).s.sub rfl rfl⟩))
theorem p221_222 {x0 b x1 d x2 f k0 r} (h : Rd W K [b] x0) (i : Rd W K [d] x1) (k : Rd W K [f] x2) (hm : Vm.zbl x0 x1 x2 = some r) : Q1 221 [b, d, f, .func (.func 222) #[] [].toArray] W [] fun W' v => ∃ a, v = .tuple [a, vB r.2].toArray ∧ Ow W' k0 [] [a] r.1 :=
 (c221_222 (h.view _) (i.view _) (k.view _) hm).ad (fk k0) fun _ _ ⟨a, e, x⟩ => ⟨a, e, x.back (zfR _)⟩
theorem c189 {x0 b x1 d x2 e r} (i : Rd W0 [0] [b] x0) (k : Rd W0 [0] [d] x1) (x : Rd W0 [0] [e] x2) (hm : Vm.ze2 x0 x1 x2 = some r) : Q0 189 [b, d, e] W0 fun Wf v => ∃ h, v = .tuple [h, vB r.2].toArray ∧ OwS Wf LL [] [h] r.1 := by
 unfold Vm.ze2 at hm
 refine zaj.of Tryz.func189 rfl rfl rfl rfl (sr (Gv (.slice none 0 0) rfl (Nb rfl (sr (mv b rfl (mv d rfl (mv e rfl (cr hm (fun _ => p221_222 (k0 := 2) i k x) ?_))))))))
 rintro f _ B hm y ⟨a, rfl, z⟩
 have A := y.o
 refine Lw.r rfl (R.ext (vs := [a, vB f.2]) (v := a) rfl rfl) (Lw.r rfl (R.ext (vs := [a, vB f.2]) (v := vB f.2) rfl rfl) (Gv a rfl (Nb rfl ?_)))
 cases hm
 exact Cw.ret (zoI rfl rfl (Res.mk A ⟨a, rfl, z.s.sub rfl rfl⟩))
theorem p189 {x0 b x1 d x2 f k0 r} (h : Rd W K [b] x0) (i : Rd W K [d] x1) (k : Rd W K [f] x2) (hm : Vm.ze2 x0 x1 x2 = some r) : Q1 189 [b, d, f] W [] fun W' v => ∃ a, v = .tuple [a, vB r.2].toArray ∧ Ow W' k0 [] [a] r.1 :=
 (c189 (h.view _) (i.view _) (k.view _) hm).ad (fk k0) fun _ _ ⟨a, e, x⟩ => ⟨a, e, x.back (zfR _)⟩
theorem c162 {x0 h x1 I x2 J r} (h0 : Rd W0 [0] [h, vB x0.file] x0) (h1 : Rd W0 [0] [I, vB x1.file] x1) (h2 : Rd W0 [0] [J, vB x2.file] x2) (hm : Vm.zha x0 x1 x2 = some r) : Q0 162 [.agg [h, vB x0.file].toArray, .agg [I, vB x1.file].toArray, .agg [J, vB x2.file].toArray] W0 fun Wf v => ∃ X, v = .tuple [.agg [X, vB r.1.file].toArray, vI r.2].toArray ∧ Rd Wf [0] [X] r.1.text := by
 unfold Vm.zha at hm
 obtain ⟨b7, Y, b⟩ := has.split h0
 simp only [List.cons.injEq, and_true, true_and] at Y
 obtain rfl := Y
 obtain ⟨b8, Z, i⟩ := has.split h1
 simp only [List.cons.injEq, and_true, true_and] at Z
 obtain rfl := Z
 obtain ⟨b9, aa, k⟩ := has.split h2
 simp only [List.cons.injEq, and_true, true_and] at aa
 obtain rfl := aa
 refine zaj.of Tryz.func162 rfl rfl rfl rfl (sr (bo 2 rfl fun g1 W1 l1 b1 => ?_))
 have a2 := l1.o
 refine bo 3 rfl fun g3 W3 l3 b3 => ?_
 have a4 := a2.n l3
 refine bo 4 rfl fun g6 W6 L b6 => ?_
 have a7 := a4.n L
 refine al 5 [.slice none 0 0, vB false] fun ch a6 l10 af => ?_
 have D := a7.n l10
 have N := ((b1.up l3).up L).up l10
 have O := (b3.up L).up l10
 refine Ni rfl (Cw.seq (Cw.block ?_))
 obtain ⟨a8, a9, hm⟩ := zaS hm
 refine Cw.join 10 18 [10] (fun l w => ∃ P Q, CW.w Q = w ∧ Le [] a6 Q ∧ l = [vB P] ∧ a8 P = some r) ?_ ?_
 ·rintro _ _ σ ⟨P, Q, rfl, d, rfl, hm⟩
  rw [a9] at hm
  have E := D.n d
  have F := (b6.up l10).up d
  refine cn hm (fun hm => ?_) fun hm => ?_
  ·refine sr (la F (sta (af.up d) (zaa k.oc (zaa rfl zaR)) fun ci ba bb => ?_))
   have ah := E.t ba
   refine Ni rfl ?_
   cases hm
   exact Cw.ret (zjH rfl bb rfl (Res.mk ah ⟨J, rfl, (k.ul ah)⟩))
  ·refine sr (la F (la (N.up d) (ca hm (fun _ => p188 (has.rd (K := [0]) x2.text x2.file (k.ul E)) (has.rd (K := [0]) x0.text x0.file (b.ul E))) fun cj S hm e => ?_)))
   have ai := E.n e
   have T := (O.up d).up e
   have aj := (af.up d).up e
   refine Nb rfl (cn hm (fun hm => ?_) fun hm => ?_)
   ·refine sr (la T (sta aj (zaa i.oc (zaa rfl zaR)) fun ck bc be => ?_))
    have ak := ai.t bc
    refine Ni rfl ?_
    cases hm
    exact Cw.ret (zjH rfl be rfl (Res.mk ak ⟨I, rfl, (i.ul ak)⟩))
   ·obtain ⟨bg, bh, hm⟩ := zaS hm
    refine Cw.join 25 33 [25] (fun l w => ∃ U V, CW.w V = w ∧ Le [] S V ∧ l = [vB U] ∧ bg U = some r) ?_ ?_
    ·rintro _ _ σ ⟨U, V, rfl, x, rfl, hm⟩
     rw [bh] at hm
     have f := ai.n x
     have y := ((N.up d).up e).up x
     have G := aj.up x
     refine cn hm (fun hm => ?_) fun hm => ?_
     ·refine sr (la y (sta G (zaa b.oc (zaa rfl zaR)) fun cl bi bj => ?_))
      have am := f.t bi
      refine Ni rfl ?_
      cases hm
      exact Cw.ret (zjH rfl bj rfl (Res.mk am ⟨h, rfl, (b.ul am)⟩))
     ·refine sr (fl y rfl (Lw.r rfl (R.not rfl) (Nb rfl (cn hm (fun hm => ?_) fun hm => ?_))))
      ·refine sr (la y (sta G (zaa b.oc (zaa rfl zaR)) fun cm bk bl => ?_))
       have an := f.t bk
       refine Ni rfl ?_
       cases hm
       exact Cw.ret (zjH rfl bl rfl (Res.mk an ⟨h, rfl, (b.ul an)⟩))
      ·refine sk (sr (fl y rfl (fl (T.up x) rfl (fl ((F.up e).up x) rfl (cr hm (fun _ => p189 (k0 := 6) (b.ul f) (i.ul f) (k.ul f)) ?_)))))
       rintro z _ co hm H ⟨a, rfl, W⟩
       have ao := f.n H
       refine mv (.tuple [a, vB z.2].toArray) rfl (Lw.r rfl (R.ext (vs := [a, vB z.2]) (v := a) rfl rfl) (Lw.r rfl (R.ext (vs := [a, vB z.2]) (v := vB z.2) rfl rfl) (Gv a rfl (Nb rfl (ssr (mb rfl (Lw.r rfl (R.not rfl) (nl (cn hm (fun hm => ?_) fun hm => ?_)))))))))
       ·refine sr (la (y.up H) (sta (G.up H) (zaa b.oc (zaa rfl zaR)) fun cp bm bn => ?_))
        have ap := ao.t bm
        refine Ni rfl ?_
        cases hm
        exact Cw.ret (zjH rfl bn rfl (Res.mk ap ⟨h, rfl, (b.ul ap)⟩))
       ·refine sk (sr (mv a rfl (Lw.r rfl (R.bd (zs := [.slice none 0 0, vB false]) (cs := [a, vB true]) [(0, a), (1, vB true)] rfl rfl rfl (zaD W.oc rfl (zaD rfl rfl zdN))) (sta (G.up H) (zaa W.oc (zaa rfl zaR)) fun cq aq bp => ?_))))
        have bq := ao.t aq
        refine Ni rfl ?_
        obtain ⟨br, bu, ar, bv⟩ := zp4 _ 6
        have bw : Rd (α := List Str) br [0] [a] z.1 := by rw [bv]; exact ((W.up aq).rd.dye 6).sub (M := [0]) rfl
        have bz := bq.t ar
        cases hm
        rw [← bu]
        exact Cw.ret (zjH rfl (bp.up ar) rfl (Res.mk bz ⟨a, rfl, bw⟩))
    ·refine rg (fl T rfl (Lw.r rfl (R.not rfl) (mb rfl (bs hm (fun A hm => ?_) fun A hm => ?_))))
     ·exact psk 3 A rfl (Pb A rfl (Nb rfl ((ag) ⟨true, S, rfl, Le.refl _ _, rfl, hm⟩)))
     ·exact wak 3 A (fl (F.up e) rfl (Lw.r rfl (R.not rfl) (Pb A rfl (Nb rfl ((ag) ⟨(!x2.file), S, rfl, Le.refl _ _, rfl, hm⟩)))))
 ·refine rg (la O (la N (ca hm (fun _ => p188 (has.rd (K := [0]) x1.text x1.file (i.ul D)) (has.rd (K := [0]) x0.text x0.file (b.ul D))) fun ct b0 hm B => ?_)))
  have au := D.n B
  refine mb rfl (bs hm (fun C hm => ?_) fun C hm => ?_)
  ·exact psk 3 C rfl (Pb C rfl (Nb rfl ((ag) ⟨true, b0, rfl, B, rfl, hm⟩)))
  ·exact wak 3 C (la (O.up B) (la ((b6.up l10).up B) (ca hm (fun _ => p188 (has.rd (K := [0]) x1.text x1.file (i.ul au)) (has.rd (K := [0]) x2.text x2.file (k.ul au))) fun b2 b4 hm b5 => Pb C rfl (Nb rfl ((ag) ⟨b2, b4, rfl, (B.j b5).w, rfl, hm⟩)))))
theorem p162 {x0 b x1 d x2 f r} (h : Rd W K [b, vB x0.file] x0) (i : Rd W K [d, vB x1.file] x1) (k : Rd W K [f, vB x2.file] x2) (hm : Vm.zha x0 x1 x2 = some r) : Q1 162 [.agg [b, vB x0.file].toArray, .agg [d, vB x1.file].toArray, .agg [f, vB x2.file].toArray] W [] fun W' v => ∃ a, v = .tuple [.agg [a, vB r.1.file].toArray, vI r.2].toArray ∧ Rd W' (0 :: K) [a] r.1.text :=
 (c162 (h.view _) (i.view _) (k.view _) hm).ad (fk 0) fun _ _ ⟨a, e, x⟩ => ⟨a, e, x.back rfl⟩
end Go.Sx
