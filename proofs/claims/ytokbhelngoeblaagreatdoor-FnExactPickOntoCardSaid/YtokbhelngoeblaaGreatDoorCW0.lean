/- Walks: each function answers as its model, printed by a program of ours. Conditions: the arguments read as they are given. -/
import Derived.Test.YtokbhelngoeblaaGreatDoorCTs
import Derived.Test.YtokbhelngoeblaaGreatDoorCM0
namespace Go.Sx
open Go Go.Proofs Go.Vm Rp
set_option linter.unusedVariables false
set_option linter.unusedSimpArgs false
variable {W W0 : CW} {K : List Nat}
theorem c57 {x0 x1 x2 r} (hm : Vm.zeE x0 x1 x2 = some r) : Q0 57 [vI x0, vI x1, vI x2] W0 fun Wf v => v = vB r := by
 unfold Vm.zeE at hm
 refine zau.of Tryz.func57 rfl rfl rfl rfl (sr (Nb rfl ?_))
 obtain ⟨e, f, hm⟩ := zbk hm
 refine Cw.join 7 14 [6] (fun l w => ∃ b d, CW.w d = w ∧ Le [] W0 d ∧ l = [vB b] ∧ e b = some r) ?_ ?_
 ·rintro _ _ σ ⟨b, d, rfl, h, rfl, hm⟩
  rw [f] at hm
  have i := h.o
  exact .ret (rt hm i)
 ·refine rg (mi rfl (mi rfl (Lw.ge rfl (mb rfl (bs hm (fun a hm => ?_) fun a hm => ?_)))))
  ·exact wak 3 a (mi rfl (mi rfl (Lw.le rfl (Pb a rfl (Nb rfl ((ag) ⟨decide ((x0 : Int) ≤ (x2 : Int)), W0, rfl, Le.refl _ _, rfl, hm⟩))))))
  ·exact psk 3 a rfl (Pb a rfl (Nb rfl ((ag) ⟨false, W0, rfl, Le.refl _ _, rfl, hm⟩)))
theorem p57 {x0 x1 x2 r} (hm : Vm.zeE x0 x1 x2 = some r) : Q1 57 [vI x0, vI x1, vI x2] W [] fun W' v => v = vB r :=
 (c57 (W0 := W.view [] [])  hm).ad (fk 0) fun _ _ e => e
theorem c113 {x0 r} (hm : Vm.zcm x0 = some r) : Q0 113 [vS x0] W0 fun Wf v => v = vB r := by
 unfold Vm.zcm at hm
 refine zau.of Tryz.func113 rfl rfl rfl rfl (sr (Nb rfl (ssr (Ni rfl (Cw.block ?_)))))
 obtain ⟨B, C, hm⟩ := zbk hm
 refine Cw.loop 4 31 [2, 3] (fun m l w => ∃ h i a, CW.w a = w ∧ Le [] W0 a ∧ l = [vB h, vI i] ∧ Vm.zcs x0 B m h i = some r) _ ⟨false, 0, W0, rfl, Le.refl _ _, rfl, hm⟩ ?_
 rintro (_ | Q) _ _ σ ⟨h, i, a, rfl, y, rfl, hm⟩
 ·cases hm
 unfold Vm.zcs at hm
 have z := y.o
 refine ssr (mi rfl (ms rfl (Lw.r rfl (R.lenS rfl) (Lw.lt rfl (nl (cn hm (fun hm => ?_) fun hm => ?_))))))
 ·refine sk (Cw.seq (Cw.block ?_))
  obtain ⟨D, E, hm⟩ := zbk hm
  refine Cw.join 10 31 [31] (fun l w => ∃ x k, CW.w k = w ∧ Le [] a k ∧ l = [vB x] ∧ D x = some r) ?_ ?_
  ·rintro _ _ σ ⟨x, k, rfl, A, rfl, hm⟩
   rw [E] at hm
   have F := z.n A
   refine cn hm (fun hm => ?_) fun hm => ?_
   ·exact sr (Nb rfl (.ret (rt hm F)))
   ·exact sk (rg (mi rfl (Lw.add rfl (Ni rfl ((agm) ⟨h, w64 (i + 1), k, rfl, (y.j A).w, rfl, hm⟩)))))
  ·refine rg (ms rfl (mi rfl ?_))
   obtain ⟨S, G, hm⟩ := ob hm
   refine Lw.r rfl (R.chm G rfl rfl) (Lw.lt rfl (mb rfl (bs hm (fun d hm => ?_) fun d hm => ?_)))
   ·refine psk 4 d rfl (Pb d rfl (mb rfl (wak 5 rfl (ms rfl (mi rfl ?_)))))
    obtain ⟨T, H, hm⟩ := ob hm
    refine Lw.r rfl (R.chm H rfl rfl) (Lw.lt rfl (mb rfl (bs hm (fun e hm => ?_) fun e hm => ?_)))
    ·exact psk 4 e rfl (wak 1 rfl (Pb e rfl (Pb rfl rfl (nl ((ag) ⟨true, a, rfl, Le.refl _ _, rfl, hm⟩)))))
    ·refine wak 4 e (ms rfl (mi rfl ?_))
     obtain ⟨I, J, hm⟩ := ob hm
     exact Lw.r rfl (R.chm J rfl rfl) (Lw.gt rfl (wak 1 rfl (Pb e rfl (Pb rfl rfl (nl ((ag) ⟨decide ((57 : Int) < ((UInt8.toNat I : Int) : Int)), a, rfl, Le.refl _ _, rfl, hm⟩))))))
   ·refine wak 4 d (ms rfl (mi rfl ?_))
    obtain ⟨U, K, hm⟩ := ob hm
    refine Lw.r rfl (R.chm K rfl rfl) (Lw.gt rfl (Pb d rfl (mb rfl (bs hm (fun b hm => ?_) fun b hm => ?_))))
    ·refine wak 5 b (ms rfl (mi rfl ?_))
     obtain ⟨V, L, hm⟩ := ob hm
     refine Lw.r rfl (R.chm L rfl rfl) (Lw.lt rfl (mb rfl (bs hm (fun f hm => ?_) fun f hm => ?_)))
     ·exact psk 4 f rfl (wak 1 b (Pb f rfl (Pb b rfl (nl ((ag) ⟨true, a, rfl, Le.refl _ _, rfl, hm⟩)))))
     ·refine wak 4 f (ms rfl (mi rfl ?_))
      obtain ⟨M, N, hm⟩ := ob hm
      exact Lw.r rfl (R.chm N rfl rfl) (Lw.gt rfl (wak 1 b (Pb f rfl (Pb b rfl (nl ((ag) ⟨decide ((57 : Int) < ((UInt8.toNat M : Int) : Int)), a, rfl, Le.refl _ _, rfl, hm⟩))))))
    ·exact psk 5 b rfl (puk 4 rfl (psk 1 b rfl (Pb b rfl (nl ((ag) ⟨false, a, rfl, Le.refl _ _, rfl, hm⟩)))))
 ·refine Cw.exit ?_
  rw [C] at hm
  refine sr (ms rfl (Lw.r rfl (R.lenS rfl) (ca hm (fun _ => p57) fun W X hm O => ?_)))
  have P := z.n O
  exact Nb rfl (.ret (rt hm P))
theorem p113 {x0 r} (hm : Vm.zcm x0 = some r) : Q1 113 [vS x0] W [] fun W' v => v = vB r :=
 (c113 (W0 := W.view [] [])  hm).ad (fk 0) fun _ _ e => e
theorem c180 {x0 x1 x2 r} (hm : Vm.zhH x0 x1 x2 = some r) : Q0 180 [vS x0, .int .u8 (UInt8.toNat x1 : Int), vI x2] W0 fun Wf v => ∃ D, v = D ∧ OwS Wf LL [] [D] r := by
 unfold Vm.zhH at hm
 refine zau.of Tryz.func180 rfl rfl rfl rfl (sr (Nv (.slice none 0 0) rfl (sr (Lw.t rfl (T.lit0 (α := Str) 2 []) ?_))))
 rintro E _ ⟨F, rfl, O, P⟩
 have Q := O.o
 refine Nv E rfl (sr (Ni rfl (ssr (Ni rfl (Cw.block ?_)))))
 obtain ⟨S, U, hm⟩ := zbk hm
 refine Cw.loop 11 36 [7, 8, 9] (fun m l w => ∃ d k e a b, CW.w b = w ∧ Le [2] F b ∧ l = [a, vI k, vI e] ∧ Ow b 2 [] [a] d ∧ Vm.zeF x0 x1 x2 S m d k e = some r) _ ⟨([] : List Str), 0, 0, E, F, rfl, Le.refl _ _, rfl, P, hm⟩ ?_
 rintro (_ | ay) _ _ σ ⟨d, k, e, a, b, rfl, G, rfl, H, hm⟩
 ·cases hm
 unfold Vm.zeF at hm
 have V := Q.t G
 refine Cw.seq ?_
 obtain ⟨W, X, hm⟩ := zbk hm
 refine Cw.join 11 20 [20] (fun l w => ∃ A f, CW.w f = w ∧ Le [] b f ∧ l = [vB A] ∧ W A = some r) ?_ ?_
 ·rintro _ _ σ ⟨A, f, rfl, B, rfl, hm⟩
  rw [X] at hm
  have Y := V.n B
  have C := H.up B
  refine cn hm (fun hm => ?_) fun hm => ?_
  ·refine sk ?_
   obtain ⟨Z, aa, hm⟩ := zbk hm
   refine Cw.join 23 36 [7, 8] (fun l w => ∃ x y z h, CW.w h = w ∧ Le [2] f h ∧ l = [z, vI y] ∧ Ow h 2 [] [z] x ∧ Z x y = some r) ?_ ?_
   ·rintro _ _ σ ⟨x, y, z, h, rfl, ac, rfl, ae, hm⟩
    rw [aa] at hm
    exact rg (mi rfl (Lw.add rfl (Ni rfl ((agm) ⟨x, y, w64 (e + 1), z, h, rfl, ((G.j B).j ac).w, rfl, ae, hm⟩))))
   ·refine Cw.block (sr (ms rfl (mi rfl ?_)))
    obtain ⟨az, af, hm⟩ := ob hm
    refine Lw.r rfl (R.chm af rfl rfl) (mv (.int .u8 (UInt8.toNat x1 : Int)) rfl (Lw.eq rfl (nl (cn hm (fun hm => ?_) fun hm => ?_))))
    ·refine sr (mv a rfl (ms rfl (mi rfl (mi rfl ?_))))
     obtain ⟨I, ah, hm⟩ := ob hm
     refine Lw.r rfl (R.ss ah rfl (.inr rfl) (.inr rfl)) (Lw.t rfl (T.bs 3 [vS I] (cs := [vS I]) rfl rfl (bsv rfl)) ?_)
     rintro _ _ ⟨a0, a1, rfl, rfl, J, ai⟩
     obtain ⟨aj, ak, hm⟩ := ob hm
     refine Lw.t rfl (T.app1S (α := Str) (K' := []) (C.up J) ai (rdS _) rfl rfl ak) ?_
     rintro K _ ⟨am, rfl, an, ao⟩
     exact Nv K rfl (rg (mi rfl (Lw.add rfl (Ni rfl ((ag) ⟨aj, w64 (e + 1), K, am, rfl, (J.j an).w, rfl, ao, hm⟩)))))
    ·exact sk ((ag) ⟨d, k, a, f, rfl, Le.refl _ _, rfl, C, hm⟩)
  ·refine Cw.exit ?_
   rw [U] at hm
   refine sr (mv a rfl (ms rfl (mi rfl ?_)))
   obtain ⟨L, ap, hm⟩ := ob hm
   refine Lw.r rfl (R.ss ap rfl (.inr rfl) (.inl ⟨rfl, rfl⟩)) (Lw.t rfl (T.bs 4 [vS L] (cs := [vS L]) rfl rfl (bsv rfl)) ?_)
   rintro _ _ ⟨a3, a4, rfl, rfl, M, aq⟩
   have ar := Y.n M
   obtain ⟨a5, au, hm⟩ := ob hm
   refine Lw.t rfl (T.app1S (α := Str) (K' := []) (C.up M) aq (rdS _) rfl rfl au) ?_
   rintro N _ ⟨a6, rfl, av, aw⟩
   have ax := ar.t av
   refine Nv N rfl ?_
   cases hm
   exact Cw.ret (zjQ rfl (Res.mk ax ⟨N, rfl, aw.s.sub rfl rfl⟩))
 ·refine rg (mi rfl (ms rfl (Lw.r rfl (R.lenS rfl) (Lw.lt rfl (mb rfl (bs hm (fun i hm => ?_) fun i hm => ?_))))))
  ·exact wak 4 i (mv a rfl (Lw.ln d H.rd rfl (mi rfl (Lw.lt rfl (Pb i rfl (nl ((ag) ⟨decide (((d.length : Int) : Int) < (x2 : Int)), b, rfl, Le.refl _ _, rfl, hm⟩)))))))
  ·exact psk 4 i rfl (Pb i rfl (nl ((ag) ⟨false, b, rfl, Le.refl _ _, rfl, hm⟩)))
theorem p180 {x0 x1 x2 k0 r} (hm : Vm.zhH x0 x1 x2 = some r) : Q1 180 [vS x0, .int .u8 (UInt8.toNat x1 : Int), vI x2] W [] fun W' v => ∃ a, v = a ∧ Ow W' k0 [] [a] r :=
 (c180 (W0 := W.view [] [])  hm).ad (fk k0) fun _ _ ⟨a, e, b⟩ => ⟨a, e, b.back (ziE _)⟩
theorem c145 {x0 r} (hm : Vm.zcZ x0 = some r) : Q0 145 [vS x0] W0 fun Wf v => v = vB r := by
 unfold Vm.zcZ at hm
 refine zau.of Tryz.func145 rfl rfl rfl rfl (sr (Nb rfl (sr (ms rfl (cr hm (fun _ => p180 (k0 := 2)) ?_)))))
 rintro f a k hm A ⟨_, rfl, B⟩
 have C := A.o
 refine Nv a rfl (ssr (Ni rfl (Cw.block ?_)))
 obtain ⟨D, E, hm⟩ := zbk hm
 refine Cw.loop 7 18 [2, 4] (fun m l w => ∃ b d h, CW.w h = w ∧ Le [] k h ∧ l = [vB b, vI d] ∧ Vm.zct f D m b d = some r) _ ⟨false, 0, k, rfl, Le.refl _ _, rfl, hm⟩ ?_
 rintro (_ | H) _ _ σ ⟨b, d, h, rfl, i, rfl, hm⟩
 ·cases hm
 unfold Vm.zct at hm
 have x := C.n i
 have e := B.up i
 refine ssr (mi rfl (mv a rfl (Lw.ln f e.rd rfl (Lw.lt rfl (nl (cn hm (fun hm => ?_) fun hm => ?_))))))
 ·refine sk (Cw.seq (Cw.block (sr (mv a rfl (mi rfl ?_)))))
  obtain ⟨I, y, hm⟩ := ob hm
  refine Lw.r rfl (R.ix (α := Str) e.rd y rfl rfl rfl) (Lw.r rfl (R.ld rfl rfl (e.rd.at_ y).str) (ca hm (fun _ => p113) fun J F hm z => ?_))
  have G := x.n z
  refine Lw.r rfl (R.not rfl) (nl (cn hm (fun hm => ?_) fun hm => ?_))
  ·exact sr (Nb rfl (.ret (rt hm G)))
  ·exact sk (rg (mi rfl (Lw.add rfl (Ni rfl ((agm) ⟨b, w64 (d + 1), F, rfl, (i.j z).w, rfl, hm⟩)))))
 ·refine Cw.exit ?_
  rw [E] at hm
  exact sr (mv a rfl (Lw.ln f e.rd rfl (Lw.le rfl (Nb rfl (.ret (rt hm x))))))
theorem p145 {x0 r} (hm : Vm.zcZ x0 = some r) : Q1 145 [vS x0] W [] fun W' v => v = vB r :=
 (c145 (W0 := W.view [] [])  hm).ad (fk 0) fun _ _ e => e
theorem c191 {x0 r} (hm : Vm.zge x0 = some r) : Q0 191 [vS x0] W0 fun Wf v => v = vB r := by
 unfold Vm.zge at hm
 refine zau.of Tryz.func191 rfl rfl rfl rfl (sr (Nb rfl (ssr (Ni rfl (Cw.block ?_)))))
 obtain ⟨y, z, hm⟩ := zbk hm
 refine Cw.loop 4 19 [2, 3] (fun m l w => ∃ d e a, CW.w a = w ∧ Le [] W0 a ∧ l = [vB d, vI e] ∧ Vm.zcu x0 y m d e = some r) _ ⟨false, 0, W0, rfl, Le.refl _ _, rfl, hm⟩ ?_
 rintro (_ | G) _ _ σ ⟨d, e, a, rfl, i, rfl, hm⟩
 ·cases hm
 unfold Vm.zcu at hm
 have k := i.o
 refine ssr (mi rfl (ms rfl (Lw.r rfl (R.lenS rfl) (Lw.lt rfl (nl (cn hm (fun hm => ?_) fun hm => ?_))))))
 ·refine sk (Cw.seq (Cw.block ?_))
  obtain ⟨A, B, hm⟩ := zbk hm
  refine Cw.join 10 19 [19] (fun l w => ∃ h f, CW.w f = w ∧ Le [] a f ∧ l = [vB h] ∧ A h = some r) ?_ ?_
  ·rintro _ _ σ ⟨h, f, rfl, x, rfl, hm⟩
   rw [B] at hm
   have C := k.n x
   refine cn hm (fun hm => ?_) fun hm => ?_
   ·exact sr (Nb rfl (.ret (rt hm C)))
   ·exact sk (rg (mi rfl (Lw.add rfl (Ni rfl ((agm) ⟨d, w64 (e + 1), f, rfl, (i.j x).w, rfl, hm⟩)))))
  ·refine rg (ms rfl (mi rfl ?_))
   obtain ⟨H, D, hm⟩ := ob hm
   refine Lw.r rfl (R.chm D rfl rfl) (Lw.lt rfl (mb rfl (bs hm (fun b hm => ?_) fun b hm => ?_)))
   ·exact psk 4 b rfl (Pb b rfl (nl ((ag) ⟨true, a, rfl, Le.refl _ _, rfl, hm⟩)))
   ·refine wak 4 b (ms rfl (mi rfl ?_))
    obtain ⟨E, F, hm⟩ := ob hm
    exact Lw.r rfl (R.chm F rfl rfl) (Lw.gt rfl (Pb b rfl (nl ((ag) ⟨decide ((126 : Int) < ((UInt8.toNat E : Int) : Int)), a, rfl, Le.refl _ _, rfl, hm⟩))))
 ·refine Cw.exit ?_
  rw [z] at hm
  exact sr (ms rfl (Lw.r rfl (R.lenS rfl) (Lw.le rfl (Nb rfl (.ret (rt hm k))))))
theorem p191 {x0 r} (hm : Vm.zge x0 = some r) : Q1 191 [vS x0] W [] fun W' v => v = vB r :=
 (c191 (W0 := W.view [] [])  hm).ad (fk 0) fun _ _ e => e
theorem c166 {x0 a r} (y : Rd W0 [0] [a] x0) (hm : Vm.zdm x0 = some r) : Q0 166 [a] W0 fun Wf v => v = vB r := by
 unfold Vm.zdm at hm
 refine zau.of Tryz.func166 rfl rfl rfl rfl (sr (Nb rfl (ssr (Ni rfl (Cw.block ?_)))))
 obtain ⟨z, A, hm⟩ := zbk hm
 refine Cw.loop 4 15 [2, 3] (fun m l w => ∃ b d f, CW.w f = w ∧ Le [] W0 f ∧ l = [vB b, vI d] ∧ Vm.zdG x0 z m b d = some r) _ ⟨false, 0, W0, rfl, Le.refl _ _, rfl, hm⟩ ?_
 rintro (_ | D) _ _ σ ⟨b, d, f, rfl, i, rfl, hm⟩
 ·cases hm
 unfold Vm.zdG at hm
 have h := i.o
 refine ssr ?_
 have e := y.ul h
 refine mi rfl (mv a rfl (Lw.ln x0 e rfl (Lw.lt rfl (nl (cn hm (fun hm => ?_) fun hm => ?_)))))
 ·refine sk (Cw.seq (Cw.block (sr (mv a rfl (mi rfl ?_)))))
  obtain ⟨E, k, hm⟩ := ob hm
  refine Lw.r rfl (R.ix (α := Str) e k rfl rfl rfl) (Lw.r rfl (R.ld rfl rfl (e.at_ k).str) (ca hm (fun _ => p191) fun F B hm x => ?_))
  have C := h.n x
  refine Lw.r rfl (R.not rfl) (nl (cn hm (fun hm => ?_) fun hm => ?_))
  ·exact sr (Nb rfl (.ret (rt hm C)))
  ·exact sk (rg (mi rfl (Lw.add rfl (Ni rfl ((agm) ⟨b, w64 (d + 1), B, rfl, (i.j x).w, rfl, hm⟩)))))
 ·refine Cw.exit ?_
  rw [A] at hm
  exact sr (mv a rfl (Lw.ln x0 e rfl (Lw.le rfl (Nb rfl (.ret (rt hm h))))))
theorem p166 {x0 a r} (b : Rd W K [a] x0) (hm : Vm.zdm x0 = some r) : Q1 166 [a] W [] fun W' v => v = vB r :=
 (c166 (b.view _) hm).ad (fk 0) fun _ _ e => e
theorem c167 {x0 x1 r} (hm : Vm.zhl x0 x1 = some r) : Q0 167 [vS x0, vS x1] W0 fun Wf v => v = vB r := by
 unfold Vm.zhl at hm
 refine zau.of Tryz.func167 rfl rfl rfl rfl (sr (Nb rfl ?_))
 obtain ⟨f, h, hm⟩ := zbk hm
 refine Cw.join 5 24 [4] (fun l w => ∃ d e, CW.w e = w ∧ Le [] W0 e ∧ l = [vB d] ∧ f d = some r) ?_ ?_
 ·rintro _ _ σ ⟨d, e, rfl, i, rfl, hm⟩
  rw [h] at hm
  have k := i.o
  exact .ret (rt hm k)
 ·refine rg (ms rfl (Lw.r rfl (R.lenS rfl) (ms rfl (Lw.r rfl (R.lenS rfl) (Lw.gt rfl (mb rfl (bs hm (fun a hm => ?_) fun a hm => ?_)))))))
  ·refine wak 6 a (ms rfl (ms rfl (Lw.r rfl (R.lenS rfl) ?_)))
   obtain ⟨A, x, hm⟩ := ob hm
   refine Lw.r rfl (R.ss x rfl (.inl ⟨rfl, rfl⟩) (.inr rfl)) (ms rfl (Lw.seq rfl (Pb a rfl (mb rfl (bs hm (fun b hm => ?_) fun b hm => ?_)))))
   ·refine wak 5 b (ms rfl (ms rfl (Lw.r rfl (R.lenS rfl) ?_)))
    obtain ⟨y, z, hm⟩ := ob hm
    exact Lw.r rfl (R.chm z rfl rfl) (Lw.eq rfl (Pb b rfl (Nb rfl ((ag) ⟨(((UInt8.toNat y : Int) : Int) == (47 : Int)), W0, rfl, Le.refl _ _, rfl, hm⟩))))
   ·exact psk 5 b rfl (Pb b rfl (Nb rfl ((ag) ⟨false, W0, rfl, Le.refl _ _, rfl, hm⟩)))
  ·exact psk 6 a rfl (Pb a rfl (mb rfl (psk 5 rfl rfl (Pb rfl rfl (Nb rfl ((ag) ⟨false, W0, rfl, Le.refl _ _, rfl, hm⟩))))))
theorem p167 {x0 x1 r} (hm : Vm.zhl x0 x1 = some r) : Q1 167 [vS x0, vS x1] W [] fun W' v => v = vB r :=
 (c167 (W0 := W.view [] [])  hm).ad (fk 0) fun _ _ e => e
theorem c119 {x0 d r} (z : Rd W0 [0] [d] x0) (hm : Vm.zeG x0 = some r) : Q0 119 [d] W0 fun Wf v => v = vB r := by
 unfold Vm.zeG at hm
 refine zau.of Tryz.func119 rfl rfl rfl rfl (sr (Nb rfl (ssr (Ni rfl (Cw.block ?_)))))
 obtain ⟨K5, af, hm⟩ := zbk hm
 refine Cw.loop 5 61 [2, 3, 4] (fun m l w => ∃ F h U G, CW.w G = w ∧ Le [] W0 G ∧ l = [vB F, vI h, U] ∧ Vm.zdH x0 K5 m F h = some r) _ ⟨false, 0, undef, W0, rfl, Le.refl _ _, rfl, hm⟩ ?_
 rintro (_ | m6) _ _ σ ⟨F, h, U, G, rfl, V, rfl, hm⟩
 ·cases hm
 unfold Vm.zdH at hm
 have A := V.o
 refine ssr (mi rfl (mv d rfl (Lw.ln x0 (z.ul A) rfl (Lw.lt rfl (nl (cn hm (fun hm => ?_) fun hm => ?_))))))
 ·refine sk (Cw.seq (Cw.block (Cw.seq ?_)))
  obtain ⟨ah, ai, hm⟩ := zbk hm
  refine Cw.join 11 44 [44] (fun l w => ∃ J B, CW.w B = w ∧ Le [] G B ∧ l = [vB J] ∧ ah J = some r) ?_ ?_
  ·rintro _ _ σ ⟨J, B, rfl, W, rfl, hm⟩
   rw [ai] at hm
   have X := A.n W
   refine cn hm (fun hm => ?_) fun hm => ?_
   ·exact sr (Nb rfl (.ret (rt hm X)))
   ·refine sk (sr (Ni rfl (Cw.block ?_)))
    obtain ⟨aj, ak, hm⟩ := zbk hm
    refine Cw.loop 45 61 [2, 4] (fun m l w => ∃ C D H, CW.w H = w ∧ Le [] B H ∧ l = [vB C, vI D] ∧ Vm.zcj x0 h aj m C D = some r) _ ⟨F, 0, B, rfl, Le.refl _ _, rfl, hm⟩ ?_
    rintro (_ | az) _ _ σ ⟨C, D, H, rfl, K, rfl, hm⟩
    ·cases hm
    unfold Vm.zcj at hm
    have Y := X.n K
    refine ssr (mi rfl (mv d rfl (Lw.ln x0 (z.ul Y) rfl (Lw.lt rfl (nl (cn hm (fun hm => ?_) fun hm => ?_))))))
    ·refine sk (Cw.seq (Cw.block (Cw.seq (Cw.draw [] [(0, 0), (1, 0), (2, 0), (3, 0), (4, 1), (5, 0), (6, 0), (7, 0), (8, 0), (9, 1), (10, 3)] mixed (by kernel_rfl) fun a0 Z => ?_))))
     have aa := Y.n Z
     refine Dv d rfl (Di rfl ?_)
     obtain ⟨a1, L, hm⟩ := ob hm
     have i := z.ul aa
     refine Mw.p rfl rfl (fun _ => R.ix (α := File) i L rfl rfl rfl) (Df rfl (Mw.q rfl rfl (fun _ c => R.ld rfl rfl (zaz (File.at0 (i.at_ L)).1 rfl (File.at0 (i.at_ L)).str c)) (Dv d rfl (Di rfl ?_))))
     obtain ⟨a2, M, hm⟩ := ob hm
     refine Mw.p rfl rfl (fun _ => R.ix (α := File) i M rfl rfl rfl) (Df rfl (Mw.q rfl rfl (fun _ c => R.ld rfl rfl (zaz (File.at0 (i.at_ M)).1 rfl (File.at0 (i.at_ M)).str c)) ?_))
     obtain ⟨a3, am, hm⟩ := ob hm
     refine Mw.l rfl rfl (T.call rfl (p167   am)) ?_
     rintro _ _ ⟨an, rfl, ac, rfl⟩
     have ao := aa.n ac
     refine Mw.nil (cn hm (fun hm => ?_) fun hm => ?_)
     ·exact sr (Nb rfl (.ret (rt hm ao)))
     ·exact sk (rg (mi rfl (Lw.add rfl (Ni rfl ((agm) ⟨C, w64 (D + 1), an, rfl, ((K.j Z).j ac).w, rfl, hm⟩)))))
    ·refine Cw.exit ?_
     rw [ak] at hm
     exact rg (mi rfl (Lw.add rfl (Ni rfl ((agm) ⟨C, w64 (h + 1), vI D, H, rfl, ((V.j W).j K).w, rfl, hm⟩))))
  ·refine Cw.draw [] [(0, 0), (1, 0), (2, 0), (3, 0), (4, 1), (5, 2), (6, 0), (7, 0), (8, 0), (9, 0), (10, 0), (11, 0), (12, 1), (13, 2), (14, 0), (15, 0), (16, 0), (17, 0), (18, 0), (19, 0), (20, 0), (21, 0), (22, 0), (23, 0), (24, 1), (25, 0), (26, 0), (27, 0), (28, 0), (29, 0), (30, 1), (31, 0), (32, 0), (33, 0)] mixed (by kernel_rfl) fun a4 E => ?_
   have ap := A.n E
   refine Dv d rfl (Di rfl ?_)
   obtain ⟨a5, N, hm⟩ := ob hm
   have b := z.ul ap
   refine Mw.p rfl rfl (fun _ => R.ix (α := File) b N rfl rfl rfl) (Df rfl (Mw.q rfl rfl (fun _ c => R.ld rfl rfl (zaz (File.at0 (b.at_ N)).1 rfl (File.at0 (b.at_ N)).str c)) ?_))
   obtain ⟨a6, aq, hm⟩ := ob hm
   refine Mw.t rfl rfl (T.call rfl (p145   aq)) ?_
   rintro _ _ ⟨ar, rfl, k, rfl⟩
   have au := k.o
   refine m0 k fun av => Mw.p rfl rfl (fun _ => R.not rfl) (Db rfl (bs hm (fun e hm => ?_) fun e hm => ?_))
   ·exact dps 7 e rfl (Mw.p rfl rfl (fun _ => R.pk e rfl (v := vB true) rfl) (Db rfl (dps 3 rfl rfl (dpu 12 rfl (dps 1 rfl rfl (Mw.p rfl rfl (fun _ => R.pk rfl rfl (v := vB true) rfl) (Mw.nil ((ag) ⟨true, ar, rfl, (E.j k).w, rfl, hm⟩))))))))
   ·refine Wp e rfl (fun _ => R.mv (v := d) rfl) (Wp e rfl (fun _ => R.mv (v := vI h) rfl) ?_)
    obtain ⟨a8, O, hm⟩ := ob hm
    refine Wp e rfl (fun _ => R.ix (α := File) b O rfl rfl rfl) (Wp e rfl (fun _ => R.fa rfl) ?_)
    obtain ⟨a9, c48, r49⟩ := (File.at1 (b.at_ O)).cell rfl
    refine Wq e rfl (fun _ c => R.ld rfl rfl (zaz (File.at1 (b.at_ O)).1 rfl c48 c)) ?_
    obtain ⟨aw, ax, hm⟩ := ob hm
    refine Wt e rfl (T.call rfl (p166  (r49.ul au) ax)) ?_
    rintro _ _ ⟨P, rfl, I, rfl⟩
    refine mc av I fun ba => Wp e rfl (fun _ => R.not rfl) (Mw.p rfl rfl (fun _ => R.pk e rfl (v := vB (!aw)) rfl) (Db rfl (bs hm (fun f hm => ?_) fun f hm => ?_)))
    ·exact dps 3 f rfl (dpu 12 rfl (dps 1 f rfl (Mw.p rfl rfl (fun _ => R.pk f rfl (v := vB true) rfl) (Mw.nil ((ag) ⟨true, P, rfl, ((E.j k).j I).w, rfl, hm⟩)))))
    ·refine Wp f rfl (fun _ => R.mv (v := vI h) rfl) (Wp f rfl (fun _ => R.gt rfl rfl) (Wp f rfl (fun _ => R.mv (v := vB (decide ((0 : Int) < (h : Int)))) rfl) (bs hm (fun a hm => ?_) fun a hm => ?_)))
     ·refine Wp a rfl (fun _ => R.mv (v := d) rfl) (Wp a rfl (fun _ => R.mv (v := vI h) rfl) ?_)
      obtain ⟨x, Q, hm⟩ := ob hm
      refine Wp a rfl (fun _ => R.ix (α := File) b Q rfl rfl rfl) (Wp a rfl (fun _ => R.fa rfl) (Wq a rfl (fun _ c => R.ld rfl rfl (zaz (File.at0 (b.at_ Q)).1 rfl (File.at0 (b.at_ Q)).str c)) (Wp a rfl (fun _ => R.mv (v := d) rfl) (Wp a rfl (fun _ => R.mv (v := vI h) rfl) (Wp a rfl (fun _ => R.sub rfl rfl) ?_)))))
      obtain ⟨y, S, hm⟩ := ob hm
      exact Wp a rfl (fun _ => R.ix (α := File) b S rfl rfl rfl) (Wp a rfl (fun _ => R.fa rfl) (Wq a rfl (fun _ c => R.ld rfl rfl (zaz (File.at0 (b.at_ S)).1 rfl (File.at0 (b.at_ S)).str c)) (Wp a rfl (fun _ => R.sle rfl rfl) (Wp f rfl (fun _ => R.pk a rfl (v := vB (Op.bytesLess x.Path y.Path || x.Path == y.Path)) rfl) (Mw.p rfl rfl (fun _ => R.pk f rfl (v := vB (Op.bytesLess x.Path y.Path || x.Path == y.Path)) rfl) (Mw.nil ((ag) ⟨(Op.bytesLess x.Path y.Path || x.Path == y.Path), P, rfl, ((E.j k).j I).w, rfl, hm⟩)))))))
     ·exact dps 12 a rfl (Wp f rfl (fun _ => R.pk a rfl (v := vB false) rfl) (Mw.p rfl rfl (fun _ => R.pk f rfl (v := vB false) rfl) (Mw.nil ((ag) ⟨false, P, rfl, ((E.j k).j I).w, rfl, hm⟩))))
 ·refine Cw.exit ?_
  rw [af] at hm
  exact sr (mv d rfl (Lw.ln x0 (z.ul A) rfl (Lw.le rfl (Nb rfl (.ret (rt hm A))))))
theorem p119 {x0 a r} (b : Rd W K [a] x0) (hm : Vm.zeG x0 = some r) : Q1 119 [a] W [] fun W' v => v = vB r :=
 (c119 (b.view _) hm).ad (fk 0) fun _ _ e => e
theorem c55 {x0 ah F r} (h0 : Rd W0 [0] [ah, F] x0) (hm : Vm.zc7 x0 = some r) : Q0 55 [.agg [ah, F].toArray] W0 fun Wf v => v = vB r := by
 unfold Vm.zc7 at hm
 obtain ⟨c2, c3, bb, ai, aj⟩ := Repo.split h0
 simp only [List.cons.injEq, and_true, true_and] at bb
 obtain ⟨rfl, rfl⟩ := bb
 refine zau.of Tryz.func55 rfl rfl rfl rfl (sr (bo 2 rfl fun g1 W1 l1 b1 => ?_))
 have a2 := l1.o
 refine Nb rfl (ssr (Ni rfl (Cw.block ?_)))
 obtain ⟨K8, b2, hm⟩ := zbk hm
 refine Cw.loop 7 66 [2, 3, 4, 5] (fun m l w => ∃ G H j5 j6 I, CW.w I = w ∧ Le [3] W1 I ∧ l = [vB G, vI H, j5, j6] ∧ Vm.zdI x0 K8 m G H = some r) _ ⟨false, 0, undef, undef, W1, rfl, Le.refl _ _, rfl, hm⟩ ?_
 rintro (_ | m9) _ _ σ ⟨G, H, j5, j6, I, rfl, l7, rfl, hm⟩
 ·cases hm
 unfold Vm.zdI at hm
 have V := a2.t l7
 have am := b1.up l7
 refine ssr ?_
 have an := ai.ul V
 refine mi rfl (fl am rfl (Lw.ln x0.Commits an rfl (Lw.lt rfl (nl (cn hm (fun hm => ?_) fun hm => ?_)))))
 ·refine sk (Cw.seq (Cw.block (sr (fl am rfl (mi rfl ?_)))))
  obtain ⟨ao, bh, hm⟩ := ob hm
  refine Lw.r rfl (R.ix (α := Commit) an bh rfl rfl rfl) ?_
  obtain ⟨x16, c17, _, r18⟩ := (an.at_ bh).cells
  obtain ⟨bi, c6, rfl, r20, r22⟩ := Commit.split r18
  refine Lw.r rfl (R.lda c17 rfl rfl) (al 3 [.slice none 0 0, vS ([] : Str), .slice none 0 0] fun b3 c7 bj b4 => ?_)
  have J := bj.o
  refine sta b4 (zaa r20.oc (zaa rfl (zaa r22.oc zaF))) fun bk bl b5 => ?_
  have K := bl.s
  refine nl (ssr (Ni rfl (Cw.block ?_)))
  obtain ⟨b6, b7, hm⟩ := zbk hm
  refine Cw.loop 19 50 [2, 5] (fun m l w => ∃ L x z, CW.w z = w ∧ Le [] bk z ∧ l = [vB L, vI x] ∧ Vm.zck H ao b6 m L x = some r) _ ⟨G, 0, bk, rfl, Le.refl _ _, rfl, hm⟩ ?_
  rintro (_ | c8) _ _ σ ⟨L, x, z, rfl, W, rfl, hm⟩
  ·cases hm
  unfold Vm.zck at hm
  have M := W.o
  have N := b5.up W
  refine ssr ?_
  have bm := r20.ul ((J.trans K).trans M)
  refine mi rfl (fl N rfl (Lw.ln ao.Parents bm rfl (Lw.lt rfl (nl (cn hm (fun hm => ?_) fun hm => ?_)))))
  ·refine sk (Cw.seq (Cw.block ?_))
   obtain ⟨b8, b9, hm⟩ := zbk hm
   refine Cw.join 26 50 [50] (fun l w => ∃ ap X, CW.w X = w ∧ Le [] z X ∧ l = [vB ap] ∧ b8 ap = some r) ?_ ?_
   ·rintro _ _ σ ⟨ap, X, rfl, bn, rfl, hm⟩
    rw [b9] at hm
    have cb := (((V.trans J).trans K).trans M).n bn
    refine cn hm (fun hm => ?_) fun hm => ?_
    ·exact sr (Nb rfl (.ret (rt hm cb)))
    ·exact sk (rg (mi rfl (Lw.add rfl (Ni rfl ((agm) ⟨L, w64 (x + 1), X, rfl, (W.j bn).w, rfl, hm⟩)))))
   ·refine Cw.draw [] [(0, 0), (1, 1), (2, 0), (3, 0), (4, 1), (5, 0), (6, 0), (7, 2), (8, 0), (9, 0), (10, 0), (11, 0), (12, 0), (13, 0), (14, 1), (15, 0), (16, 0), (17, 1), (18, 0), (19, 1), (20, 0), (21, 1), (22, 0), (23, 0), (24, 0)] mixed (by kernel_rfl) fun c9 O => ?_
    have cc := ((J.trans K).trans M).n O
    have aq := N.up O
    refine Dfl aq rfl rfl rfl (Di rfl ?_)
    obtain ⟨da, ar, hm⟩ := ob hm
    have i := r20.ul cc
    refine Mw.p rfl rfl (fun _ => R.ix (α := Int) i ar rfl rfl rfl) (Mw.q rfl rfl (fun _ c => R.ld rfl rfl (zaz (i.at_ ar).1 rfl (i.at_ ar).int c)) (Di rfl (Mw.p rfl rfl (fun _ => R.sub rfl rfl) (Dc hm (Le.refl _ _) (fun _ => p57) rfl ?_))))
    rintro db _ au hm av rfl dc
    refine Mw.p rfl rfl (fun _ => R.not rfl) (Db rfl (bs hm (fun f hm => ?_) fun f hm => ?_))
    ·exact dps 3 f rfl (dpu 10 rfl (dps 1 f rfl (Mw.p rfl rfl (fun _ => R.pk f rfl (v := vB true) rfl) (Mw.nil ((ag) ⟨true, au, rfl, (O.j av).w, rfl, hm⟩)))))
    ·refine Wp f rfl (fun _ => R.mv (v := vI x) rfl) (Wp f rfl (fun _ => R.gt rfl rfl) (Wp f rfl (fun _ => R.mv (v := vB (decide ((0 : Int) < (x : Int)))) rfl) (bs hm (fun d hm => ?_) fun d hm => ?_)))
     ·refine Wp d rfl (fun _ => R.fa rfl) (Wq d rfl (fun _ c => R.ld (v := bi) rfl rfl (aq.clc rfl rfl c)) (Wp d rfl (fun _ => R.mv (v := vI x) rfl) ?_))
      obtain ⟨aw, ax, hm⟩ := ob hm
      refine Wp d rfl (fun _ => R.ix (α := Int) i ax rfl rfl rfl) (Wq d rfl (fun _ c => R.ld rfl rfl (zaz (i.at_ ax).1 rfl (i.at_ ax).int c)) (Wp d rfl (fun _ => R.fa rfl) (Wq d rfl (fun _ c => R.ld (v := bi) rfl rfl (aq.clc rfl rfl c)) ?_)))
      obtain ⟨ay, az, hm⟩ := ob hm
      exact Wp d rfl (fun _ => R.ix (α := Int) i az rfl rfl rfl) (Wq d rfl (fun _ c => R.ld rfl rfl (zaz (i.at_ az).1 rfl (i.at_ az).int c)) (Wp d rfl (fun _ => R.eq rfl rfl) (Wp f rfl (fun _ => R.pk d rfl (v := vB ((aw : Int) == (ay : Int))) rfl) (Mw.p rfl rfl (fun _ => R.pk f rfl (v := vB ((aw : Int) == (ay : Int))) rfl) (Mw.nil ((ag) ⟨((aw : Int) == (ay : Int)), au, rfl, (O.j av).w, rfl, hm⟩))))))
     ·exact dps 10 d rfl (Wp f rfl (fun _ => R.pk d rfl (v := vB false) rfl) (Mw.p rfl rfl (fun _ => R.pk f rfl (v := vB false) rfl) (Mw.nil ((ag) ⟨false, au, rfl, (O.j av).w, rfl, hm⟩))))
  ·refine Cw.exit ?_
   rw [b7] at hm
   obtain ⟨cd, ce, hm⟩ := zbk hm
   refine Cw.join 51 66 [66] (fun l w => ∃ a0 Y, CW.w Y = w ∧ Le [] z Y ∧ l = [vB a0] ∧ cd a0 = some r) ?_ ?_
   ·rintro _ _ σ ⟨a0, Y, rfl, bp, rfl, hm⟩
    rw [ce] at hm
    have cf := (((V.trans J).trans K).trans M).n bp
    refine cn hm (fun hm => ?_) fun hm => ?_
    ·exact sr (Nb rfl (.ret (rt hm cf)))
    ·exact sk (rg (mi rfl (Lw.add rfl (Ni rfl ((agm) ⟨L, w64 (H + 1), ptr (bx b3), vI x, Y, rfl, ((((l7.j bj).j bl).j W).j bp).w, rfl, hm⟩)))))
   ·refine rg (fl N rfl (Lw.ln ao.Parents bm rfl (Lw.gt rfl (mb rfl (bs hm (fun P hm => ?_) fun P hm => ?_)))))
    ·exact psk 4 P rfl (Pb P rfl (mb rfl (psk 4 rfl rfl (Pb rfl rfl (nl ((ag) ⟨true, z, rfl, Le.refl _ _, rfl, hm⟩))))))
    ·refine wak 4 P (fl N rfl (ca hm (fun _ => p113) fun dd cg hm Z => ?_))
     have ch := ((J.trans K).trans M).n Z
     refine Lw.r rfl (R.not rfl) (Pb P rfl (mb rfl (bs hm (fun Q hm => ?_) fun Q hm => ?_)))
     ·exact psk 4 Q rfl (Pb Q rfl (nl ((ag) ⟨true, cg, rfl, Z, rfl, hm⟩)))
     ·exact wak 4 Q (fl (N.up Z) rfl (ca hm (fun _ => p119 (r22.ul ch)) fun ci cj hm ck => Lw.r rfl (R.not rfl) (Pb Q rfl (nl ((ag) ⟨(!ci), cj, rfl, (Z.j ck).w, rfl, hm⟩)))))
 ·refine Cw.exit ?_
  rw [b2] at hm
  refine ssr (Ni rfl (Cw.block ?_))
  obtain ⟨cl, cm, hm⟩ := zbk hm
  refine Cw.loop 67 115 [2, 6] (fun m l w => ∃ aa k y, CW.w y = w ∧ Le [] I y ∧ l = [vB aa, vI k] ∧ Vm.zcl x0 cl m aa k = some r) _ ⟨G, 0, I, rfl, Le.refl _ _, rfl, hm⟩ ?_
  rintro (_ | de) _ _ σ ⟨aa, k, y, rfl, a1, rfl, hm⟩
  ·cases hm
  unfold Vm.zcl at hm
  have A := V.n a1
  have ac := am.up a1
  refine ssr (mi rfl (fl ac rfl (Lw.ln x0.Heads (aj.ul A) rfl (Lw.lt rfl (nl (cn hm (fun hm => ?_) fun hm => ?_))))))
  ·refine sk (Cw.seq (Cw.block ?_))
   obtain ⟨co, cp, hm⟩ := zbk hm
   refine Cw.join 74 115 [115] (fun l w => ∃ a3 ae, CW.w ae = w ∧ Le [] y ae ∧ l = [vB a3] ∧ co a3 = some r) ?_ ?_
   ·rintro _ _ σ ⟨a3, ae, rfl, bq, rfl, hm⟩
    rw [cp] at hm
    have cq := A.n bq
    refine cn hm (fun hm => ?_) fun hm => ?_
    ·exact sr (Nb rfl (.ret (rt hm cq)))
    ·exact sk (rg (mi rfl (Lw.add rfl (Ni rfl ((agm) ⟨aa, w64 (k + 1), ae, rfl, (a1.j bq).w, rfl, hm⟩)))))
   ·refine Cw.draw [] [(0, 0), (1, 1), (2, 0), (3, 0), (4, 0), (5, 1), (6, 2), (7, 0), (8, 0), (9, 0), (10, 1), (11, 0), (12, 0), (13, 0), (14, 1), (15, 0), (16, 1), (17, 0), (18, 0), (19, 2), (20, 0), (21, 0), (22, 0), (23, 0), (24, 0), (25, 0), (26, 0), (27, 1), (28, 0), (29, 0), (30, 0), (31, 1), (32, 0), (33, 1), (34, 0), (35, 0), (36, 0), (37, 0), (38, 1), (39, 0), (40, 0), (41, 0)] mixed (by kernel_rfl) fun df B => ?_
    have br := A.n B
    have S := ac.up B
    refine Dfl S rfl rfl rfl (Di rfl ?_)
    obtain ⟨dg, a4, hm⟩ := ob hm
    have e := aj.ul br
    refine Mw.p rfl rfl (fun _ => R.ix (α := Head) e a4 rfl rfl rfl) (Df rfl (Mw.q rfl rfl (fun _ c => R.ld rfl rfl (zaz (Head.at0 (e.at_ a4)).1 rfl (Head.at0 (e.at_ a4)).str c)) ?_))
    obtain ⟨dh, cs, hm⟩ := ob hm
    refine Mw.t rfl rfl (T.call rfl (p113   cs)) ?_
    rintro _ _ ⟨ct, rfl, C, rfl⟩
    have cu := br.n C
    refine m0 C fun cv => Mw.p rfl rfl (fun _ => R.not rfl) (Db rfl (bs hm (fun b hm => ?_) fun b hm => ?_))
    ·exact dps 12 b rfl (Mw.p rfl rfl (fun _ => R.pk b rfl (v := vB true) rfl) (Db rfl (dps 3 rfl rfl (dpu 14 rfl (dps 1 rfl rfl (Mw.p rfl rfl (fun _ => R.pk rfl rfl (v := vB true) rfl) (Mw.nil ((ag) ⟨true, ct, rfl, (B.j C).w, rfl, hm⟩))))))))
    ·refine Wp b rfl (fun _ => R.fa rfl) (Wq b rfl (fun _ c => R.ld (v := F) rfl rfl (S.clc rfl rfl c)) (Wp b rfl (fun _ => R.mv (v := vI k) rfl) ?_))
     obtain ⟨di, a5, hm⟩ := ob hm
     refine Wp b rfl (fun _ => R.ix (α := Head) e a5 rfl rfl rfl) (Wp b rfl (fun _ => R.fa rfl) (Wq b rfl (fun _ c => R.ld rfl rfl (zaz (Head.at1 (e.at_ a5)).1 rfl (Head.at1 (e.at_ a5)).int c)) (Wp b rfl (fun _ => R.fa rfl) (Wq b rfl (fun _ c => R.ld (v := ah) rfl rfl (S.clc rfl rfl c)) (Wp b rfl (fun _ => zt4 (xs := x0.Commits) (ai.ul cu) rfl) (Wp b rfl (fun _ => R.sub rfl rfl) ?_))))))
     obtain ⟨cw, cx, hm⟩ := ob hm
     refine Wt b rfl (T.call rfl (p57   cx)) ?_
     rintro _ _ ⟨a6, rfl, af, rfl⟩
     refine mc cv af fun dj => Wp b rfl (fun _ => R.not rfl) (Mw.p rfl rfl (fun _ => R.pk b rfl (v := vB (!cw)) rfl) (Db rfl (bs hm (fun h hm => ?_) fun h hm => ?_)))
     ·exact dps 3 h rfl (dpu 14 rfl (dps 1 h rfl (Mw.p rfl rfl (fun _ => R.pk h rfl (v := vB true) rfl) (Mw.nil ((ag) ⟨true, a6, rfl, ((B.j C).j af).w, rfl, hm⟩)))))
     ·refine Wp h rfl (fun _ => R.mv (v := vI k) rfl) (Wp h rfl (fun _ => R.gt rfl rfl) (Wp h rfl (fun _ => R.mv (v := vB (decide ((0 : Int) < (k : Int)))) rfl) (bs hm (fun a hm => ?_) fun a hm => ?_)))
      ·refine Wp a rfl (fun _ => R.fa rfl) (Wq a rfl (fun _ c => R.ld (v := F) rfl rfl (S.clc rfl rfl c)) (Wp a rfl (fun _ => R.mv (v := vI k) rfl) ?_))
       obtain ⟨D, a7, hm⟩ := ob hm
       refine Wp a rfl (fun _ => R.ix (α := Head) e a7 rfl rfl rfl) (Wp a rfl (fun _ => R.fa rfl) (Wq a rfl (fun _ c => R.ld rfl rfl (zaz (Head.at0 (e.at_ a7)).1 rfl (Head.at0 (e.at_ a7)).str c)) (Wp a rfl (fun _ => R.fa rfl) (Wq a rfl (fun _ c => R.ld (v := F) rfl rfl (S.clc rfl rfl c)) (Wp a rfl (fun _ => R.mv (v := vI k) rfl) (Wp a rfl (fun _ => R.sub rfl rfl) ?_))))))
       obtain ⟨E, a8, hm⟩ := ob hm
       exact Wp a rfl (fun _ => R.ix (α := Head) e a8 rfl rfl rfl) (Wp a rfl (fun _ => R.fa rfl) (Wq a rfl (fun _ c => R.ld rfl rfl (zaz (Head.at0 (e.at_ a8)).1 rfl (Head.at0 (e.at_ a8)).str c)) (Wp a rfl (fun _ => R.sle rfl rfl) (Wp h rfl (fun _ => R.pk a rfl (v := vB (Op.bytesLess D.Name E.Name || D.Name == E.Name)) rfl) (Mw.p rfl rfl (fun _ => R.pk h rfl (v := vB (Op.bytesLess D.Name E.Name || D.Name == E.Name)) rfl) (Mw.nil ((ag) ⟨(Op.bytesLess D.Name E.Name || D.Name == E.Name), a6, rfl, ((B.j C).j af).w, rfl, hm⟩)))))))
      ·exact dps 14 a rfl (Wp h rfl (fun _ => R.pk a rfl (v := vB false) rfl) (Mw.p rfl rfl (fun _ => R.pk h rfl (v := vB false) rfl) (Mw.nil ((ag) ⟨false, a6, rfl, ((B.j C).j af).w, rfl, hm⟩))))
  ·refine Cw.exit ?_
   rw [cm] at hm
   obtain ⟨cy, cz, hm⟩ := zbk hm
   refine Cw.join 116 125 [2] (fun l w => ∃ a9 ba, CW.w ba = w ∧ Le [] y ba ∧ l = [vB a9] ∧ cy a9 = some r) ?_ ?_
   ·rintro _ _ σ ⟨a9, ba, rfl, c0, rfl, hm⟩
    rw [cz] at hm
    have c1 := A.n c0
    exact .ret (rt hm c1)
   ·refine rg (fl ac rfl (Lw.ln x0.Commits (ai.ul A) rfl (Lw.le rfl (mb rfl (bs hm (fun U hm => ?_) fun U hm => ?_)))))
    ·exact wak 4 U (fl ac rfl (Lw.ln x0.Heads (aj.ul A) rfl (Lw.le rfl (Pb U rfl (Nb rfl ((ag) ⟨decide (((x0.Heads.length : Int) : Int) ≤ (5 : Int)), y, rfl, Le.refl _ _, rfl, hm⟩))))))
    ·exact psk 4 U rfl (Pb U rfl (Nb rfl ((ag) ⟨false, y, rfl, Le.refl _ _, rfl, hm⟩)))
theorem p55 {x0 a b r} (d : Rd W K [a, b] x0) (hm : Vm.zc7 x0 = some r) : Q1 55 [.agg [a, b].toArray] W [] fun W' v => v = vB r :=
 (c55 (d.view _) hm).ad (fk 0) fun _ _ e => e
theorem c56 {x0 k x x1 r} (C : Rd W0 [0] [k, x] x0) (hm : Vm.zc8 x0 x1 = some r) : Q0 56 [.agg [k, x].toArray, vS x1] W0 fun Wf v => v = vI r := by
 unfold Vm.zc8 at hm
 obtain ⟨J, K, y, L, D⟩ := Repo.split C
 simp only [List.cons.injEq, and_true, true_and] at y
 obtain ⟨rfl, rfl⟩ := y
 refine zau.of Tryz.func56 rfl rfl rfl rfl (sr (bo 2 rfl fun M z E F => ?_))
 have G := E.o
 refine Ni rfl (ssr (Ni rfl (Cw.block ?_)))
 obtain ⟨H, I, hm⟩ := zbk hm
 refine Cw.loop 6 26 [4, 5] (fun m l w => ∃ b d e, CW.w e = w ∧ Le [] z e ∧ l = [vI b, vI d] ∧ Vm.zdJ x0 x1 H m b d = some r) _ ⟨0, 0, z, rfl, Le.refl _ _, rfl, hm⟩ ?_
 rintro (_ | N) _ _ σ ⟨b, d, e, rfl, f, rfl, hm⟩
 ·cases hm
 unfold Vm.zdJ at hm
 have h := G.n f
 have i := F.up f
 refine ssr ?_
 have a := D.ul h
 refine mi rfl (fl i rfl (Lw.ln x0.Heads a rfl (Lw.lt rfl (nl (cn hm (fun hm => ?_) fun hm => ?_)))))
 ·refine sk (Cw.seq (Cw.block (sr (fl i rfl (mi rfl ?_)))))
  obtain ⟨O, A, hm⟩ := ob hm
  refine Lw.r rfl (R.ix (α := Head) a A rfl rfl rfl) (Lw.fa rfl (Lw.r rfl (R.ld rfl rfl (Head.at0 (a.at_ A)).str) (ms rfl (Lw.seq rfl (nl (cn hm (fun hm => ?_) fun hm => ?_))))))
  ·refine sr (fl i rfl (mi rfl ?_))
   obtain ⟨P, B, hm⟩ := ob hm
   exact Lw.r rfl (R.ix (α := Head) a B rfl rfl rfl) (Lw.fa rfl (Lw.r rfl (R.ld rfl rfl (Head.at1 (a.at_ B)).int) (Ni rfl (.ret (rt hm h)))))
  ·exact sk (rg (mi rfl (Lw.add rfl (Ni rfl ((agm) ⟨b, w64 (d + 1), e, rfl, f, rfl, hm⟩)))))
 ·refine Cw.exit ?_
  rw [I] at hm
  exact sr (Ni rfl (.ret (rt hm h)))
theorem p56 {x0 a b x1 r} (d : Rd W K [a, b] x0) (hm : Vm.zc8 x0 x1 = some r) : Q1 56 [.agg [a, b].toArray, vS x1] W [] fun W' v => v = vI r :=
 (c56 (d.view _) hm).ad (fk 0) fun _ _ e => e
theorem c121 {x0 Q S x1 r} (h0 : Rd W0 [0] [Q, S] x0) (hm : Vm.zeK x0 x1 = some r) : Q0 121 [.agg [Q, S].toArray, vI x1] W0 fun Wf v => ∃ U, v = U ∧ OwS Wf LL [] [U] r := by
 unfold Vm.zeK at hm
 obtain ⟨b9, cb, V, k, cc⟩ := Repo.split h0
 simp only [List.cons.injEq, and_true, true_and] at V
 obtain ⟨rfl, rfl⟩ := V
 refine zau.of Tryz.func121 rfl rfl rfl rfl (sr (bo 2 rfl fun g1 W1 l1 W => ?_))
 have X := l1.o
 refine Nv (.slice none 0 0) rfl (sr (fl W rfl (Lw.ln x0.Commits (k.ul X) rfl ?_)))
 obtain ⟨q4, e5, hm⟩ := ob hm
 refine Lw.t rfl (T.mk (α := Bool) 3 [] (n := (x0.Commits.length : Int)) rfl rfl e5) ?_
 rintro a _ ⟨W6, rfl, Y, Z⟩
 have a7 := X.n Y
 refine Nv a rfl (sr (mv a rfl (mi rfl ?_)))
 obtain ⟨u9, a1, hm⟩ := ob hm
 refine Lw.r rfl (R.ix (α := Bool) Z.rd a1 rfl rfl rfl) ?_
 obtain ⟨a3, a4, hm⟩ := ob hm
 refine Lw.u (T.stS (K' := []) Z (rdB _) a4 rfl rfl rfl) ?_
 rintro _ _ ⟨aa, rfl, ac, a5⟩
 have a6 := a7.t ac
 refine nl (ssr (mi rfl (Ni rfl (Cw.block ?_))))
 obtain ⟨a8, a9, hm⟩ := zbk hm
 refine Cw.loop 18 49 [6, 7] (fun m l w => ∃ x e ae f, CW.w f = w ∧ Le [3] aa f ∧ l = [vI x, ae] ∧ Ow f 3 [] [a] e ∧ Vm.zbW x0 a8 m x e = some r) _ ⟨x1, a3, undef, aa, rfl, Le.refl _ _, rfl, a5, hm⟩ ?_
 rintro (_ | ci) _ _ σ ⟨x, e, ae, f, rfl, I, rfl, af, hm⟩
 ·cases hm
 unfold Vm.zbW at hm
 have ah := a6.t I
 refine ssr (mi rfl (Lw.ge rfl (nl (cn hm (fun hm => ?_) fun hm => ?_))))
 ·refine sk (Cw.seq (Cw.block (sr (Ni rfl (Cw.block ?_)))))
  obtain ⟨ba, bb, hm⟩ := zbk hm
  refine Cw.loop 22 49 [7] (fun m l w => ∃ y C d, CW.w d = w ∧ Le [3] f d ∧ l = [vI y] ∧ Ow d 3 [] [a] C ∧ Vm.zc0 x0 x ba m y C = some r) _ ⟨0, e, f, rfl, Le.refl _ _, rfl, af, hm⟩ ?_
  rintro (_ | cj) _ _ σ ⟨y, C, d, rfl, D, rfl, J, hm⟩
  ·cases hm
  unfold Vm.zc0 at hm
  have K := ah.t D
  have ai := (((W.up Y).up ac).up I).up D
  refine Cw.seq ?_
  obtain ⟨bc, be, hm⟩ := zbk hm
  refine Cw.join 22 36 [36] (fun l w => ∃ L E, CW.w E = w ∧ Le [] d E ∧ l = [vB L] ∧ bc L = some r) ?_ ?_
  ·rintro _ _ σ ⟨L, E, rfl, z, rfl, hm⟩
   rw [be] at hm
   have aj := K.n z
   have M := J.up z
   refine cn hm (fun hm => ?_) fun hm => ?_
   ·refine sk (Cw.seq (Cw.block (rg (mv a rfl (fl (ai.up z) rfl (mi rfl ?_))))))
    obtain ⟨ck, ak, hm⟩ := ob hm
    refine Lw.r rfl (R.ix (α := Commit) (k.ul aj) ak rfl rfl rfl) (Lw.fa rfl ?_)
    obtain ⟨cl, c45, r46⟩ := (Commit.at0 ((k.ul aj).at_ ak)).cell rfl
    refine Lw.r rfl (R.ld rfl rfl c45) (mi rfl ?_)
    obtain ⟨cm, am, hm⟩ := ob hm
    refine Lw.r rfl (R.ix (α := Int) r46 am rfl rfl rfl) (Lw.r rfl (R.ld rfl rfl (r46.at_ am).int) ?_)
    obtain ⟨co, bg, hm⟩ := ob hm
    refine Lw.r rfl (R.ix (α := Bool) M.rd bg rfl rfl rfl) ?_
    obtain ⟨bh, bi, hm⟩ := ob hm
    refine Lw.u (T.stS (K' := []) M (rdB _) bi rfl rfl rfl) ?_
    rintro _ _ ⟨bj, rfl, bk, bl⟩
    exact nl (rg (mi rfl (Lw.add rfl (Ni rfl ((agm) ⟨w64 (y + 1), bh, bj, rfl, ((D.j z).j bk).w, rfl, bl, hm⟩)))))
   ·refine Cw.exit ?_
    rw [bb] at hm
    exact rg (mi rfl (Lw.sub rfl (Ni rfl ((agm) ⟨w64 (x - 1), C, vI y, E, rfl, ((I.j D).j z).w, rfl, M, hm⟩))))
  ·refine rg (mi rfl (fl ai rfl (mi rfl ?_)))
   obtain ⟨bm, an, hm⟩ := ob hm
   refine Lw.r rfl (R.ix (α := Commit) (k.ul K) an rfl rfl rfl) (Lw.fa rfl ?_)
   obtain ⟨cp, c60, r61⟩ := (Commit.at0 ((k.ul K).at_ an)).cell rfl
   refine Lw.r rfl (R.ld rfl rfl c60) (Lw.ln bm.Parents r61 rfl (Lw.lt rfl (mb rfl (bs hm (fun A hm => ?_) fun A hm => ?_))))
   ·refine wak 4 A (mv a rfl (mi rfl ?_))
    obtain ⟨bn, ao, hm⟩ := ob hm
    exact Lw.r rfl (R.ix (α := Bool) J.rd ao rfl rfl rfl) (Lw.r rfl (R.ld rfl rfl (J.rd.at_ ao).bool) (Pb A rfl (nl ((ag) ⟨bn, d, rfl, Le.refl _ _, rfl, hm⟩))))
   ·exact psk 4 A rfl (Pb A rfl (nl ((ag) ⟨false, d, rfl, Le.refl _ _, rfl, hm⟩)))
 ·refine Cw.exit ?_
  rw [a9] at hm
  refine sr (Lw.t rfl (T.lit0 (α := Int) 4 []) ?_)
  rintro ap _ ⟨aq, rfl, ar, bp⟩
  have bq := ah.n ar
  refine Nv ap rfl (ssr (Ni rfl (Cw.block ?_)))
  obtain ⟨br, bu, hm⟩ := zbk hm
  refine Cw.loop 51 64 [8, 9] (fun m l w => ∃ F h b i, CW.w i = w ∧ Le [4] aq i ∧ l = [b, vI h] ∧ Ow i 4 [] [b] F ∧ Vm.zbV e br m F h = some r) _ ⟨([] : List Int), 0, ap, aq, rfl, Le.refl _ _, rfl, bp, hm⟩ ?_
  rintro (_ | cq) _ _ σ ⟨F, h, b, i, rfl, N, rfl, O, hm⟩
  ·cases hm
  unfold Vm.zbV at hm
  have bv := bq.t N
  have P := (af.up ar).up N
  refine ssr (mi rfl (mv a rfl (Lw.ln e P.rd rfl (Lw.lt rfl (nl (cn hm (fun hm => ?_) fun hm => ?_))))))
  ·refine sk ?_
   obtain ⟨bw, bz, hm⟩ := zbk hm
   refine Cw.join 57 64 [8] (fun l w => ∃ G H B, CW.w B = w ∧ Le [4] i B ∧ l = [H] ∧ Ow B 4 [] [H] G ∧ bw G = some r) ?_ ?_
   ·rintro _ _ σ ⟨G, H, B, rfl, b0, rfl, b2, hm⟩
    rw [bz] at hm
    exact rg (mi rfl (Lw.add rfl (Ni rfl ((agm) ⟨G, w64 (h + 1), H, B, rfl, (N.j b0).w, rfl, b2, hm⟩))))
   ·refine Cw.block (sr (mv a rfl (mi rfl ?_)))
    obtain ⟨ct, au, hm⟩ := ob hm
    refine Lw.r rfl (R.ix (α := Bool) P.rd au rfl rfl rfl) (Lw.r rfl (R.ld rfl rfl (P.rd.at_ au).bool) (nl (cn hm (fun hm => ?_) fun hm => ?_)))
    ·refine rg (mv b rfl (mi rfl (Lw.t rfl (T.bs 5 [vI h] (cs := [vI h]) rfl rfl (bsv rfl)) ?_)))
     rintro _ _ ⟨cu, cv, rfl, rfl, av, b3⟩
     obtain ⟨b4, b5, hm⟩ := ob hm
     refine Lw.t rfl (T.app1S (α := Int) (K' := []) (O.up av) b3 (rdI _) rfl rfl b5) ?_
     rintro aw _ ⟨b6, rfl, b7, b8⟩
     exact Nv aw rfl ((ag) ⟨b4, aw, b6, rfl, (av.j b7).w, rfl, b8, hm⟩)
    ·exact sk ((ag) ⟨F, b, i, rfl, Le.refl _ _, rfl, O, hm⟩)
  ·refine Cw.exit ?_
   rw [bu] at hm
   refine sr (mv b rfl (Nv b rfl ?_))
   cases hm
   exact Cw.ret (zjQ rfl (Res.mk bv ⟨b, rfl, O.s.sub rfl rfl⟩))
theorem p121 {x0 b d x1 k0 r} (f : Rd W K [b, d] x0) (hm : Vm.zeK x0 x1 = some r) : Q1 121 [.agg [b, d].toArray, vI x1] W [] fun W' v => ∃ a, v = a ∧ Ow W' k0 [] [a] r :=
 (c121 (f.view _) hm).ad (fk k0) fun _ _ ⟨a, e, h⟩ => ⟨a, e, h.back (ziE _)⟩
theorem c122 {x0 a x1 r} (x : Rd W0 [0] [a] x0) (hm : Vm.zfq x0 x1 = some r) : Q0 122 [a, vI x1] W0 fun Wf v => v = vB r := by
 unfold Vm.zfq at hm
 refine zau.of Tryz.func122 rfl rfl rfl rfl (sr (Nb rfl (ssr (Ni rfl (Cw.block ?_)))))
 obtain ⟨y, z, hm⟩ := zbk hm
 refine Cw.loop 6 17 [4, 5] (fun m l w => ∃ b d e, CW.w e = w ∧ Le [] W0 e ∧ l = [vB b, vI d] ∧ Vm.zc1 x0 x1 y m b d = some r) _ ⟨false, 0, W0, rfl, Le.refl _ _, rfl, hm⟩ ?_
 rintro (_ | A) _ _ σ ⟨b, d, e, rfl, i, rfl, hm⟩
 ·cases hm
 unfold Vm.zc1 at hm
 have f := i.o
 refine ssr ?_
 have h := x.ul f
 refine mi rfl (mv a rfl (Lw.ln x0 h rfl (Lw.lt rfl (nl (cn hm (fun hm => ?_) fun hm => ?_)))))
 ·refine sk (Cw.seq (Cw.block (sr (mv a rfl (mi rfl ?_)))))
  obtain ⟨B, k, hm⟩ := ob hm
  refine Lw.r rfl (R.ix (α := Int) h k rfl rfl rfl) (Lw.r rfl (R.ld rfl rfl (h.at_ k).int) (mi rfl (Lw.eq rfl (nl (cn hm (fun hm => ?_) fun hm => ?_)))))
  ·exact sr (Nb rfl (.ret (rt hm f)))
  ·exact sk (rg (mi rfl (Lw.add rfl (Ni rfl ((agm) ⟨b, w64 (d + 1), e, rfl, i, rfl, hm⟩)))))
 ·refine Cw.exit ?_
  rw [z] at hm
  exact sr (Nb rfl (.ret (rt hm f)))
theorem p122 {x0 a x1 r} (b : Rd W K [a] x0) (hm : Vm.zfq x0 x1 = some r) : Q1 122 [a, vI x1] W [] fun W' v => v = vB r :=
 (c122 (b.view _) hm).ad (fk 0) fun _ _ e => e
theorem c148 {x0 a x1 r} (b : Rd W0 [0] [a] x0) (hm : Vm.zdX x0 x1 = some r) : Q0 148 [a, vS x1] W0 fun Wf v => ∃ F, v = F ∧ Rd Wf [0] [F] r := by
 unfold Vm.zdX at hm
 refine zau.of Tryz.func148 rfl rfl rfl rfl (sr (Nv (.slice none 0 0) rfl (sr (Ni rfl (Cw.seq (Cw.block ?_))))))
 obtain ⟨Q, S, hm⟩ := zbk hm
 refine Cw.loop 7 20 [5] (fun m l w => ∃ i e, CW.w e = w ∧ Le [] W0 e ∧ l = [vI i] ∧ Vm.zc2 x0 x1 Q m i = some r) _ ⟨0, W0, rfl, Le.refl _ _, rfl, hm⟩ ?_
 rintro (_ | m4) _ _ σ ⟨i, e, rfl, G, rfl, hm⟩
 ·cases hm
 unfold Vm.zc2 at hm
 have k := G.o
 refine Cw.seq ?_
 obtain ⟨U, V, hm⟩ := zbk hm
 refine Cw.join 7 18 [18] (fun l w => ∃ y d, CW.w d = w ∧ Le [] e d ∧ l = [vB y] ∧ U y = some r) ?_ ?_
 ·rintro _ _ σ ⟨y, d, rfl, H, rfl, hm⟩
  rw [V] at hm
  have x := k.n H
  refine cn hm (fun hm => ?_) fun hm => ?_
  ·exact sk (Cw.block (rg (mi rfl (Lw.add rfl (Ni rfl ((agm) ⟨w64 (i + 1), d, rfl, (G.j H).w, rfl, hm⟩))))))
  ·refine Cw.exit ?_
   rw [S] at hm
   refine Cw.seq ?_
   obtain ⟨W, X, hm⟩ := zbk hm
   refine Cw.join 21 32 [32] (fun l w => ∃ z A, CW.w A = w ∧ Le [] d A ∧ l = [vB z] ∧ W z = some r) ?_ ?_
   ·rintro _ _ σ ⟨z, A, rfl, Y, rfl, hm⟩
    rw [X] at hm
    have B := x.n Y
    refine cn hm (fun hm => ?_) fun hm => ?_
    ·refine sr (mv a rfl (Nv a rfl ?_))
     cases hm
     exact Cw.ret (zjQ rfl (Res.mk B ⟨a, rfl, (b.ul B)⟩))
    ·refine sk (sr (Lw.t rfl (T.lit0 (α := Str) 2 []) ?_))
     rintro a4 _ ⟨a6, rfl, Z, aa⟩
     have C := B.n Z
     refine mv a rfl (mi rfl ?_)
     obtain ⟨a7, I, hm⟩ := ob hm
     have r23 := (b.ul C).cutV I
     refine Lw.r rfl (R.sl (b.ul C) I rfl (.inl ⟨rfl, rfl⟩) (.inr rfl)) ?_
     obtain ⟨a8, ac, hm⟩ := ob hm
     refine Lw.t rfl (T.appP (α := Str) aa r23 rfl rfl ac) ?_
     rintro J _ ⟨ba, rfl, ae, af⟩
     have ah := C.t ae
     refine Nv J rfl (sr (mv J rfl (ms rfl (Lw.t rfl (T.bs 3 [vS x1] (cs := [vS x1]) rfl rfl (bsv rfl)) ?_))))
     rintro _ _ ⟨bb, bc, rfl, rfl, K, ai⟩
     have aj := ah.n K
     obtain ⟨be, ak, hm⟩ := ob hm
     refine Lw.t rfl (T.app1S (α := Str) (K' := []) (af.up K) ai (rdS _) rfl rfl ak) ?_
     rintro L _ ⟨bg, rfl, am, an⟩
     have D := aj.t am
     refine Nv L rfl (sr (mv L rfl (mv a rfl (mi rfl ?_))))
     obtain ⟨bh, N, hm⟩ := ob hm
     have r40 := (b.ul D).cutV N
     refine Lw.r rfl (R.sl (b.ul D) N rfl (.inr rfl) (.inl ⟨rfl, rfl⟩)) ?_
     obtain ⟨ao, ap, hm⟩ := ob hm
     refine Lw.t rfl (T.appP (α := Str) an r40 rfl rfl ap) ?_
     rintro E _ ⟨bi, rfl, aq, ar⟩
     have au := D.t aq
     refine Nv E rfl ?_
     obtain ⟨av, aw, ax, ay⟩ := zl7 _ 2
     have az : Rd (α := List Str) av [0] [E] ao := by rw [ay]; exact (ar.rd.dye 2).sub (M := [0]) rfl
     have a0 := au.t ax
     cases hm
     rw [← aw]
     exact Cw.ret (zjQ rfl (Res.mk a0 ⟨E, rfl, az⟩))
   ·refine rg (mi rfl (mv a rfl (Lw.ln x0 (b.ul x) rfl (Lw.lt rfl (mb rfl (bs hm (fun f hm => ?_) fun f hm => ?_))))))
    ·refine wak 6 f (mv a rfl (mi rfl ?_))
     obtain ⟨a1, O, hm⟩ := ob hm
     exact Lw.r rfl (R.ix (α := Str) (b.ul x) O rfl rfl rfl) (Lw.r rfl (R.ld rfl rfl ((b.ul x).at_ O).str) (ms rfl (Lw.seq rfl (Pb f rfl (nl ((ag) ⟨(a1 == x1), d, rfl, Le.refl _ _, rfl, hm⟩))))))
    ·exact psk 6 f rfl (Pb f rfl (nl ((ag) ⟨false, d, rfl, Le.refl _ _, rfl, hm⟩)))
 ·refine rg (mi rfl (mv a rfl (Lw.ln x0 (b.ul k) rfl (Lw.lt rfl (mb rfl (bs hm (fun h hm => ?_) fun h hm => ?_))))))
  ·refine wak 6 h (mv a rfl (mi rfl ?_))
   obtain ⟨a2, P, hm⟩ := ob hm
   exact Lw.r rfl (R.ix (α := Str) (b.ul k) P rfl rfl rfl) (Lw.r rfl (R.ld rfl rfl ((b.ul k).at_ P).str) (ms rfl (Lw.r rfl (R.slt rfl rfl) (Pb h rfl (nl ((ag) ⟨Op.bytesLess a2 x1, e, rfl, Le.refl _ _, rfl, hm⟩))))))
  ·exact psk 6 h rfl (Pb h rfl (nl ((ag) ⟨false, e, rfl, Le.refl _ _, rfl, hm⟩)))
theorem p148 {x0 b x1 r} (d : Rd W K [b] x0) (hm : Vm.zdX x0 x1 = some r) : Q1 148 [b, vS x1] W [] fun W' v => ∃ a, v = a ∧ Rd W' (0 :: K) [a] r :=
 (c148 (d.view _) hm).ad (fk 0) fun _ _ ⟨a, e, f⟩ => ⟨a, e, f.back rfl⟩
theorem c196 {x0 a x1 r} (C : Rd W0 [0] [a] x0) (hm : Vm.zfb x0 x1 = some r) : Q0 196 [a, vS x1] W0 fun Wf v => ∃ x, v = .tuple [x, vB r.2].toArray ∧ Rd Wf [0] [x] r.1 := by
 unfold Vm.zfb at hm
 refine zau.of Tryz.func196 rfl rfl rfl rfl (sr (Gv (.slice none 0 0) rfl (Nb rfl (ssr (Ni rfl (Cw.block ?_))))))
 obtain ⟨D, E, hm⟩ := zbk hm
 refine Cw.loop 7 24 [4, 5, 6] (fun m l w => ∃ e f h i b, CW.w b = w ∧ Le [] W0 b ∧ l = [i, vB f, vI h] ∧ Ow b 2 [] [i] e ∧ Vm.zc3 x0 x1 D m e f h = some r) _ ⟨([] : List Str), false, 0, .slice none 0 0, W0, rfl, Le.refl _ _, rfl, owN 2 [], hm⟩ ?_
 rintro (_ | G) _ _ σ ⟨e, f, h, i, b, rfl, y, rfl, F, hm⟩
 ·cases hm
 unfold Vm.zc3 at hm
 have k := y.o
 refine ssr ?_
 have d := C.ul k
 refine mi rfl (mv a rfl (Lw.ln x0 d rfl (Lw.lt rfl (nl (cn hm (fun hm => ?_) fun hm => ?_)))))
 ·refine sk (Cw.seq (Cw.block (sr (mv a rfl (mi rfl ?_)))))
  obtain ⟨H, z, hm⟩ := ob hm
  refine Lw.r rfl (R.ix (α := File) d z rfl rfl rfl) (Lw.fa rfl (Lw.r rfl (R.ld rfl rfl (File.at0 (d.at_ z)).str) (ms rfl (Lw.seq rfl (nl (cn hm (fun hm => ?_) fun hm => ?_))))))
  ·refine sr (mv a rfl (mi rfl ?_))
   obtain ⟨I, A, hm⟩ := ob hm
   refine Lw.r rfl (R.ix (α := File) d A rfl rfl rfl) (Lw.fa rfl ?_)
   obtain ⟨B, c18, r19⟩ := (File.at1 (d.at_ A)).cell rfl
   refine Lw.r rfl (R.ld rfl rfl c18) (Gv B rfl (Nb rfl ?_))
   cases hm
   exact Cw.ret (zqd rfl rfl (Res.mk k ⟨B, rfl, r19⟩))
  ·exact sk (rg (mi rfl (Lw.add rfl (Ni rfl ((agm) ⟨e, f, w64 (h + 1), i, b, rfl, y, rfl, F, hm⟩)))))
 ·refine Cw.exit ?_
  rw [E] at hm
  refine sr (Gv (.slice none 0 0) rfl (Nb rfl ?_))
  cases hm
  exact Cw.ret (zqd rfl rfl (Res.mk k ⟨.slice none 0 0, rfl, (rdN (K := [0]))⟩))
theorem p196 {x0 b x1 r} (d : Rd W K [b] x0) (hm : Vm.zfb x0 x1 = some r) : Q1 196 [b, vS x1] W [] fun W' v => ∃ a, v = .tuple [a, vB r.2].toArray ∧ Rd W' (0 :: K) [a] r.1 :=
 (c196 (d.view _) hm).ad (fk 0) fun _ _ ⟨a, e, f⟩ => ⟨a, e, f.back rfl⟩
theorem c203 {x0 b x1 e r} (d : Rd W0 [0] [b] x0) (f : Rd W0 [0] [e] x1) (hm : Vm.zd3 x0 x1 = some r) : Q0 203 [b, e] W0 fun Wf v => v = vB r := by
 unfold Vm.zd3 at hm
 refine zau.of Tryz.func203 rfl rfl rfl rfl (sr (Nb rfl (ssr (mv b rfl (Lw.ln x0 d rfl (mv e rfl (Lw.ln x1 f rfl (Lw.ne rfl (nl (cn hm (fun hm => ?_) fun hm => ?_))))))))))
 ·exact sr (Nb rfl (.ret (rt hm (Le.refl _ _))))
 ·refine sk (ssr (Ni rfl (Cw.block ?_)))
  obtain ⟨B, C, hm⟩ := zbk hm
  refine Cw.loop 11 25 [4, 5] (fun m l w => ∃ h i k, CW.w k = w ∧ Le [] W0 k ∧ l = [vB h, vI i] ∧ Vm.zcv x0 x1 B m h i = some r) _ ⟨false, 0, W0, rfl, Le.refl _ _, rfl, hm⟩ ?_
  rintro (_ | E) _ _ σ ⟨h, i, k, rfl, A, rfl, hm⟩
  ·cases hm
  unfold Vm.zcv at hm
  have x := A.o
  refine ssr (mi rfl (mv b rfl (Lw.ln x0 (d.ul x) rfl (Lw.lt rfl (nl (cn hm (fun hm => ?_) fun hm => ?_))))))
  ·refine sk (Cw.seq (Cw.block (Cw.seq (Cw.draw [] [(0, 0), (1, 0), (2, 0), (3, 1), (4, 0), (5, 0), (6, 0), (7, 1), (8, 0)] mixed (by kernel_rfl) fun D l10 => ?_))))
   have a := x.n l10
   refine Dv b rfl (Di rfl ?_)
   obtain ⟨F, y, hm⟩ := ob hm
   refine Mw.p rfl rfl (fun _ => R.ix (α := Str) (d.ul a) y rfl rfl rfl) (Mw.q rfl rfl (fun _ c => R.ld rfl rfl (zaz ((d.ul a).at_ y).1 rfl ((d.ul a).at_ y).str c)) (Dv e rfl (Di rfl ?_)))
   obtain ⟨G, z, hm⟩ := ob hm
   refine Mw.p rfl rfl (fun _ => R.ix (α := Str) (f.ul a) z rfl rfl rfl) (Mw.q rfl rfl (fun _ c => R.ld rfl rfl (zaz ((f.ul a).at_ z).1 rfl ((f.ul a).at_ z).str c)) (Mw.p rfl rfl (fun _ => R.sne rfl rfl) (Mw.nil (cn hm (fun hm => ?_) fun hm => ?_))))
   ·exact sr (Nb rfl (.ret (rt hm a)))
   ·exact sk (rg (mi rfl (Lw.add rfl (Ni rfl ((agm) ⟨h, w64 (i + 1), D, rfl, (A.j l10).w, rfl, hm⟩)))))
  ·refine Cw.exit ?_
   rw [C] at hm
   exact sr (Nb rfl (.ret (rt hm x)))
theorem p203 {x0 a x1 b r} (d : Rd W K [a] x0) (f : Rd W K [b] x1) (hm : Vm.zd3 x0 x1 = some r) : Q1 203 [a, b] W [] fun W' v => v = vB r :=
 (c203 (d.view _) (f.view _) hm).ad (fk 0) fun _ _ e => e
end Go.Sx
