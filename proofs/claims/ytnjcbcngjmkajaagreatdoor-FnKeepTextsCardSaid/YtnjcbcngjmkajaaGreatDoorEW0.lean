/- Walks: each function answers as its model, printed by a program of ours. Conditions: the arguments read as they are given. -/
import Derived.Test.YtnjcbcngjmkajaaGreatDoorETs
import Derived.Test.YtnjcbcngjmkajaaGreatDoorEM0
namespace Go.Sx
open Go Go.Proofs Go.Vm Rp
set_option linter.unusedVariables false
set_option linter.unusedSimpArgs false
variable {W W0 : CW} {K : List Nat}
theorem c17 {x0 a r} (e : Rd W0 [0] [a] x0) (hm : Vm.zcY x0 = some r) : Q0 17 [a] W0 fun Wf v => ∃ (ug0 : Nat) (i : Value), v = ptr (bx ug0) ∧ Bx Wf 31 ug0 [i, vI r.p] ∧ Rd Wf [0] [i] r.b := by
 unfold Vm.zcY at hm
 refine zap.of Tryz.func17 rfl rfl rfl rfl (sr (Nv (.pointer none) rfl ?_))
 obtain ⟨z, A, hm⟩ := za1 hm
 refine Cw.join 3 7 [0] (fun l w => ∃ h d f, CW.w f = w ∧ Le [] W0 f ∧ l = [d] ∧ Rd f [0] [d] h ∧ z h = some r) ?_ ?_
 ·rintro _ _ σ ⟨h, d, f, rfl, B, rfl, r3, hm⟩
  rw [A] at hm
  have C := B.o
  refine sr (mv d rfl (Lw.r rfl (R.bd (zs := [.slice none 0 0, vI 0]) (cs := [d, vI 0]) [(0, d)] rfl rfl rfl (zaD r3.oc rfl zcU)) (bo 2 rfl fun D K E F => ?_)))
  have k := E.o
  refine Np rfl ?_
  obtain ⟨L, G, H, I⟩ := F.dyeO 31
  have x := H.s
  cases hm
  rw [← G]
  exact Cw.ret (zhh rfl (Res.mk ((C.trans k).trans x) ⟨D, d, rfl, I, (r3.ul (k.trans x))⟩))
 ·refine sr (mv a rfl (Lw.ln x0 e rfl (Lw.gt rfl (nl (cn hm (fun hm => ?_) fun hm => ?_)))))
  ·refine rg (mv a rfl ?_)
   obtain ⟨J, y, hm⟩ := ob hm
   have r16 := e.cutV y
   exact Lw.r rfl (R.sl e y rfl (.inl ⟨rfl, rfl⟩) (.inr rfl)) (Nv (cutV a (0 : Int).toNat (2000 : Int).toNat (Rp.sz (Byte))) rfl ((ag) ⟨J, (cutV a (0 : Int).toNat (2000 : Int).toNat (Rp.sz (Byte))), W0, rfl, Le.refl _ _, rfl, r16, hm⟩))
  ·exact sk ((ag) ⟨x0, a, W0, rfl, Le.refl _ _, rfl, e, hm⟩)
theorem p17 {x0 d k0 r} (f : Rd W K [d] x0) (hm : Vm.zcY x0 = some r) : Q1 17 [d] W [] fun W' v => ∃ (ug0 : Nat) (a : Value), v = ptr (bx ug0) ∧ Bx W' k0 ug0 [a, vI r.p] ∧ Rd W' (0 :: K) [a] r.b :=
 zap.adJ (J := []) (fun c => bif Nat.beq c 0 then 0 else bif Nat.beq c 31 then k0 else 0) (c17 (f.view _) hm) fun _ _ ⟨ug0, a, e, h, i⟩ => ⟨ug0, a, e, h.backN rfl, i.back rfl⟩
theorem c37 {x0 i k x1 r} (hB0 : Bx W0 2 i [k, vI x0.p]) (x : Rd W0 [0] [k] x0.b) (hm : Vm.zaC x0 x1 = some r) : Q0 37 [ptr (bx i), vI x1] W0 fun Wf v => v = vI r.1 ∧ Bx Wf 2 i [k, vI r.2] := by
 unfold Vm.zaC at hm
 refine zap.of Tryz.func37 rfl rfl rfl rfl (sr (Ni rfl (sr (mp rfl (mp rfl (Lw.r rfl (R.nc rfl) (Lw.fa rfl (Lw.r rfl (R.ld (v := vI x0.p) rfl rfl (hB0.cell rfl)) (Lw.add rfl (Lw.r rfl (R.nc rfl) (Lw.fa rfl (Lw.u (T.st (j := 1) (v := vI (w64 (x0.p + 1))) hB0 rfl rfl rfl rfl rfl) ?_))))))))))))
 rintro _ _ ⟨y, rfl, K, E⟩
 have F := K.s
 refine nl (Cw.seq ?_)
 obtain ⟨L, M, hm⟩ := za1 hm
 refine Cw.join 15 24 [24] (fun l w => ∃ z A, CW.w A = w ∧ Le [] y A ∧ l = [vB z] ∧ L z = some r) ?_ ?_
 ·rintro _ _ σ ⟨z, A, rfl, G, rfl, hm⟩
  rw [M] at hm
  have h := F.n G
  have d := E.up G
  refine cn hm (fun hm => ?_) fun hm => ?_
  ·refine sr (Ni rfl ?_)
   cases hm
   exact Cw.ret (zhh rfl (Res.mk h ⟨rfl, d⟩))
  ·refine sk (sr (mp rfl (Lw.r rfl (R.nc rfl) (fl d rfl (Lw.sub rfl (Ni rfl (ssr ?_)))))))
   have B := x.ul h
   refine mi rfl (mp rfl (Lw.r rfl (R.nc rfl) (fl d rfl (Lw.ln x0.b B rfl (Lw.lt rfl (nl (cn hm (fun hm => ?_) fun hm => ?_)))))))
   ·refine sr (mp rfl (Lw.r rfl (R.nc rfl) (fl d rfl (mi rfl ?_))))
    obtain ⟨U, H, hm⟩ := ob hm
    refine Lw.r rfl (R.ix (α := Byte) B H rfl rfl rfl) (Lw.r rfl (R.ld rfl rfl (B.at_ H).byte) (Lw.r rfl (R.cvI rfl rfl) (mi rfl ?_)))
    obtain ⟨_, N, hm⟩ := ob hm
    refine Lw.r rfl (R.rem rfl rfl (nz N)) (Ni rfl ?_)
    cases hm
    exact Cw.ret (zhh rfl (Res.mk h ⟨rfl, d⟩))
   ·refine sk (Cw.seq (Cw.draw [] [(0, 0), (1, 0), (2, 0), (3, 1), (4, 0), (5, 0), (6, 0), (7, 0), (8, 1), (9, 0), (10, 0), (11, 0), (12, 1), (13, 0), (14, 0), (15, 0), (16, 0), (17, 0), (18, 1), (19, 0), (20, 0), (21, 0), (22, 0), (23, 0), (24, 0), (25, 1), (26, 0), (27, 0), (28, 0), (29, 1), (30, 0), (31, 0), (32, 0), (33, 0), (34, 0), (35, 0), (36, 0), (37, 0), (38, 0), (39, 0), (40, 1), (41, 0), (42, 0), (43, 0), (44, 0), (45, 0)] mixed (by kernel_rfl) fun V I => ?_))
    have J := h.n I
    have e := d.up I
    have a := x.ul J
    refine Dp rfl (Mw.p rfl rfl (fun _ => R.nc rfl) (Dfl e rfl rfl rfl (Di rfl (Dp rfl (Mw.p rfl rfl (fun _ => R.nc rfl) (Dfl e rfl rfl rfl (Mw.p rfl rfl (fun _ => zpF (xs := x0.b) a rfl) ?_)))))))
    obtain ⟨_, O, hm⟩ := ob hm
    refine Mw.p rfl rfl (fun _ => R.rem rfl rfl (nz O)) ?_
    obtain ⟨W, C, hm⟩ := ob hm
    refine Mw.p rfl rfl (fun _ => R.ix (α := Byte) a C rfl rfl rfl) (Mw.q rfl rfl (fun _ c => R.ld rfl rfl (zam (a.at_ C).1 rfl (a.at_ C).byte c)) (Mw.p rfl rfl (fun _ => R.cvI rfl rfl) (Mw.p rfl rfl (fun _ => R.mul rfl rfl) (Dp rfl (Mw.p rfl rfl (fun _ => R.nc rfl) (Dfl e rfl rfl rfl (Di rfl (Mw.p rfl rfl (fun _ => R.mul rfl rfl) (Mw.p rfl rfl (fun _ => R.add rfl rfl) (Dp rfl (Mw.p rfl rfl (fun _ => R.nc rfl) (Dfl e rfl rfl rfl (Mw.p rfl rfl (fun _ => zpF (xs := x0.b) a rfl) ?_)))))))))))))
    obtain ⟨_, P, hm⟩ := ob hm
    refine Mw.p rfl rfl (fun _ => R.rem rfl rfl (nz P)) ?_
    obtain ⟨X, D, hm⟩ := ob hm
    refine Mw.p rfl rfl (fun _ => R.ix (α := Byte) a D rfl rfl rfl) (Mw.q rfl rfl (fun _ c => R.ld rfl rfl (zam (a.at_ D).1 rfl (a.at_ D).byte c)) (Mw.p rfl rfl (fun _ => R.cvI rfl rfl) (Mw.p rfl rfl (fun _ => R.mul rfl rfl) (Mw.p rfl rfl (fun _ => R.add rfl rfl) (Di rfl (Mw.p rfl rfl (fun _ => R.mul rfl rfl) (Mw.p rfl rfl (fun _ => R.add rfl rfl) (Di rfl (Dp rfl (Mw.p rfl rfl (fun _ => R.nc rfl) (Dfl e rfl rfl rfl (Mw.p rfl rfl (fun _ => zpF (xs := x0.b) a rfl) ?_))))))))))))
    obtain ⟨_, Q, hm⟩ := ob hm
    refine Mw.p rfl rfl (fun _ => R.quo rfl rfl (nz Q)) (Mw.p rfl rfl (fun _ => R.mul rfl rfl) (Mw.p rfl rfl (fun _ => R.add rfl rfl) (Hi rfl (Mw.nil (sr (mi rfl (mi rfl (Lw.r rfl (R.quo rfl rfl (by decide)) (Lw.r rfl (R.xor rfl rfl) (Ni rfl (sr (mi rfl (mi rfl ?_)))))))))))))
    obtain ⟨_, S, hm⟩ := ob hm
    refine Lw.r rfl (R.rem rfl rfl (nz S)) (Ni rfl ?_)
    cases hm
    exact Cw.ret (zhh rfl (Res.mk J ⟨rfl, e⟩))
 ·refine rg (mi rfl (Lw.lt rfl (mb rfl (bs hm (fun f hm => ?_) fun f hm => ?_))))
  ·exact psk 6 f rfl (Pb f rfl (nl ((ag) ⟨true, y, rfl, Le.refl _ _, rfl, hm⟩)))
  ·exact wak 6 f (mp rfl (Lw.r rfl (R.nc rfl) (fl E rfl (Lw.ln x0.b (x.ul F) rfl (Lw.eq rfl (Pb f rfl (nl ((ag) ⟨(((x0.b.length : Int) : Int) == (0 : Int)), y, rfl, Le.refl _ _, rfl, hm⟩))))))))
theorem p37 {x0 a d x1 c0 r} (hB0 : Bx W c0 a [d, vI x0.p]) (f : Rd W K [d] x0.b) (hJ : okJ K [c0] = true) (hm : Vm.zaC x0 x1 = some r) : Q1 37 [ptr (bx a), vI x1] W [c0] fun W' v => v = vI r.1 ∧ Bx W' c0 a [d, vI r.2] :=
 zap.adJ (J := [c0]) (fun c => bif Nat.beq c 0 then 0 else bif Nat.beq c 2 then c0 else 0) (c37 (hB0.viewJ 0 hJ) (f.view _) hm) fun _ _ ⟨e, h⟩ => ⟨e, Bx.backJ 0 h rfl⟩
theorem c69 {x0 d e x1 a r} (hB0 : Bx W0 2 d [e, vI x0.p]) (k : Rd W0 [0] [e] x0.b) (f : Rd W0 [0] [a] x1) (hm : Vm.zbR x0 x1 = some r) : Q0 69 [ptr (bx d), a] W0 fun Wf v => v = vI r.1 ∧ Bx Wf 2 d [e, vI r.2] := by
 unfold Vm.zbR at hm
 refine zap.of Tryz.func69 rfl rfl rfl rfl (sr (Ni rfl (sr (mv a rfl (mp rfl (mv a rfl (Lw.ln x1 f rfl (cr hm (fun _ => p37 (c0 := 2) (x0 := x0) hB0 k rfl) ?_))))))))
 rintro z _ A hm x ⟨rfl, y⟩
 have h := x.s
 obtain ⟨B, i, hm⟩ := ob hm
 refine Lw.r rfl (R.ix (α := Int) (f.ul h) i rfl rfl rfl) (Lw.r rfl (R.ld rfl rfl ((f.ul h).at_ i).int) (Ni rfl ?_))
 cases hm
 exact Cw.ret (zhh rfl (Res.mk h ⟨rfl, y⟩))
theorem p69 {x0 a d x1 f c0 r} (hB0 : Bx W c0 a [d, vI x0.p]) (h : Rd W K [d] x0.b) (i : Rd W K [f] x1) (hJ : okJ K [c0] = true) (hm : Vm.zbR x0 x1 = some r) : Q1 69 [ptr (bx a), f] W [c0] fun W' v => v = vI r.1 ∧ Bx W' c0 a [d, vI r.2] :=
 zap.adJ (J := [c0]) (fun c => bif Nat.beq c 0 then 0 else bif Nat.beq c 2 then c0 else 0) (c69 (hB0.viewJ 0 hJ) (h.view _) (i.view _) hm) fun _ _ ⟨e, k⟩ => ⟨e, Bx.backJ 0 k rfl⟩
theorem c70 {x0 d e x1 a r} (hB0 : Bx W0 2 d [e, vI x0.p]) (k : Rd W0 [0] [e] x0.b) (f : Rd W0 [0] [a] x1) (hm : Vm.za6 x0 x1 = some r) : Q0 70 [ptr (bx d), a] W0 fun Wf v => v = vS r.1 ∧ Bx Wf 2 d [e, vI r.2] := by
 unfold Vm.za6 at hm
 refine zap.of Tryz.func70 rfl rfl rfl rfl (sr (Ns rfl (sr (mv a rfl (mp rfl (mv a rfl (Lw.ln x1 f rfl (cr hm (fun _ => p37 (c0 := 2) (x0 := x0) hB0 k rfl) ?_))))))))
 rintro z _ A hm x ⟨rfl, y⟩
 have h := x.s
 obtain ⟨B, i, hm⟩ := ob hm
 refine Lw.r rfl (R.ix (α := Str) (f.ul h) i rfl rfl rfl) (Lw.r rfl (R.ld rfl rfl ((f.ul h).at_ i).str) (Ns rfl ?_))
 cases hm
 exact Cw.ret (zhh rfl (Res.mk h ⟨rfl, y⟩))
theorem p70 {x0 a d x1 f c0 r} (hB0 : Bx W c0 a [d, vI x0.p]) (h : Rd W K [d] x0.b) (i : Rd W K [f] x1) (hJ : okJ K [c0] = true) (hm : Vm.za6 x0 x1 = some r) : Q1 70 [ptr (bx a), f] W [c0] fun W' v => v = vS r.1 ∧ Bx W' c0 a [d, vI r.2] :=
 zap.adJ (J := [c0]) (fun c => bif Nat.beq c 0 then 0 else bif Nat.beq c 2 then c0 else 0) (c70 (hB0.viewJ 0 hJ) (h.view _) (i.view _) hm) fun _ _ ⟨e, k⟩ => ⟨e, Bx.backJ 0 k rfl⟩
theorem c109 {x0 a d r} (hB0 : Bx W0 2 a [d, vI x0.p]) (h : Rd W0 [0] [d] x0.b) (hm : Vm.zcu x0 = some r) : Q0 109 [ptr (bx a)] W0 fun Wf v => v = vS r.1 ∧ Bx Wf 2 a [d, vI r.2] := by
 unfold Vm.zcu at hm
 refine zap.of Tryz.func109 rfl rfl rfl rfl (sr (Ns rfl (sr (mp rfl (Lw.t rfl (T.bsS (α := Str) (xs := [([109, 97, 105, 110] : Str), ([109, 97, 105, 110] : Str), ([115, 105, 100, 101] : Str), ([100, 101, 118] : Str)]) 3 [] (W := W0) [vS ([109, 97, 105, 110] : Str), vS ([109, 97, 105, 110] : Str), vS ([115, 105, 100, 101] : Str), vS ([100, 101, 118] : Str)] (Each.cons ((rdS _)) (Each.cons ((rdS _)) (Each.cons ((rdS _)) (Each.cons ((rdS _)) Each.nil)))) rfl) ?_)))))
 rintro A _ ⟨B, rfl, e, i⟩
 have f := e.o
 have k := hB0.up e
 refine cr hm (fun _ => p70 (K := [0, 3]) (c0 := 2) (x0 := x0) k ((h.ul f).sub (M := [0, 3]) rfl) (i.rd.sub (M := [0, 3]) rfl) rfl) ?_
 rintro C _ D hm x ⟨rfl, y⟩
 have z := f.t x
 refine Ns rfl ?_
 cases hm
 exact Cw.ret (zhh rfl (Res.mk z ⟨rfl, y⟩))
theorem p109 {x0 a d c0 r} (hB0 : Bx W c0 a [d, vI x0.p]) (f : Rd W K [d] x0.b) (hJ : okJ K [c0] = true) (hm : Vm.zcu x0 = some r) : Q1 109 [ptr (bx a)] W [c0] fun W' v => v = vS r.1 ∧ Bx W' c0 a [d, vI r.2] :=
 zap.adJ (J := [c0]) (fun c => bif Nat.beq c 0 then 0 else bif Nat.beq c 2 then c0 else 0) (c109 (hB0.viewJ 0 hJ) (f.view _) hm) fun _ _ ⟨e, h⟩ => ⟨e, Bx.backJ 0 h rfl⟩
theorem c49 {x0 a d r} (hB0 : Bx W0 2 a [d, vI x0.p]) (h : Rd W0 [0] [d] x0.b) (hm : Vm.zcF x0 = some r) : Q0 49 [ptr (bx a)] W0 fun Wf v => v = vS r.1 ∧ Bx Wf 2 a [d, vI r.2] := by
 unfold Vm.zcF at hm
 refine zap.of Tryz.func49 rfl rfl rfl rfl (sr (Ns rfl (sr (mp rfl (Lw.t rfl (T.bsS (α := Str) (xs := [([97] : Str), ([98] : Str), ([100, 47, 101] : Str), ([100, 47, 102] : Str), ([103, 47, 104, 47, 105] : Str), ([103, 47, 107] : Str), ([122] : Str)]) 3 [] (W := W0) [vS ([97] : Str), vS ([98] : Str), vS ([100, 47, 101] : Str), vS ([100, 47, 102] : Str), vS ([103, 47, 104, 47, 105] : Str), vS ([103, 47, 107] : Str), vS ([122] : Str)] (Each.cons ((rdS _)) (Each.cons ((rdS _)) (Each.cons ((rdS _)) (Each.cons ((rdS _)) (Each.cons ((rdS _)) (Each.cons ((rdS _)) (Each.cons ((rdS _)) Each.nil))))))) rfl) ?_)))))
 rintro A _ ⟨B, rfl, e, i⟩
 have f := e.o
 have k := hB0.up e
 refine cr hm (fun _ => p70 (K := [0, 3]) (c0 := 2) (x0 := x0) k ((h.ul f).sub (M := [0, 3]) rfl) (i.rd.sub (M := [0, 3]) rfl) rfl) ?_
 rintro C _ D hm x ⟨rfl, y⟩
 have z := f.t x
 refine Ns rfl ?_
 cases hm
 exact Cw.ret (zhh rfl (Res.mk z ⟨rfl, y⟩))
theorem p49 {x0 a d c0 r} (hB0 : Bx W c0 a [d, vI x0.p]) (f : Rd W K [d] x0.b) (hJ : okJ K [c0] = true) (hm : Vm.zcF x0 = some r) : Q1 49 [ptr (bx a)] W [c0] fun W' v => v = vS r.1 ∧ Bx W' c0 a [d, vI r.2] :=
 zap.adJ (J := [c0]) (fun c => bif Nat.beq c 0 then 0 else bif Nat.beq c 2 then c0 else 0) (c49 (hB0.viewJ 0 hJ) (f.view _) hm) fun _ _ ⟨e, h⟩ => ⟨e, Bx.backJ 0 h rfl⟩
theorem c126 {x0 a d r} (hB0 : Bx W0 2 a [d, vI x0.p]) (h : Rd W0 [0] [d] x0.b) (hm : Vm.zcZ x0 = some r) : Q0 126 [ptr (bx a)] W0 fun Wf v => v = vS r.1 ∧ Bx Wf 2 a [d, vI r.2] := by
 unfold Vm.zcZ at hm
 refine zap.of Tryz.func126 rfl rfl rfl rfl (sr (Ns rfl (sr (mp rfl (Lw.t rfl (T.bsS (α := Str) (xs := [([97] : Str), ([98] : Str), ([99] : Str), ([100] : Str), ([] : Str), ([120, 32, 121] : Str), ([115, 101, 101, 32, 97] : Str), ([115, 101, 101, 32, 100, 47, 101] : Str), ([101, 110, 100] : Str)]) 3 [] (W := W0) [vS ([97] : Str), vS ([98] : Str), vS ([99] : Str), vS ([100] : Str), vS ([] : Str), vS ([120, 32, 121] : Str), vS ([115, 101, 101, 32, 97] : Str), vS ([115, 101, 101, 32, 100, 47, 101] : Str), vS ([101, 110, 100] : Str)] (Each.cons ((rdS _)) (Each.cons ((rdS _)) (Each.cons ((rdS _)) (Each.cons ((rdS _)) (Each.cons ((rdS _)) (Each.cons ((rdS _)) (Each.cons ((rdS _)) (Each.cons ((rdS _)) (Each.cons ((rdS _)) Each.nil))))))))) rfl) ?_)))))
 rintro A _ ⟨B, rfl, e, i⟩
 have f := e.o
 have k := hB0.up e
 refine cr hm (fun _ => p70 (K := [0, 3]) (c0 := 2) (x0 := x0) k ((h.ul f).sub (M := [0, 3]) rfl) (i.rd.sub (M := [0, 3]) rfl) rfl) ?_
 rintro C _ D hm x ⟨rfl, y⟩
 have z := f.t x
 refine Ns rfl ?_
 cases hm
 exact Cw.ret (zhh rfl (Res.mk z ⟨rfl, y⟩))
theorem p126 {x0 a d c0 r} (hB0 : Bx W c0 a [d, vI x0.p]) (f : Rd W K [d] x0.b) (hJ : okJ K [c0] = true) (hm : Vm.zcZ x0 = some r) : Q1 126 [ptr (bx a)] W [c0] fun W' v => v = vS r.1 ∧ Bx W' c0 a [d, vI r.2] :=
 zap.adJ (J := [c0]) (fun c => bif Nat.beq c 0 then 0 else bif Nat.beq c 2 then c0 else 0) (c126 (hB0.viewJ 0 hJ) (f.view _) hm) fun _ _ ⟨e, h⟩ => ⟨e, Bx.backJ 0 h rfl⟩
theorem c110 {x0 e f r} (hB0 : Bx W0 2 e [f, vI x0.p]) (A : Rd W0 [0] [f] x0.b) (hm : Vm.zdW x0 = some r) : Q0 110 [ptr (bx e)] W0 fun Wf v => ∃ B, v = B ∧ OwS Wf [31] [] [B] r.1 ∧ Bx Wf 2 e [f, vI r.2] := by
 unfold Vm.zdW at hm
 refine zap.of Tryz.func110 rfl rfl rfl rfl (sr (Nv (.slice none 0 0) rfl (sr (Lw.t rfl (T.lit0 (α := Str) 3 []) ?_))))
 rintro C _ ⟨S, rfl, D, U⟩
 have V := D.o
 have X := hB0.up D
 refine Nv C rfl (ssr (mp rfl (Lw.t rfl (T.bsS (α := Int) (xs := [0, 1, 3, 5, 8]) 4 [] (W := S) [vI 0, vI 1, vI 3, vI 5, vI 8] (Each.cons ((rdI _)) (Each.cons ((rdI _)) (Each.cons ((rdI _)) (Each.cons ((rdI _)) (Each.cons ((rdI _)) Each.nil))))) rfl) ?_)))
 rintro v4 _ ⟨W4, rfl, k, Y⟩
 have E := V.n k
 refine cr hm (fun _ => p69 (K := [0, 4]) (c0 := 2) (x0 := x0) (X.up k) ((A.ul E).sub (M := [0, 4]) rfl) (Y.rd.sub (M := [0, 4]) rfl) rfl) ?_
 rintro F _ G hm H ⟨rfl, Z⟩
 have aa := E.t H
 refine Ni rfl (Cw.block ?_)
 obtain ⟨ac, ae, hm⟩ := za1 hm
 refine Cw.loop 9 17 [3, 4] (fun m l w => ∃ x h i a d, CW.w d = w ∧ Le [2, 3] G d ∧ l = [a, vI h] ∧ Ow d 3 [] [a] x ∧ Bx d 2 e [f, vI i] ∧ Vm.zcG x0 ac m x h i = some r) _ ⟨([] : List Str), F.1, F.2, C, G, rfl, Le.refl _ _, rfl, ((U.up k).up H), Z, hm⟩ ?_
 rintro (_ | au) _ _ σ ⟨x, h, i, a, d, rfl, I, rfl, J, L, hm⟩
 ·cases hm
 unfold Vm.zcG at hm
 have N := aa.t I
 refine ssr (mi rfl (Lw.gt rfl (nl (cn hm (fun hm => ?_) fun hm => ?_))))
 ·refine sk (Cw.seq (Cw.block (rg (mv a rfl (mp rfl (cr hm (fun _ => p126 (c0 := 2) (x0 := (Vm.l30Rd.mk x0.b i)) L (A.ul N) rfl) ?_))))))
  rintro y _ av hm O ⟨rfl, af⟩
  refine Lw.t rfl (T.bs 5 [vS y.1] (cs := [vS y.1]) rfl rfl (bsv rfl)) ?_
  rintro _ _ ⟨aw, ax, rfl, rfl, z, ah⟩
  obtain ⟨ai, aj, hm⟩ := ob hm
  refine Lw.t rfl (T.app1S (α := Str) (K' := []) ((J.up O).up z) ah (rdS _) rfl rfl aj) ?_
  rintro P _ ⟨ak, rfl, Q, am⟩
  exact Nv P rfl (rg (mi rfl (Lw.sub rfl (Ni rfl ((agm) ⟨ai, w64 (h - 1), y.2, P, ak, rfl, (((I.j O).j z).j Q).w, rfl, am, ((af.up z).up Q), hm⟩)))))
 ·refine Cw.exit ?_
  rw [ae] at hm
  refine sr (mv a rfl (Nv a rfl ?_))
  obtain ⟨ay, an, R, ao⟩ := J.dyeO 31
  have ap := N.t R
  cases hm
  rw [← an]
  exact Cw.ret (zhh rfl (Res.mk ap ⟨a, rfl, ao.s, (L.up R)⟩))
theorem p110 {x0 d f k0 c0 r} (hB0 : Bx W c0 d [f, vI x0.p]) (h : Rd W K [f] x0.b) (hJ : okJ K [c0] = true) (hm : Vm.zdW x0 = some r) : Q1 110 [ptr (bx d)] W [c0] fun W' v => ∃ a, v = a ∧ Ow W' k0 [] [a] r.1 ∧ Bx W' c0 d [f, vI r.2] :=
 zap.adJ (J := [c0]) (fun c => bif Nat.beq c 0 then 0 else bif Nat.beq c 2 then c0 else bif Nat.beq c 31 then k0 else 0) (c110 (hB0.viewJ 0 hJ) (h.view _) hm) fun _ _ ⟨a, e, i, k⟩ => ⟨a, e, i.one1.backN rfl, Bx.backJ 0 k rfl⟩
theorem c80 {x0 z A r} (hB0 : Bx W0 2 z [A, vI x0.p]) (a : Rd W0 [0] [A] x0.b) (hm : Vm.ze6 x0 = some r) : Q0 80 [ptr (bx z)] W0 fun Wf v => ∃ a7, v = .agg [vI r.1.Kind, vS r.1.Branch, vS r.1.Who, vS r.1.Path, vS r.1.To, vI r.1.At, a7].toArray ∧ OwS Wf [31] [] [a7] r.1.Text ∧ Bx Wf 2 z [A, vI r.2] := by
 unfold Vm.ze6 at hm
 refine zap.of Tryz.func80 rfl rfl rfl rfl (sr (al 3 [vI 0, vS ([] : Str), vS ([] : Str), vS ([] : Str), vS ([] : Str), vI 0, .slice none 0 0] fun g1 W1 l1 b1 => ?_))
 have a2 := l1.o
 have b3 := hB0.up l1
 refine nl (sr (mp rfl (cr hm (fun _ => p109 (c0 := 2) (x0 := x0) b3 (a.ul a2) rfl) ?_)))
 rintro e _ W7 hm l7 ⟨rfl, cc⟩
 have a8 := a2.t l7
 refine mp rfl (Lw.t rfl (T.bsS (α := Str) (xs := [([97, 110, 110] : Str), ([98, 111, 98] : Str), ([99, 105, 100] : Str)]) 4 [] (W := W7) [vS ([97, 110, 110] : Str), vS ([98, 111, 98] : Str), vS ([99, 105, 100] : Str)] (Each.cons ((rdS _)) (Each.cons ((rdS _)) (Each.cons ((rdS _)) Each.nil))) rfl) ?_)
 rintro eh _ ⟨ei, rfl, l10, ce⟩
 have bc := a8.n l10
 refine cr hm (fun _ => p70 (K := [0, 4]) (c0 := 2) (x0 := (Vm.l30Rd.mk x0.b e.2)) (cc.up l10) ((a.ul bc).sub (M := [0, 4]) rfl) (ce.rd.sub (M := [0, 4]) rfl) rfl) ?_
 rintro f _ ej hm be ⟨rfl, cf⟩
 have cg := bc.t be
 refine Lw.r rfl (R.bd (zs := [vI 0, vS ([] : Str), vS ([] : Str), vS ([] : Str), vS ([] : Str), vI 0, .slice none 0 0]) (cs := [vI 0, vS e.1, vS f.1, vS ([] : Str), vS ([] : Str), vI 0, .slice none 0 0]) [(1, vS e.1), (2, vS f.1)] rfl rfl rfl (zaD rfl rfl (zaD rfl rfl zcU))) (al 5 [vI 0, vS ([] : Str), vS ([] : Str), vS ([] : Str), vS ([] : Str), vI 0, .slice none 0 0] fun ch ek I ci => ?_)
 have cj := cg.n I
 refine sta ci (zaa rfl (zaa rfl (zaa rfl (zaa rfl (zaa rfl (zaa rfl (zaa rfl zaw))))))) fun ck J cl => ?_
 have L := cj.t J
 refine nl ?_
 obtain ⟨cm, co, hm⟩ := za1 hm
 refine Cw.join 10 61 [] (fun l w => ∃ N O P Q S U V X B y, CW.w y = w ∧ Le [2, 5, 8] ck y ∧ l = [] ∧ Bx y 2 z [A, vI N] ∧ Ow y 6 [] [B] X ∧ Bx y 5 ch [vI O, vS P, vS Q, vS S, vS U, vI V, B] ∧ cm N O P Q S U V X = some r) ?_ ?_
 ·rintro _ _ σ ⟨N, O, P, Q, S, U, V, X, B, y, rfl, bg, rfl, cp, bh, cq, hm⟩
  rw [co] at hm
  have ct := L.t bg
  refine sr (la cq (sta ((((((b1.up l7).up l10).up be).up I).up J).up bg) (zaa rfl (zaa rfl (zaa rfl (zaa rfl (zaa rfl (zaa rfl (zaa bh.oc zaw))))))) fun el Y cu => ?_))
  have cv := ct.t Y
  refine nl ?_
  obtain ⟨em, cw, Z, cx⟩ := (bh.up Y).dyeO 31
  have cy := cv.t Z
  cases hm
  rw [← cw]
  exact Cw.ret (zke rfl (cu.up Z) (Res.mk cy ⟨B, rfl, cx.s, ((cp.up Y).up Z)⟩))
 ·refine sr (mp rfl (cr hm (fun _ => p37 (c0 := 2) (x0 := (Vm.l30Rd.mk x0.b f.2)) ((cf.up I).up J) (a.ul L) rfl) ?_))
  rintro d _ aa hm i ⟨rfl, C⟩
  have ac := L.t i
  have D := cl.up i
  refine nl (Cw.block (sr (Lw.eq rfl (Nb rfl (cn hm (fun hm => ?_) fun hm => ?_)))))
  ·refine sr (Lw.fa rfl (Lw.u (T.st (j := 0) (v := vI 2) D rfl rfl rfl rfl rfl) ?_))
   rintro _ _ ⟨en, rfl, ae, cz⟩
   have c1 := ac.t ae
   refine nl (rg (mp rfl (cr hm (fun _ => p49 (c0 := 2) (x0 := (Vm.l30Rd.mk x0.b d.2)) (C.up ae) (a.ul c1) rfl) ?_)))
   rintro af _ eo hm bi ⟨rfl, c2⟩
   refine Lw.fa rfl (Lw.u (T.st (j := 3) (v := vS af.1) (cz.up bi) rfl rfl rfl rfl rfl) ?_)
   rintro _ _ ⟨c3, rfl, bj, c4⟩
   exact nl ((ag) ⟨af.2, 2, e.1, f.1, af.1, ([] : Str), 0, ([] : List Str), .slice none 0 0, c3, rfl, (((i.j ae).j bi).j bj).w, rfl, (c2.up bj), owN 6 [], c4, hm⟩)
  ·refine sr (Lw.eq rfl (Nb rfl (cn hm (fun hm => ?_) fun hm => ?_)))
   ·refine sr (Lw.fa rfl (Lw.u (T.st (j := 0) (v := vI 3) D rfl rfl rfl rfl rfl) ?_))
    rintro _ _ ⟨ep, rfl, ah, c5⟩
    have bk := ac.t ah
    refine nl (sr (mp rfl (cr hm (fun _ => p49 (c0 := 2) (x0 := (Vm.l30Rd.mk x0.b d.2)) (C.up ah) (a.ul bk) rfl) ?_)))
    rintro ai _ er hm aj ⟨rfl, c6⟩
    have c7 := bk.t aj
    refine Lw.fa rfl (Lw.u (T.st (j := 3) (v := vS ai.1) (c5.up aj) rfl rfl rfl rfl rfl) ?_)
    rintro _ _ ⟨es, rfl, ak, c8⟩
    have c9 := c7.t ak
    refine nl (rg (mp rfl (cr hm (fun _ => p49 (c0 := 2) (x0 := (Vm.l30Rd.mk x0.b ai.2)) (c6.up ak) (a.ul c9) rfl) ?_)))
    rintro am _ et hm bl ⟨rfl, da⟩
    refine Lw.fa rfl (Lw.u (T.st (j := 4) (v := vS am.1) (c8.up bl) rfl rfl rfl rfl rfl) ?_)
    rintro _ _ ⟨db, rfl, bm, dc⟩
    exact nl ((ag) ⟨am.2, 3, e.1, f.1, ai.1, am.1, 0, ([] : List Str), .slice none 0 0, db, rfl, (((((i.j ah).j aj).j ak).j bl).j bm).w, rfl, (da.up bm), owN 6 [], dc, hm⟩)
   ·obtain ⟨dd, de, hm⟩ := za1 hm
    refine Cw.join 34 36 [34] (fun l w => ∃ an k, CW.w k = w ∧ Le [] aa k ∧ l = [vB an] ∧ dd an = some r) ?_ ?_
    ·rintro _ _ σ ⟨an, k, rfl, h, rfl, hm⟩
     rw [de] at hm
     have bn := ac.n h
     refine cn hm (fun hm => ?_) fun hm => ?_
     ·refine sr (Lw.fa rfl (Lw.u (T.st (j := 0) (v := vI 4) (D.up h) rfl rfl rfl rfl rfl) ?_))
      rintro _ _ ⟨df, rfl, ao, dg⟩
      have dh := bn.t ao
      refine nl (rg (mp rfl (Lw.t rfl (T.bsS (α := Str) (xs := [([115, 105, 100, 101] : Str), ([100, 101, 118] : Str), ([111, 108, 100] : Str)]) 7 [] (W := df) [vS ([115, 105, 100, 101] : Str), vS ([100, 101, 118] : Str), vS ([111, 108, 100] : Str)] (Each.cons ((rdS _)) (Each.cons ((rdS _)) (Each.cons ((rdS _)) Each.nil))) rfl) ?_)))
      rintro eu _ ⟨ew, rfl, E, di⟩
      have dj := dh.n E
      refine cr hm (fun _ => p70 (K := [0, 7]) (c0 := 2) (x0 := (Vm.l30Rd.mk x0.b d.2)) (((C.up h).up ao).up E) ((a.ul dj).sub (M := [0, 7]) rfl) (di.rd.sub (M := [0, 7]) rfl) rfl) ?_
      rintro ap _ ex hm bp ⟨rfl, dk⟩
      refine Lw.fa rfl (Lw.u (T.st (j := 4) (v := vS ap.1) ((dg.up E).up bp) rfl rfl rfl rfl rfl) ?_)
      rintro _ _ ⟨dl, rfl, bq, dm⟩
      exact nl ((ag) ⟨ap.2, 4, e.1, f.1, ([] : Str), ap.1, 0, ([] : List Str), .slice none 0 0, dl, rfl, (((((i.j h).j ao).j E).j bp).j bq).w, rfl, (dk.up bq), owN 6 [], dm, hm⟩)
     ·obtain ⟨dn, dp, hm⟩ := za1 hm
      refine Cw.join 42 45 [42] (fun l w => ∃ aq ar, CW.w ar = w ∧ Le [] k ar ∧ l = [vB aq] ∧ dn aq = some r) ?_ ?_
      ·rintro _ _ σ ⟨aq, ar, rfl, x, rfl, hm⟩
       rw [dp] at hm
       have F := bn.n x
       have G := (C.up h).up x
       have H := (D.up h).up x
       refine cn hm (fun hm => ?_) fun hm => ?_
       ·refine sr (Lw.fa rfl (Lw.u (T.st (j := 0) (v := vI 5) H rfl rfl rfl rfl rfl) ?_))
        rintro _ _ ⟨ey, rfl, au, dq⟩
        have dr := F.t au
        refine nl (rg (mp rfl (cr hm (fun _ => p109 (c0 := 2) (x0 := (Vm.l30Rd.mk x0.b d.2)) (G.up au) (a.ul dr) rfl) ?_)))
        rintro av _ ez hm br ⟨rfl, ds⟩
        refine Lw.fa rfl (Lw.u (T.st (j := 4) (v := vS av.1) (dq.up br) rfl rfl rfl rfl rfl) ?_)
        rintro _ _ ⟨dt, rfl, bu, du⟩
        exact nl ((ag) ⟨av.2, 5, e.1, f.1, ([] : Str), av.1, 0, ([] : List Str), .slice none 0 0, dt, rfl, (((((i.j h).j x).j au).j br).j bu).w, rfl, (ds.up bu), owN 6 [], du, hm⟩)
       ·refine sr (Lw.eq rfl (Nb rfl (cn hm (fun hm => ?_) fun hm => ?_)))
        ·refine sr (Lw.fa rfl (Lw.u (T.st (j := 0) (v := vI 6) H rfl rfl rfl rfl rfl) ?_))
         rintro _ _ ⟨e0, rfl, aw, dv⟩
         have dw := F.t aw
         refine nl (rg (mp rfl (cr hm (fun _ => p37 (c0 := 2) (x0 := (Vm.l30Rd.mk x0.b d.2)) (G.up aw) (a.ul dw) rfl) ?_)))
         rintro ax _ e1 hm bv ⟨rfl, dx⟩
         refine Lw.fa rfl (Lw.u (T.st (j := 5) (v := vI ax.1) (dv.up bv) rfl rfl rfl rfl rfl) ?_)
         rintro _ _ ⟨dy, rfl, bw, dz⟩
         exact nl ((ag) ⟨ax.2, 6, e.1, f.1, ([] : Str), ([] : Str), ax.1, ([] : List Str), .slice none 0 0, dy, rfl, (((((i.j h).j x).j aw).j bv).j bw).w, rfl, (dx.up bw), owN 6 [], dz, hm⟩)
        ·refine sr (Lw.eq rfl (Nb rfl (cn hm (fun hm => ?_) fun hm => ?_)))
         ·refine sr (Lw.fa rfl (Lw.u (T.st (j := 0) (v := vI 7) H rfl rfl rfl rfl rfl) ?_))
          rintro _ _ ⟨e2, rfl, ay, d0⟩
          have d1 := F.t ay
          refine nl (rg (mp rfl (cr hm (fun _ => p37 (c0 := 2) (x0 := (Vm.l30Rd.mk x0.b d.2)) (G.up ay) (a.ul d1) rfl) ?_)))
          rintro az _ e3 hm bz ⟨rfl, d2⟩
          refine Lw.fa rfl (Lw.u (T.st (j := 5) (v := vI az.1) (d0.up bz) rfl rfl rfl rfl rfl) ?_)
          rintro _ _ ⟨d3, rfl, b0, d4⟩
          exact nl ((ag) ⟨az.2, 7, e.1, f.1, ([] : Str), ([] : Str), az.1, ([] : List Str), .slice none 0 0, d3, rfl, (((((i.j h).j x).j ay).j bz).j b0).w, rfl, (d2.up b0), owN 6 [], d4, hm⟩)
         ·refine sr (Lw.fa rfl (Lw.u (T.st (j := 0) (v := vI 1) H rfl rfl rfl rfl rfl) ?_))
          rintro _ _ ⟨e4, rfl, a0, d5⟩
          have b2 := F.t a0
          refine nl (sr (mp rfl (cr hm (fun _ => p49 (c0 := 2) (x0 := (Vm.l30Rd.mk x0.b d.2)) (G.up a0) (a.ul b2) rfl) ?_)))
          rintro a1 _ e5 hm a3 ⟨rfl, d6⟩
          have d7 := b2.t a3
          refine Lw.fa rfl (Lw.u (T.st (j := 3) (v := vS a1.1) (d5.up a3) rfl rfl rfl rfl rfl) ?_)
          rintro _ _ ⟨e6, rfl, a4, d8⟩
          have d9 := d7.t a4
          refine nl (rg (mp rfl (cr hm (fun _ => p110 (k0 := 8) (c0 := 2) (x0 := (Vm.l30Rd.mk x0.b a1.2)) (d6.up a4) (a.ul d9) rfl) ?_)))
          rintro b4 b5 e7 hm b6 ⟨_, rfl, b7, ea⟩
          refine Lw.fa rfl (Lw.u (T.st (j := 6) (v := b5) (d8.up b6) rfl rfl b7.oc rfl rfl) ?_)
          rintro _ _ ⟨e8, rfl, a5, eb⟩
          refine nl ?_
          obtain ⟨ec, ed, a6, ee⟩ := (b7.up a5).dyeO 6
          exact (ag) ⟨b4.2, 1, e.1, f.1, a1.1, ([] : Str), 0, b4.1, b5, ec, ed, ((((((((i.j h).j x).j a0).j a3).j a4).j b6).j a5).j a6).w, rfl, ((ea.up a5).up a6), ee, (eb.up a6), hm⟩
      ·refine sr (Lw.eq rfl (Nb rfl (cn hm (fun hm => ?_) fun hm => ?_)))
       ·exact sk ((ag) ⟨((d.1 : Int) == (4 : Int)), k, rfl, Le.refl _ _, rfl, hm⟩)
       ·refine sr (Lw.eq rfl (Nb rfl (cn hm (fun hm => ?_) fun hm => ?_)))
        ·exact sk ((ag) ⟨((d.1 : Int) == (5 : Int)), k, rfl, Le.refl _ _, rfl, hm⟩)
        ·exact rg (Lw.eq rfl (Nb rfl ((ag) ⟨((d.1 : Int) == (6 : Int)), k, rfl, Le.refl _ _, rfl, hm⟩)))
    ·refine sr (Lw.eq rfl (Nb rfl (cn hm (fun hm => ?_) fun hm => ?_)))
     ·exact sk ((ag) ⟨((d.1 : Int) == (2 : Int)), aa, rfl, Le.refl _ _, rfl, hm⟩)
     ·exact rg (Lw.eq rfl (Nb rfl ((ag) ⟨((d.1 : Int) == (3 : Int)), aa, rfl, Le.refl _ _, rfl, hm⟩)))
theorem p80 {x0 d f k0 c0 r} (hB0 : Bx W c0 d [f, vI x0.p]) (h : Rd W K [f] x0.b) (hJ : okJ K [c0] = true) (hm : Vm.ze6 x0 = some r) : Q1 80 [ptr (bx d)] W [c0] fun W' v => ∃ a, v = .agg [vI r.1.Kind, vS r.1.Branch, vS r.1.Who, vS r.1.Path, vS r.1.To, vI r.1.At, a].toArray ∧ Ow W' k0 [] [a] r.1.Text ∧ Bx W' c0 d [f, vI r.2] :=
 zap.adJ (J := [c0]) (fun c => bif Nat.beq c 0 then 0 else bif Nat.beq c 2 then c0 else bif Nat.beq c 31 then k0 else 0) (c80 (hB0.viewJ 0 hJ) (h.view _) hm) fun _ _ ⟨a, e, i, k⟩ => ⟨a, e, i.one1.backN rfl, Bx.backJ 0 k rfl⟩
theorem c61 {x0 f h r} (hB0 : Bx W0 2 f [h, vI x0.p]) (A : Rd W0 [0] [h] x0.b) (hm : Vm.zew x0 = some r) : Q0 61 [ptr (bx f)] W0 fun Wf v => ∃ B, v = B ∧ OwS Wf [31] [] [B] r.1 ∧ Bx Wf 2 f [h, vI r.2] := by
 unfold Vm.zew at hm
 refine zap.of Tryz.func61 rfl rfl rfl rfl (sr (Nv (.slice none 0 0) rfl (sr (Lw.t rfl (T.lit0 (α := Vm.Op) 3 []) ?_))))
 rintro C _ ⟨V, rfl, D, X⟩
 have Y := D.o
 have Z := hB0.up D
 refine Nv C rfl (ssr (mp rfl (Lw.t rfl (T.bsS (α := Int) (xs := [0, 3, 8, 14, 20]) 4 [] (W := V) [vI 0, vI 3, vI 8, vI 14, vI 20] (Each.cons ((rdI _)) (Each.cons ((rdI _)) (Each.cons ((rdI _)) (Each.cons ((rdI _)) (Each.cons ((rdI _)) Each.nil))))) rfl) ?_)))
 rintro v4 _ ⟨W4, rfl, y, o4⟩
 have E := Y.n y
 refine cr hm (fun _ => p69 (K := [0, 4]) (c0 := 2) (x0 := x0) (Z.up y) ((A.ul E).sub (M := [0, 4]) rfl) (o4.rd.sub (M := [0, 4]) rfl) rfl) ?_
 rintro F _ G hm H ⟨rfl, ac⟩
 have ae := E.t H
 refine Ni rfl (Cw.block ?_)
 obtain ⟨af, ah, hm⟩ := za1 hm
 refine Cw.loop 9 17 [3, 4] (fun m l w => ∃ z i k d e, CW.w e = w ∧ Le [2, 3, 5] G e ∧ l = [d, vI i] ∧ Ow e 3 [] [d] z ∧ Bx e 2 f [h, vI k] ∧ Vm.zc0 x0 af m z i k = some r) _ ⟨([] : List Vm.Op), F.1, F.2, C, G, rfl, Le.refl _ _, rfl, ((X.up y).up H), ac, hm⟩ ?_
 rintro (_ | ax) _ _ σ ⟨z, i, k, d, e, rfl, I, rfl, L, N, hm⟩
 ·cases hm
 unfold Vm.zc0 at hm
 have O := ae.t I
 refine ssr (mi rfl (Lw.gt rfl (nl (cn hm (fun hm => ?_) fun hm => ?_))))
 ·refine sk (Cw.seq (Cw.block (rg (mv d rfl (mp rfl (cr hm (fun _ => p80 (k0 := 5) (c0 := 2) (x0 := (Vm.l30Rd.mk x0.b k)) N (A.ul O) rfl) ?_))))))
  rintro a _ ay hm P ⟨Q, rfl, ai, aj⟩
  refine Lw.t rfl (T.bs 6 [.agg [vI a.1.Kind, vS a.1.Branch, vS a.1.Who, vS a.1.Path, vS a.1.To, vI a.1.At, Q].toArray] (cs := [vI a.1.Kind, vS a.1.Branch, vS a.1.Who, vS a.1.Path, vS a.1.To, vI a.1.At, Q]) rfl rfl (bsA rfl)) ?_
  rintro _ _ ⟨az, a0, rfl, rfl, x, ak⟩
  obtain ⟨am, an, hm⟩ := ob hm
  refine Lw.t rfl (T.app1 (α := Vm.Op) (J := [5]) (K' := []) ((L.up P).up x) ak (Op.own a.1.Kind a.1.Branch a.1.Who a.1.Path a.1.To a.1.At a.1.Text (ai.up x).s) rfl rfl an) ?_
  rintro R _ ⟨ao, rfl, S, ap⟩
  exact Nv R rfl (rg (mi rfl (Lw.sub rfl (Ni rfl ((agm) ⟨am, w64 (i - 1), a.2, R, ao, rfl, (((I.j P).j x).j S).w, rfl, ap, ((aj.up x).up S), hm⟩)))))
 ·refine Cw.exit ?_
  rw [ah] at hm
  refine sr (mv d rfl (Nv d rfl ?_))
  obtain ⟨a1, aq, U, ar⟩ := L.dyeO 31
  have au := O.t U
  cases hm
  rw [← aq]
  exact Cw.ret (zhh rfl (Res.mk au ⟨d, rfl, ar.s, (N.up U)⟩))
theorem p61 {x0 d f k0 c0 r} (hB0 : Bx W c0 d [f, vI x0.p]) (h : Rd W K [f] x0.b) (hJ : okJ K [c0] = true) (hm : Vm.zew x0 = some r) : Q1 61 [ptr (bx d)] W [c0] fun W' v => ∃ a, v = a ∧ Ow W' k0 [] [a] r.1 ∧ Bx W' c0 d [f, vI r.2] :=
 zap.adJ (J := [c0]) (fun c => bif Nat.beq c 0 then 0 else bif Nat.beq c 2 then c0 else bif Nat.beq c 31 then k0 else 0) (c61 (hB0.viewJ 0 hJ) (h.view _) hm) fun _ _ ⟨a, e, i, k⟩ => ⟨a, e, i.one1.backN rfl, Bx.backJ 0 k rfl⟩
theorem c42 {x0 x1 x2 r} (hm : Vm.zdq x0 x1 x2 = some r) : Q0 42 [vI x0, vI x1, vI x2] W0 fun Wf v => v = vB r := by
 unfold Vm.zdq at hm
 refine zap.of Tryz.func42 rfl rfl rfl rfl (sr (Nb rfl ?_))
 obtain ⟨e, f, hm⟩ := za1 hm
 refine Cw.join 7 14 [6] (fun l w => ∃ b d, CW.w d = w ∧ Le [] W0 d ∧ l = [vB b] ∧ e b = some r) ?_ ?_
 ·rintro _ _ σ ⟨b, d, rfl, h, rfl, hm⟩
  rw [f] at hm
  have i := h.o
  exact .ret (rt hm i)
 ·refine rg (mi rfl (mi rfl (Lw.ge rfl (mb rfl (bs hm (fun a hm => ?_) fun a hm => ?_)))))
  ·exact wak 3 a (mi rfl (mi rfl (Lw.le rfl (Pb a rfl (Nb rfl ((ag) ⟨decide ((x0 : Int) ≤ (x2 : Int)), W0, rfl, Le.refl _ _, rfl, hm⟩))))))
  ·exact psk 3 a rfl (Pb a rfl (Nb rfl ((ag) ⟨false, W0, rfl, Le.refl _ _, rfl, hm⟩)))
theorem p42 {x0 x1 x2 r} (hm : Vm.zdq x0 x1 x2 = some r) : Q1 42 [vI x0, vI x1, vI x2] W [] fun W' v => v = vB r :=
 (c42 (W0 := W.view [] [])  hm).ad (fk 0) fun _ _ e => e
theorem c43 {x0 r} (hm : Vm.zbt x0 = some r) : Q0 43 [vS x0] W0 fun Wf v => v = vB r := by
 unfold Vm.zbt at hm
 refine zap.of Tryz.func43 rfl rfl rfl rfl (sr (Nb rfl (ssr (Ni rfl (Cw.block ?_)))))
 obtain ⟨B, C, hm⟩ := za1 hm
 refine Cw.loop 4 31 [2, 3] (fun m l w => ∃ h i a, CW.w a = w ∧ Le [] W0 a ∧ l = [vB h, vI i] ∧ Vm.zbS x0 B m h i = some r) _ ⟨false, 0, W0, rfl, Le.refl _ _, rfl, hm⟩ ?_
 rintro (_ | Q) _ _ σ ⟨h, i, a, rfl, y, rfl, hm⟩
 ·cases hm
 unfold Vm.zbS at hm
 have z := y.o
 refine ssr (mi rfl (ms rfl (Lw.r rfl (R.lenS rfl) (Lw.lt rfl (nl (cn hm (fun hm => ?_) fun hm => ?_))))))
 ·refine sk (Cw.seq (Cw.block ?_))
  obtain ⟨D, E, hm⟩ := za1 hm
  refine Cw.join 10 31 [31] (fun l w => ∃ x k, CW.w k = w ∧ Le [] a k ∧ l = [vB x] ∧ D x = some r) ?_ ?_
  ·rintro _ _ σ ⟨x, k, rfl, A, rfl, hm⟩
   rw [E] at hm
   have F := z.n A
   refine cn hm (fun hm => ?_) fun hm => ?_
   ·exact sr (Nb rfl (.ret (rt hm F)))
   ·exact sk (rg (mi rfl (Lw.add rfl (Ni rfl ((agm) ⟨h, w64 (i + 1), k, rfl, (y.j A).w, rfl, hm⟩)))))
  ·refine rg (ms rfl (mi rfl ?_))
   obtain ⟨S, G, hm⟩ := ob hm
   refine Lw.r rfl (R.chm G rfl rfl) (Lw.lt rfl (mb rfl (bs hm (fun d hm => ?_) fun d hm => ?_)))
   ·refine psk 4 d rfl (Pb d rfl (mb rfl (wak 5 rfl (ms rfl (mi rfl ?_)))))
    obtain ⟨T, H, hm⟩ := ob hm
    refine Lw.r rfl (R.chm H rfl rfl) (Lw.lt rfl (mb rfl (bs hm (fun e hm => ?_) fun e hm => ?_)))
    ·exact psk 4 e rfl (wak 1 rfl (Pb e rfl (Pb rfl rfl (nl ((ag) ⟨true, a, rfl, Le.refl _ _, rfl, hm⟩)))))
    ·refine wak 4 e (ms rfl (mi rfl ?_))
     obtain ⟨I, J, hm⟩ := ob hm
     exact Lw.r rfl (R.chm J rfl rfl) (Lw.gt rfl (wak 1 rfl (Pb e rfl (Pb rfl rfl (nl ((ag) ⟨decide ((57 : Int) < ((UInt8.toNat I : Int) : Int)), a, rfl, Le.refl _ _, rfl, hm⟩))))))
   ·refine wak 4 d (ms rfl (mi rfl ?_))
    obtain ⟨U, K, hm⟩ := ob hm
    refine Lw.r rfl (R.chm K rfl rfl) (Lw.gt rfl (Pb d rfl (mb rfl (bs hm (fun b hm => ?_) fun b hm => ?_))))
    ·refine wak 5 b (ms rfl (mi rfl ?_))
     obtain ⟨V, L, hm⟩ := ob hm
     refine Lw.r rfl (R.chm L rfl rfl) (Lw.lt rfl (mb rfl (bs hm (fun f hm => ?_) fun f hm => ?_)))
     ·exact psk 4 f rfl (wak 1 b (Pb f rfl (Pb b rfl (nl ((ag) ⟨true, a, rfl, Le.refl _ _, rfl, hm⟩)))))
     ·refine wak 4 f (ms rfl (mi rfl ?_))
      obtain ⟨M, N, hm⟩ := ob hm
      exact Lw.r rfl (R.chm N rfl rfl) (Lw.gt rfl (wak 1 b (Pb f rfl (Pb b rfl (nl ((ag) ⟨decide ((57 : Int) < ((UInt8.toNat M : Int) : Int)), a, rfl, Le.refl _ _, rfl, hm⟩))))))
    ·exact psk 5 b rfl (puk 4 rfl (psk 1 b rfl (Pb b rfl (nl ((ag) ⟨false, a, rfl, Le.refl _ _, rfl, hm⟩)))))
 ·refine Cw.exit ?_
  rw [C] at hm
  refine sr (ms rfl (Lw.r rfl (R.lenS rfl) (ca hm (fun _ => p42) fun W X hm O => ?_)))
  have P := z.n O
  exact Nb rfl (.ret (rt hm P))
theorem p43 {x0 r} (hm : Vm.zbt x0 = some r) : Q1 43 [vS x0] W [] fun W' v => v = vB r :=
 (c43 (W0 := W.view [] [])  hm).ad (fk 0) fun _ _ e => e
theorem c98 {x0 R x1 x2 x3 x4 r} (T : Rd W0 [0] [vI x0.Kind, vS x0.Branch, vS x0.Who, vS x0.Path, vS x0.To, vI x0.At, R] x0) (hm : Vm.zci x0 x1 x2 x3 x4 = some r) : Q0 98 [.agg [vI x0.Kind, vS x0.Branch, vS x0.Who, vS x0.Path, vS x0.To, vI x0.At, R].toArray, vB x1, vB x2, vB x3, vB x4] W0 fun Wf v => v = vB r := by
 unfold Vm.zci at hm
 obtain ⟨Z, S, z⟩ := Op.split T
 simp only [List.cons.injEq, and_true, true_and] at S
 obtain rfl := S
 refine zap.of Tryz.func98 rfl rfl rfl rfl (sr (bo 2 rfl fun g1 a U b => ?_))
 have d := U.o
 refine Nb rfl ?_
 obtain ⟨V, W, hm⟩ := za1 hm
 refine Cw.join 11 41 [10] (fun l w => ∃ P Q, CW.w Q = w ∧ Le [] a Q ∧ l = [vB P] ∧ V P = some r) ?_ ?_
 ·rintro _ _ σ ⟨P, Q, rfl, X, rfl, hm⟩
  rw [W] at hm
  have Y := d.n X
  exact .ret (rt hm Y)
 ·refine rg (mb rfl (mb rfl (bs hm (fun A hm => ?_) fun A hm => ?_)))
  ·refine psk 3 A rfl (Pb A rfl (mb rfl (wak 2 rfl (mb rfl (mb rfl (bs hm (fun B hm => ?_) fun B hm => ?_))))))
   ·refine psk 3 B rfl (wak 1 rfl (Pb B rfl (Pb rfl rfl (mb rfl (wak 2 rfl (mb rfl (mb rfl (bs hm (fun C hm => ?_) fun C hm => ?_))))))))
    ·refine psk 3 C rfl (wak 1 rfl (Pb C rfl (Pb rfl rfl (mb rfl (wak 2 rfl (mb rfl (mb rfl (bs hm (fun D hm => ?_) fun D hm => ?_))))))))
     ·exact psk 4 D rfl (wak 1 rfl (Pb D rfl (Pb rfl rfl (Nb rfl ((ag) ⟨true, a, rfl, Le.refl _ _, rfl, hm⟩)))))
     ·exact wak 4 D (fl b rfl (Lw.ln x0.Text (z.ul d) rfl (Lw.eq rfl (wak 1 rfl (Pb D rfl (Pb rfl rfl (Nb rfl ((ag) ⟨(((x0.Text.length : Int) : Int) == (0 : Int)), a, rfl, Le.refl _ _, rfl, hm⟩))))))))
    ·refine wak 3 C (fl b rfl (Lw.eq rfl (wak 1 rfl (Pb C rfl (Pb rfl rfl (mb rfl (bs hm (fun e hm => ?_) fun e hm => ?_)))))))
     ·refine wak 2 e (mb rfl (mb rfl (bs hm (fun E hm => ?_) fun E hm => ?_)))
      ·exact psk 4 E rfl (wak 1 e (Pb E rfl (Pb e rfl (Nb rfl ((ag) ⟨true, a, rfl, Le.refl _ _, rfl, hm⟩)))))
      ·exact wak 4 E (fl b rfl (Lw.ln x0.Text (z.ul d) rfl (Lw.eq rfl (wak 1 e (Pb E rfl (Pb e rfl (Nb rfl ((ag) ⟨(((x0.Text.length : Int) : Int) == (0 : Int)), a, rfl, Le.refl _ _, rfl, hm⟩))))))))
     ·exact psk 2 e rfl (puk 4 rfl (psk 1 e rfl (Pb e rfl (Nb rfl ((ag) ⟨false, a, rfl, Le.refl _ _, rfl, hm⟩)))))
   ·refine wak 3 B (fl b rfl (Lw.seq rfl (wak 1 rfl (Pb B rfl (Pb rfl rfl (mb rfl (bs hm (fun f hm => ?_) fun f hm => ?_)))))))
    ·refine wak 2 f (mb rfl (mb rfl (bs hm (fun F hm => ?_) fun F hm => ?_)))
     ·refine psk 3 F rfl (wak 1 f (Pb F rfl (Pb f rfl (mb rfl (wak 2 rfl (mb rfl (mb rfl (bs hm (fun G hm => ?_) fun G hm => ?_))))))))
      ·exact psk 4 G rfl (wak 1 rfl (Pb G rfl (Pb rfl rfl (Nb rfl ((ag) ⟨true, a, rfl, Le.refl _ _, rfl, hm⟩)))))
      ·exact wak 4 G (fl b rfl (Lw.ln x0.Text (z.ul d) rfl (Lw.eq rfl (wak 1 rfl (Pb G rfl (Pb rfl rfl (Nb rfl ((ag) ⟨(((x0.Text.length : Int) : Int) == (0 : Int)), a, rfl, Le.refl _ _, rfl, hm⟩))))))))
     ·refine wak 3 F (fl b rfl (Lw.eq rfl (wak 1 f (Pb F rfl (Pb f rfl (mb rfl (bs hm (fun h hm => ?_) fun h hm => ?_)))))))
      ·refine wak 2 h (mb rfl (mb rfl (bs hm (fun H hm => ?_) fun H hm => ?_)))
       ·exact psk 4 H rfl (wak 1 h (Pb H rfl (Pb h rfl (Nb rfl ((ag) ⟨true, a, rfl, Le.refl _ _, rfl, hm⟩)))))
       ·exact wak 4 H (fl b rfl (Lw.ln x0.Text (z.ul d) rfl (Lw.eq rfl (wak 1 h (Pb H rfl (Pb h rfl (Nb rfl ((ag) ⟨(((x0.Text.length : Int) : Int) == (0 : Int)), a, rfl, Le.refl _ _, rfl, hm⟩))))))))
      ·exact psk 2 h rfl (puk 4 rfl (psk 1 h rfl (Pb h rfl (Nb rfl ((ag) ⟨false, a, rfl, Le.refl _ _, rfl, hm⟩)))))
    ·exact psk 2 f rfl (puk 3 rfl (psk 1 f rfl (Pb f rfl (mb rfl (psk 2 rfl rfl (puk 4 rfl (psk 1 rfl rfl (Pb rfl rfl (Nb rfl ((ag) ⟨false, a, rfl, Le.refl _ _, rfl, hm⟩))))))))))
  ·refine wak 3 A (fl b rfl (Lw.seq rfl (Pb A rfl (mb rfl (bs hm (fun i hm => ?_) fun i hm => ?_)))))
   ·refine wak 2 i (mb rfl (mb rfl (bs hm (fun I hm => ?_) fun I hm => ?_)))
    ·refine psk 3 I rfl (wak 1 i (Pb I rfl (Pb i rfl (mb rfl (wak 2 rfl (mb rfl (mb rfl (bs hm (fun J hm => ?_) fun J hm => ?_))))))))
     ·refine psk 3 J rfl (wak 1 rfl (Pb J rfl (Pb rfl rfl (mb rfl (wak 2 rfl (mb rfl (mb rfl (bs hm (fun K hm => ?_) fun K hm => ?_))))))))
      ·exact psk 4 K rfl (wak 1 rfl (Pb K rfl (Pb rfl rfl (Nb rfl ((ag) ⟨true, a, rfl, Le.refl _ _, rfl, hm⟩)))))
      ·exact wak 4 K (fl b rfl (Lw.ln x0.Text (z.ul d) rfl (Lw.eq rfl (wak 1 rfl (Pb K rfl (Pb rfl rfl (Nb rfl ((ag) ⟨(((x0.Text.length : Int) : Int) == (0 : Int)), a, rfl, Le.refl _ _, rfl, hm⟩))))))))
     ·refine wak 3 J (fl b rfl (Lw.eq rfl (wak 1 rfl (Pb J rfl (Pb rfl rfl (mb rfl (bs hm (fun k hm => ?_) fun k hm => ?_)))))))
      ·refine wak 2 k (mb rfl (mb rfl (bs hm (fun L hm => ?_) fun L hm => ?_)))
       ·exact psk 4 L rfl (wak 1 k (Pb L rfl (Pb k rfl (Nb rfl ((ag) ⟨true, a, rfl, Le.refl _ _, rfl, hm⟩)))))
       ·exact wak 4 L (fl b rfl (Lw.ln x0.Text (z.ul d) rfl (Lw.eq rfl (wak 1 k (Pb L rfl (Pb k rfl (Nb rfl ((ag) ⟨(((x0.Text.length : Int) : Int) == (0 : Int)), a, rfl, Le.refl _ _, rfl, hm⟩))))))))
      ·exact psk 2 k rfl (puk 4 rfl (psk 1 k rfl (Pb k rfl (Nb rfl ((ag) ⟨false, a, rfl, Le.refl _ _, rfl, hm⟩)))))
    ·refine wak 3 I (fl b rfl (Lw.seq rfl (wak 1 i (Pb I rfl (Pb i rfl (mb rfl (bs hm (fun x hm => ?_) fun x hm => ?_)))))))
     ·refine wak 2 x (mb rfl (mb rfl (bs hm (fun M hm => ?_) fun M hm => ?_)))
      ·refine psk 3 M rfl (wak 1 x (Pb M rfl (Pb x rfl (mb rfl (wak 2 rfl (mb rfl (mb rfl (bs hm (fun N hm => ?_) fun N hm => ?_))))))))
       ·exact psk 4 N rfl (wak 1 rfl (Pb N rfl (Pb rfl rfl (Nb rfl ((ag) ⟨true, a, rfl, Le.refl _ _, rfl, hm⟩)))))
       ·exact wak 4 N (fl b rfl (Lw.ln x0.Text (z.ul d) rfl (Lw.eq rfl (wak 1 rfl (Pb N rfl (Pb rfl rfl (Nb rfl ((ag) ⟨(((x0.Text.length : Int) : Int) == (0 : Int)), a, rfl, Le.refl _ _, rfl, hm⟩))))))))
      ·refine wak 3 M (fl b rfl (Lw.eq rfl (wak 1 x (Pb M rfl (Pb x rfl (mb rfl (bs hm (fun y hm => ?_) fun y hm => ?_)))))))
       ·refine wak 2 y (mb rfl (mb rfl (bs hm (fun O hm => ?_) fun O hm => ?_)))
        ·exact psk 4 O rfl (wak 1 y (Pb O rfl (Pb y rfl (Nb rfl ((ag) ⟨true, a, rfl, Le.refl _ _, rfl, hm⟩)))))
        ·exact wak 4 O (fl b rfl (Lw.ln x0.Text (z.ul d) rfl (Lw.eq rfl (wak 1 y (Pb O rfl (Pb y rfl (Nb rfl ((ag) ⟨(((x0.Text.length : Int) : Int) == (0 : Int)), a, rfl, Le.refl _ _, rfl, hm⟩))))))))
       ·exact psk 2 y rfl (puk 4 rfl (psk 1 y rfl (Pb y rfl (Nb rfl ((ag) ⟨false, a, rfl, Le.refl _ _, rfl, hm⟩)))))
     ·exact psk 2 x rfl (puk 3 rfl (psk 1 x rfl (Pb x rfl (mb rfl (psk 2 rfl rfl (puk 4 rfl (psk 1 rfl rfl (Pb rfl rfl (Nb rfl ((ag) ⟨false, a, rfl, Le.refl _ _, rfl, hm⟩))))))))))
   ·exact psk 2 i rfl (puk 3 rfl (psk 1 i rfl (Pb i rfl (mb rfl (psk 2 rfl rfl (puk 3 rfl (psk 1 rfl rfl (Pb rfl rfl (mb rfl (psk 2 rfl rfl (puk 4 rfl (psk 1 rfl rfl (Pb rfl rfl (Nb rfl ((ag) ⟨false, a, rfl, Le.refl _ _, rfl, hm⟩)))))))))))))))
theorem p98 {x0 a x1 x2 x3 x4 r} (b : Rd W K [vI x0.Kind, vS x0.Branch, vS x0.Who, vS x0.Path, vS x0.To, vI x0.At, a] x0) (hm : Vm.zci x0 x1 x2 x3 x4 = some r) : Q1 98 [.agg [vI x0.Kind, vS x0.Branch, vS x0.Who, vS x0.Path, vS x0.To, vI x0.At, a].toArray, vB x1, vB x2, vB x3, vB x4] W [] fun W' v => v = vB r :=
 (c98 (b.view _) hm).ad (fk 0) fun _ _ e => e
theorem c83 {x0 x1 x2 r} (hm : Vm.ze7 x0 x1 x2 = some r) : Q0 83 [vS x0, .int .u8 (UInt8.toNat x1 : Int), vI x2] W0 fun Wf v => ∃ D, v = D ∧ OwS Wf LL [] [D] r := by
 unfold Vm.ze7 at hm
 refine zap.of Tryz.func83 rfl rfl rfl rfl (sr (Nv (.slice none 0 0) rfl (sr (Lw.t rfl (T.lit0 (α := Str) 2 []) ?_))))
 rintro E _ ⟨F, rfl, O, P⟩
 have Q := O.o
 refine Nv E rfl (sr (Ni rfl (ssr (Ni rfl (Cw.block ?_)))))
 obtain ⟨S, U, hm⟩ := za1 hm
 refine Cw.loop 11 36 [7, 8, 9] (fun m l w => ∃ d k e a b, CW.w b = w ∧ Le [2] F b ∧ l = [a, vI k, vI e] ∧ Ow b 2 [] [a] d ∧ Vm.zdr x0 x1 x2 S m d k e = some r) _ ⟨([] : List Str), 0, 0, E, F, rfl, Le.refl _ _, rfl, P, hm⟩ ?_
 rintro (_ | ay) _ _ σ ⟨d, k, e, a, b, rfl, G, rfl, H, hm⟩
 ·cases hm
 unfold Vm.zdr at hm
 have V := Q.t G
 refine Cw.seq ?_
 obtain ⟨W, X, hm⟩ := za1 hm
 refine Cw.join 11 20 [20] (fun l w => ∃ A f, CW.w f = w ∧ Le [] b f ∧ l = [vB A] ∧ W A = some r) ?_ ?_
 ·rintro _ _ σ ⟨A, f, rfl, B, rfl, hm⟩
  rw [X] at hm
  have Y := V.n B
  have C := H.up B
  refine cn hm (fun hm => ?_) fun hm => ?_
  ·refine sk ?_
   obtain ⟨Z, aa, hm⟩ := za1 hm
   refine Cw.join 23 36 [7, 8] (fun l w => ∃ x y z h, CW.w h = w ∧ Le [2] f h ∧ l = [z, vI y] ∧ Ow h 2 [] [z] x ∧ Z x y = some r) ?_ ?_
   ·rintro _ _ σ ⟨x, y, z, h, rfl, ac, rfl, ae, hm⟩
    rw [aa] at hm
    exact rg (mi rfl (Lw.add rfl (Ni rfl ((agm) ⟨x, y, w64 (e + 1), z, h, rfl, ((G.j B).j ac).w, rfl, ae, hm⟩))))
   ·refine Cw.block (sr (ms rfl (mi rfl ?_)))
    obtain ⟨az, af, hm⟩ := ob hm
    refine Lw.r rfl (R.chm af rfl rfl) (mv (.int .u8 (UInt8.toNat x1 : Int)) rfl (Lw.eq rfl (nl (cn hm (fun hm => ?_) fun hm => ?_))))
    ·refine sr (mv a rfl (ms rfl (mi rfl (mi rfl ?_))))
     obtain ⟨I, ah, hm⟩ := ob hm
     refine Lw.r rfl (R.ss ah rfl (.inr rfl) (.inr rfl)) (Lw.t rfl (T.bs 3 [vS I] (cs := [vS I]) rfl rfl (bsv rfl)) ?_)
     rintro _ _ ⟨a0, a1, rfl, rfl, J, ai⟩
     obtain ⟨aj, ak, hm⟩ := ob hm
     refine Lw.t rfl (T.app1S (α := Str) (K' := []) (C.up J) ai (rdS _) rfl rfl ak) ?_
     rintro K _ ⟨am, rfl, an, ao⟩
     exact Nv K rfl (rg (mi rfl (Lw.add rfl (Ni rfl ((ag) ⟨aj, w64 (e + 1), K, am, rfl, (J.j an).w, rfl, ao, hm⟩)))))
    ·exact sk ((ag) ⟨d, k, a, f, rfl, Le.refl _ _, rfl, C, hm⟩)
  ·refine Cw.exit ?_
   rw [U] at hm
   refine sr (mv a rfl (ms rfl (mi rfl ?_)))
   obtain ⟨L, ap, hm⟩ := ob hm
   refine Lw.r rfl (R.ss ap rfl (.inr rfl) (.inl ⟨rfl, rfl⟩)) (Lw.t rfl (T.bs 4 [vS L] (cs := [vS L]) rfl rfl (bsv rfl)) ?_)
   rintro _ _ ⟨a3, a4, rfl, rfl, M, aq⟩
   have ar := Y.n M
   obtain ⟨a5, au, hm⟩ := ob hm
   refine Lw.t rfl (T.app1S (α := Str) (K' := []) (C.up M) aq (rdS _) rfl rfl au) ?_
   rintro N _ ⟨a6, rfl, av, aw⟩
   have ax := ar.t av
   refine Nv N rfl ?_
   cases hm
   exact Cw.ret (zhh rfl (Res.mk ax ⟨N, rfl, aw.s.sub rfl rfl⟩))
 ·refine rg (mi rfl (ms rfl (Lw.r rfl (R.lenS rfl) (Lw.lt rfl (mb rfl (bs hm (fun i hm => ?_) fun i hm => ?_))))))
  ·exact wak 4 i (mv a rfl (Lw.ln d H.rd rfl (mi rfl (Lw.lt rfl (Pb i rfl (nl ((ag) ⟨decide (((d.length : Int) : Int) < (x2 : Int)), b, rfl, Le.refl _ _, rfl, hm⟩)))))))
  ·exact psk 4 i rfl (Pb i rfl (nl ((ag) ⟨false, b, rfl, Le.refl _ _, rfl, hm⟩)))
theorem p83 {x0 x1 x2 k0 r} (hm : Vm.ze7 x0 x1 x2 = some r) : Q1 83 [vS x0, .int .u8 (UInt8.toNat x1 : Int), vI x2] W [] fun W' v => ∃ a, v = a ∧ Ow W' k0 [] [a] r :=
 (c83 (W0 := W.view [] [])  hm).ad (fk k0) fun _ _ ⟨a, e, b⟩ => ⟨a, e, b.back (zhf _)⟩
theorem c65 {x0 r} (hm : Vm.zcs x0 = some r) : Q0 65 [vS x0] W0 fun Wf v => v = vB r := by
 unfold Vm.zcs at hm
 refine zap.of Tryz.func65 rfl rfl rfl rfl (sr (Nb rfl (sr (ms rfl (cr hm (fun _ => p83 (k0 := 2)) ?_)))))
 rintro f a k hm A ⟨_, rfl, B⟩
 have C := A.o
 refine Nv a rfl (ssr (Ni rfl (Cw.block ?_)))
 obtain ⟨D, E, hm⟩ := za1 hm
 refine Cw.loop 7 18 [2, 4] (fun m l w => ∃ b d h, CW.w h = w ∧ Le [] k h ∧ l = [vB b, vI d] ∧ Vm.zbT f D m b d = some r) _ ⟨false, 0, k, rfl, Le.refl _ _, rfl, hm⟩ ?_
 rintro (_ | H) _ _ σ ⟨b, d, h, rfl, i, rfl, hm⟩
 ·cases hm
 unfold Vm.zbT at hm
 have x := C.n i
 have e := B.up i
 refine ssr (mi rfl (mv a rfl (Lw.ln f e.rd rfl (Lw.lt rfl (nl (cn hm (fun hm => ?_) fun hm => ?_))))))
 ·refine sk (Cw.seq (Cw.block (sr (mv a rfl (mi rfl ?_)))))
  obtain ⟨I, y, hm⟩ := ob hm
  refine Lw.r rfl (R.ix (α := Str) e.rd y rfl rfl rfl) (Lw.r rfl (R.ld rfl rfl (e.rd.at_ y).str) (ca hm (fun _ => p43) fun J F hm z => ?_))
  have G := x.n z
  refine Lw.r rfl (R.not rfl) (nl (cn hm (fun hm => ?_) fun hm => ?_))
  ·exact sr (Nb rfl (.ret (rt hm G)))
  ·exact sk (rg (mi rfl (Lw.add rfl (Ni rfl ((agm) ⟨b, w64 (d + 1), F, rfl, (i.j z).w, rfl, hm⟩)))))
 ·refine Cw.exit ?_
  rw [E] at hm
  exact sr (mv a rfl (Lw.ln f e.rd rfl (Lw.le rfl (Nb rfl (.ret (rt hm x))))))
theorem p65 {x0 r} (hm : Vm.zcs x0 = some r) : Q1 65 [vS x0] W [] fun W' v => v = vB r :=
 (c65 (W0 := W.view [] [])  hm).ad (fk 0) fun _ _ e => e
theorem c84 {x0 r} (hm : Vm.zex x0 = some r) : Q0 84 [vS x0] W0 fun Wf v => v = vB r := by
 unfold Vm.zex at hm
 refine zap.of Tryz.func84 rfl rfl rfl rfl (sr (Nb rfl (ssr (Ni rfl (Cw.block ?_)))))
 obtain ⟨y, z, hm⟩ := za1 hm
 refine Cw.loop 4 19 [2, 3] (fun m l w => ∃ d e a, CW.w a = w ∧ Le [] W0 a ∧ l = [vB d, vI e] ∧ Vm.zbU x0 y m d e = some r) _ ⟨false, 0, W0, rfl, Le.refl _ _, rfl, hm⟩ ?_
 rintro (_ | G) _ _ σ ⟨d, e, a, rfl, i, rfl, hm⟩
 ·cases hm
 unfold Vm.zbU at hm
 have k := i.o
 refine ssr (mi rfl (ms rfl (Lw.r rfl (R.lenS rfl) (Lw.lt rfl (nl (cn hm (fun hm => ?_) fun hm => ?_))))))
 ·refine sk (Cw.seq (Cw.block ?_))
  obtain ⟨A, B, hm⟩ := za1 hm
  refine Cw.join 10 19 [19] (fun l w => ∃ h f, CW.w f = w ∧ Le [] a f ∧ l = [vB h] ∧ A h = some r) ?_ ?_
  ·rintro _ _ σ ⟨h, f, rfl, x, rfl, hm⟩
   rw [B] at hm
   have C := k.n x
   refine cn hm (fun hm => ?_) fun hm => ?_
   ·exact sr (Nb rfl (.ret (rt hm C)))
   ·exact sk (rg (mi rfl (Lw.add rfl (Ni rfl ((agm) ⟨d, w64 (e + 1), f, rfl, (i.j x).w, rfl, hm⟩)))))
  ·refine rg (ms rfl (mi rfl ?_))
   obtain ⟨H, D, hm⟩ := ob hm
   refine Lw.r rfl (R.chm D rfl rfl) (Lw.lt rfl (mb rfl (bs hm (fun b hm => ?_) fun b hm => ?_)))
   ·exact psk 4 b rfl (Pb b rfl (nl ((ag) ⟨true, a, rfl, Le.refl _ _, rfl, hm⟩)))
   ·refine wak 4 b (ms rfl (mi rfl ?_))
    obtain ⟨E, F, hm⟩ := ob hm
    exact Lw.r rfl (R.chm F rfl rfl) (Lw.gt rfl (Pb b rfl (nl ((ag) ⟨decide ((126 : Int) < ((UInt8.toNat E : Int) : Int)), a, rfl, Le.refl _ _, rfl, hm⟩))))
 ·refine Cw.exit ?_
  rw [z] at hm
  exact sr (ms rfl (Lw.r rfl (R.lenS rfl) (Lw.le rfl (Nb rfl (.ret (rt hm k))))))
theorem p84 {x0 r} (hm : Vm.zex x0 = some r) : Q1 84 [vS x0] W [] fun W' v => v = vB r :=
 (c84 (W0 := W.view [] [])  hm).ad (fk 0) fun _ _ e => e
theorem c66 {x0 a r} (y : Rd W0 [0] [a] x0) (hm : Vm.zcW x0 = some r) : Q0 66 [a] W0 fun Wf v => v = vB r := by
 unfold Vm.zcW at hm
 refine zap.of Tryz.func66 rfl rfl rfl rfl (sr (Nb rfl (ssr (Ni rfl (Cw.block ?_)))))
 obtain ⟨z, A, hm⟩ := za1 hm
 refine Cw.loop 4 15 [2, 3] (fun m l w => ∃ b d f, CW.w f = w ∧ Le [] W0 f ∧ l = [vB b, vI d] ∧ Vm.zc1 x0 z m b d = some r) _ ⟨false, 0, W0, rfl, Le.refl _ _, rfl, hm⟩ ?_
 rintro (_ | D) _ _ σ ⟨b, d, f, rfl, i, rfl, hm⟩
 ·cases hm
 unfold Vm.zc1 at hm
 have h := i.o
 refine ssr ?_
 have e := y.ul h
 refine mi rfl (mv a rfl (Lw.ln x0 e rfl (Lw.lt rfl (nl (cn hm (fun hm => ?_) fun hm => ?_)))))
 ·refine sk (Cw.seq (Cw.block (sr (mv a rfl (mi rfl ?_)))))
  obtain ⟨E, k, hm⟩ := ob hm
  refine Lw.r rfl (R.ix (α := Str) e k rfl rfl rfl) (Lw.r rfl (R.ld rfl rfl (e.at_ k).str) (ca hm (fun _ => p84) fun F B hm x => ?_))
  have C := h.n x
  refine Lw.r rfl (R.not rfl) (nl (cn hm (fun hm => ?_) fun hm => ?_))
  ·exact sr (Nb rfl (.ret (rt hm C)))
  ·exact sk (rg (mi rfl (Lw.add rfl (Ni rfl ((agm) ⟨b, w64 (d + 1), B, rfl, (i.j x).w, rfl, hm⟩)))))
 ·refine Cw.exit ?_
  rw [A] at hm
  exact sr (mv a rfl (Lw.ln x0 e rfl (Lw.le rfl (Nb rfl (.ret (rt hm h))))))
theorem p66 {x0 a r} (b : Rd W K [a] x0) (hm : Vm.zcW x0 = some r) : Q1 66 [a] W [] fun W' v => v = vB r :=
 (c66 (b.view _) hm).ad (fk 0) fun _ _ e => e
theorem c99 {x0 a r} (y : Rd W0 [0] [a] x0) (hm : Vm.zds x0 = some r) : Q0 99 [a] W0 fun Wf v => v = vB r := by
 unfold Vm.zds at hm
 refine zap.of Tryz.func99 rfl rfl rfl rfl (sr (Nb rfl (ssr (Ni rfl (Cw.block ?_)))))
 obtain ⟨F, G, hm⟩ := za1 hm
 refine Cw.loop 5 26 [2, 3, 4] (fun m l w => ∃ i b A d, CW.w d = w ∧ Le [] W0 d ∧ l = [vB i, vI b, A] ∧ Vm.zaK x0 F m i b = some r) _ ⟨false, 0, undef, W0, rfl, Le.refl _ _, rfl, hm⟩ ?_
 rintro (_ | M) _ _ σ ⟨i, b, A, d, rfl, B, rfl, hm⟩
 ·cases hm
 unfold Vm.zaK at hm
 have k := B.o
 refine ssr (mi rfl (mv a rfl (Lw.ln x0 (y.ul k) rfl (Lw.lt rfl (nl (cn hm (fun hm => ?_) fun hm => ?_))))))
 ·refine sk (Cw.seq (Cw.block (sr (Ni rfl (Cw.block ?_)))))
  obtain ⟨H, I, hm⟩ := za1 hm
  refine Cw.loop 11 26 [2, 4] (fun m l w => ∃ e f h, CW.w h = w ∧ Le [] d h ∧ l = [vB e, vI f] ∧ Vm.zbi x0 b H m e f = some r) _ ⟨i, 0, d, rfl, Le.refl _ _, rfl, hm⟩ ?_
  rintro (_ | N) _ _ σ ⟨e, f, h, rfl, z, rfl, hm⟩
  ·cases hm
  unfold Vm.zbi at hm
  have C := k.n z
  refine ssr (mi rfl (mv a rfl (mi rfl ?_)))
  obtain ⟨O, D, hm⟩ := ob hm
  have x := y.ul C
  refine Lw.r rfl (R.ix (α := Str) x D rfl rfl rfl) (Lw.r rfl (R.ld rfl rfl (x.at_ D).str) (Lw.r rfl (R.lenS rfl) (Lw.lt rfl (nl (cn hm (fun hm => ?_) fun hm => ?_)))))
  ·refine sk (Cw.seq (Cw.block (sr (mv a rfl (mi rfl ?_)))))
   obtain ⟨P, E, hm⟩ := ob hm
   refine Lw.r rfl (R.ix (α := Str) x E rfl rfl rfl) (Lw.r rfl (R.ld rfl rfl (x.at_ E).str) (mi rfl ?_))
   obtain ⟨Q, J, hm⟩ := ob hm
   refine Lw.r rfl (R.chm J rfl rfl) (Lw.eq rfl (nl (cn hm (fun hm => ?_) fun hm => ?_)))
   ·exact sr (Nb rfl (.ret (rt hm C)))
   ·exact sk (rg (mi rfl (Lw.add rfl (Ni rfl ((agm) ⟨e, w64 (f + 1), h, rfl, z, rfl, hm⟩)))))
  ·refine Cw.exit ?_
   rw [I] at hm
   exact rg (mi rfl (Lw.add rfl (Ni rfl ((agm) ⟨e, w64 (b + 1), vI f, h, rfl, (B.j z).w, rfl, hm⟩))))
 ·refine Cw.exit ?_
  rw [G] at hm
  refine sr (mv a rfl (ca hm (fun _ => p66 (y.ul k)) fun S T hm K => ?_))
  have L := k.n K
  exact Nb rfl (.ret (rt hm L))
theorem p99 {x0 a r} (b : Rd W K [a] x0) (hm : Vm.zds x0 = some r) : Q1 99 [a] W [] fun W' v => v = vB r :=
 (c99 (b.view _) hm).ad (fk 0) fun _ _ e => e
end Go.Sx
