/-
 The law 'FnOpPut' answers true whatever its arguments, and leaves all memory that was there as it was; the card.
 Conditions: none beyond the given statement's own.
-/
import Derived.Stop.LaidErr
import Derived.Test.YtjokjcdckcpijaaDoorRows
import Derived.Test.YtjokjcdckcpijaaDoorAW3
import Derived.Test.YtjokjcdckcpijaaDoorAGFnOpPut
import Derived.Test.YtjokjcdckcpijaaDoorAOs
import Derived.Test.YtjokjcdckcpijaaDoorAShelf
import Derived.Test.YtjokjcdckcpijaaDoorAKFnOpPut
import Derived.Test.YtjokjcdckcpijaaDoorCards
import Derived.Test.YtjokjcdckcpijaaDoorTie
import Derived.WalkKit
import Derived.ProofKit
import Derived.OpenShut
import Derived.ShutString
import Derived.ChangeOld
import Derived.Below
import Derived.Deep.DeepHandedRow
import Derived.LaidLaws
namespace Go.Proofs.YtjokjcdckcpijaaDoor.fnOpPut
open Go.ChangeShapes Go.WideShapes Go.ChangeAt Go.RowKit Go.Sx Go.Vm
set_option linter.unusedVariables false
theorem own:ownKnob Tryd.prog.godebug=none:=by kernel_rfl
theorem laidOut:laidOutB Tryd.prog=true:=by kernel_rfl
theorem glob0 {W:World}(h:W.ShapedOpen Tryd.prog):Gl 2 ⟨W,fun _=>0⟩ [0]:=by
 obtain⟨m,hm⟩:=Go.Proofs.cell_of_shapedOpen_int (g:=2) (w:=W) (zero:= #[.int .i64 0]) (t:=3) h (of_decide_eq_true (by kernel_rfl)) (by kernel_rfl) rfl (by kernel_rfl) (by kernel_rfl) Tryd.underlying3
 have hm:W.cell? ⟨2,0,none⟩=some (.int .i64 m):=hm
 refine⟨m,⟨World.block_lt_of_cell? _ _ hm,by simp⟩,[vI m],fun j u hu=>?_,⟨rfl,trivial⟩⟩
 cases j with
 |zero=>
  obtain rfl:vI m=u:=by simpa using hu
  rw[show(⟨2,0,none⟩:Addr).add 0=⟨2,0,none⟩ by simp[Addr.add]]
  exact hm
 |succ j=>simp at hu
theorem star : "*" ++ "errors.errorString" = "*errors.errorString" := by decide
theorem rowE (u : TypeId) (h : Tryd.prog.typeName? 3 u = some "*errors.errorString") : u = 103 :=
 typeName_ptr_named (nm := "errors.errorString") (by rw [star]; kernel_rfl) (by kernel_rfl) (by decide) u (by rw [star]; exact h)
theorem ge {W:World}{g:Nat}{nm:String}{v:Value}{te:TypeId}{pe:Value}(hg:Tryd.prog.globalNamed nm=some g)(hv:W.var? Tryd.prog nm=some #[.iface te pe]):Ge g ⟨W,fun _=>0⟩ [0]:=by
 have h0:W.cell? ⟨g,0,none⟩=some (.iface te pe):=by
  have h0:=World.var?_cell hg hv 0
  simpa using h0
 exact⟨⟨World.block_lt_of_cell? _ _ h0,by simp⟩,_,h0, .inr ⟨_,_,rfl⟩⟩
theorem glob {W:World}(h:W.ShapedOpen Tryd.prog)(hL:laidMet Tryd.prog Rows.fnOpPutRow.laid W):Gk 2 0 1 ⟨W,fun _=>0⟩ [0]:=by
 obtain ⟨a0, s0, hv0, -, -, -⟩ := laid_sentinel (n := "strconv.ErrSyntax") (g := 0) (ti := 48) (tp := 103) (te := 105) (ts := 9) hL.tail.tail.tail.tail.tail (by kernel_rfl) (by kernel_rfl) Tryd.underlying48 rowE Tryd.underlying103 Tryd.underlying105 rfl rfl Tryd.underlying9 (by kernel_rfl) (by kernel_rfl)
 obtain ⟨a1, s1, hv1, -, -, -⟩ := laid_sentinel (n := "strconv.ErrRange") (g := 1) (ti := 48) (tp := 103) (te := 105) (ts := 9) hL.tail.tail.tail.tail (by kernel_rfl) (by kernel_rfl) Tryd.underlying48 rowE Tryd.underlying103 Tryd.underlying105 rfl rfl Tryd.underlying9 (by kernel_rfl) (by kernel_rfl)
 exact ⟨glob0 h, ge (nm := "strconv.ErrSyntax") (v := .nilIface) (by kernel_rfl) hv0, ge (nm := "strconv.ErrRange") (v := .nilIface) (by kernel_rfl) hv1⟩
theorem walk (W:World){x0:List Byte}{v0:Value}(rd0:Rd ⟨W,fun _=>0⟩ [0] [v0] x0)(ft0:Bk.fit x0)(hg:Gk 2 0 1 ⟨W,fun _=>0⟩ [0]):Calls Tryd.prog 4 [v0].toArray W fun e w'=>e = .returned (.bool true)/\Below W.heap.size W w':=
 zaq.fin (W:=⟨W,fun _=>0⟩) (p4 (W:=⟨W,fun _=>0⟩) (K:=[0]) rd0 hg (zhF ft0))
noncomputable def low:Nat:=(World.holding Tryd.prog default ⟨#[],#[],[]⟩).heap.size
noncomputable def laidWorld (os:Os):World:=
 {World.holding Tryd.prog os ⟨#[.cells #[.string ⟨#[105,110,118,97,108,105,100,32,115,121,110,116,97,120]⟩] 105, .cells #[.string ⟨#[118,97,108,117,101,32,111,117,116,32,111,102,32,114,97,110,103,101]⟩] 105],#[],[]⟩with heap:=((((((((World.holding Tryd.prog os ⟨#[.cells #[.string ⟨#[105,110,118,97,108,105,100,32,115,121,110,116,97,120]⟩] 105, .cells #[.string ⟨#[118,97,108,117,101,32,111,117,116,32,111,102,32,114,97,110,103,101]⟩] 105],#[],[]⟩).heap.modify 6 fun
  | .cells _ t frozen=> .cells #[.int .u8 0, .int .u8 1, .int .u8 28, .int .u8 2, .int .u8 29, .int .u8 14, .int .u8 24, .int .u8 3, .int .u8 30, .int .u8 22, .int .u8 20, .int .u8 15, .int .u8 25, .int .u8 17, .int .u8 4, .int .u8 8, .int .u8 31, .int .u8 27, .int .u8 13, .int .u8 23, .int .u8 21, .int .u8 19, .int .u8 16, .int .u8 7, .int .u8 26, .int .u8 12, .int .u8 18, .int .u8 6, .int .u8 11, .int .u8 5, .int .u8 10, .int .u8 9] t frozen
  |o=>o).modify 7 fun
  | .cells _ t frozen=> .cells #[.int .u8 0, .int .u8 1, .int .u8 56, .int .u8 2, .int .u8 57, .int .u8 49, .int .u8 28, .int .u8 3, .int .u8 61, .int .u8 58, .int .u8 42, .int .u8 50, .int .u8 38, .int .u8 29, .int .u8 17, .int .u8 4, .int .u8 62, .int .u8 47, .int .u8 59, .int .u8 36, .int .u8 45, .int .u8 43, .int .u8 51, .int .u8 22, .int .u8 53, .int .u8 39, .int .u8 33, .int .u8 30, .int .u8 24, .int .u8 18, .int .u8 12, .int .u8 5, .int .u8 63, .int .u8 55, .int .u8 48, .int .u8 27, .int .u8 60, .int .u8 41, .int .u8 37, .int .u8 16, .int .u8 46, .int .u8 35, .int .u8 44, .int .u8 21, .int .u8 52, .int .u8 32, .int .u8 23, .int .u8 11, .int .u8 54, .int .u8 26, .int .u8 40, .int .u8 15, .int .u8 34, .int .u8 20, .int .u8 31, .int .u8 10, .int .u8 25, .int .u8 14, .int .u8 19, .int .u8 9, .int .u8 13, .int .u8 8, .int .u8 7, .int .u8 6] t frozen
  |o=>o).modify 5 fun
  | .cells _ t frozen=> .cells #[.int .u64 1, .int .u64 10, .int .u64 100, .int .u64 1000, .int .u64 10000, .int .u64 100000, .int .u64 1000000, .int .u64 10000000, .int .u64 100000000, .int .u64 1000000000, .int .u64 10000000000, .int .u64 100000000000, .int .u64 1000000000000, .int .u64 10000000000000, .int .u64 100000000000000, .int .u64 1000000000000000, .int .u64 10000000000000000, .int .u64 100000000000000000, .int .u64 1000000000000000000, .int .u64 10000000000000000000] t frozen
  |o=>o).modify 4 fun
  | .cells _ t frozen=> .cells #[.int .u8 128, .int .u8 191, .int .u8 160, .int .u8 191, .int .u8 128, .int .u8 159, .int .u8 144, .int .u8 191, .int .u8 128, .int .u8 143, .int .u8 0, .int .u8 0, .int .u8 0, .int .u8 0, .int .u8 0, .int .u8 0, .int .u8 0, .int .u8 0, .int .u8 0, .int .u8 0, .int .u8 0, .int .u8 0, .int .u8 0, .int .u8 0, .int .u8 0, .int .u8 0, .int .u8 0, .int .u8 0, .int .u8 0, .int .u8 0, .int .u8 0, .int .u8 0] t frozen
  |o=>o).modify 1 fun
  | .cells _ t frozen=> .cells #[.iface 103 (.pointer (some ⟨low+1,0,none⟩))] t frozen
  |o=>o).modify 0 fun
  | .cells _ t frozen=> .cells #[.iface 103 (.pointer (some ⟨low+0,0,none⟩))] t frozen
  |o=>o).modify 3 fun
  | .cells _ t frozen=> .cells (Go.Pinned.utf8FirstZ.map fun n:Nat=>Value.int .u8 (n:Int)).toArray t frozen
  |o=>o)}
set_option maxRecDepth 100000 in
theorem laid_met (os:Os):laidMet Tryd.prog Rows.fnOpPutRow.laid ((laidWorld os).forCall (fun _ _=>0) ⟨#[],#[.slice none 0 0],[]⟩).memory:=
 laidMet_of_run' 8 (by kernel_rfl) (by kernel_rfl)
set_option maxRecDepth 100000 in
theorem reads (os:Os){H:Type}(enc:TypeId×Value->H): ∃ places,DataW.whole enc Tryd.prog ((laidWorld os).forCall (fun _ _=>0) ⟨#[],#[.slice none 0 0],[]⟩).memory Tryd.f4.params.toList Rows.fnOpPutSpec.vars false #[Value.slice none 0 0].toList 8=some ([.nil],[],places):=
 ⟨[],by kernel_rfl⟩
set_option maxRecDepth 100000 in
theorem contract (H:Type) (enc:TypeId×Value->H) (W:World) (base:Nat) (args:Array Value) (ds gs:List (DataW H)) (before:List MemPlace)
 (hval0: ∀ (j:Nat) t v,Tryd.f4.params[j]? =some t->args[j]? =some v->Value.okWide Tryd.prog W .any base t v)
 (hW:DataW.Whole enc Tryd.prog Tryd.f4.params.toList Rows.fnOpPutSpec.vars false W args.toList ds gs before) (hS:W.ShapedOpen Tryd.prog) (hL:laidMet Tryd.prog Rows.fnOpPutRow.laid W):
 Calls Tryd.prog 4 args W fun e W'=> ∃ v,e = .returned v/\Rows.fnOpPutSpec.post enc Tryd.prog Tryd.f4 false true false false W args v W':=by
 have hval: ∀ (j:Nat) t v,Tryd.f4.params[j]? =some t->args[j]? =some v->Value.okWide Tryd.prog W .any base t v:=hval0
 have hW':=hW
 obtain⟨p,q,hA0,hV,rfl,hfz,hnd⟩:=hW
 have hA:DataW.TrodAll enc Tryd.prog W 0 (fun _=>true) true Tryd.f4.params.toList args.toList ds p:=hA0
 rw[Tryd.params4]at hA hval
 obtain⟨v0,vs0,d0,ds0,p0,q0,hargs,rfl,rfl,h0,r0⟩:=trodAll_cons hA
 obtain⟨rfl,rfl,rfl⟩:=trodAll_nil r0
 obtain rfl:args = #[v0]:=by cases args;simp_all
 obtain⟨rfl,rfl⟩:=trodVars_none hV
 have k0:=h0
 have lt0: ∀ x∈p0,x.block<W.heap.size:=by obtain⟨m,hm⟩:=k0;exact DataW.trod_lt m _ _ _ hm
 obtain⟨a0,len0,cap0,rfl⟩:=okWide_slice Tryd.underlying22 (hval 0 22 v0 rfl rfl)
 obtain⟨x0,rd0,ft0⟩:=Opn.rd (t:=22) (α:=List Byte) h0
 clear hA0 hval0
 refine(walk W rd0 ft0 (glob hS hL)).mono fun e W' ⟨he,bel⟩=>?_
 subst he
 exact⟨_,rfl,_,_,_,[],_,[],hW',trodAll_mk1 (shut_bool Tryd.underlying4 _),(trodAll_cons_mk (Below.trod laidOut (by kernel_rfl) (of_decide_eq_true (by kernel_rfl)) k0 bel lt0) trodAll_mk0),rfl,bel.frame _,fun h=>by cases h⟩
set_option maxRecDepth 100000 in
theorem lifted (os:Os)(started:os.Started)(H:Type)(enc:TypeId×Value->H)(F:Stop.Interp):
 ReturnsInHanded {} Tryd.checked os 4 .any ((OpenSpec.ofChange Rows.fnOpPutSpec).preRow enc Tryd.prog Tryd.f4 Rows.fnOpPutRow.domain false Rows.fnOpPutRow.laid) (((OpenSpec.ofChange Rows.fnOpPutSpec).at F).post enc Tryd.prog Tryd.f4 false true false false):=by
 obtain⟨places,hx⟩:=reads os enc
 refine returnsInHanded_of_row (C:=Tryd.checked) (s:=OpenSpec.ofChange Rows.fnOpPutSpec) own started (by kernel_rfl) Tryd.func4
  (witness_row_at (enc:=enc) (C:=Tryd.checked) false (laidWorld os) #[.slice none 0 0] rfl (by kernel_rfl) (by kernel_rfl) (by kernel_rfl)
   (OpenSpec.preRow_of_cond 8 hx (by kernel_rfl) (fun k hk=>by cases hk) (by kernel_rfl) (laid_met os))) ?_
 intro W base args ds gs before hval hW _ _ _ hL hS _
 exact contract H enc W base args ds gs before hval hW hS hL
theorem and_t {a b:Bool}(h:a=true)(k:b=true):(a&&b)=true:=by rw[h,k];rfl
set_option maxRecDepth 100000 in
theorem closed:joinedFacts Tryd.pinned.checked.prog 4 Tryd.f4 (OpenSpec.ofChange Rows.fnOpPutSpec).bare Rows.fnOpPutRow=true:=by
 unfold joinedFacts
 exact(and_t (and_t (and_t (and_t (and_t (and_t (and_t (and_t (and_t (and_t (and_t (and_t (and_t (and_t (and_t (and_t (and_t (and_t (and_t (and_t (and_t (and_t (and_t (and_t (and_t (and_t (and_t (and_t (and_t (and_t (and_t (by kernel_rfl) k2) k3) (by kernel_rfl)) (by kernel_rfl)) (by kernel_rfl)) k7) (by kernel_rfl)) k9) k10) k11) k12) k13) (by kernel_rfl)) (by kernel_rfl)) (by kernel_rfl)) (by kernel_rfl)) (by kernel_rfl)) (by kernel_rfl)) (by kernel_rfl)) (by kernel_rfl)) (by kernel_rfl)) k23) (by kernel_rfl)) k25) k26) k27) k28) (by kernel_rfl)) (by kernel_rfl)) (by kernel_rfl)) (by kernel_rfl))
set_option maxRecDepth 100000 in
theorem said:Rows.FnOpPutSaid:=
 OpenClaim.holds_of_cond 4 Tryd.f4 rfl rfl rfl rfl rfl rfl rfl ⟨rfl,rfl,rfl,rfl,rfl⟩ rfl rfl rfl rfl rfl (by kernel_rfl) Tryd.func4 closed
  (of_decide_eq_true (by kernel_rfl)) (by unfold Func.isWrapper;first |(rw[if_pos (by decide+kernel)];kernel_rfl) |(rw[if_neg (by decide+kernel)];exact⟨rfl,rfl⟩))
  (fun os started H enc _ F=>by rw[OpenClaim.pre_eq_preRow];exact lifted os started H enc F)
set_option maxRecDepth 100000 in
theorem plain (f : FuncId) (fn : Func) (hf : Tryd.pinned.checked.prog.funcNamed "loop.example/versioncontrol/laws.FnOpPut" = some f) (hfn : Tryd.pinned.checked.prog.funcs[f]? = some fn) :
 true=Tryd.pinned.checked.prog.looks [] /\ ∀ (j:Nat) t,fn.params[j]? =some t->Tryd.pinned.checked.prog.wantsStandIn t=false:=by
 obtain rfl : f = 4 := Option.some.inj ((show Tryd.prog.funcNamed "loop.example/versioncontrol/laws.FnOpPut" = some 4 by kernel_rfl).symm.trans hf) |>.symm
 obtain rfl:fn=Tryd.f4:=(Option.some.inj (Tryd.func4.symm.trans hfn)).symm
 refine⟨by kernel_rfl,fun j t ht=>?_⟩
 rw[Tryd.params4]at ht
 obtain rfl:t=22:=by simpa using Array.mem_of_getElem? ht
 exact(show Tryd.prog.wantsStandIn 22=false by kernel_rfl)
/-- The card. -/
theorem proved:Rows.FnOpPutCardSaid:=
 Claim7.holds_tied_plain_at .later [] _ _ _ _ said (fun _ h=>by cases h) kt (fun _ h=>by cases h) fnOpPut_row_tie rfl ⟨rfl,rfl⟩ (by kernel_rfl) rfl plain kg
#print axioms proved
end Go.Proofs.YtjokjcdckcpijaaDoor.fnOpPut
