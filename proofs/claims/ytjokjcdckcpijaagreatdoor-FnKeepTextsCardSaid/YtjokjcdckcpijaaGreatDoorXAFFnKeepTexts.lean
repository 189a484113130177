/-
 The law 'FnKeepTexts' answers true whatever its arguments, and leaves all memory that was there as it was; the card.
 Conditions: none beyond the given statement's own.
-/
import Derived.Test.YtjokjcdckcpijaaGreatDoorRows
import Derived.Test.YtjokjcdckcpijaaGreatDoorXAW7
import Derived.Test.YtjokjcdckcpijaaGreatDoorXAGFnKeepTexts
import Derived.Test.YtjokjcdckcpijaaGreatDoorXAOs
import Derived.Test.YtjokjcdckcpijaaGreatDoorXAShelf
import Derived.Test.YtjokjcdckcpijaaGreatDoorXAKFnKeepTexts
import Derived.Test.YtjokjcdckcpijaaGreatDoorCards
import Derived.Test.YtjokjcdckcpijaaGreatDoorTie
import Derived.WalkKit
import Derived.ProofKit
import Derived.OpenShut
import Derived.ShutString
import Derived.ChangeOld
import Derived.Below
import Derived.Deep.DeepHandedRow
import Derived.LaidLaws
namespace Go.Proofs.YtjokjcdckcpijaaGreatDoor.fnKeepTexts
open Go.ChangeShapes Go.WideShapes Go.ChangeAt Go.RowKit Go.Sx Go.Vm
set_option linter.unusedVariables false
theorem own:ownKnob Tryz.prog.godebug=none:=by kernel_rfl
theorem laidOut:laidOutB Tryz.prog=true:=by kernel_rfl
theorem glob {W:World}(h:W.ShapedOpen Tryz.prog):Gl 0 ⟨W,fun _=>0⟩ [0]:=by
 obtain⟨m,hm⟩:=Go.Proofs.cell_of_shapedOpen_int (g:=0) (w:=W) (zero:= #[.int .i64 0]) (t:=3) h (of_decide_eq_true (by kernel_rfl)) (by kernel_rfl) rfl (by kernel_rfl) (by kernel_rfl) Tryz.underlying3
 have hm:W.cell? ⟨0,0,none⟩=some (.int .i64 m):=hm
 refine⟨m,⟨World.block_lt_of_cell? _ _ hm,by simp⟩,[vI m],fun j u hu=>?_,⟨rfl,trivial⟩⟩
 cases j with
 |zero=>
  obtain rfl:vI m=u:=by simpa using hu
  rw[show(⟨0,0,none⟩:Addr).add 0=⟨0,0,none⟩ by simp[Addr.add]]
  exact hm
 |succ j=>simp at hu
theorem walk (W:World){x0:List Byte}{v0:Value}(rd0:Rd ⟨W,fun _=>0⟩ [0] [v0] x0)(ft0:Bk.fit x0)(hg:Gl 0 ⟨W,fun _=>0⟩ [0]):Calls Tryz.prog 3 [v0].toArray W fun e w'=>e = .returned (.bool true)/\Below W.heap.size W w':=
 zap.fin (W:=⟨W,fun _=>0⟩) (p3 (W:=⟨W,fun _=>0⟩) (K:=[0]) rd0 hg (ziw ft0))
noncomputable def laidWorld (os:Os):World:=
 {World.holding Tryz.prog os ⟨#[],#[],[]⟩with heap:=(((World.holding Tryz.prog os ⟨#[],#[],[]⟩).heap.modify 2 fun
  | .cells _ t frozen=> .cells #[.int .u8 128, .int .u8 191, .int .u8 160, .int .u8 191, .int .u8 128, .int .u8 159, .int .u8 144, .int .u8 191, .int .u8 128, .int .u8 143, .int .u8 0, .int .u8 0, .int .u8 0, .int .u8 0, .int .u8 0, .int .u8 0, .int .u8 0, .int .u8 0, .int .u8 0, .int .u8 0, .int .u8 0, .int .u8 0, .int .u8 0, .int .u8 0, .int .u8 0, .int .u8 0, .int .u8 0, .int .u8 0, .int .u8 0, .int .u8 0, .int .u8 0, .int .u8 0] t frozen
  |o=>o).modify 1 fun
  | .cells _ t frozen=> .cells (Go.Pinned.utf8FirstZ.map fun n:Nat=>Value.int .u8 (n:Int)).toArray t frozen
  |o=>o)}
set_option maxRecDepth 100000 in
theorem laid_met (os:Os):laidMet Tryz.prog Rows.fnKeepTextsRow.laid ((laidWorld os).forCall (fun _ _=>0) ⟨#[],#[.slice none 0 0],[]⟩).memory:=
 laidMet_of_run' 8 (by kernel_rfl) (by kernel_rfl)
set_option maxRecDepth 100000 in
theorem reads (os:Os){H:Type}(enc:TypeId×Value->H): ∃ places,DataW.whole enc Tryz.prog ((laidWorld os).forCall (fun _ _=>0) ⟨#[],#[.slice none 0 0],[]⟩).memory Tryz.f3.params.toList Rows.fnKeepTextsSpec.vars false #[Value.slice none 0 0].toList 8=some ([.nil],[],places):=
 ⟨[],by kernel_rfl⟩
set_option maxRecDepth 100000 in
theorem contract (H:Type) (enc:TypeId×Value->H) (W:World) (base:Nat) (args:Array Value) (ds gs:List (DataW H)) (before:List MemPlace)
 (hval0: ∀ (j:Nat) t v,Tryz.f3.params[j]? =some t->args[j]? =some v->Value.okWide Tryz.prog W .any base t v)
 (hW:DataW.Whole enc Tryz.prog Tryz.f3.params.toList Rows.fnKeepTextsSpec.vars false W args.toList ds gs before) (hS:W.ShapedOpen Tryz.prog):
 Calls Tryz.prog 3 args W fun e W'=> ∃ v,e = .returned v/\Rows.fnKeepTextsSpec.post enc Tryz.prog Tryz.f3 false true false false W args v W':=by
 have hval: ∀ (j:Nat) t v,Tryz.f3.params[j]? =some t->args[j]? =some v->Value.okWide Tryz.prog W .any base t v:=hval0
 have hW':=hW
 obtain⟨p,q,hA0,hV,rfl,hfz,hnd⟩:=hW
 have hA:DataW.TrodAll enc Tryz.prog W 0 (fun _=>true) true Tryz.f3.params.toList args.toList ds p:=hA0
 rw[Tryz.params3]at hA hval
 obtain⟨v0,vs0,d0,ds0,p0,q0,hargs,rfl,rfl,h0,r0⟩:=trodAll_cons hA
 obtain⟨rfl,rfl,rfl⟩:=trodAll_nil r0
 obtain rfl:args = #[v0]:=by cases args;simp_all
 obtain⟨rfl,rfl⟩:=trodVars_none hV
 have k0:=h0
 have lt0: ∀ x∈p0,x.block<W.heap.size:=by obtain⟨m,hm⟩:=k0;exact DataW.trod_lt m _ _ _ hm
 obtain⟨a0,len0,cap0,rfl⟩:=okWide_slice Tryz.underlying22 (hval 0 22 v0 rfl rfl)
 obtain⟨x0,rd0,ft0⟩:=Opn.rd (t:=22) (α:=List Byte) h0
 clear hA0 hval0
 refine(walk W rd0 ft0 (glob hS)).mono fun e W' ⟨he,bel⟩=>?_
 subst he
 exact⟨_,rfl,_,_,_,[],_,[],hW',trodAll_mk1 (shut_bool Tryz.underlying4 _),(trodAll_cons_mk (Below.trod laidOut (by kernel_rfl) (of_decide_eq_true (by kernel_rfl)) k0 bel lt0) trodAll_mk0),rfl,bel.frame _,fun h=>by cases h⟩
set_option maxRecDepth 100000 in
theorem lifted (os:Os)(started:os.Started)(H:Type)(enc:TypeId×Value->H)(F:Stop.Interp):
 ReturnsInHanded {} Tryz.checked os 3 .any ((OpenSpec.ofChange Rows.fnKeepTextsSpec).preRow enc Tryz.prog Tryz.f3 Rows.fnKeepTextsRow.domain false Rows.fnKeepTextsRow.laid) (((OpenSpec.ofChange Rows.fnKeepTextsSpec).at F).post enc Tryz.prog Tryz.f3 false true false false):=by
 obtain⟨places,hx⟩:=reads os enc
 refine returnsInHanded_of_row (C:=Tryz.checked) (s:=OpenSpec.ofChange Rows.fnKeepTextsSpec) own started (by kernel_rfl) Tryz.func3
  (witness_row_at (enc:=enc) (C:=Tryz.checked) false (laidWorld os) #[.slice none 0 0] rfl (by kernel_rfl) (by kernel_rfl) (by kernel_rfl)
   (OpenSpec.preRow_of_cond 8 hx (by kernel_rfl) (fun k hk=>by cases hk) (by kernel_rfl) (laid_met os))) ?_
 intro W base args ds gs before hval hW _ _ _ hL hS _
 exact contract H enc W base args ds gs before hval hW hS
theorem and_t {a b:Bool}(h:a=true)(k:b=true):(a&&b)=true:=by rw[h,k];rfl
set_option maxRecDepth 100000 in
theorem closed:joinedFacts Tryz.pinned.checked.prog 3 Tryz.f3 (OpenSpec.ofChange Rows.fnKeepTextsSpec).bare Rows.fnKeepTextsRow=true:=by
 unfold joinedFacts
 exact(and_t (and_t (and_t (and_t (and_t (and_t (and_t (and_t (and_t (and_t (and_t (and_t (and_t (and_t (and_t (and_t (and_t (and_t (and_t (and_t (and_t (and_t (and_t (and_t (and_t (and_t (and_t (and_t (and_t (and_t (and_t (by kernel_rfl) k2) k3) (by kernel_rfl)) (by kernel_rfl)) (by kernel_rfl)) k7) (by kernel_rfl)) k9) k10) k11) k12) k13) (by kernel_rfl)) (by kernel_rfl)) (by kernel_rfl)) (by kernel_rfl)) (by kernel_rfl)) (by kernel_rfl)) (by kernel_rfl)) (by kernel_rfl)) (by kernel_rfl)) k23) (by kernel_rfl)) k25) k26) k27) k28) (by kernel_rfl)) (by kernel_rfl)) (by kernel_rfl)) (by kernel_rfl))
set_option maxRecDepth 100000 in
theorem said:Rows.FnKeepTextsSaid:=
 OpenClaim.holds_of_cond 3 Tryz.f3 rfl rfl rfl rfl rfl rfl rfl ⟨rfl,rfl,rfl,rfl,rfl⟩ rfl rfl rfl rfl rfl (by kernel_rfl) Tryz.func3 closed
  (of_decide_eq_true (by kernel_rfl)) (by unfold Func.isWrapper;first |(rw[if_pos (by decide+kernel)];kernel_rfl) |(rw[if_neg (by decide+kernel)];exact⟨rfl,rfl⟩))
  (fun os started H enc _ F=>by rw[OpenClaim.pre_eq_preRow];exact lifted os started H enc F)
set_option maxRecDepth 100000 in
theorem plain (f : FuncId) (fn : Func) (hf : Tryz.pinned.checked.prog.funcNamed "loop.example/versioncontrol/laws.FnKeepTexts" = some f) (hfn : Tryz.pinned.checked.prog.funcs[f]? = some fn) :
 false=Tryz.pinned.checked.prog.looks [] /\ ∀ (j:Nat) t,fn.params[j]? =some t->Tryz.pinned.checked.prog.wantsStandIn t=false:=by
 obtain rfl : f = 3 := Option.some.inj ((show Tryz.prog.funcNamed "loop.example/versioncontrol/laws.FnKeepTexts" = some 3 by kernel_rfl).symm.trans hf) |>.symm
 obtain rfl:fn=Tryz.f3:=(Option.some.inj (Tryz.func3.symm.trans hfn)).symm
 refine⟨by kernel_rfl,fun j t ht=>?_⟩
 rw[Tryz.params3]at ht
 obtain rfl:t=22:=by simpa using Array.mem_of_getElem? ht
 exact(show Tryz.prog.wantsStandIn 22=false by kernel_rfl)
/-- The card. -/
theorem proved:Rows.FnKeepTextsCardSaid:=
 Claim7.holds_tied_plain_at .later [] _ _ _ _ said (fun _ h=>by cases h) kt (fun _ h=>by cases h) fnKeepTexts_row_tie rfl ⟨rfl,rfl⟩ (by kernel_rfl) rfl plain kg
#print axioms proved
end Go.Proofs.YtjokjcdckcpijaaGreatDoor.fnKeepTexts
