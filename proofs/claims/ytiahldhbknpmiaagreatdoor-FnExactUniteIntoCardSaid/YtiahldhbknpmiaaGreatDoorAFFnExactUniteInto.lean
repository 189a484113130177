/-
 The law 'FnExactUniteInto' answers true whatever its arguments, and leaves all memory that was there as it was; the card.
 Conditions: none beyond the given statement's own.
-/
import Derived.Test.YtiahldhbknpmiaaGreatDoorRows
import Derived.Test.YtiahldhbknpmiaaGreatDoorAW13
import Derived.Test.YtiahldhbknpmiaaGreatDoorAGFnExactUniteInto
import Derived.Test.YtiahldhbknpmiaaGreatDoorAOs
import Derived.Test.YtiahldhbknpmiaaGreatDoorAShelf
import Derived.Test.YtiahldhbknpmiaaGreatDoorAKFnExactUniteInto
import Derived.Test.YtiahldhbknpmiaaGreatDoorCards
import Derived.Test.YtiahldhbknpmiaaGreatDoorTie
import Derived.WalkKit
import Derived.ProofKit
import Derived.OpenShut
import Derived.ShutString
import Derived.ChangeOld
import Derived.Below
import Derived.Deep.DeepHandedRow
import Derived.LaidLaws
namespace Go.Proofs.YtiahldhbknpmiaaGreatDoor.fnExactUniteInto
open Go.ChangeShapes Go.WideShapes Go.ChangeAt Go.RowKit Go.Sx Go.Vm
set_option linter.unusedVariables false
theorem own:ownKnob Tryz.prog.godebug=none:=by kernel_rfl
theorem laidOut:laidOutB Tryz.prog=true:=by kernel_rfl
theorem glob {W:World}(h:W.ShapedOpen Tryz.prog):Gl 0 ⟨W,fun _=>0⟩ [0]:=by
 obtain⟨m,hm⟩:=Go.Proofs.cell_of_shapedOpen_int (g:=0) (w:=W) (zero:= #[.int .i64 0]) (t:=3) h (of_decide_eq_true (by kernel_rfl)) (by kernel_rfl) rfl (by kernel_rfl) (by kernel_rfl) Tryz.underlying3
 have hm:W.cell? ⟨0,0,none⟩=some (.int .i64 m):=hm
 refine⟨m,⟨World.block_lt_of_cell? _ _ hm,by simp⟩,[vI m],fun j u hu=>?_,⟨rfl,trivial⟩⟩
 cases j with
 |zero=>
  obtain rfl:vI m=u:=by simpa using hu
  rw[show(⟨0,0,none⟩:Addr).add 0=⟨0,0,none⟩ by simp[Addr.add]]
  exact hm
 |succ j=>simp at hu
theorem walk (W:World){x0:Vm.Repo}{c0_0:Value}{c0_1:Value}(rd0:Rd ⟨W,fun _=>0⟩ [0] [c0_0,c0_1] x0)(ft0:Bk.fit x0){x1:Str}(ft1:Bk.fit x1){x2:Str}(ft2:Bk.fit x2){x3:Int}(ft3:Bk.fit x3)(hg:Gl 0 ⟨W,fun _=>0⟩ [0]):Calls Tryz.prog 5 [.agg [c0_0,c0_1].toArray,vS x1,vS x2,vI x3].toArray W fun e w'=>e = .returned (.bool true)/\Below W.heap.size W w':=
 zaz.fin (W:=⟨W,fun _=>0⟩) (p5 (W:=⟨W,fun _=>0⟩) (K:=[0]) rd0 hg (zmU ft0 ft1 ft2 ft3))
noncomputable def laidWorld (os:Os):World:=
 {World.holding Tryz.prog os ⟨#[],#[],[]⟩with heap:=(((World.holding Tryz.prog os ⟨#[],#[],[]⟩).heap.modify 2 fun
  | .cells _ t frozen=> .cells #[.int .u8 128, .int .u8 191, .int .u8 160, .int .u8 191, .int .u8 128, .int .u8 159, .int .u8 144, .int .u8 191, .int .u8 128, .int .u8 143, .int .u8 0, .int .u8 0, .int .u8 0, .int .u8 0, .int .u8 0, .int .u8 0, .int .u8 0, .int .u8 0, .int .u8 0, .int .u8 0, .int .u8 0, .int .u8 0, .int .u8 0, .int .u8 0, .int .u8 0, .int .u8 0, .int .u8 0, .int .u8 0, .int .u8 0, .int .u8 0, .int .u8 0, .int .u8 0] t frozen
  |o=>o).modify 1 fun
  | .cells _ t frozen=> .cells (Go.Pinned.utf8FirstZ.map fun n:Nat=>Value.int .u8 (n:Int)).toArray t frozen
  |o=>o)}
set_option maxRecDepth 100000 in
theorem laid_met (os:Os):laidMet Tryz.prog Rows.fnExactUniteIntoRow.laid ((laidWorld os).forCall (fun _ _=>0) ⟨#[],#[.agg #[.slice none 0 0, .slice none 0 0], .string ByteArray.empty, .string ByteArray.empty, .int .i64 0],[]⟩).memory:=
 laidMet_of_run' 8 (by kernel_rfl) (by kernel_rfl)
set_option maxRecDepth 100000 in
theorem reads (os:Os){H:Type}(enc:TypeId×Value->H): ∃ places,DataW.whole enc Tryz.prog ((laidWorld os).forCall (fun _ _=>0) ⟨#[],#[.agg #[.slice none 0 0, .slice none 0 0], .string ByteArray.empty, .string ByteArray.empty, .int .i64 0],[]⟩).memory Tryz.f5.params.toList Rows.fnExactUniteIntoSpec.vars false #[Value.agg #[.slice none 0 0, .slice none 0 0],Value.string ByteArray.empty,Value.string ByteArray.empty,Value.int .i64 0].toList 8=some ([.agg [.nil, .nil], .lit (.string []), .lit (.string []), .lit (.int .i64 0)],[],places):=
 ⟨[],by kernel_rfl⟩
set_option maxRecDepth 100000 in
theorem contract (H:Type) (enc:TypeId×Value->H) (W:World) (base:Nat) (args:Array Value) (ds gs:List (DataW H)) (before:List MemPlace)
 (hval0: ∀ (j:Nat) t v,Tryz.f5.params[j]? =some t->args[j]? =some v->Value.okWide Tryz.prog W .any base t v)
 (hW:DataW.Whole enc Tryz.prog Tryz.f5.params.toList Rows.fnExactUniteIntoSpec.vars false W args.toList ds gs before) (hS:W.ShapedOpen Tryz.prog):
 Calls Tryz.prog 5 args W fun e W'=> ∃ v,e = .returned v/\Rows.fnExactUniteIntoSpec.post enc Tryz.prog Tryz.f5 false true false false W args v W':=by
 have hval: ∀ (j:Nat) t v,Tryz.f5.params[j]? =some t->args[j]? =some v->Value.okWide Tryz.prog W .any base t v:=hval0
 have hW':=hW
 obtain⟨p,q,hA0,hV,rfl,hfz,hnd⟩:=hW
 have hA:DataW.TrodAll enc Tryz.prog W 0 (fun _=>true) true Tryz.f5.params.toList args.toList ds p:=hA0
 rw[Tryz.params5]at hA hval
 obtain⟨v0,vs0,d0,ds0,p0,q0,hargs,rfl,rfl,h0,r0⟩:=trodAll_cons hA
 obtain⟨v1,vs1,d1,ds1,p1,q1,rfl,rfl,rfl,h1,r1⟩:=trodAll_cons r0
 obtain⟨v2,vs2,d2,ds2,p2,q2,rfl,rfl,rfl,h2,r2⟩:=trodAll_cons r1
 obtain⟨v3,vs3,d3,ds3,p3,q3,rfl,rfl,rfl,h3,r3⟩:=trodAll_cons r2
 obtain⟨rfl,rfl,rfl⟩:=trodAll_nil r3
 obtain rfl:args = #[v0,v1,v2,v3]:=by cases args;simp_all
 obtain⟨rfl,rfl⟩:=trodVars_none hV
 have k0:=h0
 have lt0: ∀ x∈p0,x.block<W.heap.size:=by obtain⟨m,hm⟩:=k0;exact DataW.trod_lt m _ _ _ hm
 have k1:=h1
 have lt1: ∀ x∈p1,x.block<W.heap.size:=by obtain⟨m,hm⟩:=k1;exact DataW.trod_lt m _ _ _ hm
 have k2:=h2
 have lt2: ∀ x∈p2,x.block<W.heap.size:=by obtain⟨m,hm⟩:=k2;exact DataW.trod_lt m _ _ _ hm
 have k3:=h3
 have lt3: ∀ x∈p3,x.block<W.heap.size:=by obtain⟨m,hm⟩:=k3;exact DataW.trod_lt m _ _ _ hm
 obtain⟨cs0,rfl,_⟩:=okWide_struct Tryz.underlying25 (hval 0 25 v0 rfl rfl)
 obtain⟨x0,rd0,ft0⟩:=Opn.rd (t:=25) (α:=Vm.Repo) h0
 obtain⟨c0_0,c0_1,e0,_,_⟩:=Go.Sx.Repo.split rd0
 obtain rfl:cs0=[c0_0,c0_1].toArray:=by rw[<- e0];simp[Value.cells]
 obtain⟨s1,rfl⟩:=okWide_string Tryz.underlying9 (hval 1 9 v1 rfl rfl)
 obtain⟨x1,rd1,ft1⟩:=Opn.rd (t:=9) (α:=Str) h1
 obtain rfl:s1=⟨x1.toArray⟩:=by simpa[Value.cells]using Rd.str rd1
 obtain⟨s2,rfl⟩:=okWide_string Tryz.underlying9 (hval 2 9 v2 rfl rfl)
 obtain⟨x2,rd2,ft2⟩:=Opn.rd (t:=9) (α:=Str) h2
 obtain rfl:s2=⟨x2.toArray⟩:=by simpa[Value.cells]using Rd.str rd2
 obtain⟨n3,rfl⟩:=okWide_int Tryz.underlying3 (hval 3 3 v3 rfl rfl)
 obtain⟨x3,rd3,ft3⟩:=Opn.rd (t:=3) (α:=Int) h3
 obtain rfl:n3=x3:=by simpa[Value.cells]using Rd.int rd3
 clear hA0 hval0
 refine(walk W rd0 ft0 ft1 ft2 ft3 (glob hS)).mono fun e W' ⟨he,bel⟩=>?_
 subst he
 exact⟨_,rfl,_,_,_,[],_,[],hW',trodAll_mk1 (shut_bool Tryz.underlying4 _),(trodAll_cons_mk (Below.trod laidOut (by kernel_rfl) (of_decide_eq_true (by kernel_rfl)) k0 bel lt0) (trodAll_cons_mk (Below.trod laidOut (by kernel_rfl) (of_decide_eq_true (by kernel_rfl)) k1 bel lt1) (trodAll_cons_mk (Below.trod laidOut (by kernel_rfl) (of_decide_eq_true (by kernel_rfl)) k2 bel lt2) (trodAll_cons_mk (Below.trod laidOut (by kernel_rfl) (of_decide_eq_true (by kernel_rfl)) k3 bel lt3) trodAll_mk0)))),rfl,bel.frame _,fun h=>by cases h⟩
set_option maxRecDepth 100000 in
theorem lifted (os:Os)(started:os.Started)(H:Type)(enc:TypeId×Value->H)(F:Stop.Interp):
 ReturnsInHanded {} Tryz.checked os 5 .any ((OpenSpec.ofChange Rows.fnExactUniteIntoSpec).preRow enc Tryz.prog Tryz.f5 Rows.fnExactUniteIntoRow.domain false Rows.fnExactUniteIntoRow.laid) (((OpenSpec.ofChange Rows.fnExactUniteIntoSpec).at F).post enc Tryz.prog Tryz.f5 false true false false):=by
 obtain⟨places,hx⟩:=reads os enc
 refine returnsInHanded_of_row (C:=Tryz.checked) (s:=OpenSpec.ofChange Rows.fnExactUniteIntoSpec) own started (by kernel_rfl) Tryz.func5
  (witness_row_at (enc:=enc) (C:=Tryz.checked) false (laidWorld os) #[.agg #[.slice none 0 0, .slice none 0 0], .string ByteArray.empty, .string ByteArray.empty, .int .i64 0] rfl (by kernel_rfl) (by kernel_rfl) (by kernel_rfl)
   (OpenSpec.preRow_of_cond 8 hx (by kernel_rfl) (fun k hk=>by cases hk) (by kernel_rfl) (laid_met os))) ?_
 intro W base args ds gs before hval hW _ _ _ hL hS _
 exact contract H enc W base args ds gs before hval hW hS
theorem and_t {a b:Bool}(h:a=true)(k:b=true):(a&&b)=true:=by rw[h,k];rfl
set_option maxRecDepth 100000 in
theorem closed:joinedFacts Tryz.pinned.checked.prog 5 Tryz.f5 (OpenSpec.ofChange Rows.fnExactUniteIntoSpec).bare Rows.fnExactUniteIntoRow=true:=by
 unfold joinedFacts
 exact(and_t (and_t (and_t (and_t (and_t (and_t (and_t (and_t (and_t (and_t (and_t (and_t (and_t (and_t (and_t (and_t (and_t (and_t (and_t (and_t (and_t (and_t (and_t (and_t (and_t (and_t (and_t (and_t (and_t (and_t (and_t (by kernel_rfl) k2) k3) (by kernel_rfl)) (by kernel_rfl)) (by kernel_rfl)) k7) (by kernel_rfl)) k9) k10) k11) k12) k13) (by kernel_rfl)) (by kernel_rfl)) (by kernel_rfl)) (by kernel_rfl)) (by kernel_rfl)) (by kernel_rfl)) (by kernel_rfl)) (by kernel_rfl)) (by kernel_rfl)) k23) (by kernel_rfl)) k25) k26) k27) k28) (by kernel_rfl)) (by kernel_rfl)) (by kernel_rfl)) (by kernel_rfl))
set_option maxRecDepth 100000 in
theorem said:Rows.FnExactUniteIntoSaid:=
 OpenClaim.holds_of_cond 5 Tryz.f5 rfl rfl rfl rfl rfl rfl rfl ⟨rfl,rfl,rfl,rfl,rfl⟩ rfl rfl rfl rfl rfl (by kernel_rfl) Tryz.func5 closed
  (of_decide_eq_true (by kernel_rfl)) (by unfold Func.isWrapper;first |(rw[if_pos (by decide+kernel)];kernel_rfl) |(rw[if_neg (by decide+kernel)];exact⟨rfl,rfl⟩))
  (fun os started H enc _ F=>by rw[OpenClaim.pre_eq_preRow];exact lifted os started H enc F)
set_option maxRecDepth 100000 in
theorem plain (f : FuncId) (fn : Func) (hf : Tryz.pinned.checked.prog.funcNamed "loop.example/versioncontrol/laws.FnExactUniteInto" = some f) (hfn : Tryz.pinned.checked.prog.funcs[f]? = some fn) :
 false=Tryz.pinned.checked.prog.looks [] /\ ∀ (j:Nat) t,fn.params[j]? =some t->Tryz.pinned.checked.prog.wantsStandIn t=false:=by
 obtain rfl : f = 5 := Option.some.inj ((show Tryz.prog.funcNamed "loop.example/versioncontrol/laws.FnExactUniteInto" = some 5 by kernel_rfl).symm.trans hf) |>.symm
 obtain rfl:fn=Tryz.f5:=(Option.some.inj (Tryz.func5.symm.trans hfn)).symm
 refine⟨by kernel_rfl,fun j t ht=>?_⟩
 rw[Tryz.params5]at ht
 have:t=25\/t=9\/t=9\/t=3:=by simpa using Array.mem_of_getElem? ht
 rcases this with rfl |rfl |rfl |rfl
 ·exact(show Tryz.prog.wantsStandIn 25=false by kernel_rfl)
 ·exact(show Tryz.prog.wantsStandIn 9=false by kernel_rfl)
 ·exact(show Tryz.prog.wantsStandIn 9=false by kernel_rfl)
 ·exact(show Tryz.prog.wantsStandIn 3=false by kernel_rfl)
/-- The card. -/
theorem proved:Rows.FnExactUniteIntoCardSaid:=
 Claim7.holds_tied_plain_at .later [] _ _ _ _ said (fun _ h=>by cases h) kt (fun _ h=>by cases h) fnExactUniteInto_row_tie rfl ⟨rfl,rfl⟩ (by kernel_rfl) rfl plain kg
#print axioms proved
end Go.Proofs.YtiahldhbknpmiaaGreatDoor.fnExactUniteInto
