/- Rules of the walks: XLc. Conditions: each rule's own premises. -/
import Derived.Test.YtjokjcdckcpijaaGreatDoorXALb
import Derived.Sort.Grow
import Derived.Shelf.Slices.CompactS
import Derived.Lib.SplitLaws
import Derived.Lib.IndexMore
import Derived.Lib.Join
import Derived.Lib.ItoaNum
import Derived.Below
import Derived.Lib.AppendZerosOnto
import Derived.Lib.Overlaps
import Derived.Laws.Externs
import Derived.Test.YtjokjcdckcpijaaGreatDoorXAAt
import Derived.Lib.AtoiErrMem
namespace Go.Sx
open Go Go.RowKit Go.Sort Go.Proofs Go.Shelf Rp
set_option linter.unusedSimpArgs false
set_option linter.unusedVariables false
set_option linter.unusedSectionVars false
class Sa [Rp Str]:Prop where
 sz:Rp.sz Str=1
 own: ∀ {w:World} {A:Nat->Prop} {S:List Nat} {cs:List Value} {s:Str},Rp.own w A S cs s↔S=[]/\cs=[vS s]
 rd: ∀ {w:World} {A:Nat->Prop} {cs:List Value} {s:Str},Rp.rd w A cs s->cs=[vS s]
section
variable [Rp Str][hS:Sa]{W:CW}{c:Nat}{v:Value}{xs:List Str}
theorem zo2 {W':CW}{g cap:Nat}{cur:Array Value}{ys:List Str}(hg:W'.w.heap[g]? =some (.cells cur (Rp.ty Str) (0,0)))(hc:W'.c g=c)(hl:ys.length<=cap)(hm:cap<=maxLen)(hs:cur.size=cap)(ht:cur.toList.take ys.length=ys.map vS):
 Ow (α:=List Str) W' c [] [.slice (some ⟨g,0,none⟩) ys.length cap] ys:=by
 have hf: ∀ l:List Str,(l.map fun s=>[vS s]).flatten=l.map vS:=by
  intro l
  induction l with
  |nil=>rfl
  |cons a l ih=>rw[List.map_cons,List.flatten_cons,ih];rfl
 have hr:(List.replicate ys.length ([]:List Nat)).flatten=[]:=by simp
 refine⟨[g]++(List.replicate ys.length ([]:List Nat)).flatten,⟨_,ys.map (fun s=>[vS s]),List.replicate ys.length [],rfl,⟨?_, .inr ⟨g,cap,cur,rfl,Nat.zero_le _,hg,hl,hm,by rw[hS.sz,Nat.mul_one];exact hs,?_⟩⟩,rfl,List.length_map ..,List.length_replicate,fun i cs x T h1 h2 h3=>?_⟩,?_,fun b hb=>?_⟩
 ·rw[hf,List.length_map,hS.sz,Nat.mul_one]
 ·rw[hS.sz,Nat.mul_one,hf];exact ht
 ·refine hS.own.2 ⟨(List.mem_replicate.1 (aH h3)).2,?_⟩
  rw[List.getElem?_map,h2]at h1
  exact(Option.some.inj h1).symm
 ·rw[hr,List.append_nil];simp
 ·rw[hr,List.append_nil,List.mem_singleton]at hb
  subst hb
  exact⟨(Array.getElem?_eq_some_iff.1 hg).1,hc⟩
end
open Go Go.RowKit Go.Proofs Go.Shelf Rp
class Ia [Rp Int]:Prop where
 one: ∀ {W:CW} {K:List Nat} {cs:List Value} {m:Int},Rd W K cs m->cs=[vI m]
section
variable [Rp Str][hS:Sa][Rp Int][hI:Ia]{W:CW}{K:List Nat}{g k:Nat}{P:Program}{f:FuncId}
theorem Gl.cell (h:Gl g W K): ∃ m:Int,W.w.cell? ⟨g,0,none⟩=some (.int .i64 m):=by
 obtain⟨m,_,cs,hc,hr⟩:=h
 have e:=hI.one hr
 subst e
 have:=hc 0 (vI m) rfl
 rw[show(⟨g,0,none⟩:Addr).add 0=⟨g,0,none⟩ by simp[Addr.add]]at this
 exact⟨m,this⟩
theorem znp (s sep:ByteArray)(n:Nat):(Lib.splitB sep 0 n s).map Value.string=(Lib.splitK sep.data.toList 0 n s.data.toList).map vS:=by
 rw[<- Lib.splitB_data,List.map_map]
 rfl
theorem zpy (hs: ∀ (s sep:ByteArray) (m:Int) (w:World),s.size<4294967281->w.cell? ⟨g,0,none⟩=some (.int .i64 m)->1<=sep.size->
 Calls P f #[.string s, .string sep] w fun e w'=>e = .returned (.slice (some ⟨w.heap.size,0,none⟩) (Lib.countB s sep+1) (Lib.countB s sep+1))/\w'=w.alloc (.cells ((Lib.splitB sep 0 (Lib.countB s sep) s).map Value.string).toArray (Rp.ty Str)))
 (hG:Gl g W K) {a b:Str} {r:List Str} (hm:(if a.length<=4294967000/\1<=b.length then some (Go.Lib.split a b) else none)=some r):
 zap P f [vS a,vS b].toArray W.w (Res W [] fun W' u=> ∃ u0:Value,u=u0/\Ow (α:=List Str) W' k [] [u0] r):=by
 split at hm
 case isFalse=>cases hm
 rename_i hl
 cases hm
 obtain⟨m,hc⟩:=hG.cell
 have ha:(⟨a.toArray⟩:ByteArray).size=a.length:=by simp[ByteArray.size]
 have hb:(⟨b.toArray⟩:ByteArray).size=b.length:=by simp[ByteArray.size]
 refine Calls.mono (hs ⟨a.toArray⟩ ⟨b.toArray⟩ m W.w (by omega) hc (by omega)) fun e w' ⟨he,hw⟩=>?_
 have hlen:=Lib.splitB_all ⟨b.toArray⟩ (by omega) 0 _ ⟨a.toArray⟩ rfl
 have hle:=Lib.countB_le ⟨b.toArray⟩ (by omega) _ ⟨a.toArray⟩ (Nat.le_refl _)
 have hp:=znp ⟨a.toArray⟩ ⟨b.toArray⟩ (Lib.countB ⟨a.toArray⟩ ⟨b.toArray⟩)
 have hsp:Lib.splitK (⟨b.toArray⟩:ByteArray).data.toList 0 (Lib.countB ⟨a.toArray⟩ ⟨b.toArray⟩) (⟨a.toArray⟩:ByteArray).data.toList=Lib.split a b:=by
  simp[Lib.split,Lib.countB]
 rw[hsp]at hp
 have hn:(Lib.split a b).length=Lib.countB ⟨a.toArray⟩ ⟨b.toArray⟩+1:=by
  have:=congrArg List.length hp
  simp only[List.length_map]at this
  omega
 refine⟨_,he,W.new k (.cells ((Lib.splitB ⟨b.toArray⟩ 0 (Lib.countB ⟨a.toArray⟩ ⟨b.toArray⟩) ⟨a.toArray⟩).map Value.string).toArray (Rp.ty Str)),hw.symm,Le.new _ _,_,rfl,?_⟩
 rw[<- hn,hp]
 refine zo2 (g:=W.w.heap.size) (cap:=(Lib.split a b).length) (cur:=((Lib.split a b).map vS).toArray) (heap_alloc_new W.w _) (by simp[CW.new,Nat.beq_refl]) (Nat.le_refl _) (by unfold maxLen;omega) (by simp) ?_
 rw[List.take_of_length_le (by simp)]
theorem zol (hs: ∀ (s p:ByteArray) (w:World),Calls P f #[.string s, .string p] w fun e w'=>e = .returned (.bool (Lib.hasPrefix s.data.toList p.data.toList))/\w'=w)
 {a b:Str} {r:Bool} (hm:some (Go.Lib.hasPrefix a b)=some r):zap P f [vS a,vS b].toArray W.w (Res W [] fun W' u=>u=vB r):=by
 cases hm
 exact Calls.mono (hs ⟨a.toArray⟩ ⟨b.toArray⟩ W.w) fun e w' ⟨he,hw⟩=>⟨_,he,W,hw.symm,Le.refl _ _,rfl⟩
end
open Go Go.RowKit Rp
section
variable {P:Program}{ρ:Env}{α:Type}[Rp α]{W:CW}{K S:List Nat}{k g cap:Nat}{cur:Array Value}{xs ys:List α}{es es':List (List Value)}{Ss Ss':List (List Nat)}
end
section
variable {P:Program}{ρ:Env}{α:Type}[Rp α][Atm α][Pl α]{W:CW}{K:List Nat}{c g cap:Nat}{cur:Array Value}{xs ys:List α}{es:List (List Value)}{v:Value}
def Flt (cs:List Value)(x:α):Prop:= ∀ w A,rd w A cs x
theorem Flt.of {w:World}{A:Nat->Prop}{cs:List Value}{x:α}(h:rd w A cs x):Flt cs x:=fun w' A'=>Pl.pl (A:=fun _=>False) (rd_keep (fun _ hb=>hb.elim) (Pl.pl (A':=fun _=>False) h))
theorem Ow.fl (h:Ow W c [] [v] xs):(v = .slice none 0 0/\xs=[]) \/ ∃ g cap cur es,v = .slice (some ⟨g,0,none⟩) xs.length cap/\W.w.heap[g]? =some (.cells cur (ty α) (0,0))/\xs.length<=cap/\cap<=maxLen/\cur.size=cap*sz α/\
 cur.toList.take (xs.length*sz α)=es.flatten/\Each Flt es xs/\W.c g=c:=by
 obtain⟨S,⟨v',es,Ss,e0,ho⟩,hn,hb⟩:=h
 simp only[List.cons.injEq,and_true]at e0
 subst e0
 rcases ho.row.2 with ⟨rfl,hn0⟩ |⟨g,cap,cur,rfl,hb0,hg,hnc,hcm,hcs,htake⟩
 ·exact .inl ⟨rfl,List.eq_nil_of_length_eq_zero hn0⟩
 ·refine .inr ⟨g,cap,cur,es,rfl,hg,hnc,hcm,hcs,htake,⟨ho.elen,fun i cs x h1 h2=>?_⟩,(hb g (by rw[ho.S];simp[Value.ownBlock])).2⟩
  have hi:i<Ss.length:=by rw[ho.slen];exact(List.getElem?_eq_some_iff.1 h2).1
  exact Flt.of (own_rd (A':=fun _=>True) (ho.at_ i cs x _ h1 h2 (aB hi)) (fun _ _=>trivial) (fun _ _=>trivial))
theorem Each.take {R:List Value->α->Prop}{es:List (List Value)}(h:Each R es xs)(n:Nat):Each R (es.take n) (xs.take n):=by
 refine⟨by simp[h.len],fun i cs x h1 h2=>?_⟩
 rw[List.getElem?_take]at h1 h2
 split at h1
 ·rename_i hi
  rw[if_pos hi]at h2
  exact h.at_ i cs x h1 h2
 ·cases h1
theorem Each.drop {R:List Value->α->Prop}{es:List (List Value)}(h:Each R es xs)(n:Nat):Each R (es.drop n) (xs.drop n):=by
 refine⟨by simp[h.len],fun i cs x h1 h2=>?_⟩
 rw[List.getElem?_drop]at h1 h2
 exact h.at_ _ cs x h1 h2
theorem Flt.len (w:World){cs:List Value}{x:α}(h:Flt cs x):cs.length=sz α:=rd_len (h w (fun _=>True))
theorem Flt.one (w:World){es:List (List Value)}(h:Each Flt es xs): ∀ u∈es.flatten,u.oneCell'=true:=fun u hu=>by
 obtain⟨cs,hc,hu⟩:=List.mem_flatten.1 hu
 obtain⟨x,hx⟩:=h.mem hc
 exact rd_one (hx w (fun _=>True)) u hu
end
section
variable {P:Program}{ρ:Env}{w:World}{a p q:Operand}{t e s b ty':Nat}{z:Value}
end
section
variable {P:Program}{ρ:Env}{w w':World}{a p q:Operand}{t e s b ty ty' f:Nat}{z v:Value}
theorem T.ext {fn : Func} {x : Array Value -> Sem Value} {args : Array Operand} {tys : Array TypeId} {vals : List Value} (hf : P.funcs[f]? = some fn) (hname : (fn.name == "runtime.NumGoroutine") = false) (hb : fn.body.isNone = true) (hn : Extern.findNext fn = none) (he : Extern.find fn = some x)
 (ha:args.toList.map (ev ρ)=vals) (hr:(x vals.toArray).run P w = .ok v w'):Tr P ρ w (.call ⟨.value (.func f),args,tys⟩) ty (fun u w''=>u=v/\w''=w'):=Tr.of_run fun o h1 _=>by
 have ha:args.map (ev ρ)=vals.toArray:=by
  apply Array.ext'
  rw[Array.toList_map,ha]
 have hc:=run_callFunc_extern (P:=P) hf hname hb hn he vals.toArray w
 rw[hr]at hc
 refine⟨v,w',?_,rfl,rfl⟩
 simp only[execOp,h1,resolve,ev,Deferred.ofValue,Sem.run_bind,Sem.run_pure,Result.andThen_ok,invoke,ha]
 simp[hc]
end
def Ge (g:Nat)(W:CW)(K:List Nat):Prop:=AK W K g /\ ∃ ev,W.w.cell? ⟨g,0,none⟩=some ev/\(ev = .nilIface \/ ∃ te pe,ev = .iface te pe)
structure Gk (g a b:Nat) [Rp Int] (W:CW) (K:List Nat):Prop where
 gl:Gl g W K
 ea:Ge a W K
 eb:Ge b W K
section
variable {g a b:Nat}[Rp Int]{W W':CW}{K L M:List Nat}
theorem Ge.up (h:Ge g W K)(l:Le L W W')(hd:zem K L=true):Ge g W' K:=by
 obtain⟨h1,ev,h2,h3⟩:=h
 obtain⟨e,h4⟩:=AK.up l hd h1
 exact⟨h4,ev,by rw[World.cell?_of_block (w:=W.w) (by exact e)];exact h2,h3⟩
theorem Ge.sub (h:Ge g W K)(hs:zkq K M=true):Ge g W M:=⟨⟨h.1.1,zf8 hs h.1.2⟩,h.2⟩
theorem Ge.view (h:Ge g W K)(J:List Nat):Ge g (W.view K J) [0]:=⟨⟨h.1.1,by simp[CW.view,zwv h.1.2]⟩,h.2⟩
theorem Gk.up (h:Gk g a b W K)(l:Le L W W')(hd:zem K L=true:=by rfl):Gk g a b W' K:=⟨h.gl.up l hd,h.ea.up l hd,h.eb.up l hd⟩
theorem Gk.ul (h:Gk g a b W [0])(l:Le LL W W'):Gk g a b W' [0]:=h.up l rfl
theorem Gk.sub (h:Gk g a b W K)(hs:zkq K M=true):Gk g a b W M:=⟨h.gl.sub hs,h.ea.sub hs,h.eb.sub hs⟩
theorem Gk.view (h:Gk g a b W K)(J:List Nat):Gk g a b (W.view K J) [0]:=⟨h.gl.view J,h.ea.view J,h.eb.view J⟩
end
section
variable [Rp Str][hS:Sa][Rp Int][hI:Ia]{W:CW}{K:List Nat}{g k:Nat}{P:Program}{f:FuncId}
end
end Go.Sx
