/- Rules of the walks: XLc. Conditions: each rule's own premises. -/
import Derived.Test.YtiahldhbknpmiaaGreatDoorBLb
import Derived.Sort.Grow
import Derived.Shelf.Slices.CompactS
import Derived.Lib.SplitLaws
import Derived.Lib.IndexMore
import Derived.Lib.Join
import Derived.Lib.ItoaNum
import Derived.Below
import Derived.Lib.AppendZerosOnto
import Derived.Lib.Overlaps
import Derived.Laws.Externs
import Derived.Test.YtiahldhbknpmiaaGreatDoorBAt
import Derived.Lib.AtoiErrMem
namespace Go.Sx
open Go Go.RowKit Go.Sort Go.Proofs Go.Shelf Rp
set_option linter.unusedSimpArgs false
set_option linter.unusedVariables false
set_option linter.unusedSectionVars false
class Sa [Rp Str]:Prop where
 sz:Rp.sz Str=1
 own: ∀ {w:World} {A:Nat->Prop} {S:List Nat} {cs:List Value} {s:Str},Rp.own w A S cs s↔S=[]/\cs=[vS s]
 rd: ∀ {w:World} {A:Nat->Prop} {cs:List Value} {s:Str},Rp.rd w A cs s->cs=[vS s]
section
variable [Rp Str][hS:Sa]{W:CW}{c:Nat}{v:Value}{xs:List Str}
theorem Ow.strs (h:Ow (α:=List Str) W c [] [v] xs):(v = .slice none 0 0/\xs=[]) \/ ∃ g cap cur,v = .slice (some ⟨g,0,none⟩) xs.length cap/\g<W.w.heap.size/\W.c g=c/\W.w.heap[g]? =some (.cells cur (Rp.ty Str) (0,0))/\xs.length<=cap/\cap<=maxLen/\cur.size=cap/\cur.toList.take xs.length=xs.map vS:=by
 obtain⟨S,⟨v',es,Ss,e,ho⟩,hn,hb⟩:=h
 simp only[List.cons.injEq,and_true]at e
 subst e
 have hcells:es.flatten=xs.map vS:=by
  have key: ∀ (es:List (List Value)) (xs:List Str),es.length=xs.length->(∀ (i:Nat) cs x,es[i]? =some cs->xs[i]? =some x->cs=[vS x])->es.flatten=xs.map vS:=by
   intro es
   induction es with
   |nil=>intro xs hl _;cases xs with
    |nil=>rfl
    |cons x xs=>simp at hl
   |cons a es ih=>
    intro xs hl h
    cases xs with
    |nil=>simp at hl
    |cons x xs=>
     rw[List.flatten_cons,h 0 a x rfl rfl,ih xs (by simpa using hl) (fun i cs y h1 h2=>h (i+1) cs y (by simpa using h1) (by simpa using h2))]
     rfl
  refine key es xs ho.elen (fun i cs x h1 h2=>?_)
  have hi:i<Ss.length:=by rw[ho.slen];exact(List.getElem?_eq_some_iff.1 h2).1
  exact(hS.own.1 (ho.at_ i cs x Ss[i] h1 h2 (aB hi))).2
 rcases ho.row.2 with ⟨rfl,hn0⟩ |⟨g,cap,cur,rfl,_,hg,hnc,hcm,hcs,htake⟩
 ·exact .inl ⟨rfl,List.eq_nil_of_length_eq_zero hn0⟩
 ·have hgS:g∈S:=by rw[ho.S];simp[Value.ownBlock]
  refine .inr ⟨g,cap,cur,rfl,(hb g hgS).1,(hb g hgS).2,hg,hnc,hcm,?_,?_⟩
  ·rw[hcs,hS.sz,Nat.mul_one]
  ·rw[hS.sz,Nat.mul_one,hcells]at htake
   exact htake
theorem zqa {W':CW}{g cap:Nat}{cur:Array Value}{ys:List Str}(hg:W'.w.heap[g]? =some (.cells cur (Rp.ty Str) (0,0)))(hc:W'.c g=c)(hl:ys.length<=cap)(hm:cap<=maxLen)(hs:cur.size=cap)(ht:cur.toList.take ys.length=ys.map vS):
 Ow (α:=List Str) W' c [] [.slice (some ⟨g,0,none⟩) ys.length cap] ys:=by
 have hf: ∀ l:List Str,(l.map fun s=>[vS s]).flatten=l.map vS:=by
  intro l
  induction l with
  |nil=>rfl
  |cons a l ih=>rw[List.map_cons,List.flatten_cons,ih];rfl
 have hr:(List.replicate ys.length ([]:List Nat)).flatten=[]:=by simp
 refine⟨[g]++(List.replicate ys.length ([]:List Nat)).flatten,⟨_,ys.map (fun s=>[vS s]),List.replicate ys.length [],rfl,⟨?_, .inr ⟨g,cap,cur,rfl,Nat.zero_le _,hg,hl,hm,by rw[hS.sz,Nat.mul_one];exact hs,?_⟩⟩,rfl,List.length_map ..,List.length_replicate,fun i cs x T h1 h2 h3=>?_⟩,?_,fun b hb=>?_⟩
 ·rw[hf,List.length_map,hS.sz,Nat.mul_one]
 ·rw[hS.sz,Nat.mul_one,hf];exact ht
 ·refine hS.own.2 ⟨(List.mem_replicate.1 (aH h3)).2,?_⟩
  rw[List.getElem?_map,h2]at h1
  exact(Option.some.inj h1).symm
 ·rw[hr,List.append_nil];simp
 ·rw[hr,List.append_nil,List.mem_singleton]at hb
  subst hb
  exact⟨(Array.getElem?_eq_some_iff.1 hg).1,hc⟩
theorem zqV {w:World}{g:Nat}{cur:Array Value}{t:TypeId}(hg:w.heap[g]? =some (.cells cur t (0,0)))(hl:xs.length<=cur.size)(ht:cur.toList.take xs.length=xs.map vS):Holds encStr w g 0 xs.toArray:=fun j hj=>by
 simp only[List.size_toArray]at hj
 refine⟨?_,by simp[World.frozen?,hg]⟩
 have h1:(cur.toList.take xs.length)[j]? =(xs.map vS)[j]? :=by rw[ht]
 rw[List.getElem?_take_of_lt hj,List.getElem?_map,aB hj]at h1
 simp only[World.cell?,hg,Nat.zero_add]
 rw[<- Array.getElem?_toList,h1,getElem!_pos _ j (by simpa using hj)]
 rfl
theorem zsX {w:World}{g:Nat}{cur:Array Value}{t:TypeId}{ys:List Str}(hg:w.heap[g]? =some (.cells cur t (0,0)))(hl:ys.length<=cur.size):
 ∃ cur',(putRow encStr w g 0 ys.toArray).heap[g]? =some (.cells cur' t (0,0))/\cur'.size=cur.size /\ ∀ n,n<=ys.length->cur'.toList.take n=(ys.take n).map vS:=by
 refine⟨putCells encStr 0 ys.toArray cur,?_,by simp[putCells],fun n hn=>?_⟩
 ·unfold putRow mapBlock
  simp[Array.getElem?_modify,hg,onCells]
 ·apply List.ext_getElem?
  intro j
  rw[List.getElem?_take,List.getElem?_map,List.getElem?_take]
  by_cases hj:j<n
  ·rw[if_pos hj,if_pos hj,Array.getElem?_toList]
   unfold putCells
   rw[Array.getElem?_mapIdx,Array.getElem?_eq_getElem (show j<cur.size by omega),aB (show j<ys.length by omega)]
   simp only[Option.map_some,Nat.zero_le,Nat.zero_add,Nat.sub_zero,true_and,List.size_toArray]
   rw[if_pos (by omega),getElem!_pos _ j (by simpa using (show j<ys.length by omega))]
   rfl
  ·rw[if_neg hj,if_neg hj];rfl
theorem zrP {w:World}{g b:Nat}{ys:List Str}(h:b≠g):(putRow encStr w g 0 ys.toArray).heap[b]? =w.heap[b]? :=by
 unfold putRow mapBlock
 simp[Array.getElem?_modify,Ne.symm h]
theorem znG (xs:List Str):(zdE xs).length=xs.length:=List.length_mergeSort _
theorem zt0 {P:Program} {f:FuncId} (hs: ∀ (blk off cap:Nat) (ss:List (List UInt8)) (w:World),Holds encStr w blk off ss.toArray->blk<w.heap.size->ss.length<4611686018427387904->
 Calls P f #[.slice (some ⟨blk,off,none⟩) ss.length cap] w fun e w'=>e = .returned (.tuple #[]) /\ ∃ n os,w'=grow (putRow encStr (Sort.ahead w n) blk off (ss.mergeSort fun x y=>decide (x<=y)).toArray) os)
 (hn: ∀ (p:Option Addr) (cap:Nat) (w:World),Calls P f #[.slice p 0 cap] w fun e w'=>e = .returned (.tuple #[])/\w'=w)
 (h:Ow (α:=List Str) W c [] [v] xs) {r:List Str} (hm:(if xs.length<=4294967296 then some (zdE xs) else none)=some r):zaY P f [v].toArray W.w (Res W [c] fun W' u=>u = .tuple #[]/\Ow (α:=List Str) W' c [] [v] r):=by
 split at hm
 case isFalse=>cases hm
 rename_i hl
 cases hm
 rcases h.strs with ⟨rfl,rfl⟩ |⟨g,cap,cur,rfl,hgs,hgc,hg,hlc,hcm,hcs,ht⟩
 ·have h0:zdE ([]:List Str)=[]:=List.eq_nil_of_length_eq_zero (znG [])
  rw[h0]
  exact Calls.mono (hn none 0 W.w) fun e w' ⟨he,hw⟩=>⟨_,he,W,hw.symm,Le.refl _ _,rfl,h⟩
 ·refine Calls.mono (hs g 0 cap xs W.w (zqV hg (by omega) ht) hgs (by omega)) fun e w' ⟨he,n,os,hw⟩=>?_
  obtain⟨cur',h1,h2,h3⟩:=zsX (ys:=zdE xs) (w:=Sort.ahead W.w n) (g:=g) hg (by rw[znG];omega)
  have hsz:(putRow encStr (Sort.ahead W.w n) g 0 (zdE xs).toArray).heap.size=W.w.heap.size:=by simp
  have hold: ∀ b,b<W.w.heap.size->w'.heap[b]? =(putRow encStr (Sort.ahead W.w n) g 0 (zdE xs).toArray).heap[b]? :=fun b hb=>by
   rw[hw]
   unfold grow
   show(_++os)[b]? =_
   rw[Array.getElem?_append_left (by rw[show(xs.mergeSort fun x y=>decide (x<=y))=zdE xs from rfl,hsz];exact hb)]
   rfl
  let W':CW:=⟨w',fun b=>if b<W.w.heap.size then W.c b else 1⟩
  refine⟨_,he,W',rfl,⟨by show w'.os=_;rw[hw];rfl,by show w'.tape=_;rw[hw];rfl,by show w'.output=_;rw[hw];rfl,by show _<=w'.heap.size;rw[hw];simp,fun b hb hc=>⟨?_,if_pos hb⟩⟩,rfl,?_⟩
  ·show w'.heap[b]? =_
   rw[hold b hb]
   have hne:b≠g:=fun e=>hc (by rw[e,hgc];simp)
   exact(zrP (w:=Sort.ahead W.w n) hne).trans rfl
  ·have:=zqa (W':=W') (c:=c) (g:=g) (cap:=cap) (cur:=cur') (ys:=zdE xs) (by show w'.heap[g]? =_;rw[hold g hgs];exact h1) (by show(if g<W.w.heap.size then W.c g else 1)=c;rw[if_pos hgs];exact hgc) (by rw[znG];exact hlc) hcm (by omega) (by rw[h3 _ (Nat.le_refl _),List.take_length])
   rw[znG]at this
   exact this
theorem zpY (zs:List Str): ∀ (k i:Nat),i+k=zs.length->((List.range' i k).filter (Lib.keeps zs.toArray)).map (zs.toArray[·]!)=zcW (if i=0 then none else zs[i-1]?) (zs.drop i)
 |0,i,h=>by rw[List.drop_eq_nil_of_le (by omega)];rfl
 |k+1,i,h=>by
  have hi:i<zs.length:=by omega
  have ih:=zpY zs k (i+1) (by omega)
  have hd:zs.toArray[i]! =zs[i]:=by rw[getElem!_pos _ i (by simpa using hi)];simp
  rw[List.range'_succ,List.filter_cons,aI hi]
  rw[if_neg (by omega),Nat.add_sub_cancel,aB hi]at ih
  by_cases h0:i=0
  ·subst h0
   rw[if_pos (by simp[Lib.keeps]),List.map_cons,ih,if_pos rfl,hd]
   simp[zcW]
  ·have hp:zs.toArray[i-1]! =zs[i-1]:=by rw[getElem!_pos _ (i-1) (by simpa using (show i-1<zs.length by omega))];simp
   rw[if_neg h0,aB (by omega)]
   by_cases he:zs[i-1]=zs[i]
   ·rw[if_neg (by simp[Lib.keeps,h0,hd,hp,he]),ih]
    simp[zcW,he]
   ·rw[if_pos (by simp[Lib.keeps,h0,hd,hp,Ne.symm he]),List.map_cons,ih,hd]
    simp[zcW,he]
theorem zpp (zs:List Str):Lib.compact zs=zkZ zs:=by
 have:=zpY zs zs.length 0 (by omega)
 unfold Lib.compact Lib.compactUpTo zkZ
 rw[List.range_eq_range',this]
 rfl
theorem zqW: ∀ (zs:List Str) (p:Option Str),(zcW p zs).length<=zs.length
 | [],p=>by simp[zcW]
 |x::l,p=>by
  have:=zqW l (some x)
  unfold zcW
  split<;>simp<;>omega
theorem zrQ {P:Program} {f:FuncId} {k:Nat} (hs: ∀ (blk off cap:Nat) (zs:List (List UInt8)) (w:World),Holds encStr w blk off zs.toArray->zs.length<=9223372036854775807->zs.length<=cap->
 Calls P f #[.slice (some ⟨blk,off,none⟩) zs.length cap] w fun e w'=>e = .returned (.slice (some ⟨blk,off,none⟩) (Lib.compact zs).length cap) /\ ∃ q,w'=putRow encStr (Sort.ahead w q) blk off (Lib.compact zs++List.replicate (zs.length-(Lib.compact zs).length) []).toArray)
 (hn: ∀ (a:Option Addr) (cap:Nat) (w:World),Calls P f #[.slice a 0 cap] w fun e w'=>e = .returned (.slice a 0 cap)/\w'=w)
 (h:Ow (α:=List Str) W c [] [v] xs) {r:List Str} (hm:(if xs.length<=4294967296 then some (zkZ xs) else none)=some r):zaY P f [v].toArray W.w (Res W [c] fun W' u=> ∃ u0:Value,u=u0/\Ow (α:=List Str) W' k [] [u0] r):=by
 have hlen: ∀ zs:List Str,(Lib.compact zs).length<=zs.length:=fun zs=>by rw[zpp];exact zqW zs none
 rw[<- zpp]at hm
 split at hm
 case isFalse=>cases hm
 rename_i hl
 cases hm
 rcases h.strs with ⟨rfl,rfl⟩ |⟨g,cap,cur,rfl,hgs,hgc,hg,hlc,hcm,hcs,ht⟩
 ·have hc0:(Lib.compact ([]:List Str))=[]:=List.eq_nil_of_length_eq_zero (by have:=hlen [];simpa using this)
  refine Calls.mono (hn none 0 W.w) fun e w' ⟨he,hw⟩=>⟨_,he,W,hw.symm,Le.refl _ _,_,rfl,?_⟩
  rw[hc0]
  exact Ow.zr (α:=List Str) k []
 ·refine Calls.mono (hs g 0 cap xs W.w (zqV hg (by omega) ht) (by omega) hlc) fun e w' ⟨he,q,hw⟩=>?_
  have hll:(Lib.compact xs++List.replicate (xs.length-(Lib.compact xs).length) []).length=xs.length:=by have:=hlen xs;simp;omega
  obtain⟨cur',h1,h2,h3⟩:=zsX (ys:=Lib.compact xs++List.replicate (xs.length-(Lib.compact xs).length) []) (w:=Sort.ahead W.w q) (g:=g) hg (by rw[hll];omega)
  let W':CW:=⟨w',fun b=>bif Nat.beq b g then k else W.c b⟩
  refine⟨_,he,W',rfl,⟨by show w'.os=_;rw[hw];rfl,by show w'.tape=_;rw[hw];rfl,by show w'.output=_;rw[hw];rfl,by show _<=w'.heap.size;rw[hw];simp,fun b hb hc=>?_⟩,_,rfl,?_⟩
  ·have hne:b≠g:=fun e=>hc (by rw[e,hgc];simp)
   have hbe:Nat.beq b g=false:=by cases hx:Nat.beq b g with
    |false=>rfl
    |true=>exact absurd (Nat.eq_of_beq_eq_true hx) hne
   refine⟨?_,by show(bif Nat.beq b g then k else W.c b)=_;rw[hbe];rfl⟩
   show w'.heap[b]? =_
   rw[hw]
   exact(zrP (w:=Sort.ahead W.w q) hne).trans rfl
  ·refine zqa (W':=W') (c:=k) (g:=g) (cap:=cap) (cur:=cur') (ys:=Lib.compact xs) (by show w'.heap[g]? =_;rw[hw];exact h1) (by show(bif Nat.beq g g then k else W.c g)=k;rw[Nat.beq_refl];rfl) (by have:=hlen xs;omega) hcm (by omega) ?_
   rw[h3 _ (by rw[hll];exact hlen xs),List.take_left' rfl]
end
open Go Go.RowKit Go.Proofs Go.Shelf Rp
class Ia [Rp Int]:Prop where
 one: ∀ {W:CW} {K:List Nat} {cs:List Value} {m:Int},Rd W K cs m->cs=[vI m]
section
variable [Rp Str][hS:Sa][Rp Int][hI:Ia]{W:CW}{K:List Nat}{g k:Nat}{P:Program}{f:FuncId}
theorem Gl.cell (h:Gl g W K): ∃ m:Int,W.w.cell? ⟨g,0,none⟩=some (.int .i64 m):=by
 obtain⟨m,_,cs,hc,hr⟩:=h
 have e:=hI.one hr
 subst e
 have:=hc 0 (vI m) rfl
 rw[show(⟨g,0,none⟩:Addr).add 0=⟨g,0,none⟩ by simp[Addr.add]]at this
 exact⟨m,this⟩
theorem zrR (s sep:ByteArray)(n:Nat):(Lib.splitB sep 0 n s).map Value.string=(Lib.splitK sep.data.toList 0 n s.data.toList).map vS:=by
 rw[<- Lib.splitB_data,List.map_map]
 rfl
theorem ztm (hs: ∀ (s sep:ByteArray) (m:Int) (w:World),s.size<4294967281->w.cell? ⟨g,0,none⟩=some (.int .i64 m)->1<=sep.size->
 Calls P f #[.string s, .string sep] w fun e w'=>e = .returned (.slice (some ⟨w.heap.size,0,none⟩) (Lib.countB s sep+1) (Lib.countB s sep+1))/\w'=w.alloc (.cells ((Lib.splitB sep 0 (Lib.countB s sep) s).map Value.string).toArray (Rp.ty Str)))
 (hG:Gl g W K) {a b:Str} {r:List Str} (hm:(if a.length<=4294967000/\1<=b.length then some (Go.Lib.split a b) else none)=some r):
 zaY P f [vS a,vS b].toArray W.w (Res W [] fun W' u=> ∃ u0:Value,u=u0/\Ow (α:=List Str) W' k [] [u0] r):=by
 split at hm
 case isFalse=>cases hm
 rename_i hl
 cases hm
 obtain⟨m,hc⟩:=hG.cell
 have ha:(⟨a.toArray⟩:ByteArray).size=a.length:=by simp[ByteArray.size]
 have hb:(⟨b.toArray⟩:ByteArray).size=b.length:=by simp[ByteArray.size]
 refine Calls.mono (hs ⟨a.toArray⟩ ⟨b.toArray⟩ m W.w (by omega) hc (by omega)) fun e w' ⟨he,hw⟩=>?_
 have hlen:=Lib.splitB_all ⟨b.toArray⟩ (by omega) 0 _ ⟨a.toArray⟩ rfl
 have hle:=Lib.countB_le ⟨b.toArray⟩ (by omega) _ ⟨a.toArray⟩ (Nat.le_refl _)
 have hp:=zrR ⟨a.toArray⟩ ⟨b.toArray⟩ (Lib.countB ⟨a.toArray⟩ ⟨b.toArray⟩)
 have hsp:Lib.splitK (⟨b.toArray⟩:ByteArray).data.toList 0 (Lib.countB ⟨a.toArray⟩ ⟨b.toArray⟩) (⟨a.toArray⟩:ByteArray).data.toList=Lib.split a b:=by
  simp[Lib.split,Lib.countB]
 rw[hsp]at hp
 have hn:(Lib.split a b).length=Lib.countB ⟨a.toArray⟩ ⟨b.toArray⟩+1:=by
  have:=congrArg List.length hp
  simp only[List.length_map]at this
  omega
 refine⟨_,he,W.new k (.cells ((Lib.splitB ⟨b.toArray⟩ 0 (Lib.countB ⟨a.toArray⟩ ⟨b.toArray⟩) ⟨a.toArray⟩).map Value.string).toArray (Rp.ty Str)),hw.symm,Le.new _ _,_,rfl,?_⟩
 rw[<- hn,hp]
 refine zqa (g:=W.w.heap.size) (cap:=(Lib.split a b).length) (cur:=((Lib.split a b).map vS).toArray) (heap_alloc_new W.w _) (by simp[CW.new,Nat.beq_refl]) (Nat.le_refl _) (by unfold maxLen;omega) (by simp) ?_
 rw[List.take_of_length_le (by simp)]
theorem zsr (hs: ∀ (s p:ByteArray) (w:World),Calls P f #[.string s, .string p] w fun e w'=>e = .returned (.bool (Lib.hasPrefix s.data.toList p.data.toList))/\w'=w)
 {a b:Str} {r:Bool} (hm:some (Go.Lib.hasPrefix a b)=some r):zaY P f [vS a,vS b].toArray W.w (Res W [] fun W' u=>u=vB r):=by
 cases hm
 exact Calls.mono (hs ⟨a.toArray⟩ ⟨b.toArray⟩ W.w) fun e w' ⟨he,hw⟩=>⟨_,he,W,hw.symm,Le.refl _ _,rfl⟩
end
open Go Go.RowKit Rp
theorem ztn {P:Program} (w:World) (dT sT ty elem:TypeId) (g o dLen dCap:Nat) (a:Addr) (sLen sCap k n:Nat) (cur:Array Value) (t:TypeId) (cs:List Value)
 (hu:P.underlying dT=some (.slice elem)) (hs:(P.info? elem).map (·.size)=some k)
 (hg:w.heap[g]? =some (.cells cur t (0,0))) (hn:n=Nat.min sLen dLen) (hl:cs.length=n*k)
 (hsrc:zjh w a cs) (hfit:o+cs.length<=cur.size) (h1: ∀ v∈cs,v.oneCell'=true):
 (Builtin.copy_ #[dT,sT] ty #[.slice (some ⟨g,o,none⟩) dLen dCap, .slice (some a) sLen sCap]).run P w=
  .ok (goInt n) (w.setRow g (cur.toList.take o++cs++cur.toList.drop (o+cs.length)).toArray):=by
 have hl2:=run_loadCells_list (P:=P) w a cs hsrc
 have hst:=run_storeCells_at P g o t cs 0 cur w hg (by simpa using hfit) h1
 cases hq:P.info? elem with
 |none=>simp[hq]at hs
 |some i=>
  have hi:i.size=k:=by simpa[hq]using hs
  simp only[Nat.add_zero]at hst
  rw[hl]at hl2
  have hn':sLen.min dLen=n:=hn.symm
  simp[Builtin.copy_,run_underlying hu,Builtin.lenOf,Builtin.firstCells,sizeOf,typeInfo,hq,hi,hn',hl2,hst]
theorem zt1 {β:Type}{cur A B V:List β}{p q N:Nat}(hc:cur.take N=A++B)(ha:A.length=p)(hb:p+B.length=N)(hv:V.length=q)(hN:N+q<=cur.length):
 let r1:=cur.take (p+q)++B++cur.drop (p+q+B.length)
 r1.take p++V++r1.drop (p+q)=A++V++B++cur.drop (N+q):=by
 intro r1
 have l1:(cur.take (p+q)).length=p+q:=by rw[List.length_take];omega
 have e1:r1.take p=A:=by
  show(cur.take (p+q)++B++cur.drop (p+q+B.length)).take p=A
  rw[List.append_assoc,List.take_append_of_le_length (by omega),List.take_take,Nat.min_eq_left (by omega)]
  have:(cur.take N).take p=A:=by rw[hc,<- ha,List.take_left]
  rw[List.take_take,Nat.min_eq_left (by omega)]at this
  exact this
 have e2:r1.drop (p+q)=B++cur.drop (p+q+B.length):=by
  show(cur.take (p+q)++B++cur.drop (p+q+B.length)).drop (p+q)=_
  have h: ∀ X Y:List β,X.length=p+q->(X++Y).drop (p+q)=Y:=fun X Y hX=>by rw[<- hX,List.drop_left]
  rw[List.append_assoc,h _ _ l1]
 rw[e1,e2,show p+q+B.length=N+q by omega]
 simp[List.append_assoc]
section
variable {P:Program}{ρ:Env}{α:Type}[Rp α]{W:CW}{K S:List Nat}{k g cap:Nat}{cur:Array Value}{xs ys:List α}{es es':List (List Value)}{Ss Ss':List (List Nat)}
end
section
variable {P:Program}{ρ:Env}{α:Type}[Rp α][Atm α][Pl α]{W:CW}{K:List Nat}{c g cap:Nat}{cur:Array Value}{xs ys:List α}{es:List (List Value)}{v:Value}
def Flt (cs:List Value)(x:α):Prop:= ∀ w A,rd w A cs x
theorem Flt.of {w:World}{A:Nat->Prop}{cs:List Value}{x:α}(h:rd w A cs x):Flt cs x:=fun w' A'=>Pl.pl (A:=fun _=>False) (rd_keep (fun _ hb=>hb.elim) (Pl.pl (A':=fun _=>False) h))
theorem Ow.fl (h:Ow W c [] [v] xs):(v = .slice none 0 0/\xs=[]) \/ ∃ g cap cur es,v = .slice (some ⟨g,0,none⟩) xs.length cap/\W.w.heap[g]? =some (.cells cur (ty α) (0,0))/\xs.length<=cap/\cap<=maxLen/\cur.size=cap*sz α/\
 cur.toList.take (xs.length*sz α)=es.flatten/\Each Flt es xs/\W.c g=c:=by
 obtain⟨S,⟨v',es,Ss,e0,ho⟩,hn,hb⟩:=h
 simp only[List.cons.injEq,and_true]at e0
 subst e0
 rcases ho.row.2 with ⟨rfl,hn0⟩ |⟨g,cap,cur,rfl,hb0,hg,hnc,hcm,hcs,htake⟩
 ·exact .inl ⟨rfl,List.eq_nil_of_length_eq_zero hn0⟩
 ·refine .inr ⟨g,cap,cur,es,rfl,hg,hnc,hcm,hcs,htake,⟨ho.elen,fun i cs x h1 h2=>?_⟩,(hb g (by rw[ho.S];simp[Value.ownBlock])).2⟩
  have hi:i<Ss.length:=by rw[ho.slen];exact(List.getElem?_eq_some_iff.1 h2).1
  exact Flt.of (own_rd (A':=fun _=>True) (ho.at_ i cs x _ h1 h2 (aB hi)) (fun _ _=>trivial) (fun _ _=>trivial))
theorem Ow.ofFl (hg:W.w.heap[g]? =some (.cells cur (ty α) (0,0)))(hc:xs.length<=cap)(hcm:cap<=maxLen)(hcs:cur.size=cap*sz α)(hE:Each Flt es xs)(ht:cur.toList.take (xs.length*sz α)=es.flatten)(hk:W.c g=c):
 Ow W c [] [.slice (some ⟨g,0,none⟩) xs.length cap] xs:=by
 have hfl:es.flatten.length=xs.length*sz α:=by
  rw[<- ht,List.length_take,show cur.toList.length=cap*sz α by rw[Array.length_toList,hcs],Nat.min_eq_left (Nat.mul_le_mul_right _ hc)]
 refine⟨[g],⟨_,es,List.replicate xs.length [],rfl,⟨⟨hfl, .inr ⟨g,cap,cur,rfl,Nat.zero_le _,hg,hc,hcm,hcs,ht⟩⟩,by simp[Value.ownBlock],hE.len,by simp,fun i cs x T h1 h2 h3=>?_⟩⟩,by simp,fun b hb=>?_⟩
 ·have hT:T=[]:=by simpa using (List.mem_replicate.1 (aH h3)).2
  subst hT
  exact Atm.own (hE.at_ i cs x h1 h2 _ _)
 ·obtain rfl:b=g:=by simpa using hb
  exact⟨(Array.getElem?_eq_some_iff.1 hg).1,hk⟩
theorem Each.take {R:List Value->α->Prop}{es:List (List Value)}(h:Each R es xs)(n:Nat):Each R (es.take n) (xs.take n):=by
 refine⟨by simp[h.len],fun i cs x h1 h2=>?_⟩
 rw[List.getElem?_take]at h1 h2
 split at h1
 ·rename_i hi
  rw[if_pos hi]at h2
  exact h.at_ i cs x h1 h2
 ·cases h1
theorem Each.drop {R:List Value->α->Prop}{es:List (List Value)}(h:Each R es xs)(n:Nat):Each R (es.drop n) (xs.drop n):=by
 refine⟨by simp[h.len],fun i cs x h1 h2=>?_⟩
 rw[List.getElem?_drop]at h1 h2
 exact h.at_ _ cs x h1 h2
theorem Each.flen {R:List Value->α->Prop}{es:List (List Value)}(h:Each R es xs)(hl: ∀ cs x,R cs x->cs.length=sz α):es.flatten.length=xs.length*sz α:=by
 have key: ∀ es:List (List Value),(∀ cs∈es,cs.length=sz α)->es.flatten.length=es.length*sz α:=by
  intro es
  induction es with
  |nil=>intro _;simp
  |cons e es ih=>
   intro hh
   rw[List.flatten_cons,List.length_append,ih (fun c hc=>hh c (by simp[hc])),hh e (by simp),aL,Nat.add_mul,Nat.one_mul]
   omega
 rw[key es (fun cs hc=>by obtain⟨x,hx⟩:=h.mem hc;exact hl cs x hx),h.len]
theorem Flt.len (w:World){cs:List Value}{x:α}(h:Flt cs x):cs.length=sz α:=rd_len (h w (fun _=>True))
theorem Flt.one (w:World){es:List (List Value)}(h:Each Flt es xs): ∀ u∈es.flatten,u.oneCell'=true:=fun u hu=>by
 obtain⟨cs,hc,hu⟩:=List.mem_flatten.1 hu
 obtain⟨x,hx⟩:=h.mem hc
 exact rd_one (hx w (fun _=>True)) u hu
end
section
variable {P:Program}{ρ:Env}{w:World}{a p q:Operand}{t e s b ty':Nat}{z:Value}
theorem R.capV [hU:Und P t (.slice e)]{ad:Option Addr}{l cp:Nat}(hx:ev ρ a = .slice ad l cp):Run P ρ w (.call ⟨.builtin .cap,#[a],#[t]⟩) ty' (vI cp):=fun o h1 h2=>by
 have hr:(Builtin.cap_ #[t] ty' #[.slice ad l cp]).run P w = .ok (vI cp) w:=by simp[Builtin.cap_,run_underlying hU.h,goInt]
 simp only[execOp,h1,h2,resolve,invoke,builtin,Sem.run_bind,Sem.run_pure,Result.andThen_ok,List.map_toArray,List.map_cons,List.map_nil,hx,hr]
theorem R.slV [hU:Und P t (.slice e)] [hI:Inf P e s b z] {lo hi:Option Operand} {ad:Option Addr} {n c l h:Nat} {li hv:Int} (hx:ev ρ a = .slice ad n c)
 (hl:(lo.map (ev ρ)=none/\l=0)\/(lo.map (ev ρ)=some (vI li)/\li=(l:Int))) (hh:(hi.map (ev ρ)=none/\h=n)\/(hi.map (ev ρ)=some (vI hv)/\hv=(h:Int))) (h1:l<=h) (h2:h<=c) (hn:n<=c):
 Run P ρ w (.slice t a lo hi none) ty' (sliced ad l h c s):=fun o h3 _=>by
 obtain⟨i,hi',_,his,_⟩:=hI.get
 have hb:(Instr.sliceBounds true n c (lo.map (ev ρ)) (hi.map (ev ρ)) none).run P w = .ok (l,h,c) w:=by
  rcases hl with ⟨e,rfl⟩ |⟨e,rfl⟩<;>rcases hh with ⟨e',rfl⟩ |⟨e',rfl⟩<;>rw[e,e']
  ·simp[Instr.sliceBounds]
  ·simp[Instr.sliceBounds,Instr.sliceBound,asIntOf,h2]
  ·simp[Instr.sliceBounds,Instr.sliceBound,asIntOf,(by omega:(l:Int)<=(h:Int))]
   intro hq;omega
  ·simp[Instr.sliceBounds,Instr.sliceBound,asIntOf,h2,(by omega:(l:Int)<=(h:Int))]
   intro hq;omega
 simp only[execOp,h3,hx,Option.map_none,Instr.sliceAt,Sem.run_bind,run_underlying hU.h,Result.andThen_ok,Instr.slice,hb,sizeOf,typeInfo,run_program,hi',Sem.run_pure,his]
 rfl
theorem T.cpy [hU:Und P t (.slice e)] [hI:Inf P e s b z] {g o dLen dCap sLen sCap n:Nat} {A:Addr} {cur:Array Value} {tt:TypeId} {cs:List Value} (hp:ev ρ p = .slice (some ⟨g,o,none⟩) dLen dCap) (hq:ev ρ q = .slice (some A) sLen sCap)
 (hg:w.heap[g]? =some (.cells cur tt (0,0))) (hn:n=Nat.min sLen dLen) (hl:cs.length=n*s) (hsrc:zjh w A cs) (hfit:o+cs.length<=cur.size) (h1: ∀ v∈cs,v.oneCell'=true):
 Tr P ρ w (.call ⟨.builtin .copy,#[p,q],#[t,t]⟩) ty' (fun _ w'=>w'=w.setRow g (cur.toList.take o++cs++cur.toList.drop (o+cs.length)).toArray):=Tr.of_run fun o' h3 h4=>by
 obtain⟨i,hi,_,his,_⟩:=hI.get
 have hr:=ztn (P:=P) w t t ty' e g o dLen dCap A sLen sCap s n cur tt cs hU.h (by rw[hi];simp[his]) hg hn hl hsrc hfit h1
 refine⟨goInt n,_,?_,rfl⟩
 simp only[execOp,h3,h4,resolve,invoke,builtin,Sem.run_bind,Sem.run_pure,Result.andThen_ok,List.map_toArray,List.map_cons,List.map_nil,hp,hq,hr]
theorem T.apz {tn:Nat} [hU:Und P t (.slice e)] [hV:Und P tn (.int .i64)] [hI:Inf P e s b z] {A:Addr} {n c k:Nat} {kk:Int} {olds:List Value} (hp:ev ρ p = .slice (some A) n c) (hq:ev ρ q=vI kk) (hk:kk=(k:Int))
 (hold:zjh w A olds) (hl:olds.length=n*s) (h0:0<k) (hg:c<n+k) (hlim:n+k<=lim) (hz:z.cells.size=s:=by rfl) (hs:Nat.blt 0 s=true:=by rfl) (hb:Nat.ble b 32768=true:=by rfl):
 Tr P ρ w (.call ⟨.builtin .append,#[p,q],#[t,tn]⟩) ty' (fun v w'=> ∃ G cur,v = .slice (some ⟨w.heap.size,0,none⟩) (n+k) G/\n+k<=G/\G<=maxLen/\w'.heap[w.heap.size]? =some (.cells cur e (0,0))/\cur.size=G*s/\cur.toList.take (n*s)=olds/\
  w'.heap.size=w.heap.size+1/\(∀ b,b<w.heap.size->w'.heap[b]? =w.heap[b]?)/\w'.os=w.os/\w'.tape=w.tape/\w'.output=w.output):=Tr.of_run fun o h3 h4=>by
 subst hk
 obtain⟨i,hi,hiz,his,hib⟩:=hI.get
 have hb':b<=32768:=by simpa using hb
 have hs':0<s:=by simpa[Nat.blt_eq]using hs
 have hm:n+k<=maxLen:=by unfold lim at hlim;unfold maxLen;omega
 have hby:(n+k)*b<=140737488355328:=Nat.le_trans (Nat.mul_le_mul hlim hb') (by decide)
 have hby2:k*b<=281474976710656:=Nat.le_trans (Nat.mul_le_mul_right b (Nat.le_add_left k n)) (Nat.le_trans hby (by decide))
 have hc2:(Builtin.firstCells i.size n (.slice (some A) n c)).run P w.drew = .ok olds.toArray w.drew:=by
  have:=run_loadCells_list (P:=P) w.drew A olds hold
  rw[hl]at this
  rw[his]
  exact this
 have hr:=Lib.run_append_grow_zeros (P:=P) w t tn ty' e i z .i64 .i64 hU.h hV.h hi hiz (some A) n c olds hc2 k h0 (by omega) hg (by unfold maxLen at hm;omega) (by rw[hib];exact hby2) (by rw[hib];exact growslice_fits hg hby)
 obtain⟨CUR,hC⟩: ∃ C:Array Value,C=olds.toArray++Builtin.zeroCells z.cells k++Builtin.zeroCells z.cells (grownCap w (n+k) c e-(n+k)):=⟨_,rfl⟩
 rw[<- hC]at hr
 refine⟨_,w.drew.alloc (.cells CUR e),?_,grownCap w (n+k) c e,CUR,rfl,grownCap_ge w _ _ _,grownCap_le_maxLen w (n+k) c e hm,?_,?_,?_,?_,fun b hb=>?_,rfl,rfl,rfl⟩
 ·simp only[execOp,h3,h4,resolve,invoke,builtin,Sem.run_bind,Sem.run_pure,Result.andThen_ok,List.map_toArray,List.map_cons,List.map_nil,hp,hq,hr]
 ·show(w.heap.push (.cells CUR e))[w.heap.size]? =_
  simp
 ·have:=grownCap_ge w (n+k) c e
  subst hC
  simp only[Array.size_append,List.size_toArray,hl,Builtin.zeroCells,Array.size_map,Array.size_range,hz]
  rw[<- Nat.add_mul,<- Nat.add_mul]
  congr 1
  omega
 ·subst hC
  simp only[Array.toList_append,List.append_assoc]
  rw[List.take_append_of_le_length (by simp[hl]),List.take_of_length_le (by simp[hl])]
 ·show(w.heap.push (.cells CUR e)).size=_
  simp
 ·show(w.heap.push (.cells CUR e))[b]? =_
  rw[Array.getElem?_push_lt hb,Array.getElem?_eq_getElem hb]
end
theorem zqv {w:World}{g k n:Nat}{cur:Array Value}{t:TypeId}{cs:List Value}(hg:w.heap[g]? =some (.cells cur t (0,0)))(h:(cur.toList.drop k).take n=cs):zjh w ⟨g,k,none⟩ cs:=fun j u hj=>by
 rw[Addr.add_lit]
 subst h
 rw[List.getElem?_take]at hj
 split at hj
 ·rw[List.getElem?_drop]at hj
  simp only[World.cell?,hg]
  simpa using hj
 ·cases hj
theorem zt2 {β:Type}{cur A B:List β}{p N:Nat}(h:cur.take N=A++B)(hA:A.length=p)(hN:p+B.length=N):(cur.drop 0).take p=A/\(cur.drop p).take B.length=B:=by
 constructor
 ·have:(cur.take N).take p=A:=by rw[h,<- hA,List.take_left]
  rw[List.take_take,Nat.min_eq_left (by omega)]at this
  rw[List.drop_zero]
  exact this
 ·have:(cur.take N).drop p=B:=by rw[h,<- hA,List.drop_left]
  rw[List.drop_take]at this
  rw[show B.length=N-p by omega]
  exact this
theorem zrl {k:Nat}(h:k<=maxLen):IntKind.i64.wrap (k:Int)=(k:Int):=by
 unfold maxLen at h
 rw[IntKind.wrap_i64];omega
theorem zmR {g l h c s:Nat}(hc:l<c):sliced (some ⟨g,0,none⟩) l h c s = .slice (some ⟨g,l*s,none⟩) (h-l) (c-l):=by
 unfold sliced
 rw[if_neg (by omega),Option.map_some,Addr.add_lit,Nat.zero_add]
section
variable {P:Program}{ρ:Env}{w w':World}{a p q:Operand}{t e s b ty ty' f:Nat}{z v:Value}
theorem R.slE [hU:Und P t (.slice e)] [hI:Inf P e s b z] {lo hi:Option Operand} {ad:Option Addr} {n c l h:Nat} {li hv:Int} (ev1:sliced ad l h c s=v) (hx:ev ρ a = .slice ad n c)
 (hl:(lo.map (ev ρ)=none/\l=0)\/(lo.map (ev ρ)=some (vI li)/\li=(l:Int))) (hh:(hi.map (ev ρ)=none/\h=n)\/(hi.map (ev ρ)=some (vI hv)/\hv=(h:Int))) (h1:l<=h) (h2:h<=c) (hn:n<=c):
 Run P ρ w (.slice t a lo hi none) ty' v:=ev1▸R.slV hx hl hh h1 h2 hn
theorem T.ext {fn : Func} {x : Array Value -> Sem Value} {args : Array Operand} {tys : Array TypeId} {vals : List Value} (hf : P.funcs[f]? = some fn) (hname : (fn.name == "runtime.NumGoroutine") = false) (hb : fn.body.isNone = true) (hn : Extern.findNext fn = none) (he : Extern.find fn = some x)
 (ha:args.toList.map (ev ρ)=vals) (hr:(x vals.toArray).run P w = .ok v w'):Tr P ρ w (.call ⟨.value (.func f),args,tys⟩) ty (fun u w''=>u=v/\w''=w'):=Tr.of_run fun o h1 _=>by
 have ha:args.map (ev ρ)=vals.toArray:=by
  apply Array.ext'
  rw[Array.toList_map,ha]
 have hc:=run_callFunc_extern (P:=P) hf hname hb hn he vals.toArray w
 rw[hr]at hc
 refine⟨v,w',?_,rfl,rfl⟩
 simp only[execOp,h1,resolve,ev,Deferred.ofValue,Sem.run_bind,Sem.run_pure,Result.andThen_ok,invoke,ha]
 simp[hc]
end
theorem Ow.recol {α:Type}[Rp α]{W:CW}{c:Nat}{cs:List Value}{x:α}(h:Ow W c [] cs x)(k:Nat): ∃ W',W'.w=W.w/\Le [c] W W'/\Ow W' k [] cs x:=by
 obtain⟨S,ho,hn,hb⟩:=h
 refine⟨⟨W.w,fun b=>if W.c b=c then k else W.c b⟩,rfl,⟨rfl,rfl,rfl,Nat.le_refl _,fun b _ hc=>⟨rfl,if_neg (fun e=>hc (by simp[e]))⟩⟩,S,own_mono (fun b hb=>absurd hb.2 (by simp)) ho,hn,fun b hb'=>⟨(hb b hb').1,if_pos (hb b hb').2⟩⟩
def Ge (g:Nat)(W:CW)(K:List Nat):Prop:=AK W K g /\ ∃ ev,W.w.cell? ⟨g,0,none⟩=some ev/\(ev = .nilIface \/ ∃ te pe,ev = .iface te pe)
structure Gk (g a b:Nat) [Rp Int] (W:CW) (K:List Nat):Prop where
 gl:Gl g W K
 ea:Ge a W K
 eb:Ge b W K
section
variable {g a b:Nat}[Rp Int]{W W':CW}{K L M:List Nat}
theorem Ge.up (h:Ge g W K)(l:Le L W W')(hd:zkL K L=true):Ge g W' K:=by
 obtain⟨h1,ev,h2,h3⟩:=h
 obtain⟨e,h4⟩:=AK.up l hd h1
 exact⟨h4,ev,by rw[World.cell?_of_block (w:=W.w) (by exact e)];exact h2,h3⟩
theorem Ge.sub (h:Ge g W K)(hs:zp2 K M=true):Ge g W M:=⟨⟨h.1.1,zm5 hs h.1.2⟩,h.2⟩
theorem Ge.view (h:Ge g W K)(J:List Nat):Ge g (W.view K J) [0]:=⟨⟨h.1.1,by simp[CW.view,zzF h.1.2]⟩,h.2⟩
theorem Gk.up (h:Gk g a b W K)(l:Le L W W')(hd:zkL K L=true:=by rfl):Gk g a b W' K:=⟨h.gl.up l hd,h.ea.up l hd,h.eb.up l hd⟩
theorem Gk.ul (h:Gk g a b W [0])(l:Le LL W W'):Gk g a b W' [0]:=h.up l rfl
theorem Gk.sub (h:Gk g a b W K)(hs:zp2 K M=true):Gk g a b W M:=⟨h.gl.sub hs,h.ea.sub hs,h.eb.sub hs⟩
theorem Gk.view (h:Gk g a b W K)(J:List Nat):Gk g a b (W.view K J) [0]:=⟨h.gl.view J,h.ea.view J,h.eb.view J⟩
end
section
variable [Rp Str][hS:Sa][Rp Int][hI:Ia]{W:CW}{K:List Nat}{g k:Nat}{P:Program}{f:FuncId}
end
end Go.Sx
