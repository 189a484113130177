/- Maps from texts to whole numbers that a call has made; their keys, sorted. Conditions: none; each rule's own premises. -/
import Derived.Test.YtifbmanldeabeaaGreatDoorGLc
import Derived.Maps.OwnSet
import Derived.Sort.KeysCollected
namespace Go.Sx
open Go Go.RowKit Go.Proofs Go.Shelf Rp Go.ChangeMaps
open Go.Maps (Keyed)
open Go.WideElems (Fit)
set_option linter.unusedSimpArgs false
set_option linter.unusedVariables false
set_option linter.unusedSectionVars false
def Mp:Type:=List (Str×Int)
def mpE (p:Str×Int):Lit×DataW Unit:=(.string p.1, .lit (.int .i64 p.2))
def mpD (m:List (Str×Int)):DataW Unit:= .map (m.map mpE)
def mpS (w:World)(b:Nat)(m:List (Str×Int)):Prop:= ∃ (P:Program) (k e:TypeId),P.underlying k=some .string/\P.underlying e=some (.int .i64)/\w.ownsMap P k (plainElem P e) b m.length (mpD m)
theorem zza {P P':Program}{e e':TypeId}(he:P.underlying e=some (.int .i64))(he':P'.underlying e'=some (.int .i64)):(plainElem P e:Value->Option (DataW Unit×List MemPlace))=plainElem P' e':=by
 funext v
 unfold plainElem
 rw[he,he']
theorem zAA {P P':Program}{k k':TypeId}(hk:P.underlying k=some .string)(hk':P'.underlying k'=some .string)(v:Value):keyOf P k v=keyOf P' k' v:=by
 simp[keyOf,hk,hk',mapKey]
theorem zAB {P P':Program} {k k' e e':TypeId} {w:World} {b n:Nat} {D:DataW Unit} (hk:P.underlying k=some .string) (hk':P'.underlying k'=some .string) (he:P.underlying e=some (.int .i64)) (he':P'.underlying e'=some (.int .i64))
 (h:w.ownsMap P k (plainElem P e) b n D):w.ownsMap P' k' (plainElem P' e') b n D:=by
 obtain⟨es,clock,hb,⟨f1,f2,f3⟩,hs,hD⟩:=h
 have e1: ∀ x:MapEntry,WideElems.rd P k (plainElem (H:=Unit) P e) x=WideElems.rd P' k' (plainElem P' e') x:=fun x=>by
  unfold WideElems.rd
  rw[zAA hk hk',zza he he']
 have e2:WideElems.rg P k (plainElem (H:=Unit) P e)=WideElems.rg P' k' (plainElem P' e'):=by
  funext x
  unfold WideElems.rg
  rw[e1]
 exact⟨es,clock,hb,⟨f1,f2,fun x hx=>by rw[<- e1];exact f3 x hx⟩,hs,by rw[<- e2];exact hD⟩
theorem zyj {P:Program}{k:TypeId}{R:Value->Option (DataW Unit×List MemPlace)}{w:World}{b n:Nat}{D:DataW Unit}(h:w.ownsMap P k R b n D):w.ownsMap P k R b (Maps.size D) D:=by
 obtain⟨es,clock,hb,F,hs,hD⟩:=h
 refine⟨es,clock,hb,F,?_,hD⟩
 rw[hD]
 simp[Maps.size,length_sorted]
theorem mpS.at {P:Program}{k e:TypeId}{w:World}{b:Nat}{m:List (Str×Int)}(h:mpS w b m)(hk:P.underlying k=some .string)(he:P.underlying e=some (.int .i64)):w.ownsMap P k (plainElem P e) b m.length (mpD m):=by
 obtain⟨P',k',e',h1,h2,h3⟩:=h
 exact zAB h1 hk h2 he h3
theorem mpS.keep {w w':World}{b:Nat}{m:List (Str×Int)}(h:mpS w b m)(hb:w'.heap[b]? =w.heap[b]?):mpS w' b m:=by
 obtain⟨P,k,e,h1,h2,es,clock,h3,h4⟩:=h
 exact⟨P,k,e,h1,h2,es,clock,hb.trans h3,h4⟩
@[reducible] instance Rp.mp:Rp Mp where
 sz:=1
 ty:=0
 lty:=0
 rd w A cs x:= ∃ b,cs=[.map (some b)]/\A b/\mpS w b x
 own w A S cs x:= ∃ b,cs=[.map (some b)]/\S=[b]/\mpS w b x
 rd_len:=fun⟨_,e,_⟩=>by rw[e];rfl
 rd_one:=fun⟨_,e,_⟩ u hu=>by rw[e,List.mem_singleton]at hu;rw[hu];rfl
 rd_keep:=fun hA ⟨b,e,hb,h⟩=>⟨b,e,hb,h.keep (hA b hb)⟩
 rd_mono:=fun hA ⟨b,e,hb,h⟩=>⟨b,e,hA b hb,h⟩
 own_len:=fun⟨_,e,_⟩=>by rw[e];rfl
 own_rd:=fun⟨b,e,hS,h⟩ hA _=>⟨b,e,hA b (by rw[hS];simp),h⟩
 own_keep:=fun _ hS ⟨b,e,h1,h⟩=>⟨b,e,h1,h.keep (hS b (by rw[h1];simp))⟩
 own_mono:=fun _ h=>h
theorem zCl (m:List (Str×Int))(k:Str):(mpD m).atKey (.string k) (.lit (.int .i64 0)) = .lit (.int .i64 (((m.find? fun p=>p.1==k).map (·.2)).getD 0)):=by
 unfold mpD DataW.atKey
 simp only[List.find?_map]
 have:((fun p:Lit×DataW Unit=>p.1.sameKey (.string k))∘ mpE)=fun p=>p.1==k:=rfl
 rw[this]
 cases m.find? (fun p=>p.1==k)<;>rfl
theorem zzK (p:Str×Int): ∀ m:List (Str×Int),DataW.insert (mpE p) (m.map mpE)=(zuN p m).map mpE
 | []=>rfl
 |q::r=>by
  simp only[List.map_cons,DataW.insert,zuN]
  have:(mpE p).1.before (mpE q).1=bytesBefore p.1 q.1:=rfl
  rw[this]
  cases bytesBefore p.1 q.1 with
  |true=>rfl
  |false=>simp[zzK p r]
theorem zCm (m:List (Str×Int))(k:Str)(v:Int):(mpD m).put (.string k) (.lit (.int .i64 v))=mpD (zuN (k,v) (m.filter fun p=> !p.1==k)):=by
 unfold mpD DataW.put
 simp only[List.filter_map]
 have:((fun p:Lit×DataW Unit=> !p.1.sameKey (.string k))∘ mpE)=fun p=> !p.1==k:=rfl
 rw[this]
 exact congrArg DataW.map (zzK (k,v) _)
theorem zzb (p:Str×Int): ∀ m:List (Str×Int),(zuN p m).length=m.length+1
 | []=>rfl
 |q::r=>by
  unfold zuN
  split
  ·rfl
  ·simp[zzb p r]
theorem zyk (m:List (Str×Int)):Maps.size (mpD m)=m.length:=by simp[Maps.size,mpD]
theorem zAC (m:List (Str×Int)):Go.strKeys (mpD m)=m.map (·.1):=by
 simp[Go.strKeys,mpD,mpE,Go.strOf,Function.comp_def]
section
variable {P:Program}{ρ:Env}{W:CW}{c ty k e t:Nat}{v:Value}{m q:List (Str×Int)}{x y z:Operand}{s:Str}{n:Int}
theorem T.mkMap (c:Nat){r:Option Operand}[hU:Und P t (.map k e)][hk:Und P k .string][he:Und P e (.int .i64)](hr:r=none):Tr P ρ W.w (.makeMap t r) ty (fun v w'=> ∃ W',W'.w=w'/\Le [] W W'/\Ow (α:=Mp) W' c [] [v] ([]:List (Str×Int))):=Tr.of_run fun o h1 _=>by
 subst hr
 refine⟨.map (some W.w.heap.size),W.w.alloc (.map #[] 0),?_,W.new c (.map #[] 0),rfl,Le.new _ _,[W.w.heap.size],⟨_,rfl,rfl,P,k,e,hk.h,he.h,World.ownsMap_made W.w P k _⟩,by simp,fun b hb=>?_⟩
 ·simp[execOp,h1,run_makeMap]
 ·rw[List.mem_singleton]at hb
  subst hb
  exact⟨by simp[CW.new],by simp[CW.new,Nat.beq_refl]⟩
theorem Ow.map (h:Ow (α:=Mp) W c [] [v] m): ∃ b,v = .map (some b)/\b<W.w.heap.size/\W.c b=c/\mpS W.w b m:=by
 obtain⟨S,⟨b,e,hS,h⟩,hn,hb⟩:=h
 subst hS
 have:=hb b (by simp)
 exact⟨b,by simpa using e,this.1,this.2,h⟩
theorem zyl (hk:P.underlying k=some .string)(hs:s.length<=4294967296):keyOf P k (vS s)=some (.string s):=by
 have:(⟨s.toArray⟩:ByteArray).size<=maxLen:=by rw[bsz];unfold maxLen;omega
 have key: ∀ z:ByteArray,z.size<=maxLen->keyOf P k (.string z)=some (.string z.data.toList):=fun z hz=>by simp[keyOf,hk,mapKey,hz]
 exact key _ this
theorem R.lookM [hU:Und P t (.map k e)][hk:Und P k .string][he:Und P e (.int .i64)]{sz_ b_:Nat}[hI:Inf P e sz_ b_ (vI 0)](h:Ow (α:=Mp) W c [] [v] m)(hm:mgM m s=some n)(hx:ev ρ x=v)(hy:ev ρ y=vS s):
 Run P ρ W.w (.lookup t x y false) ty (vI n):=fun o h1 _=>by
 obtain⟨b,rfl,_,_,hb⟩:=h.map
 unfold mgM at hm
 split at hm
 case isFalse=>cases hm
 rename_i hl
 cases hm
 obtain⟨i,hi,hz,_⟩:=hI.get
 have hzv:(zeroValue e).run P W.w = .ok (vI 0) W.w:=by simp[zeroValue,typeInfo,hi,hz]
 obtain⟨n',hrun,hat,_⟩:=(hb.at hk.h he.h).lookup_int (Maps.string_keyed hk.h) hU.h he.h hzv (zyl hk.h hl)
 rw[zCl]at hat
 simp only[DataW.lit.injEq,Lit.int.injEq,true_and]at hat
 subst hat
 simp[execOp,h1,hx,hy,hrun]
theorem T.putM [hU:Und P t (.map k e)][hk:Und P k .string][he:Und P e (.int .i64)](h:Ow (α:=Mp) W c [] [v] m)(hm:mpM m s n=some q)(hx:ev ρ x=v)(hy:ev ρ y=vS s)(hz:ev ρ z=vI n):
 Tr P ρ W.w (.mapUpdate t x y z) ty (fun _ w'=> ∃ W',W'.w=w'/\Le [c] W W'/\Ow (α:=Mp) W' c [] [v] q):=Tr.of_unit fun o h1 _=>by
 obtain⟨b,rfl,hlt,hc,hb⟩:=h.map
 unfold mpM at hm
 split at hm
 case isFalse=>cases hm
 rename_i hl
 cases hm
 have hw:(Lit.int .i64 n).wf=true:=by simp only[Lit.wf,Bool.and_eq_true,decide_eq_true_eq];exact hl.2.2
 obtain⟨w',hrun,h2,hg⟩:=(hb.at hk.h he.h).update (Maps.string_keyed hk.h) hU.h (by unfold maxLen;omega) (zyl hk.h hl.2.1) (plainElem_int he.h hw)
 rw[zCm]at h2
 refine⟨w',by simp[execOp,h1,hx,hy,hz,hrun],⟨w',W.c⟩,rfl,⟨hg.os,hg.tape,hg.output,hg.size,fun i hi hn=>⟨hg.block i hi (fun e=>hn ?_),rfl⟩⟩,[b],⟨b,rfl,rfl,P,k,e,hk.h,he.h,?_⟩,by simp,fun i hi=>?_⟩
 ·obtain rfl:=Option.some.inj e
  simp[hc]
 ·have:(zuN (s,n) (m.filter fun p=> !p.1==s)).length=Maps.size (mpD (zuN (s,n) (m.filter fun p=> !p.1==s))):=(zyk _).symm
  rw[this]
  exact zyj h2
 ·rw[List.mem_singleton]at hi
  subst hi
  exact⟨Nat.lt_of_lt_of_le hlt hg.size,hc⟩
theorem zym {f it M k0:Nat} (hs: ∀ (mb:Option Nat) (w:World),Calls P f #[.map mb] w fun e w'=>e = .returned (.func (.func it) #[] #[.pointer (some ⟨w.heap.size,0,none⟩)])/\w'=w.alloc (.cells #[.map mb] M))
 (h:Ow (α:=Mp) W c [] [v] m):zao P f [v].toArray W.w (Res W [] fun W' u=> ∃ g:Nat,u = .func (.func it) #[] [ptr (bx g)].toArray/\Bx W' k0 g [v]):=by
 obtain⟨b,rfl,_,_,_⟩:=h.map
 exact Calls.mono (hs (some b) W.w) fun e' w' ⟨he,hw⟩=>⟨_,he,W.new k0 (.cells [Value.map (some b)].toArray M),hw.symm,Le.new _ _,W.w.heap.size,rfl,Bx.new M⟩
theorem zvX [Rp Str] [hS:Sa] {f it k0 cb g:Nat} {r:List Str} (hs: ∀ (g b nn:Nat) (D0:DataW Unit) (R:Value->Option (DataW Unit×List MemPlace)) (w:World),g<w.heap.size->w.cell? ⟨g,0,none⟩=some (.map (some b))->w.ownsMap P k R b nn D0->Maps.size D0<=maxLen->Maps.size D0*16<=140737488355328->
 Calls P f #[.func (.func it) #[] #[.pointer (some ⟨g,0,none⟩)]] w fun e w'=> ∃ (v:Value) (ss:List (List UInt8)),e = .returned v/\ss.Perm (Go.strKeys D0)/\w'.ownsRow w.heap.size k 1 v ss.length ((ss.mergeSort (fun x y=>decide (x<=y))).map encStr)/\(v = .slice none 0 0↔ss=[])/\Below w.heap.size w w')
 (hk:P.underlying k=some .string) (he:P.underlying e=some (.int .i64)) (hty:k=Rp.ty Str) (hB:Bx W cb g [v]) (h:Ow (α:=Mp) W c [] [v] m) (hm:zuO m=some r):
 zao P f [.func (.func it) #[] [ptr (bx g)].toArray].toArray W.w (Res W [] fun W' u=> ∃ u0:Value,u=u0/\Ow (α:=List Str) W' k0 [] [u0] r):=by
 unfold zuO at hm
 split at hm
 case isFalse=>cases hm
 rename_i hl
 cases hm
 obtain⟨b,rfl,_,_,hb⟩:=h.map
 have hsz:=zyk m
 refine Calls.mono (hs g b m.length (mpD m) _ W.w hB.lt (hB.cell0 rfl) (hb.at hk he) (by rw[hsz];unfold maxLen;omega) (by rw[hsz];omega)) fun e' w' ⟨u,ss,he',hp,hrow,_,hbel⟩=>?_
 rw[zAC]at hp
 have hlen:ss.length=(zci (m.map (·.1))).length:=by rw[zn4];exact hp.length_eq
 rw[Go.mergeSort_of_perm hp,hlen]at hrow
 have hle:Le [] W ⟨w',fun i=>if i<W.w.heap.size then W.c i else k0⟩:=⟨hbel.os,hbel.tape,hbel.output,hbel.size,fun i hi _=>⟨hbel.block i hi,if_pos hi⟩⟩
 refine⟨u,he',⟨w',fun i=>if i<W.w.heap.size then W.c i else k0⟩,rfl,hle,u,rfl,?_⟩
 rcases hrow.2 with ⟨rfl,hz⟩ |⟨gb,cap,cur,rfl,hbase,hgb,r1,r2,r3,r4⟩
 ·rw[List.eq_nil_of_length_eq_zero hz]
  exact Ow.zr (α:=List Str) k0 []
 ·subst hty
  rw[Nat.mul_one]at r3 r4
  exact zse (W':=⟨w',fun i=>if i<W.w.heap.size then W.c i else k0⟩) hgb (if_neg (by omega)) r1 r2 r3 r4
end
end Go.Sx
