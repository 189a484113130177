/- What a statement says of an argument, turned into the reading that the walks take. Conditions: none; each rule's own premises. -/
import Derived.Test.YtjokjcdckcpijaaGreatDoorXALb
import Derived.Test.YtjokjcdckcpijaaGreatDoorXALw
import Derived.Deep.Slices
namespace Go.Sx
open Go Go.RowKit Rp
set_option linter.unusedSimpArgs false
set_option linter.unusedVariables false
class Opn (P:Program) (t:TypeId) (α:Type) [Rp α] [Bk α]:Prop where
 opn: ∀ {H:Type} {enc:TypeId×Value->H} {w:World} {base:Nat} {spare:Nat->Bool} {held:Bool} {fuel:Nat} {cs:List Value} {x:DataW H×List MemPlace},
  DataW.trod enc P w base spare held fuel t cs=some x -> ∃ v:α,rd w (fun b=>b<w.heap.size) cs v/\Bk.fit v
theorem zrA {w:World}{base n:Nat}{a:Addr}{cs:List Value}(h:w.cells? base a n=some cs):zdb w a cs:=fun j u hu=>by
 obtain⟨_,hl,h⟩:=World.cells?_some h
 rw[h j (by rw[<- hl];exact(List.getElem?_eq_some_iff.1 hu).1)]
 exact hu
theorem zsT {w:World}{a:Addr}{v:Value}(h:w.cell? a=some v):a.block<w.heap.size:=by
 apply Nat.lt_of_not_le
 intro hn
 simp[World.cell?,Array.getElem?_eq_none hn]at h
theorem zep {P:Program}{t e s:Nat}{α:Type}[Rp α][Bk α][hU:Und P t (.slice e)][hO:Opn P e α](hc:P.cellsOf e=s)(hs:s=sz α)(h0:Nat.blt 0 s=true):Opn P t (List α):= {
 opn:=fun {H enc w base spare held fuel cs x} h=>by
  rcases Deep.open_slice hU.h h with ⟨rfl,_⟩ |⟨a,len,cap,m,n,D,Pl,rfl,hb,hl,hm,hmm,_,hx⟩
  ·exact⟨[],⟨none,0,rfl,by simp,Nat.zero_le _,by simp,by simp⟩,by simp[maxi],by simp⟩
  ·have hle:len<=m:=by rw[hmm];split<;>omega
   have h0':0<sz α:=by rw[<- hs];simpa[Nat.blt_eq]using h0
   obtain⟨xs,hlen,hxs⟩:=ziW (γ:=α) (R:=fun i v=>a.block<w.heap.size/\(∃ ecs,zdb w (a.add (i*sz α)) ecs/\rd w (fun b=>b<w.heap.size) ecs v)/\Bk.fit v) len (fun i hi=>by
    obtain⟨cs',h1,h2⟩:=hx i (by omega)
    obtain⟨v,hv,hf⟩:=hO.opn h2
    rw[hc,hs]at h1
    refine⟨v,?_,⟨cs',zrA h1,hv⟩,hf⟩
    obtain⟨_,h3,h4⟩:=World.cells?_some h1
    have h5:=h4 0 h0'
    rw[List.getElem?_eq_getElem (by omega)]at h5
    have:=zsT h5
    simpa[zfo]using this)
   subst hlen
   refine⟨xs,⟨some a,cap,rfl,hl,hm,fun hp=>⟨a,rfl,(hxs 0 xs[0] (List.getElem?_eq_getElem hp)).1⟩,fun i x hi=>(hxs i x hi).2.1⟩,?_,fun x hx=>?_⟩
   ·have:maxLen<=maxi:=by unfold maxi maxLen;omega
    omega
   ·obtain⟨i,hi⟩:=List.getElem?_of_mem hx
    exact(hxs i x hi).2.2}
theorem zcn {P:Program} {t:TypeId} {fs:Array Field} {H:Type} {enc:TypeId×Value->H} {w:World} {base:Nat} {spare:Nat->Bool} {held:Bool} {fuel:Nat} {cs:List Value} {x:DataW H×List MemPlace} {i:Nat} {f:Field} {c:Value} (ht:P.underlying t=some (.struct fs))
 (h:DataW.trod enc P w base spare held fuel t cs=some x) (hf:fs[i]? =some f) (h1:P.cellsOf f.type=1) (ho:f.offset=i) (hc:cs[i]? =some c): ∃ m y,DataW.trod enc P w base spare held m f.type [c]=some y:=by
 obtain⟨xs,n,_,_,_,hx,hh⟩:=DataW.trod_struct ht h
 have h2:=hh i f hf
 rw[h1,ho]at h2
 have hi:i<xs.length:=by rw[hx];exact(Array.getElem?_eq_some_iff.1 hf).1
 have hci:=(List.getElem?_eq_some_iff.1 hc)
 obtain⟨hci,rfl⟩:=hci
 rw[List.getElem?_eq_getElem hi,List.drop_eq_getElem_cons hci]at h2
 exact⟨n,xs[i],h2⟩
theorem zhs {P:Program} {t n:Nat} {fs:Array Field} {H:Type} {enc:TypeId×Value->H} {w:World} {base:Nat} {spare:Nat->Bool} {held:Bool} {fuel:Nat} {cs:List Value} {x:DataW H×List MemPlace} (ht:P.underlying t=some (.struct fs))
 (h:DataW.trod enc P w base spare held fuel t cs=some x) (hn:P.cellsOf t=n):cs.length=n:=by
 obtain⟨xs,m,_,_,hl,_⟩:=DataW.trod_struct ht h
 rw[hl,hn]
theorem Opn.rd {P:Program}{t:Nat}{α:Type}[Rp α][Bk α][hO:Opn P t α]{H:Type}{enc:TypeId×Value->H}{W:World}{v:Value}{d:DataW H}{ps:List MemPlace}(h:DataW.Trod enc P W 0 (fun _=>true) true t v d ps):
 ∃ x:α,Rd ⟨W,fun _=>0⟩ [0] v.cells.toList x/\Bk.fit x:=by
 obtain⟨fuel,h⟩:=h
 obtain⟨x,hx,hf⟩:=hO.opn h
 exact⟨x,rd_mono (fun b hb=>⟨hb,by simp⟩) hx,hf⟩
theorem Le.below {W W':CW}(l:Le [] W W'):Below W.w.heap.size W.w W'.w:=⟨l.os,l.tape,l.output,l.size,fun k hk=>(l.keep k hk (by simp)).1⟩
theorem zap.fin {P:Program}{f:FuncId}{vals:Array Value}{W:CW}{r:Value}(h:zap P f vals W.w (Res W [] fun _ v=>v=r)):Calls P f vals W.w fun e w'=>e = .returned r/\Below W.w.heap.size W.w w':=
 Calls.mono h fun e w' ⟨v,he,W',hw,l,hv⟩=>by
  subst hv hw
  exact⟨he,l.below⟩
theorem zsU {s:ByteArray}(h:s.size<=maxLen):Bk.fit (α:=Str) s.data.toList:=by
 have:maxLen<=maxi:=by unfold maxi maxLen;omega
 have h2:s.data.toList.length=s.size:=rfl
 show s.data.toList.length<=maxi
 omega
theorem zsV {n:Int}(h:(Lit.int .u8 n).wf=true): ∃ b:Byte,n=(UInt8.toNat b:Int):=by
 have h1:IntKind.u8.min<=n/\n<=IntKind.u8.max:=by simpa[Lit.wf]using h
 have h2:IntKind.u8.min=0:=by decide
 have h3:IntKind.u8.max=255:=by decide
 rw[h2,h3]at h1
 refine⟨UInt8.ofNat n.toNat,?_⟩
 rw[UInt8.toNat_ofNat']
 omega
theorem zqt {n:Int}(h:(Lit.int .i64 n).wf=true):Bk.fit n:=by
 have h1:IntKind.i64.min<=n/\n<=IntKind.i64.max:=by simpa[Lit.wf]using h
 have h2:IntKind.i64.min = -9223372036854775808:=by decide
 have h3:IntKind.i64.max=9223372036854775807:=by decide
 rw[h2,h3]at h1
 exact h1
end Go.Sx
