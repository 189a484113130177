/- Plain law FnLogNext, and what it uses: what the models answer. Conditions: each law's own premises. -/
import Derived.Test.YtiahldhbknpmiaaGreatDoorBGFnLogNexta
import Derived.Test.YtiahldhbknpmiaaGreatDoorBLw
namespace Go.Vm
open Go Go.Sx
set_option linter.unusedSimpArgs false
set_option linter.unusedVariables false
theorem zhZ.lt {l:List Int}(h:zhZ l){i k:Nat}(hik:i<k)(hk:k<l.length):l.getD i 0<l.getD k 0:=by
 have h1:i<l.length:=by omega
 have:=List.pairwise_iff_getElem.1 h i k h1 hk hik
 rw[zbP (aB h1),zbP (aB hk)]
 exact this
theorem zhZ.inj {l:List Int}(h:zhZ l){i k:Nat}(hi:i<l.length)(hk:k<l.length)(e:l.getD i 0=l.getD k 0):i=k:=by
 rcases Nat.lt_trichotomy i k with h1 |h1 |h1
 ·have:=h.lt h1 hk;omega
 ·exact h1
 ·have:=h.lt h1 hi;omega
set_option linter.unusedSectionVars false
section
variable {r:Repo}(h:RpB r)(hr:zaa r=true)
include h hr
end
def znK (r:Repo)(n:Str)(x:Repo):Prop:=x=r\/x=zbv\/zaa x=true
theorem znK.bulk {r x:Repo}{n:Str}(h:znK r n x):Bk.bulk x<=Bk.bulk r+20000:=by
 rcases h with h |h |h
 ·rw[h];omega
 ·rw[h];show 0+0+(0+0)<=_;omega
 ·have:=zle h;omega
theorem znK.fit {r x:Repo}{n:Str}(hf:Bk.fit r)(h:znK r n x):Bk.fit x:=by
 rcases h with h |h |h
 ·rw[h];exact hf
 ·rw[h];exact⟨⟨by simp[zbv,maxi],by simp[zbv]⟩,by simp[zbv,maxi],by simp[zbv]⟩
 ·exact zlg h
def ChH:Int->List Hunk->Prop
 |_,[]=>True
 |lo,d::l=>lo<=d.At/\ChH (d.At+d.Less.length+1) l
theorem ChH.mono: ∀ {l:List Hunk} {lo lo':Int},lo'<=lo->ChH lo l->ChH lo' l
 | [],_,_,_,_=>trivial
 |d::l,_,_,h,⟨h1,h2⟩=>⟨Int.le_trans h h1,h2⟩
def zkO:List Str->List Str->Nat
 |a::l,b::m=>bif a==b then zkO l m+1 else 0
 |_,_=>0
def zp1 (t:List Str):List Str->Nat->Nat×Nat->Nat×Nat
 | [],_,r=>r
 |b::bs,i,r=>zp1 t bs (i+1) (bif decide (r.2<zkO (b::bs) t) then(i,zkO (b::bs) t) else r)
def zm9 (base t:List Str):Nat×Nat:=zp1 t base 0 (0,0)
def znJ (out:List Delta)(x:Str):List Delta:=match out.getLast? with
 |some d=>bif decide (0<d.Lines.length) then out.dropLast++[⟨d.From,d.Many,d.Lines++[x]⟩] else out++[⟨0,0,[x]⟩]
 |none=>out++[⟨0,0,[x]⟩]
def zit (base:List Str):Nat->List Delta->List Str->List Delta
 |0,out,_=>out
 |_+1,out,[]=>out
 |n+1,out,x::t=>bif decide (0< (zm9 base (x::t)).2) then zit base n (out++[⟨(zm9 base (x::t)).1,(zm9 base (x::t)).2,[]⟩]) ((x::t).drop (zm9 base (x::t)).2) else zit base n (znJ out x) t
def zko (base t:List Str):List Delta:=zit base t.length [] t
def OD (n:Nat)(l:List Owner):Prop:=l.length<=n /\ ∀ o∈l,o.Path.length<=10/\o.Who.length<=10
theorem OD.fit {n:Nat}{l:List Owner}(h:OD n l)(hn:n<=1000):Bk.fit l:=⟨by have:=h.1;unfold maxi;omega,fun o ho=>by
 have:=h.2 o ho
 exact⟨by show o.Path.length<=maxi;unfold maxi;omega,by show o.Who.length<=maxi;unfold maxi;omega⟩⟩
section
variable {base t:List Str}(hb:zao base=true)(ht:zao t=true)
include hb ht
end
def zoU (list:List (List Str))(ds:List Int)(i:Nat)(t:List Str)(b dep:Int)(d:List Delta):Prop:=(b = -1/\d=zko [] t/\dep=1) \/ ∃ k o dk,k<i/\b=(k:Int)/\list[k]? =some o/\ds[k]? =some dk/\d=zko o t/\dep=dk+1/\dk<=2
theorem zoU.snoc {list:List (List Str)}{ds:List Int}{i:Nat}{t:List Str}{b dep z:Int}{d:List Delta}(h:zoU list ds i t b dep d):zoU list (ds++[z]) i t b dep d:=by
 rcases h with h |⟨k,o,dk,h1,h2,h3,h4,h5⟩
 ·exact .inl h
 ·exact .inr ⟨k,o,dk,h1,h2,h3,by rw[aM (List.getElem?_eq_some_iff.1 h4).1];exact h4,h5⟩
section
variable {list:List (List Str)}(h12:list.length<=12)(hl: ∀ t∈list,zao t=true)
include h12 hl
end
end Go.Vm
