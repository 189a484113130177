/- Plain law FnLogLeft, and what it uses: what the models answer. Conditions: each law's own premises. -/
import Derived.Test.YtiahldhbknpmiaaGreatDoorBGFnLogLefta
namespace Go.Vm
open Go Go.Sx
set_option linter.unusedSimpArgs false
set_option linter.unusedVariables false
set_option linter.unusedSectionVars false
def zkO:List Str->List Str->Nat
 |a::l,b::m=>bif a==b then zkO l m+1 else 0
 |_,_=>0
def zp1 (t:List Str):List Str->Nat->Nat×Nat->Nat×Nat
 | [],_,r=>r
 |b::bs,i,r=>zp1 t bs (i+1) (bif decide (r.2<zkO (b::bs) t) then(i,zkO (b::bs) t) else r)
def zm9 (base t:List Str):Nat×Nat:=zp1 t base 0 (0,0)
def znJ (out:List Delta)(x:Str):List Delta:=match out.getLast? with
 |some d=>bif decide (0<d.Lines.length) then out.dropLast++[⟨d.From,d.Many,d.Lines++[x]⟩] else out++[⟨0,0,[x]⟩]
 |none=>out++[⟨0,0,[x]⟩]
def zit (base:List Str):Nat->List Delta->List Str->List Delta
 |0,out,_=>out
 |_+1,out,[]=>out
 |n+1,out,x::t=>bif decide (0< (zm9 base (x::t)).2) then zit base n (out++[⟨(zm9 base (x::t)).1,(zm9 base (x::t)).2,[]⟩]) ((x::t).drop (zm9 base (x::t)).2) else zit base n (znJ out x) t
def zko (base t:List Str):List Delta:=zit base t.length [] t
def OD (n:Nat)(l:List Owner):Prop:=l.length<=n /\ ∀ o∈l,o.Path.length<=10/\o.Who.length<=10
theorem OD.fit {n:Nat}{l:List Owner}(h:OD n l)(hn:n<=1000):Bk.fit l:=⟨by have:=h.1;unfold maxi;omega,fun o ho=>by
 have:=h.2 o ho
 exact⟨by show o.Path.length<=maxi;unfold maxi;omega,by show o.Who.length<=maxi;unfold maxi;omega⟩⟩
section
variable {base t:List Str}(hb:zao base=true)(ht:zao t=true)
include hb ht
end
def zoU (list:List (List Str))(ds:List Int)(i:Nat)(t:List Str)(b dep:Int)(d:List Delta):Prop:=(b = -1/\d=zko [] t/\dep=1) \/ ∃ k o dk,k<i/\b=(k:Int)/\list[k]? =some o/\ds[k]? =some dk/\d=zko o t/\dep=dk+1/\dk<=2
theorem zoU.snoc {list:List (List Str)}{ds:List Int}{i:Nat}{t:List Str}{b dep z:Int}{d:List Delta}(h:zoU list ds i t b dep d):zoU list (ds++[z]) i t b dep d:=by
 rcases h with h |⟨k,o,dk,h1,h2,h3,h4,h5⟩
 ·exact .inl h
 ·exact .inr ⟨k,o,dk,h1,h2,h3,by rw[aM (List.getElem?_eq_some_iff.1 h4).1];exact h4,h5⟩
section
variable {list:List (List Str)}(h12:list.length<=12)(hl: ∀ t∈list,zao t=true)
include h12 hl
end
end Go.Vm
