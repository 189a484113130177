/- Rules of the walks: XLw. Conditions: each rule's own premises. -/
import GoSem.Op.String
import GoSem.Core.View
import GoSem.ClaimWide
import Derived.Laws.BitsLemmas
namespace Go.Sx
open Go
set_option linter.unusedSimpArgs false
theorem O.{u}{α:Sort u}{a:α}:a=a:=rfl
theorem aA {α β:Type}(a:α)(f:α->Option β):(some a).bind f=f a:=rfl
theorem aB {α:Type}{l:List α}{i:Nat}(h:i<l.length):l[i]? =some l[i]:=List.getElem?_eq_getElem h
theorem aC {α:Type}(a b:α):cond false a b=b:=rfl
theorem aD {α:Type}(a b:α):cond true a b=a:=rfl
theorem aE {p:Prop}[i:Decidable p](h: ¬p):decide p=false:=decide_eq_false h
theorem aF {p:Prop}[i:Decidable p](h:p):decide p=true:=decide_eq_true h
theorem aG (a b:Bool):((a&&b)=true)=(a=true/\b=true):=Bool.and_eq_true a b
theorem aH {α:Type}{l:List α}{i:Nat}{a:α}(h:l[i]? =some a):a∈l:=List.mem_of_getElem? h
theorem aI {α:Type}{l:List α}{i:Nat}(h:i<l.length):l.drop i=l[i]::l.drop (i+1):=List.drop_eq_getElem_cons h
theorem aJ {α:Type}{b:α}(l1:List α){bs:List α}(h:b∈bs):b∈l1++bs:=List.mem_append_right l1 h
theorem aK:(!true)=false:=rfl
theorem aL {α:Type}{a:α}{l1:List α}:(a::l1).length=l1.length+1:=rfl
theorem aM {α:Type}{l1 l2:List α}{n:Nat}(h:n<l1.length):(l1++l2)[n]? =l1[n]? :=List.getElem?_append_left h
theorem aN {α:Type}{l1 l2:List α}{i:Nat}(h:l1.length<=i):(l1++l2)[i]? =l2[i-l1.length]? :=List.getElem?_append_right h
theorem aO {α:Type}[BEq α][LawfulBEq α](a:α):(a==a)=true:=beq_self_eq_true a
set_option linter.unusedVariables false
abbrev Str:=List UInt8
def Byte:Type:=UInt8
abbrev w64 (n:Int):Int:=IntKind.i64.wrap n
def i64 (n:Int):Prop:= -9223372036854775808<=n/\n<=9223372036854775807
def lim:Nat:=4294967296
def gi {α:Type}(xs:List α)(i:Int):Option α:=if 0<=i then xs[i.toNat]? else none
def apM {α:Type}(xs ys:List α):Option (List α):=if xs.length+ys.length<=lim then some (xs++ys) else none
def mkM {α:Type}(n:Int)(z:α):Option (List α):=if 0<=n/\n<=lim then some (List.replicate n.toNat z) else none
def siM {α:Type}(xs:List α)(i:Int)(x:α):Option (List α):=if 0<=i/\i<xs.length then some (xs.set i.toNat x) else none
def slM {α:Type}(xs:List α)(l h:Int):Option (List α):=if 0<=l/\l<=h/\h<=xs.length then some ((xs.take h.toNat).drop l.toNat) else none
def saM (s t:Str):Option Str:=if s.length+t.length<=lim then some (s++t) else none
def chM (s:Str)(i:Int):Option UInt8:=gi s i
def jn {κ ρ:Type}(k:κ)(f:κ->ρ):ρ:=f k
theorem za1 {κ ρ:Type}{k:κ}{f:κ->ρ}{r:ρ}(h:jn k f=r): ∃ K,K=k/\f K=r:=⟨k,rfl,h⟩
def zfp (xs:List Str):List Str:=xs.mergeSort fun x y=>decide (x<=y)
def zdW:Option Str->List Str->List Str
 |_,[]=>[]
 |p,x::l=>if p=some x then zdW (some x) l else x::zdW (some x) l
def zmI (xs:List Str):List Str:=zdW none xs
def maxI (a b:Int):Int:=if a<b then b else a
def zxs (a b:Int):Int:=if b<a then b else a
def zom (a b:Int):Int:=IntKind.i64.wrap (BitVec.ofInt 64 a ^^^ BitVec.ofInt 64 b).toNat
theorem zgC {α:Type}{xs:List α}{i:Int}{x:α}(h:gi xs i=some x):0<=i/\xs[i.toNat]? =some x/\i.toNat<xs.length:=by
 unfold gi at h
 split at h
 ·exact⟨by assumption,h,(List.getElem?_eq_some_iff.1 h).1⟩
 ·cases h
theorem ob {α β:Type}{o:Option α}{f:α->Option β}{r:β}(h:o.bind f=some r): ∃ x,o=some x/\f x=some r:=Option.bind_eq_some_iff.1 h
theorem bt {α:Type}{c:Bool}{x y:α}{r:α}(h:(bif c then x else y)=r)(hc:c=true):x=r:=by rw[hc]at h;exact h
theorem bf {α:Type}{c:Bool}{x y:α}{r:α}(h:(bif c then x else y)=r)(hc:c=false):y=r:=by rw[hc]at h;exact h
def mgM (m:List (Str×Int))(k:Str):Option Int:=if k.length<=4294967296 then some (((m.find? fun p=>p.1==k).map (·.2)).getD 0) else none
def zpz (p:Str×Int):List (Str×Int)->List (Str×Int)
 | []=>[p]
 |q::r=>if bytesBefore p.1 q.1 then p::q::r else q::zpz p r
def mpM (m:List (Str×Int))(k:Str)(v:Int):Option (List (Str×Int)):=
 if m.length<=4294967296/\k.length<=4294967296 /\ -9223372036854775808<=v/\v<=9223372036854775807 then some (zpz (k,v) (m.filter fun p=> !p.1==k)) else none
def maxi:Nat:=9223372036854775807
theorem zar {n:Int}(h: -9223372036854775808<=n)(h':n<=9223372036854775807):w64 n=n:=by
 unfold w64
 rw[IntKind.wrap_i64];omega
theorem zag {i n:Nat}(h:i<n)(hn:n<=maxi):w64 ((i:Int)+1)=((i+1:Nat):Int):=by
 unfold maxi at hn
 rw[zar (by omega) (by omega)];omega
section
variable {α β:Type}{xs ys:List α}{i:Nat}{x:α}
theorem zaf (h:xs[i]? =some x):gi xs (i:Int)=some x:=by simp[gi,h]
theorem zat (h:xs[i]? =some x):decide ((i:Int)< (xs.length:Int))=true:=by
 have:=(List.getElem?_eq_some_iff.1 h).1
 simpa using this
theorem zaP (h:xs[i]? =some x):i<xs.length:=(List.getElem?_eq_some_iff.1 h).1
theorem zai (n:Nat):decide ((n:Int)< (n:Int))=false:=by simp
theorem zaA (n:Nat):((n:Int)-0).toNat+1=n+1:=by omega
theorem zfu (h:i<xs.length)(y:α):siM xs (i:Int) y=some (xs.set i y):=by
 unfold siM
 rw[if_pos ⟨by omega,by omega⟩]
 rfl
theorem zo3 {n:Nat}(h:n<=lim)(z:α):mkM (n:Int) z=some (List.replicate n z):=by
 unfold mkM
 rw[if_pos ⟨by omega,by omega⟩]
 rfl
theorem zfI (h:i<=xs.length):slM xs 0 (i:Int)=some (xs.take i):=by
 unfold slM
 rw[if_pos ⟨by omega,by omega,by omega⟩]
 simp
theorem zeZ (h:i<=xs.length):slM xs (i:Int) (xs.length:Int)=some (xs.drop i):=by
 unfold slM
 rw[if_pos ⟨by omega,by omega,by omega⟩]
 simp
theorem zgP (h:xs.length+ys.length<=lim):apM xs ys=some (xs++ys):=by unfold apM;rw[if_pos h]
end
def zfJ (g:Nat->Bool):Nat->Nat->Bool
 |_,0=>true
 |i,n+1=>g i&&zfJ g (i+1) n
theorem zau {g:Nat->Bool}: ∀ {n i:Nat},zfJ g i n=true ↔ ∀ j,i<=j->j<i+n->g j=true
 |0,i=>by simp[zfJ];omega
 |n+1,i=>by
  simp only[zfJ,Bool.and_eq_true,zau (n:=n)]
  constructor
  ·rintro⟨h1,h2⟩ j hj hn
   rcases Nat.eq_or_lt_of_le hj with e |e
   ·rw[<- e];exact h1
   ·exact h2 j e (by omega)
  ·exact fun h=>⟨h i (Nat.le_refl _) (by omega),fun j hj hn=>h j (by omega) (by omega)⟩
theorem zpA {g g':Nat->Bool}{i n:Nat}(h: ∀ j,i<=j->j<i+n->g j=g' j):zfJ g i n=zfJ g' i n:=by
 have: ∀ b c:Bool,(b=true↔c=true)->b=c:=by decide
 apply this
 rw[zau,zau]
 exact⟨fun h1 j hj hn=>by rw[<- h j hj hn];exact h1 j hj hn,fun h1 j hj hn=>by rw[h j hj hn];exact h1 j hj hn⟩
theorem znq {α:Type}{p:α->Bool}{g:Nat->Bool}: ∀ (xs:List α) (i:Nat),(∀ j x,xs[j]? =some x->g (i+j)=p x)->zfJ g i xs.length=xs.all p
 | [],_,_=>rfl
 |x::xs,i,h=>by
  simp only[List.length_cons,zfJ,List.all_cons]
  rw[show g i=p x from h 0 x rfl,znq xs (i+1) (fun j y hy=>by
   have:=h (j+1) y hy
   rwa [show i+(j+1)=i+1+j by omega]at this)]
theorem zbg {R:Type} {n:Nat} {g:Nat->Bool} {r0 Z:Option R} {f:Nat->Int->Option R}
 (hs: ∀ m (i:Nat),i<n->f (m+1) (i:Int)=bif g i then f m ((i+1:Nat):Int) else r0) (he: ∀ m,f (m+1) (n:Int)=Z):
 ∀ m,n<m->f m 0=bif zfJ g 0 n then Z else r0:=by
 have key: ∀ k i m,i+k=n->k<m->f m (i:Int)=bif zfJ g i k then Z else r0:=by
  intro k
  induction k with
  |zero=>
   intro i m hi hm
   obtain⟨m,rfl⟩: ∃ q,m=q+1:=⟨m-1,by omega⟩
   rw[show i=n by omega,he]
   rfl
  |succ k ih=>
   intro i m hi hm
   obtain⟨m,rfl⟩: ∃ q,m=q+1:=⟨m-1,by omega⟩
   rw[hs m i (by omega),ih (i+1) m (by omega) (by omega)]
   simp only[zfJ]
   cases g i<;>rfl
 intro m hm
 exact key n 0 m (by omega) hm
theorem za5 {R α:Type} {xs:List α} {p:α->Bool} {r0 Z:Option R} {f:Nat->Int->Option R}
 (hs: ∀ m (i:Nat) x,xs[i]? =some x->f (m+1) (i:Int)=bif p x then f m ((i+1:Nat):Int) else r0) (he: ∀ m,f (m+1) (xs.length:Int)=Z) {m:Nat} (hm:xs.length<m):
 f m 0=bif xs.all p then Z else r0:=by
 have:=zbg (n:=xs.length) (g:=fun i=>match xs[i]? with |some x=>p x |none=>true) (f:=f) (r0:=r0) (fun m i hi=>by
  rw[hs m i xs[i] (List.getElem?_eq_getElem hi)]
  simp only[List.getElem?_eq_getElem hi]) he m hm
 rw[this,znq (p:=p) xs 0 (fun j x hx=>by simp[hx])]
def zbs {α:Type}(b:α->Nat):List α->Nat
 | []=>0
 |x::xs=>b x+zbs b xs
theorem zo4 {α:Type}{b:α->Nat}: ∀ {xs:List α} {x:α},x∈xs->b x<=zbs b xs
 |y::ys,x,h=>by
  rcases List.mem_cons.1 h with e |e
  ·rw[e];simp[zbs]
  ·have:=zo4 (b:=b) e
   simp only[zbs];omega
theorem zj1 {R α:Type} [BEq α] [LawfulBEq α] {xs ys:List α} {r0 Z:Option R} {f:Nat->Int->Option R} (hl:xs.length=ys.length)
 (hs: ∀ m (i:Nat) x y,xs[i]? =some x->ys[i]? =some y->f (m+1) (i:Int)=bif x==y then f m ((i+1:Nat):Int) else r0) (he: ∀ m,f (m+1) (xs.length:Int)=Z) {m:Nat} (hm:xs.length<m):
 f m 0=bif xs==ys then Z else r0:=by
 rw[zbg (n:=xs.length) (g:=fun i=>match xs[i]?,ys[i]? with |some x,some y=>x==y |_,_=>true) (f:=f) (r0:=r0) (fun m i hi=>by
  rw[hs m i xs[i] (ys[i]'(hl▸hi)) (List.getElem?_eq_getElem hi) (List.getElem?_eq_getElem (hl▸hi))]
  simp only[List.getElem?_eq_getElem hi,List.getElem?_eq_getElem (show i<ys.length from hl▸hi)]) he m hm]
 congr 1
 have hb: ∀ b c:Bool,(b=true↔c=true)->b=c:=by decide
 apply hb
 rw[zau,beq_iff_eq]
 constructor
 ·intro h
  apply List.ext_getElem?
  intro i
  by_cases hi:i<xs.length
  ·have:=h i (Nat.zero_le _) (by omega)
   simp only[List.getElem?_eq_getElem hi,List.getElem?_eq_getElem (show i<ys.length from hl▸hi),beq_iff_eq]at this ⊢
   rw[this]
  ·rw[List.getElem?_eq_none (by omega),List.getElem?_eq_none (by omega)]
 ·rintro rfl i _ hi
  simp only[List.getElem?_eq_getElem (show i<xs.length by omega),beq_self_eq_true]
class Bk (α:Type) where
 fit:α->Prop
 bulk:α->Nat
instance :Bk Int:=⟨fun n=> -9223372036854775808<=n/\n<=9223372036854775807,fun _=>0⟩
instance :Bk Bool:=⟨fun _=>True,fun _=>0⟩
instance :Bk Byte:=⟨fun _=>True,fun _=>0⟩
instance :Bk Str:=⟨fun s=>s.length<=maxi,fun s=>s.length⟩
instance {α:Type}[Bk α]:Bk (List α):=⟨fun xs=>xs.length<=maxi /\ ∀ x∈xs,Bk.fit x,fun xs=>xs.length+zbs Bk.bulk xs⟩
section
variable {α:Type}[Bk α]{xs:List α}{x:α}{n i:Nat}
theorem zj2 (h:Bk.fit xs):xs.length<=maxi:=h.1
theorem zlP (h:Bk.fit xs)(hx:xs[i]? =some x):Bk.fit x:=h.2 x (List.mem_of_getElem? hx)
theorem zdF (h:Bk.bulk xs<=n):xs.length<=n:=Nat.le_trans (Nat.le_add_right _ _) h
theorem zgQ (h:Bk.bulk xs<=n)(hx:x∈xs):Bk.bulk x<=n:=Nat.le_trans (zo4 hx) (Nat.le_trans (Nat.le_add_left _ _) h)
theorem zaG (h:n<=1048576):n<=maxi:=by unfold maxi;omega
end
theorem zj3 (a b:Nat):((a:Int) !=(b:Int)) = !(a==b):=by
 simp only[bne]
 congr 1
 have: ∀ b c:Bool,(b=true↔c=true)->b=c:=by decide
 apply this
 rw[beq_iff_eq,beq_iff_eq];omega
theorem zev {R α β:Type} {xs:List α} {p:α->Bool} {g:α->β} {f:Nat->List β->Int->Option R} {Z:List β->Option R}
 (hs: ∀ m (i:Nat) x acc,xs[i]? =some x->acc.length<=i->f (m+1) acc (i:Int)=f m (bif p x then acc++[g x] else acc) ((i+1:Nat):Int))
 (he: ∀ m acc,f (m+1) acc (xs.length:Int)=Z acc) {m:Nat} (hm:xs.length<m):f m [] 0=Z ((xs.filter p).map g):=by
 have key: ∀ k i m acc,i+k=xs.length->k<m->acc.length<=i->f m acc (i:Int)=Z (acc++((xs.drop i).filter p).map g):=by
  intro k
  induction k with
  |zero=>
   intro i m acc hi hm ha
   obtain⟨m,rfl⟩: ∃ q,m=q+1:=⟨m-1,by omega⟩
   rw[show i=xs.length by omega,he,List.drop_length]
   simp
  |succ k ih=>
   intro i m acc hi hm ha
   obtain⟨m,rfl⟩: ∃ q,m=q+1:=⟨m-1,by omega⟩
   have hlt:i<xs.length:=by omega
   rw[hs m i xs[i] acc (List.getElem?_eq_getElem hlt) ha,List.drop_eq_getElem_cons hlt,List.filter_cons]
   cases hp:p xs[i]with
   |true=>
    rw[cond_true,ih (i+1) m _ (by omega) (by omega) (by simp;omega)]
    simp
   |false=>
    rw[cond_false,ih (i+1) m _ (by omega) (by omega) (by omega)]
    simp
 have:=key xs.length 0 m [] (by omega) hm (by simp)
 simpa using this
def zgW {α:Type}(g:Int->α->Int×α):Int->List α->Int×List α
 |k,[]=>(k,[])
 |k,x::xs=>((zgW g (g k x).1 xs).1,(g k x).2::(zgW g (g k x).1 xs).2)
theorem zfF {α:Type}{b:α->Nat}{p:α->Bool}: ∀ xs:List α,zbs b (xs.filter p)<=zbs b xs
 | []=>Nat.le_refl _
 |x::xs=>by
  have:=zfF (b:=b) (p:=p) xs
  rw[List.filter_cons]
  cases p x<;>simp[zbs]<;>omega
theorem zmJ {α:Type}{b:α->Nat}: ∀ (ys zs:List α),zbs b (ys++zs)=zbs b ys+zbs b zs
 | [],zs=>by simp[zbs]
 |y::ys,zs=>by simp only[List.cons_append,zbs,zmJ ys];omega
theorem apN {α:Type}{xs:List α}(h:xs.length<=1048576):apM ([]:List α) xs=some xs:=by
 rw[zgP (by simp[lim];omega),List.nil_append]
theorem ap1 {α:Type}{xs:List α}{x:α}(h:xs.length<=1048576):apM xs [x]=some (xs++[x]):=zgP (by simp[lim];omega)
theorem zrz {α:Type}[Bk α](xs:List α):Bk.bulk xs=xs.length+zbs Bk.bulk xs:=rfl
theorem zgR {s:Str}{i:Nat}{c:UInt8}(h:s[i]? =some c):chM s (i:Int)=some c:=zaf h
theorem setAt {α:Type}{xs:List α}{i:Nat}{y:α}(h:i<xs.length):(xs.set i y)[i]? =some y:=by simp[h]
theorem zfK {α:Type}{xs:List α}{i:Int}(h0:0<=i)(h1:i<xs.length): ∃ x,gi xs i=some x:=by
 unfold gi
 rw[if_pos h0]
 exact⟨xs[i.toNat]'(by omega),List.getElem?_eq_getElem (by omega)⟩
theorem zh4 {α:Type}{xs:List α}{l h:Int}(h0:0<=l)(h1:l<=h)(h2:h<=xs.length):slM xs l h=some ((xs.take h.toNat).drop l.toNat):=by
 unfold slM
 rw[if_pos ⟨h0,h1,h2⟩]
end Go.Sx
namespace Go.Vm
open Go.Sx
set_option linter.unusedSimpArgs false
set_option linter.unusedVariables false
structure File where
 Path:Str
 Text:List Str
 deriving DecidableEq
structure Commit where
 Parents:List Int
 Who:Str
 Tree:List File
 deriving DecidableEq
structure Head where
 Name:Str
 At:Int
 deriving DecidableEq
structure Repo where
 Commits:List Commit
 Heads:List Head
 deriving DecidableEq
structure Hunk where
 At:Int
 Less:List Str
 More:List Str
 deriving DecidableEq
structure Part where
 Clash:Bool
 Lines:List Str
 Old:List Str
 One:List Str
 Two:List Str
 deriving DecidableEq
structure Change where
 Kind:Int
 Path:Str
 To:Str
 Text:List Str
 Patch:List Hunk
 deriving DecidableEq
structure Clash where
 Path:Str
 Kind:Int
 deriving DecidableEq
structure has where
 text:List Str
 file:Bool
 deriving DecidableEq
structure Delta where
 From:Int
 Many:Int
 Lines:List Str
 deriving DecidableEq
structure Packed where
 Base:Int
 Delta:List Delta
 deriving DecidableEq
structure Share where
 Who:Str
 Many:Int
 deriving DecidableEq
structure Owner where
 Path:Str
 Who:Str
 deriving DecidableEq
structure Review where
 Branch:Str
 Into:Str
 By:Str
 Yes:List Str
 deriving DecidableEq
structure Lost where
 Path:Str
 Line:Int
 To:Str
 deriving DecidableEq
structure Memo where
 Old:List Str
 One:List Str
 Two:List Str
 Done:List Str
 deriving DecidableEq
structure Op where
 Kind:Int
 Branch:Str
 Who:Str
 Path:Str
 To:Str
 At:Int
 Text:List Str
 deriving DecidableEq
structure l30Rd where
 b:List Byte
 p:Int
open Go Go.Sx
instance :Bk File:=⟨fun x=>Bk.fit x.Path/\Bk.fit x.Text,fun x=>Bk.bulk x.Path+Bk.bulk x.Text⟩
instance :Bk Commit:=⟨fun x=>Bk.fit x.Parents/\Bk.fit x.Who/\Bk.fit x.Tree,fun x=>Bk.bulk x.Parents+(Bk.bulk x.Who+Bk.bulk x.Tree)⟩
instance :Bk Head:=⟨fun x=>Bk.fit x.Name/\Bk.fit x.At,fun x=>Bk.bulk x.Name+Bk.bulk x.At⟩
instance :Bk Repo:=⟨fun x=>Bk.fit x.Commits/\Bk.fit x.Heads,fun x=>Bk.bulk x.Commits+Bk.bulk x.Heads⟩
instance :Bk Hunk:=⟨fun x=>Bk.fit x.At/\Bk.fit x.Less/\Bk.fit x.More,fun x=>Bk.bulk x.At+(Bk.bulk x.Less+Bk.bulk x.More)⟩
instance :Bk Part:=⟨fun x=>Bk.fit x.Clash/\Bk.fit x.Lines/\Bk.fit x.Old/\Bk.fit x.One/\Bk.fit x.Two,fun x=>Bk.bulk x.Clash+(Bk.bulk x.Lines+(Bk.bulk x.Old+(Bk.bulk x.One+Bk.bulk x.Two)))⟩
instance :Bk Change:=⟨fun x=>Bk.fit x.Kind/\Bk.fit x.Path/\Bk.fit x.To/\Bk.fit x.Text/\Bk.fit x.Patch,fun x=>Bk.bulk x.Kind+(Bk.bulk x.Path+(Bk.bulk x.To+(Bk.bulk x.Text+Bk.bulk x.Patch)))⟩
instance :Bk Clash:=⟨fun x=>Bk.fit x.Path/\Bk.fit x.Kind,fun x=>Bk.bulk x.Path+Bk.bulk x.Kind⟩
instance :Bk has:=⟨fun x=>Bk.fit x.text/\Bk.fit x.file,fun x=>Bk.bulk x.text+Bk.bulk x.file⟩
instance :Bk Delta:=⟨fun x=>Bk.fit x.From/\Bk.fit x.Many/\Bk.fit x.Lines,fun x=>Bk.bulk x.From+(Bk.bulk x.Many+Bk.bulk x.Lines)⟩
instance :Bk Packed:=⟨fun x=>Bk.fit x.Base/\Bk.fit x.Delta,fun x=>Bk.bulk x.Base+Bk.bulk x.Delta⟩
instance :Bk Share:=⟨fun x=>Bk.fit x.Who/\Bk.fit x.Many,fun x=>Bk.bulk x.Who+Bk.bulk x.Many⟩
instance :Bk Owner:=⟨fun x=>Bk.fit x.Path/\Bk.fit x.Who,fun x=>Bk.bulk x.Path+Bk.bulk x.Who⟩
instance :Bk Review:=⟨fun x=>Bk.fit x.Branch/\Bk.fit x.Into/\Bk.fit x.By/\Bk.fit x.Yes,fun x=>Bk.bulk x.Branch+(Bk.bulk x.Into+(Bk.bulk x.By+Bk.bulk x.Yes))⟩
instance :Bk Lost:=⟨fun x=>Bk.fit x.Path/\Bk.fit x.Line/\Bk.fit x.To,fun x=>Bk.bulk x.Path+(Bk.bulk x.Line+Bk.bulk x.To)⟩
instance :Bk Memo:=⟨fun x=>Bk.fit x.Old/\Bk.fit x.One/\Bk.fit x.Two/\Bk.fit x.Done,fun x=>Bk.bulk x.Old+(Bk.bulk x.One+(Bk.bulk x.Two+Bk.bulk x.Done))⟩
instance :Bk Op:=⟨fun x=>Bk.fit x.Kind/\Bk.fit x.Branch/\Bk.fit x.Who/\Bk.fit x.Path/\Bk.fit x.To/\Bk.fit x.At/\Bk.fit x.Text,fun x=>Bk.bulk x.Kind+(Bk.bulk x.Branch+(Bk.bulk x.Who+(Bk.bulk x.Path+(Bk.bulk x.To+(Bk.bulk x.At+Bk.bulk x.Text)))))⟩
end Go.Vm
namespace Go.Sx
open Go
set_option linter.unusedSimpArgs false
set_option linter.unusedVariables false
structure MkD (α:Type) where
 wr:Int->α->Int×α
 cn:α->Nat
 fst: ∀ k x,(wr k x).1=k+cn x
 idem: ∀ k x,(wr k (wr k x).2).2=(wr k x).2
 cnt: ∀ k x,cn (wr k x).2=cn x
namespace MkD
variable {α β:Type}
def keep:MkD α:=⟨fun k x=>(k,x),fun _=>0,fun k x=>by simp,fun _ _=>rfl,fun _ _=>rfl⟩
def one (f:Int->α):MkD α:=⟨fun k _=>(k+1,f k),fun _=>1,fun _ _=>rfl,fun _ _=>rfl,fun _ _=>rfl⟩
def pair (a:MkD α)(b:MkD β):MkD (α×β):=
 ⟨fun k x=>((b.wr (a.wr k x.1).1 x.2).1,((a.wr k x.1).2,(b.wr (a.wr k x.1).1 x.2).2)),fun x=>a.cn x.1+b.cn x.2,fun k x=>by simp only[a.fst,b.fst];omega,
  fun k x=>by
   have:(a.wr k (a.wr k x.1).2).1=(a.wr k x.1).1:=by rw[a.fst,a.fst,a.cnt]
   simp only[a.idem,this,b.idem],fun k x=>by simp only[a.cnt,b.cnt]⟩
theorem turn_fst (d:MkD α): ∀ (xs:List α) (k:Int),(zgW d.wr k xs).1=k+zbs d.cn xs
 | [],k=>by simp[zgW,zbs]
 |x::xs,k=>by simp only[zgW,turn_fst d xs,zbs,d.fst];omega
theorem turn_cnt (d:MkD α): ∀ (xs:List α) (k:Int),zbs d.cn (zgW d.wr k xs).2=zbs d.cn xs
 | [],k=>rfl
 |x::xs,k=>by simp only[zgW,zbs,d.cnt,turn_cnt d xs]
theorem turn_idem (d:MkD α): ∀ (xs:List α) (k:Int),(zgW d.wr k (zgW d.wr k xs).2).2=(zgW d.wr k xs).2
 | [],k=>rfl
 |x::xs,k=>by
  have:(d.wr k (d.wr k x).2).1=(d.wr k x).1:=by rw[d.fst,d.fst,d.cnt]
  simp only[zgW,d.idem,this,turn_idem d xs]
def list (d:MkD α):MkD (List α):=⟨zgW d.wr,zbs d.cn,fun k xs=>turn_fst d xs k,fun k xs=>turn_idem d xs k,fun k xs=>turn_cnt d xs k⟩
theorem again (d:MkD α)(k:Int)(x:α):(d.wr k (d.wr k x).2).1=(d.wr k x).1:=by rw[d.fst,d.fst,d.cnt]
instance [Bk α][Bk β]:Bk (α×β):=⟨fun p=>Bk.fit p.1/\Bk.fit p.2,fun p=>Bk.bulk p.1+Bk.bulk p.2⟩
def Fits [Bk α](d:MkD α):Prop:= ∀ (k:Int) (x:α),0<=k->k+d.cn x<=536870912->Bk.fit x->Bk.fit (d.wr k x).2
end MkD
end Go.Sx
