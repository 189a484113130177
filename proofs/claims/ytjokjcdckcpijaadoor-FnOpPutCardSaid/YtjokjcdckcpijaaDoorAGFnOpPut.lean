/- Plain law FnOpPut, and what it uses: what the models answer. Conditions: each law's own premises. -/
import Derived.Test.YtjokjcdckcpijaaDoorAM0
import Derived.Test.YtjokjcdckcpijaaDoorAM1
import Derived.Test.YtjokjcdckcpijaaDoorALw
import Derived.Sort.Walk0
import Derived.Lib.SplitLaws
import Derived.Test.YtjokjcdckcpijaaDoorAX
import Derived.Lib.Join
import Derived.Lib.ItoaNum
import Derived.Lib.AtoiAllCases
namespace Go.Vm
open Go Go.Sx
set_option linter.unusedSimpArgs false
set_option linter.unusedVariables false
def chB (c:UInt8):Bool:= !(decide ((c.toNat:Int)<32)||decide (126< (c.toNat:Int)))
def zbg (s:Str):Bool:= !decide (12< (s.length:Int))&&s.all chB
def zac (xs:List Str):Bool:= !decide (10< (xs.length:Int))&&xs.all zbg
theorem zev (a b:Int):decide (a<=b) = !decide (b<a):=by
 by_cases h:a<=b
 ·rw[aF h,aE (by omega)];rfl
 ·rw[aE h,aF (by omega)];rfl
theorem zew {s:Str}(h:s.length<=maxi):zb2 s=some (zbg s):=by
 unfold zb2 zbg
 simp only[jn,zcD]
 cases decide ((12:Int)< (s.length:Int))
 case true=>rfl
 rw[aC,zaw (α:=UInt8) (xs:=s) (p:=chB) (r0:=some false) (Z:=some true) (f:=fun m i=>zaR s (fun _ _=>some true) m false i) (fun m i x hx=>by
  simp only[zaR,jn,zb6 hx,zcV hx,aD,aA,zaK (za8 hx) h,chB]
  cases decide ((x.toNat:Int)<32)<;>cases decide (126< (x.toNat:Int))<;>rfl) (fun m=>by simp only[zaR,za9,aC]) (by omega)]
 cases s.all chB<;>rfl
theorem zex {s:Str}(h:s.length<=maxi):zb1 s=some (zbg s):=by
 unfold zb1 zbg
 simp only[jn,zcD,zev]
 rw[zaw (α:=UInt8) (xs:=s) (p:=chB) (r0:=some false) (Z:=some (!decide (12< (s.length:Int)))) (f:=fun m i=>zaO s (fun _ _=>some (!decide (12< (s.length:Int)))) m false i) (fun m i x hx=>by
  simp only[zaO,jn,zb6 hx,zcV hx,aD,aA,zaK (za8 hx) h,chB]
  cases decide ((x.toNat:Int)<32)<;>cases decide (126< (x.toNat:Int))<;>rfl) (fun m=>by simp only[zaO,za9,aC]) (by omega)]
 cases s.all chB<;>cases decide (12< (s.length:Int))<;>rfl
theorem zey {xs:List Str}(h:Bk.fit xs):zb3 xs=some (zac xs):=by
 have hl:=zet h
 unfold zb3 zac
 simp only[jn,zcD]
 cases decide ((10:Int)< (xs.length:Int))
 case true=>rfl
 rw[aC,zaw (α:=Str) (xs:=xs) (p:=zbg) (r0:=some false) (Z:=some true) (f:=fun m i=>zaS xs (fun _ _=>some true) m false i) (fun m i x hx=>by
  have hx2:x.length<=maxi:=zfM h hx
  simp only[zaS,zb6 hx,zbt hx,aD,aA,zaK (za8 hx) hl,zew hx2]
  cases zbg x<;>rfl) (fun m=>by simp only[zaS,za9,aC]) (by omega)]
 cases xs.all zbg<;>rfl
theorem zgQ {xs:List Str}(h:Bk.fit xs):zcZ xs=some (zac xs):=by
 have hl:=zet h
 unfold zcZ zac
 simp only[jn,zcD,zev]
 rw[zaw (α:=Str) (xs:=xs) (p:=zbg) (r0:=some false) (Z:=some (!decide (10< (xs.length:Int)))) (f:=fun m i=>za5 xs (fun _ _=>some (!decide (10< (xs.length:Int)))) m false i) (fun m i x hx=>by
  have hx2:x.length<=maxi:=zfM h hx
  simp only[za5,zb6 hx,zbt hx,aD,aA,zaK (za8 hx) hl,zex hx2]
  cases zbg x<;>rfl) (fun m=>by simp only[za5,za9,aC]) (by omega)]
 cases xs.all zbg<;>cases decide (10< (xs.length:Int))<;>rfl
theorem zaZ {t:List Str}(h:zac t=true):t.length<=10:=by
 unfold zac at h
 simp only[aG,Bool.not_eq_true',decide_eq_false_iff_not]at h
 omega
theorem zbd {t:List Str}(h:zac t=true): ∀ s∈t,zbg s=true:=by
 unfold zac at h
 simp only[aG,List.all_eq_true]at h
 exact h.2
theorem zc9 {s:Str}(h:zbg s=true):s.length<=12:=by
 unfold zbg at h
 simp only[aG,Bool.not_eq_true',decide_eq_false_iff_not]at h
 omega
theorem zez {a b:Int}(ha:0<=a)(ha':a<=9223372036854775807)(hb:0<=b)(hb':b<=9223372036854775807):0<=zhx a b/\zhx a b<=9223372036854775807:=by
 obtain⟨n,rfl⟩:=Int.eq_ofNat_of_zero_le ha
 obtain⟨m,rfl⟩:=Int.eq_ofNat_of_zero_le hb
 have hn:n<2 ^ 63:=by omega
 have hm:m<2 ^ 63:=by omega
 have hx:n ^^^ m<2 ^ 63:=Nat.xor_lt_two_pow hn hm
 have h1:(BitVec.ofInt 64 (n:Int) ^^^ BitVec.ofInt 64 (m:Int)).toNat=n ^^^ m:=by
  rw[BitVec.toNat_xor,BitVec.toNat_ofInt,BitVec.toNat_ofInt]
  have e1:((n:Int) % (2 ^ 64:Nat)).toNat=n:=by omega
  have e2:((m:Int) % (2 ^ 64:Nat)).toNat=m:=by omega
  rw[e1,e2]
 unfold zhx
 rw[h1]
 have:=zak (n:=((n ^^^ m:Nat):Int)) (by omega) (by omega)
 unfold w64 at this
 rw[this]
 omega
theorem zbw {a n:Int}(ha:0<=a)(hn:0<n):0<=Int.tmod a n/\Int.tmod a n<n:=⟨Int.tmod_nonneg n ha,Int.tmod_lt_of_pos a hn⟩
def zci (r:l30Rd)(p:Int):Prop:=r.b.length<=2000/\0<=r.p/\r.p<=p
theorem zbM (u:UInt8):0<=((UInt8.toNat u:Nat):Int)/\((UInt8.toNat u:Nat):Int)<=255:=by
 have:=UInt8.toNat_lt u
 omega
theorem zc5 {a n:Int}(ha:0<=a)(hn:0<n):0<=Int.tdiv a n/\Int.tdiv a n<=a:=⟨Int.tdiv_nonneg ha (by omega),Int.tdiv_le_self n ha⟩
theorem zbN {r:l30Rd}{n p:Int}(h:zci r p)(hp:p<=1099511627776)(hn:0<n)(hn':n<=1073741824): ∃ k,zad r n=some (k,r.p+1)/\0<=k/\k<n:=by
 obtain⟨hb,h0,h1⟩:=h
 unfold zad
 have e1:w64 (r.p+1)=r.p+1:=zak (by omega) (by omega)
 have e2:w64 (r.p+1-1)=r.p:=by rw[zak (by omega) (by omega)];omega
 simp only[jn,e1,e2]
 rw[aE (show ¬ n<1 by omega),aC]
 cases hl:(((r.b.length:Int))==(0:Int))with
 |true=>exact⟨0,rfl,by omega,hn⟩
 |false=>
  have hlen:0< (r.b.length:Int):=by
   have:(r.b.length:Int)≠0:=by simpa using hl
   omega
  rw[aC]
  by_cases hlt:r.p< (r.b.length:Int)
  ·obtain⟨u,hu⟩:=zcn h0 hlt
   obtain⟨u0,u1⟩:=zbM u
   rw[aF hlt,aD,hu,aA,if_neg (by omega),aA,zak (by omega) (by omega)]
   exact⟨_,rfl,zbw u0 hn⟩
  ·rw[aE hlt,aC,if_neg (by omega),aA]
   obtain⟨a0,a1⟩:=zbw h0 hlen
   obtain⟨u,hu⟩:=zcn a0 a1
   obtain⟨u0,u1⟩:=zbM u
   have e3:w64 (r.p*7)=r.p*7:=zak (by omega) (by omega)
   have e4:w64 (r.p*7+3)=r.p*7+3:=zak (by omega) (by omega)
   obtain⟨b0,b1⟩:=zbw (show 0<=r.p*7+3 by omega) hlen
   obtain⟨v,hv⟩:=zcn b0 b1
   obtain⟨v0,v1⟩:=zbM v
   obtain⟨d0,d1⟩:=zc5 h0 hlen
   rw[hu,aA,if_neg (by omega),aA,e3,e4,hv,aA,aA,aA]
   rw[zak (n:=(UInt8.toNat u:Int)) (by omega) (by omega),zak (n:=(UInt8.toNat u:Int)*131) (by omega) (by omega),
    zak (n:=(UInt8.toNat v:Int)) (by omega) (by omega),zak (n:=(UInt8.toNat v:Int)*1117) (by omega) (by omega),
    zak (n:=(UInt8.toNat u:Int)*131+(UInt8.toNat v:Int)*1117) (by omega) (by omega),zak (n:=r.p*29) (by omega) (by omega),
    zak (n:=(UInt8.toNat u:Int)*131+(UInt8.toNat v:Int)*1117+r.p*29) (by omega) (by omega),
    zak (n:=Int.tdiv r.p (r.b.length:Int)) (by omega) (by omega),zak (n:=Int.tdiv r.p (r.b.length:Int)*53) (by omega) (by omega),
    zak (n:=(UInt8.toNat u:Int)*131+(UInt8.toNat v:Int)*1117+r.p*29+Int.tdiv r.p (r.b.length:Int)*53) (by omega) (by omega)]
   obtain⟨q0,q1⟩:=zc5 (a:=(UInt8.toNat u:Int)*131+(UInt8.toNat v:Int)*1117+r.p*29+Int.tdiv r.p (r.b.length:Int)*53) (n:=64) (by omega) (by omega)
   rw[zak (n:=Int.tdiv ((UInt8.toNat u:Int)*131+(UInt8.toNat v:Int)*1117+r.p*29+Int.tdiv r.p (r.b.length:Int)*53) 64) (by omega) (by omega)]
   exact⟨_,rfl,zbw (zez (by omega) (by omega) (by omega) (by omega)).1 hn⟩
theorem zci.on {r:l30Rd}{p q:Int}(h:zci r p)(k:Int)(hk:0<=k)(hq:r.p+k<=q):zci ⟨r.b,r.p+k⟩ q:=⟨h.1,by have:=h.2.1;show 0<=r.p+k;omega,hq⟩
theorem zgR {code:List Byte}(h:code.length<=1048576): ∃ b:List Byte,zaX code=some ⟨b,0⟩/\b.length<=2000:=by
 unfold zaX
 simp only[jn]
 by_cases hl:(2000:Int)< (code.length:Int)
 ·rw[aF hl,aD]
  have:slM code 0 2000=some (code.take 2000):=zil (i:=2000) (by omega)
  rw[this,aA]
  exact⟨_,rfl,by simp;omega⟩
 ·rw[aE hl,aC]
  exact⟨_,rfl,by omega⟩
theorem zed {xs ys:List Str}(h:xs.length<=maxi):zbJ xs ys=some (xs==ys):=by
 unfold zbJ
 simp only[zjU,jn,zcD]
 by_cases hn:xs.length=ys.length
 ·rw[hn,aO,aK,aC,<- hn]
  rw[zjT (α:=Str) (r0:=some false) (Z:=some true) (f:=fun m i=>zaH xs ys (fun _ _=>some true) m false i) hn (fun m i x y hx hy=>by
   simp only[zaH,zb6 hx,zbt hx,zbt hy,aD,aA,zaK (za8 hx) h,bne]
   cases x==y<;>rfl) (fun m=>by simp only[zaH,za9,aC]) (by omega)]
  cases xs==ys<;>rfl
 ·rw[beq_false_of_ne hn,Bool.not_false,aD,beq_false_of_ne (fun e=>hn (by rw[e]))]
end Go.Vm
namespace Go.Sx
open Go
end Go.Sx
namespace Go.Vm
open Go Go.Sx
set_option linter.unusedSimpArgs false
set_option linter.unusedVariables false
section
variable {o a b:List Str}{Q:Part->Prop}
end
section
variable {xs:List Memo}{o a b:List Str}
theorem zee {s:List Str}(h:s.length<=1000000)(hl: ∀ x∈s,zbg x=true):Bk.fit s:=⟨by unfold maxi;omega,fun x hx=>by have:=zc9 (hl x hx);show x.length<=maxi;unfold maxi;omega⟩
end
def LB (n:Nat)(t:List Str):Prop:=t.length<=n /\ ∀ s∈t,s.length<=100
theorem LB.fit {n:Nat}{t:List Str}(h:LB n t)(hn:n<=1000000):Bk.fit t:=⟨by have:=h.1;unfold maxi;omega,fun s hs=>by have:=h.2 s hs;show s.length<=maxi;unfold maxi;omega⟩
theorem zb8 {α:Type}{f:α->Nat}{c:Nat}: ∀ {t:List α},(∀ s∈t,f s<=c)->zan f t<=c*t.length
 | [],_=>by simp[zan]
 |x::t,h=>by
  have h1:=h x (by simp)
  have h2:=zb8 (t:=t) (fun s hs=>h s (by simp[hs]))
  simp only[zan,aL,Nat.mul_add,Nat.mul_one]
  omega
theorem LB.bulk {n:Nat}{t:List Str}(h:LB n t):Bk.bulk t<=101*n:=by
 have h1:zan Bk.bulk t<=100*t.length:=zb8 (f:=fun s:Str=>s.length) (c:=100) (fun s hs=>h.2 s hs)
 have:=h.1
 rw[zmk]
 omega
section
variable {r:l30Rd}{p:Int}
theorem zdG (h:zci r p)(hp:p<=1099511627776){l:List Str}(h0:0<l.length)(hl:l.length<=1000): ∃ s,zal r l=some (s,r.p+1)/\s∈l:=by
 obtain⟨k,hk,k0,k1⟩:=zbN (n:=(l.length:Int)) h hp (by omega) (by omega)
 obtain⟨s,hs⟩:=zcn k0 k1
 unfold zal
 rw[hk,aA,hs,aA]
 exact⟨s,rfl,aH (zd6 hs).2.1⟩
theorem zfl (h:zci r p)(hp:p<=1099511627776){l:List Int}(h0:0<l.length)(hl:l.length<=1000): ∃ s,zaL r l=some (s,r.p+1)/\s∈l:=by
 obtain⟨k,hk,k0,k1⟩:=zbN (n:=(l.length:Int)) h hp (by omega) (by omega)
 obtain⟨s,hs⟩:=zcn k0 k1
 unfold zaL
 rw[hk,aA,hs,aA]
 exact⟨s,rfl,aH (zd6 hs).2.1⟩
theorem zgS (h:zci r p)(hp:p<=1099511627776): ∃ s,za4 r=some (s,r.p+1)/\s.length<=12:=by
 unfold za4
 obtain⟨s,hs,hm⟩:=zdG h hp (l:=([([97]:Str),([98]:Str),([99]:Str),([100]:Str),([]:Str),([120,32,121]:Str),([115,101,101,32,97]:Str),([115,101,101,32,100,47,101]:Str),([101,110,100]:Str)]:List Str)) (by simp) (by simp)
 rw[hs,aA]
 refine⟨s,rfl,?_⟩
 simp only[List.mem_cons,List.not_mem_nil,or_false]at hm
 rcases hm with rfl |rfl |rfl |rfl |rfl |rfl |rfl |rfl |rfl<;>simp
theorem on1 (h:zci r p){q:Int}(hq:p+1<=q):zci ⟨r.b,r.p+1⟩ q:=h.on 1 (by omega) (by have:=h.2.2;omega)
theorem zeA {x0:l30Rd}: ∀ (m:Nat) (out:List Str) (n q p:Int),0<=n->n<m->n<=100->LB 100 out->zci ⟨x0.b,q⟩ p->p+n<=1099511627776->out.length+n<=100->
 ∃ out' q',za1 x0 (fun y15 y18 y19=>some (y15,y19)) m out n q=some (out',q')/\LB 100 out'/\(out'.length:Int)=out.length+n/\zci ⟨x0.b,q'⟩ (p+n)
 |0,out,n,q,p,h0,hm,_,_,_,_,_=>by omega
 |m+1,out,n,q,p,h0,hm,hn,hf,hr,hp,hl=>by
  simp only[za1]
  by_cases hn0:0<n
  ·obtain⟨s,hs,hs2⟩:=zgS hr (by omega)
   have hs':za4 ⟨x0.b,q⟩=some (s,q+1):=hs
   rw[aF hn0,aD,hs',aA,ap1 (show out.length<=1048576 by omega),aA,zak (by omega) (by omega)]
   have hf':LB 100 (out++[s]):=⟨by simp;omega,fun x hx=>by
    rcases List.mem_append.1 hx with h1 |h1
    ·exact hf.2 x h1
    ·rw[List.mem_singleton]at h1;rw[h1];omega⟩
   obtain⟨o',q',e,f',l',r'⟩:=zeA (x0:=x0) m (out++[s]) (n-1) (q+1) (p+1) (by omega) (by omega) (by omega) hf' (on1 hr (by omega)) (by omega) (by simp;omega)
   exact⟨o',q',e,f',by rw[l'];simp;omega,by rw[show p+n=p+1+(n-1) by omega];exact r'⟩
  ·have hz:n=0:=by omega
   subst hz
   rw[aE hn0,aC]
   exact⟨out,q,rfl,hf,by omega,by simpa using hr⟩
theorem zgT (h:zci r p)(hp:p<=1000000000): ∃ t q,zbI r=some (t,q)/\LB 8 t/\zci ⟨r.b,q⟩ (p+10):=by
 unfold zbI
 obtain⟨n,hn,hm⟩:=zfl h (by omega) (l:=[0,1,3,5,8]) (by simp) (by simp)
 have hn8:0<=n/\n<=8:=by
  simp only[List.mem_cons,List.not_mem_nil,or_false]at hm
  omega
 rw[hn,aA]
 simp only[jn]
 obtain⟨t,q,e,f,l,ro⟩:=zeA (x0:=r) ((n-0).toNat+1) [] n (r.p+1) (p+1) hn8.1 (by omega) (by omega) ⟨by simp,by simp⟩ (on1 h (by omega)) (by omega) (by simp;omega)
 refine⟨t,q,e,⟨by simp at l;omega,f.2⟩,ro.1,ro.2.1,?_⟩
 have:=ro.2.2
 omega
end
open Go Go.Sx Go.Proofs
def zcY (c:UInt8):Bool:=(decide (97<=(c.toNat:Int))&&decide ((c.toNat:Int)<=122))||(decide (48<=(c.toNat:Int))&&decide ((c.toNat:Int)<=57))
def zaj (s:Str):Bool:=(decide (1<=(s.length:Int))&&decide ((s.length:Int)<=6))&&s.all zcY
theorem zdM (c:UInt8):zbp c=some (zcY c):=by
 unfold zbp zcY
 simp only[jn]
 cases decide (97<=(c.toNat:Int))<;>cases decide ((c.toNat:Int)<=122)<;>cases decide (48<=(c.toNat:Int))<;>cases decide ((c.toNat:Int)<=57)<;>rfl
theorem zdq (a b c:Int):zbP a b c=some (decide (b<=a)&&decide (a<=c)):=by
 unfold zbP
 simp only[jn]
 cases decide (b<=a)<;>rfl
theorem zeB (a b c:Int):zcM a b c=some (decide (b<=a)&&decide (a<=c)):=by
 unfold zcM
 simp only[jn]
 cases decide (b<=a)<;>rfl
theorem zbV {s:Str}(h:s.length<=maxi):zbl s=some (zaj s):=by
 unfold zbl zaj
 simp only[jn,zcD,zdq,aA]
 cases(decide (1<=(s.length:Int))&&decide ((s.length:Int)<=6))
 case false=>rfl
 simp only[aK,aC,Bool.true_and]
 rw[zaw (α:=UInt8) (xs:=s) (p:=zcY) (r0:=some false) (Z:=some true) (f:=fun m i=>zaP s (fun _ _=>some true) m false i) (fun m i x hx=>by
  simp only[zaP,jn,zb6 hx,zcV hx,aD,aA,zaK (za8 hx) h,zdM]
  cases zcY x<;>rfl) (fun m=>by simp only[zaP,za9,aC]) (by omega)]
 cases s.all zcY<;>rfl
theorem ziL (a b:Int):decide (a<b) = !decide (b<=a):=by
 by_cases h:a<b
 ·rw[aF h,aE (by omega)];rfl
 ·rw[aE h,aF (by omega)];rfl
theorem zbW {s:Str}(h:s.length<=maxi):zbi s=some (zaj s):=by
 unfold zbi zaj
 simp only[jn,zcD,zeB,aA]
 rw[zaw (α:=UInt8) (xs:=s) (p:=zcY) (r0:=some false) (Z:=some (decide (1<=(s.length:Int))&&decide ((s.length:Int)<=6))) (f:=fun m i=>zaM s (fun _ _=>some (decide (1<=(s.length:Int))&&decide ((s.length:Int)<=6))) m false i) (fun m i x hx=>by
  simp only[zaM,jn,zb6 hx,zcV hx,aD,aA,zaK (za8 hx) h,ziL,zcY]
  cases decide (97<=(x.toNat:Int))<;>cases decide ((x.toNat:Int)<=122)<;>cases decide (48<=(x.toNat:Int))<;>cases decide ((x.toNat:Int)<=57)<;>rfl) (fun m=>by simp only[zaM,za9,aC]) (by omega)]
 cases s.all zcY<;>cases(decide (1<=(s.length:Int))&&decide ((s.length:Int)<=6))<;>rfl
def RB (n:Nat)(v:Review):Prop:=v.Branch.length<=4/\v.Into.length<=4/\v.By.length<=4/\LB n v.Yes
theorem RB.fit {n:Nat}{v:Review}(h:RB n v)(hn:n<=1000):Bk.fit v:=
 ⟨by have:=h.1;show v.Branch.length<=maxi;unfold maxi;omega,by have:=h.2.1;show v.Into.length<=maxi;unfold maxi;omega,by have:=h.2.2.1;show v.By.length<=maxi;unfold maxi;omega,h.2.2.2.fit (by omega)⟩
def curS (c:UInt8):Str->Str->List Str
 |w,[]=>[w]
 |w,x::r=>bif x==c then w::curS c [] r else curS c (w++[x]) r
def zaD (c:UInt8):Nat->Str->Str->List Str
 |_,w,[]=>[w]
 |0,w,x::r=>[w++x::r]
 |n+1,w,x::r=>bif x==c then w::zaD c n [] r else zaD c (n+1) (w++[x]) r
theorem zda (c:UInt8): ∀ (r w:Str),1<=(curS c w r).length
 | [],w=>by simp[curS]
 |x::r,w=>by
  unfold curS
  cases x==c
  ·exact zda c r _
  ·simp
theorem zaA (c:UInt8)(w r:Str):zaD c 0 w r=[w++r]:=by
 cases r<;>simp[zaD]
theorem zaB (c:UInt8): ∀ (r:Str) (n:Nat) (w:Str),(curS c w r).length<=n+1->zaD c n w r=curS c w r
 | [],n,w,h=>by cases n<;>simp[zaD,curS]
 |x::r,0,w,h=>by
  unfold curS at h ⊢
  cases hx:x==c with
  |true=>
   rw[hx,aD]at h
   have:=zda c r []
   rw[aL]at h
   omega
  |false=>
   rw[hx,aC]at h
   have ih:=zaB c r 0 (w++[x]) h
   rw[aC,<- ih,zaA,zaA]
   simp
 |x::r,n+1,w,h=>by
  unfold curS at h ⊢
  unfold zaD
  cases hx:x==c with
  |true=>
   rw[hx,aD,aL]at h
   rw[aD,aD,zaB c r n [] (by omega)]
  |false=>
   rw[hx,aC]at h
   rw[aC,aC,zaB c r (n+1) _ h]
theorem zbX (c:UInt8): ∀ (r:Str) (n:Nat) (w:Str),n+1<=(curS c w r).length->(zaD c n w r).length=n+1
 | [],n,w,h=>by
  simp[curS]at h
  subst h
  simp[zaD]
 |x::r,0,w,h=>by simp[zaD]
 |x::r,n+1,w,h=>by
  unfold curS at h
  unfold zaD
  cases hx:x==c with
  |true=>
   rw[hx,aD,aL]at h
   rw[aD,aL,zbX c r n [] (by omega)]
  |false=>
   rw[hx,aC]at h
   rw[aC,zbX c r (n+1) _ h]
theorem zcE {c:UInt8}{w:Str}(h:c∉w):Lib.index w [c] = -1:=Lib.index_none fun j hj=>by
 cases ho:Lib.occAt w [c] j with
 |false=>rfl
 |true=>exact absurd (aH (Lib.occAt_head rfl ho)) h
theorem zdb {c:UInt8}{w r:Str}(h:c∉w):Lib.index (w++c::r) [c]=((w.length:Nat):Int):=Lib.index_first (by simp) (by simp[Lib.occAt,List.isPrefixOf]) fun j hj=>by
 cases ho:Lib.occAt (w++c::r) [c] j with
 |false=>rfl
 |true=>
  have:=Lib.occAt_head rfl ho
  rw[aM hj]at this
  exact absurd (aH this) h
theorem zcF (c:UInt8): ∀ (r w:Str),c∉w->Lib.split (w++r) [c]=curS c w r
 | [],w,h=>by
  unfold Lib.split curS
  rw[List.append_nil,Lib.count_miss (zcE h)]
  rfl
 |x::r,w,h=>by
  unfold curS
  cases hx:x==c with
  |true=>
   have e:x=c:=by simpa using hx
   subst e
   have hi:=zdb (r:=r) h
   rw[aD]
   have ih:=zcF x r [] (by simp)
   unfold Lib.split at ih ⊢
   have hd:(w++x::r).drop (w.length+1)=r:=by
    rw[show w++x::r=(w++[x])++r by simp,List.drop_left' (by simp)]
   have hc:Lib.count (w++x::r) [x]=Lib.count r [x]+1:=by
    rw[Lib.count_hit (by simp) hi]
    show 1+Lib.count ((w++x::r).drop (w.length+1)) [x]=_
    rw[hd]
    omega
   rw[hc]
   unfold Lib.splitK
   rw[if_neg (by rw[hi];simp),hi]
   have e1:(w++x::r).take (((w.length:Nat):Int).toNat+0)=w:=by simp
   have e2:(w++x::r).drop (((w.length:Nat):Int).toNat+[x].length)=r:=hd
   rw[e1,e2]
   simp only[List.nil_append]at ih
   rw[ih]
  |false=>
   have hne:x≠c:=by simpa using hx
   rw[aC,show w++x::r=(w++[x])++r by simp]
   exact zcF c r (w++[x]) (by
    rw[List.mem_append,List.mem_singleton]
    rintro(h1 |h1)
    ·exact h h1
    ·exact hne h1.symm)
theorem zdX (c:UInt8)(s:Str):Lib.split s [c]=curS c [] s:=zcF c s [] (by simp)
theorem zeC (u c:UInt8):(((UInt8.toNat u:Nat):Int)==((UInt8.toNat c:Nat):Int))=(u==c):=by
 have: ∀ b c:Bool,(b=true↔c=true)->b=c:=by decide
 apply this
 rw[beq_iff_eq,beq_iff_eq,<- UInt8.toNat_inj]
 omega
theorem zeD {s:Str}{c:UInt8}{most:Nat}(hs:s.length<=1048576)(hm:most<=1000): ∀ (n:Nat) (out:List Str) (from_ i m:Nat),i+n=s.length->n<m->from_<=i->out.length<=most->
 zbn s c (most:Int) (fun y3 y6 y7=>(slM s y6 (s.length:Int)).bind fun q38=>(apM y3 [q38]).bind fun q43=>some q43) m out (from_:Int) (i:Int)=some (out++zaD c (most-out.length) ((s.take i).drop from_) (s.drop i))
 |n,out,f,i,0,_,hm,_,_=>by omega
 |n,out,f,i,m+1,hi,hn,hf,ho=>by
  have hdone:(slM s (f:Int) (s.length:Int)).bind (fun q38=>(apM out [q38]).bind fun q43=>some q43)=some (out++[s.drop f]):=by
   rw[zdp (by omega),aA,ap1 (by omega),aA]
  have hw:(s.take i).drop f++s.drop i=s.drop f:=by
   rw[<- List.drop_append_of_le_length (by simp;omega),List.take_append_drop]
  simp only[zbn,jn]
  by_cases h1:(i:Int)< (s.length:Int)
  case neg=>
   rw[aE h1,aC,aC,hdone]
   have:s.drop i=[]:=List.drop_eq_nil_of_le (by omega)
   rw[this]at hw ⊢
   rw[List.append_nil]at hw
   rw[hw]
   cases most-out.length<;>simp[zaD]
  rw[aF h1,aD]
  have hlt:i<s.length:=by omega
  have hx:s[i]? =some s[i]:=aB hlt
  by_cases h2:(out.length:Int)< (most:Int)
  case neg=>
   rw[aE h2,aC,hdone]
   have:most-out.length=0:=by omega
   rw[this,zaA,hw]
  obtain⟨n,rfl⟩: ∃ k,n=k+1:=⟨n-1,by omega⟩
  obtain⟨k,hk⟩: ∃ k,most-out.length=k+1:=⟨most-out.length-1,by omega⟩
  rw[aF h2,aD,zcV hx,aA,zeC,hk,aI hlt]
  unfold zaD
  cases hb:s[i]==c with
  |true=>
   rw[aD,aD,zgz (by omega) (by omega) (by omega),aA,ap1 (by omega),aA,zaK hlt (by unfold maxi;omega),zeD hs hm n _ (i+1) (i+1) m (by omega) (by omega) (by omega) (by simp;omega)]
   have e1:most-(out++[((s.take ((i:Nat):Int).toNat)).drop ((f:Nat):Int).toNat]).length=k:=by simp;omega
   have e2:(s.take (i+1)).drop (i+1)=[]:=List.drop_eq_nil_of_le (by simp;omega)
   rw[e1,e2]
   simp
  |false=>
   rw[aC,aC,zaK hlt (by unfold maxi;omega),zeD hs hm n _ f (i+1) m (by omega) (by omega) (by omega) ho,hk]
   have e2:(s.take (i+1)).drop f=(s.take i).drop f++[s[i]]:=by
    rw[List.take_add_one,hx]
    rw[List.drop_append_of_le_length (by simp;omega)]
    rfl
   rw[e2]
theorem zdH {s:Str}{c:UInt8}{most:Nat}(hs:s.length<=1048576)(hm:most<=1000):zbf s c (most:Int)=some (zaD c most [] s):=by
 unfold zbf
 simp only[jn]
 have:=zeD (c:=c) (most:=most) hs hm s.length [] 0 0 (s.length+1) (by omega) (by omega) (Nat.le_refl _) (by simp)
 simpa using this
def zay (s:Str):Bool:=decide ((curS 47 [] s).length<=3)&&(curS 47 [] s).all zaj
theorem zdc (c:UInt8): ∀ (r w:Str),∀ p∈curS c w r,p.length<=w.length+r.length
 | [],w,p,h=>by simp[curS]at h;rw[h];omega
 |x::r,w,p,h=>by
  unfold curS at h
  cases hx:x==c with
  |true=>
   rw[hx,aD]at h
   rcases List.mem_cons.1 h with e |e
   ·rw[e];omega
   ·have:=zdc c r [] p e
    simp at this ⊢
    omega
  |false=>
   rw[hx,aC]at h
   have:=zdc c r (w++[x]) p h
   simp at this ⊢
   omega
theorem zbq (c:UInt8): ∀ (r w:Str),(curS c w r).length<=r.length+1
 | [],w=>by simp[curS]
 |x::r,w=>by
  unfold curS
  cases x==c
  ·have:=zbq c r (w++[x]);simp at this ⊢;omega
  ·have:=zbq c r [];simp at this ⊢;omega
theorem zdr {s:Str}(h:s.length<=1048576):zbm s=some (zay s):=by
 unfold zbm strings_Split zay
 rw[if_pos ⟨by omega,by simp⟩,aA,zdX]
 have hl:=zbq 47 s []
 by_cases h3:(3:Int)< ((curS 47 [] s).length:Int)
 ·rw[aF h3,aD,aE (by omega)];rfl
 rw[aE h3,aC,aF (by omega),Bool.true_and]
 simp only[jn,zcD]
 rw[zaw (α:=Str) (xs:=curS 47 [] s) (p:=zaj) (r0:=some false) (Z:=some true) (f:=fun m i=>zaQ (curS 47 [] s) (fun _ _=>some true) m false i) (fun m i x hx=>by
  have hf:=zdc 47 s [] x (aH hx)
  simp only[zaQ,zb6 hx,zbt hx,aD,aA,zaK (za8 hx) (show(curS 47 [] s).length<=maxi by unfold maxi;omega),zbV (show x.length<=maxi by unfold maxi;simp at hf;omega)]
  cases zaj x<;>rfl) (fun m=>by simp only[zaQ,za9,aC]) (by omega)]
 cases(curS 47 [] s).all zaj<;>rfl
theorem zcx (c:UInt8): ∀ (r:Str) (n:Nat) (w:Str),∀ p∈zaD c n w r,p.length<=w.length+r.length
 | [],n,w,p,h=>by cases n<;>simp[zaD]at h<;>rw[h]<;>omega
 |x::r,0,w,p,h=>by simp[zaD]at h;rw[h];simp
 |x::r,n+1,w,p,h=>by
  unfold zaD at h
  cases hx:x==c with
  |true=>
   rw[hx,aD]at h
   rcases List.mem_cons.1 h with e |e
   ·rw[e];omega
   ·have:=zcx c r n [] p e
    simp at this ⊢
    omega
  |false=>
   rw[hx,aC]at h
   have:=zcx c r (n+1) (w++[x]) p h
   simp at this ⊢
   omega
theorem zds {s:Str}(h:s.length<=1048576):zbj s=some (zay s):=by
 unfold zbj zay
 have e47:(UInt8.ofNatLT 47 (by decide):UInt8)=47:=by decide
 have hc:=zdH (c:=UInt8.ofNatLT 47 (by decide)) (most:=3) h (by omega)
 rw[show(3:Int)=((3:Nat):Int) from rfl,hc,aA,e47]
 simp only[jn,zcD]
 have hlen:(zaD 47 3 [] s).length<=maxi:=by
  rcases Nat.lt_or_ge (curS 47 [] s).length 4 with h1 |h1
  ·rw[zaB 47 s 3 [] (by omega)];unfold maxi;omega
  ·rw[zbX 47 s 3 [] h1];unfold maxi;omega
 rw[zaw (α:=Str) (xs:=zaD 47 3 [] s) (p:=zaj) (r0:=some false) (Z:=some (decide (((zaD 47 3 [] s).length:Int)<=((3:Nat):Int)))) (f:=fun m i=>zaN (zaD 47 3 [] s) (fun _ _=>some (decide (((zaD 47 3 [] s).length:Int)<=((3:Nat):Int)))) m false i) (fun m i x hx=>by
  have hf:=zcx 47 s 3 [] x (aH hx)
  simp only[zaN,zb6 hx,zbt hx,aD,aA,zaK (za8 hx) hlen,zbW (show x.length<=maxi by unfold maxi;simp at hf;omega)]
  cases zaj x<;>rfl) (fun m=>by simp only[zaN,za9,aC]) (by omega)]
 rcases Nat.lt_or_ge (curS 47 [] s).length 4 with h1 |h1
 ·rw[zaB 47 s 3 [] (by omega),aF (show((curS 47 [] s).length:Int)<=((3:Nat):Int) by omega),aF (show(curS 47 [] s).length<=3 by omega)]
  cases(curS 47 [] s).all zaj<;>rfl
 ·rw[zbX 47 s 3 [] h1,aE (show ¬ (curS 47 [] s).length<=3 by omega)]
  cases(zaD 47 3 [] s).all zaj<;>rfl
def OB (xs:List Owner):Prop:=xs.length<=1048576 /\ ∀ x∈xs,x.Path.length<=1048576/\x.Who.length<=1048576
theorem OB.of {xs:List Owner}(h:Bk.bulk xs<=1048576):OB xs:=⟨zar h,fun x hx=>by
 have h1:Bk.bulk x<=1048576:=zc1 h hx
 have h2:Bk.bulk x=x.Path.length+x.Who.length:=rfl
 omega⟩
def zdD (d p:Str):Bool:=(d++[47]).isPrefixOf p
def zeE (s:Str):Bool:=s.all fun c=> !(c==124)
def zaU (t:List Str):Bool:=t.all zeE
theorem zeF (t:List Str):Lib.join t []=t.flatten:=by
 cases t with
 |nil=>rfl
 |cons x r=>
  have: ∀ (x:Str) (r:List Str),([]:Str).intercalate (x::r)=x++r.flatten:=by
   intro x r
   induction r generalizing x with
   |nil=>simp[List.intercalate]
   |cons y r ih=>
    have:=ih y
    simp only[List.intercalate,List.intersperse,List.flatten_cons,List.nil_append]at this ⊢
    rw[this]
  exact this x r
theorem zdd: ∀ t:List Str,t.flatten.length=zan Bk.bulk t
 | []=>rfl
 |x::t=>by
  rw[List.flatten_cons,List.length_append,zdd t]
  rfl
theorem zdt (c:UInt8)(s:Str):Lib.contains s [c]=decide (c∈s):=by
 unfold Lib.contains
 by_cases h:c∈s
 ·obtain⟨p,t,rfl,hp⟩:=List.eq_append_cons_of_mem h
  rw[zdb hp,aF (show(0:Int)<=((p.length:Nat):Int) by omega),aF h]
 ·rw[zcE h,aE h]
  rfl
theorem zfB (t:List Str):(!decide ((124:UInt8)∈t.flatten))=zaU t:=by
 have: ∀ b c:Bool,(b=true↔c=true)->b=c:=by decide
 apply this
 simp only[Bool.not_eq_true',decide_eq_false_iff_not,List.mem_flatten,zaU,zeE,List.all_eq_true,beq_eq_false_iff_ne]
 constructor
 ·intro h s hs c hc e
  exact h ⟨s,hs,by rw[<- e];exact hc⟩
 ·rintro h ⟨s,hs,hc⟩
  exact h s hs 124 hc rfl
theorem zdN {t:List Str}(h:Bk.fit t):zbo t=some (zaU t&&zac t):=by
 have hl:=zet h
 unfold zbo zaU
 simp only[jn,zcD,zgQ h,aA]
 rw[zaw (α:=Str) (xs:=t) (p:=zeE) (r0:=some false) (Z:=some (zac t)) (f:=fun m i=>zae t (fun _ _=>some (zac t)) m false i) (fun m i x hx=>by
  have hx2:x.length<=maxi:=zfM h hx
  have b124: ∀ u:UInt8,(((UInt8.toNat u:Nat):Int)==(124:Int))=(u==124):=fun u=>by
   have hb:=zeC u 124
   rw[show(((UInt8.toNat (124:UInt8):Nat):Int))=124 from rfl]at hb
   exact hb
  simp only[zae,zb6 hx,zbt hx,aD,jn,Option.getD_some]
  rw[zaw (α:=UInt8) (xs:=x) (p:=fun c=> !(c==124)) (r0:=some false) (Z:=zae t (fun _ _=>some (zac t)) m false ((i+1:Nat):Int)) (f:=fun m' k=>zaz t (i:Int) (fun y10 y11=>zae t (fun _ _=>some (zac t)) m y10 (w64 ((i:Int)+1))) m' false k) (fun m' k c hc=>by
   simp only[zaz,zbt hx,aA,zb6 hc,aD,zcV hc,b124,zaK (za8 hc) hx2]
   cases c==124<;>rfl) (fun m'=>by simp only[zaz,zbt hx,aA,za9,aC,zaK (za8 hx) hl]) (by omega)]
  rfl) (fun m=>by simp only[zae,za9,aC]) (by omega)]
 cases t.all zeE<;>rfl
def opB (o:Op):Bool:=
 zaj o.Branch&&(zaj o.Who&&
  (bif o.Kind==1 then zay o.Path&&(zac o.Text&&(zaU o.Text&&(o.To==[]&&o.At==0)))
   else bif o.Kind==2 then zay o.Path&&(o.To==[]&&(o.At==0&&(o.Text.length:Int)==0))
   else bif o.Kind==3 then zay o.Path&&(zay o.To&&(o.At==0&&(o.Text.length:Int)==0))
   else bif o.Kind==4||o.Kind==5 then zaj o.To&&(o.Path==[]&&(o.At==0&&(o.Text.length:Int)==0))
   else bif o.Kind==6||o.Kind==7 then(decide (0<=o.At)&&decide (o.At<=15))&&(o.Path==[]&&(o.To==[]&&(o.Text.length:Int)==0))
   else false))
structure OpFit (o:Op):Prop where
 fit:Bk.fit o
 path:o.Path.length<=1048576
 to:o.To.length<=1048576
 text:Bk.bulk o.Text<=1048576
theorem OpFit.of {o:Op}(h:Bk.fit o)(hb:Bk.bulk o<=1048576):OpFit o:=by
 have e:Bk.bulk o=Bk.bulk o.Kind+(Bk.bulk o.Branch+(Bk.bulk o.Who+(Bk.bulk o.Path+(Bk.bulk o.To+(Bk.bulk o.At+Bk.bulk o.Text))))):=rfl
 have e1:Bk.bulk o.Path=o.Path.length:=rfl
 have e2:Bk.bulk o.To=o.To.length:=rfl
 exact⟨h,by omega,by omega,by omega⟩
theorem zgU (o:Op)(p q r s:Bool):zaY o p q r s=some ((p||o.Path==[])&&((q||o.To==[])&&((r||o.At==0)&&(s||(o.Text.length:Int)==0)))):=by
 unfold zaY
 simp only[jn]
 cases p<;>cases q<;>cases r<;>cases s<;>cases(o.Path==([]:Str))<;>cases(o.To==([]:Str))<;>cases((o.At:Int)==(0:Int))<;>rfl
theorem zdo {o:Op}(h:OpFit o):zbv o=some (opB o):=by
 obtain⟨f0,f1,f2,f3,f4,f5,f6⟩:=h.fit
 have ht:=h.text
 have hj:strings_Join o.Text ([]:Str)=some o.Text.flatten:=by
  unfold strings_Join
  have:=zar ht
  have hs:zan Bk.bulk o.Text<=1048576:=Nat.le_trans (Nat.le_add_left _ _) ht
  rw[zeF,if_pos ⟨by omega,by rw[zdd];omega⟩]
 have hc:strings_Contains o.Text.flatten ([124]:Str)=some (decide ((124:UInt8)∈o.Text.flatten)):=by
  unfold strings_Contains
  have hs:zan Bk.bulk o.Text<=1048576:=Nat.le_trans (Nat.le_add_left _ _) ht
  rw[if_pos (by rw[zdd];omega),zdt]
 unfold zbv opB
 simp only[jn,zbV f1,zbV f2,zbV f4,zdr h.path,zdr h.to,zey f6,hj,hc,aA,zdq,zfB]
 cases zaj o.Branch
 ·rfl
 cases zaj o.Who
 ·rfl
 simp only[aK,aC,Bool.true_and]
 cases(o.Kind==(1:Int))
 case true=>cases zay o.Path<;>cases zac o.Text<;>cases zaU o.Text<;>cases(o.To==([]:Str))<;>rfl
 cases(o.Kind==(2:Int))
 case true=>cases zay o.Path<;>cases(o.To==([]:Str))<;>cases(o.At==(0:Int))<;>rfl
 cases(o.Kind==(3:Int))
 case true=>cases zay o.Path<;>cases zay o.To<;>cases(o.At==(0:Int))<;>rfl
 simp only[aC]
 cases(o.Kind==(4:Int))<;>cases(o.Kind==(5:Int))<;>cases(o.Kind==(6:Int))<;>cases(o.Kind==(7:Int))<;>cases zaj o.To<;>cases(o.Path==([]:Str))<;>cases(o.At==(0:Int))<;>cases(o.To==([]:Str))<;>cases(decide (0<=o.At)&&decide (o.At<=15))<;>rfl
theorem zdI {o:Op}(h:OpFit o):zbD o=some (opB o):=by
 obtain⟨f0,f1,f2,f3,f4,f5,f6⟩:=h.fit
 unfold zbD opB
 simp only[jn,zbW f1,zbW f2,zbW f4,zds h.path,zds h.to,zdN f6,zgU,aA,zeB]
 cases zaj o.Branch
 ·rfl
 cases zaj o.Who
 ·rfl
 simp only[aK,aC,Bool.true_and,Bool.true_or,Bool.false_or,Bool.and_true]
 cases(o.Kind==(1:Int))
 case true=>cases zay o.Path<;>cases zac o.Text<;>cases zaU o.Text<;>cases(o.To==([]:Str))<;>cases(o.At==(0:Int))<;>rfl
 cases(o.Kind==(2:Int))
 case true=>cases zay o.Path<;>cases(o.To==([]:Str))<;>cases(o.At==(0:Int))<;>cases((o.Text.length:Int)==0)<;>rfl
 cases(o.Kind==(3:Int))
 case true=>cases zay o.Path<;>cases zay o.To<;>cases(o.At==(0:Int))<;>cases((o.Text.length:Int)==0)<;>rfl
 simp only[aC]
 cases(o.Kind==(4:Int))<;>cases(o.Kind==(5:Int))<;>cases(o.Kind==(6:Int))<;>cases(o.Kind==(7:Int))<;>cases zaj o.To<;>cases(o.Path==([]:Str))<;>cases(o.At==(0:Int))<;>cases(o.To==([]:Str))<;>cases((o.Text.length:Int)==0)<;>cases(decide (0<=o.At)&&decide (o.At<=15))<;>rfl
theorem zif {o:Op}(h:OpFit o):zdi o=some (opB o):=by
 unfold zdi
 rw[zdI h]
 rfl
theorem zbH {a b:Str}(h:a.length+b.length<=1000000000):saM a b=some (a++b):=by
 unfold saM
 rw[if_pos]
 simp only[lim]
 omega
def zau (t:List Str):Str:=(t.map fun s=>(124:UInt8)::s).flatten
theorem zeG {t:List Str}(ht:t.length<=10000000): ∀ (n i m:Nat) (out:Str),i+n=t.length->n<m->out.length+(zau (t.drop i)).length<=1000000000->
 zao t (fun y1 _=>some y1) m out (i:Int)=some (out++zau (t.drop i))
 |n,i,0,out,_,hm,_=>by omega
 |0,i,m+1,out,hi,_,_=>by
  obtain rfl:i=t.length:=by omega
  simp only[zao,za9,aC,List.drop_length]
  simp[zau]
 |n+1,i,m+1,out,hi,hm,hb=>by
  have hlt:i<t.length:=by omega
  have hx:t[i]? =some t[i]:=aB hlt
  have hd:t.drop i=t[i]::t.drop (i+1):=aI hlt
  have hbe:zau (t.drop i)=(124::t[i])++zau (t.drop (i+1)):=by rw[hd];rfl
  rw[hbe]at hb
  simp only[List.length_append,aL]at hb
  simp only[zao,zb6 hx,zbt hx,aD,aA,zaK hlt (show t.length<=maxi by unfold maxi;omega)]
  rw[zbH (by simp only[aL,List.length_nil];omega),aA,zbH (by simp only[List.length_append,aL,List.length_nil];omega),aA,
   zeG ht n (i+1) m _ (by omega) (by omega) (by simp only[List.length_append,aL,List.length_nil];omega),hbe]
  simp
theorem zgs {o:Op}(ht:o.Text.length<=10000000): ∀ (n i m:Nat) (out:Str),i+n=o.Text.length->n<m->out.length+(zau (o.Text.drop i)).length<=1000000000->
 zat o (fun y=>some y) m out (i:Int)=some (out++zau (o.Text.drop i))
 |n,i,0,out,_,hm,_=>by omega
 |0,i,m+1,out,hi,_,_=>by
  obtain rfl:i=o.Text.length:=by omega
  simp only[zat,za9,aC,List.drop_length]
  simp[zau]
 |n+1,i,m+1,out,hi,hm,hb=>by
  have hlt:i<o.Text.length:=by omega
  have hx:o.Text[i]? =some o.Text[i]:=aB hlt
  have hd:o.Text.drop i=o.Text[i]::o.Text.drop (i+1):=aI hlt
  have hbe:zau (o.Text.drop i)=(124::o.Text[i])++zau (o.Text.drop (i+1)):=by rw[hd];rfl
  rw[hbe]at hb
  simp only[List.length_append,aL]at hb
  simp only[zat,zb6 hx,zbt hx,aD,aA,zaK hlt (show o.Text.length<=maxi by unfold maxi;omega)]
  rw[zbH (by simp only[aL,List.length_nil];omega),aA,zbH (by simp only[List.length_append,aL,List.length_nil];omega),aA,
   zgs ht n (i+1) m _ (by omega) (by omega) (by simp only[List.length_append,aL,List.length_nil];omega),hbe]
  simp
theorem zcy: ∀ t:List Str,(zau t).length=Bk.bulk t
 | []=>rfl
 |x::t=>by
  have ih:=zcy t
  have h1:zau (x::t)=(124::x)++zau t:=rfl
  have h2:Bk.bulk (x::t)=(t.length+1)+(x.length+zan Bk.bulk t):=rfl
  have h3:Bk.bulk t=t.length+zan Bk.bulk t:=rfl
  rw[h1,List.length_append,ih,aL,h2,h3]
  omega
theorem zeH (k:Nat)(hk:k<16):zc7 (k:Int)=some (Lib.decDigits k):=by
 have hd:Lib.decDigits k=if k<10 then [UInt8.ofNat (48+k)] else [UInt8.ofNat (48+k / 10),UInt8.ofNat (48+k % 10)]:=by
  rw[Lib.decDigits]
  split
  ·rfl
  ·rw[Lib.decDigits,dif_pos (by omega)]
   rfl
 rw[hd]
 clear hd
 revert k
 decide+kernel
theorem zdO (k:Nat)(hk:k<16):(Lib.decDigits k).length<=2:=by
 rw[Lib.decDigits]
 split
 ·simp
 ·rw[Lib.decDigits,dif_pos (by omega)];simp
def zav:List Str:=[[],[115,101,116],[100,114,111,112],[109,111,118,101],[102,111,114,107],[117,110,105,116,101],[112,105,99,107],[98,97,99,107]]
theorem zbx {s:Str}(h:zaj s=true):s.length<=6:=by
 unfold zaj at h
 simp only[aG,decide_eq_true_eq]at h
 omega
theorem zdY {o:Op}(h:opB o=true):o.Branch.length<=6/\o.Who.length<=6/\(o.Kind=1\/o.Kind=2\/o.Kind=3\/o.Kind=4\/o.Kind=5\/((o.Kind=6\/o.Kind=7)/\0<=o.At/\o.At<=15)):=by
 unfold opB at h
 simp only[aG]at h
 obtain⟨h1,h2,h3⟩:=h
 refine⟨zbx h1,zbx h2,?_⟩
 cases e1:o.Kind==1 with
 |true=>exact .inl (by simpa using e1)
 |false=>
 rw[e1,aC]at h3
 cases e2:o.Kind==2 with
 |true=>exact .inr (.inl (by simpa using e2))
 |false=>
 rw[e2,aC]at h3
 cases e3:o.Kind==3 with
 |true=>exact .inr (.inr (.inl (by simpa using e3)))
 |false=>
 rw[e3,aC]at h3
 cases e4:o.Kind==4 with
 |true=>exact .inr (.inr (.inr (.inl (by simpa using e4))))
 |false=>
 cases e5:o.Kind==5 with
 |true=>exact .inr (.inr (.inr (.inr (.inl (by simpa using e5)))))
 |false=>
 rw[e4,e5,Bool.or_false,aC]at h3
 cases e6:(o.Kind==6||o.Kind==7)with
 |false=>rw[e6,aC]at h3;cases h3
 |true=>
  rw[e6,aD]at h3
  simp only[aG,decide_eq_true_eq]at h3
  exact .inr (.inr (.inr (.inr (.inr ⟨by simpa using e6,h3.1.1,h3.1.2⟩))))
def za7 (o:Op):Str:=
 let w:=zav.getD o.Kind.toNat []++[32]++o.Branch++[32]++o.Who++[32]
 bif o.Kind==1 then w++o.Path++[32]++zau o.Text
 else bif o.Kind==2 then w++o.Path
 else bif o.Kind==3 then w++o.Path++[32]++o.To
 else bif o.Kind==4||o.Kind==5 then w++o.To
 else w++Lib.decDigits o.At.toNat
theorem zeI {o:Op}(h:OpFit o)(ho:opB o=true):zbE o=some (za7 o):=by
 obtain⟨hb,hw,hk⟩:=zdY ho
 have hp:=h.path
 have ht:=h.to
 have hx:=h.text
 have hl:=zar hx
 have hbl:=zcy o.Text
 have hj:zba o.Text=some (zau o.Text):=by
  unfold zba
  simp only[jn,zcD]
  have:=zeG (t:=o.Text) (by omega) o.Text.length 0 (o.Text.length+1) [] (by omega) (by omega) (by rw[List.drop_zero,hbl];simp;omega)
  simpa using this
 unfold zbE za7 zbu
 rcases hk with e |e |e |e |e |⟨e |e,h0,h1⟩
 all_goals simp only[e,aA,jn]
 all_goals simp (disch:=(simp only[List.length_append,aL,List.length_nil];omega)) only[gi,zav,zbH,aA,hj,Int.reduceToNat,Int.reduceLE,↓reduceIte,List.getElem?_cons_succ,List.getElem?_cons_zero,List.getD_cons_succ,List.getD_cons_zero,Int.reduceBEq,aD,aC,Bool.or_false,Bool.or_true,Bool.false_or]
 all_goals
  have hd:=zdO o.At.toNat (by omega)
  have hi:strconv_Itoa o.At=some (Lib.decDigits o.At.toNat):=by unfold strconv_Itoa;rw[if_pos ⟨by omega,by omega⟩]
  rw[hi,aA,zbH (by simp only[List.length_append,aL,List.length_nil];omega),aA]
theorem zfq {o:Op}(h:OpFit o)(ho:opB o=true):zbk o=some (za7 o):=by
 obtain⟨hb,hw,hk⟩:=zdY ho
 have hp:=h.path
 have ht:=h.to
 have hx:=h.text
 have hl:=zar hx
 have hbl:=zcy o.Text
 have hj: ∀ out:Str,out.length<=10000000->zat o (fun y=>some y) (o.Text.length+1) out 0=some (out++zau o.Text):=fun out hout=>by
  have:=zgs (o:=o) (by omega) o.Text.length 0 (o.Text.length+1) out (by omega) (by omega) (by rw[List.drop_zero,hbl];omega)
  simpa using this
 unfold zbk za7 zbc
 rcases hk with e |e |e |e |e |⟨e |e,h0,h1⟩
 all_goals simp only[e,aA,jn,zcD]
 all_goals simp (disch:=(simp only[List.length_append,aL,List.length_nil];omega)) only[gi,zav,zbH,aA,hj,Int.reduceToNat,Int.reduceLE,↓reduceIte,List.getElem?_cons_succ,List.getElem?_cons_zero,List.getD_cons_succ,List.getD_cons_zero,Int.reduceBEq,aD,aC,Bool.or_false,Bool.or_true,Bool.false_or]
 all_goals
  have hd:=zdO o.At.toNat (by omega)
  have hi:zc7 o.At=some (Lib.decDigits o.At.toNat):=by
   have:=zeH o.At.toNat (by omega)
   rwa [Int.toNat_of_nonneg h0]at this
  rw[hi,aA,zbH (by simp only[List.length_append,aL,List.length_nil];omega),aA]
def zby (o:Op):Str:=bif opB o then za7 o else []
theorem zef {o:Op}(h:OpFit o):zce o=some (zby o):=by
 unfold zce zby
 rw[zdo h,aA]
 cases ho:opB o with
 |false=>rfl
 |true=>rw[aK,aC,zeI h ho];rfl
theorem zeg {o:Op}(h:OpFit o):zbT o=some (zby o):=by
 unfold zbT zby
 rw[zdI h,aA]
 cases ho:opB o with
 |false=>rfl
 |true=>rw[aK,aC,zfq h ho];rfl
structure FB (f:File):Prop where
 path:f.Path.length<=1048576
 len:f.Text.length<=1048576
 text:Bk.fit f.Text
def TB (t:List File):Prop:=t.length<=1048576 /\ ∀ f∈t,FB f
theorem TB.maxi {t:List File}(h:TB t):t.length<=maxi:=zbR h.1
theorem TB.nil:TB []:=⟨by simp,fun f hf=>by simp at hf⟩
def zcj:File:=⟨[],[]⟩
theorem zcG {t:List File}{i:Nat}{f:File}(h:t[i]? =some f):t.getD i zcj=f:=by simp[List.getD,h]
def zeJ (t:List File)(i:Nat):Bool:=zay (t.getD i zcj).Path&&(zac (t.getD i zcj).Text&&(bif decide (0< (i:Int)) then Op.bytesLess (t.getD (i-1) zcj).Path (t.getD i zcj).Path else true))
def zfh (t:List File)(i:Nat):Bool:=zeJ t i&&t.all fun f=> !zdD (t.getD i zcj).Path f.Path
def zaV (t:List File):Bool:=decide ((t.length:Int)<=8)&&zfL (zfh t) 0 t.length
structure CB (c:Commit):Prop where
 par:c.Parents.length<=1048576
 who:c.Who.length<=1048576
 tree:TB c.Tree
structure RpB (r:Repo):Prop where
 coms:r.Commits.length<=1048576
 com: ∀ c∈r.Commits,CB c
 heads:r.Heads.length<=1048576
 head: ∀ h∈r.Heads,h.Name.length<=1048576
theorem RpB.cat {r:Repo}(h:RpB r){i:Nat}{c:Commit}(hc:r.Commits[i]? =some c):CB c:=h.com c (aH hc)
def zcU:Head:=⟨[],0⟩
theorem zcv {t:List Head}{i:Nat}{f:Head}(h:t[i]? =some f):t.getD i zcU=f:=by simp[List.getD,h]
def upB (i p:Int):Bool:=decide (0<=p)&&decide (p<=i-1)
def zkq (ps:List Int):Bool:=match ps with
 | [p,q]=> !(p==q)
 |_=>true
def zhD (i:Int)(c:Commit):Bool:=c.Parents.all (upB i)&&(decide ((c.Parents.length:Int)<=2)&&(zkq c.Parents&&(zaj c.Who&&zaV c.Tree)))
def noCommit:Commit:=⟨[],[],[]⟩
def zgV (cs:List Commit):Bool:=zfL (fun i=>zhD i (cs.getD i noCommit)) 0 cs.length
def zfC (n:Nat)(hs:List Head)(i:Nat):Bool:=zaj (hs.getD i zcU).Name&&(upB n (hs.getD i zcU).At&&(bif decide (0< (i:Int)) then Op.bytesLess (hs.getD (i-1) zcU).Name (hs.getD i zcU).Name else true))
def zdu (n:Nat)(hs:List Head):Bool:=zfL (zfC n hs) 0 hs.length&&decide ((hs.length:Int)<=5)
def zab (r:Repo):Bool:=decide ((r.Commits.length:Int)<=16)&&(zgV r.Commits&&zdu r.Commits.length r.Heads)
theorem zcm {t:List Commit}{i:Nat}{f:Commit}(h:t[i]? =some f):t.getD i noCommit=f:=by simp[List.getD,h]
def zcw (n:Str)(a:Int):Bool->List Head->List Head
 |put,[]=>bif put then [] else [⟨n,a⟩]
 |put,h::hs=>(bif !put && !Op.bytesLess h.Name n then [⟨n,a⟩] else [])++((bif h.Name !=n then [h] else [])++zcw n a (put || !Op.bytesLess h.Name n) hs)
theorem zcz (n:Str)(a:Int): ∀ (hs:List Head) (put:Bool),(zcw n a put hs).length+(bif put then 1 else 0)<=hs.length+1
 | [],put=>by cases put<;>simp[zcw]
 |h::hs,put=>by
  have ih:=zcz n a hs (put || !Op.bytesLess h.Name n)
  unfold zcw
  cases put<;>cases hb:Op.bytesLess h.Name n<;>cases hn:(h.Name !=n)<;>simp[hb]at ih ⊢ <;>omega
theorem putH_mem (n:Str)(a:Int): ∀ (hs:List Head) (put:Bool) (x:Head),x∈zcw n a put hs->x∈hs\/x=⟨n,a⟩
 | [],put,x,h=>by cases put<;>simp[zcw]at h;exact .inr h
 |h::hs,put,x,hx=>by
  unfold zcw at hx
  rcases List.mem_append.1 hx with h1 |h1
  ·cases hc:(!put && !Op.bytesLess h.Name n)with
   |true=>rw[hc]at h1;simp at h1;exact .inr h1
   |false=>rw[hc]at h1;simp at h1
  ·rcases List.mem_append.1 h1 with h2 |h2
   ·cases hc:(h.Name !=n)with
    |true=>rw[hc]at h2;simp at h2;exact .inl (by rw[h2];simp)
    |false=>rw[hc]at h2;simp at h2
   ·rcases putH_mem n a hs _ x h2 with h3 |h3
    ·exact .inl (List.mem_cons_of_mem _ h3)
    ·exact .inr h3
def headR (r:Repo)(n:Str)(a:Int):Repo:=⟨r.Commits,zcw n a false r.Heads⟩
theorem RpB.headR {r:Repo}(h:RpB r)(hs:r.Heads.length<=100000){n:Str}(hn:n.length<=1048576)(a:Int):RpB (headR r n a):=
 ⟨h.coms,h.com,by have:=zcz n a r.Heads false;simp at this;show(zcw n a false r.Heads).length<=_;omega,fun x hx=>by
  rcases putH_mem n a r.Heads false x hx with h1 |h1
  ·exact h.head x h1
  ·rw[h1];exact hn⟩
theorem zas {r:Repo}(h:zab r=true):r.Commits.length<=16/\r.Heads.length<=5:=by
 unfold zab zdu at h
 simp only[aG,decide_eq_true_eq]at h
 omega
def za2:Repo:=⟨[],[]⟩
theorem zbz {t:List File}(h:zaV t=true):t.length<=8:=by
 unfold zaV at h
 simp only[aG,decide_eq_true_eq]at h
 omega
theorem zcA {r:Repo}(h:zab r=true){i:Nat}(hi:i<r.Commits.length):zhD i (r.Commits.getD i noCommit)=true:=by
 unfold zab zgV at h
 simp only[aG]at h
 exact zaF.1 h.2.1 i (Nat.zero_le _) (by omega)
def zag (r:Repo)(i:Nat):List Int:=(r.Commits.getD i noCommit).Parents
theorem zc3 {r:Repo}(h:zab r=true){x:Head}(hx:x∈r.Heads):0<=x.At/\x.At<=(r.Commits.length:Int)-1/\zaj x.Name=true:=by
 obtain⟨i,hi⟩:=List.mem_iff_getElem?.1 hx
 unfold zab zdu at h
 simp only[aG]at h
 have:=zaF.1 h.2.2.1 i (Nat.zero_le _) (by have:=za8 hi;omega)
 unfold zfC upB at this
 rw[zcv hi]at this
 simp only[aG,decide_eq_true_eq]at this
 exact⟨this.2.1.1,this.2.1.2,this.1⟩
def zcH (t:List File):Prop:= ∀ f∈t,zac f.Text=true
theorem zbe {t:List File}(h:zaV t=true):zcH t:=by
 intro f hf
 obtain⟨i,hi⟩:=List.mem_iff_getElem?.1 hf
 unfold zaV at h
 simp only[aG]at h
 have:=zaF.1 h.2 i (Nat.zero_le _) (by have:=za8 hi;omega)
 unfold zfh zeJ at this
 rw[zcG hi]at this
 simp only[aG]at this
 exact this.1.2.1
theorem zbh {t:List File}(h:zaV t=true){f:File}(hf:f∈t):zay f.Path=true:=by
 obtain⟨i,hi⟩:=List.mem_iff_getElem?.1 hf
 unfold zaV at h
 simp only[aG]at h
 have:=zaF.1 h.2 i (Nat.zero_le _) (by have:=za8 hi;omega)
 unfold zfh zeJ at this
 rw[zcG hi]at this
 simp only[aG]at this
 exact this.1.1
theorem zde (c:UInt8): ∀ (r w:Str),w.length+r.length+1=zan (fun p=>p.length+1) (curS c w r)
 | [],w=>by simp[curS,zan]
 |x::r,w=>by
  unfold curS
  cases x==c with
  |true=>
   rw[aD]
   have:=zde c r []
   simp only[zan,List.length_nil,aL]at this ⊢
   omega
  |false=>
   rw[aC]
   have:=zde c r (w++[x])
   simp only[List.length_append,aL,List.length_nil]at this ⊢
   omega
theorem zgt {c:Nat}: ∀ {l:List Str},(∀ p∈l,p.length+1<=c)->zan (fun p=>p.length+1) l<=c*l.length
 | [],_=>by simp[zan]
 |x::l,h=>by
  have h1:=h x (by simp)
  have h2:=zgt (c:=c) (l:=l) (fun p hp=>h p (List.mem_cons_of_mem _ hp))
  simp only[zan,aL,Nat.mul_add,Nat.mul_one]
  omega
theorem zbb {s:Str}(h:zaj s=true):s.length<=6:=by
 unfold zaj at h
 simp only[aG,decide_eq_true_eq]at h
 omega
theorem zbA {s:Str}(h:zay s=true):s.length<=20:=by
 unfold zay at h
 simp only[aG,decide_eq_true_eq,List.all_eq_true]at h
 have h1:=zde 47 s []
 have h2:=zgt (c:=7) (l:=curS 47 [] s) (fun p hp=>by have:=zbb (h.2 p hp);omega)
 simp only[List.length_nil]at h1
 omega
structure Gd (q:Prop) (r:Repo):Prop where
 rb:RpB r
 ok:zab r=true
 hd:q->r.Commits≠ []->r.Heads≠ []
variable {q:Prop}
def zah (r:Repo)(i:Nat):List File:=(r.Commits.getD i noCommit).Tree
theorem Gd.tree {r:Repo}(h:Gd q r){i:Nat}(hi:i<r.Commits.length):TB (zah r i)/\zaV (zah r i)=true/\zcH (zah r i)/\(zah r i).length<=8:=by
 have hx:r.Commits[i]? =some r.Commits[i]:=aB hi
 have h1:zaV (zah r i)=true:=by
  have:=zcA h.ok hi
  unfold zhD at this
  simp only[aG]at this
  exact this.2.2.2.2
 refine⟨?_,h1,zbe h1,zbz h1⟩
 unfold zah
 rw[zcm hx]
 exact(h.rb.cat hx).tree
theorem zen (n:Str)(a:Int): ∀ (hs:List Head),zcw n a false hs≠ []
 | []=>by simp[zcw]
 |h::hs=>by
  unfold zcw
  cases hb:Op.bytesLess h.Name n
  ·simp
  ·have:=zen n a hs
   cases(h.Name !=n)<;>simp[this]
theorem Gd.head {r:Repo}(h:Gd q r){n:Str}{b:Int}(hn:n.length<=1048576)(ho:zab (headR r n b)=true):Gd q (headR r n b):=by
 obtain⟨s1,s2⟩:=zas h.ok
 exact⟨h.rb.headR (by omega) hn b,ho,fun _ _=>zen _ _ _⟩
end Go.Vm
namespace Go.Vm
open Go Go.Sx
set_option linter.unusedSimpArgs false
set_option linter.unusedVariables false
def OpL (o:Op):Prop:=Bk.fit o/\Bk.bulk o<=1000000
section
variable {r:l30Rd}{p:Int}
theorem zcW {q k:Int}(h:zci r p)(hk:0<=k)(hq:p+k<=q):zci ⟨r.b,r.p+k⟩ q:=h.on k hk (by have:=h.2.2;omega)
theorem zdv (h:zci r p)(hp:p<=1000000000): ∃ s,za0 r=some (s,r.p+1)/\s.length<=10:=by
 unfold za0
 obtain⟨s,e,hm⟩:=zdG h (by omega) (l:=[([109,97,105,110]:Str),([109,97,105,110]:Str),([115,105,100,101]:Str),([100,101,118]:Str)]) (by simp) (by simp)
 refine⟨s,by rw[e];rfl,?_⟩
 simp only[List.mem_cons,List.not_mem_nil,or_false]at hm
 rcases hm with e |e |e |e<;>rw[e]<;>simp
theorem zeK (h:zci r p)(hp:p<=1000000000): ∃ s,za3 r=some (s,r.p+1)/\s.length<=10:=by
 unfold za3
 obtain⟨s,e,hm⟩:=zdG h (by omega) (l:=[([97]:Str),([98]:Str),([100,47,101]:Str),([100,47,102]:Str),([103,47,104,47,105]:Str),([103,47,107]:Str),([122]:Str)]) (by simp) (by simp)
 refine⟨s,by rw[e];rfl,?_⟩
 simp only[List.mem_cons,List.not_mem_nil,or_false]at hm
 rcases hm with e |e |e |e |e |e |e<;>rw[e]<;>simp
theorem zcI {k a:Int}{b w q t:Str}{l:List Str}(hk:0<=k/\k<=100)(ha:0<=a/\a<=100)(h1:b.length<=10)(h2:w.length<=10)(h3:q.length<=10)(h4:t.length<=10)(h5:LB 8 l):OpL ⟨k,b,w,q,t,a,l⟩:=by
 have hb:=h5.bulk
 refine⟨⟨?_,?_,?_,?_,?_,?_,h5.fit (by omega)⟩,?_⟩
 ·show -9223372036854775808<=k/\k<=9223372036854775807;omega
 ·show b.length<=maxi;unfold maxi;omega
 ·show w.length<=maxi;unfold maxi;omega
 ·show q.length<=maxi;unfold maxi;omega
 ·show t.length<=maxi;unfold maxi;omega
 ·show -9223372036854775808<=a/\a<=9223372036854775807;omega
 ·show 0+(b.length+(w.length+(q.length+(t.length+(0+Bk.bulk l)))))<=_
  omega
theorem zc6:LB 8 ([]:List Str):=⟨by simp,fun s hs=>by simp at hs⟩
theorem zlg (h:zci r p)(hp:p<=1000000): ∃ o q,zcc r=some (o,q)/\OpL o/\zci ⟨r.b,q⟩ (p+100):=by
 unfold zcc
 obtain⟨b,e1,hb⟩:=zdv h (by omega)
 have h1:=zcW (q:=p+1) h (k:=1) (by omega) (by omega)
 obtain⟨w,e2,hw⟩:=zdG h1 (by omega) (l:=[([97,110,110]:Str),([98,111,98]:Str),([99,105,100]:Str)]) (by simp) (by simp)
 have hwl:w.length<=10:=by
  simp only[List.mem_cons,List.not_mem_nil,or_false]at hw
  rcases hw with e |e |e<;>rw[e]<;>simp
 have h2:=zcW (q:=p+2) h1 (k:=1) (by omega) (by omega)
 obtain⟨k,e3,k0,k1⟩:=zbN h2 (n:=12) (by omega) (by omega) (by omega)
 have h3:=zcW (q:=p+3) h2 (k:=1) (by omega) (by omega)
 rw[e1,aA,e2,aA]
 simp only[jn,e3,aA]
 obtain⟨pa,e4,hpa⟩:=zeK h3 (by omega)
 have h4:=zcW (q:=p+4) h3 (k:=1) (by omega) (by omega)
 obtain⟨pb,e5,hpb⟩:=zeK h4 (by omega)
 have h5:=zcW (q:=p+5) h4 (k:=1) (by omega) (by omega)
 obtain⟨fo,e6,hfo⟩:=zdG h3 (by omega) (l:=[([115,105,100,101]:Str),([100,101,118]:Str),([111,108,100]:Str)]) (by simp) (by simp)
 have hfl:fo.length<=10:=by
  simp only[List.mem_cons,List.not_mem_nil,or_false]at hfo
  rcases hfo with e |e |e<;>rw[e]<;>simp
 obtain⟨br,e7,hbr⟩:=zdv h3 (by omega)
 obtain⟨n,e8,n0,n1⟩:=zbN h3 (n:=10) (by omega) (by omega) (by omega)
 obtain⟨t,q,e9,ht,hq⟩:=zgT h4 (by omega)
 simp only[e4,e5,e6,e7,e8,e9,aA]
 have g4:zci ⟨r.b,r.p+1+1+1+1⟩ (p+100):=zcW h3 (by omega) (by omega)
 have g5:zci ⟨r.b,r.p+1+1+1+1+1⟩ (p+100):=zcW h4 (by omega) (by omega)
 have gq:zci ⟨r.b,q⟩ (p+100):=⟨hq.1,hq.2.1,by have:=hq.2.2;show q<=_;have e:(⟨r.b,q⟩:l30Rd).p=q:=rfl;rw[e]at this;omega⟩
 cases k==0 with
 |true=>exact⟨_,_,rfl,zcI (by omega) (by omega) hb hwl hpa (by simp) zc6,g4⟩
 |false=>
 cases k==1 with
 |true=>exact⟨_,_,rfl,zcI (by omega) (by omega) hb hwl hpa hpb zc6,g5⟩
 |false=>
 have hfork:=zcI (k:=4) (a:=0) (by omega) (by omega) hb hwl (q:=[]) (by simp) hfl zc6
 have huni:=zcI (k:=5) (a:=0) (by omega) (by omega) hb hwl (q:=[]) (by simp) hbr zc6
 have hset:=zcI (k:=1) (a:=0) (by omega) (by omega) hb hwl hpa (t:=[]) (by simp) ht
 cases k==2 with
 |true=>exact⟨_,_,rfl,hfork,g4⟩
 |false=>
 cases k==3 with
 |true=>exact⟨_,_,rfl,hfork,g4⟩
 |false=>
 cases k==4 with
 |true=>exact⟨_,_,rfl,huni,g4⟩
 |false=>
 cases k==5 with
 |true=>exact⟨_,_,rfl,huni,g4⟩
 |false=>
 cases k==6 with
 |true=>exact⟨_,_,rfl,huni,g4⟩
 |false=>
 cases k==7 with
 |true=>exact⟨_,_,rfl,zcI (by omega) (by omega) hb hwl (by simp) (by simp) zc6,g4⟩
 |false=>
 cases k==8 with
 |true=>exact⟨_,_,rfl,zcI (by omega) (by omega) hb hwl (by simp) (by simp) zc6,g4⟩
 |false=>exact⟨_,_,rfl,hset,gq⟩
structure Drawn (r:Repo):Prop where
 rb:RpB r
 coms:r.Commits.length<=16
 heads:r.Heads.length<=6
theorem Gd.drawn {r:Repo}(h:Gd True r):Drawn r:=by
 obtain⟨s1,s2⟩:=zas h.ok
 exact⟨h.rb,s1,by omega⟩
theorem zlh {code:List Byte}(h:code.length<=1048576): ∃ b:List Byte,zaX code=some ⟨b,0⟩/\zci ⟨b,0⟩ 0:=by
 obtain⟨b,e,hb⟩:=zgR h
 exact⟨b,e,hb,by show(0:Int)<=0;omega,by show(0:Int)<=0;omega⟩
end
inductive Rc (r:Repo):Nat->Nat->Prop
 |refl (a:Nat):Rc r a a
 |step {a b:Nat} {p:Int}:Rc r a b->p∈zag r b->Rc r a p.toNat
theorem Rc.trans {r:Repo}{a b c:Nat}(h:Rc r a b)(k:Rc r b c):Rc r a c:=by
 induction k with
 |refl=>exact h
 |step _ hp ih=>exact Rc.step ih hp
theorem Rc.head {r:Repo}{a c:Nat}(h:Rc r a c):c=a \/ ∃ p∈zag r a,Rc r p.toNat c:=by
 induction h with
 |refl=>exact .inl rfl
 | @step b p hb hp ih=>
  rcases ih with e |⟨q,hq,hc⟩
  ·subst e
   exact .inr ⟨p,hp,Rc.refl _⟩
  ·exact .inr ⟨q,hq,Rc.step hc hp⟩
theorem TB.of {t:List File}(hf:Bk.fit t)(h:Bk.bulk t<=1048576):TB t:=⟨zar h,fun f hm=>by
 have h1:Bk.bulk f<=1048576:=zc1 h hm
 have h2:Bk.bulk f=f.Path.length+Bk.bulk f.Text:=rfl
 exact⟨by omega,zar (show Bk.bulk f.Text<=1048576 by omega),(hf.2 f hm).2⟩⟩
theorem RpB.of {r:Repo}(hf:Bk.fit r)(h:Bk.bulk r<=1048576):RpB r:=by
 have h0:Bk.bulk r=Bk.bulk r.Commits+Bk.bulk r.Heads:=rfl
 have hc:Bk.bulk r.Commits<=1048576:=by omega
 have hh:Bk.bulk r.Heads<=1048576:=by omega
 refine⟨zar hc,fun c hm=>?_,zar hh,fun x hm=>?_⟩
 ·have h1:Bk.bulk c<=1048576:=zc1 hc hm
  have h2:Bk.bulk c=Bk.bulk c.Parents+(c.Who.length+Bk.bulk c.Tree):=rfl
  exact⟨zar (show Bk.bulk c.Parents<=1048576 by omega),by omega,TB.of (hf.1.2 c hm).2.2 (by omega)⟩
 ·have h1:Bk.bulk x<=1048576:=zc1 hh hm
  have h2:Bk.bulk x=x.Name.length+0:=rfl
  omega
def zeL (p:Int):Prop:= -9223372036854775808<=p/\p<=9223372036854775807
section
variable {r:Repo}{has:List Int}{sent:List Commit}
end
set_option linter.unusedSectionVars false
structure SentB (sent:List Commit):Prop where
 len:sent.length<=16
 cb: ∀ c∈sent,CB c
 fit: ∀ c∈sent,∀ p∈c.Parents,zeL p
theorem SentB.take {sent:List Commit}(h:SentB sent)(k:Nat):SentB (sent.take k):=
 ⟨Nat.le_trans (List.length_take_le' k sent) h.len,fun c hc=>h.cb c (List.mem_of_mem_take hc),fun c hc=>h.fit c (List.mem_of_mem_take hc)⟩
section
variable {x:Repo}(hr:zab x=true){a b:Int}(ha:upB x.Commits.length a=true)(hb:upB x.Commits.length b=true)
include hr ha
include hb
end
theorem zbB {α:Type}{f:α->Nat}{c:Nat}: ∀ {t:List α},(∀ s∈t,f s<=c)->zan f t<=c*t.length
 | [],_=>by simp[zan]
 |x::t,h=>by
  have h1:=h x (by simp)
  have h2:=zbB (t:=t) (fun s hs=>h s (by simp[hs]))
  simp only[zan,aL,Nat.mul_add,Nat.mul_one]
  omega
theorem zfD {t:List Str}(h:zac t=true):Bk.bulk t<=130:=by
 have hl:=zaZ h
 have hs:zan Bk.bulk t<=12*t.length:=zbB fun s hs=>by
  have:=zc9 (zbd h s hs)
  show s.length<=12
  omega
 show t.length+zan Bk.bulk t<=130
 omega
theorem zfE {t:List File}(h:zaV t=true):Bk.bulk t<=1208:=by
 have hl:=zbz h
 have hs:zan Bk.bulk t<=150*t.length:=zbB fun f hf=>by
  have h1:=zbA (zbh h hf)
  have h2:=zfD (zbe h f hf)
  show f.Path.length+Bk.bulk f.Text<=150
  omega
 show t.length+zan Bk.bulk t<=1208
 omega
theorem zgu {r:Repo}(h:zab r=true){c:Commit}(hc:c∈r.Commits):c.Parents.length<=2/\(∀ p∈c.Parents,0<=p/\p<=16)/\zaj c.Who=true/\zaV c.Tree=true:=by
 obtain⟨i,hi⟩:=List.mem_iff_getElem?.1 hc
 have hil:=za8 hi
 have s1:=(zas h).1
 have:=zcA h (i:=i) (by omega)
 rw[zcm hi]at this
 unfold zhD at this
 simp only[aG,decide_eq_true_eq,List.all_eq_true]at this
 refine⟨by omega,fun p hp=>?_,this.2.2.2.1,this.2.2.2.2⟩
 have h1:=this.1 p hp
 unfold upB at h1
 simp only[aG,decide_eq_true_eq]at h1
 omega
theorem zfF {r:Repo}(h:zab r=true):Bk.bulk r<=20000:=by
 obtain⟨s1,s2⟩:=zas h
 have h1:zan Bk.bulk r.Commits<=1218*r.Commits.length:=zbB fun c hc=>by
  obtain⟨c1,_,c3,c4⟩:=zgu h hc
  have:=zbb c3
  have:=zfE c4
  have hp:zan Bk.bulk c.Parents<=0*c.Parents.length:=zbB fun p hp=>Nat.le_refl 0
  show c.Parents.length+zan Bk.bulk c.Parents+(c.Who.length+Bk.bulk c.Tree)<=1218
  omega
 have h2:zan Bk.bulk r.Heads<=6*r.Heads.length:=zbB fun x hx=>by
  have:=zbb (zc3 h hx).2.2
  show x.Name.length+0<=6
  omega
 show r.Commits.length+zan Bk.bulk r.Commits+(r.Heads.length+zan Bk.bulk r.Heads)<=20000
 omega
theorem zfG {t:List File}(h:zaV t=true):Bk.fit t:=⟨by have:=zbz h;unfold maxi;omega,fun f hf=>⟨by have:=zbA (zbh h hf);show f.Path.length<=maxi;unfold maxi;omega,by
 have h1:=zbe h f hf
 have h2:=zaZ h1
 exact zee (by omega) (zbd h1)⟩⟩
theorem zfH {r:Repo}(h:zab r=true):Bk.fit r:=by
 obtain⟨s1,s2⟩:=zas h
 refine⟨⟨by unfold maxi;omega,fun c hc=>?_⟩,by unfold maxi;omega,fun x hx=>?_⟩
 ·obtain⟨c1,c2,c3,c4⟩:=zgu h hc
  refine⟨⟨by unfold maxi;omega,fun p hp=>?_⟩,by have:=zbb c3;show c.Who.length<=maxi;unfold maxi;omega,zfG c4⟩
  have:=c2 p hp
  show -9223372036854775808<=p/\p<=9223372036854775807
  omega
 ·obtain⟨h1,h2,h3⟩:=zc3 h hx
  refine⟨by have:=zbb h3;show x.Name.length<=maxi;unfold maxi;omega,?_⟩
  show -9223372036854775808<=x.At/\x.At<=9223372036854775807
  omega
section
variable {r:Repo}(h:RpB r)(hr:zab r=true)
include h hr
end
def zkr (r:Repo)(n:Str)(x:Repo):Prop:=x=r\/x=za2\/zab x=true
theorem zkr.bulk {r x:Repo}{n:Str}(h:zkr r n x):Bk.bulk x<=Bk.bulk r+20000:=by
 rcases h with h |h |h
 ·rw[h];omega
 ·rw[h];show 0+0+(0+0)<=_;omega
 ·have:=zfF h;omega
theorem zkr.fit {r x:Repo}{n:Str}(hf:Bk.fit r)(h:zkr r n x):Bk.fit x:=by
 rcases h with h |h |h
 ·rw[h];exact hf
 ·rw[h];exact⟨⟨by simp[za2,maxi],by simp[za2]⟩,by simp[za2,maxi],by simp[za2]⟩
 ·exact zfH h
def OD (n:Nat)(l:List Owner):Prop:=l.length<=n /\ ∀ o∈l,o.Path.length<=10/\o.Who.length<=10
theorem OD.fit {n:Nat}{l:List Owner}(h:OD n l)(hn:n<=1000):Bk.fit l:=⟨by have:=h.1;unfold maxi;omega,fun o ho=>by
 have:=h.2 o ho
 exact⟨by show o.Path.length<=maxi;unfold maxi;omega,by show o.Who.length<=maxi;unfold maxi;omega⟩⟩
theorem zdZ {c:UInt8}: ∀ (w v r:Str),c∉w->curS c v (w++r)=curS c (v++w) r
 | [],v,r,_=>by simp
 |x::w,v,r,h=>by
  have hx:(x==c)=false:=beq_false_of_ne fun e=>h (by simp[e])
  rw[List.cons_append]
  conv=>lhs;unfold curS
  rw[hx,aC,zdZ w _ r fun e=>h (List.mem_cons_of_mem _ e)]
  simp
theorem zdf {c:UInt8}{n:Nat}: ∀ (w v r:Str),c∉w->zaD c n v (w++r)=zaD c n (v++w) r
 | [],v,r,_=>by simp
 |x::w,v,r,h=>by
  cases n with
  |zero=>rw[zaA,zaA];simp
  |succ n=>
   have hx:(x==c)=false:=beq_false_of_ne fun e=>h (by simp[e])
   rw[List.cons_append]
   conv=>lhs;unfold zaD
   rw[hx,aC,zdf w _ r fun e=>h (List.mem_cons_of_mem _ e)]
   simp
theorem zbr {c:UInt8}{n:Nat}{w r:Str}(h:c∉w):zaD c (n+1) [] (w++c::r)=w::zaD c n [] r:=by
 rw[zdf w [] _ h]
 simp[zaD]
theorem zbs {c:UInt8}{n:Nat}{w:Str}(h:c∉w):zaD c n [] w=[w]:=by
 have:=zdf (n:=n) w [] [] h
 rw[List.append_nil]at this
 rw[this]
 simp[zaD]
theorem zb9 (c:UInt8): ∀ (r:Str) (k:Nat) (w:Str),c∉w->Lib.splitK [c] 0 k (w++r)=zaD c k w r
 |r,0,w,h=>by rw[zaA];rfl
 | [],k+1,w,h=>by
  rw[List.append_nil]
  unfold Lib.splitK zaD
  rw[if_pos (by rw[zcE h];rfl)]
 |x::r,k+1,w,h=>by
  unfold zaD
  cases hx:x==c with
  |true=>
   have e:x=c:=by simpa using hx
   subst e
   have hi:=zdb (r:=r) h
   rw[aD]
   unfold Lib.splitK
   rw[if_neg (by rw[hi];simp),hi]
   have e1:(w++x::r).take (((w.length:Nat):Int).toNat+0)=w:=by simp
   have e2:(w++x::r).drop (((w.length:Nat):Int).toNat+[x].length)=r:=by
    show(w++x::r).drop (w.length+1)=r
    rw[show w++x::r=(w++[x])++r by simp,List.drop_left' (by simp)]
   have ih:=zb9 x r k [] (by simp)
   rw[List.nil_append]at ih
   rw[e1,e2,ih]
  |false=>
   have hne:x≠c:=by simpa using hx
   rw[aC,show w++x::r=(w++[x])++r by simp]
   exact zb9 c r (k+1) (w++[x]) (by
    rw[List.mem_append,List.mem_singleton]
    rintro(h1 |h1)
    ·exact h h1
    ·exact hne h1.symm)
theorem zbC (c:UInt8): ∀ (r:Str) (n:Nat) (w:Str),1<=(zaD c n w r).length/\(zaD c n w r).length<=n+1
 | [],n,w=>by cases n<;>simp[zaD]
 |x::r,0,w=>by simp[zaD]
 |x::r,n+1,w=>by
  unfold zaD
  cases x==c with
  |true=>have:=zbC c r n [];rw[aD,aL];omega
  |false=>rw[aC];exact zbC c r (n+1) _
theorem zca (c:UInt8): ∀ (r:Str) (n:Nat) (w:Str),Bk.bulk (zaD c n w r)<=w.length+r.length+1
 | [],n,w=>by
  have:zaD c n w []=[w]:=by cases n<;>simp[zaD]
  rw[this]
  show 1+(w.length+0)<=_
  simp;omega
 |x::r,0,w=>by
  rw[zaA]
  show 1+((w++x::r).length+0)<=_
  simp;omega
 |x::r,n+1,w=>by
  unfold zaD
  cases x==c with
  |true=>
   have:=zca c r n []
   rw[aD]
   have e:Bk.bulk (w::zaD c n [] r)=(zaD c n [] r).length+1+(w.length+zan Bk.bulk (zaD c n [] r)):=rfl
   have e2:Bk.bulk (zaD c n [] r)=(zaD c n [] r).length+zan Bk.bulk (zaD c n [] r):=rfl
   rw[e]
   simp at this ⊢
   omega
  |false=>
   have:=zca c r (n+1) (w++[x])
   rw[aC]
   simp at this ⊢
   omega
theorem ziM (c:UInt8)(r:Str):curS c [] r=zaD c (r.length+1) [] r:=(zaB c r (r.length+1) [] (by have:=zbq c r [];simp at this ⊢;omega)).symm
theorem zdP {l:List Str}{n:Nat}(h:Bk.bulk l<=n+1)(h1:1<=l.length):Bk.bulk (l.drop 1)<=n:=by
 cases l with
 |nil=>simp at h1
 |cons x l=>
  have e:Bk.bulk (x::l)=l.length+1+(x.length+zan Bk.bulk l):=rfl
  have e2:Bk.bulk l=l.length+zan Bk.bulk l:=rfl
  rw[e]at h
  show Bk.bulk l<=n
  omega
theorem zd0: ∀ (t:List Str) (v:Str),zaU t=true->curS 124 v (zau t)=v::t
 | [],v,_=>by simp[zau,curS]
 |x::t,v,h=>by
  have h2:zeE x=true/\zaU t=true:=by simpa[zaU]using h
  have hx:(124:UInt8)∉x:=fun hm=>by
   have:=List.all_eq_true.1 h2.1 _ hm
   simp at this
  rw[show zau (x::t)=124::(x++zau t) by simp[zau]]
  conv=>lhs;unfold curS
  rw[show((124:UInt8)==124)=true by rfl,aD,zdZ x [] _ hx,List.nil_append,zd0 t x h2.2]
def kO (u:Str)(d:Int):Int:=
 bif u==[115,101,116] then 1 else bif u==[100,114,111,112] then 2 else bif u==[109,111,118,101] then 3 else bif u==[102,111,114,107] then 4
 else bif u==[117,110,105,116,101] then 5 else bif u==[112,105,99,107] then 6 else bif u==[98,97,99,107] then 7 else d
def kI (u:Str):Int:=bif u==[] then 0 else kO u (-1)
def zc4:Op:=⟨0,[],[],[],[],0,[]⟩
def zks (k:Int)(g:Nat->Str)(n:Int)(t:List Str):Op:=
 bif k==1 then⟨k,g 1,g 2,g 3,[],0,t⟩
 else bif k==2 then⟨k,g 1,g 2,g 3,[],0,[]⟩
 else bif k==3 then⟨k,g 1,g 2,g 3,g 4,0,[]⟩
 else bif k==4||k==5 then⟨k,g 1,g 2,[],g 3,0,[]⟩
 else⟨k,g 1,g 2,[],[],n,[]⟩
def zga (s:Str)(w:List Str)(o:Op):Op×Bool:=bif decide ((w.length:Int)<4) then(zc4,false) else bif opB o&&(za7 o==s) then(o,true) else(zc4,false)
def gW (w:List Str)(i:Nat):Str:=w.getD i []
def opI (w:List Str):Op:=zks (kI (gW w 0)) (gW w) (bif kI (gW w 0)==6||kI (gW w 0)==7 then zcu (gW w 3) else 0) (bif gW w 4 !=[] then(curS 124 [] (gW w 4)).drop 1 else [])
def zkt (num:Str->Int)(w:List Str):Op:=zks (kO (gW w 0) 0) (gW w) (num (gW w 3)) ((zaD 124 11 [] (gW w 4)).drop 1)
def wordsO (s:Str):List Str:=zaD 32 4 [] s
theorem zfI (s:Str):Bk.fit (zcu s):=by
 unfold zcu
 cases h:Lib.atoiAll s
 case ok v=>exact Lib.atoiAll_bounds h
 case range=>exact Lib.atoiSat_bounds s
 exact(show(-9223372036854775808:Int)<=0/\(0:Int)<=9223372036854775807 by decide)
theorem zcJ {s:Str}{c:UInt8}(h:zaj s=true)(hc:zcY c=false):c∉s:=fun hm=>by
 unfold zaj at h
 simp only[aG,List.all_eq_true]at h
 have:=h.2 c hm
 rw[hc]at this
 cases this
theorem zdg {c x:UInt8}: ∀ (r v:Str),x∈v++r->x≠c -> ∃ p∈curS c v r,x∈p
 | [],v,h,_=>⟨v,by simp[curS],by simpa using h⟩
 |y::r,v,h,hn=>by
  unfold curS
  cases hy:y==c with
  |true=>
   rw[aD]
   have e:y=c:=by simpa using hy
   rcases List.mem_append.1 h with h1 |h1
   ·exact⟨v,by simp,h1⟩
   ·rcases List.mem_cons.1 h1 with h2 |h2
    ·exact absurd (h2.trans e) hn
    ·obtain⟨p,h3,h4⟩:=zdg r [] (by simpa using h2) hn
     exact⟨p,List.mem_cons_of_mem _ h3,h4⟩
  |false=>
   rw[aC]
   exact zdg r (v++[y]) (by simpa using h) hn
theorem zdQ {s:Str}(h:zay s=true):(32:UInt8)∉s:=fun hm=>by
 unfold zay at h
 simp only[aG,List.all_eq_true]at h
 obtain⟨p,h1,h2⟩:=zdg (c:=47) s [] (by simpa using hm) (by decide)
 exact zcJ (h.2 p h1) (by decide) h2
theorem zeo (k:Nat)(hk:k<16):Lib.decDigits k=if k<10 then [UInt8.ofNat (48+k)] else [UInt8.ofNat (48+k / 10),UInt8.ofNat (48+k % 10)]:=by
 rw[Lib.decDigits]
 split
 ·rfl
 ·rw[Lib.decDigits,dif_pos (by omega)]
  rfl
theorem zeM (k:Nat)(hk:k<16):(32:UInt8)∉Lib.decDigits k/\zcu (Lib.decDigits k)=(k:Int):=by
 rw[zeo k hk]
 revert k
 decide+kernel
theorem zcK {W b w R:Str}(h1:(32:UInt8)∉W)(h2:(32:UInt8)∉b)(h3:(32:UInt8)∉w):wordsO (W++32::(b++32::(w++32::R)))=W::b::w::zaD 32 1 [] R:=by
 unfold wordsO
 rw[zbr h1,zbr h2,zbr h3]
theorem zfJ {t:List Str}(h:zac t=true):t.length<=10/\Bk.bulk t<=130:=by
 unfold zac at h
 simp only[aG,Bool.not_eq_true',decide_eq_false_iff_not]at h
 have hl:t.length<=10:=by omega
 refine⟨hl,?_⟩
 have hs:zan Bk.bulk t<=12*t.length:=zb8 fun s hs=>by
  have:=List.all_eq_true.1 h.2 s hs
  unfold zbg at this
  simp only[aG,Bool.not_eq_true',decide_eq_false_iff_not]at this
  show s.length<=12
  omega
 show t.length+zan Bk.bulk t<=130
 omega
theorem len0 {t:List Str}(h:((t.length:Int)==0)=true):t=[]:=by
 cases t with
 |nil=>rfl
 |cons a t=>simp at h;omega
theorem zep {o:Op}(ho:opB o=true){num:Str->Int}(hnum: ∀ k:Nat,k<16->num (Lib.decDigits k)=(k:Int)):opI (wordsO (za7 o))=o/\zkt num (wordsO (za7 o))=o/\4<=(wordsO (za7 o)).length/\(za7 o).length<=300/\za7 o≠ []:=by
 obtain⟨k,b,w,p,t,a,x⟩:=o
 unfold opB at ho
 simp only[aG]at ho
 obtain⟨hb,hw,h3⟩:=ho
 have nb:=zcJ hb (c:=32) (by decide)
 have nw:=zcJ hw (c:=32) (by decide)
 have lb:=zbx hb
 have lw:=zbx hw
 by_cases e1:k=1
 ·subst e1
  replace h3:(zay p&&(zac x&&(zaU x&&(t==[]&&a==0))))=true:=h3
  simp only[aG,beq_iff_eq]at h3
  obtain⟨hp,hx,hbx,rfl,rfl⟩:=h3
  have tm:=zfJ hx
  have hbl:=zcy x
  have pl:=zbA hp
  have e:za7 ⟨1,b,w,p,[],0,x⟩=[115,101,116]++32::(b++32::(w++32::(p++32::zau x))):=by
   show([115,101,116]++[32]++b++[32]++w++[32])++p++[32]++zau x=_
   simp
  have hW:wordsO (za7 ⟨1,b,w,p,[],0,x⟩)=[[115,101,116],b,w,p,zau x]:=by
   rw[e,zcK (by decide) nb nw,zbr (zdQ hp),zaA]
   rfl
  have hcur:=zd0 x [] hbx
  refine⟨?_,?_,by rw[hW];simp,by rw[e];simp;omega,by rw[e];simp⟩
  ·rw[hW]
   show(⟨1,b,w,p,[],0,bif zau x !=[] then(curS 124 [] (zau x)).drop 1 else []⟩:Op)=_
   cases x with
   |nil=>rfl
   |cons y l=>
    have:(zau (y::l) !=[])=true:=by simp[zau]
    rw[this,aD,hcur]
    rfl
  ·rw[hW]
   show(⟨1,b,w,p,[],0,(zaD 124 11 [] (zau x)).drop 1⟩:Op)=_
   rw[zaB 124 (zau x) 11 [] (by rw[hcur,aL];omega),hcur]
   rfl
 by_cases e2:k=2
 ·subst e2
  replace h3:(zay p&&(t==[]&&(a==0&&(x.length:Int)==0)))=true:=h3
  simp only[aG]at h3
  obtain⟨hp,h4,h5,h6⟩:=h3
  obtain rfl:t=[]:=by simpa using h4
  obtain rfl:a=0:=by simpa using h5
  obtain rfl:=len0 h6
  have pl:=zbA hp
  have e:za7 ⟨2,b,w,p,[],0,[]⟩=[100,114,111,112]++32::(b++32::(w++32::p)):=by
   show([100,114,111,112]++[32]++b++[32]++w++[32])++p=_
   simp
  have hW:wordsO (za7 ⟨2,b,w,p,[],0,[]⟩)=[[100,114,111,112],b,w,p]:=by
   rw[e,zcK (by decide) nb nw,zbs (zdQ hp)]
  exact⟨by rw[hW];rfl,by rw[hW];rfl,by rw[hW];simp,by rw[e];simp;omega,by rw[e];simp⟩
 by_cases e3:k=3
 ·subst e3
  replace h3:(zay p&&(zay t&&(a==0&&(x.length:Int)==0)))=true:=h3
  simp only[aG]at h3
  obtain⟨hp,ht,h5,h6⟩:=h3
  obtain rfl:a=0:=by simpa using h5
  obtain rfl:=len0 h6
  have pl:=zbA hp
  have tl:=zbA ht
  have e:za7 ⟨3,b,w,p,t,0,[]⟩=[109,111,118,101]++32::(b++32::(w++32::(p++32::t))):=by
   show([109,111,118,101]++[32]++b++[32]++w++[32])++p++[32]++t=_
   simp
  have hW:wordsO (za7 ⟨3,b,w,p,t,0,[]⟩)=[[109,111,118,101],b,w,p,t]:=by
   rw[e,zcK (by decide) nb nw,zbr (zdQ hp),zaA]
   rfl
  exact⟨by rw[hW];rfl,by rw[hW];rfl,by rw[hW];simp,by rw[e];simp;omega,by rw[e];simp⟩
 by_cases e4:k=4
 ·subst e4
  replace h3:(zaj t&&(p==[]&&(a==0&&(x.length:Int)==0)))=true:=h3
  simp only[aG]at h3
  obtain⟨ht,h4,h5,h6⟩:=h3
  obtain rfl:p=[]:=by simpa using h4
  obtain rfl:a=0:=by simpa using h5
  obtain rfl:=len0 h6
  have tl:=zbx ht
  have e:za7 ⟨4,b,w,[],t,0,[]⟩=[102,111,114,107]++32::(b++32::(w++32::t)):=by
   show([102,111,114,107]++[32]++b++[32]++w++[32])++t=_
   simp
  have hW:wordsO (za7 ⟨4,b,w,[],t,0,[]⟩)=[[102,111,114,107],b,w,t]:=by
   rw[e,zcK (by decide) nb nw,zbs (zcJ ht (by decide))]
  exact⟨by rw[hW];rfl,by rw[hW];rfl,by rw[hW];simp,by rw[e];simp;omega,by rw[e];simp⟩
 by_cases e5:k=5
 ·subst e5
  replace h3:(zaj t&&(p==[]&&(a==0&&(x.length:Int)==0)))=true:=h3
  simp only[aG]at h3
  obtain⟨ht,h4,h5,h6⟩:=h3
  obtain rfl:p=[]:=by simpa using h4
  obtain rfl:a=0:=by simpa using h5
  obtain rfl:=len0 h6
  have tl:=zbx ht
  have e:za7 ⟨5,b,w,[],t,0,[]⟩=[117,110,105,116,101]++32::(b++32::(w++32::t)):=by
   show([117,110,105,116,101]++[32]++b++[32]++w++[32])++t=_
   simp
  have hW:wordsO (za7 ⟨5,b,w,[],t,0,[]⟩)=[[117,110,105,116,101],b,w,t]:=by
   rw[e,zcK (by decide) nb nw,zbs (zcJ ht (by decide))]
  exact⟨by rw[hW];rfl,by rw[hW];rfl,by rw[hW];simp,by rw[e];simp;omega,by rw[e];simp⟩
 have hne:(k==1)=false/\(k==2)=false/\(k==3)=false/\(k==4)=false/\(k==5)=false:=⟨by simpa using e1,by simpa using e2,by simpa using e3,by simpa using e4,by simpa using e5⟩
 rw[hne.1,hne.2.1,hne.2.2.1,hne.2.2.2.1,hne.2.2.2.2]at h3
 simp only[aC,Bool.or_false]at h3
 by_cases e67:k=6\/k=7
 ·have:(k==6||k==7)=true:=by simpa using e67
  rw[this,aD]at h3
  simp only[aG,decide_eq_true_eq]at h3
  obtain⟨⟨a0,a1⟩,h4,h5,h6⟩:=h3
  obtain rfl:p=[]:=by simpa using h4
  obtain rfl:t=[]:=by simpa using h5
  obtain rfl:=len0 h6
  obtain⟨n,rfl⟩:=Int.eq_ofNat_of_zero_le a0
  obtain⟨dn,da⟩:=zeM n (by omega)
  have dl:=zdO n (by omega)
  have hnum:=hnum n (by omega)
  rcases e67 with rfl |rfl
  ·have e:za7 ⟨6,b,w,[],[],(n:Int),[]⟩=[112,105,99,107]++32::(b++32::(w++32::Lib.decDigits n)):=by
    show([112,105,99,107]++[32]++b++[32]++w++[32])++Lib.decDigits ((n:Int)).toNat=_
    simp
   have hW:wordsO (za7 ⟨6,b,w,[],[],(n:Int),[]⟩)=[[112,105,99,107],b,w,Lib.decDigits n]:=by
    rw[e,zcK (by decide) nb nw,zbs dn]
   refine⟨?_,?_,by rw[hW];simp,by rw[e];simp;omega,by rw[e];simp⟩
   ·rw[hW]
    show(⟨6,b,w,[],[],zcu (Lib.decDigits n),[]⟩:Op)=_
    rw[da]
   ·rw[hW]
    show(⟨6,b,w,[],[],num (Lib.decDigits n),[]⟩:Op)=_
    rw[hnum]
  ·have e:za7 ⟨7,b,w,[],[],(n:Int),[]⟩=[98,97,99,107]++32::(b++32::(w++32::Lib.decDigits n)):=by
    show([98,97,99,107]++[32]++b++[32]++w++[32])++Lib.decDigits ((n:Int)).toNat=_
    simp
   have hW:wordsO (za7 ⟨7,b,w,[],[],(n:Int),[]⟩)=[[98,97,99,107],b,w,Lib.decDigits n]:=by
    rw[e,zcK (by decide) nb nw,zbs dn]
   refine⟨?_,?_,by rw[hW];simp,by rw[e];simp;omega,by rw[e];simp⟩
   ·rw[hW]
    show(⟨7,b,w,[],[],zcu (Lib.decDigits n),[]⟩:Op)=_
    rw[da]
   ·rw[hW]
    show(⟨7,b,w,[],[],num (Lib.decDigits n),[]⟩:Op)=_
    rw[hnum]
 ·have:(k==6||k==7)=false:=by
   rw[Bool.or_eq_false_iff]
   exact⟨by simpa using fun e=>e67 (.inl e),by simpa using fun e=>e67 (.inr e)⟩
  rw[this,aC]at h3
  cases h3
theorem zic {o:Op}(ho:opB o=true):opI (wordsO (za7 o))=o/\zkt zcu (wordsO (za7 o))=o/\4<=(wordsO (za7 o)).length/\(za7 o).length<=300/\za7 o≠ []:=zep ho (num:=zcu) fun k hk=>(zeM k hk).2
theorem zjO {o:Op}(ho:opB o=true):zga (za7 o) (wordsO (za7 o)) (opI (wordsO (za7 o)))=(o,true):=by
 obtain⟨h1,h2,h3,_,_⟩:=zic ho
 unfold zga
 rw[aE (by omega),aC,h1,ho,aO]
 rfl
theorem zd1 {x:Str}: ∀ {t:List Str},x∈t->x.length<=Bk.bulk t
 |y::t,h=>by
  have e:Bk.bulk (y::t)=t.length+1+(y.length+zan Bk.bulk t):=rfl
  have e2:Bk.bulk t=t.length+zan Bk.bulk t:=rfl
  rw[e]
  rcases List.mem_cons.1 h with h1 |h1
  ·rw[h1];omega
  ·have:=zd1 h1;omega
theorem zcL {t:List Str}(h:Bk.bulk t<=1048576):Bk.fit t:=⟨zbR (zar h),fun x hx=>show x.length<=maxi from zbR (Nat.le_trans (zd1 hx) h)⟩
theorem zeq {k n:Int}{g:Nat->Str}{t:List Str}(hk: -1<=k/\k<=7)(hg: ∀ i,(g i).length<=1048576)(hn:Bk.fit n)(ht:Bk.bulk t<=1048576):OpFit (zks k g n t):=by
 have f0:Bk.fit k:=(show -9223372036854775808<=k/\k<=9223372036854775807 by omega)
 have z0:Bk.fit (0:Int):=(show(-9223372036854775808:Int)<=0/\(0:Int)<=9223372036854775807 by decide)
 have fg: ∀ i,Bk.fit (g i):=fun i=>show(g i).length<=maxi from zbR (hg i)
 have fe:Bk.fit ([]:Str):=Nat.zero_le _
 have ft:=zcL ht
 have fn:Bk.fit ([]:List Str):=zcL (Nat.zero_le _)
 unfold zks
 cases k==1 with
 |true=>exact⟨⟨f0,fg 1,fg 2,fg 3,fe,z0,ft⟩,hg 3,Nat.zero_le _,ht⟩
 |false=>
 cases k==2 with
 |true=>exact⟨⟨f0,fg 1,fg 2,fg 3,fe,z0,fn⟩,hg 3,Nat.zero_le _,Nat.zero_le _⟩
 |false=>
 cases k==3 with
 |true=>exact⟨⟨f0,fg 1,fg 2,fg 3,fg 4,z0,fn⟩,hg 3,hg 4,Nat.zero_le _⟩
 |false=>
 cases k==4||k==5 with
 |true=>exact⟨⟨f0,fg 1,fg 2,fe,fg 3,z0,fn⟩,Nat.zero_le _,hg 3,Nat.zero_le _⟩
 |false=>exact⟨⟨f0,fg 1,fg 2,fe,fe,hn,fn⟩,Nat.zero_le _,Nat.zero_le _,Nat.zero_le _⟩
theorem kO_cases (u:Str)(d:Int):kO u d=1\/kO u d=2\/kO u d=3\/kO u d=4\/kO u d=5\/kO u d=6\/kO u d=7\/kO u d=d:=by
 unfold kO
 cases u==[115,101,116];cases u==[100,114,111,112];cases u==[109,111,118,101];cases u==[102,111,114,107];cases u==[117,110,105,116,101];cases u==[112,105,99,107];cases u==[98,97,99,107]
 all_goals simp
theorem kI_cases (u:Str):kI u=1\/kI u=2\/kI u=3\/kI u=4\/kI u=5\/kI u=6\/kI u=7\/kI u=0\/kI u = -1:=by
 unfold kI
 cases u==[]with
 |true=>simp
 |false=>rw[aC];rcases kO_cases u (-1)with h |h |h |h |h |h |h |h<;>simp[h]
theorem zcB {s:Str}(i:Nat):(gW (wordsO s) i).length<=s.length:=by
 unfold gW
 cases h:(wordsO s)[i]? with
 |none=>rw[List.getD_eq_getElem?_getD,h];exact Nat.zero_le _
 |some p=>
  rw[List.getD_eq_getElem?_getD,h]
  have:=zcx 32 s 4 [] p (aH h)
  simpa using this
theorem zeN {s:Str}(hs:s.length<=1048576):OpFit (opI (wordsO s)):=by
 unfold opI
 refine zeq (by rcases kI_cases (gW (wordsO s) 0)with h |h |h |h |h |h |h |h |h<;>omega) (fun i=>Nat.le_trans (zcB i) hs) ?_ ?_
 ·cases kI (gW (wordsO s) 0)==6||kI (gW (wordsO s) 0)==7 with
  |true=>exact zfI _
  |false=>exact(show(-9223372036854775808:Int)<=0/\(0:Int)<=9223372036854775807 by decide)
 ·cases gW (wordsO s) 4 !=[]with
  |true=>
   rw[aD,ziM]
   have h1:=zca 124 (gW (wordsO s) 4) ((gW (wordsO s) 4).length+1) []
   simp only[List.length_nil,Nat.zero_add]at h1
   have h2:=zcB (s:=s) 4
   exact Nat.le_trans (zdP h1 (zbC _ _ _ _).1) (by omega)
  |false=>exact Nat.zero_le _
theorem zeO {s:Str}(hs:s.length<=1048576):strings_SplitN s ([32]:Str) 5=some (wordsO s):=by
 unfold strings_SplitN wordsO
 rw[if_pos ⟨by omega,by simp,by omega,by omega⟩]
 have h0:=zb9 32 s (min (5:Int).toNat (s.length+1)-1) [] (by simp)
 rw[List.nil_append]at h0
 rw[h0]
 by_cases h:4<=s.length
 ·have e:min (5:Int).toNat (s.length+1)-1=4:=by show min 5 (s.length+1)-1=4;omega
  rw[e]
 ·have hl:=zbq 32 s []
  have e:min (5:Int).toNat (s.length+1)-1=s.length:=by show min 5 (s.length+1)-1=_;omega
  rw[e,zaB 32 s s.length [] (by simpa using hl),zaB 32 s 4 [] (by omega)]
theorem zdR (u:Str):zaf zav u=some (kI u):=by
 unfold zaf kI kO
 show(bif u==[] then some 0 else bif u==[115,101,116] then some 1 else bif u==[100,114,111,112] then some 2 else bif u==[109,111,118,101] then some 3 else bif u==[102,111,114,107] then some 4 else bif u==[117,110,105,116,101] then some 5 else bif u==[112,105,99,107] then some 6 else bif u==[98,97,99,107] then some 7 else some (-1))=_
 cases u==[];cases u==[115,101,116];cases u==[100,114,111,112];cases u==[109,111,118,101];cases u==[102,111,114,107];cases u==[117,110,105,116,101];cases u==[112,105,99,107];cases u==[98,97,99,107]
 all_goals rfl
theorem zco {s:Str}{o:Op}(h:OpFit o):((zbv o).bind fun z=>bif !z then some (zc4,false) else((zbE o).bind fun y=>bif y !=s then some (zc4,false) else some (o,true)))=some (bif opB o&&(za7 o==s) then(o,true) else(zc4,false)):=by
 rw[zdo h,aA]
 cases ho:opB o with
 |false=>rfl
 |true=>
  rw[zeI h ho,aA,bne]
  cases za7 o==s<;>rfl
theorem zfz {w:List Str}{i:Nat}(h:i<w.length):gi w (i:Int)=some (gW w i):=by
 rw[zbt (aB h)]
 unfold gW
 rw[List.getD_eq_getElem?_getD,aB h]
 rfl
theorem zeh {s:Str}(hs:s.length<=1048576):zcd s=some (zga s (wordsO s) (opI (wordsO s))):=by
 unfold zcd
 have hlen:(wordsO s).length<=5:=(zbC 32 s 4 []).2
 have hf:=zeN hs
 have h4l:=zcB (s:=s) 4
 have h3l:=zcB (s:=s) 3
 rw[zeO hs,aA]
 unfold zga
 generalize hw:wordsO s=w at*
 by_cases h4:(w.length:Int)<4
 ·rw[aF h4];rfl
 have g0:gi w 0=some (gW w 0):=zfz (i:=0) (by omega)
 have g1:gi w 1=some (gW w 1):=zfz (i:=1) (by omega)
 have g2:gi w 2=some (gW w 2):=zfz (i:=2) (by omega)
 have g3:gi w 3=some (gW w 3):=zfz (i:=3) (by omega)
 rw[aE h4,aC,aC]
 simp only[jn,show zbu=some zav from rfl,aA,g0,g1,g2,g3,zdR,aD]
 unfold opI at hf ⊢
 rcases kI_cases (gW w 0)with e |e |e |e |e |e |e |e |e
 ·rw[e]at hf ⊢
  simp only[Int.reduceBEq,aD,aC,Bool.or_false,Bool.false_or]at hf ⊢
  by_cases h5:(w.length:Int)=5
  ·have g4:gi w 4=some (gW w 4):=zfz (i:=4) (by omega)
   rw[beq_iff_eq.2 h5,aD,g4,aA]
   cases hz:gW w 4 !=[]with
   |true=>
    have hsp:strings_Split (gW w 4) ([124]:Str)=some (curS 124 [] (gW w 4)):=by
     unfold strings_Split
     rw[if_pos ⟨by omega,by simp⟩,zdX]
    have hsl:=zdp (xs:=curS 124 [] (gW w 4)) (i:=1) (zda 124 _ _)
    rw[hz,aD]at hf
    simp only[aD,aA,hsp]
    rw[show(1:Int)=((1:Nat):Int) from rfl,hsl,aA]
    exact zco hf
   |false=>
    rw[hz,aC]at hf
    exact zco hf
  ·have hb:((w.length:Int)==5)=false:=beq_false_of_ne h5
   have hz:gW w 4=[]:=by
    unfold gW
    rw[List.getD_eq_getElem?_getD,List.getElem?_eq_none (by omega)]
    rfl
   rw[hb,aC,hz]
   rw[hz]at hf
   exact zco hf
 ·rw[e]at hf ⊢
  exact zco hf
 ·rw[e]at hf ⊢
  simp only[Int.reduceBEq,aD,aC]
  by_cases h5:(w.length:Int)=5
  ·have g4:gi w 4=some (gW w 4):=zfz (i:=4) (by omega)
   rw[beq_iff_eq.2 h5,aD,g4,aA]
   exact zco hf
  ·have hb:((w.length:Int)==5)=false:=beq_false_of_ne h5
   have hz:gW w 4=[]:=by
    unfold gW
    rw[List.getD_eq_getElem?_getD,List.getElem?_eq_none (by omega)]
    rfl
   have hf2:OpFit ⟨3,gW w 1,gW w 2,gW w 3,gW w 4,0,[]⟩:=hf
   rw[hz]at hf2
   rw[hb,aC]
   have:=zco (s:=s) hf2
   show _=some (bif opB ⟨3,gW w 1,gW w 2,gW w 3,gW w 4,0,[]⟩&&(za7 ⟨3,gW w 1,gW w 2,gW w 3,gW w 4,0,[]⟩==s) then(⟨3,gW w 1,gW w 2,gW w 3,gW w 4,0,[]⟩,true) else(zc4,false))
   rw[hz]
   exact this
 ·rw[e]at hf ⊢
  exact zco hf
 ·rw[e]at hf ⊢
  exact zco hf
 ·rw[e]at hf ⊢
  have ha:strconv_Atoi (gW w 3)=some (zcu (gW w 3),()):=by unfold strconv_Atoi;rw[if_pos (by omega)]
  simp only[Int.reduceBEq,aD,aC,ha,aA]
  exact zco hf
 ·rw[e]at hf ⊢
  have ha:strconv_Atoi (gW w 3)=some (zcu (gW w 3),()):=by unfold strconv_Atoi;rw[if_pos (by omega)]
  simp only[Int.reduceBEq,aD,aC,ha,aA]
  exact zco hf
 ·rw[e]at hf ⊢
  exact zco hf
 ·rw[e]at hf ⊢
  exact zco hf
theorem zeQ {x:Str}: ∀ t:List Str,zan Bk.bulk (t++[x])=zan Bk.bulk t+x.length
 | []=>by show x.length+0=0+x.length;omega
 |y::t=>by
  show y.length+zan Bk.bulk (t++[x])=y.length+zan Bk.bulk t+x.length
  rw[zeQ t]
  omega
theorem zgX (t:List Str)(x:Str):Bk.bulk (t++[x])=Bk.bulk t+1+x.length:=by
 show(t++[x]).length+zan Bk.bulk (t++[x])=t.length+zan Bk.bulk t+1+x.length
 rw[zeQ,List.length_append,List.length_singleton]
 omega
theorem zig {r:l30Rd}{p:Int}(h:zci r p)(hp:p<=100000): ∃ o q,zbZ r=some (o,q)/\OpFit o:=by
 unfold zbZ
 obtain⟨o,q,e,ho,h1⟩:=zlg h (by omega)
 obtain⟨k,b,w,pa,t,a,x⟩:=o
 obtain⟨⟨f0,f1,f2,f3,f4,f5,f6⟩,hb⟩:=ho
 have eb:Bk.bulk (Op.mk k b w pa t a x)=0+(b.length+(w.length+(pa.length+(t.length+(0+Bk.bulk x))))):=rfl
 rw[eb]at hb
 obtain⟨z,e1,z0,z1⟩:=zbN h1 (n:=16) (by omega) (by omega) (by omega)
 have h2:=zcW (q:=p+100+1) h1 (k:=1) (by omega) (by omega)
 have ix: ∀ n:Int,n∈ [0,8,1,-1,16]->Bk.fit n:=fun n hn=>by
  simp only[List.mem_cons,List.not_mem_nil,or_false]at hn
  show -9223372036854775808<=n/\n<=9223372036854775807
  omega
 have sx: ∀ s:Str,s.length<=100->Bk.fit s:=fun s hs=>show s.length<=maxi from zbR (by omega)
 simp only[e,aA,jn,e1]
 cases z==0 with
 |true=>
  obtain⟨n,e2,hn⟩:=zfl h2 (by omega) (l:=([0,8,1]:List Int)) (by simp) (by simp)
  simp only at e2
  rw[aD,e2,aA]
  exact⟨_,_,rfl,⟨ix n (by simp at hn ⊢;omega),f1,f2,f3,f4,f5,f6⟩,by show pa.length<=_;omega,by show t.length<=_;omega,by show Bk.bulk x<=_;omega⟩
 |false=>
 cases z==1 with
 |true=>
  obtain⟨n,e2,hn⟩:=zdG h2 (by omega) (l:=([([]:Str),([77,97,105,110]:Str)]:List Str)) (by simp) (by simp)
  simp only at e2
  rw[aC,aD,e2,aA]
  have hl:n.length<=100:=by
   simp only[List.mem_cons,List.not_mem_nil,or_false]at hn
   rcases hn with e |e<;>rw[e]<;>simp
  exact⟨_,_,rfl,⟨f0,sx n hl,f2,f3,f4,f5,f6⟩,by show pa.length<=_;omega,by show t.length<=_;omega,by show Bk.bulk x<=_;omega⟩
 |false=>
 cases z==2 with
 |true=>
  rw[aC,aC,aD,ap1 (show x.length<=1048576 from zar (n:=1048576) (by omega)),aA]
  have hbx:=zgX x ([97,124,98]:Str)
  have hx:Bk.bulk (x++[([97,124,98]:Str)])<=1048576:=by rw[hbx];simp;omega
  exact⟨_,_,rfl,⟨f0,f1,f2,f3,f4,f5,zcL hx⟩,by show pa.length<=_;omega,by show t.length<=_;omega,hx⟩
 |false=>
 cases z==3 with
 |true=>
  obtain⟨n,e2,hn⟩:=zfl h2 (by omega) (l:=([(-1),16]:List Int)) (by simp) (by simp)
  simp only at e2
  rw[aC,aC,aC,aD,e2,aA]
  exact⟨_,_,rfl,⟨f0,f1,f2,f3,f4,ix n (by simp at hn ⊢;omega),f6⟩,by show pa.length<=_;omega,by show t.length<=_;omega,by show Bk.bulk x<=_;omega⟩
 |false=>exact⟨_,_,rfl,⟨f0,f1,f2,f3,f4,f5,f6⟩,by show pa.length<=_;omega,by show t.length<=_;omega,by show Bk.bulk x<=_;omega⟩
theorem zei (o:Op):(zby o).length<=300:=by
 unfold zby
 cases h:opB o with
 |false=>exact Nat.zero_le _
 |true=>exact(zic h).2.2.2.1
theorem zd5 {o:Op}(h:o.Text.length<=maxi):zcq o o=some true:=by
 unfold zcq
 simp only[jn,aO,aD,zed h,aA]
theorem zhF {code:List Byte}(h:Bk.fit code):zcN code=some true:=by
 unfold zcN
 by_cases hc:(1048576:Int)< (code.length:Int)
 ·rw[aF hc];rfl
 obtain⟨b,e,hr⟩:=zlh (code:=code) (by omega)
 obtain⟨o,q,e1,hf⟩:=zig hr (by omega)
 have ed:zbK code=some o:=by
  unfold zbK
  rw[e,aA,e1]
  rfl
 have ht:=hf.text
 have hl:=zei o
 rw[aE hc,aC,ed,aA]
 simp only[show(⟨o.Kind,o.Branch,o.Who,o.Path,o.To,o.At,o.Text⟩:Op)=o from rfl,zef hf,zeg hf,zdo hf,zif hf,aA,jn,bne_self_eq_false,aC,aO,aD]
 cases hb:opB o with
 |false=>
  have:zby o=[]:=by unfold zby;rw[hb];rfl
  rw[this]
  rfl
 |true=>
  have ep:zby o=za7 o:=by unfold zby;rw[hb];rfl
  have hne:(za7 o==([]:Str))=false:=beq_false_of_ne (zic hb).2.2.2.2
  rw[ep]at hl ⊢
  rw[hne,aC,zeh (by omega),aA,zjO hb]
  simp only[aD,zd5 (zbR (zar ht)),aA]
end Go.Vm
