/- Plain law FnUniteTree, and what it uses: what the models answer. Conditions: each law's own premises. -/
import Derived.Test.YtiahldhbknpmiaaGreatDoorBGFnUniteTreea
import Derived.Test.YtiahldhbknpmiaaGreatDoorBLw
namespace Go.Vm
open Go Go.Sx
set_option linter.unusedSimpArgs false
set_option linter.unusedVariables false
theorem zo8 (ps:List Part):zcy (ps.map zkk)=zcy ps:=by
 unfold zcy
 rw[List.foldlM_map]
 rfl
theorem zkB {t:List File}{p:Str}(h:(getT t p).2=false):(getT t p).1=[]:=by
 unfold getT at*
 cases hf:t.find? (fun f=>f.Path==p)with
 |none=>rfl
 |some f=>rw[hf]at h;cases h
theorem zjw {a b:List File}{p:Str}:zey (getT a p) (getT b p)=decide (getT a p=getT b p):=by
 have ha:=zkB (t:=a) (p:=p)
 have hb:=zkB (t:=b) (p:=p)
 revert ha hb
 generalize getT a p=x
 generalize getT b p=y
 intro ha hb
 obtain⟨x1,x2⟩:=x
 obtain⟨y1,y2⟩:=y
 unfold zey
 cases x2<;>cases y2
 ·have e1:x1=[]:=ha rfl
  have e2:y1=[]:=hb rfl
  subst e1;subst e2;simp
 ·simp
 ·simp
 ·by_cases h:x1=y1
  ·subst h;simp
  ·have e:(x1==y1)=false:=beq_false_of_ne h
   simp[e,h]
theorem zou (o a b:List File)(p:Str):oneF o b a p=oneF o a b p:=by
 unfold oneF
 simp only[zjw]
 generalize getT o p=zo
 generalize getT a p=za
 generalize getT b p=zb
 rw[znE zo.1 za.1 zb.1,zo8,Bool.or_comm (!zb.2) (!za.2)]
 by_cases h1:za=zo
 ·subst h1
  by_cases h2:zb=za
  ·subst h2;simp
  ·simp[h2]
 ·by_cases h2:za=zb
  ·subst h2;simp[h1]
  ·have h2': ¬ zb=za:=fun e=>h2 e.symm
   by_cases h3:zb=zo
   ·subst h3;simp[h1,h2']
   ·simp[h1,h2,h2',h3]
theorem zh0 (o a b:List File):Asd (zbb o a b):=zcV _ _ (zcV _ _ (zcV _ _ List.Pairwise.nil))
theorem zo9 (o a b:List File):zbb o b a=zbb o a b:=Asd.ext (zh0 o b a) (zh0 o a b) fun x=>by
 rw[pathsF_mem,pathsF_mem]
 constructor
 ·rintro(h |h |h)
  ·exact .inl h
  ·exact .inr (.inr h)
  ·exact .inr (.inl h)
 ·rintro(h |h |h)
  ·exact .inl h
  ·exact .inr (.inr h)
  ·exact .inr (.inl h)
theorem zoL (o a b:List File):zbo o b a=zbo o a b:=by
 have e1:zgY o b a=zgY o a b:=by funext p;unfold zgY;rw[zou]
 have e2:zfY o b a=zfY o a b:=by funext p;unfold zfY;rw[zou]
 unfold zbo zdu zd0
 rw[e1,e2,zo9]
theorem zml {t:List File}(h:zaq t=true):t.Pairwise fun x y=>x.Path<y.Path:=by
 unfold zaq at h
 simp only[aG]at h
 have hb: ∀ i,i<t.length->zft t i=true:=fun i hi=>by
  have:=zaP.1 h.2 i (Nat.zero_le _) (by omega)
  unfold zfu at this
  simp only[aG]at this
  exact this.1
 refine List.pairwise_iff_getElem.2 fun i j hi hj hij=>?_
 have:=zig hb hij hj
 rwa [za9 (aB hi),za9 (aB hj)]at this
theorem znR {t:List File}(h:t.Pairwise fun x y=>x.Path<y.Path){f:File}(hf:f∈t):getT t f.Path=(f.Text,true):=by
 unfold getT
 cases hg:t.find? (fun g=>g.Path==f.Path)with
 |none=>exact absurd (List.find?_eq_none.1 hg f hf) (by simp)
 |some g=>
  have hgm:=List.mem_of_find?_eq_some hg
  have he:g.Path=f.Path:=by simpa using List.find?_some hg
  obtain⟨i,hi,rfl⟩:=List.getElem_of_mem hf
  obtain⟨j,hj,rfl⟩:=List.getElem_of_mem hgm
  have hp:=List.pairwise_iff_getElem.1 h
  rcases Nat.lt_trichotomy i j with q |q |q
  ·have:=hp i j hi hj q
   rw[he]at this
   exact absurd this (zaj _)
  ·subst q;rfl
  ·have:=hp j i hj hi q
   rw[he]at this
   exact absurd this (zaj _)
theorem zkt: ∀ {xs ys:List File},xs.Pairwise (fun x y=>x.Path<y.Path)->ys.Pairwise (fun x y=>x.Path<y.Path)->(∀ a,a∈xs↔a∈ys)->xs=ys
 | [],[],_,_,_=>rfl
 | [],y::ys,_,_,h=>by have:=(h y).2 (by simp);simp at this
 |x::xs,[],_,_,h=>by have:=(h x).1 (by simp);simp at this
 |x::xs,y::ys,hx,hy,h=>by
  have hx':=List.pairwise_cons.1 hx
  have hy':=List.pairwise_cons.1 hy
  have e:x=y:=by
   rcases List.mem_cons.1 ((h x).1 (by simp))with q |q
   ·exact q
   ·rcases List.mem_cons.1 ((h y).2 (by simp))with r |r
    ·exact r.symm
    ·exact absurd (zaI (hy'.1 x q) (hx'.1 y r)) (zaj _)
  subst e
  have:=zkt hx'.2 hy'.2 fun a=>by
   constructor
   ·intro ha
    rcases List.mem_cons.1 ((h a).1 (List.mem_cons_of_mem _ ha))with q |q
    ·subst q;exact absurd (hx'.1 a ha) (zaj _)
    ·exact q
   ·intro ha
    rcases List.mem_cons.1 ((h a).2 (List.mem_cons_of_mem _ ha))with q |q
    ·subst q;exact absurd (hy'.1 a ha) (zaj _)
    ·exact q
  rw[this]
theorem zg4 (o t:List File)(p:Str):oneF o o t p=((getT t p).1,(getT t p).2,0):=by
 unfold oneF
 simp only[zjw]
 simp
theorem zl3 {o t:List File}(h:t.Pairwise fun x y=>x.Path<y.Path):zdu o o t=t:=by
 unfold zdu
 refine zkt ?_ h fun f=>?_
 ·refine List.pairwise_filterMap.2 ((zh0 o o t).imp fun {p q} hpq f hf g hg=>?_)
  unfold zgY at hf hg
  rw[zg4]at hf hg
  cases hp:(getT t p).2<;>cases hq:(getT t q).2<;>simp[hp,hq]at hf hg
  rw[<- hf,<- hg]
  exact hpq
 ·rw[List.mem_filterMap]
  constructor
  ·rintro⟨p,_,hf⟩
   unfold zgY at hf
   rw[zg4]at hf
   unfold getT at hf
   cases hg:t.find? (fun g=>g.Path==p)with
   |none=>rw[hg]at hf;simp at hf
   |some g=>
    rw[hg]at hf
    simp only[aD,Option.some.injEq]at hf
    have he:g.Path=p:=by simpa using List.find?_some hg
    rw[<- hf,<- he]
    exact List.mem_of_find?_eq_some hg
  ·intro hf
   refine⟨f.Path,pathsF_mem.2 (.inr (.inr ⟨f,hf,rfl⟩)),?_⟩
   unfold zgY
   rw[zg4,znR h hf]
   rfl
theorem zkU {o t:List File}(h:zaq t=true):zbo o o t=(t,[]):=by
 have e:zd0 o o t=[]:=by
  unfold zd0
  rw[List.filterMap_eq_nil_iff]
  intro p _
  unfold zfY
  rw[zg4]
  rfl
 unfold zbo
 rw[e,zl3 (zml h),h]
 rfl
theorem zc2 {α:Type}{f:α->Nat}{c:Nat}: ∀ {t:List α},(∀ s∈t,f s<=c)->zc6 f t<=c*t.length
 | [],_=>by simp[zc6]
 |x::t,h=>by
  have h1:=h x (by simp)
  have h2:=zc2 (t:=t) (fun s hs=>h s (by simp[hs]))
  simp only[zc6,aL,Nat.mul_add,Nat.mul_one]
  omega
theorem zlc {t:List Str}(h:zao t=true):Bk.bulk t<=130:=by
 have hl:=zav h
 have hs:zc6 Bk.bulk t<=12*t.length:=zc2 fun s hs=>by
  have:=zg0 (zaO h s hs)
  show s.length<=12
  omega
 show t.length+zc6 Bk.bulk t<=130
 omega
theorem zld {t:List File}(h:zaq t=true):Bk.bulk t<=1208:=by
 have hl:=zam h
 have hs:zc6 Bk.bulk t<=150*t.length:=zc2 fun f hf=>by
  have h1:=zcB (zb3 h hf)
  have h2:=zlc (zak h f hf)
  show f.Path.length+Bk.bulk f.Text<=150
  omega
 show t.length+zc6 Bk.bulk t<=1208
 omega
theorem zlQ {r:Repo}(h:zaa r=true){c:Commit}(hc:c∈r.Commits):c.Parents.length<=2/\(∀ p∈c.Parents,0<=p/\p<=16)/\zay c.Who=true/\zaq c.Tree=true:=by
 obtain⟨i,hi⟩:=List.mem_iff_getElem?.1 hc
 have hil:=zar hi
 have s1:=(zab h).1
 have:=zfw h (i:=i) (by omega)
 rw[zdq hi]at this
 unfold zjz at this
 simp only[aG,decide_eq_true_eq,List.all_eq_true]at this
 refine⟨by omega,fun p hp=>?_,this.2.2.2.1,this.2.2.2.2⟩
 have h1:=this.1 p hp
 unfold upB at h1
 simp only[aG,decide_eq_true_eq]at h1
 omega
theorem zle {r:Repo}(h:zaa r=true):Bk.bulk r<=20000:=by
 obtain⟨s1,s2⟩:=zab h
 have h1:zc6 Bk.bulk r.Commits<=1218*r.Commits.length:=zc2 fun c hc=>by
  obtain⟨c1,_,c3,c4⟩:=zlQ h hc
  have:=zbj c3
  have:=zld c4
  have hp:zc6 Bk.bulk c.Parents<=0*c.Parents.length:=zc2 fun p hp=>Nat.le_refl 0
  show c.Parents.length+zc6 Bk.bulk c.Parents+(c.Who.length+Bk.bulk c.Tree)<=1218
  omega
 have h2:zc6 Bk.bulk r.Heads<=6*r.Heads.length:=zc2 fun x hx=>by
  have:=zbj (zfJ h hx).2.2
  show x.Name.length+0<=6
  omega
 show r.Commits.length+zc6 Bk.bulk r.Commits+(r.Heads.length+zc6 Bk.bulk r.Heads)<=20000
 omega
theorem zlf {t:List File}(h:zaq t=true):Bk.fit t:=⟨by have:=zam h;unfold maxi;omega,fun f hf=>⟨by have:=zcB (zb3 h hf);show f.Path.length<=maxi;unfold maxi;omega,by
 have h1:=zak h f hf
 have h2:=zav h1
 exact zcr (by omega) (zaO h1)⟩⟩
theorem zlg {r:Repo}(h:zaa r=true):Bk.fit r:=by
 obtain⟨s1,s2⟩:=zab h
 refine⟨⟨by unfold maxi;omega,fun c hc=>?_⟩,by unfold maxi;omega,fun x hx=>?_⟩
 ·obtain⟨c1,c2,c3,c4⟩:=zlQ h hc
  refine⟨⟨by unfold maxi;omega,fun p hp=>?_⟩,by have:=zbj c3;show c.Who.length<=maxi;unfold maxi;omega,zlf c4⟩
  have:=c2 p hp
  show -9223372036854775808<=p/\p<=9223372036854775807
  omega
 ·obtain⟨h1,h2,h3⟩:=zfJ h hx
  refine⟨by have:=zbj h3;show x.Name.length<=maxi;unfold maxi;omega,?_⟩
  show -9223372036854775808<=x.At/\x.At<=9223372036854775807
  omega
theorem zl4 (l:List Str)(o a b:List File)(h:l=o.map (·.Path)++a.map (·.Path)++b.map (·.Path)):zkZ (zdE l)=zbb o a b:=by
 refine Asd.ext (zeM _ none (zkQ _) (fun q hq=>by cases hq)).1 (zh0 o a b) fun x=>?_
 rw[zhe,zjo,h,pathsF_mem]
 simp only[List.mem_append,List.mem_map]
 constructor
 ·rintro((h |h) |h)
  ·exact .inl h
  ·exact .inr (.inl h)
  ·exact .inr (.inr h)
 ·rintro(h |h |h)
  ·exact .inl (.inl h)
  ·exact .inl (.inr h)
  ·exact .inr h
set_option linter.unusedSectionVars false
theorem zoc {t:List File}(h:TB t)(p:Str):zkN t p=some (getT t p):=by
 have hm:=h.maxi
 unfold zkN getT
 simp only[jn,zap]
 rw[zcG (p:=fun f:File=>f.Path==p) (xs:=t) (r:=fun f=>some (f.Text,true)) (Z:=some ([],false)) (f:=fun m k=>zfF t p _ m [] false k) (fun m i x hx=>by
  have hf:=h.at_ hx
  simp only[zfF,zan hx,zad hx,aD,aA,zdL hf.len,zae (zar hx) hm]) (fun m=>by simp only[zfF,zaf,aC]) (by omega)]
 cases t.find? (fun f=>f.Path==p)<;>rfl
def znL (t:List File)(p:Str):has:=⟨(getT t p).1,(getT t p).2⟩
theorem zjB {t:List File}(h:TB t)(p:Str):ziQ t p=some (znL t p):=by
 unfold ziQ
 rw[zoc h,aA]
 rfl
theorem zjq {a b:List File}{p:Str}(h:TB a):zf4 (znL a p) (znL b p)=some (decide (getT a p=getT b p)):=by
 have hl:=(ziG h p).1
 unfold zf4 znL
 simp only[jn,zg5 (zal hl),aA]
 generalize getT a p=x at*
 generalize getT b p=y at*
 obtain⟨x1,x2⟩:=x
 obtain⟨y1,y2⟩:=y
 by_cases h1:x1=y1<;>cases x2<;>cases y2<;>simp[h1]
theorem zjC {o a b:List Str}(hto:zao o=true)(hta:zao a=true)(htb:zao b=true):zgs o a b=some (zcy (zaD o a b)):=by
 have lo:=zav hto
 have la:=zav hta
 have lb:=zav htb
 obtain⟨hlen,hparts⟩:=zh2 hto hta htb
 unfold zgs zcQ zcy
 rw[zlk (zcr (by omega) (zaO hto)) (zcr (by omega) (zaO hta)) (zcr (by omega) (zaO htb)),hto,hta,htb,aA]
 simp only[jn,zap,Bool.and_self,aK,aC,zl9 (show o.length<=1000 by omega) (show a.length<=1000 by omega) (show b.length<=1000 by omega),aA]
 obtain⟨h1,h2⟩:=zhd (xs:=zaD o a b) (step:=zgK) (r0:=some (([]:List Str),false)) (Inv:=zoa) (s0:=[]) (Z:=fun s=>(zca s).bind fun z30=>bif(!z30) then(some (([]:List Str),false)) else(some (s,true))) (f:=fun m s i=>zaz (zaD o a b) (fun _ _ y7 _=>(zca y7).bind fun z30=>bif(!z30) then(some (([]:List Str),false)) else(some (y7,true))) m [] false s i) (fun m i p s hx hI=>by
  have hi:=zar hx
  obtain⟨p1,p2,_⟩:=hparts p (aH hx)
  refine⟨?_,fun s' hst=>zih p1 p2 hI hst⟩
  have hs:=hI.1
  simp only[zaz,zhJ,jn,zan hx,zad hx,aD,aA,zae hi (show(zaD o a b).length<=maxi by unfold maxi;omega),apT (show s.length<=1000000 by omega) (show p.Lines.length<=1000000 by omega)]
  unfold zgK
  cases p.Clash<;>rfl) (fun m s hI=>by simp only[zaz,zaf,aC]) (m:=(zaD o a b).length+1) (by omega) ⟨by simp,by simp⟩
 rw[h1]
 cases hf:(zaD o a b).foldlM zgK []with
 |none=>rfl
 |some s=>
  have hI:=h2 s hf
  have hs:=hI.1
  show((zca s).bind _).bind _=some (okT s)
  rw[zep (zcr (by omega) hI.2),aA]
  unfold okT
  cases zao s<;>rfl
theorem zmJ (o a b:List File)(p:Str):((oneF o a b p).2.2 !=(0:Int))=decide (0< (oneF o a b p).2.2):=by
 have h:0<=(oneF o a b p).2.2:=by
  unfold oneF
  simp only[cond_eq_ite]
  repeat' split
  all_goals simp
 generalize (oneF o a b p).2.2=k at*
 rw[Bool.eq_iff_iff]
 simp only[bne_iff_ne,decide_eq_true_eq]
 omega
section
variable {o a b:List File}(ho:TB o)(ha:TB a)(hb:TB b)(to:zaw o)(ta:zaw a)(tb:zaw b)
include ho ha hb to ta tb
theorem zmK (p:Str):ziN (znL o p) (znL a p) (znL b p)=some (⟨(oneF o a b p).1,(oneF o a b p).2.1⟩,(oneF o a b p).2.2):=by
 have no:=zkB (t:=o) (p:=p)
 have mt:=zjC (za5 to p) (za5 ta p) (za5 tb p)
 unfold ziN oneF
 simp only[jn,zjq ha,zjq hb,aA,zjw]
 unfold znL
 simp only[mt,aA]
 cases decide (getT a p=getT o p)<;>cases decide (getT a p=getT b p)<;>cases decide (getT b p=getT o p)<;>try rfl
 cases h1:(getT a p).2<;>cases h2:(getT b p).2<;>try rfl
 cases h3:(getT o p).2 with
 |false=>rw[no h3];rfl
 |true=>cases(zcy (zaD (getT o p).1 (getT a p).1 (getT b p).1)).2<;>rfl
theorem zjr {ps:List Str}(hp:ps.length<=1000){G:List File->List Clash->Int->Option (List File×List Clash)}: ∀ (k i m:Nat) (fs:List File) (cs:List Clash),i+k=ps.length->k<m->fs.length<=i->cs.length<=i->
 zek o a b ps G m fs cs (i:Int)=G (fs++(ps.drop i).filterMap (zgY o a b)) (cs++(ps.drop i).filterMap (zfY o a b)) (ps.length:Int)
 |k,i,0,fs,cs,_,hm,_,_=>by omega
 |0,i,m+1,fs,cs,hi,_,_,_=>by
  obtain rfl:i=ps.length:=by omega
  simp only[zek,zaf,aC,List.drop_length]
  simp
 |k+1,i,m+1,fs,cs,hi,hm,hf,hc=>by
  have hlt:i<ps.length:=by omega
  have hx:ps[i]? =some ps[i]:=aB hlt
  have ih:=fun fs cs h1 h2=>zjr hp (G:=G) k (i+1) m fs cs (by omega) (by omega) h1 h2
  have eh: ∀ x:has,(⟨x.text,x.file⟩:has)=x:=fun _=>rfl
  simp only[zek,jn,zan hx,zad hx,aD,aA,zae hlt (show ps.length<=maxi by unfold maxi;omega),zjB ho,zjB ha,zjB hb,eh,zmK ho ha hb to ta tb,zmJ,ap1 (x:=(⟨ps[i],(oneF o a b ps[i]).1⟩:File)) (show fs.length<=1048576 by omega),ap1 (x:=(⟨ps[i],(oneF o a b ps[i]).2.2⟩:Clash)) (show cs.length<=1048576 by omega)]
  rw[aI hlt,List.filterMap_cons,List.filterMap_cons]
  unfold zgY zfY at ih ⊢
  cases(oneF o a b ps[i]).2.1<;>cases decide (0< (oneF o a b ps[i]).2.2)<;>simp only[aD,aC,aA]
  ·rw[ih _ _ (by omega) (by omega)]
  ·rw[ih _ _ (by omega) (by simp;omega)];simp
  ·rw[ih _ _ (by simp;omega) (by omega)];simp
  ·rw[ih _ _ (by simp;omega) (by simp;omega)];simp
end
theorem ziK {t:List File}(h:TB t){C:List Str->Int->Option (List Str)}: ∀ (k i m:Nat) (acc:List Str),i+k=t.length->k<m->acc.length<=10000+i->t.length<=1000->
 zdt t C m acc (i:Int)=C (acc++(t.drop i).map (·.Path)) (t.length:Int)
 |k,i,0,acc,_,hm,_,_=>by omega
 |0,i,m+1,acc,hi,_,_,_=>by
  obtain rfl:i=t.length:=by omega
  simp only[zdt,zaf,aC,List.drop_length]
  simp
 |k+1,i,m+1,acc,hi,hm,hl,ht=>by
  have hlt:i<t.length:=by omega
  have hx:t[i]? =some t[i]:=aB hlt
  simp only[zdt,zan hx,zad hx,aD,aA,ap1 (x:=t[i].Path) (show acc.length<=1048576 by omega),zae hlt h.maxi]
  rw[ziK h k (i+1) m _ (by omega) (by omega) (by simp;omega) ht,aI hlt,List.map_cons,List.append_assoc]
  rfl
theorem zli {o a b:List File}(ho:TB o)(ha:TB a)(hb:TB b)(so:o.length<=100)(sa:a.length<=100)(sb:b.length<=100):zg6 [o,a,b]=some (zbb o a b):=by
 unfold zg6
 simp only[jn,zap]
 have step: ∀ (K:List Str->Int->Option (List Str)) (m i:Nat) (t:List File) (acc:List Str),[o,a,b][i]? =some t->TB t->t.length<=100->acc.length<=1000->zbm [o,a,b] K (m+1) acc (i:Int)=zbm [o,a,b] K m (acc++t.map (·.Path)) ((i+1:Nat):Int):=fun K m i t acc hx ht hl ha=>by
  have hi:=zar hx
  simp only[zbm,jn,zan hx,zad hx,aD,aA,zap]
  have:=ziK ht (C:=fun e g=>zbm [o,a,b] K m e (w64 ((i:Int)+1))) t.length 0 (t.length+1) acc (by omega) (by omega) (by omega) (by omega)
  rw[List.drop_zero]at this
  refine this.trans ?_
  rw[zae hi (by simp[maxi])]
 have hlen:([o,a,b]:List (List File)).length+1=3+1:=rfl
 rw[hlen]
 refine(step _ 3 0 o [] rfl ho so (by simp)).trans ?_
 refine(step _ 2 1 a _ rfl ha sa (by simp;omega)).trans ?_
 refine(step _ 1 2 b _ rfl hb sb (by simp;omega)).trans ?_
 have he: ∀ (K:List Str->Int->Option (List Str)) (m:Nat) (acc:List Str),zbm [o,a,b] K (m+1) acc ((2+1:Nat):Int)=K acc ((2+1:Nat):Int):=fun K m acc=>rfl
 refine(he _ 0 _).trans ?_
 have e0:[]++o.map (fun f:File=>f.Path)++a.map (fun f:File=>f.Path)++b.map (fun f:File=>f.Path)=o.map (·.Path)++a.map (·.Path)++b.map (·.Path):=by simp
 rw[e0]
 have hl:(o.map (fun f:File=>f.Path)++a.map (fun f:File=>f.Path)++b.map (fun f:File=>f.Path)).length<=300:=by simp;omega
 generalize hL:o.map (fun f:File=>f.Path)++a.map (fun f:File=>f.Path)++b.map (fun f:File=>f.Path)=L at*
 have h2:(zdE L).length=L.length:=List.length_mergeSort _
 unfold zeY zeb
 rw[if_pos (by omega),aA,if_pos (by omega),aA,zl4 L o a b hL.symm]
section
variable {o a b:List File}(ho:TB o)(ha:TB a)(hb:TB b)(to:zaq o=true)(ta:zaq a=true)(tb:zaq b=true)
include ho ha hb to ta tb
theorem ziL:zgE o a b=some true:=by
 unfold zgE
 simp only[jn,zer ho,zer ha,zer hb,to,ta,tb,aA,aD]
theorem zl5:ziO o a b=some (zbo o a b):=by
 have so:=zam to
 have sa:=zam ta
 have sb:=zam tb
 have hl:=zeN o a b
 unfold ziO zbo
 rw[ziL ho ha hb to ta tb,aA,aK,aC,zli ho ha hb (by omega) (by omega) (by omega),aA]
 simp only[jn,zap]
 have:=zjr ho ha hb (zak to) (zak ta) (zak tb) (ps:=zbb o a b) (by omega) (G:=fun b' c _=>bif((c.length:Int)==(0:Int)) then((zdM b').bind fun h=>bif !h then((zc4 o).bind fun g=>some (g,([⟨[],4⟩]:List Clash))) else some (b',c)) else(bif false then((zc4 o).bind fun g=>some (g,([⟨[],4⟩]:List Clash))) else some (b',c))) (zbb o a b).length 0 ((zbb o a b).length+1) [] [] (by omega) (by omega) (by simp) (by simp)
 refine this.trans ?_
 simp only[List.drop_zero,List.nil_append]
 rw[show(zbb o a b).filterMap (zgY o a b)=zdu o a b from rfl,show(zbb o a b).filterMap (zfY o a b)=zd0 o a b from rfl,zer (zfZ ho ha hb (zak to) (zak ta) (zak tb) (by omega) (by omega) (by omega)),zfz ho]
 simp only[aA]
 cases(((zd0 o a b).length:Int)==0)<;>cases zaq (zdu o a b)<;>rfl
theorem ziS:zd4 o a b=some (bif decide (0< ((zbo o a b).2.length:Int)) then([],false) else((zbo o a b).1,true)):=by
 unfold zd4
 rw[ziL ho ha hb to ta tb,aA,aK,aC,zl5 ho ha hb to ta tb,aA]
 cases decide (0< ((zbo o a b).2.length:Int))<;>rfl
end
theorem zhZ.lt {l:List Int}(h:zhZ l){i k:Nat}(hik:i<k)(hk:k<l.length):l.getD i 0<l.getD k 0:=by
 have h1:i<l.length:=by omega
 have:=List.pairwise_iff_getElem.1 h i k h1 hk hik
 rw[zbP (aB h1),zbP (aB hk)]
 exact this
theorem zhZ.inj {l:List Int}(h:zhZ l){i k:Nat}(hi:i<l.length)(hk:k<l.length)(e:l.getD i 0=l.getD k 0):i=k:=by
 rcases Nat.lt_trichotomy i k with h1 |h1 |h1
 ·have:=h.lt h1 hk;omega
 ·exact h1
 ·have:=h.lt h1 hi;omega
theorem znC (r:Repo)(a b:Int):zhZ (zdJ r a b):=(zjA r a).sublist List.filter_sublist
theorem zhE {r:Repo}{a b x:Int}:x∈zdJ r a b↔x∈zaJ r a/\x∈zaJ r b:=by
 unfold zdJ
 rw[List.mem_filter,zbA]
theorem zri {l:List Int}(h:zhZ l)(p:Nat->Bool):zhZ (zki p l):=by
 unfold zhZ zki
 rw[List.pairwise_map]
 refine List.Pairwise.imp_of_mem (fun {i k} hi hk hlt=>?_) ((zmi l.length).sublist List.filter_sublist)
 exact h.lt hlt (List.mem_range.1 (List.mem_filter.1 hk).1)
theorem zmb (r:Repo)(a b:Int):zhZ (zaB r a b):=zri (znC r a b) _
theorem znn {l:List Int}{x:Int}:x∈l ↔ ∃ i,i<l.length/\l.getD i 0=x:=by
 constructor
 ·intro h
  obtain⟨i,hi⟩:=List.getElem?_of_mem h
  exact⟨i,(List.getElem?_eq_some_iff.1 hi).1,zbP hi⟩
 ·rintro⟨i,hi,rfl⟩
  rw[zbP (aB hi)]
  exact List.getElem_mem hi
theorem zkY {r:Repo}{a b x:Int}:x∈zaB r a b↔x∈zdJ r a b /\ ∀ y∈zdJ r a b,y≠x->x∉zaJ r y:=by
 have hasc:=znC r a b
 unfold zaB zki
 rw[List.mem_map]
 constructor
 ·rintro⟨i,hi,rfl⟩
  rw[List.mem_filter,List.mem_range]at hi
  obtain⟨hil,hb⟩:=hi
  unfold zkz at hb
  rw[zaP]at hb
  refine⟨znn.2 ⟨i,hil,rfl⟩,fun y hy hne hx=>?_⟩
  obtain⟨k,hk,rfl⟩:=znn.1 hy
  have:=hb k (Nat.zero_le _) (by omega)
  rw[zbA.2 hx,aK,Bool.or_false,beq_iff_eq]at this
  exact hne (by rw[show k=i by omega])
 ·rintro⟨hm,hall⟩
  obtain⟨i,hi,rfl⟩:=znn.1 hm
  refine⟨i,List.mem_filter.2 ⟨List.mem_range.2 hi,?_⟩,rfl⟩
  unfold zkz
  rw[zaP]
  intro k _ hk
  have hkl:k< (zdJ r a b).length:=by omega
  cases hki:((k:Int)==(i:Int))with
  |true=>rfl
  |false=>
   have hne:k≠i:=fun e=>by rw[e]at hki;simp at hki
   have:=hall _ (znn.2 ⟨k,hkl,rfl⟩) (fun e=>hne (hasc.inj hkl hi e))
   cases hq:zen (zaJ r ((zdJ r a b).getD k 0)) ((zdJ r a b).getD i 0)with
   |false=>rfl
   |true=>exact absurd (zbA.1 hq) this
theorem zpI (r:Repo)(a b:Int):zaB r b a=zaB r a b:=by
 have hb: ∀ x,x∈zdJ r b a↔x∈zdJ r a b:=fun x=>by rw[zhE,zhE];exact And.comm
 refine zhZ.ext (zmb _ _ _) (zmb _ _ _) fun x=>?_
 rw[zkY,zkY,hb]
 exact and_congr Iff.rfl ⟨fun h y hy=>h y ((hb y).2 hy),fun h y hy=>h y ((hb y).1 hy)⟩
theorem zov {r:Repo}(hr:zaa r=true){a b:Int}(ha:upB r.Commits.length a=true)(hb:upB r.Commits.length b=true)(h:a∈zaJ r b):zaB r a b=[a]:=by
 obtain⟨a0,a1⟩:=zau.1 ha
 obtain⟨b0,b1⟩:=zau.1 hb
 have hself:=zks hr a0 a1
 have hab:a∈zdJ r a b:=zhE.2 ⟨hself,h⟩
 refine zhZ.ext (zmb _ _ _) (List.pairwise_singleton _ _) fun x=>?_
 rw[zkY,List.mem_singleton]
 constructor
 ·rintro⟨hx,hall⟩
  by_cases e:a=x
  ·exact e.symm
  ·exact absurd (zhE.1 hx).1 (hall a hab e)
 ·rintro rfl
  refine⟨hab,fun y hy hne hx=>?_⟩
  have hym:=zbk (zhE.1 hy).1
  have h1:=zmZ hr hym.1 hym.2 hx
  have h2:=zmZ hr a0 a1 (zhE.1 hy).1
  exact hne (by omega)
def zn5 (x y:List Bool)(n:Nat):List Bool:=(List.range n).map fun i=>x.getD i false&&y.getD i false
theorem zsm (x y:List Bool)(n i:Nat)(hi:i<n):((List.range i).map (fun i=>x.getD i false&&y.getD i false)++List.replicate (n-i) false).set i (x.getD i false&&y.getD i false)=(List.range (i+1)).map (fun i=>x.getD i false&&y.getD i false)++List.replicate (n-(i+1)) false:=by
 obtain⟨k,hk⟩: ∃ k,n-i=k+1:=⟨n-i-1,by omega⟩
 rw[hk,show n-(i+1)=k by omega,List.set_append_right _ _ (by simp),List.length_map,List.length_range,Nat.sub_self,List.replicate_succ,List.set_cons_zero,List.range_succ,List.map_append,List.append_assoc]
 rfl
theorem zow {x y q:List Bool}{n:Nat}(hx:x.length=n)(hy:y.length=n)(hq:q.length=n)(hn:n<=1000){F:List Bool->Option (List Int)}: ∀ (k i m:Nat),i+k=n->k<m->
 zfL x y q (fun _ z=>F z) m (i:Int) ((List.range i).map (fun i=>x.getD i false&&y.getD i false)++List.replicate (n-i) false)=F (zn5 x y n)
 |k,i,0,_,hm=>by omega
 |0,i,m+1,hi,_=>by
  obtain rfl:i=n:=by omega
  simp only[zfL,hq,zaf,aC,Nat.sub_self,List.replicate_zero,List.append_nil]
  rfl
 |k+1,i,m+1,hi,hm=>by
  have hlt:i<n:=by omega
  have hl:((List.range i).map (fun i=>x.getD i false&&y.getD i false)++List.replicate (n-i) false).length=n:=by simp;omega
  have ih:=zow hx hy hq hn (F:=F) k (i+1) m (by omega) (by omega)
  rw[<- zsm x y n i hlt]at ih
  simp only[zfL,hq]
  rw[aF (show(i:Int)< (n:Int) by omega),aD,zcA (by omega),aA]
  have hsi: ∀ v,siM ((List.range i).map (fun i=>x.getD i false&&y.getD i false)++List.replicate (n-i) false) (i:Int) v=some (((List.range i).map (fun i=>x.getD i false&&y.getD i false)++List.replicate (n-i) false).set i v):=fun v=>zcu (by omega) v
  have hg:=zcA (mk:=(List.range i).map (fun i=>x.getD i false&&y.getD i false)++List.replicate (n-i) false) (i:=i) (by omega)
  rw[zcA (show i<y.length by omega)]
  simp only[aA,hg,hsi,zae hlt (show n<=maxi by unfold maxi;omega)]
  cases hxi:x.getD i false with
  |true=>
   rw[hxi,Bool.true_and]at ih
   exact ih
  |false=>
   rw[hxi,Bool.false_and]at ih
   exact ih
def zpm (u:Int)(mk:List Bool)(p:Int):List Bool:=bif p !=u then mk.set p.toNat false else mk
theorem znD (u:Int): ∀ (ps:List Int) (mk:List Bool),(∀ p∈ps,0<=p)->(ps.foldl (zpm u) mk).length=mk.length /\ ∀ j,j<mk.length->(ps.foldl (zpm u) mk).getD j false=(mk.getD j false && !(zen ps (j:Int) && !((j:Int)==u)))
 | [],mk,_=>⟨rfl,fun j _=>by simp[zen]⟩
 |p::ps,mk,hp=>by
  have hl:(zpm u mk p).length=mk.length:=by unfold zpm;cases(p !=u)<;>simp
  obtain⟨e1,e2⟩:=znD u ps (zpm u mk p) (fun q hq=>hp q (List.mem_cons_of_mem _ hq))
  rw[List.foldl_cons]
  refine⟨e1.trans hl,fun j hj=>?_⟩
  have hp0:=hp p (by simp)
  rw[e2 j (by omega)]
  have hh:zen (p::ps) (j:Int)=((p==(j:Int))||zen ps (j:Int)):=rfl
  rw[hh]
  have hs:(zpm u mk p).getD j false=(mk.getD j false && !((p==(j:Int)) && !((j:Int)==u))):=by
   unfold zpm
   by_cases e:p=(j:Int)
   ·subst e
    cases hu:((j:Int)==u)with
    |true=>simp[bne,hu]
    |false=>simp[bne,hu,List.getD,hj]
   ·rw[beq_false_of_ne e,Bool.false_and,Bool.not_false,Bool.and_true]
    cases(p !=u)with
    |false=>rfl
    |true=>
     rw[aD]
     simp only[List.getD,List.getElem?_set_ne (show p.toNat≠j by omega)]
  rw[hs]
  cases mk.getD j false<;>cases(p==(j:Int))<;>cases zen ps (j:Int)<;>cases((j:Int)==u)<;>rfl
def zn6 (r:Repo)(ls:List Int)(mk:List Bool):List Bool:=ls.foldl (fun mk u=>(zaJ r u).foldl (zpm u) mk) mk
theorem zmB (r:Repo): ∀ (ls:List Int) (mk:List Bool),(zn6 r ls mk).length=mk.length /\ ∀ j,j<mk.length->(zn6 r ls mk).getD j false=(mk.getD j false&&ls.all fun u=> !(zen (zaJ r u) (j:Int) && !((j:Int)==u)))
 | [],mk=>⟨rfl,fun j _=>by simp[zn6]⟩
 |u::ls,mk=>by
  obtain⟨f1,f2⟩:=znD u (zaJ r u) mk (fun p hp=>(zbk hp).1)
  obtain⟨e1,e2⟩:=zmB r ls ((zaJ r u).foldl (zpm u) mk)
  refine⟨e1.trans f1,fun j hj=>?_⟩
  refine(e2 j (by omega)).trans ?_
  rw[f2 j hj,List.all_cons,Bool.and_assoc]
theorem zqj {r:Repo}(hr:zaa r=true){a b:Int}(ha:upB r.Commits.length a=true)(hb:upB r.Commits.length b=true):zju (zn5 (zaT r a.toNat) (zaT r b.toNat) r.Commits.length)=zdJ r a b /\ ∀ j,j<r.Commits.length->(zn5 (zaT r a.toNat) (zaT r b.toNat) r.Commits.length).getD j false=zen (zdJ r a b) (j:Int):=by
 obtain⟨a0,a1⟩:=zau.1 ha
 obtain⟨b0,b1⟩:=zau.1 hb
 have hg: ∀ j,j<r.Commits.length->(zn5 (zaT r a.toNat) (zaT r b.toNat) r.Commits.length).getD j false=((zaT r a.toNat).getD j false&&(zaT r b.toNat).getD j false):=fun j hj=>by
  unfold zn5
  rw[List.getD,List.getElem?_map,List.getElem?_range hj]
  rfl
 have hm: ∀ j,j<r.Commits.length->((zn5 (zaT r a.toNat) (zaT r b.toNat) r.Commits.length).getD j false=true↔ (j:Int)∈zdJ r a b):=fun j hj=>by
  rw[hg j hj,aG,zhE,zcx hr a0 a1,zcx hr b0 b1,Int.toNat_natCast]
  have h1:=zfS hr (show a.toNat<r.Commits.length by omega) j
  have h2:=zfS hr (show b.toNat<r.Commits.length by omega) j
  unfold mkd at h1 h2
  rw[h1,h2]
  exact⟨fun h=>⟨⟨Int.natCast_nonneg j,h.1⟩,Int.natCast_nonneg j,h.2⟩,fun h=>⟨h.1.2,h.2.2⟩⟩
 have hlen:(zn5 (zaT r a.toNat) (zaT r b.toNat) r.Commits.length).length=r.Commits.length:=by unfold zn5;simp
 refine⟨zhZ.ext (zkr _) (znC _ _ _) fun x=>?_,fun j hj=>?_⟩
 ·rw[zmk]
  constructor
  ·rintro⟨hx,h⟩
   have hlt:=zmh h
   have:=(hm x.toNat (by omega)).1 h
   rwa [Int.toNat_of_nonneg hx]at this
  ·intro h
   have hxm:=zbk (zhE.1 h).1
   refine⟨hxm.1,(hm x.toNat (by omega)).2 ?_⟩
   rwa [Int.toNat_of_nonneg hxm.1]
 ·apply zdc
  rw[hm j hj,zbA]
theorem zqk {r:Repo}(hr:zaa r=true){a b:Int}(ha:upB r.Commits.length a=true)(hb:upB r.Commits.length b=true):zju (zn6 r (zdJ r a b) (zn5 (zaT r a.toNat) (zaT r b.toNat) r.Commits.length))=zaB r a b:=by
 obtain⟨_,c2⟩:=zqj hr ha hb
 have hlen:(zn5 (zaT r a.toNat) (zaT r b.toNat) r.Commits.length).length=r.Commits.length:=by unfold zn5;simp
 obtain⟨g1,g2⟩:=zmB r (zdJ r a b) (zn5 (zaT r a.toNat) (zaT r b.toNat) r.Commits.length)
 have key: ∀ j,j<r.Commits.length->((zn6 r (zdJ r a b) (zn5 (zaT r a.toNat) (zaT r b.toNat) r.Commits.length)).getD j false=true↔ (j:Int)∈zaB r a b):=fun j hj=>by
  rw[g2 j (by omega),c2 j hj,aG,zbA,List.all_eq_true,zkY]
  refine and_congr Iff.rfl ⟨fun h y hy hne hx=>?_,fun h y hy=>?_⟩
  ·have:=h y hy
   rw[zbA.2 hx,beq_false_of_ne (fun e=>hne e.symm)]at this
   cases this
  ·by_cases e:(j:Int)=y
   ·rw[e];simp
   ·have:=h y hy (fun e2=>e e2.symm)
    cases hq:zen (zaJ r y) (j:Int)with
    |false=>rfl
    |true=>exact absurd (zbA.1 hq) this
 refine zhZ.ext (zkr _) (zmb _ _ _) fun x=>?_
 rw[zmk]
 constructor
 ·rintro⟨hx,h⟩
  have hlt:=zmh h
  have:=(key x.toNat (by omega)).1 h
  rwa [Int.toNat_of_nonneg hx]at this
 ·intro h
  have hxm:=ziF h
  refine⟨hxm.1,(key x.toNat (by omega)).2 ?_⟩
  rwa [Int.toNat_of_nonneg hxm.1]
theorem zql {r:Repo}(hr:zaa r=true){a b:Int}(ha:upB r.Commits.length a=true)(hb:upB r.Commits.length b=true):zjj r a b=some (zaB r a b):=by
 obtain⟨a0,a1⟩:=zau.1 ha
 obtain⟨b0,b1⟩:=zau.1 hb
 have hs:=(zab hr).1
 obtain⟨c1,c2⟩:=zqj hr ha hb
 have hlen:(zn5 (zaT r a.toNat) (zaT r b.toNat) r.Commits.length).length=r.Commits.length:=by unfold zn5;simp
 unfold zjj
 rw[zd8 hr a0 a1,aA,zd8 hr b0 b1,aA,zjy (by simp[lim];omega),aA]
 simp only[jn,List.length_replicate,zap]
 have e1:=zow (x:=zaT r a.toNat) (y:=zaT r b.toNat) (q:=List.replicate r.Commits.length false) (n:=r.Commits.length) (zaV _ _) (zaV _ _) (by simp) (by omega) (F:=fun y31=>(zfh y31).bind fun z64=>(zc3 y31).bind fun z72=>zea r z72 (fun _ y84=>(zc3 y84).bind fun z166=>some z166) (((z72.length:Int)-0).toNat+1) 0 z64) r.Commits.length 0 (r.Commits.length+1) (by omega) (by omega)
 refine(Eq.trans (by simp) e1).trans ?_
 have hcl:zfh (zn5 (zaT r a.toNat) (zaT r b.toNat) r.Commits.length)=some (zn5 (zaT r a.toNat) (zaT r b.toNat) r.Commits.length):=by
  unfold zfh
  rw[if_pos (by rw[hlen];simp[lim];omega)]
 have hbl:(zdJ r a b).length<=r.Commits.length:=Nat.le_trans (List.length_filter_le _ _) (zbf r a)
 rw[hcl,aA,zh3 (by omega),aA,c1,zap]
 rw[zgw (xs:=zdJ r a b) (g:=fun mk u=>(zaJ r u).foldl (zpm u) mk) (I:=fun mk=>mk.length=r.Commits.length) (Z:=fun mk=>(zc3 mk).bind fun z=>some z) (f:=fun m i mk=>zea r (zdJ r a b) _ m i mk) hlen (fun m i o mk ho hmk=>by
  have hom:=zbk (zhE.1 (aH ho)).1
  obtain⟨f1,f2⟩:=znD o (zaJ r o) mk (fun p hp=>(zbk hp).1)
  refine⟨?_,f1.trans hmk⟩
  simp only[zea,jn,zan ho,zad ho,aD,aA,zd8 hr hom.1 hom.2,zh3 (show(zaT r o.toNat).length<=1000 by rw[zaV];omega),zap]
  have hal:=znj (zaT r o.toNat)
  rw[zaV]at hal
  rw[zgw (xs:=zju (zaT r o.toNat)) (g:=zpm o) (I:=fun mk=>mk.length=r.Commits.length) (Z:=fun mk=>zea r (zdJ r a b) (fun _ y84=>(zc3 y84).bind fun z166=>some z166) m (w64 ((i:Int)+1)) mk) (f:=fun m' i mk=>zgr o (zju (zaT r o.toNat)) _ m' i mk) hmk (fun m' i' x mk' hx hmk'=>by
   have hxm:=zbk (r:=r) (a:=o) (aH hx)
   have hxl:x.toNat<mk'.length:=by omega
   have e1:gi mk' x=some (mk'.getD x.toNat false):=by
    have:=zcA hxl
    rwa [Int.toNat_of_nonneg hxm.1]at this
   have e2:siM mk' x false=some (mk'.set x.toNat false):=by
    have:=zcu hxl false
    rwa [Int.toNat_of_nonneg hxm.1]at this
   refine⟨?_,by unfold zpm;cases(x !=o)<;>simp[hmk']⟩
   simp only[zgr,jn,zan hx,zad hx,aD,aA,e1,e2,zae (zar hx) (show(zju (zaT r o.toNat)).length<=maxi by unfold maxi;omega)]
   unfold zpm
   cases(x !=o)<;>rfl) (fun m' mk' _=>by simp only[zgr,zaf,aC]),zae (zar ho) (show(zdJ r a b).length<=maxi by unfold maxi;omega)]
  rfl) (fun m mk _=>by simp only[zea,zaf,aC])]
 obtain⟨g1,_⟩:=zmB r (zdJ r a b) (zn5 (zaT r a.toNat) (zaT r b.toNat) r.Commits.length)
 rw[show(zdJ r a b).foldl (fun mk u=>(zaJ r u).foldl (zpm u) mk) (zn5 (zaT r a.toNat) (zaT r b.toNat) r.Commits.length)=zn6 r (zdJ r a b) (zn5 (zaT r a.toNat) (zaT r b.toNat) r.Commits.length) from rfl,zh3 (by omega),aA,zqk hr ha hb]
theorem ziY {r:Repo}(h:RpB r){a:Int}(ha:upB r.Commits.length a=true):zaN r a=some (zah r a.toNat):=by
 obtain⟨a0,a1⟩:=zau.1 ha
 unfold zaN
 rw[aE (by omega),aC,za3 a0 a1]
 rfl
section
variable {r:Repo}(h:RpB r)(hr:zaa r=true)
include h hr
theorem zkC:Gd False r:=⟨h,hr,fun e=>e.elim⟩
theorem zpa {a b:Int}(ha:upB r.Commits.length a=true)(hb:upB r.Commits.length b=true):zhU r a b=some (zf0 r a b):=by
 have hs:=(zab hr).1
 have hl:=zjf r a b
 unfold zhU zf0
 rw[zql hr ha hb,aA]
 cases hz:((zaB r a b).length:Int)==0 with
 |true=>rfl
 |false=>
  have hne:((zaB r a b).length:Int)≠0:=by simpa using hz
  have e:w64 (((zaB r a b).length:Int)-1)=(((zaB r a b).length-1:Nat):Int):=by rw[zag (by omega) (by omega)];omega
  have hlt:(zaB r a b).length-1< (zaB r a b).length:=by omega
  have hm:(zaB r a b).getD ((zaB r a b).length-1) 0∈zaB r a b:=by
   rw[zbP (aB hlt)];exact List.getElem_mem hlt
  rw[aC,aC,e,zgX hlt,aA,ziY h (zau.2 (ziF hm)),aA]
end
def znK (r:Repo)(n:Str)(x:Repo):Prop:=x=r\/x=zbv\/zaa x=true
theorem znK.bulk {r x:Repo}{n:Str}(h:znK r n x):Bk.bulk x<=Bk.bulk r+20000:=by
 rcases h with h |h |h
 ·rw[h];omega
 ·rw[h];show 0+0+(0+0)<=_;omega
 ·have:=zle h;omega
theorem znK.fit {r x:Repo}{n:Str}(hf:Bk.fit r)(h:znK r n x):Bk.fit x:=by
 rcases h with h |h |h
 ·rw[h];exact hf
 ·rw[h];exact⟨⟨by simp[zbv,maxi],by simp[zbv]⟩,by simp[zbv,maxi],by simp[zbv]⟩
 ·exact zlg h
def znS (r:Repo)(a b:Int):List File×List Clash:=zbo (zf0 r a b) (zah r a.toNat) (zah r b.toNat)
def zlW (r:Repo)(a b:Int):List File×Bool:=bif zaa r&&(upB r.Commits.length a&&upB r.Commits.length b) then(bif decide (0< ((znS r a b).2.length:Int)) then([],false) else((znS r a b).1,true)) else([],false)
theorem zpJ (r:Repo)(a b:Int):zf0 r b a=zf0 r a b:=by
 unfold zf0
 rw[zpI]
theorem zpK (r:Repo)(a b:Int):znS r b a=znS r a b:=by
 unfold znS
 rw[zpJ,zoL]
theorem zpb (r:Repo)(a b:Int):zlW r b a=zlW r a b:=by
 unfold zlW
 rw[zpK,Bool.and_comm (upB r.Commits.length b)]
section
variable {r:Repo}(h:RpB r)(hr:zaa r=true){a b:Int}(ha:upB r.Commits.length a=true)(hb:upB r.Commits.length b=true)
include h hr ha hb
theorem zqm (hab:a∈zaJ r b):znS r a b=(zah r b.toNat,[]):=by
 obtain⟨b0,b1⟩:=zau.1 hb
 have hg:=zkC h hr
 obtain⟨_,tb,_,_⟩:=hg.tree (i:=b.toNat) (by omega)
 have e:zf0 r a b=zah r a.toNat:=by
  unfold zf0
  rw[zov hr ha hb hab]
  rfl
 unfold znS
 rw[e,zkU tb]
theorem zpL (hab:a∈zaJ r b):zlW r a b=(zah r b.toNat,true):=by
 unfold zlW
 rw[hr,ha,hb,zqm h hr ha hb hab]
 rfl
theorem zmC:TB (zf0 r a b)/\zaq (zf0 r a b)=true/\TB (zah r a.toNat)/\zaq (zah r a.toNat)=true/\TB (zah r b.toNat)/\zaq (zah r b.toNat)=true/\TB (znS r a b).1:=by
 obtain⟨a0,a1⟩:=zau.1 ha
 obtain⟨b0,b1⟩:=zau.1 hb
 have hs:=(zab hr).1
 have hg:=zkC h hr
 obtain⟨_,e2,e3⟩:=zij hg a0 a1 b0 b1
 obtain⟨ta,ta2,ta3,ta4⟩:=hg.tree (i:=a.toNat) (by omega)
 obtain⟨tb,tb2,tb3,tb4⟩:=hg.tree (i:=b.toNat) (by omega)
 have:=zam e3
 exact⟨e2,e3,ta,ta2,tb,tb2,zf3 e2 ta tb (zak e3) ta3 tb3 (by omega) (by omega) (by omega)⟩
end
theorem zqn {r:Repo}(h:RpB r)(a b:Int):TB (zlW r a b).1:=by
 unfold zlW
 cases hc:zaa r&&(upB r.Commits.length a&&upB r.Commits.length b)with
 |false=>exact TB.nil
 |true=>
  simp only[aG]at hc
  rw[aD]
  cases decide (0< ((znS r a b).2.length:Int))with
  |true=>exact TB.nil
  |false=>exact(zmC h hc.1 hc.2.1 hc.2.2).2.2.2.2.2.2
theorem zoi {r:Repo}(h:RpB r)(a b:Int):zjd r a b=some (zlW r a b):=by
 unfold zjd zlW
 rw[zmV h (by simp),aA]
 simp only[List.all_cons,List.all_nil,Bool.and_true]
 cases hc:zaa r&&(upB r.Commits.length a&&upB r.Commits.length b)with
 |false=>rfl
 |true=>
  simp only[aG]at hc
  obtain⟨hr,ha,hb⟩:=hc
  obtain⟨e2,e3,ta,ta2,tb,tb2,_⟩:=zmC h hr ha hb
  rw[aK,aC,aD,zpa h hr ha hb,aA,ziY h ha,aA,ziY h hb,aA,ziS e2 ta tb e3 ta2 tb2]
  rfl
theorem zoj {r:Repo}(h:RpB r)(a b:Int):zjL r a b=some (zlW r a b):=by
 unfold zjL zlW
 simp only[jn,zbT h,zcC,zcq (zal h.coms),aA]
 rw[show(decide ((0:Int)<=a)&&decide (a<=(r.Commits.length:Int)-1))=upB r.Commits.length a from rfl,show(decide ((0:Int)<=b)&&decide (b<=(r.Commits.length:Int)-1))=upB r.Commits.length b from rfl]
 cases hr:zaa r with
 |false=>rfl
 |true=>
  cases ha:upB r.Commits.length a with
  |false=>rfl
  |true=>
   cases hb:upB r.Commits.length b with
   |false=>rfl
   |true=>
    obtain⟨a0,a1⟩:=zau.1 ha
    obtain⟨b0,b1⟩:=zau.1 hb
    have hs:=(zab hr).1
    obtain⟨e2,e3,ta,ta2,tb,tb2,tj⟩:=zmC h hr ha hb
    have so:=zam e3
    have sa:=zam ta2
    have sb:=zam tb2
    have hj:=zgM e2 ta tb (zak e3) (zak ta2) (zak tb2) (by omega) (by omega) (by omega)
    have e1:=(zij (zkC h hr) a0 a1 b0 b1).1
    unfold znS at tj ⊢
    unfold zah at hj tj ⊢
    simp only[aK,aC,Bool.and_true,aD,e1,za3 a0 a1,za3 b0 b1,aA,hj]
    cases decide (0< ((zbo (zf0 r a b) (r.Commits.getD a.toNat noCommit).Tree (r.Commits.getD b.toNat noCommit).Tree).2.length:Int))with
    |true=>rfl
    |false=>simp only[aC,zbG tj,aA]
theorem znd {code:List Byte}(h:code.length<=1048576): ∃ x a b,zhT code=some (x,a,b)/\Drawn x /\ -1<=a/\a<=16 /\ -1<=b/\b<=16:=by
 obtain⟨x,a,b,e,r⟩:=zoy h
 unfold zhT
 rw[e,aA]
 exact⟨x,a,b,rfl,r⟩
theorem zoV {code:List Byte}(h:Bk.fit code):zjt code=some true:=by
 unfold zjt
 by_cases hc:(1048576:Int)< (code.length:Int)
 ·rw[aF hc];rfl
 obtain⟨x,a,b,e,hx,a0,a1,b0,b1⟩:=znd (code:=code) (by omega)
 have hb:=hx.rb
 have ht:=zqn hb a b
 rw[aE hc,aC,e,aA]
 simp only[zhl,zoi hb,zoj hb,aA,jn,bne_self_eq_false,aO,aC,aD,zil ht,aK,zb7 hb]
 cases hr:zaa x with
 |false=>rfl
 |true=>
  simp only[aK,aC]
  by_cases h1:a<0
  ·rw[aF h1];rfl
  rw[aE h1,aC]
  by_cases h2:b<0
  ·rw[aF h2];rfl
  rw[aE h2,aC]
  by_cases h3:(x.Commits.length:Int)<=a
  ·rw[aF h3];rfl
  rw[aE h3,aC]
  by_cases h4:(x.Commits.length:Int)<=b
  ·rw[aF h4];rfl
  rw[aE h4,aC]
  have ua:upB x.Commits.length a=true:=zau.2 (by omega)
  have ub:upB x.Commits.length b=true:=zau.2 (by omega)
  have eM:zjJ x b=(zah x b.toNat,true):=by unfold zjJ;rw[hr,ub];rfl
  have eI:zk1 x a b=zen (zaJ x b) a:=by unfold zk1;rw[hr,ua,ub];rfl
  simp only[zpb x a b,zhS hb,eM,zm6 hb,eI,aA,aO,zil ht,aD]
  cases hq:zen (zaJ x b) a with
  |false=>simp
  |true=>
   rw[zpL hb hr ua ub (zbA.1 hq)]at ht ⊢
   simp[zil ht]
def ChH:Int->List Hunk->Prop
 |_,[]=>True
 |lo,d::l=>lo<=d.At/\ChH (d.At+d.Less.length+1) l
theorem ChH.mono: ∀ {l:List Hunk} {lo lo':Int},lo'<=lo->ChH lo l->ChH lo' l
 | [],_,_,_,_=>trivial
 |d::l,_,_,h,⟨h1,h2⟩=>⟨Int.le_trans h h1,h2⟩
def zkO:List Str->List Str->Nat
 |a::l,b::m=>bif a==b then zkO l m+1 else 0
 |_,_=>0
def zp1 (t:List Str):List Str->Nat->Nat×Nat->Nat×Nat
 | [],_,r=>r
 |b::bs,i,r=>zp1 t bs (i+1) (bif decide (r.2<zkO (b::bs) t) then(i,zkO (b::bs) t) else r)
def zm9 (base t:List Str):Nat×Nat:=zp1 t base 0 (0,0)
def znJ (out:List Delta)(x:Str):List Delta:=match out.getLast? with
 |some d=>bif decide (0<d.Lines.length) then out.dropLast++[⟨d.From,d.Many,d.Lines++[x]⟩] else out++[⟨0,0,[x]⟩]
 |none=>out++[⟨0,0,[x]⟩]
def zit (base:List Str):Nat->List Delta->List Str->List Delta
 |0,out,_=>out
 |_+1,out,[]=>out
 |n+1,out,x::t=>bif decide (0< (zm9 base (x::t)).2) then zit base n (out++[⟨(zm9 base (x::t)).1,(zm9 base (x::t)).2,[]⟩]) ((x::t).drop (zm9 base (x::t)).2) else zit base n (znJ out x) t
def zko (base t:List Str):List Delta:=zit base t.length [] t
def OD (n:Nat)(l:List Owner):Prop:=l.length<=n /\ ∀ o∈l,o.Path.length<=10/\o.Who.length<=10
theorem OD.fit {n:Nat}{l:List Owner}(h:OD n l)(hn:n<=1000):Bk.fit l:=⟨by have:=h.1;unfold maxi;omega,fun o ho=>by
 have:=h.2 o ho
 exact⟨by show o.Path.length<=maxi;unfold maxi;omega,by show o.Who.length<=maxi;unfold maxi;omega⟩⟩
section
variable {base t:List Str}(hb:zao base=true)(ht:zao t=true)
include hb ht
end
def zoU (list:List (List Str))(ds:List Int)(i:Nat)(t:List Str)(b dep:Int)(d:List Delta):Prop:=(b = -1/\d=zko [] t/\dep=1) \/ ∃ k o dk,k<i/\b=(k:Int)/\list[k]? =some o/\ds[k]? =some dk/\d=zko o t/\dep=dk+1/\dk<=2
theorem zoU.snoc {list:List (List Str)}{ds:List Int}{i:Nat}{t:List Str}{b dep z:Int}{d:List Delta}(h:zoU list ds i t b dep d):zoU list (ds++[z]) i t b dep d:=by
 rcases h with h |⟨k,o,dk,h1,h2,h3,h4,h5⟩
 ·exact .inl h
 ·exact .inr ⟨k,o,dk,h1,h2,h3,by rw[aM (List.getElem?_eq_some_iff.1 h4).1];exact h4,h5⟩
section
variable {list:List (List Str)}(h12:list.length<=12)(hl: ∀ t∈list,zao t=true)
include h12 hl
end
end Go.Vm
