/- Plain law FnPickBack, and what it uses: what the models answer. Conditions: each law's own premises. -/
import Derived.Test.YtiahldhbknpmiaaGreatDoorBGFnPickBacka
import Derived.Test.YtiahldhbknpmiaaGreatDoorBLw
namespace Go.Vm
open Go Go.Sx
set_option linter.unusedSimpArgs false
set_option linter.unusedVariables false
theorem zkB {t:List File}{p:Str}(h:(getT t p).2=false):(getT t p).1=[]:=by
 unfold getT at*
 cases hf:t.find? (fun f=>f.Path==p)with
 |none=>rfl
 |some f=>rw[hf]at h;cases h
theorem zjw {a b:List File}{p:Str}:zey (getT a p) (getT b p)=decide (getT a p=getT b p):=by
 have ha:=zkB (t:=a) (p:=p)
 have hb:=zkB (t:=b) (p:=p)
 revert ha hb
 generalize getT a p=x
 generalize getT b p=y
 intro ha hb
 obtain⟨x1,x2⟩:=x
 obtain⟨y1,y2⟩:=y
 unfold zey
 cases x2<;>cases y2
 ·have e1:x1=[]:=ha rfl
  have e2:y1=[]:=hb rfl
  subst e1;subst e2;simp
 ·simp
 ·simp
 ·by_cases h:x1=y1
  ·subst h;simp
  ·have e:(x1==y1)=false:=beq_false_of_ne h
   simp[e,h]
theorem zh0 (o a b:List File):Asd (zbb o a b):=zcV _ _ (zcV _ _ (zcV _ _ List.Pairwise.nil))
theorem zml {t:List File}(h:zaq t=true):t.Pairwise fun x y=>x.Path<y.Path:=by
 unfold zaq at h
 simp only[aG]at h
 have hb: ∀ i,i<t.length->zft t i=true:=fun i hi=>by
  have:=zaP.1 h.2 i (Nat.zero_le _) (by omega)
  unfold zfu at this
  simp only[aG]at this
  exact this.1
 refine List.pairwise_iff_getElem.2 fun i j hi hj hij=>?_
 have:=zig hb hij hj
 rwa [za9 (aB hi),za9 (aB hj)]at this
theorem znR {t:List File}(h:t.Pairwise fun x y=>x.Path<y.Path){f:File}(hf:f∈t):getT t f.Path=(f.Text,true):=by
 unfold getT
 cases hg:t.find? (fun g=>g.Path==f.Path)with
 |none=>exact absurd (List.find?_eq_none.1 hg f hf) (by simp)
 |some g=>
  have hgm:=List.mem_of_find?_eq_some hg
  have he:g.Path=f.Path:=by simpa using List.find?_some hg
  obtain⟨i,hi,rfl⟩:=List.getElem_of_mem hf
  obtain⟨j,hj,rfl⟩:=List.getElem_of_mem hgm
  have hp:=List.pairwise_iff_getElem.1 h
  rcases Nat.lt_trichotomy i j with q |q |q
  ·have:=hp i j hi hj q
   rw[he]at this
   exact absurd this (zaj _)
  ·subst q;rfl
  ·have:=hp j i hj hi q
   rw[he]at this
   exact absurd this (zaj _)
theorem zkt: ∀ {xs ys:List File},xs.Pairwise (fun x y=>x.Path<y.Path)->ys.Pairwise (fun x y=>x.Path<y.Path)->(∀ a,a∈xs↔a∈ys)->xs=ys
 | [],[],_,_,_=>rfl
 | [],y::ys,_,_,h=>by have:=(h y).2 (by simp);simp at this
 |x::xs,[],_,_,h=>by have:=(h x).1 (by simp);simp at this
 |x::xs,y::ys,hx,hy,h=>by
  have hx':=List.pairwise_cons.1 hx
  have hy':=List.pairwise_cons.1 hy
  have e:x=y:=by
   rcases List.mem_cons.1 ((h x).1 (by simp))with q |q
   ·exact q
   ·rcases List.mem_cons.1 ((h y).2 (by simp))with r |r
    ·exact r.symm
    ·exact absurd (zaI (hy'.1 x q) (hx'.1 y r)) (zaj _)
  subst e
  have:=zkt hx'.2 hy'.2 fun a=>by
   constructor
   ·intro ha
    rcases List.mem_cons.1 ((h a).1 (List.mem_cons_of_mem _ ha))with q |q
    ·subst q;exact absurd (hx'.1 a ha) (zaj _)
    ·exact q
   ·intro ha
    rcases List.mem_cons.1 ((h a).2 (List.mem_cons_of_mem _ ha))with q |q
    ·subst q;exact absurd (hy'.1 a ha) (zaj _)
    ·exact q
  rw[this]
theorem zg4 (o t:List File)(p:Str):oneF o o t p=((getT t p).1,(getT t p).2,0):=by
 unfold oneF
 simp only[zjw]
 simp
theorem zl3 {o t:List File}(h:t.Pairwise fun x y=>x.Path<y.Path):zdu o o t=t:=by
 unfold zdu
 refine zkt ?_ h fun f=>?_
 ·refine List.pairwise_filterMap.2 ((zh0 o o t).imp fun {p q} hpq f hf g hg=>?_)
  unfold zgY at hf hg
  rw[zg4]at hf hg
  cases hp:(getT t p).2<;>cases hq:(getT t q).2<;>simp[hp,hq]at hf hg
  rw[<- hf,<- hg]
  exact hpq
 ·rw[List.mem_filterMap]
  constructor
  ·rintro⟨p,_,hf⟩
   unfold zgY at hf
   rw[zg4]at hf
   unfold getT at hf
   cases hg:t.find? (fun g=>g.Path==p)with
   |none=>rw[hg]at hf;simp at hf
   |some g=>
    rw[hg]at hf
    simp only[aD,Option.some.injEq]at hf
    have he:g.Path=p:=by simpa using List.find?_some hg
    rw[<- hf,<- he]
    exact List.mem_of_find?_eq_some hg
  ·intro hf
   refine⟨f.Path,pathsF_mem.2 (.inr (.inr ⟨f,hf,rfl⟩)),?_⟩
   unfold zgY
   rw[zg4,znR h hf]
   rfl
theorem zkU {o t:List File}(h:zaq t=true):zbo o o t=(t,[]):=by
 have e:zd0 o o t=[]:=by
  unfold zd0
  rw[List.filterMap_eq_nil_iff]
  intro p _
  unfold zfY
  rw[zg4]
  rfl
 unfold zbo
 rw[e,zl3 (zml h),h]
 rfl
theorem zc2 {α:Type}{f:α->Nat}{c:Nat}: ∀ {t:List α},(∀ s∈t,f s<=c)->zc6 f t<=c*t.length
 | [],_=>by simp[zc6]
 |x::t,h=>by
  have h1:=h x (by simp)
  have h2:=zc2 (t:=t) (fun s hs=>h s (by simp[hs]))
  simp only[zc6,aL,Nat.mul_add,Nat.mul_one]
  omega
theorem zlc {t:List Str}(h:zao t=true):Bk.bulk t<=130:=by
 have hl:=zav h
 have hs:zc6 Bk.bulk t<=12*t.length:=zc2 fun s hs=>by
  have:=zg0 (zaO h s hs)
  show s.length<=12
  omega
 show t.length+zc6 Bk.bulk t<=130
 omega
theorem zld {t:List File}(h:zaq t=true):Bk.bulk t<=1208:=by
 have hl:=zam h
 have hs:zc6 Bk.bulk t<=150*t.length:=zc2 fun f hf=>by
  have h1:=zcB (zb3 h hf)
  have h2:=zlc (zak h f hf)
  show f.Path.length+Bk.bulk f.Text<=150
  omega
 show t.length+zc6 Bk.bulk t<=1208
 omega
theorem zlQ {r:Repo}(h:zaa r=true){c:Commit}(hc:c∈r.Commits):c.Parents.length<=2/\(∀ p∈c.Parents,0<=p/\p<=16)/\zay c.Who=true/\zaq c.Tree=true:=by
 obtain⟨i,hi⟩:=List.mem_iff_getElem?.1 hc
 have hil:=zar hi
 have s1:=(zab h).1
 have:=zfw h (i:=i) (by omega)
 rw[zdq hi]at this
 unfold zjz at this
 simp only[aG,decide_eq_true_eq,List.all_eq_true]at this
 refine⟨by omega,fun p hp=>?_,this.2.2.2.1,this.2.2.2.2⟩
 have h1:=this.1 p hp
 unfold upB at h1
 simp only[aG,decide_eq_true_eq]at h1
 omega
theorem zle {r:Repo}(h:zaa r=true):Bk.bulk r<=20000:=by
 obtain⟨s1,s2⟩:=zab h
 have h1:zc6 Bk.bulk r.Commits<=1218*r.Commits.length:=zc2 fun c hc=>by
  obtain⟨c1,_,c3,c4⟩:=zlQ h hc
  have:=zbj c3
  have:=zld c4
  have hp:zc6 Bk.bulk c.Parents<=0*c.Parents.length:=zc2 fun p hp=>Nat.le_refl 0
  show c.Parents.length+zc6 Bk.bulk c.Parents+(c.Who.length+Bk.bulk c.Tree)<=1218
  omega
 have h2:zc6 Bk.bulk r.Heads<=6*r.Heads.length:=zc2 fun x hx=>by
  have:=zbj (zfJ h hx).2.2
  show x.Name.length+0<=6
  omega
 show r.Commits.length+zc6 Bk.bulk r.Commits+(r.Heads.length+zc6 Bk.bulk r.Heads)<=20000
 omega
theorem zlf {t:List File}(h:zaq t=true):Bk.fit t:=⟨by have:=zam h;unfold maxi;omega,fun f hf=>⟨by have:=zcB (zb3 h hf);show f.Path.length<=maxi;unfold maxi;omega,by
 have h1:=zak h f hf
 have h2:=zav h1
 exact zcr (by omega) (zaO h1)⟩⟩
theorem zlg {r:Repo}(h:zaa r=true):Bk.fit r:=by
 obtain⟨s1,s2⟩:=zab h
 refine⟨⟨by unfold maxi;omega,fun c hc=>?_⟩,by unfold maxi;omega,fun x hx=>?_⟩
 ·obtain⟨c1,c2,c3,c4⟩:=zlQ h hc
  refine⟨⟨by unfold maxi;omega,fun p hp=>?_⟩,by have:=zbj c3;show c.Who.length<=maxi;unfold maxi;omega,zlf c4⟩
  have:=c2 p hp
  show -9223372036854775808<=p/\p<=9223372036854775807
  omega
 ·obtain⟨h1,h2,h3⟩:=zfJ h hx
  refine⟨by have:=zbj h3;show x.Name.length<=maxi;unfold maxi;omega,?_⟩
  show -9223372036854775808<=x.At/\x.At<=9223372036854775807
  omega
theorem zl4 (l:List Str)(o a b:List File)(h:l=o.map (·.Path)++a.map (·.Path)++b.map (·.Path)):zkZ (zdE l)=zbb o a b:=by
 refine Asd.ext (zeM _ none (zkQ _) (fun q hq=>by cases hq)).1 (zh0 o a b) fun x=>?_
 rw[zhe,zjo,h,pathsF_mem]
 simp only[List.mem_append,List.mem_map]
 constructor
 ·rintro((h |h) |h)
  ·exact .inl h
  ·exact .inr (.inl h)
  ·exact .inr (.inr h)
 ·rintro(h |h |h)
  ·exact .inl (.inl h)
  ·exact .inl (.inr h)
  ·exact .inr h
set_option linter.unusedSectionVars false
theorem zoc {t:List File}(h:TB t)(p:Str):zkN t p=some (getT t p):=by
 have hm:=h.maxi
 unfold zkN getT
 simp only[jn,zap]
 rw[zcG (p:=fun f:File=>f.Path==p) (xs:=t) (r:=fun f=>some (f.Text,true)) (Z:=some ([],false)) (f:=fun m k=>zfF t p _ m [] false k) (fun m i x hx=>by
  have hf:=h.at_ hx
  simp only[zfF,zan hx,zad hx,aD,aA,zdL hf.len,zae (zar hx) hm]) (fun m=>by simp only[zfF,zaf,aC]) (by omega)]
 cases t.find? (fun f=>f.Path==p)<;>rfl
def znL (t:List File)(p:Str):has:=⟨(getT t p).1,(getT t p).2⟩
theorem zjB {t:List File}(h:TB t)(p:Str):ziQ t p=some (znL t p):=by
 unfold ziQ
 rw[zoc h,aA]
 rfl
theorem zjq {a b:List File}{p:Str}(h:TB a):zf4 (znL a p) (znL b p)=some (decide (getT a p=getT b p)):=by
 have hl:=(ziG h p).1
 unfold zf4 znL
 simp only[jn,zg5 (zal hl),aA]
 generalize getT a p=x at*
 generalize getT b p=y at*
 obtain⟨x1,x2⟩:=x
 obtain⟨y1,y2⟩:=y
 by_cases h1:x1=y1<;>cases x2<;>cases y2<;>simp[h1]
theorem zjC {o a b:List Str}(hto:zao o=true)(hta:zao a=true)(htb:zao b=true):zgs o a b=some (zcy (zaD o a b)):=by
 have lo:=zav hto
 have la:=zav hta
 have lb:=zav htb
 obtain⟨hlen,hparts⟩:=zh2 hto hta htb
 unfold zgs zcQ zcy
 rw[zlk (zcr (by omega) (zaO hto)) (zcr (by omega) (zaO hta)) (zcr (by omega) (zaO htb)),hto,hta,htb,aA]
 simp only[jn,zap,Bool.and_self,aK,aC,zl9 (show o.length<=1000 by omega) (show a.length<=1000 by omega) (show b.length<=1000 by omega),aA]
 obtain⟨h1,h2⟩:=zhd (xs:=zaD o a b) (step:=zgK) (r0:=some (([]:List Str),false)) (Inv:=zoa) (s0:=[]) (Z:=fun s=>(zca s).bind fun z30=>bif(!z30) then(some (([]:List Str),false)) else(some (s,true))) (f:=fun m s i=>zaz (zaD o a b) (fun _ _ y7 _=>(zca y7).bind fun z30=>bif(!z30) then(some (([]:List Str),false)) else(some (y7,true))) m [] false s i) (fun m i p s hx hI=>by
  have hi:=zar hx
  obtain⟨p1,p2,_⟩:=hparts p (aH hx)
  refine⟨?_,fun s' hst=>zih p1 p2 hI hst⟩
  have hs:=hI.1
  simp only[zaz,zhJ,jn,zan hx,zad hx,aD,aA,zae hi (show(zaD o a b).length<=maxi by unfold maxi;omega),apT (show s.length<=1000000 by omega) (show p.Lines.length<=1000000 by omega)]
  unfold zgK
  cases p.Clash<;>rfl) (fun m s hI=>by simp only[zaz,zaf,aC]) (m:=(zaD o a b).length+1) (by omega) ⟨by simp,by simp⟩
 rw[h1]
 cases hf:(zaD o a b).foldlM zgK []with
 |none=>rfl
 |some s=>
  have hI:=h2 s hf
  have hs:=hI.1
  show((zca s).bind _).bind _=some (okT s)
  rw[zep (zcr (by omega) hI.2),aA]
  unfold okT
  cases zao s<;>rfl
theorem zmJ (o a b:List File)(p:Str):((oneF o a b p).2.2 !=(0:Int))=decide (0< (oneF o a b p).2.2):=by
 have h:0<=(oneF o a b p).2.2:=by
  unfold oneF
  simp only[cond_eq_ite]
  repeat' split
  all_goals simp
 generalize (oneF o a b p).2.2=k at*
 rw[Bool.eq_iff_iff]
 simp only[bne_iff_ne,decide_eq_true_eq]
 omega
section
variable {o a b:List File}(ho:TB o)(ha:TB a)(hb:TB b)(to:zaw o)(ta:zaw a)(tb:zaw b)
include ho ha hb to ta tb
theorem zmK (p:Str):ziN (znL o p) (znL a p) (znL b p)=some (⟨(oneF o a b p).1,(oneF o a b p).2.1⟩,(oneF o a b p).2.2):=by
 have no:=zkB (t:=o) (p:=p)
 have mt:=zjC (za5 to p) (za5 ta p) (za5 tb p)
 unfold ziN oneF
 simp only[jn,zjq ha,zjq hb,aA,zjw]
 unfold znL
 simp only[mt,aA]
 cases decide (getT a p=getT o p)<;>cases decide (getT a p=getT b p)<;>cases decide (getT b p=getT o p)<;>try rfl
 cases h1:(getT a p).2<;>cases h2:(getT b p).2<;>try rfl
 cases h3:(getT o p).2 with
 |false=>rw[no h3];rfl
 |true=>cases(zcy (zaD (getT o p).1 (getT a p).1 (getT b p).1)).2<;>rfl
theorem zjr {ps:List Str}(hp:ps.length<=1000){G:List File->List Clash->Int->Option (List File×List Clash)}: ∀ (k i m:Nat) (fs:List File) (cs:List Clash),i+k=ps.length->k<m->fs.length<=i->cs.length<=i->
 zek o a b ps G m fs cs (i:Int)=G (fs++(ps.drop i).filterMap (zgY o a b)) (cs++(ps.drop i).filterMap (zfY o a b)) (ps.length:Int)
 |k,i,0,fs,cs,_,hm,_,_=>by omega
 |0,i,m+1,fs,cs,hi,_,_,_=>by
  obtain rfl:i=ps.length:=by omega
  simp only[zek,zaf,aC,List.drop_length]
  simp
 |k+1,i,m+1,fs,cs,hi,hm,hf,hc=>by
  have hlt:i<ps.length:=by omega
  have hx:ps[i]? =some ps[i]:=aB hlt
  have ih:=fun fs cs h1 h2=>zjr hp (G:=G) k (i+1) m fs cs (by omega) (by omega) h1 h2
  have eh: ∀ x:has,(⟨x.text,x.file⟩:has)=x:=fun _=>rfl
  simp only[zek,jn,zan hx,zad hx,aD,aA,zae hlt (show ps.length<=maxi by unfold maxi;omega),zjB ho,zjB ha,zjB hb,eh,zmK ho ha hb to ta tb,zmJ,ap1 (x:=(⟨ps[i],(oneF o a b ps[i]).1⟩:File)) (show fs.length<=1048576 by omega),ap1 (x:=(⟨ps[i],(oneF o a b ps[i]).2.2⟩:Clash)) (show cs.length<=1048576 by omega)]
  rw[aI hlt,List.filterMap_cons,List.filterMap_cons]
  unfold zgY zfY at ih ⊢
  cases(oneF o a b ps[i]).2.1<;>cases decide (0< (oneF o a b ps[i]).2.2)<;>simp only[aD,aC,aA]
  ·rw[ih _ _ (by omega) (by omega)]
  ·rw[ih _ _ (by omega) (by simp;omega)];simp
  ·rw[ih _ _ (by simp;omega) (by omega)];simp
  ·rw[ih _ _ (by simp;omega) (by simp;omega)];simp
end
theorem ziK {t:List File}(h:TB t){C:List Str->Int->Option (List Str)}: ∀ (k i m:Nat) (acc:List Str),i+k=t.length->k<m->acc.length<=10000+i->t.length<=1000->
 zdt t C m acc (i:Int)=C (acc++(t.drop i).map (·.Path)) (t.length:Int)
 |k,i,0,acc,_,hm,_,_=>by omega
 |0,i,m+1,acc,hi,_,_,_=>by
  obtain rfl:i=t.length:=by omega
  simp only[zdt,zaf,aC,List.drop_length]
  simp
 |k+1,i,m+1,acc,hi,hm,hl,ht=>by
  have hlt:i<t.length:=by omega
  have hx:t[i]? =some t[i]:=aB hlt
  simp only[zdt,zan hx,zad hx,aD,aA,ap1 (x:=t[i].Path) (show acc.length<=1048576 by omega),zae hlt h.maxi]
  rw[ziK h k (i+1) m _ (by omega) (by omega) (by simp;omega) ht,aI hlt,List.map_cons,List.append_assoc]
  rfl
theorem zli {o a b:List File}(ho:TB o)(ha:TB a)(hb:TB b)(so:o.length<=100)(sa:a.length<=100)(sb:b.length<=100):zg6 [o,a,b]=some (zbb o a b):=by
 unfold zg6
 simp only[jn,zap]
 have step: ∀ (K:List Str->Int->Option (List Str)) (m i:Nat) (t:List File) (acc:List Str),[o,a,b][i]? =some t->TB t->t.length<=100->acc.length<=1000->zbm [o,a,b] K (m+1) acc (i:Int)=zbm [o,a,b] K m (acc++t.map (·.Path)) ((i+1:Nat):Int):=fun K m i t acc hx ht hl ha=>by
  have hi:=zar hx
  simp only[zbm,jn,zan hx,zad hx,aD,aA,zap]
  have:=ziK ht (C:=fun e g=>zbm [o,a,b] K m e (w64 ((i:Int)+1))) t.length 0 (t.length+1) acc (by omega) (by omega) (by omega) (by omega)
  rw[List.drop_zero]at this
  refine this.trans ?_
  rw[zae hi (by simp[maxi])]
 have hlen:([o,a,b]:List (List File)).length+1=3+1:=rfl
 rw[hlen]
 refine(step _ 3 0 o [] rfl ho so (by simp)).trans ?_
 refine(step _ 2 1 a _ rfl ha sa (by simp;omega)).trans ?_
 refine(step _ 1 2 b _ rfl hb sb (by simp;omega)).trans ?_
 have he: ∀ (K:List Str->Int->Option (List Str)) (m:Nat) (acc:List Str),zbm [o,a,b] K (m+1) acc ((2+1:Nat):Int)=K acc ((2+1:Nat):Int):=fun K m acc=>rfl
 refine(he _ 0 _).trans ?_
 have e0:[]++o.map (fun f:File=>f.Path)++a.map (fun f:File=>f.Path)++b.map (fun f:File=>f.Path)=o.map (·.Path)++a.map (·.Path)++b.map (·.Path):=by simp
 rw[e0]
 have hl:(o.map (fun f:File=>f.Path)++a.map (fun f:File=>f.Path)++b.map (fun f:File=>f.Path)).length<=300:=by simp;omega
 generalize hL:o.map (fun f:File=>f.Path)++a.map (fun f:File=>f.Path)++b.map (fun f:File=>f.Path)=L at*
 have h2:(zdE L).length=L.length:=List.length_mergeSort _
 unfold zeY zeb
 rw[if_pos (by omega),aA,if_pos (by omega),aA,zl4 L o a b hL.symm]
section
variable {o a b:List File}(ho:TB o)(ha:TB a)(hb:TB b)(to:zaq o=true)(ta:zaq a=true)(tb:zaq b=true)
include ho ha hb to ta tb
theorem ziL:zgE o a b=some true:=by
 unfold zgE
 simp only[jn,zer ho,zer ha,zer hb,to,ta,tb,aA,aD]
theorem zl5:ziO o a b=some (zbo o a b):=by
 have so:=zam to
 have sa:=zam ta
 have sb:=zam tb
 have hl:=zeN o a b
 unfold ziO zbo
 rw[ziL ho ha hb to ta tb,aA,aK,aC,zli ho ha hb (by omega) (by omega) (by omega),aA]
 simp only[jn,zap]
 have:=zjr ho ha hb (zak to) (zak ta) (zak tb) (ps:=zbb o a b) (by omega) (G:=fun b' c _=>bif((c.length:Int)==(0:Int)) then((zdM b').bind fun h=>bif !h then((zc4 o).bind fun g=>some (g,([⟨[],4⟩]:List Clash))) else some (b',c)) else(bif false then((zc4 o).bind fun g=>some (g,([⟨[],4⟩]:List Clash))) else some (b',c))) (zbb o a b).length 0 ((zbb o a b).length+1) [] [] (by omega) (by omega) (by simp) (by simp)
 refine this.trans ?_
 simp only[List.drop_zero,List.nil_append]
 rw[show(zbb o a b).filterMap (zgY o a b)=zdu o a b from rfl,show(zbb o a b).filterMap (zfY o a b)=zd0 o a b from rfl,zer (zfZ ho ha hb (zak to) (zak ta) (zak tb) (by omega) (by omega) (by omega)),zfz ho]
 simp only[aA]
 cases(((zd0 o a b).length:Int)==0)<;>cases zaq (zdu o a b)<;>rfl
theorem ziS:zd4 o a b=some (bif decide (0< ((zbo o a b).2.length:Int)) then([],false) else((zbo o a b).1,true)):=by
 unfold zd4
 rw[ziL ho ha hb to ta tb,aA,aK,aC,zl5 ho ha hb to ta tb,aA]
 cases decide (0< ((zbo o a b).2.length:Int))<;>rfl
end
theorem zhZ.lt {l:List Int}(h:zhZ l){i k:Nat}(hik:i<k)(hk:k<l.length):l.getD i 0<l.getD k 0:=by
 have h1:i<l.length:=by omega
 have:=List.pairwise_iff_getElem.1 h i k h1 hk hik
 rw[zbP (aB h1),zbP (aB hk)]
 exact this
theorem zhZ.inj {l:List Int}(h:zhZ l){i k:Nat}(hi:i<l.length)(hk:k<l.length)(e:l.getD i 0=l.getD k 0):i=k:=by
 rcases Nat.lt_trichotomy i k with h1 |h1 |h1
 ·have:=h.lt h1 hk;omega
 ·exact h1
 ·have:=h.lt h1 hi;omega
theorem zsl (x:Repo):(⟨x.Commits,x.Heads⟩:Repo)=x:=rfl
theorem ziY {r:Repo}(h:RpB r){a:Int}(ha:upB r.Commits.length a=true):zaN r a=some (zah r a.toNat):=by
 obtain⟨a0,a1⟩:=zau.1 ha
 unfold zaN
 rw[aE (by omega),aC,za3 a0 a1]
 rfl
section
variable {r:Repo}(h:RpB r)(hr:zaa r=true)
include h hr
theorem zkC:Gd False r:=⟨h,hr,fun e=>e.elim⟩
theorem zo4 {n:Str}(hn:n.length<=1048576){c:Commit}(hc:CB c):((zc5 r).bind fun j=>(zdb ⟨j.Commits,j.Heads⟩ n c.Who c.Tree c.Parents).bind fun k=>(zdI r ⟨k.Commits,k.Heads⟩).bind fun b=>bif(!b.2) then(some (Repo.mk b.1.Commits b.1.Heads,(5:Int))) else(some (Repo.mk b.1.Commits b.1.Heads,0)))=some (zdU r n c):=by
 obtain⟨s1,s2⟩:=zab hr
 rw[zll h,aA,zsl,zm2 h (by omega) (zii hr) hc.tree hc.who hc.par,aA,zsl,show(⟨c.Parents,c.Who,c.Tree⟩:Commit)=c from rfl,zog h (h.addR (by omega) (by omega) hn hc),aA]
 unfold zdU
 cases zaa (addR r n c)<;>rfl
theorem zod {o a b:List File}(to:TB o)(ta:TB a)(tb:TB b)(uo:zaq o=true)(ua:zaq a=true)(ub:zaq b=true){ps:List Int}(hps:ps.length<=2){n who:Str}(hn:n.length<=1048576)(hw:who.length<=1048576):((zd4 o a b).bind fun h=>bif(!h.2) then((zc5 r).bind fun i=>some (Repo.mk i.Commits i.Heads,4)) else((zc5 r).bind fun j=>(zdb ⟨j.Commits,j.Heads⟩ n who h.1 ps).bind fun k=>(zdI r ⟨k.Commits,k.Heads⟩).bind fun b=>bif(!b.2) then(some (Repo.mk b.1.Commits b.1.Heads,(5:Int))) else(some (Repo.mk b.1.Commits b.1.Heads,0))))=some (bif decide (0< ((zbo o a b).2.length:Int)) then(r,4) else zdU r n ⟨ps,who,(zbo o a b).1⟩):=by
 have so:=zam uo
 have sa:=zam ua
 have sb:=zam ub
 have hj:=zf3 to ta tb (zak uo) (zak ua) (zak ub) (by omega) (by omega) (by omega)
 rw[ziS to ta tb uo ua ub,aA]
 cases decide (0< ((zbo o a b).2.length:Int))with
 |true=>
  simp only[aD,Bool.not_false,zll h,aA]
 |false=>
  exact zo4 h hr hn (c:=⟨ps,who,(zbo o a b).1⟩) ⟨show ps.length<=1048576 by omega,hw,hj⟩
end
def znK (r:Repo)(n:Str)(x:Repo):Prop:=x=r\/x=zbv\/zaa x=true
theorem znK.bulk {r x:Repo}{n:Str}(h:znK r n x):Bk.bulk x<=Bk.bulk r+20000:=by
 rcases h with h |h |h
 ·rw[h];omega
 ·rw[h];show 0+0+(0+0)<=_;omega
 ·have:=zle h;omega
theorem znK.fit {r x:Repo}{n:Str}(hf:Bk.fit r)(h:znK r n x):Bk.fit x:=by
 rcases h with h |h |h
 ·rw[h];exact hf
 ·rw[h];exact⟨⟨by simp[zbv,maxi],by simp[zbv]⟩,by simp[zbv,maxi],by simp[zbv]⟩
 ·exact zlg h
section
variable {r:Repo}(h:RpB r)(hr:zaa r=true)
include h hr
theorem zlR {a:Int}(ha:upB r.Commits.length a=true){Z:List File->Option (Repo×Int)}:((zdH r a).bind fun g=>(zaN r g).bind Z)=Z (zaS r a.toNat):=by
 obtain⟨a0,a1⟩:=zau.1 ha
 obtain⟨n,rfl⟩:=Int.eq_ofNat_of_zero_le a0
 rw[znA hr (by omega),aA,Int.toNat_natCast]
 unfold zaS
 cases hp:zac r n with
 |nil=>rfl
 |cons p ps=>
  have hm:=(zaU hr (i:=n) (by omega)).2 p (by rw[hp];simp)
  have hz:(((p::ps).length:Int)==(0:Int))=false:=by
   rw[beq_eq_false_iff_ne]
   simp only[aL]
   omega
  rw[hz,aC]
  show(zaN r p).bind Z=_
  rw[ziY h (zau.2 (by omega)),aA]
  rfl
theorem zlS {n who:Str}{o b:List File}(hn:n.length<=1048576)(hw:who.length<=1048576)(hat:0<=atB r n)(to:TB o)(uo:zaq o=true)(tb:TB b)(ub:zaq b=true):zbN r n who o b=some (zdv r n who o b):=by
 have hg:=zkC h hr
 have ha':atB r n<=(r.Commits.length:Int)-1:=by rcases at_range hr n with e |e<;>omega
 obtain⟨ta,ta2,_,_⟩:=hg.tree (i:=(atB r n).toNat) (by have:=(zab hr).1;omega)
 unfold zbN
 rw[znz h,aA,ziY h (zau.2 ⟨hat,ha'⟩),aA]
 exact zod h hr to ta tb uo ta2 ub (ps:=[atB r n]) (by simp) hn hw
theorem zm4 {n who:Str}{b:Int}(hn:n.length<=1048576)(hw:who.length<=1048576)(t:Bool):zgt r n who b t=some (bif zhP r n who b then(r,1) else(bif t then zdv r n who (zah r b.toNat) (zaS r b.toNat) else zdv r n who (zaS r b.toNat) (zah r b.toNat))):=by
 have hg:=zkC h hr
 unfold zgt
 simp only[jn,znz h,aA,zeq (zal hw),zgL h,zll h,zsl]
 have key:zhP r n who b=false->((zdH r b).bind fun g=>(zaN r g).bind fun d=>(zaN r b).bind fun e=>bif t then((zbN r n who e d).bind fun a=>some (Repo.mk a.1.Commits a.1.Heads,a.2)) else((zbN r n who d e).bind fun a=>some (Repo.mk a.1.Commits a.1.Heads,a.2)))=some (bif t then zdv r n who (zah r b.toNat) (zaS r b.toNat) else zdv r n who (zaS r b.toNat) (zah r b.toNat)):=fun hbad=>by
  obtain⟨p1,p2,p3⟩:=zfO hbad
  have ub:=zau.2 ⟨p2,p3⟩
  obtain⟨_,q2,q3⟩:=zdd hg p2 p3
  obtain⟨tb,tb2,_,_⟩:=hg.tree (i:=b.toNat) (by have:=(zab hr).1;omega)
  rw[zlR h hr ub (Z:=fun d=>(zaN r b).bind fun e=>bif t then((zbN r n who e d).bind fun a=>some (Repo.mk a.1.Commits a.1.Heads,a.2)) else((zbN r n who d e).bind fun a=>some (Repo.mk a.1.Commits a.1.Heads,a.2))),ziY h ub,aA]
  cases t with
  |true=>rw[aD,aD,zlS h hr hn hw p1 tb tb2 q2 q3,aA]
  |false=>rw[aC,aC,zlS h hr hn hw p1 q2 q3 tb tb2,aA]
 unfold zhP at key ⊢
 cases h1:decide (atB r n<0)with
 |true=>rfl
 |false=>
  cases h2:zay who with
  |false=>rfl
  |true=>
   cases h3:upB r.Commits.length b with
   |false=>rfl
   |true=>exact key (by rw[h1,h2,h3];rfl)
end
theorem zjI {r:Repo}(h:RpB r){n who:Str}{b:Int}(hn:n.length<=1048576)(hw:who.length<=1048576):ziP r n who b=some (zdw r n who b):=by
 unfold ziP zdw
 rw[zb7 h,aA]
 cases hr:zaa r with
 |false=>rfl
 |true=>
  rw[aK,aC,aD,zm4 h hr hn hw,aA]
  cases zhP r n who b<;>rfl
theorem zlj {r:Repo}(h:RpB r){n who:Str}{b:Int}(hn:n.length<=1048576)(hw:who.length<=1048576):zbU r n who b=some (zdw r n who b):=by
 cases hr:zaa r with
 |true=>exact(zeV (zkC h hr) hn hw).1
 |false=>
  unfold zbU zdw
  rw[zbT h,hr,aA]
  rfl
section
variable {x:Repo}{n:Str}{c:Commit}
theorem zna:(addR x n c).Commits.length=x.Commits.length+1:=by simp[addR]
theorem zn0 (h:zaa (addR x n c)=true):atB (addR x n c) n=(x.Commits.length:Int):=znm (r:=⟨x.Commits++[c],x.Heads⟩) h
theorem zlA:(addR x n c).Commits.getD x.Commits.length noCommit=c:=by
 refine zdq ?_
 show(x.Commits++[c])[x.Commits.length]? =_
 rw[aN (Nat.le_refl _),Nat.sub_self]
 rfl
theorem zqO:gi (addR x n c).Commits (x.Commits.length:Int)=some c:=by
 rw[zhR (r:=addR x n c) (by rw[zna];omega),zlA]
theorem zl6 (h:zaa (addR x n c)=true):zjJ (addR x n c) (x.Commits.length:Int)=(c.Tree,true):=by
 unfold zjJ
 rw[h,zau.2 (show 0<=(x.Commits.length:Int)/\(x.Commits.length:Int)<=((addR x n c).Commits.length:Int)-1 by rw[zna];omega),Int.toNat_natCast]
 show(zah _ _,true)=_
 unfold zah
 rw[zlA]
end
def zkD (x:Repo)(n who:Str)(o b:List File):Commit:=⟨[atB x n],who,(zbo o (zah x (atB x n).toNat) b).1⟩
theorem zmE {x:Repo}{n who:Str}{o b:List File}(h:(zdv x n who o b).2=0):zdv x n who o b=(addR x n (zkD x n who o b),0)/\zaa (addR x n (zkD x n who o b))=true/\decide (0< ((zbo o (zah x (atB x n).toNat) b).2.length:Int))=false:=by
 unfold zdv zdU zkD at*
 simp only at*
 revert h
 cases decide (0< ((zbo o (zah x (atB x n).toNat) b).2.length:Int))with
 |true=>intro h;cases h
 |false=>
  simp only[aC]
  cases ho:zaa (addR x n ⟨[atB x n],who,(zbo o (zah x (atB x n).toNat) b).1⟩)with
  |false=>intro h;cases h
  |true=>intro _;simp
theorem zn1 {x:Repo}{n who:Str}{o b:List File}(h:(zdv x n who o b).2≠0):(zdv x n who o b).1=x:=by
 unfold zdv zdU at*
 simp only at*
 revert h
 cases decide (0< ((zbo o (zah x (atB x n).toNat) b).2.length:Int))with
 |true=>intro _;rfl
 |false=>
  simp only[aC]
  cases zaa (addR x n ⟨[atB x n],who,(zbo o (zah x (atB x n).toNat) b).1⟩)with
  |false=>intro _;rfl
  |true=>intro h;exact absurd rfl h
section
variable {r:Repo}{n who:Str}{b:Int}
theorem zpE (hr:zaa r=true)(h:(zdw r n who b).2≠0):(zdw r n who b).1=r:=by
 unfold zdw at*
 rw[hr,aD]at h ⊢
 cases hb:zhP r n who b with
 |true=>rfl
 |false=>rw[hb,aC]at h;exact zn1 h
theorem zo5 (h:(zdw r n who b).2=0):zaa r=true/\zhP r n who b=false/\zdw r n who b=(addR r n (zkD r n who (zah r b.toNat) (zaS r b.toNat)),0)/\zaa (addR r n (zkD r n who (zah r b.toNat) (zaS r b.toNat)))=true/\decide (0< ((zbo (zah r b.toNat) (zah r (atB r n).toNat) (zaS r b.toNat)).2.length:Int))=false:=by
 unfold zdw at*
 cases hr:zaa r with
 |false=>rw[hr]at h;cases h
 |true=>
  rw[hr,aD]at h
  cases hb:zhP r n who b with
  |true=>rw[hb]at h;cases h
  |false=>
   rw[hb,aC]at h
   exact⟨rfl,rfl,zmE h⟩
end
def ChH:Int->List Hunk->Prop
 |_,[]=>True
 |lo,d::l=>lo<=d.At/\ChH (d.At+d.Less.length+1) l
theorem ChH.mono: ∀ {l:List Hunk} {lo lo':Int},lo'<=lo->ChH lo l->ChH lo' l
 | [],_,_,_,_=>trivial
 |d::l,_,_,h,⟨h1,h2⟩=>⟨Int.le_trans h h1,h2⟩
theorem ziT {code:List Byte}(h:code.length<=1048576): ∃ x n w b,zeF code=some (x,n,w,b)/\Drawn x/\n.length<=10/\w.length<=10 /\ -1<=b/\b<=16:=by
 unfold zeF
 obtain⟨b,e,hr⟩:=zon h
 obtain⟨x,q,e2,hx,r2⟩:=zhY hr (by omega)
 obtain⟨n,e3,hn⟩:=ziR r2 (by omega) (l:=[([109,97,105,110]:Str),([115,105,100,101]:Str),([100,101,118]:Str),([110,111,110,101]:Str)]) (by simp) (by simp)
 have r3:zb6 ⟨b,q+1⟩ (0+2010+1):=zdN (r:=⟨b,q⟩) (q:=0+2010+1) r2 (by omega) (by omega)
 obtain⟨w,e4,hw⟩:=ziR r3 (by omega) (l:=[([97,110,110]:Str),([97,110,110]:Str),([]:Str)]) (by simp) (by simp)
 have r4:zb6 ⟨b,q+1+1⟩ (0+2010+2):=zdN (r:=⟨b,q+1⟩) (q:=0+2010+2) r3 (by omega) (by omega)
 obtain⟨a,e5,a0,a1⟩:=zjp r4 (by omega) hx
 simp only at e3 e4 e5
 simp only[e,aA,e2,e3,e4,e5,zhl]
 refine⟨x,n,w,a,rfl,hx,?_,?_,a0,a1⟩
 ·simp only[List.mem_cons,List.not_mem_nil,or_false]at hn
  rcases hn with rfl |rfl |rfl |rfl<;>simp
 ·simp only[List.mem_cons,List.not_mem_nil,or_false]at hw
  rcases hw with rfl |rfl |rfl<;>simp
theorem zny {code:List Byte}(h:code.length<=1048576): ∃ x n w b,zio code=some (x,n,w,b)/\Drawn x/\n.length<=10/\w.length<=10 /\ -1<=b/\b<=16:=by
 obtain⟨x,n,w,b,e,r⟩:=ziT h
 unfold zio
 rw[e,aA]
 exact⟨x,n,w,b,rfl,r⟩
theorem znk:RpB zbv:=⟨by simp[zbv],fun c hc=>by simp[zbv]at hc,by simp[zbv],fun c hc=>by simp[zbv]at hc⟩
theorem zn2 {r:Repo}(h:RpB r){n who:Str}{b:Int}(hn:n.length<=1048576)(hw:who.length<=1048576):RpB (zdw r n who b).1:=by
 cases hr:zaa r with
 |true=>exact(zeV (zkC h hr) hn hw).2.rb
 |false=>unfold zdw;rw[hr];exact znk
theorem zqP {x:Repo}(hr:zaa x=true){a:Int}(ha:0<=a)(ha':a<=(x.Commits.length:Int)-1){L:List File->Option Bool}:(jn L fun l=>(gi x.Commits a).bind fun F=>bif decide ((0:Int)< (F.Parents.length:Int)) then((gi x.Commits a).bind fun G=>(gi G.Parents 0).bind fun H=>(gi x.Commits H).bind fun I=>l I.Tree) else l ([]:List File))=L (zaS x a.toNat):=by
 simp only[jn]
 have e1:=za3 (r:=x) ha ha'
 have hi:a.toNat<x.Commits.length:=by omega
 obtain⟨ps,pm⟩:=zaU hr hi
 rw[e1,aA]
 show(bif decide ((0:Int)< ((zac x a.toNat).length:Int)) then((some (x.Commits.getD a.toNat noCommit)).bind fun G=>(gi (zac x a.toNat) 0).bind fun H=>(gi x.Commits H).bind fun I=>L I.Tree) else L [])=_
 unfold zaS
 rw[aA]
 cases hp:zac x a.toNat with
 |nil=>rfl
 |cons p l=>
  have hm:=pm p (by rw[hp];simp)
  have hz:(((p::l).length:Int)==(0:Int))=false:=by
   rw[beq_eq_false_iff_ne]
   simp only[aL]
   omega
  have h0:gi (p::l) 0=some p:=zad (i:=0) rfl
  rw[hz,aC,aF (by simp only[aL];omega),aD,h0,aA,za3 hm.1 (by omega),aA]
  rfl
theorem zpF {x:Repo}(hr:zaa x=true){a:Int}(ha:0<=a)(ha':a<=(x.Commits.length:Int)-1)(w:Int){L:Bool->Option Bool}:(jn L fun l=>(gi x.Commits a).bind fun C=>bif decide ((0:Int)< (C.Parents.length:Int)) then((gi x.Commits a).bind fun D=>(gi D.Parents 0).bind fun E=>l (E==w)) else l false)=L (decide (0< (zac x a.toNat).length)&&((zac x a.toNat).getD 0 0==w)):=by
 simp only[jn]
 have e1:=za3 (r:=x) ha ha'
 rw[e1,aA]
 show(bif decide ((0:Int)< ((zac x a.toNat).length:Int)) then((some (x.Commits.getD a.toNat noCommit)).bind fun D=>(gi (zac x a.toNat) 0).bind fun E=>L (E==w)) else L false)=_
 rw[aA]
 cases hp:zac x a.toNat with
 |nil=>rfl
 |cons p l=>
  have h0:gi (p::l) 0=some p:=zad (i:=0) rfl
  rw[aF (by simp only[aL];omega),aD,h0,aA]
  rfl
theorem zlT {x:Repo}(h:zaa x=true)(n:Str):zlr x n=atB x n:=by unfold zlr;rw[h];rfl
theorem zpl {code:List Byte}(h:Bk.fit code):zke code=some true:=by
 unfold zke
 by_cases hc:(1048576:Int)< (code.length:Int)
 ·rw[aF hc];rfl
 obtain⟨x,n,w,b,e,hx,hn,hw,_,_⟩:=zny (code:=code) (by omega)
 have hb:=hx.rb
 have hn':n.length<=1048576:=by omega
 have hw':w.length<=1048576:=by omega
 have hd:=zn2 hb (b:=b) hn' hw'
 rw[aE hc,aC,e,aA]
 cases hr:zaa x with
 |false=>simp only[zhl,zjI hb hn' hw',zlj hb hn' hw',aA,jn,bne_self_eq_false,aO,aC,aD,zjg hd,aK,zb7 hb,hr,Bool.not_false]
 |true=>
  cases hm:(zdw x n w b).2 !=0 with
  |true=>
   simp only[zhl,zjI hb hn' hw',zlj hb hn' hw',aA,jn,bne_self_eq_false,aO,aC,aD,zjg hd,aK,zb7 hb,hr,hm]
   rw[zpE hr (by simpa using hm),aO]
  |false=>
   obtain⟨_,hbad,ed,hok,hj⟩:=zo5 (r:=x) (n:=n) (who:=w) (b:=b) (by simpa using hm)
   obtain⟨p1,p2,p3⟩:=zfO hbad
   have hs:=(zab hr).1
   have hg:=zkC hb hr
   have ha':atB x n<=(x.Commits.length:Int)-1:=by rcases at_range hr n with e |e<;>omega
   obtain⟨_,q2,q3⟩:=zdd hg p2 p3
   obtain⟨ta,ta2,_,_⟩:=hg.tree (i:=(atB x n).toNat) (by omega)
   obtain⟨tb,tb2,_,_⟩:=hg.tree (i:=b.toNat) (by omega)
   simp only[zhl,zqP hr p2 p3,zpF hr p2 p3]
   simp only[zhl,zjI hb hn' hw',zlj hb hn' hw',aA,jn,bne_self_eq_false,aO,aC,aD,zjg hd,aK,zb7 hb,hr,hm]
   rw[ed]at hd ⊢
   simp only at hd
   have e1:zlr (addR x n (zkD x n w (zah x b.toNat) (zaS x b.toNat))) n=(x.Commits.length:Int):=by rw[zlT hok];exact zn0 hok
   have hct:(zkD x n w (zah x b.toNat) (zaS x b.toNat)).Tree=(zbo (zah x b.toNat) (zah x (atB x n).toNat) (zaS x b.toNat)).1:=rfl
   have htb:TB (zbo (zah x b.toNat) (zah x (atB x n).toNat) (zaS x b.toNat)).1:=by
    have s1:=zam q3
    have s2:=zam ta2
    have s3:=zam tb2
    exact zf3 tb ta q2 (zak tb2) (zak ta2) (zak q3) (by omega) (by omega) (by omega)
   have hk:zhF (addR x n (zkD x n w (zah x b.toNat) (zaS x b.toNat))) x=some true:=zns hb (List.prefix_append _ _)
   have hcp:(zkD x n w (zah x b.toNat) (zaS x b.toNat)).Parents=[atB x n]:=rfl
   simp only[aC,zik hb,zik hd,e1,zlT hr,aA,zhS hd,zl6 hok,zb7 hd,hok,aD,hk,zqO,hcp,ziH (show([atB x n]:List Int).length<=1048576 by simp),aO,hct,zil htb]
   cases hq:b !=atB x n with
   |true=>rfl
   |false=>
    have eb:b=atB x n:=by simpa using hq
    rw[aC,<- eb,zkU q3,aO]
def zkO:List Str->List Str->Nat
 |a::l,b::m=>bif a==b then zkO l m+1 else 0
 |_,_=>0
def zp1 (t:List Str):List Str->Nat->Nat×Nat->Nat×Nat
 | [],_,r=>r
 |b::bs,i,r=>zp1 t bs (i+1) (bif decide (r.2<zkO (b::bs) t) then(i,zkO (b::bs) t) else r)
def zm9 (base t:List Str):Nat×Nat:=zp1 t base 0 (0,0)
def znJ (out:List Delta)(x:Str):List Delta:=match out.getLast? with
 |some d=>bif decide (0<d.Lines.length) then out.dropLast++[⟨d.From,d.Many,d.Lines++[x]⟩] else out++[⟨0,0,[x]⟩]
 |none=>out++[⟨0,0,[x]⟩]
def zit (base:List Str):Nat->List Delta->List Str->List Delta
 |0,out,_=>out
 |_+1,out,[]=>out
 |n+1,out,x::t=>bif decide (0< (zm9 base (x::t)).2) then zit base n (out++[⟨(zm9 base (x::t)).1,(zm9 base (x::t)).2,[]⟩]) ((x::t).drop (zm9 base (x::t)).2) else zit base n (znJ out x) t
def zko (base t:List Str):List Delta:=zit base t.length [] t
def OD (n:Nat)(l:List Owner):Prop:=l.length<=n /\ ∀ o∈l,o.Path.length<=10/\o.Who.length<=10
theorem OD.fit {n:Nat}{l:List Owner}(h:OD n l)(hn:n<=1000):Bk.fit l:=⟨by have:=h.1;unfold maxi;omega,fun o ho=>by
 have:=h.2 o ho
 exact⟨by show o.Path.length<=maxi;unfold maxi;omega,by show o.Who.length<=maxi;unfold maxi;omega⟩⟩
section
variable {base t:List Str}(hb:zao base=true)(ht:zao t=true)
include hb ht
end
def zoU (list:List (List Str))(ds:List Int)(i:Nat)(t:List Str)(b dep:Int)(d:List Delta):Prop:=(b = -1/\d=zko [] t/\dep=1) \/ ∃ k o dk,k<i/\b=(k:Int)/\list[k]? =some o/\ds[k]? =some dk/\d=zko o t/\dep=dk+1/\dk<=2
theorem zoU.snoc {list:List (List Str)}{ds:List Int}{i:Nat}{t:List Str}{b dep z:Int}{d:List Delta}(h:zoU list ds i t b dep d):zoU list (ds++[z]) i t b dep d:=by
 rcases h with h |⟨k,o,dk,h1,h2,h3,h4,h5⟩
 ·exact .inl h
 ·exact .inr ⟨k,o,dk,h1,h2,h3,by rw[aM (List.getElem?_eq_some_iff.1 h4).1];exact h4,h5⟩
section
variable {list:List (List Str)}(h12:list.length<=12)(hl: ∀ t∈list,zao t=true)
include h12 hl
end
end Go.Vm
