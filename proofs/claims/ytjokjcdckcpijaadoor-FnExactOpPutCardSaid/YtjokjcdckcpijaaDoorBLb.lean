/- Rules of the walks: XLb. Conditions: each rule's own premises. -/
import Derived.Test.YtjokjcdckcpijaaDoorBLa
import Derived.Laws.IdiomStrings
import Derived.Laws.BytesArg
namespace Go.Sx
open Go Go.RowKit Rp
set_option linter.unusedSimpArgs false
set_option linter.unusedVariables false
def LL:List Nat:=[2,3,4,5,6,7,8,9,10,11,12,13,14,15,16,17,18,19,20,21,22,23,24,25,26,27,28,29,30,31,32,33,34,35,36,37,38,39,40]
section
variable {α β:Type}[Rp α][Rp β]{W W' V Wf:CW}{k:Nat}{K K' L J:List Nat}{v v':Value}{xs ys:List α}{cs:List Value}{x:α}{g:Nat}{p:Addr}
variable {P:Program}{ρ:Env}{ty':TypeId}{a:Operand}{t e:TypeId}{s b:Nat}{z:Value}{w:World}{f:FuncId}{vals:Array Value}
theorem Rd.ul (h:Rd W [0] cs x)(l:Le LL W W'):Rd W' [0] cs x:=h.up l rfl
theorem At.ul (h:At W [0] p x)(l:Le LL W W'):At W' [0] p x:=h.up l rfl
theorem zth [hU:Und P t (.slice e)](h:Rd W K [v] xs)(hx:ev ρ a=v):Run P ρ w (.call ⟨.builtin .len,#[a],#[t]⟩) ty' (vI xs.length):=by
 obtain⟨ad,c,rfl,_⟩:=h.slice_form
 exact R.lenV hx
def cutV (v:Value)(l h s:Nat):Value:=match v with
 | .slice a _ c=>sliced a l h c s
 |_=>v
omit [Rp α] in
theorem zgO {l h:Int}(hm:slM xs l h=some ys):0<=l/\l<=h/\h<=xs.length/\ys=(xs.take h.toNat).drop l.toNat:=by
 unfold slM at hm
 split at hm
 ·rename_i hh;exact⟨hh.1,hh.2.1,hh.2.2,(Option.some.inj hm).symm⟩
 ·cases hm
theorem Rd.cutV (h:Rd W K [v] xs){l m:Int}(hm:slM xs l m=some ys):Rd W K [cutV v l.toNat m.toNat (sz α)] ys:=by
 obtain⟨h0,h1,h2,rfl⟩:=zgO hm
 obtain⟨ad,c,rfl,_⟩:=h.slice_form
 exact Rd.cut h (by omega) (by omega)
theorem zpA {t:Nat}{R:Value->World->Prop}{ρ:Env}(h:ρ t=v)(hR:R v w):zqV P [.tmp t] R .ret ρ w:=⟨[v],⟨h.symm,trivial⟩,hR⟩
theorem Bx.loadA {fs:Array Field}[hU:Und P t (.struct fs)][hI:Inf P t s b z](h:Bx W k g cs)(hs:s=cs.length):(loadVar t (bx g)).run P W.w = .ok (.agg cs.toArray) W.w:=by
 obtain⟨j,hj,_,hjs,_⟩:=hI.get
 have:=run_loadCells_list (P:=P) W.w (bx g) cs h.cells
 rw[<- hs]at this
 simp[loadVar,zfo hU,znb,sizeOf,typeInfo,hj,hjs,this]
theorem zsc {q:Nat}{R:Value->World->Prop}{ρ:Env}{fs:Array Field}[Und P t (.struct fs)][Inf P t s b z](h:ρ q=ptr (bx g))(hB:Bx W k g cs)(hR:R (.agg cs.toArray) W.w)(hs:s=cs.length:=by rfl):zqV P [.cell q t] R .ret ρ W.w:=
 ⟨[.agg cs.toArray],⟨⟨_,h,hB.loadA hs⟩,trivial⟩,hR⟩
theorem zax.ad {R R':CW->Value->Prop}(f':Nat->Nat)(h:zax P f vals (W.view K []).w (Res (W.view K []) LL R))(hR: ∀ Wf v,R Wf v->R' (W.back Wf K [] f') v):zax P f vals W.w (Res W [] R'):=
 zax.mono h fun v w' ⟨Wf,e,l,hr⟩=>by subst e;exact Res.fin l f' (hR Wf v hr)
theorem Res.mk {R:CW->Value->Prop}(l:Le LL V Wf)(h:R Wf v):Res V LL R v Wf.w:=⟨Wf,rfl,l,h⟩
def fk (k:Nat)(c:Nat):Nat:=if c=0 then 0 else k
theorem zbv.ov0 {lo hi lo' hi':Nat}{vs:List Nat}{l:List Value}{σ ρ ρ':Env}(h1:(Nat.ble lo lo'&&Nat.ble hi' hi)=true)(h:zbv lo hi vs ρ ρ'):zbv lo hi vs (Sx.ovl lo' hi' [] l σ ρ) ρ':=fun i hi2=>by
 have hb:(Nat.ble lo' i&&Nat.ble i hi')=false:=by
  cases hb:(Nat.ble lo' i&&Nat.ble i hi')with
  |false=>rfl
  |true=>
   simp only[aG,Nat.ble_eq]at hb h1
   have:(Nat.ble lo i&&Nat.ble i hi)=true:=by simp only[aG,Nat.ble_eq];omega
   simp[inR,this]at hi2
 simp only[Sx.ovl,hb,aC]
 exact h i hi2
theorem zky (k:Nat): ∀ c∈LL,fk k c=k:=fun c hc=>by
 unfold fk
 rw[if_neg]
 intro h
 rw[h]at hc
 revert hc
 decide
class Flat (P:Program) (t:TypeId) (n:outParam Nat):Prop where
 h: ∃ fs,P.underlying t=some (.struct fs)/\fs.size=n/\((List.range n).all fun i=>match fs[i]? with
  |some f=>f.offset==i&&(P.info? f.type).map (·.size)==some 1
  |none=>false)=true
theorem Flat.fld {n i:Nat}[hF:Flat P t n](hi:i<n):Fld P t i i:=by
 obtain⟨fs,hu,hsz,hB⟩:=hF.h
 rw[List.all_eq_true]at hB
 have h:=hB i (List.mem_range.2 hi)
 have hlt:i<fs.size:=by rw[hsz];exact hi
 rw[Array.getElem?_eq_getElem hlt]at h
 simp only[aG,beq_iff_eq]at h
 cases hinf:P.info? fs[i].type with
 |none=>rw[hinf]at h;simp at h
 |some inf=>
  rw[hinf]at h
  simp only[Option.map_some,Option.some.injEq]at h
  exact⟨fs,fs[i],inf,hu,Array.getElem?_eq_getElem hlt,h.1,hinf,by omega⟩
theorem R.sad {s r q:Str}{x y:Operand}{t':TypeId}(hm:saM s r=some q)(hx:ev ρ x=vS s)(hy:ev ρ y=vS r):Run P ρ w (.binOp .add t x y t') ty' (vS q):=by
 unfold saM at hm
 split at hm
 ·simp only[Option.some.injEq]at hm
  subst hm
  exact R.sadd hx hy (by rename_i hl;unfold lim at hl;omega)
 ·cases hm
theorem R.chm {s:Str}{i:Int}[hU:Und P t .string]{u:UInt8}{x y:Operand}{k:IntKind}(hm:chM s i=some u)(hx:ev ρ x=vS s)(hy:ev ρ y = .int k i):Run P ρ w (.index t x y) ty' (.int .u8 u.toNat):=by
 obtain⟨h0,h1,_⟩:=zgR hm
 exact R.chr hx hy h0 h1
theorem R.ss {s q:Str} [hU:Und P t .string] {lo hi:Option Operand} {l m:Int} (hm:slM s l m=some q) (hx:ev ρ a=vS s)
 (hl:(lo.map (ev ρ)=none/\l=0)\/lo.map (ev ρ)=some (vI l)) (hh:(hi.map (ev ρ)=none/\m=s.length)\/hi.map (ev ρ)=some (vI m)):Run P ρ w (.slice t a lo hi none) ty' (vS q):=by
 obtain⟨h0,h1,h2,rfl⟩:=zgO hm
 refine R.subS hx (l:=l.toNat) (h:=m.toNat) ?_ ?_ (by omega) (by omega)
 ·rcases hl with ⟨e,rfl⟩ |e
  ·exact .inl ⟨e,rfl⟩
  ·exact .inr ⟨l,e,h0,rfl⟩
 ·rcases hh with ⟨e,rfl⟩ |e
  ·exact .inl ⟨e,by simp⟩
  ·exact .inr ⟨m,e,by omega,rfl⟩
theorem Rd.oc (h:Rd W K [v] x):v.oneCell'=true:=rd_one h v (by simp)
theorem Ow.oc (h:Ow W k K [v] x):v.oneCell'=true:=h.rd.oc
theorem zne: ∀ u∈([]:List Value),u.oneCell'=true:=fun _ h=>by cases h
theorem zb4 {vs:List Value}(h:v.oneCell'=true)(hs: ∀ u∈vs,u.oneCell'=true): ∀ u∈v::vs,u.oneCell'=true:=fun u hu=>by
 rcases List.mem_cons.1 hu with rfl |hu
 ·exact h
 ·exact hs u hu
theorem Bx.clc (h:Bx W k g cs){j:Nat}{u:Value}(hu:cs[j]? =some u)(hd:zcw [k] L=true){w':World}(c:Cl W L w'):w'.cell? ((bx g).add j)=some u:=by
 obtain⟨W',rfl,l⟩:=c
 exact(h.up l hd).cell hu
theorem Bx.clcs (h:Bx W k g cs)(hd:zcw [k] L=true){w':World}(c:Cl W L w'):zbi w' (bx g) cs:=by
 obtain⟨W',rfl,l⟩:=c
 exact(h.up l hd).cells
omit [Rp α] in
theorem Each.cons {R:List Value->α->Prop}{es:List (List Value)}(h:R cs x)(k:Each R es xs):Each R (cs::es) (x::xs):=by
 have:=(Each.one h).append k
 simpa using this
end
theorem zpB {p:Prop}(b:Bool)(ht:b=true->p)(hf:b=false->p):p:=by cases b with
 |true=>exact ht rfl
 |false=>exact hf rfl
theorem bsv {v:Value}(h:v.oneCell'=true): ∀ u∈ [v],u.cells.size=1:=fun u hu=>by
 rw[List.mem_singleton]at hu;rw[hu,zho h];rfl
section
variable {α:Type}[Rp α]{W:CW}{k:Nat}{K:List Nat}{cs:List Value}{x:α}
class Pl (α:Type) [Rp α]:Prop where
 pl: ∀ {w A A' cs} {x:α},rd w A cs x->rd w A' cs x
instance {α β:Type}[Rp α][Rp β][Pl α][Pl β]:Pl (α×β):=⟨fun⟨c,d,e,h,k⟩=>⟨c,d,e,Pl.pl h,Pl.pl k⟩⟩
end
section
variable {P:Program}{n:Nat}{Q:Env->World->Prop}{ρ:Env}{w:World}{ops:Array Oper}{rest:List Oper}{C:World->Prop}{R:Post}{i k d ty j t:Nat}{op:Op}{pos:String}{af:Array Edge}{π:List (Nat×Nat)}{v:Value}{T:Value->World->Prop}{W:CW}{b c:Bool}{dd:Option Nat}
theorem R.pk {c x y:Operand}{q b:Bool}(hq:q=b)(hc:ev ρ c = .bool q)(hv:ev ρ (bif b then x else y)=v):Run P ρ w (.pick c x y) ty v:=
 R.pick hc (fun h=>by rw[h]at hq;subst hq;exact hv) (fun h=>by rw[h]at hq;subst hq;exact hv)
theorem Lw.pass' {o:Oper} {q:Bool} (hq:q=c) (hg:o.guard=some (j,b)) (hd':o.dst=some d) (hd:Nat.blt d n=true)
 (hj:(ops[j]?).bind (·.dst)=some t) (ht:Nat.blt t n=true) (hv:ev ρ (.tmp t) = .bool q) (hne:(c==b)=false) (h:Lw P n ops rest Q (ρ.up d undef) w):Lw P n ops (o::rest) Q ρ w:=
 Lw.pass hg hd' hd hj ht (hq▸hv) hne h
theorem zfs {o:Oper}(hg:o.guard=some (j,b))(hj:(ops[j]?).bind (·.dst)=some t)(ht:Nat.blt t n=true)(hv:ev ρ (.tmp t) = .bool c){a:Act}(ha:Fits n a ρ):Region.wanted o (yielded ops a.tmps)=(c==b):=by
 have hval:a.tmps[t]? =some (.bool c):=by
  have:=ha.val t
  have hlt:t<a.tmps.size:=by rw[ha.size];simpa[Nat.blt_eq]using ht
  simp only[ev]at hv
  rw[hv,Array.getD_eq_getD_getElem?,Array.getElem?_eq_getElem hlt]at this
  rw[Array.getElem?_eq_getElem hlt]
  simpa using this
 simp only[Region.wanted,hg,yielded,hj,aA,hval]
 cases c<;>cases b<;>rfl
theorem ziZ {o:Oper}(hg:o.guard=some (j,b))(hj:(ops[j]?).bind (·.dst)=some t)(ht:Nat.blt t n=true)(hv:ev ρ (.tmp t)=undef){a:Act}(ha:Fits n a ρ):Region.wanted o (yielded ops a.tmps)=false:=by
 have hval:a.tmps[t]? =some undef:=by
  have:=ha.val t
  have hlt:t<a.tmps.size:=by rw[ha.size];simpa[Nat.blt_eq]using ht
  simp only[ev]at hv
  rw[hv,Array.getD_eq_getD_getElem?,Array.getElem?_eq_getElem hlt]at this
  rw[Array.getElem?_eq_getElem hlt]
  simpa using this
 simp only[Region.wanted,hg,yielded,hj,aA,hval]
 cases b<;>rfl
theorem Lw.passU {o:Oper} (hg:o.guard=some (j,b)) (hd':o.dst=some d) (hd:Nat.blt d n=true)
 (hj:(ops[j]?).bind (·.dst)=some t) (ht:Nat.blt t n=true) (hv:ev ρ (.tmp t)=undef) (h:Lw P n ops rest Q (ρ.up d undef) w):Lw P n ops (o::rest) Q ρ w:=fun a ha=>by
 have hw:=ziZ (o:=o) hg hj ht hv ha
 simp only[wpList,hw]
 rw[hd']
 exact h _ (ha.put hd undef)
theorem Mw.passU (hi:ops[i]? =some ⟨some d,op,ty,pos,af,some (j,b)⟩) (hd:Nat.blt d n=true)
 (hj:(ops[j]?).bind (·.dst)=some t) (ht:Nat.blt t n=true) (hv:ev ρ (.tmp t)=undef) (h:Mw P n ops C π Q (ρ.up d undef) w):Mw P n ops C ((i,k)::π) Q ρ w:=fun a ha=>
 ⟨_,hi,by
  have hw:=ziZ (o:=⟨some d,op,ty,pos,af,some (j,b)⟩) rfl hj ht hv ha
  rw[if_neg (by rw[hw];decide)]
  exact h _ (ha.put hd undef)⟩
theorem Mw.pass' {q:Bool} (hq:q=c) (hi:ops[i]? =some ⟨some d,op,ty,pos,af,some (j,b)⟩) (hd:Nat.blt d n=true)
 (hj:(ops[j]?).bind (·.dst)=some t) (ht:Nat.blt t n=true) (hv:ev ρ (.tmp t) = .bool q) (hne:(c==b)=false) (h:Mw P n ops C π Q (ρ.up d undef) w):Mw P n ops C ((i,k)::π) Q ρ w:=fun a ha=>
 ⟨_,hi,by
  have hw:=zfs (o:=⟨some d,op,ty,pos,af,some (j,b)⟩) rfl hj ht hv ha
  rw[hq,hne]at hw
  rw[if_neg (by rw[hw];decide)]
  exact h _ (ha.put hd undef)⟩
theorem Mw.gt {q:Bool}(hq:q=b)(hj:(ops[j]?).bind (·.dst)=some t)(ht:Nat.blt t n=true)(hv:ev ρ (.tmp t) = .bool q)(hi:ops[i]? =some ⟨some d,op,ty,pos,af,some (j,b)⟩)(hd:Nat.blt d n=true)(hr:Tr P ρ w op ty T)(h: ∀ v w',T v w'->C w'/\Mw P n ops C π Q (ρ.up d v) w'):Mw P n ops C ((i,2)::π) Q ρ w:=fun a ha=>
 ⟨_,hi,by
  have hw:=zfs (o:=⟨some d,op,ty,pos,af,some (j,b)⟩) rfl hj ht hv ha
  rw[hq]at hw
  rw[if_pos (by rw[hw];simp)]
  exact hr _ rfl rfl a _ _ ha.evalF fun v w' hT=>⟨(h v w' hT).1,(h v w' hT).2 _ (ha.put hd v)⟩⟩
theorem Mw.gl {q:Bool}(hq:q=b)(hj:(ops[j]?).bind (·.dst)=some t)(ht:Nat.blt t n=true)(hv:ev ρ (.tmp t) = .bool q)(hi:ops[i]? =some ⟨some d,op,ty,pos,af,some (j,b)⟩)(hd:Nat.blt d n=true)(hr:Tr P ρ w op ty T)(h: ∀ v w',T v w'->Mw P n ops C π Q (ρ.up d v) w'):Mw P n ops C ((i,3)::π) Q ρ w:=fun a ha=>
 ⟨_,hi,by
  have hw:=zfs (o:=⟨some d,op,ty,pos,af,some (j,b)⟩) rfl hj ht hv ha
  rw[hq]at hw
  rw[if_pos (by rw[hw];simp)]
  exact hr _ rfl rfl a _ _ ha.evalF fun v w' hT=>h v w' hT _ (ha.put hd v)⟩
end
section
variable {P:Program}{α:Type}[Rp α]{ρ:Env}{W:CW}{k:Nat}{K K':List Nat}{v u:Value}{xs ys zs:List α}{p q:Operand}{t e s b:Nat}{z:Value}{ty':Nat}{cs:List Value}{x:α}{g j:Nat}
end
section
variable {P:Program}{ρ:Env}{w:World}{x:Operand}{a:Int}{ty s d e:Nat}
theorem zpC (n:Int):((by8 n).toNat:Int)=IntKind.u8.wrap n:=by
 have h:IntKind.u8.wrap n=n % 256:=by
  simp[IntKind.wrap,IntKind.bits,IntKind.signed]
 rw[h]
 unfold by8
 rw[UInt8.toNat_ofNat']
 omega
theorem R.cv8 {d0:TypeDesc}[hs:Und P s d0][hd:Und P d (.int .u8)]{k:IntKind}(hx:ev ρ x = .int k a)(hn:(match d0 with | .slice _ | .pointer _ | .unsafePointer=>false |_=>true)=true):Run P ρ w (.convert s d x) ty (.int .u8 (UInt8.toNat (by8 a):Int)):=by
 rw[zpC]
 exact R.cvI hx hn
end
theorem R.cvB {P:Program} {ρ:Env} {W:CW} {K:List Nat} {x:Operand} {v:Value} {xs:List zcM} {ty s d e:Nat} [Rp zcM] [hs:Und P s (.slice e)] [he:Und P e (.int .u8)] [hd:Und P d .string] (h:Rd W K [v] xs) (hx:ev ρ x=v)
 (hb: ∀ {w A cs} {y:zcM},rd w A cs y->cs=[.int .u8 (UInt8.toNat y)]):Run P ρ W.w (.convert s d x) ty (vS xs):=fun o h1 h2=>by
 obtain⟨ad,cap,e0,hl,hm,ha,hc⟩:=h
 have e1:v = .slice ad xs.length cap:=by simpa using e0
 subst e1
 have hr:(convert s d (.slice ad xs.length cap)).run P W.w = .ok (.string ⟨(xs:List UInt8).toArray⟩) W.w:=by
  cases ad with
  |none=>
   have hx0:xs=[]:=by
    cases xs with
    |nil=>rfl
    |cons y ys=>obtain⟨a,h,_⟩:=ha (by simp);cases h
   subst hx0
   rw[run_convert_bytes_string W.w s d e none _ cap hs.h he.h hd.h]
   simp[Conv.bytesToString,Sem.run_pure,Sem.run_bind]
   rfl
  |some a=>
   refine run_convert_bytes_back W.w s d e a cap (xs:List UInt8) hs.h he.h hd.h fun j hj=>?_
   obtain⟨ecs,h1,h2⟩:=hc j xs[j] (aB hj)
   have h3:=hb h2
   have h4:=rd_len h2
   rw[h3]at h4
   have h5:=h1 0 (.int .u8 (UInt8.toNat xs[j])) (by rw[h3];rfl)
   rw[<- h4]at h5
   simp[slA,Addr.add]at h5
   simp[Addr.add]
   exact h5
 simp only[execOp,h1,hx,Sem.run_bind,hr,Result.andThen_ok,Sem.run_pure]
 rfl
section
variable {α:Type}[Rp α]{W Wf:CW}{K J L:List Nat}{f:Nat->Nat}{cs:List Value}{x:α}{c c' g n k:Nat}
theorem znF {l:List Nat}{c:Nat}:l.any (Nat.beq c)=true↔c∈l:=by
 rw[List.any_eq_true]
 exact⟨fun⟨y,hy,e⟩=>by rw[Nat.eq_of_beq_eq_true e];exact hy,fun h=>⟨c,h,Nat.beq_refl c⟩⟩
end
class Fl (α β:Type) [Rp α] [Rp β] (j:Nat) (get:outParam (α->β)) (set:outParam (α->β->α)):Prop where
 lens: ∀ {w:World} {A:Nat->Prop} {S:List Nat} {cs:List Value} {x:α},own w A S cs x -> ∃ u T R,cs[j]? =some u/\own w A T [u] (get x)/\S.Perm (T++R)/\
  ∀ {w':World} {T':List Nat} {y:β},(∀ b,A b->w'.heap[b]? =w.heap[b]?)->(∀ b∈R,w'.heap[b]? =w.heap[b]?)->own w' A T' [u] y -> ∃ S',own w' A S' cs (set x y)/\S'.Perm (T'++R)
section
variable {α β γ:Type}[Rp α][Rp β][Rp γ]
theorem Fl.self (h:sz α=1):Fl α α 0 (fun x=>x) (fun _ y=>y):= {
 lens:=fun {w A S cs x} ho=>by
  have hl:=own_len ho
  rw[h]at hl
  match cs,hl with
  | [u],_=>exact⟨u,S,[],rfl,ho,by simp,fun {w' T' y} _ _ h=>⟨T',h,by simp⟩⟩}
instance :Fl (List α) (List α) 0 (fun x=>x) (fun _ y=>y):=Fl.self rfl
theorem Fl.fst (h:sz α=1):Fl (α×β) α 0 (fun x=>x.1) (fun x y=>(y,x.2)):= {
 lens:=fun {w A S cs x} ho=>by
  obtain⟨c,d,S1,S2,rfl,rfl,h1,h2⟩:=ho
  have hl:=own_len h1
  rw[h]at hl
  match c,hl with
  | [u],_=>exact⟨u,S1,S2,rfl,h1,List.Perm.refl _,fun {w' T' y} hA hR h=>⟨T'++S2,⟨[u],d,T',S2,rfl,rfl,h,own_keep hA hR h2⟩,List.Perm.refl _⟩⟩}
theorem Fl.snd {j:Nat}{get:β->γ}{set:β->γ->β}(h:sz α=1)(f:Fl β γ j get set):Fl (α×β) γ (j+1) (fun x=>get x.2) (fun x y=>(x.1,set x.2 y)):= {
 lens:=fun {w A S cs x} ho=>by
  obtain⟨c,d,S1,S2,rfl,rfl,h1,h2⟩:=ho
  have hl:=own_len h1
  rw[h]at hl
  match c,hl with
  | [u0],_=>
   obtain⟨u,T,R,hu,ht,hp,hw⟩:=f.lens h2
   refine⟨u,T,S1++R,by simpa using hu,ht,?_,fun {w' T' y} hA hR h=>?_⟩
   ·exact(List.Perm.append_left S1 hp).trans (by
     rw[<- List.append_assoc,<- List.append_assoc]
     exact List.Perm.append_right R List.perm_append_comm)
   ·obtain⟨S',h3,h4⟩:=hw hA (fun b hb=>hR b (aJ _ hb)) h
    refine⟨S1++S',⟨[u0],d,S1,S',rfl,rfl,own_keep hA (fun b hb=>hR b (List.mem_append_left _ hb)) h1,h3⟩,?_⟩
    exact(List.Perm.append_left S1 h4).trans (by
     rw[<- List.append_assoc,<- List.append_assoc]
     exact List.Perm.append_right R List.perm_append_comm)}
theorem zi0 {δ:Type}: ∀ (Ss:List (List δ)) (i:Nat) (T:List δ),Ss[i]? =some T -> ∃ A B,Ss.flatten=A++(T++B) /\ ∀ T',(Ss.set i T').flatten=A++(T'++B)
 | [],i,T,h=>by simp at h
 |U::Ss,0,T,h=>by
  have:U=T:=by simpa using h
  subst this
  exact⟨[],Ss.flatten,by simp,fun T'=>by simp⟩
 |U::Ss,i+1,T,h=>by
  obtain⟨A,B,h1,h2⟩:=zi0 Ss i T (by simpa using h)
  exact⟨U++A,B,by simp[h1],fun T'=>by simp[h2]⟩
theorem zmg {δ:Type}(O A T R B:List δ){S:List δ}(h:S.Perm (T++R)):(O++(A++(S++B))).Perm (T++(O++(A++(R++B)))):=by
 have h1:(O++(A++(S++B))).Perm (O++(A++((T++R)++B))):=List.Perm.append_left O (List.Perm.append_left A (List.Perm.append_right B h))
 refine h1.trans ?_
 have h2:O++(A++((T++R)++B))=(O++A)++(T++(R++B)):=by simp
 have h3:T++(O++(A++(R++B)))=T++((O++A)++(R++B)):=by simp
 rw[h2,h3,<- List.append_assoc,<- List.append_assoc T]
 exact List.Perm.append_right _ List.perm_append_comm
end
section
variable {P:Program}{ρ:Env}{α β:Type}[Rp α][Rp β]{W:CW}{t e s b ty':Nat}{z:Value}
def OwL (W:CW)(J:List Nat)(css:List (List Value))(xs:List α):Prop:= ∃ Ss:List (List Nat),css.length=xs.length/\Ss.length=xs.length/\
 (∀ (i:Nat) cs x T,css[i]? =some cs->xs[i]? =some x->Ss[i]? =some T->own W.w (AK W []) T cs x)/\Ss.flatten.Nodup /\ ∀ b∈Ss.flatten,b<W.w.heap.size/\W.c b∈J
theorem OwL.nil:OwL W [] [] ([]:List α):=⟨[],rfl,rfl,fun i cs x T h=>by simp at h,by simp,by simp⟩
theorem OwL.cons {J J':List Nat}{cs:List Value}{css:List (List Value)}{x:α}{xs:List α}(h:OwS W J [] cs x)(r:OwL W J' css xs)(hd:zcw J J'=true:=by rfl):OwL W (J++J') (cs::css) (x::xs):=by
 obtain⟨S,ho,hn,hb⟩:=h
 obtain⟨Ss,h1,h2,h3,h4,h5⟩:=r
 refine⟨S::Ss,by simp[h1],by simp[h2],fun i cs x T a b c=>?_,?_,fun b hb'=>?_⟩
 ·cases i with
  |zero=>simp at a b c;subst a b c;exact ho
  |succ i=>exact h3 i cs x T (by simpa using a) (by simpa using b) (by simpa using c)
 ·rw[List.flatten_cons,List.nodup_append]
  exact⟨hn,h4,fun a ha b hb' e=>zbC hd (hb a ha).2 (by rw[e];exact(h5 b hb').2)⟩
 ·rw[List.flatten_cons]at hb'
  rcases List.mem_append.1 hb' with h |h
  ·exact⟨(hb b h).1,List.mem_append_left _ (hb b h).2⟩
  ·exact⟨(h5 b h).1,aJ _ (h5 b h).2⟩
end
def ups:Env->List (Option Nat)->Nat->Env->Env
 |ρ,[],_,_=>ρ
 |ρ,some d::ds,k,vs=>ups (ρ.up d (vs k)) ds (k+1) vs
 |ρ,none::ds,k,vs=>ups ρ ds (k+1) vs
def inD (d:Nat)(ds:List (Option Nat)):Bool:=ds.any fun x=>match x with |some e=>Nat.beq d e |none=>false
def zft:List (Option Nat)->Bool
 | []=>true
 |some d::ds=> !inD d ds&&zft ds
 |none::ds=>zft ds
theorem znG {ρ:Env}{d e:Nat}{u v:Value}(h:Nat.beq d e=false):(ρ.up d u).up e v=(ρ.up e v).up d u:=by
 funext i
 simp only[Env.up]
 cases h1:Nat.beq i d<;>cases h2:Nat.beq i e<;>simp
 rw[Nat.eq_of_beq_eq_true h1]at h2
 rw[h]at h2
 cases h2
theorem znH {ρ:Env}{d:Nat}{u v:Value}:(ρ.up d u).up d v=ρ.up d v:=by
 funext i
 simp only[Env.up]
 cases Nat.beq i d<;>rfl
theorem zkz {ρ:Env}{d:Nat}:ρ.up d (ρ d)=ρ:=by
 funext i
 simp only[Env.up]
 cases h:Nat.beq i d
 ·rfl
 ·rw[Nat.eq_of_beq_eq_true h];rfl
theorem zal {vs:Env}{j:Nat}{v:Value}(h:vs j=v): ∃ vs':Env,vs=vs'.up j v:=⟨vs,by rw[<- h,zkz]⟩
theorem zkA {vs:Env}{j k:Nat}{v:Value}(h:j≠k):(vs.up j v) k=vs k:=by
 simp only[Env.up]
 cases hb:Nat.beq k j with
 |false=>rfl
 |true=>exact absurd (Nat.eq_of_beq_eq_true hb).symm h
theorem zkB: ∀ (ds:List (Option Nat)) (k:Nat) (vs ρ:Env) (d:Nat) (v:Value),inD d ds=false->(ups ρ ds k vs).up d v=ups (ρ.up d v) ds k vs
 | [],k,vs,ρ,d,v,_=>rfl
 |some e::ds,k,vs,ρ,d,v,h=>by
  simp only[inD,List.any_cons,Bool.or_eq_false_iff]at h
  simp only[ups]
  rw[zkB ds _ vs _ d v h.2,znG]
  cases hb:Nat.beq e d with
  |false=>rfl
  |true=>
   have:=Nat.eq_of_beq_eq_true hb
   subst this
   rw[Nat.beq_refl]at h
   cases h.1
 |none::ds,k,vs,ρ,d,v,h=>by
  simp only[inD,List.any_cons,Bool.or_eq_false_iff]at h
  simp only[ups]
  exact zkB ds _ vs ρ d v h.2
theorem zi1: ∀ (ds:List (Option Nat)) (k j:Nat) (vs ρ:Env) (v:Value),j<k->ups ρ ds k (vs.up j v)=ups ρ ds k vs
 | [],k,j,vs,ρ,v,_=>rfl
 |some e::ds,k,j,vs,ρ,v,h=>by
  simp only[ups]
  rw[zkA (by omega),zi1 ds (k+1) j vs _ v (by omega)]
 |none::ds,k,j,vs,ρ,v,h=>by
  simp only[ups]
  exact zi1 ds (k+1) j vs _ v (by omega)
theorem zio: ∀ (ds:List (Option Nat)) (k:Nat) (vs ρ:Env) (i d:Nat) (v:Value),zft ds=true->ds[i]? =some (some d)->(ups ρ ds k vs).up d v=ups ρ ds k (vs.up (k+i) v)
 | [],k,vs,ρ,i,d,v,_,h=>by simp at h
 |some e::ds,k,vs,ρ,0,d,v,hn,h=>by
  have:e=d:=by simpa using h
  subst this
  simp only[zft,aG,Bool.not_eq_true']at hn
  simp only[ups,Nat.add_zero]
  rw[zkB ds _ vs _ _ _ hn.1,znH,zi1 ds (k+1) k vs _ v (by omega)]
  congr 2
  simp[Env.up]
 |none::ds,k,vs,ρ,0,d,v,hn,h=>by simp at h
 |some e::ds,k,vs,ρ,i+1,d,v,hn,h=>by
  simp only[zft,aG,Bool.not_eq_true']at hn
  simp only[ups]
  rw[zio ds (k+1) vs _ i d v hn.2 (by simpa using h),zkA (by omega),show k+1+i=k+(i+1) by omega]
 |none::ds,k,vs,ρ,i+1,d,v,hn,h=>by
  simp only[zft]at hn
  simp only[ups]
  rw[zio ds (k+1) vs _ i d v hn (by simpa using h),show k+1+i=k+(i+1) by omega]
theorem zgP: ∀ (ds:List (Option Nat)) (k:Nat) (vs ρ:Env) (i:Nat) (v:Value),ds[i]? =some none->ups ρ ds k (vs.up (k+i) v)=ups ρ ds k vs
 | [],k,vs,ρ,i,v,h=>by simp at h
 |some e::ds,k,vs,ρ,0,v,h=>by simp at h
 |none::ds,k,vs,ρ,0,v,h=>by
  simp only[ups,Nat.add_zero]
  exact zi1 ds (k+1) k vs ρ v (by omega)
 |some e::ds,k,vs,ρ,i+1,v,h=>by
  simp only[ups]
  rw[zkA (by omega),show k+(i+1)=k+1+i by omega,zgP ds (k+1) vs _ i v (by simpa using h)]
 |none::ds,k,vs,ρ,i+1,v,h=>by
  simp only[ups]
  rw[show k+(i+1)=k+1+i by omega,zgP ds (k+1) vs _ i v (by simpa using h)]
def zpD (ρ:Env)(ds:List (Option Nat))(i:Nat):Value:=match ds.getD i none with
 |some d=>ρ d
 |none=>undef
theorem zfu: ∀ (ds:List (Option Nat)) (k:Nat) (ρ vs:Env),(∀ i d,ds[i]? =some (some d)->vs (k+i)=ρ d)->ups ρ ds k vs=ρ
 | [],k,ρ,vs,_=>rfl
 |some d::ds,k,ρ,vs,h=>by
  simp only[ups]
  rw[show vs k=ρ d from h 0 d rfl,zkz]
  exact zfu ds (k+1) ρ vs fun i e he=>by
   have:=h (i+1) e (by simpa using he)
   rwa [show k+1+i=k+(i+1) by omega]
 |none::ds,k,ρ,vs,h=>by
  simp only[ups]
  exact zfu ds (k+1) ρ vs fun i e he=>by
   have:=h (i+1) e (by simpa using he)
   rwa [show k+1+i=k+(i+1) by omega]
def at_ (l:List (List Nat))(i:Nat):List Nat:=l.getD i []
def zez (o:Oper):List Nat:=(o.after.toList.filter (Region.binds .any ·)).map (·.on)
def zsd (l:List Oper)(n nd:Nat)(A N L D C:List (List Nat))(E LA:List Nat):Bool:=
 ((l.zipIdx 0).all fun p=>p.1.guard.isNone&&(zez p.1).all (Nat.blt · p.2)&&(at_ A p.2).all (fun k=>(zez p.1).any (Nat.beq k)||(zez p.1).any fun m=>(at_ A m).any (Nat.beq k))&&
  (at_ N p.2).all (fun j=>(Nat.ble n j||(at_ A p.2).any (Nat.beq j))&&(List.range n).all fun k=>Nat.beq k p.2||Nat.beq k j||zcw (at_ C j) (at_ L k)||(at_ A k).any (Nat.beq p.2)||(Nat.blt j n&&(at_ A j).any (Nat.beq k)))&&
  zgN (at_ L p.2) LA&&(match p.1.dst with |some d=>Nat.blt d nd |none=>true))&&
 ((List.range n).all fun j=>(at_ D j).all fun k=>Nat.beq k j||(at_ A j).any (Nat.beq k))&&
 (E.all fun j=>(List.range n).all fun k=>Nat.beq k j||zcw (at_ C j) (at_ L k)||(Nat.blt j n&&(at_ A j).any (Nat.beq k)))&&(D.drop n).all (fun d=>d.isEmpty)&&Region.noSelect l.toArray&&zft (l.map (·.dst))&&Nat.beq l.length n
abbrev Fact:=Env->CW->Prop
def fat (F:List Fact)(j:Nat):Fact:=F.getD j fun _ _=>True
def zti (P:Program)(ds:List (Option Nat))(ρ:Env)(W0:CW)(A N L:List (List Nat))(F:List Fact)(LA:List Nat)(i:Nat)(o:Oper):Prop:=
 ∀ vs W,Le LA W0 W->(∀ j∈at_ N i,fat F j vs W)->(∀ k,i∈at_ A k->vs k=zpD ρ ds k)->Tr P (ups ρ ds 0 vs) W.w o.op o.type fun v w'=> ∃ W',W'.w=w'/\Le (at_ L i) W W'/\fat F i (vs.up i v) W'
def zaK (G:Nat->Oper->Prop):List Oper->Nat->Prop
 | [],_=>True
 |o::l,i=>G i o/\zaK G l (i+1)
theorem zaK.at_ {G:Nat->Oper->Prop}: ∀ {l:List Oper} {k i:Nat} {o:Oper},zaK G l k->l[i]? =some o->G (k+i) o
 | [],k,i,o,_,h=>by simp at h
 |x::l,k,0,o,hs,h=>by
  have:x=o:=by simpa using h
  subst this
  exact hs.1
 |x::l,k,i+1,o,hs,h=>by
  have:=zaK.at_ (i:=i) hs.2 (by simpa using h)
  rwa [show k+1+i=k+(i+1) by omega]at this
def Sup (D C:List Nat)(f:Fact):Prop:= ∀ vs vs' W W' L,(∀ k∈D,vs' k=vs k)->Le L W W'->zcw C L=true->f vs W->f vs' W'
def zb9:List (List Nat)->List (List Nat)->List Fact->Prop
 |D::Ds,C::Cs,f::Fs=>Sup D C f/\zb9 Ds Cs Fs
 |_,_,[]=>True
 |_,_,_=>False
theorem zb9.at_: ∀ {Ds Cs:List (List Nat)} {Fs:List Fact} (j:Nat),zb9 Ds Cs Fs->Sup (Sx.at_ Ds j) (Sx.at_ Cs j) (fat Fs j)
 |Ds,Cs,[],j,_=>fun vs vs' W W' L _ _ _ _=>by simp[fat]
 | [],_,f::Fs,j,h=>by simp[zb9]at h
 |_:: _,[],f::Fs,j,h=>by simp[zb9]at h
 |D::Ds,C::Cs,f::Fs,0,h=>h.1
 |D::Ds,C::Cs,f::Fs,j+1,h=>zb9.at_ j h.2
theorem zbd {l:List Nat}{c:Nat}(h:l.any (Nat.beq c)=true):c∈l:=znF.1 h
theorem zkC {α:Type}{p:α×Nat->Bool}: ∀ {l:List α} {k:Nat},(l.zipIdx k).all p=true -> ∀ (i:Nat) x,l[i]? =some x->p (x,k+i)=true
 | [],k,_,i,x,h=>by simp at h
 |y::l,k,ha,0,x,h=>by
  have e:y=x:=by simpa using h
  subst e
  simp only[List.zipIdx_cons,List.all_cons,aG]at ha
  exact ha.1
 |y::l,k,ha,i+1,x,h=>by
  simp only[List.zipIdx_cons,List.all_cons,aG]at ha
  have:=zkC ha.2 i x (by simpa using h)
  rwa [show k+1+i=k+(i+1) by omega]at this
def unl (listed:Array Bool):Nat->Nat
 |0=>0
 |n+1=>unl listed n+bif listed.getD n true then 0 else 1
theorem zkD {listed:Array Bool}{i:Nat}(h:listed.getD i true=false): ∀ n,unl (listed.setIfInBounds i true) n+(if i<n then 1 else 0)=unl listed n
 |0=>by simp[unl]
 |n+1=>by
  have hi:i<listed.size:=by
   apply Nat.lt_of_not_le
   intro hn
   simp[hn]at h
  have ih:=zkD h n
  simp only[unl]
  by_cases e:i=n
  ·subst e
   have h1:(listed.setIfInBounds i true).getD i true=true:=by simp[hi]
   rw[h1,h]
   simp only[Nat.lt_irrefl,if_false,Nat.add_zero]at ih
   simp[ih]
  ·have h1:(listed.setIfInBounds i true).getD n true=listed.getD n true:=getD_set_ne true e
   rw[h1]
   by_cases hlt:i<n
   ·rw[if_pos hlt]at ih
    rw[if_pos (by omega)]
    omega
   ·rw[if_neg hlt]at ih
    rw[if_neg (by omega)]
    omega
theorem zi2 {listed:Array Bool}: ∀ {n:Nat},unl listed n=0 -> ∀ i,i<n->listed.getD i true=true
 |n+1,h,i,hi=>by
  simp only[unl]at h
  by_cases e:i=n
  ·subst e
   cases hb:listed.getD i true with
   |true=>rfl
   |false=>rw[hb]at h;simp at h
  ·exact zi2 (n:=n) (by omega) i (by omega)
section
variable {P:Program}{nd:Nat}{R:Post}{ρ:Env}{W0:CW}{l:List Oper}{A N L D C:List (List Nat)}{E LA:List Nat}{F:List Fact}
structure ParInv (nd:Nat) (ρ:Env) (W0:CW) (l:List Oper) (A L C:List (List Nat)) (LA:List Nat) (F:List Fact) (listed:Array Bool) (a:Act) (W:CW) (vs:Env):Prop where
 size:listed.size=l.length
 fits:Fits nd a (ups ρ (l.map (·.dst)) 0 vs)
 le:Le LA W0 W
 closed: ∀ m,listed.getD m false=true -> ∀ k∈at_ A m,listed.getD k false=true
 old: ∀ k,listed.getD k false=false->vs k=zpD ρ (l.map (·.dst)) k
 alive: ∀ j,(l.length<=j\/listed.getD j false=true)->(∀ k,listed.getD k false=true->k≠j->zcw (at_ C j) (at_ L k)=false->j<l.length/\k∈at_ A j)->fat F j vs W
theorem zhs {listed:Array Bool}{i:Nat}(h:i<listed.size):listed.getD i true=listed.getD i false:=by simp[h]
theorem zeP {listed:Array Bool}{i:Nat}(h:listed.getD i false=true):i<listed.size:=by
 apply Nat.lt_of_not_le
 intro hn
 simp[hn]at h
theorem znI (hB:zsd l l.length nd A N L D C E LA=true) (hS:zaK (zti P (l.map (·.dst)) ρ W0 A N L F LA) l 0) (hF:zb9 D C F)
 (hQ: ∀ a vs W,Fits nd a (ups ρ (l.map (·.dst)) 0 vs)->Le LA W0 W->(∀ j∈E,fat F j vs W)->zna nd R .normal a W.w):
 ∀ (fuel:Nat) (listed:Array Bool) (a:Act) (W:CW) (vs:Env),ParInv nd ρ W0 l A L C LA F listed a W vs->unl listed l.length<=fuel->
  wpAny P .any l.toArray (fun e a w=>e = .normal/\zna nd R e a w) fuel listed a W.w:=by
 simp only[zsd,aG]at hB
 obtain⟨⟨⟨⟨⟨⟨h1,h2⟩,h3⟩,h0⟩,h4⟩,h5⟩,h6⟩:=hB
 have row:=fun i o (ho:l[i]? =some o)=>zkC h1 i o ho
 simp only[Nat.zero_add,aG,List.all_eq_true,Bool.or_eq_true,List.any_eq_true]at row
 have done: ∀ listed a W vs,ParInv nd ρ W0 l A L C LA F listed a W vs->Region.ready .any l.toArray listed=[]->(fun e a w=>e=Exit.normal/\zna nd R e a w) Exit.normal a W.w:=by
  intro listed a W vs inv hr
  have hall: ∀ i,i<l.length->listed.getD i false=true:=by
   intro i
   induction i using Nat.strongRecOn with
   |ind i ih=>
    intro hi
    cases hb:listed.getD i false with
    |true=>rfl
    |false=>
     have ho:l[i]? =some l[i]:=aB hi
     have hm:i∈Region.ready .any l.toArray listed:=by
      rw[mem_ready]
      refine⟨by rw[zhs (by rw[inv.size];exact hi),hb],l[i],by simp,fun e he hbi=>?_⟩
      have hk:e.on∈zez l[i]:=by
       unfold zez
       exact List.mem_map_of_mem (List.mem_filter.2 ⟨Array.mem_toList_iff.2 he,hbi⟩)
      have hlt:=(row i l[i] ho).1.1.1.1.2 _ hk
      have hlt':e.on<i:=by simpa[Nat.blt_eq]using hlt
      exact ih e.on hlt' (by omega)
     rw[hr]at hm
     cases hm
  refine⟨rfl,hQ a vs W inv.fits inv.le fun j hj=>?_⟩
  refine inv.alive j ?_ fun k hk hkj hd=>?_
  ·by_cases hjl:l.length<=j
   ·exact .inl hjl
   ·exact .inr (hall j (by omega))
  ·have hkl:k<l.length:=by rw[<- inv.size];exact zeP hk
   have:=List.all_eq_true.1 (List.all_eq_true.1 h3 j hj) k (List.mem_range.2 hkl)
   simp only[Bool.or_eq_true,aG]at this
   rcases this with (this |this) |this
   ·exact absurd (Nat.eq_of_beq_eq_true this) hkj
   ·rw[hd]at this;cases this
   ·exact⟨by simpa[Nat.blt_eq]using this.1,zbd this.2⟩
 intro fuel
 induction fuel with
 |zero=>
  intro listed a W vs inv hf
  have hr:Region.ready .any l.toArray listed=[]:=by
   rw[List.eq_nil_iff_forall_not_mem]
   intro i hi
   obtain⟨hu,o,ho,_⟩:=mem_ready.1 hi
   have hil:i<l.length:=by
    have:=(Array.getElem?_eq_some_iff.1 ho).1
    simpa using this
   have:=zi2 (listed:=listed) (n:=l.length) (by omega) i hil
   rw[this]at hu
   cases hu
  exact⟨hr,done listed a W vs inv hr⟩
 |succ fuel ih=>
  intro listed a W vs inv hf
  refine⟨done listed a W vs inv,fun i hi=>?_⟩
  obtain⟨hu,o,ho,hall⟩:=mem_ready.1 hi
  have hol:l[i]? =some o:=by simpa using ho
  have hil:i<l.length:=(List.getElem?_eq_some_iff.1 hol).1
  obtain⟨⟨⟨⟨⟨hg,hlt⟩,hA⟩,hN⟩,hL⟩,hd⟩:=row i o hol
  have hun:listed.getD i false=false:=by rw[<- zhs (by rw[inv.size];exact hil),hu]
  have hbind: ∀ k∈zez o,listed.getD k false=true:=by
   intro k hk
   obtain⟨e,he,rfl⟩:=List.mem_map.1 hk
   obtain⟨he1,he2⟩:=List.mem_filter.1 he
   exact hall e (Array.mem_toList_iff.1 he1) he2
  have hAl: ∀ k∈at_ A i,listed.getD k false=true:=by
   intro k hk
   rcases hA k hk with ⟨m,hm,e⟩ |⟨m,hm,x,hx,e⟩
   ·rw[Nat.eq_of_beq_eq_true e];exact hbind m hm
   ·exact inv.closed m (hbind m hm) k (by rw[Nat.eq_of_beq_eq_true e];exact hx)
  have hNf: ∀ j∈at_ N i,fat F j vs W:=by
   intro j hj
   obtain⟨hj1,hj2⟩:=hN j hj
   refine inv.alive j ?_ fun k hk hkj hdis=>?_
   ·rcases hj1 with hj1 |⟨x,hx,e⟩
    ·exact .inl (Nat.le_of_ble_eq_true hj1)
    ·exact .inr (hAl j (by rw[Nat.eq_of_beq_eq_true e];exact hx))
   ·have hkl:k<l.length:=by rw[<- inv.size];exact zeP hk
    rcases hj2 k (List.mem_range.2 hkl)with (((e |e) |e) |⟨x,hx,e⟩) |e
    ·rw[Nat.eq_of_beq_eq_true e,hun]at hk;cases hk
    ·exact absurd (Nat.eq_of_beq_eq_true e) hkj
    ·rw[hdis]at e;cases e
    ·have:=inv.closed k hk x hx
     rw[<- Nat.eq_of_beq_eq_true e,hun]at this
     cases this
    ·obtain⟨e1,x,hx,e2⟩:=e
     exact⟨by simpa[Nat.blt_eq]using e1,by rw[Nat.eq_of_beq_eq_true e2];exact hx⟩
  have hV: ∀ k,i∈at_ A k->vs k=zpD ρ (l.map (·.dst)) k:=fun k hk=>inv.old k (by
   cases hb:listed.getD k false with
   |false=>rfl
   |true=>
    have:=inv.closed k hb i hk
    rw[hun]at this
    cases this)
  have hstep:=(zaK.at_ hS hol) vs W inv.le (by simpa using hNf) (by simpa using hV)
  simp only[Nat.zero_add]at hstep
  unfold wpOp
  simp only[ho]
  have hw:Region.wanted o (yielded l.toArray a.tmps)=true:=by
   have:o.guard=none:=by simpa using hg
   simp[Region.wanted,this]
  rw[if_pos hw]
  refine .inl ?_
  refine hstep o rfl rfl a _ _ inv.fits.evalF ?_
  rintro v w' ⟨W',rfl,hle,hFi⟩
  refine ih (listed.setIfInBounds i true) _ W' (vs.up i v) ⟨by simp[inv.size],?_,inv.le.trans (hle.sub hL),?_,?_,?_⟩ ?_
  ·cases hdst:o.dst with
   |none=>
    have:=zgP (l.map (·.dst)) 0 vs ρ i v (by rw[List.getElem?_map,hol];simp[hdst])
    rw[Nat.zero_add]at this
    rw[this]
    exact inv.fits.putN v
   |some d=>
    rw[hdst]at hd
    have:=zio (l.map (·.dst)) 0 vs ρ i d v h5 (by rw[List.getElem?_map,hol];simp[hdst])
    rw[Nat.zero_add]at this
    rw[<- this]
    exact inv.fits.put hd v
  ·intro m hm k hk
   have keep: ∀ {x:Nat},listed.getD x false=true->(listed.setIfInBounds i true).getD x false=true:=by
    intro x hx
    have hne:i≠x:=fun e=>by rw[<- e,hun]at hx;cases hx
    rw[getD_set_ne false hne];exact hx
   by_cases e:i=m
   ·subst e;exact keep (hAl k hk)
   ·rw[getD_set_ne false e]at hm
    exact keep (inv.closed m hm k hk)
  ·intro k hk
   have hki:i≠k:=fun e=>by
    subst e
    have:i<listed.size:=by rw[inv.size];exact hil
    simp[this]at hk
   rw[getD_set_ne false hki]at hk
   rw[zkA hki]
   exact inv.old k hk
  ·intro j hj hal
   have hset: ∀ {x:Nat},i≠x->(listed.setIfInBounds i true).getD x false=listed.getD x false:=fun h=>getD_set_ne false h
   have hi1:(listed.setIfInBounds i true).getD i false=true:=by
    have:i<listed.size:=by rw[inv.size];exact hil
    simp[this]
   by_cases e:i=j
   ·subst e;exact hFi
   ·have hjl:l.length<=j\/listed.getD j false=true:=by
     rcases hj with h |h
     ·exact .inl h
     ·rw[hset e]at h;exact .inr h
    have hdis:zcw (at_ C j) (at_ L i)=true:=by
     cases hb:zcw (at_ C j) (at_ L i)with
     |true=>rfl
     |false=>
      obtain⟨hj1,hj2⟩:=hal i hi1 e hb
      rcases hjl with h |h
      ·omega
      ·have:=inv.closed j h i hj2
       rw[hun]at this
       cases this
    have hold:=inv.alive j hjl fun k hk hkj hdd=>hal k (by
     have hne:i≠k:=fun e=>by rw[<- e,hun]at hk;cases hk
     rw[hset hne];exact hk) hkj hdd
    refine zb9.at_ j hF vs (vs.up i v) W W' (at_ L i) (fun k hk=>?_) hle hdis hold
    have hne:i≠k:=by
     intro e2
     by_cases hjn:j<l.length
     ·have:=List.all_eq_true.1 (List.all_eq_true.1 h2 j (List.mem_range.2 hjn)) k hk
      simp only[Bool.or_eq_true]at this
      rcases this with this |this
      ·exact e (by rw[e2,Nat.eq_of_beq_eq_true this])
      ·rcases hjl with h |h
       ·omega
       ·have:=inv.closed j h k (zbd this)
        rw[<- e2,hun]at this
        cases this
     ·have hz:at_ D j=[]:=by
       unfold at_
       by_cases hjd:j<D.length
       ·have hm:D[j]∈D.drop l.length:=by
         rw[List.mem_iff_getElem?]
         exact⟨j-l.length,by rw[List.getElem?_drop,show l.length+(j-l.length)=j by omega];exact aB hjd⟩
        have:=List.all_eq_true.1 h0 _ hm
        simpa[hjd]using this
       ·simp[Nat.le_of_not_lt hjd]
      rw[hz]at hk
      cases hk
    exact zkA hne
  ·have:=zkD hu l.length
   rw[if_pos hil]at this
   omega
theorem znJ {Fo Fp:List Fact}{n j:Nat}(h:Fo.length=n)(hj:n<=j):fat (Fo++Fp) j=fat Fp (j-n):=by
 subst h
 unfold fat
 simp only[List.getD_eq_getElem?_getD]
 rw[aN hj]
def zi3 (G:Fact->Prop):List Fact->Prop
 | []=>True
 |f::F=>G f/\zi3 G F
theorem zi3.at_ {G:Fact->Prop}(ht:G fun _ _=>True): ∀ {F:List Fact} (j:Nat),zi3 G F->G (fat F j)
 | [],j,_=>by simpa[fat]using ht
 |f::F,0,h=>h.1
 |f::F,j+1,h=>zi3.at_ ht (F:=F) j h.2
theorem zaK.nil {G:Nat->Oper->Prop}{i:Nat}:zaK G [] i:=trivial
theorem zaK.cons {G:Nat->Oper->Prop}{i:Nat}{o:Oper}{l:List Oper}(h:G i o)(t:zaK G l (i+1)):zaK G (o::l) i:=⟨h,t⟩
theorem zb9.nil {Ds Cs:List (List Nat)}:zb9 Ds Cs []:=by cases Ds<;>cases Cs<;>trivial
theorem zb9.cons {D C:List Nat}{Ds Cs:List (List Nat)}{f:Fact}{Fs:List Fact}(h:Sup D C f)(t:zb9 Ds Cs Fs):zb9 (D::Ds) (C::Cs) (f::Fs):=⟨h,t⟩
theorem zi3.nil {G:Fact->Prop}:zi3 G []:=trivial
theorem zi3.cons {G:Fact->Prop}{f:Fact}{F:List Fact}(h:G f)(t:zi3 G F):zi3 G (f::F):=⟨h,t⟩
theorem Ow.upv {α:Type}[Rp α]{W W':CW}{c:Nat}{L:List Nat}{cs:List Value}{x:α}(h:Ow W c [] cs x)(l:Le L W W')(hd:zcw [c] L=true):Ow W' c [] cs x:=by
 obtain⟨S,ho,hn,hb⟩:=h
 have hk: ∀ b∈S,W'.w.heap[b]? =W.w.heap[b]? /\W'.c b=W.c b:=fun b hb'=>l.keep b (hb b hb').1 (by rw[(hb b hb').2];exact zbC hd (by simp))
 exact⟨S,own_mono (A:=AK W []) (fun b hb=>absurd hb.2 (by simp)) (own_keep (fun b hb=>absurd hb.2 (by simp)) (fun b hb'=>(hk b hb').1) ho),hn,fun b hb'=>⟨Nat.lt_of_lt_of_le (hb b hb').1 l.size,by rw[(hk b hb').2];exact(hb b hb').2⟩⟩
theorem SE {C:List Nat}{j:Nat}{V:Value}:Sup [j] C (fun vs _=>vs j=V):=fun vs vs' W W' L hv l hd h=>(hv j (List.mem_singleton.2 rfl)).trans h
theorem SO {α:Type}[Rp α]{c j:Nat}{e:α}:Sup [j] [c] (fun vs W=>Ow W c [] [vs j] e):=fun vs vs' W W' L hv l hd h=>by
 show Ow W' c [] [vs' j] e
 rw[hv j (List.mem_singleton.2 rfl)]
 exact Ow.upv h l hd
theorem Trq {P:Program}{ρ:Env}{W:CW}{op:Op}{ty:Nat}{v:Value}{L:List Nat}{G:Value->CW->Prop}(h:Run P ρ W.w op ty v)(hf:G v W):Tr P ρ W.w op ty fun u w'=> ∃ W',W'.w=w'/\Le L W W'/\G u W':=
 Tr.mono (Run.tr h) (by rintro _ _ ⟨rfl,rfl⟩;exact⟨W,rfl,Le.refl _ _,hf⟩)
theorem Cw.par {id:Nat} (A N L D C:List (List Nat)) (E LA:List Nat) (Fo Fp:List Fact) (hm:P.follows .mixedOrders=true) (hB:zsd l l.length nd A N L D C E LA=true) {W:CW} (hl:Fo.length=l.length)
 (h0:zi3 (fun f=> ∀ vs W',Le [] W W'->f vs W') Fp) (h: ∀ W0,Le [] W W0->zaK (zti P (l.map (·.dst)) ρ W0 A N L (Fo++Fp) LA) l 0/\zb9 D C (Fo++Fp)/\
  ∀ vs W1,Le LA W0 W1->(∀ j∈E,fat (Fo++Fp) j vs W1)->R .normal (ups ρ (l.map (·.dst)) 0 vs) W1.w):Cw P nd (.region id l.toArray true) R ρ W.w:=fun a ha=>by
 let W0:CW:=⟨{W.w with drawn:=W.w.drawn+1},W.c⟩
 have hle:Le [] W W0:=⟨rfl,rfl,rfl,Nat.le_refl _,fun _ _ _=>⟨rfl,rfl⟩⟩
 obtain⟨hS,hF,hQ⟩:=h W0 hle
 have hz: ∀ k,(Array.replicate l.length false).getD k false=false:=fun k=>by
  by_cases hk:k<l.length<;>simp[Array.getD_eq_getD_getElem?,Array.getElem?_replicate,hk]
 have hu: ∀ (n:Nat),n<=l.length->unl (Array.replicate l.length false) n<=n:=by
  intro n
  induction n with
  |zero=>intro _;simp[unl]
  |succ n ih=>
   intro hn
   have:=ih (by omega)
   simp only[unl]
   cases(Array.replicate l.length false).getD n true<;>simp<;>omega
 have inv0:ParInv nd ρ W0 l A L C LA (Fo++Fp) (Array.replicate l.length false) a W0 (zpD ρ (l.map (·.dst))):=by
  refine⟨by simp,?_,Le.refl _ _,fun m hm=>?_,fun k _=>rfl,fun j hj _=>?_⟩
  ·rw[zfu]
   ·exact ha
   ·intro i d h
    rw[Nat.zero_add]
    unfold zpD
    rw[List.getD_eq_getElem?_getD,h]
    rfl
  ·rw[hz]at hm;cases hm
  ·rcases hj with hj |hj
   ·rw[znJ hl hj]
    exact zi3.at_ (G:=fun f=> ∀ vs W',Le [] W W'->f vs W') (fun _ _ _=>trivial) _ h0 _ _ hle
   ·rw[hz]at hj;cases hj
 have key:=znI (P:=P) (R:=R) hB hS hF (fun a vs W hf hle hE=>⟨_,hf,hQ vs W hle hE⟩) l.length (Array.replicate l.length false) a W0 _ inv0 (hu _ (Nat.le_refl _))
 refine wp_mono (wp_region_any hm (Q:=fun e a w=>e = .normal/\zna nd R e a w) ?_) (fun e a w hh=>hh.2)
 have e:l.toArray.size=l.length:=by simp
 rw[e]
 exact key
end
def Sh (α:Type):Type:=α
@[reducible] instance Rp.sh {α:Type} [Rp α]:Rp (Sh α):= {
 sz:=sz α
 ty:=ty α
 lty:=Rp.lty α
 rd w A cs x:=rd (α:=α) w A cs x
 own w A S cs x:=S=[]/\rd (α:=α) w A cs x
 rd_len:=rd_len (α:=α)
 rd_one:=rd_one (α:=α)
 rd_keep:=rd_keep (α:=α)
 rd_mono:=rd_mono (α:=α)
 own_len:=fun h=>rd_len (α:=α) h.2
 own_rd:=fun h _ hA=>rd_mono (α:=α) hA h.2
 own_keep:=fun hA _ h=>⟨h.1,rd_keep (α:=α) hA h.2⟩
 own_mono:=fun hA h=>⟨h.1,rd_mono (α:=α) hA h.2⟩}
instance {α:Type}[Rp α]:Atm (Sh α):=⟨fun h=>⟨rfl,h⟩⟩
instance {α:Type}[Rp α][Zr α]:Zr (Sh α):= {
 z:=(Zr.z:α)
 cs:=Zr.cs α
 own:=⟨rfl,own_rd (α:=α) Zr.own (fun b hb=>by cases hb) (fun b hb=>hb)⟩}
section
variable {α:Type}[Rp α]{W W':CW}{k c:Nat}{K L:List Nat}{v:Value}{xs:List α}{cs:List Value}{x:α}
def zqW (c:Nat)(K:List Nat):List Nat:=K.map fun a=>bif Nat.beq a c then 0 else a
theorem zmh {c a:Nat}{K:List Nat}(h:a∈K):(bif Nat.beq a c then 0 else a)∈zqW c K:=List.mem_map.2 ⟨a,h,rfl⟩
theorem AK.dye {c b:Nat}(h:AK W K b):AK (W.dye c 0) (zqW c K) b:=⟨h.1,by
 have:=zmh (c:=c) h.2
 exact this⟩
theorem Rd.dye (h:Rd W K cs x)(c:Nat):Rd (W.dye c 0) (zqW c K) cs x:=rd_mono (α:=α) (fun b hb=>AK.dye hb) h
theorem At.dye {p:Addr}(h:At W K p x)(c:Nat):At (W.dye c 0) (zqW c K) p x:=⟨AK.dye h.1,let ⟨cs,h1,h2⟩:=h.2;⟨cs,h1,Rd.dye h2 c⟩⟩
end
class Fs (α β:Type) [Rp α] [Rp β] (j:Nat) (get:outParam (α->β)) (set:outParam (α->β->α)):Prop where
 lt:j<sz α
 lens: ∀ {w:World} {A:Nat->Prop} {S:List Nat} {cs:List Value} {x:α},own w A S cs x -> ∃ u T R,cs[j]? =some u/\own w A T [u] (get x)/\S.Perm (T++R)/\
  ∀ {w':World} {T':List Nat} {u':Value} {y:β},(∀ b,A b->w'.heap[b]? =w.heap[b]?)->(∀ b∈R,w'.heap[b]? =w.heap[b]?)->own w' A T' [u'] y -> ∃ S',own w' A S' (cs.set j u') (set x y)/\S'.Perm (T'++R)
section
variable {α β γ:Type}[Rp α][Rp β][Rp γ]
theorem Fs.self (h:sz α=1):Fs α α 0 (fun x=>x) (fun _ y=>y):= {
 lt:=by omega
 lens:=fun {w A S cs x} ho=>by
  have hl:=own_len ho
  rw[h]at hl
  match cs,hl with
  | [u],_=>exact⟨u,S,[],rfl,ho,by simp,fun {w' T' u' y} _ _ h=>⟨T',h,by simp⟩⟩}
theorem Fs.fst (h:sz α=1):Fs (α×β) α 0 (fun x=>x.1) (fun x y=>(y,x.2)):= {
 lt:=by show 0<sz α+sz β;omega
 lens:=fun {w A S cs x} ho=>by
  obtain⟨c,d,S1,S2,rfl,rfl,h1,h2⟩:=ho
  have hl:=own_len h1
  rw[h]at hl
  match c,hl with
  | [u],_=>exact⟨u,S1,S2,rfl,h1,List.Perm.refl _,fun {w' T' u' y} hA hR h=>⟨T'++S2,⟨[u'],d,T',S2,rfl,rfl,h,own_keep hA hR h2⟩,List.Perm.refl _⟩⟩}
theorem Fs.snd {j:Nat}{get:β->γ}{set:β->γ->β}(h:sz α=1)(f:Fs β γ j get set):Fs (α×β) γ (j+1) (fun x=>get x.2) (fun x y=>(x.1,set x.2 y)):= {
 lt:=by have:=f.lt;show j+1<sz α+sz β;omega
 lens:=fun {w A S cs x} ho=>by
  obtain⟨c,d,S1,S2,rfl,rfl,h1,h2⟩:=ho
  have hl:=own_len h1
  rw[h]at hl
  match c,hl with
  | [u0],_=>
   obtain⟨u,T,R,hu,ht,hp,hw⟩:=f.lens h2
   refine⟨u,T,S1++R,by simpa using hu,ht,?_,fun {w' T' u' y} hA hR h=>?_⟩
   ·exact(List.Perm.append_left S1 hp).trans (by
     rw[<- List.append_assoc,<- List.append_assoc]
     exact List.Perm.append_right R List.perm_append_comm)
   ·obtain⟨S',h3,h4⟩:=hw hA (fun b hb=>hR b (aJ _ hb)) h
    refine⟨S1++S',⟨[u0],d.set j u',S1,S',rfl,rfl,own_keep hA (fun b hb=>hR b (List.mem_append_left _ hb)) h1,h3⟩,?_⟩
    exact(List.Perm.append_left S1 h4).trans (by
     rw[<- List.append_assoc,<- List.append_assoc]
     exact List.Perm.append_right R List.perm_append_comm)}
def zmi:Nat->Prop:=fun _=>False
def Hole (W:CW)(c:Nat)(v:Value)(xs:List α)(i jf:Nat)(set:β->α):Prop:=
 ∃ (es:List (List Value)) (Ss:List (List Nat)) (cs:List Value) (A R B:List Nat),
  W.w.ownsRow 0 (ty α) (sz α) v xs.length es.flatten/\es.length=xs.length/\Ss.length=xs.length/\i<xs.length/\es[i]? =some cs/\jf<sz α/\(∀ c∈es,c.length=sz α)/\
  (∀ T',(Ss.set i T').flatten=A++(T'++B))/\(v.ownBlock.toList++(A++(R++B))).Nodup/\(∀ b∈v.ownBlock.toList++(A++(R++B)),b<W.w.heap.size/\W.c b=c)/\
  (∀ (k:Nat) cs x T,k≠i->es[k]? =some cs->xs[k]? =some x->Ss[k]? =some T->own W.w zmi T cs x)/\
  (∀ (w':World) T' u' y,(∀ b∈R,w'.heap[b]? =W.w.heap[b]?)->own w' zmi T' [u'] y -> ∃ S',own w' zmi S' (cs.set jf u') (set y)/\S'.Perm (T'++R))
theorem Hole.ab {Ss:List (List Nat)}{i:Nat}{A B:List Nat}(h: ∀ T',(Ss.set i T').flatten=A++(T'++B)){k:Nat}{T:List Nat}(hk:k≠i)(hT:Ss[k]? =some T){b:Nat}(hb:b∈T):b∈A\/b∈B:=by
 have hfl:b∈(Ss.set i ([]:List Nat)).flatten:=by
  refine List.mem_flatten.2 ⟨T,?_,hb⟩
  have:(Ss.set i ([]:List Nat))[k]? =some T:=by rw[List.getElem?_set_ne (Ne.symm hk)];exact hT
  exact aH this
 rw[h,List.nil_append]at hfl
 exact List.mem_append.1 hfl
theorem Hole.up {W W':CW}{c:Nat}{v:Value}{xs:List α}{i jf:Nat}{set:β->α}{L:List Nat}(h:Hole W c v xs i jf set)(l:Le L W W')(hd:zcw [c] L=true:=by rfl):Hole W' c v xs i jf set:=by
 obtain⟨es,Ss,cs,A,R,B,h1,h2,h3,h4,h5,h6,h7,h8,h9,h10,h11,h12⟩:=h
 have hq: ∀ b∈v.ownBlock.toList++(A++(R++B)),W'.w.heap[b]? =W.w.heap[b]? /\W'.c b=W.c b:=fun b hb=>l.keep b (h10 b hb).1 (by rw[(h10 b hb).2];exact zbC hd (by simp))
 refine⟨es,Ss,cs,A,R,B,?_,h2,h3,h4,h5,h6,h7,h8,h9,fun b hb=>⟨Nat.lt_of_lt_of_le (h10 b hb).1 l.size,by rw[(hq b hb).2];exact(h10 b hb).2⟩,fun k cs x T hk e1 e2 e3=>?_,fun w' T' u' y hR ho=>h12 w' T' u' y (fun b hb=>by rw[hR b hb];exact(hq b (by simp[hb])).1) ho⟩
 ·refine⟨h1.1,?_⟩
  rcases h1.2 with hn |⟨g,cap,cur,rfl,hb,hg,rest⟩
  ·exact .inl hn
  ·exact .inr ⟨g,cap,cur,rfl,hb,by rw[(hq g (by simp[Value.ownBlock])).1];exact hg,rest⟩
 ·refine own_keep (fun b hb=>hb.elim) (fun b hb=>?_) (h11 k cs x T hk e1 e2 e3)
  rcases Hole.ab h8 hk e3 hb with hm |hm<;>exact(hq b (by simp[hm])).1
theorem Ow.take {W:CW}{c j jf:Nat}{v uv:Value}{xs:List α}{x:α}{i:Int}{get:α->β}{set:α->β->α}[f:Fs α β jf get set](h:Ow W c [] [v] xs)(hx:gi xs i=some x)(hcell:W.w.cell? (((slA v).add (i.toNat*sz α)).add jf)=some uv)(hj:Nat.beq j c=false):
 ∃ W1,W1.w=W.w/\Le [c] W W1/\Ow W1 j [] [uv] (get x)/\Hole W1 c v xs i.toNat jf (set x):=by
 obtain⟨S,⟨v0,es,Ss,e0,ho⟩,hnS,hbS⟩:=h
 simp only[List.cons.injEq,and_true]at e0
 subst e0
 obtain⟨h0,hxi,hil⟩:=zgR hx
 have l1:i.toNat<es.length:=by rw[ho.elen];exact hil
 have l2:i.toNat<Ss.length:=by rw[ho.slen];exact hil
 have hel:=ho.at_ i.toNat _ x _ (aB l1) hxi (aB l2)
 have hel':own W.w zmi Ss[i.toNat] es[i.toNat] x:=own_mono (fun b hb=>absurd hb.2 (by simp)) hel
 obtain⟨u,T,R,hu,ht,hp,hw⟩:=f.lens hel'
 have huv:uv=u:=by
  rcases ho.row.2 with ⟨rfl,hn⟩ |⟨g,cap,cur,rfl,hb,hg,rest⟩
  ·omega
  ·have h1:=ho.row.cells (g:=g) rfl _ u (zdA (sz α) es i.toNat _ ho.len (aB l1) jf u hu)
   rw[zex]at hcell
   rw[show(slA (.slice (some ⟨g,0,none⟩) xs.length cap))=⟨g,0,none⟩ from rfl]at hcell
   rw[h1]at hcell
   exact(Option.some.inj hcell).symm
 subst huv
 have hne:j≠c:=fun e=>by rw[e,Nat.beq_refl]at hj;cases hj
 obtain⟨A,B,hf1,hf2⟩:=zi0 Ss i.toNat _ (aB l2)
 have hSp:S.Perm (T++(v.ownBlock.toList++(A++(R++B)))):=by
  rw[ho.S,hf1]
  exact zmg _ _ _ _ _ hp
 have hTQ:=hSp.nodup_iff.1 hnS
 rw[List.nodup_append]at hTQ
 obtain⟨hT,hQ,hTQ⟩:=hTQ
 have hTb: ∀ b∈T,b<W.w.heap.size/\W.c b=c:=fun b hb=>hbS b (hSp.mem_iff.2 (List.mem_append_left _ hb))
 let W1:CW:=⟨W.w,fun b=>if b∈T then j else W.c b⟩
 refine⟨W1,rfl,⟨rfl,rfl,rfl,Nat.le_refl _,fun b hb hc=>⟨rfl,if_neg fun hm=>hc (by simp[(hTb b hm).2])⟩⟩,⟨T,own_mono (fun b hb=>hb.elim) ht,hT,fun b hb=>⟨(hTb b hb).1,if_pos hb⟩⟩,
  es,Ss,es[i.toNat],A,R,B,ho.row,ho.elen,ho.slen,hil,aB l1,f.lt,ho.len,hf2,hQ,fun b hb=>?_,fun k cs x T hk e1 e2 e3=>own_mono (fun b hb=>absurd hb.2 (by simp)) (ho.at_ k cs x T e1 e2 e3),fun w' T' u' y hR ho'=>hw (fun b hb=>hb.elim) hR ho'⟩
 have hb':=hbS b (hSp.mem_iff.2 (aJ _ hb))
 exact⟨hb'.1,by show(if b∈T then j else W.c b)=c;rw[if_neg fun hm=>hTQ b hm b hb rfl];exact hb'.2⟩
end
set_option linter.unusedSectionVars false
section
variable {α:Type}[Rp α]{W Wf:CW}{K J:List Nat}{cs:List Value}{x:α}{xs:List α}{v:Value}{f:Nat->Nat}{n k:Nat}
end
section
variable {P:Program}{ρ:Env}{w:World}{ty:TypeId}
theorem R.max {x y:Operand}{t t':TypeId}{a b:Int}(hx:ev ρ x=vI a)(hy:ev ρ y=vI b):Run P ρ w (.call ⟨.builtin .max,#[x,y],#[t,t']⟩) ty (vI (znL a b)):=fun o h1 _=>by
 simp only[execOp,h1,resolve,invoke,builtin,Sem.run_bind,Sem.run_pure,Result.andThen_ok,List.map_toArray,List.map_cons,List.map_nil,hx,hy]
 unfold znL
 by_cases h:a<b
 ·simp[Builtin.max_,Builtin.max2,h]
 ·simp[Builtin.max_,Builtin.max2,h]
theorem R.min {x y:Operand}{t t':TypeId}{a b:Int}(hx:ev ρ x=vI a)(hy:ev ρ y=vI b):Run P ρ w (.call ⟨.builtin .min,#[x,y],#[t,t']⟩) ty (vI (ztj a b)):=fun o h1 _=>by
 simp only[execOp,h1,resolve,invoke,builtin,Sem.run_bind,Sem.run_pure,Result.andThen_ok,List.map_toArray,List.map_cons,List.map_nil,hx,hy]
 unfold ztj
 by_cases h:b<a
 ·simp[Builtin.min_,Builtin.min2,h]
 ·simp[Builtin.min_,Builtin.min2,h]
end
section
variable {P:Program}{ρ:Env}{w:World}{l:List ResultVar}{vs:List Value}
theorem zey.n:zey P w ρ [] []:=trivial
theorem zey.t {t:Nat}{v:Value}(h:ρ t=v)(k:zey P w ρ l vs):zey P w ρ (.tmp t::l) (v::vs):=⟨h.symm,k⟩
theorem zey.c {W:CW}{q t s b k g:Nat}{z:Value}{cs:List Value}{fs:Array Field}[Und P t (.struct fs)][Inf P t s b z](h:ρ q=ptr (bx g))(hB:Bx W k g cs)(hk:zey P W.w ρ l vs)(hs:s=cs.length:=by rfl):zey P W.w ρ (.cell q t::l) (.agg cs.toArray::vs):=⟨⟨_,h,hB.loadA hs⟩,hk⟩
end
def Gl (g:Nat)[Rp Int](W:CW)(K:List Nat):Prop:= ∃ m:Int,At W K ⟨g,0,none⟩ m
section
variable {g:Nat}[Rp Int]{W W':CW}{K L M:List Nat}
theorem Gl.up (h:Gl g W K)(l:Le L W W')(hd:zcw K L=true:=by rfl):Gl g W' K:=let ⟨m,hm⟩:=h;⟨m,hm.up l hd⟩
theorem Gl.ul (h:Gl g W [0])(l:Le LL W W'):Gl g W' [0]:=h.up l rfl
theorem Gl.sub (h:Gl g W K)(hs:zgN K M=true):Gl g W M:=let ⟨m,⟨h1,h2⟩,cs,h3,h4⟩:=h;⟨m,⟨h1,zc9 hs h2⟩,cs,h3,h4.sub hs⟩
theorem Gl.view (h:Gl g W K)(J:List Nat):Gl g (W.view K J) [0]:=let ⟨m,hm⟩:=h;⟨m,hm.view J⟩
end
section
variable {A B C:CW}{L:List Nat}
theorem Le.t (a:Le LL A B)(l:Le L B C)(h:zgN L LL=true:=by rfl):Le LL A C:=a.trans (l.sub h)
theorem Le.n (a:Le LL A B)(l:Le [] B C):Le LL A C:=a.trans l.nil
theorem Le.s (l:Le L A B)(h:zgN L LL=true:=by rfl):Le LL A B:=l.sub h
theorem Le.o (l:Le [] A B):Le LL A B:=l.nil
end
def ev1 (n d:Nat)(ρ:Env)(x:Operand):Option Value:=bif Nat.blt d n then some (ev ρ x) else none
def ev2 (n d:Nat)(ρ:Env)(x y:Operand):Option (Value×Value):=bif Nat.blt d n then some (ev ρ x,ev ρ y) else none
section
variable {P:Program}{n d:Nat}{ρ:Env}{w:World}{ops:Array Oper}{rest:List Oper}{Q:Env->World->Prop}{ty:TypeId}{pos:String}{af:Array Edge}{x y c:Operand}{v v':Value}{t t':TypeId}{k:IntKind}{a b:Int}
theorem zcp (h:ev1 n d ρ x=some v):Nat.blt d n=true/\ev ρ x=v:=by
 unfold ev1 at h
 cases hd:Nat.blt d n with
 |false=>rw[hd]at h;cases h
 |true=>rw[hd]at h;exact⟨rfl,Option.some.inj h⟩
theorem zaP (h:ev2 n d ρ x y=some (v,v')):Nat.blt d n=true/\ev ρ x=v/\ev ρ y=v':=by
 unfold ev2 at h
 cases hd:Nat.blt d n with
 |false=>rw[hd]at h;cases h
 |true=>rw[hd]at h;have:=Option.some.inj h;exact⟨rfl,congrArg Prod.fst this,congrArg Prod.snd this⟩
theorem Lw.m (v:Value)(e:ev1 n d ρ x=some v)(h:Lw P n ops rest Q (ρ.up d v) w):Lw P n ops (⟨some d, .move x,ty,pos,af,none⟩::rest) Q ρ w:=
 Lw.r (zcp e).1 (R.mv (zcp e).2) h
theorem Lw.g (v:Value)(e:ev1 n d ρ x=some v)(h:Lw P n ops rest Q (ρ.up d v) w):Lw P n ops (⟨some d, .assign x,ty,pos,af,none⟩::rest) Q ρ w:=
 Lw.r (zcp e).1 (R.as (zcp e).2) h
theorem Lw.p {q b:Bool}(hq:q=b)(v:Value)(e:ev2 n d ρ c (bif b then x else y)=some (.bool q,v))(h:Lw P n ops rest Q (ρ.up d v) w):Lw P n ops (⟨some d, .pick c x y,ty,pos,af,none⟩::rest) Q ρ w:=
 Lw.r (zaP e).1 (R.pk hq (zaP e).2.1 (zaP e).2.2) h
theorem Lw.add (e:ev2 n d ρ x y=some (.int k a, .int k b))(h:Lw P n ops rest Q (ρ.up d (.int k (k.wrap (a+b)))) w):Lw P n ops (⟨some d, .binOp .add t x y t',ty,pos,af,none⟩::rest) Q ρ w:=
 Lw.r (zaP e).1 (R.add (zaP e).2.1 (zaP e).2.2) h
theorem Lw.sub (e:ev2 n d ρ x y=some (.int k a, .int k b))(h:Lw P n ops rest Q (ρ.up d (.int k (k.wrap (a-b)))) w):Lw P n ops (⟨some d, .binOp .sub t x y t',ty,pos,af,none⟩::rest) Q ρ w:=
 Lw.r (zaP e).1 (R.sub (zaP e).2.1 (zaP e).2.2) h
theorem Lw.eq (e:ev2 n d ρ x y=some (.int k a, .int k b))(h:Lw P n ops rest Q (ρ.up d (.bool (a==b))) w):Lw P n ops (⟨some d, .binOp .eql t x y t',ty,pos,af,none⟩::rest) Q ρ w:=
 Lw.r (zaP e).1 (R.eq (zaP e).2.1 (zaP e).2.2) h
theorem Lw.ne (e:ev2 n d ρ x y=some (.int k a, .int k b))(h:Lw P n ops rest Q (ρ.up d (.bool (a !=b))) w):Lw P n ops (⟨some d, .binOp .neq t x y t',ty,pos,af,none⟩::rest) Q ρ w:=
 Lw.r (zaP e).1 (R.ne (zaP e).2.1 (zaP e).2.2) h
theorem Lw.lt (e:ev2 n d ρ x y=some (.int k a, .int k b))(h:Lw P n ops rest Q (ρ.up d (.bool (decide (a<b)))) w):Lw P n ops (⟨some d, .binOp .lss t x y t',ty,pos,af,none⟩::rest) Q ρ w:=
 Lw.r (zaP e).1 (R.lt (zaP e).2.1 (zaP e).2.2) h
theorem Lw.le (e:ev2 n d ρ x y=some (.int k a, .int k b))(h:Lw P n ops rest Q (ρ.up d (.bool (decide (a<=b)))) w):Lw P n ops (⟨some d, .binOp .leq t x y t',ty,pos,af,none⟩::rest) Q ρ w:=
 Lw.r (zaP e).1 (R.le (zaP e).2.1 (zaP e).2.2) h
theorem Lw.gt (e:ev2 n d ρ x y=some (.int k a, .int k b))(h:Lw P n ops rest Q (ρ.up d (.bool (decide (b<a)))) w):Lw P n ops (⟨some d, .binOp .gtr t x y t',ty,pos,af,none⟩::rest) Q ρ w:=
 Lw.r (zaP e).1 (R.gt (zaP e).2.1 (zaP e).2.2) h
theorem Lw.ge (e:ev2 n d ρ x y=some (.int k a, .int k b))(h:Lw P n ops rest Q (ρ.up d (.bool (decide (b<=a)))) w):Lw P n ops (⟨some d, .binOp .geq t x y t',ty,pos,af,none⟩::rest) Q ρ w:=
 Lw.r (zaP e).1 (R.ge (zaP e).2.1 (zaP e).2.2) h
theorem Lw.seq {s r:Str}(e:ev2 n d ρ x y=some (vS s,vS r))(h:Lw P n ops rest Q (ρ.up d (.bool (s==r))) w):Lw P n ops (⟨some d, .binOp .eql t x y t',ty,pos,af,none⟩::rest) Q ρ w:=
 Lw.r (zaP e).1 (R.seq (zaP e).2.1 (zaP e).2.2) h
theorem Lw.sne {s r:Str}(e:ev2 n d ρ x y=some (vS s,vS r))(h:Lw P n ops rest Q (ρ.up d (.bool (s !=r))) w):Lw P n ops (⟨some d, .binOp .neq t x y t',ty,pos,af,none⟩::rest) Q ρ w:=
 Lw.r (zaP e).1 (R.sne (zaP e).2.1 (zaP e).2.2) h
theorem Lw.fa {s f off:Nat}[hF:Fld P s f off]{p:Addr}(e:ev1 n d ρ x=some (.pointer (some p)))(h:Lw P n ops rest Q (ρ.up d (.pointer (some (p.add off)))) w):Lw P n ops (⟨some d, .fieldAddr s x f,ty,pos,af,none⟩::rest) Q ρ w:=
 Lw.r (zcp e).1 (R.fa (zcp e).2) h
theorem Lw.ln {α:Type}[Rp α]{e':TypeId}[hU:Und P t (.slice e')]{W:CW}{K:List Nat}(xs:List α)(hr:Rd W K [v] xs)(e:ev1 n d ρ x=some v)(h:Lw P n ops rest Q (ρ.up d (vI xs.length)) W.w):Lw P n ops (⟨some d, .call ⟨.builtin .len,#[x],#[t]⟩,ty,pos,af,none⟩::rest) Q ρ W.w:=
 Lw.r (zcp e).1 (zth hr (zcp e).2) h
end
theorem zbv.u {lo hi:Nat}{vs:List Nat}{ρ ρ':Env}{d:Nat}{v:Value}(h:zbv lo hi vs ρ ρ')(hd:inR lo hi vs d=true:=by rfl):zbv lo hi vs (ρ.up d v) ρ':=zbv.up hd h
def gdO (ops:Array Oper)(n:Nat)(ρ:Env)(g:Option (Nat×Bool))(dst:Option Nat):Option (Nat×Value×Bool):=
 match g,dst with
 |some (j,b),some d=>match (ops[j]?).bind (·.dst)with
  |some t=>bif Nat.blt d n&&Nat.blt t n then some (d,ρ t,b) else none
  |none=>none
 |_,_=>none
theorem zi4 {ops:Array Oper}{n:Nat}{ρ:Env}{g:Option (Nat×Bool)}{dst:Option Nat}{d:Nat}{v:Value}{b:Bool}(h:gdO ops n ρ g dst=some (d,v,b)):
 ∃ j t,g=some (j,b)/\dst=some d/\Nat.blt d n=true/\(ops[j]?).bind (·.dst)=some t/\Nat.blt t n=true/\ev ρ (.tmp t)=v:=by
 unfold gdO at h
 split at h
 ·rename_i j b' d'
  split at h
  ·rename_i t ht
   cases hb:(Nat.blt d' n&&Nat.blt t n)with
   |false=>rw[hb]at h;cases h
   |true=>
    rw[hb]at h
    simp only[aG]at hb
    cases h
    exact⟨j,t,rfl,rfl,hb.1,ht,hb.2,rfl⟩
  ·cases h
 ·cases h
section
variable {P:Program}{n d i k:Nat}{ρ:Env}{w:World}{ops:Array Oper}{rest:List Oper}{Q:Env->World->Prop}{C:World->Prop}{π:List (Nat×Nat)}{b c q:Bool}{o:Oper}{op:Op}{ty:TypeId}{pos:String}{af:Array Edge}{g:Option (Nat×Bool)}{dst:Option Nat}
theorem Lw.ps (hq:q=c)(e:gdO ops n ρ o.guard o.dst=some (d, .bool q,!c))(h:Lw P n ops rest Q (ρ.up d undef) w):Lw P n ops (o::rest) Q ρ w:=by
 obtain⟨j,t,h1,h2,h3,h4,h5,h6⟩:=zi4 e
 exact Lw.pass' hq h1 h2 h3 h4 h5 h6 (by cases c<;>rfl) h
theorem Lw.pu (e:gdO ops n ρ o.guard o.dst=some (d,undef,b))(h:Lw P n ops rest Q (ρ.up d undef) w):Lw P n ops (o::rest) Q ρ w:=by
 obtain⟨j,t,h1,h2,h3,h4,h5,h6⟩:=zi4 e
 exact Lw.passU h1 h2 h3 h4 h5 h6 h
theorem Mw.ps (hq:q=c)(hi:ops[i]? =some ⟨dst,op,ty,pos,af,g⟩)(e:gdO ops n ρ g dst=some (d, .bool q,!c))(h:Mw P n ops C π Q (ρ.up d undef) w):Mw P n ops C ((i,k)::π) Q ρ w:=by
 obtain⟨j,t,rfl,rfl,h3,h4,h5,h6⟩:=zi4 e
 exact Mw.pass' hq hi h3 h4 h5 h6 (by cases c<;>rfl) h
theorem Mw.pu (hi:ops[i]? =some ⟨dst,op,ty,pos,af,g⟩)(e:gdO ops n ρ g dst=some (d,undef,b))(h:Mw P n ops C π Q (ρ.up d undef) w):Mw P n ops C ((i,k)::π) Q ρ w:=by
 obtain⟨j,t,rfl,rfl,h3,h4,h5,h6⟩:=zi4 e
 exact Mw.passU hi h3 h4 h5 h6 h
end
section
variable {P:Program}{n id:Nat}{Q R:Post}{ρ:Env}{w:World}{x y z:Code}{l:List Oper}
theorem rg (h:Lw P n l.toArray l (fun ρ w=>R .normal ρ w) ρ w):Cw P n (.region id l.toArray false) R ρ w:=Cw.region h
theorem sr (h:Lw P n l.toArray l (Cw P n y Q) ρ w):Cw P n (.seq (.region id l.toArray false) y) Q ρ w:=Cw.seq (Cw.region h)
theorem ssr (h:Lw P n l.toArray l (Cw P n y (Post.seq (Cw P n z Q) Q)) ρ w):Cw P n (.seq (.seq (.region id l.toArray false) y) z) Q ρ w:=Cw.seq (sr h)
theorem sk (h:Q .normal ρ w):Cw P n .skip Q ρ w:=Cw.skip h
variable {α:Type}{A B:Option α}{r:α}{b:Bool}{c:Operand}
theorem cn (hm:(bif b then A else B)=some r)(ht:A=some r->Cw P n x Q ρ w)(hf:B=some r->Cw P n y Q ρ w)(hc:ev ρ c = .bool b:=by rfl):Cw P n (.cond c x y) Q ρ w:=
 Cw.cond hc (fun h=>ht (bt hm h)) (fun h=>hf (bf hm h))
theorem bs {p:Prop}(hm:(bif b then A else B)=some r)(ht:b=true->A=some r->p)(hf:b=false->B=some r->p):p:=
 zpB b (fun h=>ht h (bt hm h)) (fun h=>hf h (bf hm h))
end
section
variable {P:Program}{n d:Nat}{ρ:Env}{w:World}{ops:Array Oper}{rest:List Oper}{Q:Env->World->Prop}{ty:TypeId}{pos:String}{af:Array Edge}{x y c:Operand}{v:Value}{k:IntKind}{a:Int}{b q:Bool}{s:Str}{p:Addr}
theorem mi (e:ev1 n d ρ x=some (.int k a))(h:Lw P n ops rest Q (ρ.up d (.int k a)) w):Lw P n ops (⟨some d, .move x,ty,pos,af,none⟩::rest) Q ρ w:=Lw.m _ e h
theorem mb (e:ev1 n d ρ x=some (vB b))(h:Lw P n ops rest Q (ρ.up d (vB b)) w):Lw P n ops (⟨some d, .move x,ty,pos,af,none⟩::rest) Q ρ w:=Lw.m _ e h
theorem ms (e:ev1 n d ρ x=some (vS s))(h:Lw P n ops rest Q (ρ.up d (vS s)) w):Lw P n ops (⟨some d, .move x,ty,pos,af,none⟩::rest) Q ρ w:=Lw.m _ e h
theorem mv (v:Value)(e:ev1 n d ρ x=some v)(h:Lw P n ops rest Q (ρ.up d v) w):Lw P n ops (⟨some d, .move x,ty,pos,af,none⟩::rest) Q ρ w:=Lw.m v e h
theorem Ni (e:ev1 n d ρ x=some (.int k a))(h:Q (ρ.up d (.int k a)) w):Lw P n ops [⟨some d, .assign x,ty,pos,af,none⟩] Q ρ w:=Lw.g _ e (Lw.nil h)
theorem Nb (e:ev1 n d ρ x=some (vB b))(h:Q (ρ.up d (vB b)) w):Lw P n ops [⟨some d, .assign x,ty,pos,af,none⟩] Q ρ w:=Lw.g _ e (Lw.nil h)
theorem Ns (e:ev1 n d ρ x=some (vS s))(h:Q (ρ.up d (vS s)) w):Lw P n ops [⟨some d, .assign x,ty,pos,af,none⟩] Q ρ w:=Lw.g _ e (Lw.nil h)
theorem Nv (v:Value)(e:ev1 n d ρ x=some v)(h:Q (ρ.up d v) w):Lw P n ops [⟨some d, .assign x,ty,pos,af,none⟩] Q ρ w:=Lw.g v e (Lw.nil h)
theorem nl (h:Q ρ w):Lw P n ops [] Q ρ w:=Lw.nil h
theorem Pb (hq:q=b){o:Bool}(e:ev2 n d ρ c (bif b then x else y)=some (.bool q,vB o))(h:Lw P n ops rest Q (ρ.up d (vB o)) w):Lw P n ops (⟨some d, .pick c x y,ty,pos,af,none⟩::rest) Q ρ w:=Lw.p hq _ e h
end
section
variable {lo hi:Nat}{vs:List Nat}{ρ ρ':Env}
theorem ag (ha:zbv lo hi vs ρ ρ':=by repeat (first |with_reducible exact zbv.refl _ |with_reducible exact zbv.base |refine zbv.ov0 rfl ?_ |refine zbv.u ?_)){J:Prop}(hJ:J):zbv lo hi vs ρ ρ'/\J:=⟨ha,hJ⟩
theorem agm (ha:zbv lo hi vs ρ ρ':=by repeat (first |with_reducible exact zbv.refl _ |with_reducible exact zbv.base |refine zbv.ov0 rfl ?_ |refine zbv.u ?_)){m:Nat}{I:Nat->Prop}(h:I m):zbv lo hi vs ρ ρ' /\ ∃ m',m'<m+1/\I m':=⟨ha,m,Nat.lt_succ_self m,h⟩
end
section
variable {A B C:CW}{L M:List Nat}
theorem Le.j (l:Le L A B)(k:Le M B C):Le (L++M) A C:=(l.sub (by
 unfold zgN;rw[List.all_eq_true];intro a ha;rw[List.any_eq_true];exact⟨a,List.mem_append_left _ ha,Nat.beq_refl a⟩)).trans (k.sub (by
 unfold zgN;rw[List.all_eq_true];intro a ha;rw[List.any_eq_true];exact⟨a,aJ _ ha,Nat.beq_refl a⟩))
theorem Le.w (l:Le L A B)(h:zgN L M=true:=by rfl):Le M A B:=l.sub h
end
section
variable {P:Program}{n d d2 i k g j off s f:Nat}{ρ:Env}{W:CW}{ops:Array Oper}{rest:List Oper}{Q:Env->World->Prop}{ty ty2 t:TypeId}{pos pos2:String}{af af2:Array Edge}{x y:Operand}{v:Value}{cs:List Value}{d0:TypeDesc}{fs:Array Field}
theorem lb [hU:Und P t d0](B:Bx W k g cs)(e:ev1 n d ρ x=some (ptr ((bx g).add j)))(hv:cs[j]? =some v)(h:Lw P n ops rest Q (ρ.up d v) W.w)(hd:znb d0=true:=by rfl):Lw P n ops (⟨some d, .load t x,ty,pos,af,none⟩::rest) Q ρ W.w:=
 Lw.r (zcp e).1 (R.ld hd (zcp e).2 (B.cell hv)) h
theorem fl [hF:Fld P s f off] [hU:Und P t d0] (B:Bx W k g cs) (hv:cs[off]? =some v) (h:Lw P n ops rest Q ((ρ.up d (ptr ((bx g).add off))).up d2 v) W.w) (e:ev1 n d ρ x=some (ptr (bx g)):=by rfl)
 (e2:ev1 n d2 (ρ.up d (ptr ((bx g).add off))) y=some (ptr ((bx g).add off)):=by rfl) (hd:znb d0=true:=by rfl):
 Lw P n ops (⟨some d, .fieldAddr s x f,ty,pos,af,none⟩::⟨some d2, .load t y,ty2,pos2,af2,none⟩::rest) Q ρ W.w:=
 Lw.fa e (Lw.r (zcp e2).1 (R.ld hd (zcp e2).2 (B.cell hv)) h)
theorem la {b:Nat}{z:Value}[hU:Und P t (.struct fs)][hI:Inf P t s b z](B:Bx W k g cs)(h:Lw P n ops rest Q (ρ.up d (.agg cs.toArray)) W.w)(e:ev1 n d ρ x=some (ptr (bx g)):=by rfl)(hl:cs.length=s:=by rfl):Lw P n ops (⟨some d, .load t x,ty,pos,af,none⟩::rest) Q ρ W.w:=
 Lw.r (zcp e).1 (R.lda B.cells hl (zcp e).2) h
theorem bo (c:Nat)(e:ev1 n d ρ x=some (.agg cs.toArray))(h: ∀ g W',Le [] W W'->Bx W' c g cs->Lw P n ops rest Q (ρ.up d (ptr (bx g))) W'.w):Lw P n ops (⟨some d, .box t x,ty,pos,af,none⟩::rest) Q ρ W.w:=
 Lw.t (zcp e).1 (T.box c (zcp e).2 rfl) fun v w' ⟨g,W',hw,hv,l,b⟩=>by subst hw;subst hv;exact h g W' l b
theorem al {b:Nat}{z:Value}[hI:Inf P t s b z](c:Nat)(cs:List Value)(h: ∀ g W',Le [] W W'->Bx W' c g cs->Lw P n ops rest Q (ρ.up d (ptr (bx g))) W'.w)(hd:Nat.blt d n=true:=by rfl)(hc:z.cells=cs.toArray:=by rfl):Lw P n ops (⟨some d, .alloc t,ty,pos,af,none⟩::rest) Q ρ W.w:=
 Lw.t hd (T.alloc c hc) fun v w' ⟨g,W',hw,hv,l,b⟩=>by subst hw;subst hv;exact h g W' l b
theorem sta {b:Nat}{z:Value}{vs:List Value}[hI:Inf P t s b z](B:Bx W k g cs)(hv: ∀ v∈vs,v.oneCell'=true)(h: ∀ W',Le [k] W W'->Bx W' k g vs->Lw P n ops rest Q ρ W'.w)(hp:ev ρ x=ptr (bx g):=by rfl)(hy:ev ρ y = .agg vs.toArray:=by rfl)(hs:s=vs.length:=by rfl)(hl:vs.length=cs.length:=by rfl):
 Lw P n ops (⟨none, .store t x y,ty,pos,af,none⟩::rest) Q ρ W.w:=
 Lw.u (T.sta B hs hl hv hp hy) fun v w' ⟨W',hw,l,b⟩=>by subst hw;exact h W' l b
end
section
variable {P:Program}{n d f:Nat}{ρ:Env}{W:CW}{ops:Array Oper}{rest:List Oper}{Q:Env->World->Prop}{ty:TypeId}{pos:String}{af:Array Edge}{args:Array Operand}{tys:Array TypeId}{vals:List Value}{L:List Nat}{α β:Type}{o:Option β}{F:β->Option α}{r:α}
theorem ca {g:β->Value} [hF:Fun P f] (hm:o.bind F=some r) (hc: ∀ z,o=some z->zax P f vals.toArray W.w (Res W L fun _ v=>v=g z)) (h: ∀ z W',F z=some r->Le L W W'->Lw P n ops rest Q (ρ.up d (g z)) W'.w)
 (ha:args.toList.map (ev ρ)=vals:=by exact rfl) (hd:Nat.blt d n=true:=by rfl):Lw P n ops (⟨some d, .call ⟨.value (.func f),args,tys⟩,ty,pos,af,none⟩::rest) Q ρ W.w:=by
 obtain⟨z,e,hm⟩:=ob hm
 refine Lw.t hd (T.call ha (hc z e)) fun v w' ⟨W',hw,l,hv⟩=>?_
 subst hw;subst hv
 exact h z W' hm l
theorem cr {R:β->CW->Value->Prop} [hF:Fun P f] (hm:o.bind F=some r) (hc: ∀ z,o=some z->zax P f vals.toArray W.w (Res W L (R z))) (h: ∀ z v W',F z=some r->Le L W W'->R z W' v->Lw P n ops rest Q (ρ.up d v) W'.w)
 (ha:args.toList.map (ev ρ)=vals:=by exact rfl) (hd:Nat.blt d n=true:=by rfl):Lw P n ops (⟨some d, .call ⟨.value (.func f),args,tys⟩,ty,pos,af,none⟩::rest) Q ρ W.w:=by
 obtain⟨z,e,hm⟩:=ob hm
 refine Lw.t hd (T.call ha (hc z e)) fun v w' ⟨W',hw,l,hv⟩=>?_
 subst hw
 exact h z v W' hm l hv
end
section
variable {P:Program}{ρ:Env}{V W:CW}{α:Type}{x r:α}{g:α->Value}{t:Nat}
theorem rt (hm:some x=some r)(a:Le LL V W)(e:ρ t=g x:=by rfl):zqV P [.tmp t] (Res V LL fun _ v=>v=g r) .ret ρ W.w:=by
 cases hm
 exact zpA e (Res.mk a rfl)
end
def psG:Nat->List Oper->Env->List Oper×Env
 |k+1,⟨some d,_,_,_,_,_⟩::l,ρ=>psG k l (ρ.up d undef)
 |_,l,ρ=>(l,ρ)
def gdV (ops:Array Oper)(n:Nat)(ρ:Env)(j d:Nat)(b:Bool):Option (Value×Bool):=match (ops[j]?).bind (·.dst)with
 |some t=>bif Nat.blt d n&&Nat.blt t n then some (ρ t,b) else none
 |none=>none
def psP (ops:Array Oper)(n:Nat)(q c:Bool):Nat->List Oper->Env->Prop
 |k+1,⟨some d,_,_,_,_,some (j,b)⟩::l,ρ=>gdV ops n ρ j d b=some (.bool q,!c)/\psP ops n q c k l (ρ.up d undef)
 |0,_,_=>True
 |_,_,_=>False
def puP (ops:Array Oper)(n:Nat):Nat->List Oper->Env->Prop
 |k+1,⟨some d,_,_,_,_,some (j,b)⟩::l,ρ=>gdV ops n ρ j d b=some (undef,b)/\puP ops n k l (ρ.up d undef)
 |0,_,_=>True
 |_,_,_=>False
section
variable {P:Program}{n d i k:Nat}{ρ ρ':Env}{w:World}{ops:Array Oper}{l l':List Oper}{Q:Env->World->Prop}{c q b:Bool}
theorem znf {j:Nat}{v:Value}{b':Bool}(h:gdV ops n ρ j d b=some (v,b')):gdO ops n ρ (some (j,b)) (some d)=some (d,v,b'):=by
 unfold gdV at h
 unfold gdO
 split at h
 ·rename_i t ht
  simp only[ht]
  cases hb:(Nat.blt d n&&Nat.blt t n)with
  |false=>rw[hb]at h;cases h
  |true=>rw[hb]at h;cases h;rfl
 ·cases h
theorem zkE (hq:q=c): ∀ (k:Nat) (l:List Oper) (ρ:Env),psP ops n q c k l ρ->Lw P n ops (psG k l ρ).1 Q (psG k l ρ).2 w->Lw P n ops l Q ρ w
 |0,l,ρ,_,h=>by cases l<;>exact h
 |k+1,[],ρ,e,_=>e.elim
 |k+1,⟨none,_,_,_,_,_⟩::l,ρ,e,_=>e.elim
 |k+1,⟨some d,_,_,_,_,none⟩::l,ρ,e,_=>e.elim
 |k+1,⟨some d,op,ty,pos,af,some (j,b)⟩::l,ρ,e,h=>Lw.ps hq (znf e.1) (zkE hq k l _ e.2 h)
theorem zkF: ∀ (k:Nat) (l:List Oper) (ρ:Env),puP ops n k l ρ->Lw P n ops (psG k l ρ).1 Q (psG k l ρ).2 w->Lw P n ops l Q ρ w
 |0,l,ρ,_,h=>by cases l<;>exact h
 |k+1,[],ρ,e,_=>e.elim
 |k+1,⟨none,_,_,_,_,_⟩::l,ρ,e,_=>e.elim
 |k+1,⟨some d,_,_,_,_,none⟩::l,ρ,e,_=>e.elim
 |k+1,⟨some d,op,ty,pos,af,some (j,b)⟩::l,ρ,e,h=>Lw.pu (znf e.1) (zkF k l _ e.2 h)
theorem psk (k:Nat)(hq:q=c)(eg:psG k l ρ=(l',ρ'))(h:Lw P n ops l' Q ρ' w)(e:psP ops n q c k l ρ:=by repeat (first |exact trivial |refine⟨rfl,?_⟩)):Lw P n ops l Q ρ w:=
 zkE hq k l ρ e (by rw[eg];exact h)
theorem puk (k:Nat)(eg:psG k l ρ=(l',ρ'))(h:Lw P n ops l' Q ρ' w)(e:puP ops n k l ρ:=by repeat (first |exact trivial |refine⟨rfl,?_⟩)):Lw P n ops l Q ρ w:=
 zkF k l ρ e (by rw[eg];exact h)
def waG:Nat->List Oper->List Oper
 |k+1,⟨d,op,ty,pos,af,_⟩::l=>⟨d,op,ty,pos,af,none⟩::waG k l
 |_,l=>l
def eqD:Option Nat->Nat->Bool
 |some d,t=>Nat.beq d t
 |none,_=>false
def waB (j t:Nat)(b:Bool):Nat->List Oper->Bool
 |k+1,⟨d,_,_,_,_,some (j',b')⟩::l=>Nat.beq j' j&&((bif b then b' else !b')&&(!eqD d t&&waB j t b k l))
 |0,_=>true
 |_,_=>false
def waC (ops:Array Oper)(n:Nat)(ρ:Env)(k:Nat):List Oper->Option (Value×Bool)
 |⟨d,op,ty,pos,af,some (j,b)⟩::l=>match (ops[j]?).bind (·.dst)with
  |some t=>bif Nat.blt t n&&waB j t b k (⟨d,op,ty,pos,af,some (j,b)⟩::l) then some (ρ t,b) else none
  |none=>none
 |_=>none
theorem zjJ {a:Act}{d:Option Nat}{t:Nat}(v:Value)(h:eqD d t=false):(a.put d v).tmps[t]? =a.tmps[t]? :=by
 cases d with
 |none=>rfl
 |some d=>
  have hne:d≠t:=fun e=>by rw[e]at h;simp[eqD,Nat.beq_refl]at h
  show(a.tmps.setIfInBounds d v)[t]? =_
  exact Array.getElem?_setIfInBounds_ne hne
theorem Oper.wp_monoD {Q:Exit->Act->World->Prop}{o:Oper}{t:Nat}{a:Act}{w:World}{K K':Act->World->Prop}(hd:eqD o.dst t=false)(h: ∀ a' w',a'.tmps[t]? =a.tmps[t]? ->K a' w'->K' a' w')(hh:o.wp P a w K Q):o.wp P a w K' Q:=by
 have hp: ∀ (a':Act) (v:Value) (w':World),a'.tmps[t]? =a.tmps[t]? ->K (a'.put o.dst v) w'->K' (a'.put o.dst v) w':=fun a' v w' e hk=>h _ _ (by rw[zjJ v hd];exact e) hk
 unfold Oper.wp at*
 generalize (execOp a.eval o).run P w=r at*
 cases r with
 |ok n w'=>
  cases n<;>simp only[Oper.upon]at hh ⊢ <;>
   first
    |exact hp _ _ _ rfl hh
    |exact Calls.mono hh (fun e w'' he=>by cases e<;>first |exact hp _ _ _ rfl he |exact he)
    |exact Rows.mono hh (fun _ _ he=>hp _ _ _ rfl he)
 |halt x w'=>cases x<;>simp only[Oper.upon]at hh ⊢ <;>exact hh
theorem zkG {Q:Exit->Act->World->Prop}{j t:Nat}(hj:(ops[j]?).bind (·.dst)=some t): ∀ (k:Nat) (l:List Oper) (a:Act) (w:World),waB j t b k l=true->a.tmps[t]? =some (.bool b)->wpList P ops Q (waG k l) a w->wpList P ops Q l a w
 |0,l,a,w,_,_,h=>by cases l<;>exact h
 |k+1,[],a,w,e,_,_=>by cases e
 |k+1,⟨d,op,ty,pos,af,none⟩::l,a,w,e,_,_=>by cases e
 |k+1,⟨d,op,ty,pos,af,some (j',b')⟩::l,a,w,e,hv,h=>by
  simp only[waB,aG,Bool.not_eq_true']at e
  obtain⟨e1,e2,e3,e4⟩:=e
  obtain rfl:j=j':=(Nat.eq_of_beq_eq_true e1).symm
  obtain rfl:b=b':=by cases b<;>cases b'<;>first |rfl |cases e2
  have hw:Region.wanted ⟨d,op,ty,pos,af,some (j,b)⟩ (yielded ops a.tmps)=true:=by
   simp only[Region.wanted,yielded,hj,aA,hv]
   simp
  have hw1:Region.wanted ⟨d,op,ty,pos,af,none⟩ (yielded ops a.tmps)=true:=rfl
  simp only[waG,wpList,hw1,if_true]at h
  simp only[wpList,hw,if_true]
  rcases h with h |h
  ·exact .inl (Oper.wp_monoD (o:=⟨d,op,ty,pos,af,some (j,b)⟩) e3 (fun a' w' ea hk=>zkG hj k l a' w' e4 (ea.trans hv) hk) h)
  ·exact .inr h
theorem wak (k:Nat)(hq:q=b)(h:Lw P n ops (waG k l) Q ρ w)(e:waC ops n ρ k l=some (.bool q,b):=by rfl):Lw P n ops l Q ρ w:=fun a ha=>by
 match l,e with
 |⟨d,op,ty,pos,af,some (j,b')⟩::l,e=>
  simp only[waC]at e
  split at e
  ·rename_i t ht
   cases hb:(Nat.blt t n&&waB j t b' k (⟨d,op,ty,pos,af,some (j,b')⟩::l))with
   |false=>rw[hb]at e;cases e
   |true=>
    rw[hb]at e
    simp only[aG]at hb
    simp only[aD,Option.some.injEq,Prod.mk.injEq]at e
    obtain⟨e1,rfl⟩:=e
    refine zkG ht k _ a w hb.2 ?_ (h a ha)
    have hlt:t<a.tmps.size:=by rw[ha.size];simpa[Nat.blt_eq]using hb.1
    have hv:=ha.val t
    rw[e1,hq,Array.getD_eq_getD_getElem?,Array.getElem?_eq_getElem hlt]at hv
    rw[Array.getElem?_eq_getElem hlt]
    simpa using hv
  ·cases e
end
def qM (ops:Array Oper)(n:Nat)(ρ:Env)(i:Nat):Option (Nat×Value):=match ops[i]? with
 |some ⟨some d, .move x,_,_,_,none⟩=>bif Nat.blt d n then some (d,ev ρ x) else none
 |_=>none
def qA (ops:Array Oper)(n:Nat)(ρ:Env)(i:Nat):Option (Nat×Value):=match ops[i]? with
 |some ⟨some d, .assign x,_,_,_,none⟩=>bif Nat.blt d n then some (d,ev ρ x) else none
 |_=>none
def qF (ops:Array Oper)(n:Nat)(ρ:Env)(i:Nat):Option (Nat×Nat×Nat×Value):=match ops[i]? with
 |some ⟨some d, .fieldAddr s x f,_,_,_,none⟩=>bif Nat.blt d n then some (d,s,f,ev ρ x) else none
 |_=>none
def qL (ops:Array Oper)(n:Nat)(ρ:Env)(i:Nat):Option (Nat×Nat×Value):=match ops[i]? with
 |some ⟨some d, .load t x,_,_,_,none⟩=>bif Nat.blt d n then some (d,t,ev ρ x) else none
 |_=>none
section
variable {P:Program}{n d d2 i i2 k g f s t off ty:Nat}{ρ:Env}{w:World}{ops:Array Oper}{C:World->Prop}{π π':List (Nat×Nat)}{Q:Env->World->Prop}{v:Value}{cs vals:List Value}{W0 W A B:CW}{L M:List Nat}{kd:IntKind}{a:Int}{b c q:Bool}{str:Str}{p:Addr}{op:Op}
theorem zse (h:qM ops n ρ i=some (d,v)): ∃ x ty pos af,ops[i]? =some ⟨some d, .move x,ty,pos,af,none⟩/\Nat.blt d n=true/\ev ρ x=v:=by
 unfold qM at h
 split at h
 ·rename_i d' x ty pos af e
  cases hb:Nat.blt d' n with
  |false=>rw[hb]at h;cases h
  |true=>rw[hb]at h;cases h;exact⟨_,_,_,_,e,hb,rfl⟩
 ·cases h
theorem zsf (h:qA ops n ρ i=some (d,v)): ∃ x ty pos af,ops[i]? =some ⟨some d, .assign x,ty,pos,af,none⟩/\Nat.blt d n=true/\ev ρ x=v:=by
 unfold qA at h
 split at h
 ·rename_i d' x ty pos af e
  cases hb:Nat.blt d' n with
  |false=>rw[hb]at h;cases h
  |true=>rw[hb]at h;cases h;exact⟨_,_,_,_,e,hb,rfl⟩
 ·cases h
theorem zsg (h:qF ops n ρ i=some (d,s,f,v)): ∃ x ty pos af,ops[i]? =some ⟨some d, .fieldAddr s x f,ty,pos,af,none⟩/\Nat.blt d n=true/\ev ρ x=v:=by
 unfold qF at h
 split at h
 ·rename_i d' s' x f' ty pos af e
  cases hb:Nat.blt d' n with
  |false=>rw[hb]at h;cases h
  |true=>rw[hb]at h;cases h;exact⟨_,_,_,_,e,hb,rfl⟩
 ·cases h
theorem zsh (h:qL ops n ρ i=some (d,t,v)): ∃ x ty pos af,ops[i]? =some ⟨some d, .load t x,ty,pos,af,none⟩/\Nat.blt d n=true/\ev ρ x=v:=by
 unfold qL at h
 split at h
 ·rename_i d' s' x ty pos af e
  cases hb:Nat.blt d' n with
  |false=>rw[hb]at h;cases h
  |true=>rw[hb]at h;cases h;exact⟨_,_,_,_,e,hb,rfl⟩
 ·cases h
theorem Dv (v:Value)(e:qM ops n ρ i=some (d,v))(h:Mw P n ops C π Q (ρ.up d v) w):Mw P n ops C ((i,0)::π) Q ρ w:=
 let ⟨_,_,_,_,h1,h2,h3⟩:=zse e;Mw.p h1 h2 (fun _=>R.mv h3) h
theorem Di (e:qM ops n ρ i=some (d, .int kd a))(h:Mw P n ops C π Q (ρ.up d (.int kd a)) w):Mw P n ops C ((i,0)::π) Q ρ w:=Dv _ e h
theorem Ds (e:qM ops n ρ i=some (d,vS str))(h:Mw P n ops C π Q (ρ.up d (vS str)) w):Mw P n ops C ((i,0)::π) Q ρ w:=Dv _ e h
theorem Hv (v:Value)(e:qA ops n ρ i=some (d,v))(h:Mw P n ops C π Q (ρ.up d v) w):Mw P n ops C ((i,0)::π) Q ρ w:=
 let ⟨_,_,_,_,h1,h2,h3⟩:=zsf e;Mw.p h1 h2 (fun _=>R.as h3) h
theorem Hb (e:qA ops n ρ i=some (d,vB b))(h:Mw P n ops C π Q (ρ.up d (vB b)) w):Mw P n ops C ((i,0)::π) Q ρ w:=Hv _ e h
theorem Hs (e:qA ops n ρ i=some (d,vS str))(h:Mw P n ops C π Q (ρ.up d (vS str)) w):Mw P n ops C ((i,0)::π) Q ρ w:=Hv _ e h
theorem Df (e:qF ops n ρ i=some (d,s,f, .pointer (some p)))[hF:Fld P s f off](h:Mw P n ops C π Q (ρ.up d (.pointer (some (p.add off)))) w):Mw P n ops C ((i,0)::π) Q ρ w:=
 let ⟨_,_,_,_,h1,h2,h3⟩:=zsg e;Mw.p h1 h2 (fun _=>R.fa h3) h
theorem Dl {d0:TypeDesc}{j:Nat}(B:Bx W k g cs)(e:qL ops n ρ i=some (d,t,ptr ((bx g).add j)))[hU:Und P t d0](hv:cs[j]? =some v)(h:Mw P n ops (Cl W L) π Q (ρ.up d v) w)(hd:zcw [k] L=true:=by rfl)(hs:znb d0=true:=by rfl):Mw P n ops (Cl W L) ((i,1)::π) Q ρ w:=
 let ⟨_,_,_,_,h1,h2,h3⟩:=zsh e;Mw.q h1 h2 (fun _ c=>R.ld hs h3 (B.clc hv hd c)) h
theorem Dfl {d0:TypeDesc} (B:Bx W k g cs) (e:qF ops n ρ i=some (d,s,f,ptr (bx g))) [hF:Fld P s f off] (e2:qL ops n (ρ.up d (ptr ((bx g).add off))) i2=some (d2,t,ptr ((bx g).add off))) [hU:Und P t d0] (hv:cs[off]? =some v)
 (h:Mw P n ops (Cl W L) π Q ((ρ.up d (ptr ((bx g).add off))).up d2 v) w) (hd:zcw [k] L=true:=by rfl) (hs:znb d0=true:=by rfl):Mw P n ops (Cl W L) ((i,0)::(i2,1)::π) Q ρ w:=
 Df e (Dl B e2 hv h hd hs)
theorem m0 {X:Prop}(l:Le M A B)(k:Le L A B->X)(h:zgN M L=true:=by rfl):Cl A L B.w/\X:=⟨⟨B,rfl,l.sub h⟩,k (l.sub h)⟩
end
section
variable {α:Type}[Rp α]{W:CW}{c:Nat}{K:List Nat}{v:Value}{xs:List α}
theorem Ow.pre (h:Ow (α:=List α) W c K [v] xs){k:Nat}(hk:k<=xs.length):Ow (α:=List α) W c K [cutV v 0 k (sz α)] (xs.take k):=by
 obtain⟨S,⟨v',es,Ss,e,ho⟩,hn,hb⟩:=h
 simp only[List.cons.injEq,and_true]at e
 subst e
 have htl:(xs.take k).length=k:=by rw[List.length_take];omega
 have hat: ∀ (i:Nat) cs x T,(es.take k)[i]? =some cs->(xs.take k)[i]? =some x->(Ss.take k)[i]? =some T->own W.w (AK W K) T cs x:=fun i cs x T h1 h2 h3=>by
  have g: ∀ {β:Type} {l:List β} {y:β},(l.take k)[i]? =some y->l[i]? =some y:=fun {β l y} hy=>by
   rw[List.getElem?_take]at hy
   split at hy
   ·exact hy
   ·cases hy
  exact ho.at_ i cs x T (g h1) (g h2) (g h3)
 have hlen:=ho.len
 have hfl:(es.take k).flatten=es.flatten.take (k*sz α):=by
  have key: ∀ (es:List (List Value)) (k:Nat),(∀ c∈es,c.length=sz α)->(es.take k).flatten=es.flatten.take (k*sz α):=by
   intro es
   induction es with
   |nil=>intro k _;simp
   |cons a es ih=>
    intro k hl
    cases k with
    |zero=>simp
    |succ k=>
     have ha:a.length=sz α:=hl a (by simp)
     rw[List.take_succ_cons,List.flatten_cons,List.flatten_cons,ih k (fun c hc=>hl c (by simp[hc])),List.take_append,ha,List.take_of_length_le (show a.length<=(k+1)*sz α by rw[ha,Nat.add_mul,Nat.one_mul];omega)]
     congr 2
     rw[Nat.add_mul,Nat.one_mul]
     omega
  exact key es k hlen
 rcases ho.row.2 with ⟨rfl,hn0⟩ |⟨g,cap,cur,rfl,hb0,hg,hnc,hcm,hcs,htake⟩
 ·have hk0:k=0:=by omega
  subst hk0
  have:cutV (.slice none 0 0) 0 0 (sz α) = .slice none 0 0:=by simp[cutV,sliced]
  rw[this]
  exact Ow.zr (α:=List α) c K
 ·have hcv:cutV (.slice (some ⟨g,0,none⟩) xs.length cap) 0 k (sz α) = .slice (some ⟨g,0,none⟩) k cap:=by simp[cutV,sliced,Addr.add]
  rw[hcv]
  have hS:S=g::Ss.flatten:=by rw[ho.S];rfl
  have hsub: ∀ b∈(Ss.take k).flatten,b∈Ss.flatten:=fun b hb=>by
   obtain⟨l,hl,hbl⟩:=List.mem_flatten.1 hb
   exact List.mem_flatten.2 ⟨l,List.mem_of_mem_take hl,hbl⟩
  refine⟨g::(Ss.take k).flatten,⟨_,es.take k,Ss.take k,rfl,⟨⟨?_, .inr ⟨g,cap,cur,by rw[htl],hb0,hg,by omega,hcm,hcs,?_⟩⟩,rfl,by rw[List.length_take,htl,ho.elen];omega,by rw[List.length_take,htl,ho.slen];omega,hat⟩⟩,?_,fun b hb'=>hb b ?_⟩
  ·rw[hfl,htl,List.length_take]
   have:=ho.row.1
   rw[this]
   exact Nat.min_eq_left (Nat.mul_le_mul_right _ hk)
  ·rw[hfl,htl,<- htake,List.take_take,Nat.min_eq_left (Nat.mul_le_mul_right _ hk)]
  ·rw[hS]at hn
   have hn':=List.nodup_cons.1 hn
   refine List.nodup_cons.2 ⟨fun hm=>hn'.1 (hsub g hm),?_⟩
   have:(Ss.take k).flatten <+:Ss.flatten:=by
    refine⟨(Ss.drop k).flatten,?_⟩
    rw[<- List.flatten_append,List.take_append_drop]
   exact List.Nodup.sublist this.sublist hn'.2
  ·rw[hS]
   rcases List.mem_cons.1 hb' with e |e
   ·rw[e];simp
   ·exact List.mem_cons_of_mem _ (hsub b e)
end
section
variable {P:Program}{ρ:Env}{α:Type}[Rp α]{W:CW}{c s b:Nat}{z v:Value}{xs q:List α}{t e ty:TypeId}{x:Operand}
end
section
variable {α:Type}[Rp α]
theorem znK {w:World}{A:Nat->Prop}{v:Value}{xs:List α}{l:Nat}(h:rd w A [v] xs)(hl:l<=xs.length):rd w A [cutV v l xs.length (sz α)] (xs.drop l):=by
 obtain⟨ad,c,e,hc,hm,ha,hx⟩:=h
 have e':v = .slice ad xs.length c:=by simpa using e
 subst e'
 have hlen:(xs.drop l).length=xs.length-l:=by simp
 by_cases hcl:c=l
 ·have he:xs.drop l=[]:=List.eq_nil_of_length_eq_zero (by omega)
  rw[he]
  refine⟨if c=l then ad else ad.map (·.add (l*sz α)),c-l,by simp[cutV,sliced,show xs.length-l=0 by omega],by simp,by unfold maxLen at*;omega,fun hp=>by simp at hp,fun i x hi=>by simp at hi⟩
 ·refine⟨ad.map (·.add (l*sz α)),c-l,by simp[cutV,sliced,hcl,hlen],by omega,by unfold maxLen at*;omega,fun hp=>?_,fun i x hi=>?_⟩
  ·rw[hlen]at hp
   obtain⟨a,rfl,hb⟩:=ha (by omega)
   exact⟨_,rfl,by rw[zb3];exact hb⟩
  ·have hil:=(List.getElem?_eq_some_iff.1 hi).1
   rw[hlen]at hil
   obtain⟨a,rfl,hb⟩:=ha (by omega)
   rw[List.getElem?_drop]at hi
   obtain⟨ecs,h1,h2⟩:=hx _ x hi
   refine⟨ecs,?_,h2⟩
   simp only[slA,Option.map_some]at h1 ⊢
   rw[zex,<- Nat.add_mul]
   exact h1
end
def Tl (α:Type):Type:=List α
@[reducible] instance Rp.tl {α:Type} [Rp α]:Rp (Tl α):= {
 sz:=1
 ty:=ty (List α)
 lty:=Rp.lty (List α)
 rd w A cs x:=rd (α:=List α) w A cs x
 own w A S cs x:= ∃ (v0:Value) (ys:List α) (l:Nat),l<=ys.length/\cs=[cutV v0 l ys.length (sz α)]/\x=ys.drop l/\own (α:=List α) w A S [v0] ys
 rd_len:=rd_len (α:=List α)
 rd_one:=rd_one (α:=List α)
 rd_keep:=rd_keep (α:=List α)
 rd_mono:=rd_mono (α:=List α)
 own_len:=fun⟨_,_,_,_,e,_⟩=>by rw[e];rfl
 own_rd:=fun⟨v0,ys,l,hl,e,ex,h⟩ hS hA=>by
  subst e
  subst ex
  exact znK (own_rd (α:=List α) h hS hA) hl
 own_keep:=fun hA hS ⟨v0,ys,l,hl,e,ex,h⟩=>⟨v0,ys,l,hl,e,ex,own_keep (α:=List α) hA hS h⟩
 own_mono:=fun hA ⟨v0,ys,l,hl,e,ex,h⟩=>⟨v0,ys,l,hl,e,ex,own_mono (α:=List α) hA h⟩}
section
variable {P:Program}{ρ:Env}{α:Type}[Rp α]{W:CW}{c k s b t ty':Nat}{z v u:Value}{xs ys q:List α}{x:α}{p r:Operand}{K':List Nat}
theorem Ow.tail (h:Ow (α:=List α) W c [] [v] xs){l:Int}(hm:slM xs l (xs.length:Int)=some q):Ow (α:=Tl α) W c [] [cutV v l.toNat (xs.length:Int).toNat (sz α)] q:=by
 obtain⟨S,ho,hn,hb⟩:=h
 obtain⟨h0,h1,h2,e⟩:=zgO hm
 refine⟨S,⟨v,xs,l.toNat,by omega,by rw[Int.toNat_natCast],?_,ho⟩,hn,hb⟩
 rw[e,Int.toNat_natCast,List.take_length]
end
end Go.Sx
