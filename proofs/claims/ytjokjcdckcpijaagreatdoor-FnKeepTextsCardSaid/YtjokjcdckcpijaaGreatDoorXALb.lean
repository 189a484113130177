/- Rules of the walks: XLb. Conditions: each rule's own premises. -/
import Derived.Test.YtjokjcdckcpijaaGreatDoorXALa
import Derived.Laws.IdiomStrings
import Derived.Laws.BytesArg
namespace Go.Sx
open Go Go.RowKit Rp
set_option linter.unusedSimpArgs false
set_option linter.unusedVariables false
def LL:List Nat:=[2,3,4,5,6,7,8,9,10,11,12,13,14,15,16,17,18,19,20,21,22,23,24,25,26,27,28,29,30,31,32,33,34,35,36,37,38,39,40]
section
variable {α β:Type}[Rp α][Rp β]{W W' V Wf:CW}{k:Nat}{K K' L J:List Nat}{v v':Value}{xs ys:List α}{cs:List Value}{x:α}{g:Nat}{p:Addr}
variable {P:Program}{ρ:Env}{ty':TypeId}{a:Operand}{t e:TypeId}{s b:Nat}{z:Value}{w:World}{f:FuncId}{vals:Array Value}
theorem Rd.ul (h:Rd W [0] cs x)(l:Le LL W W'):Rd W' [0] cs x:=h.up l rfl
theorem At.ul (h:At W [0] p x)(l:Le LL W W'):At W' [0] p x:=h.up l rfl
theorem zpZ [hU:Und P t (.slice e)](h:Rd W K [v] xs)(hx:ev ρ a=v):Run P ρ w (.call ⟨.builtin .len,#[a],#[t]⟩) ty' (vI xs.length):=by
 obtain⟨ad,c,rfl,_⟩:=h.slice_form
 exact R.lenV hx
def cutV (v:Value)(l h s:Nat):Value:=match v with
 | .slice a _ c=>sliced a l h c s
 |_=>v
omit [Rp α] in
theorem zks {l h:Int}(hm:slM xs l h=some ys):0<=l/\l<=h/\h<=xs.length/\ys=(xs.take h.toNat).drop l.toNat:=by
 unfold slM at hm
 split at hm
 ·rename_i hh;exact⟨hh.1,hh.2.1,hh.2.2,(Option.some.inj hm).symm⟩
 ·cases hm
theorem Rd.cutV (h:Rd W K [v] xs){l m:Int}(hm:slM xs l m=some ys):Rd W K [cutV v l.toNat m.toNat (sz α)] ys:=by
 obtain⟨h0,h1,h2,rfl⟩:=zks hm
 obtain⟨ad,c,rfl,_⟩:=h.slice_form
 exact Rd.cut h (by omega) (by omega)
theorem R.sl [hU:Und P t (.slice e)] [hI:Inf P e s b z] {lo hi:Option Operand} {l m:Int} (h:Rd W K [v] xs) (hm:slM xs l m=some ys) (hx:ev ρ a=v)
 (hl:(lo.map (ev ρ)=none/\l=0)\/lo.map (ev ρ)=some (vI l)) (hh:(hi.map (ev ρ)=none/\m=xs.length)\/hi.map (ev ρ)=some (vI m)) (hs:s=sz α:=by rfl):
 Run P ρ w (.slice t a lo hi none) ty' (Sx.cutV v l.toNat m.toNat (sz α)):=fun o h1 _=>by
 obtain⟨h0,h01,h2,rfl⟩:=zks hm
 obtain⟨ad,c,rfl,hc,_⟩:=h.slice_form
 obtain⟨i,hi',_,his,_⟩:=hI.get
 have hb:(Instr.sliceBounds true xs.length c (lo.map (ev ρ)) (hi.map (ev ρ)) none).run P w = .ok (l.toNat,m.toNat,c) w:=by
  have em:(m.toNat:Int)=m:=by omega
  rcases hl with ⟨e,rfl⟩ |e<;>rcases hh with ⟨e',rfl⟩ |e'<;>rw[e,e']
  ·simp[Instr.sliceBounds]
  ·simp[Instr.sliceBounds,Instr.sliceBound,asIntOf,(by omega:0<=m),(by omega:m<=(c:Int))]
  ·simp[Instr.sliceBounds,Instr.sliceBound,asIntOf,h0,(by omega:l<=(xs.length:Int))]
  ·simp[Instr.sliceBounds,Instr.sliceBound,asIntOf,h0,(by omega:0<=m),(by omega:m<=(c:Int)),em,(by omega:l<=m)]
 simp only[execOp,h1,hx,Option.map_none,Instr.sliceAt,Sem.run_bind,run_underlying hU.h,Result.andThen_ok,Instr.slice,hb,sizeOf,typeInfo,run_program,hi',Sem.run_pure,his,hs]
 rfl
theorem zhg {t:Nat}{R:Value->World->Prop}{ρ:Env}(h:ρ t=v)(hR:R v w):zsL P [.tmp t] R .ret ρ w:=⟨[v],⟨h.symm,trivial⟩,hR⟩
theorem zit {t t':Nat}{R:Value->World->Prop}{ρ:Env}(h:ρ t=v)(h':ρ t'=v')(hR:R (.tuple #[v,v']) w):zsL P [.tmp t, .tmp t'] R .ret ρ w:=⟨[v,v'],⟨h.symm,h'.symm,trivial⟩,hR⟩
theorem Bx.loadA {fs:Array Field}[hU:Und P t (.struct fs)][hI:Inf P t s b z](h:Bx W k g cs)(hs:s=cs.length):(loadVar t (bx g)).run P W.w = .ok (.agg cs.toArray) W.w:=by
 obtain⟨j,hj,_,hjs,_⟩:=hI.get
 have:=run_loadCells_list (P:=P) W.w (bx g) cs h.cells
 rw[<- hs]at this
 simp[loadVar,zlc hU,zsk,sizeOf,typeInfo,hj,hjs,this]
theorem zkj {q:Nat}{R:Value->World->Prop}{ρ:Env}{fs:Array Field}[Und P t (.struct fs)][Inf P t s b z](h:ρ q=ptr (bx g))(hB:Bx W k g cs)(hR:R (.agg cs.toArray) W.w)(hs:s=cs.length:=by rfl):zsL P [.cell q t] R .ret ρ W.w:=
 ⟨[.agg cs.toArray],⟨⟨_,h,hB.loadA hs⟩,trivial⟩,hR⟩
theorem zeM {q r:Nat}{R:Value->World->Prop}{ρ:Env}{fs:Array Field}[Und P t (.struct fs)][Inf P t s b z](h:ρ q=ptr (bx g))(hB:Bx W k g cs)(h':ρ r=v')(hR:R (.tuple #[.agg cs.toArray,v']) W.w)(hs:s=cs.length:=by rfl):zsL P [.cell q t, .tmp r] R .ret ρ W.w:=
 ⟨[.agg cs.toArray,v'],⟨⟨_,h,hB.loadA hs⟩,h'.symm,trivial⟩,hR⟩
theorem zap.ad {R R':CW->Value->Prop}(f':Nat->Nat)(h:zap P f vals (W.view K []).w (Res (W.view K []) LL R))(hR: ∀ Wf v,R Wf v->R' (W.back Wf K [] f') v):zap P f vals W.w (Res W [] R'):=
 zap.mono h fun v w' ⟨Wf,e,l,hr⟩=>by subst e;exact Res.fin l f' (hR Wf v hr)
theorem Res.mk {R:CW->Value->Prop}(l:Le LL V Wf)(h:R Wf v):Res V LL R v Wf.w:=⟨Wf,rfl,l,h⟩
def fk (k:Nat)(c:Nat):Nat:=if c=0 then 0 else k
theorem zer.ov0 {lo hi lo' hi':Nat}{vs:List Nat}{l:List Value}{σ ρ ρ':Env}(h1:(Nat.ble lo lo'&&Nat.ble hi' hi)=true)(h:zer lo hi vs ρ ρ'):zer lo hi vs (Sx.ovl lo' hi' [] l σ ρ) ρ':=fun i hi2=>by
 have hb:(Nat.ble lo' i&&Nat.ble i hi')=false:=by
  cases hb:(Nat.ble lo' i&&Nat.ble i hi')with
  |false=>rfl
  |true=>
   simp only[aG,Nat.ble_eq]at hb h1
   have:(Nat.ble lo i&&Nat.ble i hi)=true:=by simp only[aG,Nat.ble_eq];omega
   simp[inR,this]at hi2
 simp only[Sx.ovl,hb,aC]
 exact h i hi2
theorem zhe (k:Nat): ∀ c∈LL,fk k c=k:=fun c hc=>by
 unfold fk
 rw[if_neg]
 intro h
 rw[h]at hc
 revert hc
 decide
class Flat (P:Program) (t:TypeId) (n:outParam Nat):Prop where
 h: ∃ fs,P.underlying t=some (.struct fs)/\fs.size=n/\((List.range n).all fun i=>match fs[i]? with
  |some f=>f.offset==i&&(P.info? f.type).map (·.size)==some 1
  |none=>false)=true
theorem Flat.fld {n i:Nat}[hF:Flat P t n](hi:i<n):Fld P t i i:=by
 obtain⟨fs,hu,hsz,hB⟩:=hF.h
 rw[List.all_eq_true]at hB
 have h:=hB i (List.mem_range.2 hi)
 have hlt:i<fs.size:=by rw[hsz];exact hi
 rw[Array.getElem?_eq_getElem hlt]at h
 simp only[aG,beq_iff_eq]at h
 cases hinf:P.info? fs[i].type with
 |none=>rw[hinf]at h;simp at h
 |some inf=>
  rw[hinf]at h
  simp only[Option.map_some,Option.some.injEq]at h
  exact⟨fs,fs[i],inf,hu,Array.getElem?_eq_getElem hlt,h.1,hinf,by omega⟩
theorem zlN: ∀ (l:List Field) (k:Nat),(∀ (i:Nat) f,l[i]? =some f->f.offset=k+i/\(sizeOf f.type).run P w = .ok 1 w)->
 (l.mapM fun f=>(do pure (f.offset,<- sizeOf f.type):Sem (Nat×Nat))).run P w = .ok ((List.range' k l.length).map fun i=>(i,1)) w
 | [],k,_=>by simp
 |f::l,k,h=>by
  have h0:=h 0 f rfl
  have ih:=zlN l (k+1) (fun i g hg=>by have:=h (i+1) g hg;exact⟨by omega,this.2⟩)
  simp only[List.mapM_cons,Sem.run_bind,h0.2,Result.andThen_ok,Sem.run_pure,ih,aL,List.range'_succ,List.map_cons]
  rw[show f.offset=k by have:=h0.1;omega]
theorem znm {place:Nat->Option (Nat×Nat)}: ∀ (vs:List (Nat×Value)) (zs:List Value),(∀ i,i<zs.length->place i=some (i,1))->(∀ p∈vs,p.2.oneCell'=true/\p.1<zs.length)->
 Instr.fill place zs.toArray vs=some (vs.foldl (fun cs p=>cs.set p.1 p.2) zs).toArray
 | [],zs,_,_=>rfl
 |(i,v)::vs,zs,hp,hv=>by
  have h0:=hv (i,v) (by simp)
  have hc:=zh2 h0.1
  simp only[Instr.fill,hp i h0.2,hc]
  rw[if_neg (by simp;have:=h0.2;simp at this;omega)]
  have e:((#[v]:Array Value).zipIdx.foldl (fun cs (x:Value×Nat)=>cs.setIfInBounds (i+x.2) x.1) zs.toArray)=(zs.set i v).toArray:=by simp
  rw[e]
  exact znm vs (zs.set i v) (fun j hj=>hp j (by simpa using hj)) (fun p hp'=>by have:=hv p (by simp[hp']);simpa using this)
theorem R.bd {n:Nat}{zs cs:List Value}[hF:Flat P t n][hI:Inf P t s b z]{parts:Array (Nat×Operand)}(vs:List (Nat×Value))(hp:parts.toList.map (fun p=>(p.1,ev ρ p.2))=vs)(hz:z.cells=zs.toArray)(hc:vs.foldl (fun cs p=>cs.set p.1 p.2) zs=cs)(hv: ∀ p∈vs,p.2.oneCell'=true/\p.1<zs.length)(hn:zs.length=n:=by rfl):
 Run P ρ w (.build t parts) ty' (.agg cs.toArray):=fun o h1 _=>by
 obtain⟨fs,hu,hsz,hB⟩:=hF.h
 obtain⟨i,hi,hz',his,_⟩:=hI.get
 have hpl:(parts.map fun p=>(p.1,ev ρ p.2)).toList=vs:=by rw[Array.toList_map];exact hp
 have hf: ∀ (i:Nat) f,fs.toList[i]? =some f->f.offset=0+i/\(sizeOf f.type).run P w = .ok 1 w:=fun i f hf=>by
  have hlt:i<n:=by rw[<- hsz];have:=(List.getElem?_eq_some_iff.1 hf).1;simpa using this
  rw[List.all_eq_true]at hB
  have:=hB i (List.mem_range.2 hlt)
  rw[show fs[i]? =some f by simpa using hf]at this
  simp only[aG,beq_iff_eq]at this
  obtain⟨h1,h2⟩:=this
  cases hinf:P.info? f.type with
  |none=>rw[hinf]at h2;cases h2
  |some inf=>
   rw[hinf]at h2
   simp only[Option.map_some,Option.some.injEq]at h2
   exact⟨by omega,by simp[sizeOf,typeInfo,hinf,h2]⟩
 have hpr:=zlN (P:=P) (w:=w) fs.toList 0 hf
 have hpl2:(fs.mapM fun f=>(do pure (f.offset,<- sizeOf f.type):Sem (Nat×Nat))).run P w = .ok ((List.range' 0 n).map fun i=>(i,1)).toArray w:=by
  rw[<- Array.toArray_toList (xs:=fs),List.mapM_toArray]
  simp only[Sem.run_map]
  rw[hpr]
  simp[hsz]
 have hfill:=znm (place:=fun i=>(((List.range' 0 n).map fun i=>(i,1)).toArray)[i]?) vs zs (fun i hi=>by
  rw[hn]at hi
  simp[List.getElem?_range',hi]) hv
 rw[hc]at hfill
 simp only[execOp,h1,Instr.build,zeroValue,typeInfo,Sem.run_bind,run_program,hi,Sem.run_pure,Result.andThen_ok,hz',run_underlying hu,hz]
 rw[hpl2]
 simp only[Result.andThen_ok,hpl,hfill,Sem.run_pure]
theorem R.sad {s r q:Str}{x y:Operand}{t':TypeId}(hm:saM s r=some q)(hx:ev ρ x=vS s)(hy:ev ρ y=vS r):Run P ρ w (.binOp .add t x y t') ty' (vS q):=by
 unfold saM at hm
 split at hm
 ·simp only[Option.some.injEq]at hm
  subst hm
  exact R.sadd hx hy (by rename_i hl;unfold lim at hl;omega)
 ·cases hm
theorem R.chm {s:Str}{i:Int}[hU:Und P t .string]{u:UInt8}{x y:Operand}{k:IntKind}(hm:chM s i=some u)(hx:ev ρ x=vS s)(hy:ev ρ y = .int k i):Run P ρ w (.index t x y) ty' (.int .u8 u.toNat):=by
 obtain⟨h0,h1,_⟩:=zgC hm
 exact R.chr hx hy h0 h1
theorem R.ss {s q:Str} [hU:Und P t .string] {lo hi:Option Operand} {l m:Int} (hm:slM s l m=some q) (hx:ev ρ a=vS s)
 (hl:(lo.map (ev ρ)=none/\l=0)\/lo.map (ev ρ)=some (vI l)) (hh:(hi.map (ev ρ)=none/\m=s.length)\/hi.map (ev ρ)=some (vI m)):Run P ρ w (.slice t a lo hi none) ty' (vS q):=by
 obtain⟨h0,h1,h2,rfl⟩:=zks hm
 refine R.subS hx (l:=l.toNat) (h:=m.toNat) ?_ ?_ (by omega) (by omega)
 ·rcases hl with ⟨e,rfl⟩ |e
  ·exact .inl ⟨e,rfl⟩
  ·exact .inr ⟨l,e,h0,rfl⟩
 ·rcases hh with ⟨e,rfl⟩ |e
  ·exact .inl ⟨e,by simp⟩
  ·exact .inr ⟨m,e,by omega,rfl⟩
theorem Rd.oc (h:Rd W K [v] x):v.oneCell'=true:=rd_one h v (by simp)
theorem Ow.oc (h:Ow W k K [v] x):v.oneCell'=true:=h.rd.oc
theorem zaw: ∀ u∈([]:List Value),u.oneCell'=true:=fun _ h=>by cases h
theorem zaa {vs:List Value}(h:v.oneCell'=true)(hs: ∀ u∈vs,u.oneCell'=true): ∀ u∈v::vs,u.oneCell'=true:=fun u hu=>by
 rcases List.mem_cons.1 hu with rfl |hu
 ·exact h
 ·exact hs u hu
theorem zcU {n:Nat}: ∀ q∈([]:List (Nat×Value)),q.2.oneCell'=true/\q.1<n:=fun _ h=>by cases h
theorem zaD {n i:Nat}{vs:List (Nat×Value)}(h:v.oneCell'=true)(hi:Nat.blt i n=true)(hs: ∀ q∈vs,q.2.oneCell'=true/\q.1<n): ∀ q∈(i,v)::vs,q.2.oneCell'=true/\q.1<n:=fun q hq=>by
 rcases List.mem_cons.1 hq with rfl |hq
 ·exact⟨h,by simpa[Nat.blt_eq]using hi⟩
 ·exact hs q hq
theorem rdN:Rd W K [.slice none 0 0] ([]:List α):=own_rd (S:=[]) (A:=fun _=>False) (Zr.own (α:=List α)) (fun _ h=>by cases h) (fun _ h=>h.elim)
theorem owN (k:Nat)(K:List Nat):Ow W k K [.slice none 0 0] ([]:List α):=Ow.zr (α:=List α) k K
theorem zmG (K:List Nat):OwS W [] K [.slice none 0 0] ([]:List α):=OwS.zr (α:=List α) K
theorem Bx.clc (h:Bx W k g cs){j:Nat}{u:Value}(hu:cs[j]? =some u)(hd:zem [k] L=true){w':World}(c:Cl W L w'):w'.cell? ((bx g).add j)=some u:=by
 obtain⟨W',rfl,l⟩:=c
 exact(h.up l hd).cell hu
theorem Bx.clcs (h:Bx W k g cs)(hd:zem [k] L=true){w':World}(c:Cl W L w'):zdb w' (bx g) cs:=by
 obtain⟨W',rfl,l⟩:=c
 exact(h.up l hd).cells
theorem zoR (ha:AK W K p.block)(hd:zem K L=true)(hc:zdb W.w p cs){w':World}(c:Cl W L w'):zdb w' p cs:=by
 obtain⟨W',rfl,l⟩:=c
 exact hc.keep (AK.up l hd ha).1
omit [Rp α] in
theorem Each.cons {R:List Value->α->Prop}{es:List (List Value)}(h:R cs x)(k:Each R es xs):Each R (cs::es) (x::xs):=by
 have:=(Each.one h).append k
 simpa using this
end
theorem zuo {p:Prop}(b:Bool)(ht:b=true->p)(hf:b=false->p):p:=by cases b with
 |true=>exact ht rfl
 |false=>exact hf rfl
theorem nz {α:Type}{n:Int}{x u:α}(h:(if n=0 then none else some x)=some u):n≠0:=fun e=>by rw[if_pos e]at h;cases h
theorem bsv {v:Value}(h:v.oneCell'=true): ∀ u∈ [v],u.cells.size=1:=fun u hu=>by
 rw[List.mem_singleton]at hu;rw[hu,zh2 h];rfl
theorem bsA {v:Value}{n:Nat}(h:v.cells.size=n): ∀ u∈ [v],u.cells.size=n:=fun u hu=>by
 rw[List.mem_singleton]at hu;rw[hu,h]
theorem bsc {v:Value}(h:v.oneCell'=true):([v].map (·.cells.toList)).flatten=[v]:=by simp[zh2 h]
section
variable {α:Type}[Rp α]{W:CW}{k:Nat}{K:List Nat}{cs:List Value}{x:α}
theorem Ow.dyeO (h:Ow W k K cs x)(k':Nat)(hd:zem K [k]=true:=by rfl): ∃ W',W'.w=W.w/\Le [k] W W'/\Ow W' k' K cs x:=⟨W.dye k k',rfl,Le.dye k k',h.dye k' hd⟩
class Pl (α:Type) [Rp α]:Prop where
 pl: ∀ {w A A' cs} {x:α},rd w A cs x->rd w A' cs x
instance {α β:Type}[Rp α][Rp β][Pl α][Pl β]:Pl (α×β):=⟨fun⟨c,d,e,h,k⟩=>⟨c,d,e,Pl.pl h,Pl.pl k⟩⟩
end
section
variable {P:Program}{n:Nat}{Q:Env->World->Prop}{ρ:Env}{w:World}{ops:Array Oper}{rest:List Oper}{C:World->Prop}{R:Post}{i k d ty j t:Nat}{op:Op}{pos:String}{af:Array Edge}{π:List (Nat×Nat)}{v:Value}{T:Value->World->Prop}{W:CW}{b c:Bool}{dd:Option Nat}
theorem R.pk {c x y:Operand}{q b:Bool}(hq:q=b)(hc:ev ρ c = .bool q)(hv:ev ρ (bif b then x else y)=v):Run P ρ w (.pick c x y) ty v:=
 R.pick hc (fun h=>by rw[h]at hq;subst hq;exact hv) (fun h=>by rw[h]at hq;subst hq;exact hv)
theorem Lw.pass' {o:Oper} {q:Bool} (hq:q=c) (hg:o.guard=some (j,b)) (hd':o.dst=some d) (hd:Nat.blt d n=true)
 (hj:(ops[j]?).bind (·.dst)=some t) (ht:Nat.blt t n=true) (hv:ev ρ (.tmp t) = .bool q) (hne:(c==b)=false) (h:Lw P n ops rest Q (ρ.up d undef) w):Lw P n ops (o::rest) Q ρ w:=
 Lw.pass hg hd' hd hj ht (hq▸hv) hne h
theorem zh3 {o:Oper}(hg:o.guard=some (j,b))(hj:(ops[j]?).bind (·.dst)=some t)(ht:Nat.blt t n=true)(hv:ev ρ (.tmp t) = .bool c){a:Act}(ha:Fits n a ρ):Region.wanted o (yielded ops a.tmps)=(c==b):=by
 have hval:a.tmps[t]? =some (.bool c):=by
  have:=ha.val t
  have hlt:t<a.tmps.size:=by rw[ha.size];simpa[Nat.blt_eq]using ht
  simp only[ev]at hv
  rw[hv,Array.getD_eq_getD_getElem?,Array.getElem?_eq_getElem hlt]at this
  rw[Array.getElem?_eq_getElem hlt]
  simpa using this
 simp only[Region.wanted,hg,yielded,hj,aA,hval]
 cases c<;>cases b<;>rfl
theorem zoS {o:Oper}(hg:o.guard=some (j,b))(hj:(ops[j]?).bind (·.dst)=some t)(ht:Nat.blt t n=true)(hv:ev ρ (.tmp t)=undef){a:Act}(ha:Fits n a ρ):Region.wanted o (yielded ops a.tmps)=false:=by
 have hval:a.tmps[t]? =some undef:=by
  have:=ha.val t
  have hlt:t<a.tmps.size:=by rw[ha.size];simpa[Nat.blt_eq]using ht
  simp only[ev]at hv
  rw[hv,Array.getD_eq_getD_getElem?,Array.getElem?_eq_getElem hlt]at this
  rw[Array.getElem?_eq_getElem hlt]
  simpa using this
 simp only[Region.wanted,hg,yielded,hj,aA,hval]
 cases b<;>rfl
theorem Lw.passU {o:Oper} (hg:o.guard=some (j,b)) (hd':o.dst=some d) (hd:Nat.blt d n=true)
 (hj:(ops[j]?).bind (·.dst)=some t) (ht:Nat.blt t n=true) (hv:ev ρ (.tmp t)=undef) (h:Lw P n ops rest Q (ρ.up d undef) w):Lw P n ops (o::rest) Q ρ w:=fun a ha=>by
 have hw:=zoS (o:=o) hg hj ht hv ha
 simp only[wpList,hw]
 rw[hd']
 exact h _ (ha.put hd undef)
theorem Mw.passU (hi:ops[i]? =some ⟨some d,op,ty,pos,af,some (j,b)⟩) (hd:Nat.blt d n=true)
 (hj:(ops[j]?).bind (·.dst)=some t) (ht:Nat.blt t n=true) (hv:ev ρ (.tmp t)=undef) (h:Mw P n ops C π Q (ρ.up d undef) w):Mw P n ops C ((i,k)::π) Q ρ w:=fun a ha=>
 ⟨_,hi,by
  have hw:=zoS (o:=⟨some d,op,ty,pos,af,some (j,b)⟩) rfl hj ht hv ha
  rw[if_neg (by rw[hw];decide)]
  exact h _ (ha.put hd undef)⟩
theorem Mw.pass' {q:Bool} (hq:q=c) (hi:ops[i]? =some ⟨some d,op,ty,pos,af,some (j,b)⟩) (hd:Nat.blt d n=true)
 (hj:(ops[j]?).bind (·.dst)=some t) (ht:Nat.blt t n=true) (hv:ev ρ (.tmp t) = .bool q) (hne:(c==b)=false) (h:Mw P n ops C π Q (ρ.up d undef) w):Mw P n ops C ((i,k)::π) Q ρ w:=fun a ha=>
 ⟨_,hi,by
  have hw:=zh3 (o:=⟨some d,op,ty,pos,af,some (j,b)⟩) rfl hj ht hv ha
  rw[hq,hne]at hw
  rw[if_neg (by rw[hw];decide)]
  exact h _ (ha.put hd undef)⟩
theorem Mw.gp {q:Bool}(hq:q=b)(hj:(ops[j]?).bind (·.dst)=some t)(ht:Nat.blt t n=true)(hv:ev ρ (.tmp t) = .bool q)(hi:ops[i]? =some ⟨some d,op,ty,pos,af,some (j,b)⟩)(hd:Nat.blt d n=true)(hr: ∀ w,Run P ρ w op ty v)(h:Mw P n ops C π Q (ρ.up d v) w):Mw P n ops C ((i,0)::π) Q ρ w:=fun a ha=>
 ⟨_,hi,by
  have hw:=zh3 (o:=⟨some d,op,ty,pos,af,some (j,b)⟩) rfl hj ht hv ha
  rw[hq]at hw
  rw[if_pos (by rw[hw];simp)]
  exact⟨v,fun w=>by rw[ha.evalF];exact hr w _ rfl rfl,h _ (ha.put hd v)⟩⟩
theorem Mw.gq {q:Bool}(hq:q=b)(hj:(ops[j]?).bind (·.dst)=some t)(ht:Nat.blt t n=true)(hv:ev ρ (.tmp t) = .bool q)(hi:ops[i]? =some ⟨some d,op,ty,pos,af,some (j,b)⟩)(hd:Nat.blt d n=true)(hr: ∀ w,C w->Run P ρ w op ty v)(h:Mw P n ops C π Q (ρ.up d v) w):Mw P n ops C ((i,1)::π) Q ρ w:=fun a ha=>
 ⟨_,hi,by
  have hw:=zh3 (o:=⟨some d,op,ty,pos,af,some (j,b)⟩) rfl hj ht hv ha
  rw[hq]at hw
  rw[if_pos (by rw[hw];simp)]
  exact⟨v,fun w hC=>by rw[ha.evalF];exact hr w hC _ rfl rfl,h _ (ha.put hd v)⟩⟩
theorem Mw.gt {q:Bool}(hq:q=b)(hj:(ops[j]?).bind (·.dst)=some t)(ht:Nat.blt t n=true)(hv:ev ρ (.tmp t) = .bool q)(hi:ops[i]? =some ⟨some d,op,ty,pos,af,some (j,b)⟩)(hd:Nat.blt d n=true)(hr:Tr P ρ w op ty T)(h: ∀ v w',T v w'->C w'/\Mw P n ops C π Q (ρ.up d v) w'):Mw P n ops C ((i,2)::π) Q ρ w:=fun a ha=>
 ⟨_,hi,by
  have hw:=zh3 (o:=⟨some d,op,ty,pos,af,some (j,b)⟩) rfl hj ht hv ha
  rw[hq]at hw
  rw[if_pos (by rw[hw];simp)]
  exact hr _ rfl rfl a _ _ ha.evalF fun v w' hT=>⟨(h v w' hT).1,(h v w' hT).2 _ (ha.put hd v)⟩⟩
theorem Mw.gl {q:Bool}(hq:q=b)(hj:(ops[j]?).bind (·.dst)=some t)(ht:Nat.blt t n=true)(hv:ev ρ (.tmp t) = .bool q)(hi:ops[i]? =some ⟨some d,op,ty,pos,af,some (j,b)⟩)(hd:Nat.blt d n=true)(hr:Tr P ρ w op ty T)(h: ∀ v w',T v w'->Mw P n ops C π Q (ρ.up d v) w'):Mw P n ops C ((i,3)::π) Q ρ w:=fun a ha=>
 ⟨_,hi,by
  have hw:=zh3 (o:=⟨some d,op,ty,pos,af,some (j,b)⟩) rfl hj ht hv ha
  rw[hq]at hw
  rw[if_pos (by rw[hw];simp)]
  exact hr _ rfl rfl a _ _ ha.evalF fun v w' hT=>h v w' hT _ (ha.put hd v)⟩
end
section
variable {P:Program}{α:Type}[Rp α]{ρ:Env}{W:CW}{k:Nat}{K K':List Nat}{v u:Value}{xs ys zs:List α}{p q:Operand}{t e s b:Nat}{z:Value}{ty':Nat}{cs:List Value}{x:α}{g j:Nat}
theorem T.appP [Und P t (.slice e)] [Inf P e s b z] [Atm α] [Pl α] (h:Ow W k K [v] xs) (hr:Rd W K' [u] ys) (hp:ev ρ p=v) (hq:ev ρ q=u) (hm:apM xs ys=some zs)
 (hK:zem K [k]=true:=by rfl) (he:e=ty α:=by rfl) (hs:s=sz α:=by rfl) (hz:z.cells.size=s:=by rfl) (hs0:Nat.blt 0 s=true:=by rfl) (hb:Nat.ble b 32768=true:=by rfl):
 Tr P ρ W.w (.call ⟨.builtin .append,#[p,q],#[t,t]⟩) ty' (fun v' w'=> ∃ W',W'.w=w'/\Le [k] W W'/\Ow W' k K [v'] zs):=by
 unfold apM at hm
 split at hm
 case isFalse=>cases hm
 rename_i hl
 simp only[Option.some.injEq]at hm
 subst hm
 obtain⟨ad,c,ecs,rfl,hE,hfl,hca,hone⟩:=hr.each
 obtain⟨S,⟨v0,es,Ss,e0,ho⟩,hnS,hbS⟩:=h
 simp only[List.cons.injEq,and_true]at e0
 subst e0
 obtain⟨v',w',hrun,hrow,hg,hloc⟩:=zik (P:=P) (ty':=ty') (α:=α) (t:=t) he hs hz hs0 hb (c:=c) ho.row hfl hca hone hl
 refine T.builtin2 (by simp[hp,hq]) ⟨v',w',hrun,?_⟩
 refine zkr (Ts:=List.replicate ys.length []) [] ho hnS hbS hE.len (by simp) (fun i cs x T h1 h2 h3=>?_) (by simp) (fun b hb=>by simp at hb) (by simp) hK hrow hg hloc
 have:T=[]:=by
  have:=aH h3
  simpa using (List.mem_replicate.1 this).2
 subst this
 exact Atm.own (Pl.pl (hE.at_ i cs x h1 h2))
end
section
variable {P:Program}{ρ:Env}{w:World}{x:Operand}{a:Int}{ty s d e:Nat}
end
def zoT:List Nat->Bool
 | []=>true
 |c::cs=> !(cs.any (Nat.beq c))&&zoT cs
def okJ (K J:List Nat):Bool:=zem K J&&zoT J
section
variable {α:Type}[Rp α]{W Wf:CW}{K J L:List Nat}{f:Nat->Nat}{cs:List Value}{x:α}{c c' g n k:Nat}
theorem zoi {l:List Nat}{c:Nat}:l.any (Nat.beq c)=true↔c∈l:=by
 rw[List.any_eq_true]
 exact⟨fun⟨y,hy,e⟩=>by rw[Nat.eq_of_beq_eq_true e];exact hy,fun h=>⟨c,h,Nat.beq_refl c⟩⟩
theorem zqh: ∀ (J:List Nat) (i:Nat),zoT J=true->J[i]? =some c->J.findIdx? (Nat.beq c)=some i
 | [],i,_,h=>by simp at h
 |d::J,0,_,h=>by
  have e:d=c:=by simpa using h
  subst e
  rw[List.findIdx?_cons,Nat.beq_refl]
  rfl
 |d::J,i+1,hn,h=>by
  simp only[zoT,aG,Bool.not_eq_true']at hn
  have hm:J[i]? =some c:=by simpa using h
  have hne:Nat.beq c d=false:=by
   cases hb:Nat.beq c d with
   |false=>rfl
   |true=>
    have e:=Nat.eq_of_beq_eq_true hb
    have:=zoi.2 (aH hm)
    rw[e]at this
    rw[this]at hn
    cases hn.1
  rw[List.findIdx?_cons,hne,zqh J i hn.2 hm]
  rfl
theorem zup (i:Nat)(h:okJ K J=true)(hi:J[i]? =some c):vc K J c=i+2:=by
 simp only[okJ,aG]at h
 have hk:K.any (Nat.beq c)=false:=by
  cases hb:K.any (Nat.beq c)with
  |false=>rfl
  |true=>exact absurd (aH hi) (zcM h.1 (zoi.1 hb))
 unfold vc
 rw[hk,zqh J i h.2 hi]
 rfl
theorem zoU: ∀ (J:List Nat) (i:Nat),J.findIdx? (Nat.beq c)=some i->J[i]? =some c
 | [],i,h=>by simp at h
 |d::J,i,h=>by
  rw[List.findIdx?_cons]at h
  cases hb:Nat.beq c d with
  |true=>
   rw[hb]at h
   simp at h
   subst h
   rw[Nat.eq_of_beq_eq_true hb]
   rfl
  |false=>
   rw[hb]at h
   simp at h
   obtain⟨j,hj,rfl⟩:=h
   simpa using zoU J j hj
theorem zqi {i:Nat}(h:vc K J c=i+2):J[i]? =some c:=by
 unfold vc at h
 cases hb:K.any (Nat.beq c)with
 |true=>rw[hb]at h;simp at h
 |false=>
  rw[hb]at h
  simp only[aC]at h
  split at h
  ·rename_i j hj
   have:j=i:=by omega
   subst this
   exact zoU J j hj
  ·omega
theorem zww:vc K J c<J.length+2:=by
 cases hb:vc K J c with
 |zero=>omega
 |succ m=>
  cases m with
  |zero=>omega
  |succ i=>
   have:=(List.getElem?_eq_some_iff.1 (zqi hb)).1
   omega
theorem vc_not (h:c∉J):vc K J c=0\/vc K J c=1:=by
 cases hb:vc K J c with
 |zero=>exact .inl rfl
 |succ m=>
  cases m with
  |zero=>exact .inr rfl
  |succ i=>exact absurd (aH (zqi hb)) h
theorem Bx.viewJ (h:Bx W c g cs)(i:Nat)(hJ:okJ K J=true)(hi:J[i]? =some c:=by rfl):Bx (W.view K J) (i+2) g cs:=⟨by show vc K J (W.c g)=i+2;rw[h.1,zup i hJ hi],h.2⟩
theorem Ow.viewJ (h:Ow W c [] cs x)(i:Nat)(hJ:okJ K J=true)(hi:J[i]? =some c:=by rfl):Ow (W.view K J) (i+2) [] cs x:=by
 obtain⟨S,ho,hn,hb⟩:=h
 refine⟨S,own_mono (fun b hb=>absurd hb.2 (by simp)) ho,hn,fun b hb'=>⟨(hb b hb').1,?_⟩⟩
 show vc K J (W.c b)=i+2
 rw[(hb b hb').2,zup i hJ hi]
theorem Le.backJ (l:Le L (W.view K J) Wf)(hL:zem [0,1] L=true)(f:Nat->Nat):Le J W (W.back Wf K J f):=
 ⟨l.os,l.tape,l.output,l.size,fun b hb hJ=>by
  have hv:(W.view K J).c b∉L:=by
   rcases vc_not (K:=K) hJ with h2 |h2
   ·show vc K J (W.c b)∉L
    rw[h2];exact zcM hL (by simp)
   ·show vc K J (W.c b)∉L
    rw[h2];exact zcM hL (by simp)
  obtain⟨h1,h2⟩:=l.keep b hb hv
  exact⟨h1,if_pos ⟨hb,h2⟩⟩⟩
theorem zoV {b i:Nat}(hb:Wf.c b=i+2)(hf:f (i+2)=c)(hi:J[i]? =some c):(W.back Wf K J f).c b=c:=by
 show(if b<W.w.heap.size/\Wf.c b=vc K J (W.c b) then W.c b else f (Wf.c b))=c
 split
 ·rename_i hh
  have:=zqi (i:=i) (by rw[<- hh.2,hb])
  rw[this]at hi
  exact Option.some.inj hi
 ·rw[hb,hf]
theorem zoW {b:Nat}(hb:J.length+2<=Wf.c b)(hf:f (Wf.c b)=k):(W.back Wf K J f).c b=k:=by
 show(if b<W.w.heap.size/\Wf.c b=vc K J (W.c b) then W.c b else f (Wf.c b))=k
 rw[if_neg,hf]
 rintro⟨_,e⟩
 have:=zww (K:=K) (J:=J) (c:=W.c b)
 omega
theorem Bx.backJ (i:Nat)(h:Bx Wf (i+2) g cs)(hf:f (i+2)=c)(hi:J[i]? =some c:=by rfl):Bx (W.back Wf K J f) c g cs:=⟨zoV h.1 hf hi,h.2⟩
theorem Ow.backJ (i:Nat)(h:Ow Wf (i+2) [] cs x)(hf:f (i+2)=c)(hi:J[i]? =some c:=by rfl):Ow (W.back Wf K J f) c [] cs x:=by
 obtain⟨S,ho,hn,hb⟩:=h
 exact⟨S,own_mono (fun b hb=>absurd hb.2 (by simp)) ho,hn,fun b hb'=>⟨(hb b hb').1,zoV (hb b hb').2 hf hi⟩⟩
theorem Bx.backN (h:Bx Wf n g cs)(hf:f n=k)(hn:Nat.ble (J.length+2) n=true:=by rfl):Bx (W.back Wf K J f) k g cs:=⟨zoW (by rw[h.1];exact Nat.le_of_ble_eq_true hn) (by rw[h.1,hf]),h.2⟩
theorem Ow.backN (h:Ow Wf n [] cs x)(hf:f n=k)(hn:Nat.ble (J.length+2) n=true:=by rfl):Ow (W.back Wf K J f) k [] cs x:=by
 obtain⟨S,ho,hnd,hb⟩:=h
 exact⟨S,own_mono (fun b hb=>absurd hb.2 (by simp)) ho,hnd,fun b hb'=>⟨(hb b hb').1,zoW (by rw[(hb b hb').2];exact Nat.le_of_ble_eq_true hn) (by rw[(hb b hb').2,hf])⟩⟩
theorem zap.adJ {P:Program}{fid:FuncId}{vals:Array Value}{R R':CW->Value->Prop}(f':Nat->Nat)(h:zap P fid vals (W.view K J).w (Res (W.view K J) LL R))(hR: ∀ Wf v,R Wf v->R' (W.back Wf K J f') v):zap P fid vals W.w (Res W J R'):=
 zap.mono h fun v w' ⟨Wf,e,l,hr⟩=>by subst e;exact⟨W.back Wf K J f',rfl,l.backJ rfl f',hR Wf v hr⟩
end
class Fl (α β:Type) [Rp α] [Rp β] (j:Nat) (get:outParam (α->β)) (set:outParam (α->β->α)):Prop where
 lens: ∀ {w:World} {A:Nat->Prop} {S:List Nat} {cs:List Value} {x:α},own w A S cs x -> ∃ u T R,cs[j]? =some u/\own w A T [u] (get x)/\S.Perm (T++R)/\
  ∀ {w':World} {T':List Nat} {y:β},(∀ b,A b->w'.heap[b]? =w.heap[b]?)->(∀ b∈R,w'.heap[b]? =w.heap[b]?)->own w' A T' [u] y -> ∃ S',own w' A S' cs (set x y)/\S'.Perm (T'++R)
theorem ztB {P:Program}{t t' t2:Nat}{R:Value->World->Prop}{ρ:Env}{w:World}{v v' v2:Value}(h:ρ t=v)(h':ρ t'=v')(h2:ρ t2=v2)(hR:R (.tuple #[v,v',v2]) w):zsL P [.tmp t, .tmp t', .tmp t2] R .ret ρ w:=⟨[v,v',v2],⟨h.symm,h'.symm,h2.symm,trivial⟩,hR⟩
theorem Bx.dyeO {W:CW}{k g:Nat}{cs:List Value}(h:Bx W k g cs)(k':Nat): ∃ W',W'.w=W.w/\Le [k] W W'/\Bx W' k' g cs:=⟨W.dye k k',rfl,Le.dye k k',CW.dye_new h.1,h.2⟩
section
variable {α β γ:Type}[Rp α][Rp β][Rp γ]
theorem Fl.self (h:sz α=1):Fl α α 0 (fun x=>x) (fun _ y=>y):= {
 lens:=fun {w A S cs x} ho=>by
  have hl:=own_len ho
  rw[h]at hl
  match cs,hl with
  | [u],_=>exact⟨u,S,[],rfl,ho,by simp,fun {w' T' y} _ _ h=>⟨T',h,by simp⟩⟩}
instance :Fl (List α) (List α) 0 (fun x=>x) (fun _ y=>y):=Fl.self rfl
theorem Fl.fst (h:sz α=1):Fl (α×β) α 0 (fun x=>x.1) (fun x y=>(y,x.2)):= {
 lens:=fun {w A S cs x} ho=>by
  obtain⟨c,d,S1,S2,rfl,rfl,h1,h2⟩:=ho
  have hl:=own_len h1
  rw[h]at hl
  match c,hl with
  | [u],_=>exact⟨u,S1,S2,rfl,h1,List.Perm.refl _,fun {w' T' y} hA hR h=>⟨T'++S2,⟨[u],d,T',S2,rfl,rfl,h,own_keep hA hR h2⟩,List.Perm.refl _⟩⟩}
theorem Fl.snd {j:Nat}{get:β->γ}{set:β->γ->β}(h:sz α=1)(f:Fl β γ j get set):Fl (α×β) γ (j+1) (fun x=>get x.2) (fun x y=>(x.1,set x.2 y)):= {
 lens:=fun {w A S cs x} ho=>by
  obtain⟨c,d,S1,S2,rfl,rfl,h1,h2⟩:=ho
  have hl:=own_len h1
  rw[h]at hl
  match c,hl with
  | [u0],_=>
   obtain⟨u,T,R,hu,ht,hp,hw⟩:=f.lens h2
   refine⟨u,T,S1++R,by simpa using hu,ht,?_,fun {w' T' y} hA hR h=>?_⟩
   ·exact(List.Perm.append_left S1 hp).trans (by
     rw[<- List.append_assoc,<- List.append_assoc]
     exact List.Perm.append_right R List.perm_append_comm)
   ·obtain⟨S',h3,h4⟩:=hw hA (fun b hb=>hR b (aJ _ hb)) h
    refine⟨S1++S',⟨[u0],d,S1,S',rfl,rfl,own_keep hA (fun b hb=>hR b (List.mem_append_left _ hb)) h1,h3⟩,?_⟩
    exact(List.Perm.append_left S1 h4).trans (by
     rw[<- List.append_assoc,<- List.append_assoc]
     exact List.Perm.append_right R List.perm_append_comm)}
theorem zkt {δ:Type}: ∀ (Ss:List (List δ)) (i:Nat) (T:List δ),Ss[i]? =some T -> ∃ A B,Ss.flatten=A++(T++B) /\ ∀ T',(Ss.set i T').flatten=A++(T'++B)
 | [],i,T,h=>by simp at h
 |U::Ss,0,T,h=>by
  have:U=T:=by simpa using h
  subst this
  exact⟨[],Ss.flatten,by simp,fun T'=>by simp⟩
 |U::Ss,i+1,T,h=>by
  obtain⟨A,B,h1,h2⟩:=zkt Ss i T (by simpa using h)
  exact⟨U++A,B,by simp[h1],fun T'=>by simp[h2]⟩
theorem zjq {δ:Type}(O A T R B:List δ){S:List δ}(h:S.Perm (T++R)):(O++(A++(S++B))).Perm (T++(O++(A++(R++B)))):=by
 have h1:(O++(A++(S++B))).Perm (O++(A++((T++R)++B))):=List.Perm.append_left O (List.Perm.append_left A (List.Perm.append_right B h))
 refine h1.trans ?_
 have h2:O++(A++((T++R)++B))=(O++A)++(T++(R++B)):=by simp
 have h3:T++(O++(A++(R++B)))=T++((O++A)++(R++B)):=by simp
 rw[h2,h3,<- List.append_assoc,<- List.append_assoc T]
 exact List.Perm.append_right _ List.perm_append_comm
theorem Ow.lend {W:CW}{c j jf:Nat}{v uv:Value}{xs:List α}{x:α}{i:Int}{get:α->β}{set:α->β->α}[f:Fl α β jf get set](h:Ow W c [] [v] xs)(hx:gi xs i=some x)(hcell:W.w.cell? (((slA v).add (i.toNat*sz α)).add jf)=some uv)(hj:Nat.beq j c=false):
 ∃ W1,W1.w=W.w/\Le [c] W W1/\Ow W1 j [] [uv] (get x) /\ ∀ W2 y,Le [j] W1 W2->Ow W2 j [] [uv] y -> ∃ W3,W3.w=W2.w/\Le [c,j] W2 W3 /\ ∃ ys,siM xs i (set x y)=some ys/\Ow W3 c [] [v] ys:=by
 obtain⟨S,⟨v0,es,Ss,e0,ho⟩,hnS,hbS⟩:=h
 simp only[List.cons.injEq,and_true]at e0
 subst e0
 obtain⟨h0,hxi,hil⟩:=zgC hx
 have l1:i.toNat<es.length:=by rw[ho.elen];exact hil
 have l2:i.toNat<Ss.length:=by rw[ho.slen];exact hil
 have hel:=ho.at_ i.toNat _ x _ (aB l1) hxi (aB l2)
 obtain⟨u,T,R,hu,ht,hp,hw⟩:=f.lens hel
 have huv:uv=u:=by
  rcases ho.row.2 with ⟨rfl,hn⟩ |⟨g,cap,cur,rfl,hb,hg,rest⟩
  ·omega
  ·have h1:=ho.row.cells (g:=g) rfl _ u (zge (sz α) es i.toNat _ ho.len (aB l1) jf u hu)
   rw[zfE]at hcell
   rw[show(slA (.slice (some ⟨g,0,none⟩) xs.length cap))=⟨g,0,none⟩ from rfl]at hcell
   rw[h1]at hcell
   exact(Option.some.inj hcell).symm
 subst huv
 have hne:j≠c:=fun e=>by rw[e,Nat.beq_refl]at hj;cases hj
 obtain⟨A,B,hf1,hf2⟩:=zkt Ss i.toNat _ (aB l2)
 -- all blocks of the row but those of the part
 let Q:=v.ownBlock.toList++(A++(R++B))
 have hSp:S.Perm (T++Q):=by
  rw[ho.S,hf1]
  exact zjq _ _ _ _ _ hp
 have hTQ:(T++Q).Nodup:=hSp.nodup_iff.1 hnS
 rw[List.nodup_append]at hTQ
 obtain⟨hT,hQ,hTQ⟩:=hTQ
 have hTb: ∀ b∈T,b<W.w.heap.size/\W.c b=c:=fun b hb=>hbS b (hSp.mem_iff.2 (List.mem_append_left _ hb))
 have hQb: ∀ b∈Q,b<W.w.heap.size/\W.c b=c:=fun b hb=>hbS b (hSp.mem_iff.2 (aJ _ hb))
 let W1:CW:=⟨W.w,fun b=>if b∈T then j else W.c b⟩
 refine⟨W1,rfl,⟨rfl,rfl,rfl,Nat.le_refl _,fun b hb hc=>⟨rfl,if_neg fun hm=>hc (by simp[(hTb b hm).2])⟩⟩,⟨T,own_mono (fun b hb=>absurd hb.2 (by simp)) ht,hT,fun b hb=>⟨(hTb b hb).1,if_pos hb⟩⟩,?_⟩
 rintro W2 y l ⟨T',ho',hnT',hbT'⟩
 have hQ1: ∀ b∈Q,W1.c b=c:=fun b hb=>by
  show(if b∈T then j else W.c b)=c
  rw[if_neg fun hm=>hTQ b hm b hb rfl]
  exact(hQb b hb).2
 have hQ2: ∀ b∈Q,W2.w.heap[b]? =W.w.heap[b]? /\W2.c b=c:=fun b hb=>by
  obtain⟨h1,h2⟩:=l.keep b (hQb b hb).1 (by rw[hQ1 b hb];simpa using Ne.symm hne)
  exact⟨h1,by rw[h2,hQ1 b hb]⟩
 have hRQ: ∀ b∈R,b∈Q:=fun b hb=>aJ _ (aJ _ (List.mem_append_left _ hb))
 obtain⟨S'',ho2,hp2⟩:=hw (w':=W2.w) (fun b hb=>absurd hb.2 (by simp)) (fun b hb=>(hQ2 b (hRQ b hb)).1) (own_mono (A':=AK W []) (fun b hb=>absurd hb.2 (by simp)) ho')
 have hS3:(v.ownBlock.toList++(Ss.set i.toNat S'').flatten).Perm (T'++Q):=by
  rw[hf2]
  exact zjq _ _ _ _ _ hp2
 have hdis: ∀ a∈T',∀ b∈Q,a≠b:=fun a ha b hb e=>hne (by rw[<- (hbT' a ha).2,e,(hQ2 b hb).2])
 let W3:CW:=⟨W2.w,fun b=>if b∈T' then c else W2.c b⟩
 refine⟨W3,rfl,⟨rfl,rfl,rfl,Nat.le_refl _,fun b hb hc=>⟨rfl,if_neg fun hm=>hc (by simp[(hbT' b hm).2])⟩⟩,xs.set i.toNat (set x y),?_,?_⟩
 ·unfold siM
  rw[if_pos ⟨h0,by omega⟩]
 refine⟨v.ownBlock.toList++(Ss.set i.toNat S'').flatten,⟨v,es,Ss.set i.toNat S'',rfl,?_,rfl,by simp[ho.elen],by simp[ho.slen],fun k cs z U h1 h2 h3=>?_⟩,?_,fun b hb=>?_⟩
 ·rw[List.length_set]
  refine⟨ho.row.1,?_⟩
  rcases ho.row.2 with hn |⟨g,cap,cur,rfl,hb,hg,rest⟩
  ·exact .inl hn
  ·exact .inr ⟨g,cap,cur,rfl,hb,by rw[(hQ2 g (List.mem_append_left _ (by simp[Value.ownBlock]))).1];exact hg,rest⟩
 ·by_cases e:i.toNat=k
  ·subst e
   rw[List.getElem?_set_self hil]at h2
   rw[List.getElem?_set_self l2]at h3
   rw[aB l1]at h1
   cases h1;cases h2;cases h3
   exact own_mono (fun b hb=>absurd hb.2 (by simp)) ho2
  ·rw[List.getElem?_set_ne e]at h2 h3
   refine own_mono (A:=AK W []) (fun b hb=>absurd hb.2 (by simp)) (own_keep (fun b hb=>absurd hb.2 (by simp)) (fun b hb'=>?_) (ho.at_ k cs z U h1 h2 h3))
   refine(hQ2 b ?_).1
   have hfl:b∈(Ss.set i.toNat ([]:List Nat)).flatten:=by
    refine List.mem_flatten.2 ⟨U,?_,hb'⟩
    have:(Ss.set i.toNat ([]:List Nat))[k]? =some U:=by rw[List.getElem?_set_ne e];exact h3
    exact aH this
   rw[hf2,List.nil_append]at hfl
   rcases List.mem_append.1 hfl with hm |hm
   ·exact aJ _ (List.mem_append_left _ hm)
   ·exact aJ _ (aJ _ (aJ _ hm))
 ·rw[hS3.nodup_iff,List.nodup_append]
  exact⟨hnT',hQ,hdis⟩
 ·rcases List.mem_append.1 (hS3.mem_iff.1 hb)with hm |hm
  ·exact⟨(hbT' b hm).1,if_pos hm⟩
  ·refine⟨Nat.lt_of_lt_of_le (hQb b hm).1 l.size,?_⟩
   show(if b∈T' then c else W2.c b)=c
   rw[if_neg fun h=>hdis b h b hm rfl]
   exact(hQ2 b hm).2
end
section
variable {P:Program}{ρ:Env}{α β:Type}[Rp α][Rp β]{W:CW}{t e s b ty':Nat}{z:Value}
def OwL (W:CW)(J:List Nat)(css:List (List Value))(xs:List α):Prop:= ∃ Ss:List (List Nat),css.length=xs.length/\Ss.length=xs.length/\
 (∀ (i:Nat) cs x T,css[i]? =some cs->xs[i]? =some x->Ss[i]? =some T->own W.w (AK W []) T cs x)/\Ss.flatten.Nodup /\ ∀ b∈Ss.flatten,b<W.w.heap.size/\W.c b∈J
theorem OwL.nil:OwL W [] [] ([]:List α):=⟨[],rfl,rfl,fun i cs x T h=>by simp at h,by simp,by simp⟩
theorem OwL.cons {J J':List Nat}{cs:List Value}{css:List (List Value)}{x:α}{xs:List α}(h:OwS W J [] cs x)(r:OwL W J' css xs)(hd:zem J J'=true:=by rfl):OwL W (J++J') (cs::css) (x::xs):=by
 obtain⟨S,ho,hn,hb⟩:=h
 obtain⟨Ss,h1,h2,h3,h4,h5⟩:=r
 refine⟨S::Ss,by simp[h1],by simp[h2],fun i cs x T a b c=>?_,?_,fun b hb'=>?_⟩
 ·cases i with
  |zero=>simp at a b c;subst a b c;exact ho
  |succ i=>exact h3 i cs x T (by simpa using a) (by simpa using b) (by simpa using c)
 ·rw[List.flatten_cons,List.nodup_append]
  exact⟨hn,h4,fun a ha b hb' e=>zcM hd (hb a ha).2 (by rw[e];exact(h5 b hb').2)⟩
 ·rw[List.flatten_cons]at hb'
  rcases List.mem_append.1 hb' with h |h
  ·exact⟨(hb b h).1,List.mem_append_left _ (hb b h).2⟩
  ·exact⟨(h5 b h).1,aJ _ (h5 b h).2⟩
theorem zxM:([]:List Value).map (·.cells.toList)=[]:=rfl
theorem zxN {v:Value}{vs:List Value}{cs:List Value}{css:List (List Value)}(h:v.cells.toList=cs)(t:vs.map (·.cells.toList)=css):(v::vs).map (·.cells.toList)=cs::css:=by
 rw[List.map_cons,t,h]
theorem bsL {J:List Nat}{vs:List Value}{xs:List α}(css:List (List Value))(h:vs.map (·.cells.toList)=css)(k:OwL W J css xs):OwL W J (vs.map (·.cells.toList)) xs:=h▸k
theorem T.bsO (k:Nat) [Und P t (.slice e)] [Inf P e s b z] {n:Nat} {J:List Nat} {parts:Array (Nat×Operand)} {xs:List α} (vs:List Value) (hE:OwL W J (vs.map (·.cells.toList)) xs) (hp:parts.toList.map (fun p=>(p.1,ev ρ p.2))=(vs.zipIdx 0).map fun p=>(p.2,p.1))
 (hs:s=sz α:=by rfl) (he:e=ty α:=by rfl) (hn:vs.length=n:=by rfl) (hs0:Nat.blt 0 s=true:=by rfl) (hlim:Nat.ble (n*s) 16777216=true:=by rfl):
 Tr P ρ W.w (.buildSlice t n parts) ty' (fun u w'=> ∃ W',W'.w=w'/\Le J W W'/\Ow W' k [] [u] xs):=Tr.of_run fun o h1 _=>by
 have hs0':0<s:=by simpa[Nat.blt_eq]using hs0
 have hlim':n*s<=16777216:=by simpa using hlim
 have hn':n<=16777216:=Nat.le_trans (Nat.le_mul_of_pos_right n hs0') hlim'
 obtain⟨Ss,hel,hsl,hat,hnd,hbd⟩:=hE
 have hxl:xs.length=n:=by rw[<- hel];simpa using hn
 have hcl: ∀ cs∈vs.map (·.cells.toList),cs.length=s:=fun cs hc=>by
  obtain⟨i,hi⟩:=List.getElem?_of_mem hc
  have l1:i<xs.length:=by rw[<- hel];exact(List.getElem?_eq_some_iff.1 hi).1
  have l2:i<Ss.length:=by rw[hsl];exact l1
  rw[hs]
  exact own_len (hat i cs _ _ hi (aB l1) (aB l2))
 have hfl:(vs.map (·.cells.toList)).flatten.length=n*s:=by
  have: ∀ l:List (List Value),(∀ c∈l,c.length=s)->l.flatten.length=l.length*s:=by
   intro l
   induction l with
   |nil=>intro _;simp
   |cons e es ih=>intro h;rw[List.flatten_cons,List.length_append,h e (by simp),ih (fun c hc=>h c (by simp[hc])),aL,Nat.add_mul];omega
  rw[this _ hcl]
  simp[hn]
 let W1:CW:=W.new k (.cells (vs.map (·.cells.toList)).flatten.toArray e)
 let W':CW:=⟨W1.w,fun b=>if b∈Ss.flatten then k else W1.c b⟩
 have hold: ∀ b,b<W.w.heap.size->W1.w.heap[b]? =W.w.heap[b]? /\W1.c b=W.c b:=fun b hb=>(Le.new (L:=[]) k _:Le [] W W1).keep b hb (by simp)
 have hle:Le J W W':=⟨(Le.new (L:=[]) k _:Le [] W W1).os,(Le.new (L:=[]) k _:Le [] W W1).tape,(Le.new (L:=[]) k _:Le [] W W1).output,(Le.new (L:=[]) k _:Le [] W W1).size,fun b hb hc=>⟨(hold b hb).1,by
  show(if b∈Ss.flatten then k else W1.c b)=W.c b
  rw[if_neg fun hm=>hc (hbd b hm).2]
  exact(hold b hb).2⟩⟩
 refine⟨_,_,zqe hn hp (fun v hv=>by have:=hcl _ (List.mem_map_of_mem (f:=fun v:Value=>v.cells.toList) hv);simpa using this) hlim' _ o h1,W',rfl,hle,W.w.heap.size::Ss.flatten,⟨_,vs.map (·.cells.toList),Ss,rfl,?_,by simp[Value.ownBlock],hel,hsl,fun i cs x T h1 h2 h3=>?_⟩,?_,fun b hb=>?_⟩
 ·subst he
  have:=World.ownsRow_lit (base:=0) (e:=ty α) (size:=s) W.w (vs.map (·.cells.toList)).flatten.toArray n (Nat.zero_le _) (by unfold maxLen;omega) (by simpa using hfl)
  rw[hxl,<- hs]
  exact this
 ·refine own_mono (A:=AK W []) (fun b hb=>absurd hb.2 (by simp)) (own_keep (fun b hb=>absurd hb.2 (by simp)) (fun b hb=>?_) (hat i cs x T h1 h2 h3))
  exact(hold b (hbd b (List.mem_flatten.2 ⟨T,aH h3,hb⟩)).1).1
 ·rw[List.nodup_cons]
  exact⟨fun hm=>by have:=(hbd _ hm).1;omega,hnd⟩
 ·rcases List.mem_cons.1 hb with e0 |hm
  ·subst e0
   refine⟨by simp[W',W1,CW.new],?_⟩
   show(if W.w.heap.size∈Ss.flatten then k else W1.c W.w.heap.size)=k
   rw[if_neg fun hm=>by have:=(hbd _ hm).1;omega]
   simp[W1,CW.new,Nat.beq_refl]
  ·exact⟨Nat.lt_of_lt_of_le (hbd b hm).1 hle.size,if_pos hm⟩
end
def zwx:List Value->Nat->Value
 | [],_=>undef
 |v:: _,0=>v
 |_::l,i+1=>zwx l i
def zaK:Value->Nat->Value
 | .agg a,i=>zwx a.toList i
 | .tuple a,i=>zwx a.toList i
 |_,_=>undef
def ups:Env->List (Option Nat)->Nat->Env->Env
 |ρ,[],_,_=>ρ
 |ρ,some d::ds,k,vs=>ups (ρ.up d (vs k)) ds (k+1) vs
 |ρ,none::ds,k,vs=>ups ρ ds (k+1) vs
def inD (d:Nat)(ds:List (Option Nat)):Bool:=ds.any fun x=>match x with |some e=>Nat.beq d e |none=>false
def zlf:List (Option Nat)->Bool
 | []=>true
 |some d::ds=> !inD d ds&&zlf ds
 |none::ds=>zlf ds
theorem zsN {ρ:Env}{d e:Nat}{u v:Value}(h:Nat.beq d e=false):(ρ.up d u).up e v=(ρ.up e v).up d u:=by
 funext i
 simp only[Env.up]
 cases h1:Nat.beq i d<;>cases h2:Nat.beq i e<;>simp
 rw[Nat.eq_of_beq_eq_true h1]at h2
 rw[h]at h2
 cases h2
theorem zsO {ρ:Env}{d:Nat}{u v:Value}:(ρ.up d u).up d v=ρ.up d v:=by
 funext i
 simp only[Env.up]
 cases Nat.beq i d<;>rfl
theorem zqj {ρ:Env}{d:Nat}:ρ.up d (ρ d)=ρ:=by
 funext i
 simp only[Env.up]
 cases h:Nat.beq i d
 ·rfl
 ·rw[Nat.eq_of_beq_eq_true h];rfl
theorem zcf {vs:Env}{j:Nat}{v:Value}(h:vs j=v): ∃ vs':Env,vs=vs'.up j v:=⟨vs,by rw[<- h,zqj]⟩
theorem zqk {vs:Env}{j k:Nat}{v:Value}(h:j≠k):(vs.up j v) k=vs k:=by
 simp only[Env.up]
 cases hb:Nat.beq k j with
 |false=>rfl
 |true=>exact absurd (Nat.eq_of_beq_eq_true hb).symm h
theorem zql: ∀ (ds:List (Option Nat)) (k:Nat) (vs ρ:Env) (d:Nat) (v:Value),inD d ds=false->(ups ρ ds k vs).up d v=ups (ρ.up d v) ds k vs
 | [],k,vs,ρ,d,v,_=>rfl
 |some e::ds,k,vs,ρ,d,v,h=>by
  simp only[inD,List.any_cons,Bool.or_eq_false_iff]at h
  simp only[ups]
  rw[zql ds _ vs _ d v h.2,zsN]
  cases hb:Nat.beq e d with
  |false=>rfl
  |true=>
   have:=Nat.eq_of_beq_eq_true hb
   subst this
   rw[Nat.beq_refl]at h
   cases h.1
 |none::ds,k,vs,ρ,d,v,h=>by
  simp only[inD,List.any_cons,Bool.or_eq_false_iff]at h
  simp only[ups]
  exact zql ds _ vs ρ d v h.2
theorem zoX: ∀ (ds:List (Option Nat)) (k j:Nat) (vs ρ:Env) (v:Value),j<k->ups ρ ds k (vs.up j v)=ups ρ ds k vs
 | [],k,j,vs,ρ,v,_=>rfl
 |some e::ds,k,j,vs,ρ,v,h=>by
  simp only[ups]
  rw[zqk (by omega),zoX ds (k+1) j vs _ v (by omega)]
 |none::ds,k,j,vs,ρ,v,h=>by
  simp only[ups]
  exact zoX ds (k+1) j vs _ v (by omega)
theorem zoj: ∀ (ds:List (Option Nat)) (k:Nat) (vs ρ:Env) (i d:Nat) (v:Value),zlf ds=true->ds[i]? =some (some d)->(ups ρ ds k vs).up d v=ups ρ ds k (vs.up (k+i) v)
 | [],k,vs,ρ,i,d,v,_,h=>by simp at h
 |some e::ds,k,vs,ρ,0,d,v,hn,h=>by
  have:e=d:=by simpa using h
  subst this
  simp only[zlf,aG,Bool.not_eq_true']at hn
  simp only[ups,Nat.add_zero]
  rw[zql ds _ vs _ _ _ hn.1,zsO,zoX ds (k+1) k vs _ v (by omega)]
  congr 2
  simp[Env.up]
 |none::ds,k,vs,ρ,0,d,v,hn,h=>by simp at h
 |some e::ds,k,vs,ρ,i+1,d,v,hn,h=>by
  simp only[zlf,aG,Bool.not_eq_true']at hn
  simp only[ups]
  rw[zoj ds (k+1) vs _ i d v hn.2 (by simpa using h),zqk (by omega),show k+1+i=k+(i+1) by omega]
 |none::ds,k,vs,ρ,i+1,d,v,hn,h=>by
  simp only[zlf]at hn
  simp only[ups]
  rw[zoj ds (k+1) vs _ i d v hn (by simpa using h),show k+1+i=k+(i+1) by omega]
theorem zmH: ∀ (ds:List (Option Nat)) (k:Nat) (vs ρ:Env) (i:Nat) (v:Value),ds[i]? =some none->ups ρ ds k (vs.up (k+i) v)=ups ρ ds k vs
 | [],k,vs,ρ,i,v,h=>by simp at h
 |some e::ds,k,vs,ρ,0,v,h=>by simp at h
 |none::ds,k,vs,ρ,0,v,h=>by
  simp only[ups,Nat.add_zero]
  exact zoX ds (k+1) k vs ρ v (by omega)
 |some e::ds,k,vs,ρ,i+1,v,h=>by
  simp only[ups]
  rw[zqk (by omega),show k+(i+1)=k+1+i by omega,zmH ds (k+1) vs _ i v (by simpa using h)]
 |none::ds,k,vs,ρ,i+1,v,h=>by
  simp only[ups]
  rw[show k+(i+1)=k+1+i by omega,zmH ds (k+1) vs _ i v (by simpa using h)]
def zuq (ρ:Env)(ds:List (Option Nat))(i:Nat):Value:=match ds.getD i none with
 |some d=>ρ d
 |none=>undef
theorem zlg: ∀ (ds:List (Option Nat)) (k:Nat) (ρ vs:Env),(∀ i d,ds[i]? =some (some d)->vs (k+i)=ρ d)->ups ρ ds k vs=ρ
 | [],k,ρ,vs,_=>rfl
 |some d::ds,k,ρ,vs,h=>by
  simp only[ups]
  rw[show vs k=ρ d from h 0 d rfl,zqj]
  exact zlg ds (k+1) ρ vs fun i e he=>by
   have:=h (i+1) e (by simpa using he)
   rwa [show k+1+i=k+(i+1) by omega]
 |none::ds,k,ρ,vs,h=>by
  simp only[ups]
  exact zlg ds (k+1) ρ vs fun i e he=>by
   have:=h (i+1) e (by simpa using he)
   rwa [show k+1+i=k+(i+1) by omega]
def at_ (l:List (List Nat))(i:Nat):List Nat:=l.getD i []
def zj0 (o:Oper):List Nat:=(o.after.toList.filter (Region.binds .any ·)).map (·.on)
def zwy (l:List Oper)(n nd:Nat)(A N L D C:List (List Nat))(E LA:List Nat):Bool:=
 ((l.zipIdx 0).all fun p=>p.1.guard.isNone&&(zj0 p.1).all (Nat.blt · p.2)&&(at_ A p.2).all (fun k=>(zj0 p.1).any (Nat.beq k)||(zj0 p.1).any fun m=>(at_ A m).any (Nat.beq k))&&
  (at_ N p.2).all (fun j=>(Nat.ble n j||(at_ A p.2).any (Nat.beq j))&&(List.range n).all fun k=>Nat.beq k p.2||Nat.beq k j||zem (at_ C j) (at_ L k)||(at_ A k).any (Nat.beq p.2)||(Nat.blt j n&&(at_ A j).any (Nat.beq k)))&&
  zkq (at_ L p.2) LA&&(match p.1.dst with |some d=>Nat.blt d nd |none=>true))&&
 ((List.range n).all fun j=>(at_ D j).all fun k=>Nat.beq k j||(at_ A j).any (Nat.beq k))&&
 (E.all fun j=>(List.range n).all fun k=>Nat.beq k j||zem (at_ C j) (at_ L k)||(Nat.blt j n&&(at_ A j).any (Nat.beq k)))&&(D.drop n).all (fun d=>d.isEmpty)&&Region.noSelect l.toArray&&zlf (l.map (·.dst))&&Nat.beq l.length n
abbrev Fact:=Env->CW->Prop
def fat (F:List Fact)(j:Nat):Fact:=F.getD j fun _ _=>True
def zxr (P:Program)(ds:List (Option Nat))(ρ:Env)(W0:CW)(A N L:List (List Nat))(F:List Fact)(LA:List Nat)(i:Nat)(o:Oper):Prop:=
 ∀ vs W,Le LA W0 W->(∀ j∈at_ N i,fat F j vs W)->(∀ k,i∈at_ A k->vs k=zuq ρ ds k)->Tr P (ups ρ ds 0 vs) W.w o.op o.type fun v w'=> ∃ W',W'.w=w'/\Le (at_ L i) W W'/\fat F i (vs.up i v) W'
def zdc (G:Nat->Oper->Prop):List Oper->Nat->Prop
 | [],_=>True
 |o::l,i=>G i o/\zdc G l (i+1)
theorem zdc.at_ {G:Nat->Oper->Prop}: ∀ {l:List Oper} {k i:Nat} {o:Oper},zdc G l k->l[i]? =some o->G (k+i) o
 | [],k,i,o,_,h=>by simp at h
 |x::l,k,0,o,hs,h=>by
  have:x=o:=by simpa using h
  subst this
  exact hs.1
 |x::l,k,i+1,o,hs,h=>by
  have:=zdc.at_ (i:=i) hs.2 (by simpa using h)
  rwa [show k+1+i=k+(i+1) by omega]at this
def Sup (D C:List Nat)(f:Fact):Prop:= ∀ vs vs' W W' L,(∀ k∈D,vs' k=vs k)->Le L W W'->zem C L=true->f vs W->f vs' W'
def zgf:List (List Nat)->List (List Nat)->List Fact->Prop
 |D::Ds,C::Cs,f::Fs=>Sup D C f/\zgf Ds Cs Fs
 |_,_,[]=>True
 |_,_,_=>False
theorem zgf.at_: ∀ {Ds Cs:List (List Nat)} {Fs:List Fact} (j:Nat),zgf Ds Cs Fs->Sup (Sx.at_ Ds j) (Sx.at_ Cs j) (fat Fs j)
 |Ds,Cs,[],j,_=>fun vs vs' W W' L _ _ _ _=>by simp[fat]
 | [],_,f::Fs,j,h=>by simp[zgf]at h
 |_:: _,[],f::Fs,j,h=>by simp[zgf]at h
 |D::Ds,C::Cs,f::Fs,0,h=>h.1
 |D::Ds,C::Cs,f::Fs,j+1,h=>zgf.at_ j h.2
theorem zcr {l:List Nat}{c:Nat}(h:l.any (Nat.beq c)=true):c∈l:=zoi.1 h
theorem zqm {α:Type}{p:α×Nat->Bool}: ∀ {l:List α} {k:Nat},(l.zipIdx k).all p=true -> ∀ (i:Nat) x,l[i]? =some x->p (x,k+i)=true
 | [],k,_,i,x,h=>by simp at h
 |y::l,k,ha,0,x,h=>by
  have e:y=x:=by simpa using h
  subst e
  simp only[List.zipIdx_cons,List.all_cons,aG]at ha
  exact ha.1
 |y::l,k,ha,i+1,x,h=>by
  simp only[List.zipIdx_cons,List.all_cons,aG]at ha
  have:=zqm ha.2 i x (by simpa using h)
  rwa [show k+1+i=k+(i+1) by omega]at this
def unl (listed:Array Bool):Nat->Nat
 |0=>0
 |n+1=>unl listed n+bif listed.getD n true then 0 else 1
theorem zqn {listed:Array Bool}{i:Nat}(h:listed.getD i true=false): ∀ n,unl (listed.setIfInBounds i true) n+(if i<n then 1 else 0)=unl listed n
 |0=>by simp[unl]
 |n+1=>by
  have hi:i<listed.size:=by
   apply Nat.lt_of_not_le
   intro hn
   simp[hn]at h
  have ih:=zqn h n
  simp only[unl]
  by_cases e:i=n
  ·subst e
   have h1:(listed.setIfInBounds i true).getD i true=true:=by simp[hi]
   rw[h1,h]
   simp only[Nat.lt_irrefl,if_false,Nat.add_zero]at ih
   simp[ih]
  ·have h1:(listed.setIfInBounds i true).getD n true=listed.getD n true:=getD_set_ne true e
   rw[h1]
   by_cases hlt:i<n
   ·rw[if_pos hlt]at ih
    rw[if_pos (by omega)]
    omega
   ·rw[if_neg hlt]at ih
    rw[if_neg (by omega)]
    omega
theorem zoY {listed:Array Bool}: ∀ {n:Nat},unl listed n=0 -> ∀ i,i<n->listed.getD i true=true
 |n+1,h,i,hi=>by
  simp only[unl]at h
  by_cases e:i=n
  ·subst e
   cases hb:listed.getD i true with
   |true=>rfl
   |false=>rw[hb]at h;simp at h
  ·exact zoY (n:=n) (by omega) i (by omega)
section
variable {P:Program}{nd:Nat}{R:Post}{ρ:Env}{W0:CW}{l:List Oper}{A N L D C:List (List Nat)}{E LA:List Nat}{F:List Fact}
structure ParInv (nd:Nat) (ρ:Env) (W0:CW) (l:List Oper) (A L C:List (List Nat)) (LA:List Nat) (F:List Fact) (listed:Array Bool) (a:Act) (W:CW) (vs:Env):Prop where
 size:listed.size=l.length
 fits:Fits nd a (ups ρ (l.map (·.dst)) 0 vs)
 le:Le LA W0 W
 closed: ∀ m,listed.getD m false=true -> ∀ k∈at_ A m,listed.getD k false=true
 old: ∀ k,listed.getD k false=false->vs k=zuq ρ (l.map (·.dst)) k
 alive: ∀ j,(l.length<=j\/listed.getD j false=true)->(∀ k,listed.getD k false=true->k≠j->zem (at_ C j) (at_ L k)=false->j<l.length/\k∈at_ A j)->fat F j vs W
theorem znn {listed:Array Bool}{i:Nat}(h:i<listed.size):listed.getD i true=listed.getD i false:=by simp[h]
theorem zkd {listed:Array Bool}{i:Nat}(h:listed.getD i false=true):i<listed.size:=by
 apply Nat.lt_of_not_le
 intro hn
 simp[hn]at h
theorem zsP (hB:zwy l l.length nd A N L D C E LA=true) (hS:zdc (zxr P (l.map (·.dst)) ρ W0 A N L F LA) l 0) (hF:zgf D C F)
 (hQ: ∀ a vs W,Fits nd a (ups ρ (l.map (·.dst)) 0 vs)->Le LA W0 W->(∀ j∈E,fat F j vs W)->zsj nd R .normal a W.w):
 ∀ (fuel:Nat) (listed:Array Bool) (a:Act) (W:CW) (vs:Env),ParInv nd ρ W0 l A L C LA F listed a W vs->unl listed l.length<=fuel->
  wpAny P .any l.toArray (fun e a w=>e = .normal/\zsj nd R e a w) fuel listed a W.w:=by
 simp only[zwy,aG]at hB
 obtain⟨⟨⟨⟨⟨⟨h1,h2⟩,h3⟩,h0⟩,h4⟩,h5⟩,h6⟩:=hB
 have row:=fun i o (ho:l[i]? =some o)=>zqm h1 i o ho
 simp only[Nat.zero_add,aG,List.all_eq_true,Bool.or_eq_true,List.any_eq_true]at row
 have done: ∀ listed a W vs,ParInv nd ρ W0 l A L C LA F listed a W vs->Region.ready .any l.toArray listed=[]->(fun e a w=>e=Exit.normal/\zsj nd R e a w) Exit.normal a W.w:=by
  intro listed a W vs inv hr
  have hall: ∀ i,i<l.length->listed.getD i false=true:=by
   intro i
   induction i using Nat.strongRecOn with
   |ind i ih=>
    intro hi
    cases hb:listed.getD i false with
    |true=>rfl
    |false=>
     have ho:l[i]? =some l[i]:=aB hi
     have hm:i∈Region.ready .any l.toArray listed:=by
      rw[mem_ready]
      refine⟨by rw[znn (by rw[inv.size];exact hi),hb],l[i],by simp,fun e he hbi=>?_⟩
      have hk:e.on∈zj0 l[i]:=by
       unfold zj0
       exact List.mem_map_of_mem (List.mem_filter.2 ⟨Array.mem_toList_iff.2 he,hbi⟩)
      have hlt:=(row i l[i] ho).1.1.1.1.2 _ hk
      have hlt':e.on<i:=by simpa[Nat.blt_eq]using hlt
      exact ih e.on hlt' (by omega)
     rw[hr]at hm
     cases hm
  refine⟨rfl,hQ a vs W inv.fits inv.le fun j hj=>?_⟩
  refine inv.alive j ?_ fun k hk hkj hd=>?_
  ·by_cases hjl:l.length<=j
   ·exact .inl hjl
   ·exact .inr (hall j (by omega))
  ·have hkl:k<l.length:=by rw[<- inv.size];exact zkd hk
   have:=List.all_eq_true.1 (List.all_eq_true.1 h3 j hj) k (List.mem_range.2 hkl)
   simp only[Bool.or_eq_true,aG]at this
   rcases this with (this |this) |this
   ·exact absurd (Nat.eq_of_beq_eq_true this) hkj
   ·rw[hd]at this;cases this
   ·exact⟨by simpa[Nat.blt_eq]using this.1,zcr this.2⟩
 intro fuel
 induction fuel with
 |zero=>
  intro listed a W vs inv hf
  have hr:Region.ready .any l.toArray listed=[]:=by
   rw[List.eq_nil_iff_forall_not_mem]
   intro i hi
   obtain⟨hu,o,ho,_⟩:=mem_ready.1 hi
   have hil:i<l.length:=by
    have:=(Array.getElem?_eq_some_iff.1 ho).1
    simpa using this
   have:=zoY (listed:=listed) (n:=l.length) (by omega) i hil
   rw[this]at hu
   cases hu
  exact⟨hr,done listed a W vs inv hr⟩
 |succ fuel ih=>
  intro listed a W vs inv hf
  refine⟨done listed a W vs inv,fun i hi=>?_⟩
  obtain⟨hu,o,ho,hall⟩:=mem_ready.1 hi
  have hol:l[i]? =some o:=by simpa using ho
  have hil:i<l.length:=(List.getElem?_eq_some_iff.1 hol).1
  obtain⟨⟨⟨⟨⟨hg,hlt⟩,hA⟩,hN⟩,hL⟩,hd⟩:=row i o hol
  have hun:listed.getD i false=false:=by rw[<- znn (by rw[inv.size];exact hil),hu]
  have hbind: ∀ k∈zj0 o,listed.getD k false=true:=by
   intro k hk
   obtain⟨e,he,rfl⟩:=List.mem_map.1 hk
   obtain⟨he1,he2⟩:=List.mem_filter.1 he
   exact hall e (Array.mem_toList_iff.1 he1) he2
  have hAl: ∀ k∈at_ A i,listed.getD k false=true:=by
   intro k hk
   rcases hA k hk with ⟨m,hm,e⟩ |⟨m,hm,x,hx,e⟩
   ·rw[Nat.eq_of_beq_eq_true e];exact hbind m hm
   ·exact inv.closed m (hbind m hm) k (by rw[Nat.eq_of_beq_eq_true e];exact hx)
  have hNf: ∀ j∈at_ N i,fat F j vs W:=by
   intro j hj
   obtain⟨hj1,hj2⟩:=hN j hj
   refine inv.alive j ?_ fun k hk hkj hdis=>?_
   ·rcases hj1 with hj1 |⟨x,hx,e⟩
    ·exact .inl (Nat.le_of_ble_eq_true hj1)
    ·exact .inr (hAl j (by rw[Nat.eq_of_beq_eq_true e];exact hx))
   ·have hkl:k<l.length:=by rw[<- inv.size];exact zkd hk
    rcases hj2 k (List.mem_range.2 hkl)with (((e |e) |e) |⟨x,hx,e⟩) |e
    ·rw[Nat.eq_of_beq_eq_true e,hun]at hk;cases hk
    ·exact absurd (Nat.eq_of_beq_eq_true e) hkj
    ·rw[hdis]at e;cases e
    ·have:=inv.closed k hk x hx
     rw[<- Nat.eq_of_beq_eq_true e,hun]at this
     cases this
    ·obtain⟨e1,x,hx,e2⟩:=e
     exact⟨by simpa[Nat.blt_eq]using e1,by rw[Nat.eq_of_beq_eq_true e2];exact hx⟩
  have hV: ∀ k,i∈at_ A k->vs k=zuq ρ (l.map (·.dst)) k:=fun k hk=>inv.old k (by
   cases hb:listed.getD k false with
   |false=>rfl
   |true=>
    have:=inv.closed k hb i hk
    rw[hun]at this
    cases this)
  have hstep:=(zdc.at_ hS hol) vs W inv.le (by simpa using hNf) (by simpa using hV)
  simp only[Nat.zero_add]at hstep
  unfold wpOp
  simp only[ho]
  have hw:Region.wanted o (yielded l.toArray a.tmps)=true:=by
   have:o.guard=none:=by simpa using hg
   simp[Region.wanted,this]
  rw[if_pos hw]
  refine .inl ?_
  refine hstep o rfl rfl a _ _ inv.fits.evalF ?_
  rintro v w' ⟨W',rfl,hle,hFi⟩
  refine ih (listed.setIfInBounds i true) _ W' (vs.up i v) ⟨by simp[inv.size],?_,inv.le.trans (hle.sub hL),?_,?_,?_⟩ ?_
  ·cases hdst:o.dst with
   |none=>
    have:=zmH (l.map (·.dst)) 0 vs ρ i v (by rw[List.getElem?_map,hol];simp[hdst])
    rw[Nat.zero_add]at this
    rw[this]
    exact inv.fits.putN v
   |some d=>
    rw[hdst]at hd
    have:=zoj (l.map (·.dst)) 0 vs ρ i d v h5 (by rw[List.getElem?_map,hol];simp[hdst])
    rw[Nat.zero_add]at this
    rw[<- this]
    exact inv.fits.put hd v
  ·intro m hm k hk
   have keep: ∀ {x:Nat},listed.getD x false=true->(listed.setIfInBounds i true).getD x false=true:=by
    intro x hx
    have hne:i≠x:=fun e=>by rw[<- e,hun]at hx;cases hx
    rw[getD_set_ne false hne];exact hx
   by_cases e:i=m
   ·subst e;exact keep (hAl k hk)
   ·rw[getD_set_ne false e]at hm
    exact keep (inv.closed m hm k hk)
  ·intro k hk
   have hki:i≠k:=fun e=>by
    subst e
    have:i<listed.size:=by rw[inv.size];exact hil
    simp[this]at hk
   rw[getD_set_ne false hki]at hk
   rw[zqk hki]
   exact inv.old k hk
  ·intro j hj hal
   have hset: ∀ {x:Nat},i≠x->(listed.setIfInBounds i true).getD x false=listed.getD x false:=fun h=>getD_set_ne false h
   have hi1:(listed.setIfInBounds i true).getD i false=true:=by
    have:i<listed.size:=by rw[inv.size];exact hil
    simp[this]
   by_cases e:i=j
   ·subst e;exact hFi
   ·have hjl:l.length<=j\/listed.getD j false=true:=by
     rcases hj with h |h
     ·exact .inl h
     ·rw[hset e]at h;exact .inr h
    have hdis:zem (at_ C j) (at_ L i)=true:=by
     cases hb:zem (at_ C j) (at_ L i)with
     |true=>rfl
     |false=>
      obtain⟨hj1,hj2⟩:=hal i hi1 e hb
      rcases hjl with h |h
      ·omega
      ·have:=inv.closed j h i hj2
       rw[hun]at this
       cases this
    have hold:=inv.alive j hjl fun k hk hkj hdd=>hal k (by
     have hne:i≠k:=fun e=>by rw[<- e,hun]at hk;cases hk
     rw[hset hne];exact hk) hkj hdd
    refine zgf.at_ j hF vs (vs.up i v) W W' (at_ L i) (fun k hk=>?_) hle hdis hold
    have hne:i≠k:=by
     intro e2
     by_cases hjn:j<l.length
     ·have:=List.all_eq_true.1 (List.all_eq_true.1 h2 j (List.mem_range.2 hjn)) k hk
      simp only[Bool.or_eq_true]at this
      rcases this with this |this
      ·exact e (by rw[e2,Nat.eq_of_beq_eq_true this])
      ·rcases hjl with h |h
       ·omega
       ·have:=inv.closed j h k (zcr this)
        rw[<- e2,hun]at this
        cases this
     ·have hz:at_ D j=[]:=by
       unfold at_
       by_cases hjd:j<D.length
       ·have hm:D[j]∈D.drop l.length:=by
         rw[List.mem_iff_getElem?]
         exact⟨j-l.length,by rw[List.getElem?_drop,show l.length+(j-l.length)=j by omega];exact aB hjd⟩
        have:=List.all_eq_true.1 h0 _ hm
        simpa[hjd]using this
       ·simp[Nat.le_of_not_lt hjd]
      rw[hz]at hk
      cases hk
    exact zqk hne
  ·have:=zqn hu l.length
   rw[if_pos hil]at this
   omega
theorem zsQ {Fo Fp:List Fact}{n j:Nat}(h:Fo.length=n)(hj:n<=j):fat (Fo++Fp) j=fat Fp (j-n):=by
 subst h
 unfold fat
 simp only[List.getD_eq_getElem?_getD]
 rw[aN hj]
def zoZ (G:Fact->Prop):List Fact->Prop
 | []=>True
 |f::F=>G f/\zoZ G F
theorem zoZ.at_ {G:Fact->Prop}(ht:G fun _ _=>True): ∀ {F:List Fact} (j:Nat),zoZ G F->G (fat F j)
 | [],j,_=>by simpa[fat]using ht
 |f::F,0,h=>h.1
 |f::F,j+1,h=>zoZ.at_ ht (F:=F) j h.2
theorem zdc.nil {G:Nat->Oper->Prop}{i:Nat}:zdc G [] i:=trivial
theorem zdc.cons {G:Nat->Oper->Prop}{i:Nat}{o:Oper}{l:List Oper}(h:G i o)(t:zdc G l (i+1)):zdc G (o::l) i:=⟨h,t⟩
theorem zgf.nil {Ds Cs:List (List Nat)}:zgf Ds Cs []:=by cases Ds<;>cases Cs<;>trivial
theorem zgf.cons {D C:List Nat}{Ds Cs:List (List Nat)}{f:Fact}{Fs:List Fact}(h:Sup D C f)(t:zgf Ds Cs Fs):zgf (D::Ds) (C::Cs) (f::Fs):=⟨h,t⟩
theorem zoZ.nil {G:Fact->Prop}:zoZ G []:=trivial
theorem zoZ.cons {G:Fact->Prop}{f:Fact}{F:List Fact}(h:G f)(t:zoZ G F):zoZ G (f::F):=⟨h,t⟩
theorem zf9 {C L:List Nat}{c:Nat}(h:zem C L=true)(hc:C.any (Nat.beq c)=true):zem [c] L=true:=by
 unfold zem at h ⊢
 rw[List.all_eq_true]at h ⊢
 intro x hx
 rw[List.mem_singleton]at hx
 rw[hx]
 exact h c (zcr hc)
theorem Ow.upv {α:Type}[Rp α]{W W':CW}{c:Nat}{L:List Nat}{cs:List Value}{x:α}(h:Ow W c [] cs x)(l:Le L W W')(hd:zem [c] L=true):Ow W' c [] cs x:=by
 obtain⟨S,ho,hn,hb⟩:=h
 have hk: ∀ b∈S,W'.w.heap[b]? =W.w.heap[b]? /\W'.c b=W.c b:=fun b hb'=>l.keep b (hb b hb').1 (by rw[(hb b hb').2];exact zcM hd (by simp))
 exact⟨S,own_mono (A:=AK W []) (fun b hb=>absurd hb.2 (by simp)) (own_keep (fun b hb=>absurd hb.2 (by simp)) (fun b hb'=>(hk b hb').1) ho),hn,fun b hb'=>⟨Nat.lt_of_lt_of_le (hb b hb').1 l.size,by rw[(hk b hb').2];exact(hb b hb').2⟩⟩
theorem SE {C:List Nat}{j:Nat}{V:Value}:Sup [j] C (fun vs _=>vs j=V):=fun vs vs' W W' L hv l hd h=>(hv j (List.mem_singleton.2 rfl)).trans h
theorem SO {α:Type}[Rp α]{c j:Nat}{e:α}:Sup [j] [c] (fun vs W=>Ow W c [] [vs j] e):=fun vs vs' W W' L hv l hd h=>by
 show Ow W' c [] [vs' j] e
 rw[hv j (List.mem_singleton.2 rfl)]
 exact Ow.upv h l hd
theorem Trq {P:Program}{ρ:Env}{W:CW}{op:Op}{ty:Nat}{v:Value}{L:List Nat}{G:Value->CW->Prop}(h:Run P ρ W.w op ty v)(hf:G v W):Tr P ρ W.w op ty fun u w'=> ∃ W',W'.w=w'/\Le L W W'/\G u W':=
 Tr.mono (Run.tr h) (by rintro _ _ ⟨rfl,rfl⟩;exact⟨W,rfl,Le.refl _ _,hf⟩)
def pg (v:Value):Nat:=match v with
 | .pointer (some a)=>a.block
 | .slice (some a) _ _=>a.block
 |_=>0
theorem Cw.par {id:Nat} (A N L D C:List (List Nat)) (E LA:List Nat) (Fo Fp:List Fact) (hm:P.follows .mixedOrders=true) (hB:zwy l l.length nd A N L D C E LA=true) {W:CW} (hl:Fo.length=l.length)
 (h0:zoZ (fun f=> ∀ vs W',Le [] W W'->f vs W') Fp) (h: ∀ W0,Le [] W W0->zdc (zxr P (l.map (·.dst)) ρ W0 A N L (Fo++Fp) LA) l 0/\zgf D C (Fo++Fp)/\
  ∀ vs W1,Le LA W0 W1->(∀ j∈E,fat (Fo++Fp) j vs W1)->R .normal (ups ρ (l.map (·.dst)) 0 vs) W1.w):Cw P nd (.region id l.toArray true) R ρ W.w:=fun a ha=>by
 let W0:CW:=⟨{W.w with drawn:=W.w.drawn+1},W.c⟩
 have hle:Le [] W W0:=⟨rfl,rfl,rfl,Nat.le_refl _,fun _ _ _=>⟨rfl,rfl⟩⟩
 obtain⟨hS,hF,hQ⟩:=h W0 hle
 have hz: ∀ k,(Array.replicate l.length false).getD k false=false:=fun k=>by
  by_cases hk:k<l.length<;>simp[Array.getD_eq_getD_getElem?,Array.getElem?_replicate,hk]
 have hu: ∀ (n:Nat),n<=l.length->unl (Array.replicate l.length false) n<=n:=by
  intro n
  induction n with
  |zero=>intro _;simp[unl]
  |succ n ih=>
   intro hn
   have:=ih (by omega)
   simp only[unl]
   cases(Array.replicate l.length false).getD n true<;>simp<;>omega
 have inv0:ParInv nd ρ W0 l A L C LA (Fo++Fp) (Array.replicate l.length false) a W0 (zuq ρ (l.map (·.dst))):=by
  refine⟨by simp,?_,Le.refl _ _,fun m hm=>?_,fun k _=>rfl,fun j hj _=>?_⟩
  ·rw[zlg]
   ·exact ha
   ·intro i d h
    rw[Nat.zero_add]
    unfold zuq
    rw[List.getD_eq_getElem?_getD,h]
    rfl
  ·rw[hz]at hm;cases hm
  ·rcases hj with hj |hj
   ·rw[zsQ hl hj]
    exact zoZ.at_ (G:=fun f=> ∀ vs W',Le [] W W'->f vs W') (fun _ _ _=>trivial) _ h0 _ _ hle
   ·rw[hz]at hj;cases hj
 have key:=zsP (P:=P) (R:=R) hB hS hF (fun a vs W hf hle hE=>⟨_,hf,hQ vs W hle hE⟩) l.length (Array.replicate l.length false) a W0 _ inv0 (hu _ (Nat.le_refl _))
 refine wp_mono (wp_region_any hm (Q:=fun e a w=>e = .normal/\zsj nd R e a w) ?_) (fun e a w hh=>hh.2)
 have e:l.toArray.size=l.length:=by simp
 rw[e]
 exact key
end
def Sh (α:Type):Type:=α
@[reducible] instance Rp.sh {α:Type} [Rp α]:Rp (Sh α):= {
 sz:=sz α
 ty:=ty α
 lty:=Rp.lty α
 rd w A cs x:=rd (α:=α) w A cs x
 own w A S cs x:=S=[]/\rd (α:=α) w A cs x
 rd_len:=rd_len (α:=α)
 rd_one:=rd_one (α:=α)
 rd_keep:=rd_keep (α:=α)
 rd_mono:=rd_mono (α:=α)
 own_len:=fun h=>rd_len (α:=α) h.2
 own_rd:=fun h _ hA=>rd_mono (α:=α) hA h.2
 own_keep:=fun hA _ h=>⟨h.1,rd_keep (α:=α) hA h.2⟩
 own_mono:=fun hA h=>⟨h.1,rd_mono (α:=α) hA h.2⟩}
instance {α:Type}[Rp α]:Atm (Sh α):=⟨fun h=>⟨rfl,h⟩⟩
instance {α:Type}[Rp α][Zr α]:Zr (Sh α):= {
 z:=(Zr.z:α)
 cs:=Zr.cs α
 own:=⟨rfl,own_rd (α:=α) Zr.own (fun b hb=>by cases hb) (fun b hb=>hb)⟩}
section
variable {α:Type}[Rp α]{W W':CW}{k c:Nat}{K L:List Nat}{v:Value}{xs:List α}{cs:List Value}{x:α}
theorem Ow.toSh (h:Ow (α:=List α) W c [] [v] xs): ∃ W',W'.w=W.w/\Le [c] W W'/\Ow (α:=List (Sh α)) W' c [0] [v] xs:=by
 obtain⟨S,⟨v',ecs,Ss,e,h⟩,hn,hb⟩:=h
 simp only[List.cons.injEq,and_true]at e
 subst e
 have hmem: ∀ b∈Ss.flatten,b∈S:=fun b hb=>by rw[h.S];exact aJ _ hb
 let W':CW:=⟨W.w,fun b=>if b∈Ss.flatten then 0 else W.c b⟩
 refine⟨W',rfl,⟨rfl,rfl,rfl,Nat.le_refl _,fun b _ hc=>⟨rfl,if_neg (fun hm=>hc (by rw[(hb b (hmem b hm)).2];simp))⟩⟩,v.ownBlock.toList++(List.replicate xs.length ([]:List Nat)).flatten,⟨v,ecs,List.replicate xs.length [],rfl,h.row,rfl,h.elen,List.length_replicate,fun i cs x T h1 h2 h3=>?_⟩,?_,fun b hb'=>?_⟩
 ·have hT:T=[]:=(List.mem_replicate.1 (aH h3)).2
  refine⟨hT,?_⟩
  have hi:i<Ss.length:=by rw[h.slen];exact(List.getElem?_eq_some_iff.1 h2).1
  have ho:=h.at_ i cs x Ss[i] h1 h2 (aB hi)
  refine own_rd (α:=α) ho (fun b hb2=>?_) (fun b hb2=>?_)
  ·have hm:b∈Ss.flatten:=List.mem_flatten.2 ⟨Ss[i],List.getElem_mem hi,hb2⟩
   exact⟨(hb b (hmem b hm)).1,by show(if b∈Ss.flatten then 0 else W.c b)∈ [0];rw[if_pos hm];simp⟩
  ·have:=hb2.2
   simp at this
 ·have hf:(List.replicate xs.length ([]:List Nat)).flatten=[]:=by simp
  rw[hf,List.append_nil]
  cases v.ownBlock<;>simp
 ·have hf:(List.replicate xs.length ([]:List Nat)).flatten=[]:=by simp
  rw[hf,List.append_nil]at hb'
  have hS:b∈S:=by rw[h.S];exact List.mem_append_left _ hb'
  have hnm:b∉Ss.flatten:=by
   rw[h.S,List.nodup_append]at hn
   intro hm
   exact hn.2.2 b hb' b hm rfl
  exact⟨(hb b hS).1,by show(if b∈Ss.flatten then 0 else W.c b)=c;rw[if_neg hnm];exact(hb b hS).2⟩
theorem Ow.cellsSh (h:Ow (α:=List (Sh α)) W c K [v] xs){i:Int}(hg:gi xs i=some x): ∃ cs,zdb W.w ((slA v).add (i.toNat*sz α)) cs/\cs.length=sz α/\Rd W K cs x:=by
 obtain⟨h0,hi,hl⟩:=zgC hg
 have hlt:=(List.getElem?_eq_some_iff.1 hi).1
 obtain⟨S,⟨v',ecs,Ss,e,h⟩,hn,hb⟩:=h
 simp only[List.cons.injEq,and_true]at e
 subst e
 have h1:i.toNat<ecs.length:=by rw[h.elen];exact hlt
 have h2:i.toNat<Ss.length:=by rw[h.slen];exact hlt
 have ho:=h.at_ i.toNat _ x Ss[i.toNat] (aB h1) hi (aB h2)
 rcases h.row.2 with ⟨rfl,hn0⟩ |⟨g,cap,cur,rfl,_⟩
 ·exact absurd (Nat.lt_of_lt_of_eq hlt hn0) (Nat.not_lt_zero _)
 ·exact⟨ecs[i.toNat],fun j u hu=>by
   rw[zfE]
   exact h.row.cells (g:=g) rfl _ u (zge (sz α) ecs i.toNat _ h.len (aB h1) j u hu),rd_len (α:=α) ho.2,ho.2⟩
theorem Ow.cellSh1 (h:Ow (α:=List (Sh α)) W c K [v] xs){i:Int}(hg:gi xs i=some x)(h1:sz α=1:=by rfl): ∃ u,W.w.cell? ((slA v).add (i.toNat*sz α))=some u/\Rd W K [u] x:=by
 obtain⟨cs,hc,hl,hr⟩:=h.cellsSh hg
 rw[h1]at hl
 match cs,hl with
 | [u],_=>exact⟨u,by have:=hc 0 u rfl;simpa[Addr.add]using this,hr⟩
theorem zur (k:Nat)(K:List Nat):Ow (α:=List (Sh α)) W k K [.slice none 0 0] ([]:List α):=Ow.zr (α:=List (Sh α)) k K
theorem zlO (K:List Nat):OwS (α:=List (Sh α)) W [] K [.slice none 0 0] ([]:List α):=OwS.zr (α:=List (Sh α)) K
theorem Ow.rdSh (h:Ow (α:=List (Sh α)) W k K [v] xs):Rd (α:=List α) W (k::K) [v] xs:=h.rd
def zus (c:Nat)(K:List Nat):List Nat:=K.map fun a=>bif Nat.beq a c then 0 else a
theorem zry {c a:Nat}{K:List Nat}(h:a∈K):(bif Nat.beq a c then 0 else a)∈zus c K:=List.mem_map.2 ⟨a,h,rfl⟩
theorem AK.dye {c b:Nat}(h:AK W K b):AK (W.dye c 0) (zus c K) b:=⟨h.1,by
 have:=zry (c:=c) h.2
 exact this⟩
theorem Rd.dye (h:Rd W K cs x)(c:Nat):Rd (W.dye c 0) (zus c K) cs x:=rd_mono (α:=α) (fun b hb=>AK.dye hb) h
theorem Ow.dyeA (h:Ow W k K cs x)(c:Nat)(hne:Nat.beq k c=false):Ow (W.dye c 0) k (zus c K) cs x:=by
 obtain⟨S,ho,hn,hb⟩:=h
 refine⟨S,own_mono (α:=α) (fun b hb=>AK.dye hb) ho,hn,fun b hb'=>⟨(hb b hb').1,?_⟩⟩
 show(bif Nat.beq (W.c b) c then 0 else W.c b)=k
 rw[(hb b hb').2,hne];rfl
theorem Bx.dyeA {g:Nat}(h:Bx W k g cs)(c:Nat)(hne:Nat.beq k c=false):Bx (W.dye c 0) k g cs:=⟨by
 show(bif Nat.beq (W.c g) c then 0 else W.c g)=k
 rw[h.1,hne];rfl,h.2⟩
theorem At.dye {p:Addr}(h:At W K p x)(c:Nat):At (W.dye c 0) (zus c K) p x:=⟨AK.dye h.1,let ⟨cs,h1,h2⟩:=h.2;⟨cs,h1,Rd.dye h2 c⟩⟩
end
class Fs (α β:Type) [Rp α] [Rp β] (j:Nat) (get:outParam (α->β)) (set:outParam (α->β->α)):Prop where
 lt:j<sz α
 lens: ∀ {w:World} {A:Nat->Prop} {S:List Nat} {cs:List Value} {x:α},own w A S cs x -> ∃ u T R,cs[j]? =some u/\own w A T [u] (get x)/\S.Perm (T++R)/\
  ∀ {w':World} {T':List Nat} {u':Value} {y:β},(∀ b,A b->w'.heap[b]? =w.heap[b]?)->(∀ b∈R,w'.heap[b]? =w.heap[b]?)->own w' A T' [u'] y -> ∃ S',own w' A S' (cs.set j u') (set x y)/\S'.Perm (T'++R)
section
variable {α β γ:Type}[Rp α][Rp β][Rp γ]
theorem Fs.self (h:sz α=1):Fs α α 0 (fun x=>x) (fun _ y=>y):= {
 lt:=by omega
 lens:=fun {w A S cs x} ho=>by
  have hl:=own_len ho
  rw[h]at hl
  match cs,hl with
  | [u],_=>exact⟨u,S,[],rfl,ho,by simp,fun {w' T' u' y} _ _ h=>⟨T',h,by simp⟩⟩}
theorem Fs.fst (h:sz α=1):Fs (α×β) α 0 (fun x=>x.1) (fun x y=>(y,x.2)):= {
 lt:=by show 0<sz α+sz β;omega
 lens:=fun {w A S cs x} ho=>by
  obtain⟨c,d,S1,S2,rfl,rfl,h1,h2⟩:=ho
  have hl:=own_len h1
  rw[h]at hl
  match c,hl with
  | [u],_=>exact⟨u,S1,S2,rfl,h1,List.Perm.refl _,fun {w' T' u' y} hA hR h=>⟨T'++S2,⟨[u'],d,T',S2,rfl,rfl,h,own_keep hA hR h2⟩,List.Perm.refl _⟩⟩}
theorem Fs.snd {j:Nat}{get:β->γ}{set:β->γ->β}(h:sz α=1)(f:Fs β γ j get set):Fs (α×β) γ (j+1) (fun x=>get x.2) (fun x y=>(x.1,set x.2 y)):= {
 lt:=by have:=f.lt;show j+1<sz α+sz β;omega
 lens:=fun {w A S cs x} ho=>by
  obtain⟨c,d,S1,S2,rfl,rfl,h1,h2⟩:=ho
  have hl:=own_len h1
  rw[h]at hl
  match c,hl with
  | [u0],_=>
   obtain⟨u,T,R,hu,ht,hp,hw⟩:=f.lens h2
   refine⟨u,T,S1++R,by simpa using hu,ht,?_,fun {w' T' u' y} hA hR h=>?_⟩
   ·exact(List.Perm.append_left S1 hp).trans (by
     rw[<- List.append_assoc,<- List.append_assoc]
     exact List.Perm.append_right R List.perm_append_comm)
   ·obtain⟨S',h3,h4⟩:=hw hA (fun b hb=>hR b (aJ _ hb)) h
    refine⟨S1++S',⟨[u0],d.set j u',S1,S',rfl,rfl,own_keep hA (fun b hb=>hR b (List.mem_append_left _ hb)) h1,h3⟩,?_⟩
    exact(List.Perm.append_left S1 h4).trans (by
     rw[<- List.append_assoc,<- List.append_assoc]
     exact List.Perm.append_right R List.perm_append_comm)}
def zok:Nat->Prop:=fun _=>False
def Hole (W:CW)(c:Nat)(v:Value)(xs:List α)(i jf:Nat)(set:β->α):Prop:=
 ∃ (es:List (List Value)) (Ss:List (List Nat)) (cs:List Value) (A R B:List Nat),
  W.w.ownsRow 0 (ty α) (sz α) v xs.length es.flatten/\es.length=xs.length/\Ss.length=xs.length/\i<xs.length/\es[i]? =some cs/\jf<sz α/\(∀ c∈es,c.length=sz α)/\
  (∀ T',(Ss.set i T').flatten=A++(T'++B))/\(v.ownBlock.toList++(A++(R++B))).Nodup/\(∀ b∈v.ownBlock.toList++(A++(R++B)),b<W.w.heap.size/\W.c b=c)/\
  (∀ (k:Nat) cs x T,k≠i->es[k]? =some cs->xs[k]? =some x->Ss[k]? =some T->own W.w zok T cs x)/\
  (∀ (w':World) T' u' y,(∀ b∈R,w'.heap[b]? =W.w.heap[b]?)->own w' zok T' [u'] y -> ∃ S',own w' zok S' (cs.set jf u') (set y)/\S'.Perm (T'++R))
theorem Hole.ab {Ss:List (List Nat)}{i:Nat}{A B:List Nat}(h: ∀ T',(Ss.set i T').flatten=A++(T'++B)){k:Nat}{T:List Nat}(hk:k≠i)(hT:Ss[k]? =some T){b:Nat}(hb:b∈T):b∈A\/b∈B:=by
 have hfl:b∈(Ss.set i ([]:List Nat)).flatten:=by
  refine List.mem_flatten.2 ⟨T,?_,hb⟩
  have:(Ss.set i ([]:List Nat))[k]? =some T:=by rw[List.getElem?_set_ne (Ne.symm hk)];exact hT
  exact aH this
 rw[h,List.nil_append]at hfl
 exact List.mem_append.1 hfl
theorem Hole.up {W W':CW}{c:Nat}{v:Value}{xs:List α}{i jf:Nat}{set:β->α}{L:List Nat}(h:Hole W c v xs i jf set)(l:Le L W W')(hd:zem [c] L=true:=by rfl):Hole W' c v xs i jf set:=by
 obtain⟨es,Ss,cs,A,R,B,h1,h2,h3,h4,h5,h6,h7,h8,h9,h10,h11,h12⟩:=h
 have hq: ∀ b∈v.ownBlock.toList++(A++(R++B)),W'.w.heap[b]? =W.w.heap[b]? /\W'.c b=W.c b:=fun b hb=>l.keep b (h10 b hb).1 (by rw[(h10 b hb).2];exact zcM hd (by simp))
 refine⟨es,Ss,cs,A,R,B,?_,h2,h3,h4,h5,h6,h7,h8,h9,fun b hb=>⟨Nat.lt_of_lt_of_le (h10 b hb).1 l.size,by rw[(hq b hb).2];exact(h10 b hb).2⟩,fun k cs x T hk e1 e2 e3=>?_,fun w' T' u' y hR ho=>h12 w' T' u' y (fun b hb=>by rw[hR b hb];exact(hq b (by simp[hb])).1) ho⟩
 ·refine⟨h1.1,?_⟩
  rcases h1.2 with hn |⟨g,cap,cur,rfl,hb,hg,rest⟩
  ·exact .inl hn
  ·exact .inr ⟨g,cap,cur,rfl,hb,by rw[(hq g (by simp[Value.ownBlock])).1];exact hg,rest⟩
 ·refine own_keep (fun b hb=>hb.elim) (fun b hb=>?_) (h11 k cs x T hk e1 e2 e3)
  rcases Hole.ab h8 hk e3 hb with hm |hm<;>exact(hq b (by simp[hm])).1
theorem Ow.take {W:CW}{c j jf:Nat}{v uv:Value}{xs:List α}{x:α}{i:Int}{get:α->β}{set:α->β->α}[f:Fs α β jf get set](h:Ow W c [] [v] xs)(hx:gi xs i=some x)(hcell:W.w.cell? (((slA v).add (i.toNat*sz α)).add jf)=some uv)(hj:Nat.beq j c=false):
 ∃ W1,W1.w=W.w/\Le [c] W W1/\Ow W1 j [] [uv] (get x)/\Hole W1 c v xs i.toNat jf (set x):=by
 obtain⟨S,⟨v0,es,Ss,e0,ho⟩,hnS,hbS⟩:=h
 simp only[List.cons.injEq,and_true]at e0
 subst e0
 obtain⟨h0,hxi,hil⟩:=zgC hx
 have l1:i.toNat<es.length:=by rw[ho.elen];exact hil
 have l2:i.toNat<Ss.length:=by rw[ho.slen];exact hil
 have hel:=ho.at_ i.toNat _ x _ (aB l1) hxi (aB l2)
 have hel':own W.w zok Ss[i.toNat] es[i.toNat] x:=own_mono (fun b hb=>absurd hb.2 (by simp)) hel
 obtain⟨u,T,R,hu,ht,hp,hw⟩:=f.lens hel'
 have huv:uv=u:=by
  rcases ho.row.2 with ⟨rfl,hn⟩ |⟨g,cap,cur,rfl,hb,hg,rest⟩
  ·omega
  ·have h1:=ho.row.cells (g:=g) rfl _ u (zge (sz α) es i.toNat _ ho.len (aB l1) jf u hu)
   rw[zfE]at hcell
   rw[show(slA (.slice (some ⟨g,0,none⟩) xs.length cap))=⟨g,0,none⟩ from rfl]at hcell
   rw[h1]at hcell
   exact(Option.some.inj hcell).symm
 subst huv
 have hne:j≠c:=fun e=>by rw[e,Nat.beq_refl]at hj;cases hj
 obtain⟨A,B,hf1,hf2⟩:=zkt Ss i.toNat _ (aB l2)
 have hSp:S.Perm (T++(v.ownBlock.toList++(A++(R++B)))):=by
  rw[ho.S,hf1]
  exact zjq _ _ _ _ _ hp
 have hTQ:=hSp.nodup_iff.1 hnS
 rw[List.nodup_append]at hTQ
 obtain⟨hT,hQ,hTQ⟩:=hTQ
 have hTb: ∀ b∈T,b<W.w.heap.size/\W.c b=c:=fun b hb=>hbS b (hSp.mem_iff.2 (List.mem_append_left _ hb))
 let W1:CW:=⟨W.w,fun b=>if b∈T then j else W.c b⟩
 refine⟨W1,rfl,⟨rfl,rfl,rfl,Nat.le_refl _,fun b hb hc=>⟨rfl,if_neg fun hm=>hc (by simp[(hTb b hm).2])⟩⟩,⟨T,own_mono (fun b hb=>hb.elim) ht,hT,fun b hb=>⟨(hTb b hb).1,if_pos hb⟩⟩,
  es,Ss,es[i.toNat],A,R,B,ho.row,ho.elen,ho.slen,hil,aB l1,f.lt,ho.len,hf2,hQ,fun b hb=>?_,fun k cs x T hk e1 e2 e3=>own_mono (fun b hb=>absurd hb.2 (by simp)) (ho.at_ k cs x T e1 e2 e3),fun w' T' u' y hR ho'=>hw (fun b hb=>hb.elim) hR ho'⟩
 have hb':=hbS b (hSp.mem_iff.2 (aJ _ hb))
 exact⟨hb'.1,by show(if b∈T then j else W.c b)=c;rw[if_neg fun hm=>hTQ b hm b hb rfl];exact hb'.2⟩
theorem Ow.hole {W:CW}{c jf:Nat}{v:Value}{xs:List α}{x:α}{i:Int}{get:α->β}{set:α->β->α}[f:Fs α β jf get set](h:Ow W c [] [v] xs)(hx:gi xs i=some x):Hole W c v xs i.toNat jf (set x):=by
 obtain⟨S,⟨v0,es,Ss,e0,ho⟩,hnS,hbS⟩:=h
 simp only[List.cons.injEq,and_true]at e0
 subst e0
 obtain⟨h0,hxi,hil⟩:=zgC hx
 have l1:i.toNat<es.length:=by rw[ho.elen];exact hil
 have l2:i.toNat<Ss.length:=by rw[ho.slen];exact hil
 have hel:=ho.at_ i.toNat _ x _ (aB l1) hxi (aB l2)
 have hel':own W.w zok Ss[i.toNat] es[i.toNat] x:=own_mono (fun b hb=>absurd hb.2 (by simp)) hel
 obtain⟨u,T,R,hu,ht,hp,hw⟩:=f.lens hel'
 obtain⟨A,B,hf1,hf2⟩:=zkt Ss i.toNat _ (aB l2)
 have hSp:S.Perm (T++(v.ownBlock.toList++(A++(R++B)))):=by
  rw[ho.S,hf1]
  exact zjq _ _ _ _ _ hp
 have hTQ:=hSp.nodup_iff.1 hnS
 rw[List.nodup_append]at hTQ
 exact⟨es,Ss,es[i.toNat],A,R,B,ho.row,ho.elen,ho.slen,hil,aB l1,f.lt,ho.len,hf2,hTQ.2.1,fun b hb=>hbS b (hSp.mem_iff.2 (aJ _ hb)),fun k cs x T hk e1 e2 e3=>own_mono (fun b hb=>absurd hb.2 (by simp)) (ho.at_ k cs x T e1 e2 e3),fun w' T' u' y hR ho'=>hw (fun b hb=>hb.elim) hR ho'⟩
theorem zsm {γ:Type}: ∀ (c:List γ) (j:Nat) (u:γ),j<c.length->c.set j u=c.take j++u::c.drop (j+1)
 | [],j,u,h=>by simp at h
 |a::c,0,u,h=>by simp
 |a::c,j+1,u,h=>by simp[zsm c j u (by simpa using h)]
theorem zno {γ:Type}(s:Nat)(es:List (List γ))(i jf:Nat)(cs:List γ)(u:γ)(hl: ∀ c∈es,c.length=s)(hi:es[i]? =some cs)(hj:jf<s):
 (es.set i (cs.set jf u)).flatten=es.flatten.set (i*s+jf) u:=by
 have hlt:i<es.length:=(List.getElem?_eq_some_iff.1 hi).1
 have hcs:cs.length=s:=hl cs (aH hi)
 have hlen:(es.flatten).length=es.length*s:=by
  have: ∀ (l:List (List γ)),(∀ c∈l,c.length=s)->l.flatten.length=l.length*s:=by
   intro l
   induction l with
   |nil=>intro _;simp
   |cons a l ih=>intro h;simp only[List.flatten_cons,List.length_append,aL,ih (fun c hc=>h c (by simp[hc])),h a (by simp),Nat.add_mul,Nat.one_mul];omega
  exact this es hl
 have hb:i*s+s<=es.length*s:=by rw[<- Nat.succ_mul];exact Nat.mul_le_mul_right _ hlt
 have h1:=zhq s (cs.set jf u) es i hl hlt (by simp[hcs])
 have h2:=zhq s cs es i hl hlt hcs
 have h3:es.set i cs=es:=by
  apply List.ext_getElem?
  intro k
  by_cases e:i=k
  ·subst e;rw[List.getElem?_set_self hlt,hi]
  ·rw[List.getElem?_set_ne e]
 rw[h3]at h2
 rw[h1]
 conv=>rhs;rw[h2]
 have hi0:i*s<=es.flatten.length:=by rw[hlen];omega
 have htl:(es.flatten.take (i*s)).length=i*s:=by rw[List.length_take];exact Nat.min_eq_left hi0
 rw[List.append_assoc,List.append_assoc,List.set_append,if_neg (by rw[htl];omega),htl,List.set_append,if_pos (by omega),show i*s+jf-i*s=jf by omega]
theorem T.stH {P:Program} {ρ:Env} {W:CW} {c jf t:Nat} {v u:Value} {xs ys:List α} {i:Int} {set:β->α} {y:β} {J:List Nat} {p q:Operand} {b s ty':Nat} {z:Value} [hI:Inf P t s b z]
 (h:Hole W c v xs i.toNat jf set) (hr:OwS W J [] [u] y) (hm:siM xs i (set y)=some ys) (hp:ev ρ p=ptr (((slA v).add (i.toNat*sz α)).add jf)) (hq:ev ρ q=u)
 (hd:zem [c] J=true:=by rfl) (hs:s=1:=by rfl):
 Tr P ρ W.w (.store t p q) ty' (fun _ w'=> ∃ W',W'.w=w'/\Le (c::J) W W'/\Ow W' c [] [v] ys):=Tr.of_unit fun o ho1 _=>by
 obtain⟨es,Ss,cs,A,R,B,h1,h2,h3,h4,h5,h6,h7,h8,h9,h10,h11,h12⟩:=h
 unfold siM at hm
 split at hm
 case isFalse=>cases hm
 rename_i hi
 simp only[Option.some.injEq]at hm
 subst hm
 have hone:u.oneCell'=true:=hr.one u (by simp)
 obtain⟨T0,to,tn,tb⟩:=hr
 have to':own W.w zok T0 [u] y:=own_mono (fun b hb=>absurd hb.2 (by simp)) to
 obtain⟨jj,hjj,_,hjs,_⟩:=hI.get
 have hbound:i.toNat*sz α+sz α<=xs.length*sz α:=by rw[<- Nat.succ_mul];exact Nat.mul_le_mul_right _ h4
 rcases h1.2 with ⟨_,hn⟩ |⟨g,cap,cur,rfl,hb0,hg,hnc,hcm,hcs,htake⟩
 ·omega
 have hcap:xs.length*sz α<=cap*sz α:=Nat.mul_le_mul_right _ hnc
 have hlt:g<W.w.heap.size:=(Array.getElem?_eq_some_iff.1 hg).1
 have hQn:=h9
 simp only[Value.ownBlock,Option.toList_some,List.singleton_append,List.nodup_cons]at h9
 have hne: ∀ b∈A++(R++B),b≠g:=fun b hb e=>h9.1 (by rw[<- e];exact hb)
 have hgc:W.c g=c:=(h10 g (by simp[Value.ownBlock])).2
 have hcJ:c∉J:=zcM hd (by simp)
 have hTg: ∀ b∈T0,b≠g:=fun b hb e=>hcJ (by have:=(tb b hb).2;rw[e,hgc]at this;exact this)
 have hTQ: ∀ a∈T0,∀ b∈(Value.slice (some ⟨g,0,Option.none⟩) xs.length cap).ownBlock.toList++(A++(R++B)),a≠b:=fun a ha b hb e=>hcJ (by have:=(tb a ha).2;rw[e,(h10 b hb).2]at this;exact this)
 have hrun:=run_storeCells_at P g (i.toNat*sz α+jf) (ty α) [u] 0 cur W.w hg (by simp only[aL,List.length_nil];omega) (fun w hw=>by rw[List.mem_singleton]at hw;rw[hw];exact hone)
 simp only[Nat.add_zero,aL,List.length_nil,Nat.zero_add]at hrun
 have hset:cur.toList.take (i.toNat*sz α+jf)++[u]++cur.toList.drop (i.toNat*sz α+jf+1)=cur.toList.set (i.toNat*sz α+jf) u:=by
  rw[zsm _ _ _ (by simp;omega)]
  simp
 rw[hset]at hrun
 let w3:World:=W.w.setRow g (cur.toList.set (i.toNat*sz α+jf) u).toArray
 have hoth: ∀ b,b≠g->w3.heap[b]? =W.w.heap[b]? :=fun b hb=>setRow_other W.w g b _ hb
 have hrow:w3.ownsRow 0 (ty α) (sz α) (.slice (some ⟨g,0,Option.none⟩) xs.length cap) xs.length (es.set i.toNat (cs.set jf u)).flatten:=by
  rw[zno (sz α) es i.toNat jf cs u h7 h5 h6]
  refine⟨by rw[List.length_set];exact h1.1, .inr ⟨g,cap,_,rfl,Nat.zero_le _,setRow_heap W.w g cur _ _ _ hg,hnc,hcm,by simpa using hcs,?_⟩⟩
  show(cur.toList.set (i.toNat*sz α+jf) u).take (xs.length*sz α)=_
  rw[List.take_set,htake]
 obtain⟨S',hs1,hs2⟩:=h12 w3 T0 u y (fun b hb=>hoth b (hne b (by simp[hb]))) (own_keep (fun b hb=>hb.elim) (fun b hb=>hoth b (hTg b hb)) to')
 let W':CW:=⟨w3,fun b=>if b∈T0 then c else W.c b⟩
 have hperm:((Value.slice (some ⟨g,0,Option.none⟩) xs.length cap).ownBlock.toList++(Ss.set i.toNat S').flatten).Perm (T0++((Value.slice (some ⟨g,0,Option.none⟩) xs.length cap).ownBlock.toList++(A++(R++B)))):=by
  rw[h8]
  exact zjq _ _ _ _ _ hs2
 have hii:i.toNat<Ss.length:=by omega
 refine⟨w3,?_,W',rfl,⟨rfl,rfl,rfl,by simp[W',w3,World.setRow],fun b hb hc=>?_⟩,(Value.slice (some ⟨g,0,Option.none⟩) xs.length cap).ownBlock.toList++(Ss.set i.toNat S').flatten,⟨_,es.set i.toNat (cs.set jf u),Ss.set i.toNat S',rfl,?_,rfl,by simp[h2],by simp[h3],fun k cs' x T e1 e2 e3=>?_⟩,?_,fun b hb=>?_⟩
 ·have hcz:u.cells = #[u]:=zh2 hone
  have hadd:((slA (.slice (some ⟨g,0,Option.none⟩) xs.length cap)).add (i.toNat*sz α)).add jf=⟨g,i.toNat*sz α+jf,Option.none⟩:=by
   rw[zfE,slA,Addr.add_lit,Nat.zero_add]
  simp only[execOp,ho1,hp,hq,Instr.storeAt,Instr.sureAddr,Sem.run_bind,Sem.run_pure,Result.andThen_ok,storeVar,sizeOf,typeInfo,run_program,hjj,hjs,hs,hcz,Sem.run_ite,hadd]
  rw[if_neg (by simp),hrun]
  rfl
 ·simp only[List.mem_cons,not_or]at hc
  exact⟨hoth b (fun e=>hc.1 (by rw[e];exact hgc)),if_neg fun hm=>hc.2 (tb b hm).2⟩
 ·rw[List.length_set];exact hrow
 ·by_cases e:i.toNat=k
  ·subst e
   rw[List.getElem?_set_self (by omega)]at e1 e2 e3
   cases e1;cases e2;cases e3
   exact own_mono (fun b hb=>hb.elim) hs1
  ·rw[List.getElem?_set_ne e]at e1 e2 e3
   refine own_mono (A:=zok) (fun b hb=>hb.elim) (own_keep (fun b hb=>hb.elim) (fun b hb=>?_) (h11 k cs' x T (Ne.symm e) e1 e2 e3))
   rcases Hole.ab h8 (Ne.symm e) e3 hb with hm |hm<;>exact hoth b (hne b (by simp[hm]))
 ·rw[hperm.nodup_iff,List.nodup_append]
  exact⟨tn,hQn,hTQ⟩
 ·rcases List.mem_append.1 (hperm.mem_iff.1 hb)with hm |hm
  ·exact⟨by simp[W',w3,World.setRow];exact(tb b hm).1,if_pos hm⟩
  ·refine⟨by simp[W',w3,World.setRow];exact(h10 b hm).1,?_⟩
   show(if b∈T0 then c else W.c b)=c
   rw[if_neg fun h=>hTQ b h b hm rfl]
   exact(h10 b hm).2
end
set_option linter.unusedSectionVars false
section
variable {α:Type}[Rp α]{W Wf:CW}{K J:List Nat}{cs:List Value}{x:α}{xs:List α}{v:Value}{f:Nat->Nat}{n k:Nat}
theorem Rd.sh1 (h:Rd W K cs x):Rd (α:=Sh α) W K cs x:=h
theorem Rd.shL (h:Rd W K [v] xs):Rd (α:=List (Sh α)) W K [v] xs:=h
theorem zhr {C L K:List Nat}(h:zem C L=true)(hs:zkq K C=true):zem K L=true:=by
 unfold zem
 rw[List.all_eq_true]
 intro a ha
 rw[Bool.not_eq_true',List.any_eq_false]
 intro x hx hb
 exact zcM h (zf8 hs ha) (by rw[Nat.eq_of_beq_eq_true hb];exact hx)
theorem zgV (W:CW)(c:Nat): ∃ W',W'.w=W.w/\Le [c] W W'/\W'=W.dye c 0:=⟨W.dye c 0,rfl,Le.dye c 0,rfl⟩
end
section
variable {P:Program}{ρ:Env}{w:World}{ty:TypeId}
theorem R.mkF {f:FuncId}{caps:Array Operand}{vs:List Value}(h:caps.toList.map (ev ρ)=vs):Run P ρ w (.makeFunc (.func f) #[] caps) ty (.func (.func f) #[] vs.toArray):=fun o h1 _=>by
 have ha:caps.map (ev ρ)=vs.toArray:=by
  apply Array.ext'
  rw[Array.toList_map,h]
 simp[execOp,h1,Instr.makeFunc,ha]
theorem R.max {x y:Operand}{t t':TypeId}{a b:Int}(hx:ev ρ x=vI a)(hy:ev ρ y=vI b):Run P ρ w (.call ⟨.builtin .max,#[x,y],#[t,t']⟩) ty (vI (maxI a b)):=fun o h1 _=>by
 simp only[execOp,h1,resolve,invoke,builtin,Sem.run_bind,Sem.run_pure,Result.andThen_ok,List.map_toArray,List.map_cons,List.map_nil,hx,hy]
 unfold maxI
 by_cases h:a<b
 ·simp[Builtin.max_,Builtin.max2,h]
 ·simp[Builtin.max_,Builtin.max2,h]
theorem R.min {x y:Operand}{t t':TypeId}{a b:Int}(hx:ev ρ x=vI a)(hy:ev ρ y=vI b):Run P ρ w (.call ⟨.builtin .min,#[x,y],#[t,t']⟩) ty (vI (zxs a b)):=fun o h1 _=>by
 simp only[execOp,h1,resolve,invoke,builtin,Sem.run_bind,Sem.run_pure,Result.andThen_ok,List.map_toArray,List.map_cons,List.map_nil,hx,hy]
 unfold zxs
 by_cases h:b<a
 ·simp[Builtin.min_,Builtin.min2,h]
 ·simp[Builtin.min_,Builtin.min2,h]
theorem T.callV {f:FuncId}{x:Operand}{args:Array Operand}{tys:Array TypeId}{vals caps:List Value}{R:Value->World->Prop}[hF:Fun P f](hx:ev ρ x = .func (.func f) #[] caps.toArray)(ha:args.toList.map (ev ρ)=vals)(hc:zap P f (vals++caps).toArray w R):
 Tr P ρ w (.call ⟨.value x,args,tys⟩) ty R:=fun o h1 _ a K Q hav hk=>by
 obtain⟨fn,hf,hb,hn⟩:=hF.h
 have ha:args.map (ev ρ)=vals.toArray:=by
  apply Array.ext'
  rw[Array.toList_map,ha]
 have hr:(execOp (ev ρ) o).run P w = .ok (.enter f (vals++caps).toArray) w:=by
  simp only[execOp,h1,resolve,hx,Deferred.ofValue,Sem.run_bind,Sem.run_pure,Result.andThen_ok,invoke,callFunc,run_program,hf,hn,hb,ha,Bool.false_eq_true,if_false]
  simp
 unfold Oper.wp
 rw[hav,hr]
 exact Calls.mono hc fun e w' ⟨v,e',hv⟩=>by subst e';exact hk v w' hv
end
section
variable {P:Program}{ρ:Env}{w:World}{l:List ResultVar}{vs:List Value}
theorem zjZ.n:zjZ P w ρ [] []:=trivial
theorem zjZ.t {t:Nat}{v:Value}(h:ρ t=v)(k:zjZ P w ρ l vs):zjZ P w ρ (.tmp t::l) (v::vs):=⟨h.symm,k⟩
theorem zjZ.c {W:CW}{q t s b k g:Nat}{z:Value}{cs:List Value}{fs:Array Field}[Und P t (.struct fs)][Inf P t s b z](h:ρ q=ptr (bx g))(hB:Bx W k g cs)(hk:zjZ P W.w ρ l vs)(hs:s=cs.length:=by rfl):zjZ P W.w ρ (.cell q t::l) (.agg cs.toArray::vs):=⟨⟨_,h,hB.loadA hs⟩,hk⟩
end
def Gl (g:Nat)[Rp Int](W:CW)(K:List Nat):Prop:= ∃ m:Int,At W K ⟨g,0,none⟩ m
section
variable {g:Nat}[Rp Int]{W W':CW}{K L M:List Nat}
theorem Gl.up (h:Gl g W K)(l:Le L W W')(hd:zem K L=true:=by rfl):Gl g W' K:=let ⟨m,hm⟩:=h;⟨m,hm.up l hd⟩
theorem Gl.ul (h:Gl g W [0])(l:Le LL W W'):Gl g W' [0]:=h.up l rfl
theorem Gl.sub (h:Gl g W K)(hs:zkq K M=true):Gl g W M:=let ⟨m,⟨h1,h2⟩,cs,h3,h4⟩:=h;⟨m,⟨h1,zf8 hs h2⟩,cs,h3,h4.sub hs⟩
theorem Gl.view (h:Gl g W K)(J:List Nat):Gl g (W.view K J) [0]:=let ⟨m,hm⟩:=h;⟨m,hm.view J⟩
end
section
variable {A B C:CW}{L:List Nat}
theorem Le.t (a:Le LL A B)(l:Le L B C)(h:zkq L LL=true:=by rfl):Le LL A C:=a.trans (l.sub h)
theorem Le.n (a:Le LL A B)(l:Le [] B C):Le LL A C:=a.trans l.nil
theorem Le.s (l:Le L A B)(h:zkq L LL=true:=by rfl):Le LL A B:=l.sub h
theorem Le.o (l:Le [] A B):Le LL A B:=l.nil
end
def ev1 (n d:Nat)(ρ:Env)(x:Operand):Option Value:=bif Nat.blt d n then some (ev ρ x) else none
def ev2 (n d:Nat)(ρ:Env)(x y:Operand):Option (Value×Value):=bif Nat.blt d n then some (ev ρ x,ev ρ y) else none
section
variable {P:Program}{n d:Nat}{ρ:Env}{w:World}{ops:Array Oper}{rest:List Oper}{Q:Env->World->Prop}{ty:TypeId}{pos:String}{af:Array Edge}{x y c:Operand}{v v':Value}{t t':TypeId}{k:IntKind}{a b:Int}
theorem zf1 (h:ev1 n d ρ x=some v):Nat.blt d n=true/\ev ρ x=v:=by
 unfold ev1 at h
 cases hd:Nat.blt d n with
 |false=>rw[hd]at h;cases h
 |true=>rw[hd]at h;exact⟨rfl,Option.some.inj h⟩
theorem zcV (h:ev2 n d ρ x y=some (v,v')):Nat.blt d n=true/\ev ρ x=v/\ev ρ y=v':=by
 unfold ev2 at h
 cases hd:Nat.blt d n with
 |false=>rw[hd]at h;cases h
 |true=>rw[hd]at h;have:=Option.some.inj h;exact⟨rfl,congrArg Prod.fst this,congrArg Prod.snd this⟩
theorem Lw.m (v:Value)(e:ev1 n d ρ x=some v)(h:Lw P n ops rest Q (ρ.up d v) w):Lw P n ops (⟨some d, .move x,ty,pos,af,none⟩::rest) Q ρ w:=
 Lw.r (zf1 e).1 (R.mv (zf1 e).2) h
theorem Lw.g (v:Value)(e:ev1 n d ρ x=some v)(h:Lw P n ops rest Q (ρ.up d v) w):Lw P n ops (⟨some d, .assign x,ty,pos,af,none⟩::rest) Q ρ w:=
 Lw.r (zf1 e).1 (R.as (zf1 e).2) h
theorem Lw.p {q b:Bool}(hq:q=b)(v:Value)(e:ev2 n d ρ c (bif b then x else y)=some (.bool q,v))(h:Lw P n ops rest Q (ρ.up d v) w):Lw P n ops (⟨some d, .pick c x y,ty,pos,af,none⟩::rest) Q ρ w:=
 Lw.r (zcV e).1 (R.pk hq (zcV e).2.1 (zcV e).2.2) h
theorem Lw.add (e:ev2 n d ρ x y=some (.int k a, .int k b))(h:Lw P n ops rest Q (ρ.up d (.int k (k.wrap (a+b)))) w):Lw P n ops (⟨some d, .binOp .add t x y t',ty,pos,af,none⟩::rest) Q ρ w:=
 Lw.r (zcV e).1 (R.add (zcV e).2.1 (zcV e).2.2) h
theorem Lw.sub (e:ev2 n d ρ x y=some (.int k a, .int k b))(h:Lw P n ops rest Q (ρ.up d (.int k (k.wrap (a-b)))) w):Lw P n ops (⟨some d, .binOp .sub t x y t',ty,pos,af,none⟩::rest) Q ρ w:=
 Lw.r (zcV e).1 (R.sub (zcV e).2.1 (zcV e).2.2) h
theorem Lw.eq (e:ev2 n d ρ x y=some (.int k a, .int k b))(h:Lw P n ops rest Q (ρ.up d (.bool (a==b))) w):Lw P n ops (⟨some d, .binOp .eql t x y t',ty,pos,af,none⟩::rest) Q ρ w:=
 Lw.r (zcV e).1 (R.eq (zcV e).2.1 (zcV e).2.2) h
theorem Lw.ne (e:ev2 n d ρ x y=some (.int k a, .int k b))(h:Lw P n ops rest Q (ρ.up d (.bool (a !=b))) w):Lw P n ops (⟨some d, .binOp .neq t x y t',ty,pos,af,none⟩::rest) Q ρ w:=
 Lw.r (zcV e).1 (R.ne (zcV e).2.1 (zcV e).2.2) h
theorem Lw.lt (e:ev2 n d ρ x y=some (.int k a, .int k b))(h:Lw P n ops rest Q (ρ.up d (.bool (decide (a<b)))) w):Lw P n ops (⟨some d, .binOp .lss t x y t',ty,pos,af,none⟩::rest) Q ρ w:=
 Lw.r (zcV e).1 (R.lt (zcV e).2.1 (zcV e).2.2) h
theorem Lw.le (e:ev2 n d ρ x y=some (.int k a, .int k b))(h:Lw P n ops rest Q (ρ.up d (.bool (decide (a<=b)))) w):Lw P n ops (⟨some d, .binOp .leq t x y t',ty,pos,af,none⟩::rest) Q ρ w:=
 Lw.r (zcV e).1 (R.le (zcV e).2.1 (zcV e).2.2) h
theorem Lw.gt (e:ev2 n d ρ x y=some (.int k a, .int k b))(h:Lw P n ops rest Q (ρ.up d (.bool (decide (b<a)))) w):Lw P n ops (⟨some d, .binOp .gtr t x y t',ty,pos,af,none⟩::rest) Q ρ w:=
 Lw.r (zcV e).1 (R.gt (zcV e).2.1 (zcV e).2.2) h
theorem Lw.ge (e:ev2 n d ρ x y=some (.int k a, .int k b))(h:Lw P n ops rest Q (ρ.up d (.bool (decide (b<=a)))) w):Lw P n ops (⟨some d, .binOp .geq t x y t',ty,pos,af,none⟩::rest) Q ρ w:=
 Lw.r (zcV e).1 (R.ge (zcV e).2.1 (zcV e).2.2) h
theorem Lw.seq {s r:Str}(e:ev2 n d ρ x y=some (vS s,vS r))(h:Lw P n ops rest Q (ρ.up d (.bool (s==r))) w):Lw P n ops (⟨some d, .binOp .eql t x y t',ty,pos,af,none⟩::rest) Q ρ w:=
 Lw.r (zcV e).1 (R.seq (zcV e).2.1 (zcV e).2.2) h
theorem Lw.sne {s r:Str}(e:ev2 n d ρ x y=some (vS s,vS r))(h:Lw P n ops rest Q (ρ.up d (.bool (s !=r))) w):Lw P n ops (⟨some d, .binOp .neq t x y t',ty,pos,af,none⟩::rest) Q ρ w:=
 Lw.r (zcV e).1 (R.sne (zcV e).2.1 (zcV e).2.2) h
theorem Lw.fa {s f off:Nat}[hF:Fld P s f off]{p:Addr}(e:ev1 n d ρ x=some (.pointer (some p)))(h:Lw P n ops rest Q (ρ.up d (.pointer (some (p.add off)))) w):Lw P n ops (⟨some d, .fieldAddr s x f,ty,pos,af,none⟩::rest) Q ρ w:=
 Lw.r (zf1 e).1 (R.fa (zf1 e).2) h
theorem Lw.ln {α:Type}[Rp α]{e':TypeId}[hU:Und P t (.slice e')]{W:CW}{K:List Nat}(xs:List α)(hr:Rd W K [v] xs)(e:ev1 n d ρ x=some v)(h:Lw P n ops rest Q (ρ.up d (vI xs.length)) W.w):Lw P n ops (⟨some d, .call ⟨.builtin .len,#[x],#[t]⟩,ty,pos,af,none⟩::rest) Q ρ W.w:=
 Lw.r (zf1 e).1 (zpZ hr (zf1 e).2) h
end
theorem zer.u {lo hi:Nat}{vs:List Nat}{ρ ρ':Env}{d:Nat}{v:Value}(h:zer lo hi vs ρ ρ')(hd:inR lo hi vs d=true:=by rfl):zer lo hi vs (ρ.up d v) ρ':=zer.up hd h
def gdO (ops:Array Oper)(n:Nat)(ρ:Env)(g:Option (Nat×Bool))(dst:Option Nat):Option (Nat×Value×Bool):=
 match g,dst with
 |some (j,b),some d=>match (ops[j]?).bind (·.dst)with
  |some t=>bif Nat.blt d n&&Nat.blt t n then some (d,ρ t,b) else none
  |none=>none
 |_,_=>none
theorem zo0 {ops:Array Oper}{n:Nat}{ρ:Env}{g:Option (Nat×Bool)}{dst:Option Nat}{d:Nat}{v:Value}{b:Bool}(h:gdO ops n ρ g dst=some (d,v,b)):
 ∃ j t,g=some (j,b)/\dst=some d/\Nat.blt d n=true/\(ops[j]?).bind (·.dst)=some t/\Nat.blt t n=true/\ev ρ (.tmp t)=v:=by
 unfold gdO at h
 split at h
 ·rename_i j b' d'
  split at h
  ·rename_i t ht
   cases hb:(Nat.blt d' n&&Nat.blt t n)with
   |false=>rw[hb]at h;cases h
   |true=>
    rw[hb]at h
    simp only[aG]at hb
    cases h
    exact⟨j,t,rfl,rfl,hb.1,ht,hb.2,rfl⟩
  ·cases h
 ·cases h
section
variable {P:Program}{n d i k:Nat}{ρ:Env}{w:World}{ops:Array Oper}{rest:List Oper}{Q:Env->World->Prop}{C:World->Prop}{π:List (Nat×Nat)}{b c q:Bool}{o:Oper}{op:Op}{ty:TypeId}{pos:String}{af:Array Edge}{g:Option (Nat×Bool)}{dst:Option Nat}
theorem Lw.ps (hq:q=c)(e:gdO ops n ρ o.guard o.dst=some (d, .bool q,!c))(h:Lw P n ops rest Q (ρ.up d undef) w):Lw P n ops (o::rest) Q ρ w:=by
 obtain⟨j,t,h1,h2,h3,h4,h5,h6⟩:=zo0 e
 exact Lw.pass' hq h1 h2 h3 h4 h5 h6 (by cases c<;>rfl) h
theorem Lw.pu (e:gdO ops n ρ o.guard o.dst=some (d,undef,b))(h:Lw P n ops rest Q (ρ.up d undef) w):Lw P n ops (o::rest) Q ρ w:=by
 obtain⟨j,t,h1,h2,h3,h4,h5,h6⟩:=zo0 e
 exact Lw.passU h1 h2 h3 h4 h5 h6 h
theorem Mw.ps (hq:q=c)(hi:ops[i]? =some ⟨dst,op,ty,pos,af,g⟩)(e:gdO ops n ρ g dst=some (d, .bool q,!c))(h:Mw P n ops C π Q (ρ.up d undef) w):Mw P n ops C ((i,k)::π) Q ρ w:=by
 obtain⟨j,t,rfl,rfl,h3,h4,h5,h6⟩:=zo0 e
 exact Mw.pass' hq hi h3 h4 h5 h6 (by cases c<;>rfl) h
theorem Mw.pu (hi:ops[i]? =some ⟨dst,op,ty,pos,af,g⟩)(e:gdO ops n ρ g dst=some (d,undef,b))(h:Mw P n ops C π Q (ρ.up d undef) w):Mw P n ops C ((i,k)::π) Q ρ w:=by
 obtain⟨j,t,rfl,rfl,h3,h4,h5,h6⟩:=zo0 e
 exact Mw.passU hi h3 h4 h5 h6 h
end
section
variable {P:Program}{n id:Nat}{Q R:Post}{ρ:Env}{w:World}{x y z:Code}{l:List Oper}
theorem rg (h:Lw P n l.toArray l (fun ρ w=>R .normal ρ w) ρ w):Cw P n (.region id l.toArray false) R ρ w:=Cw.region h
theorem sr (h:Lw P n l.toArray l (Cw P n y Q) ρ w):Cw P n (.seq (.region id l.toArray false) y) Q ρ w:=Cw.seq (Cw.region h)
theorem ssr (h:Lw P n l.toArray l (Cw P n y (Post.seq (Cw P n z Q) Q)) ρ w):Cw P n (.seq (.seq (.region id l.toArray false) y) z) Q ρ w:=Cw.seq (sr h)
theorem sk (h:Q .normal ρ w):Cw P n .skip Q ρ w:=Cw.skip h
variable {α:Type}{A B:Option α}{r:α}{b:Bool}{c:Operand}
theorem cn (hm:(bif b then A else B)=some r)(ht:A=some r->Cw P n x Q ρ w)(hf:B=some r->Cw P n y Q ρ w)(hc:ev ρ c = .bool b:=by rfl):Cw P n (.cond c x y) Q ρ w:=
 Cw.cond hc (fun h=>ht (bt hm h)) (fun h=>hf (bf hm h))
theorem bs {p:Prop}(hm:(bif b then A else B)=some r)(ht:b=true->A=some r->p)(hf:b=false->B=some r->p):p:=
 zuo b (fun h=>ht h (bt hm h)) (fun h=>hf h (bf hm h))
end
section
variable {P:Program}{n d:Nat}{ρ:Env}{w:World}{ops:Array Oper}{rest:List Oper}{Q:Env->World->Prop}{ty:TypeId}{pos:String}{af:Array Edge}{x y c:Operand}{v:Value}{k:IntKind}{a:Int}{b q:Bool}{s:Str}{p:Addr}
theorem mi (e:ev1 n d ρ x=some (.int k a))(h:Lw P n ops rest Q (ρ.up d (.int k a)) w):Lw P n ops (⟨some d, .move x,ty,pos,af,none⟩::rest) Q ρ w:=Lw.m _ e h
theorem mb (e:ev1 n d ρ x=some (vB b))(h:Lw P n ops rest Q (ρ.up d (vB b)) w):Lw P n ops (⟨some d, .move x,ty,pos,af,none⟩::rest) Q ρ w:=Lw.m _ e h
theorem ms (e:ev1 n d ρ x=some (vS s))(h:Lw P n ops rest Q (ρ.up d (vS s)) w):Lw P n ops (⟨some d, .move x,ty,pos,af,none⟩::rest) Q ρ w:=Lw.m _ e h
theorem mp (e:ev1 n d ρ x=some (ptr p))(h:Lw P n ops rest Q (ρ.up d (ptr p)) w):Lw P n ops (⟨some d, .move x,ty,pos,af,none⟩::rest) Q ρ w:=Lw.m _ e h
theorem mv (v:Value)(e:ev1 n d ρ x=some v)(h:Lw P n ops rest Q (ρ.up d v) w):Lw P n ops (⟨some d, .move x,ty,pos,af,none⟩::rest) Q ρ w:=Lw.m v e h
theorem Gi (e:ev1 n d ρ x=some (.int k a))(h:Lw P n ops rest Q (ρ.up d (.int k a)) w):Lw P n ops (⟨some d, .assign x,ty,pos,af,none⟩::rest) Q ρ w:=Lw.g _ e h
theorem Gb (e:ev1 n d ρ x=some (vB b))(h:Lw P n ops rest Q (ρ.up d (vB b)) w):Lw P n ops (⟨some d, .assign x,ty,pos,af,none⟩::rest) Q ρ w:=Lw.g _ e h
theorem Gv (v:Value)(e:ev1 n d ρ x=some v)(h:Lw P n ops rest Q (ρ.up d v) w):Lw P n ops (⟨some d, .assign x,ty,pos,af,none⟩::rest) Q ρ w:=Lw.g v e h
theorem Ni (e:ev1 n d ρ x=some (.int k a))(h:Q (ρ.up d (.int k a)) w):Lw P n ops [⟨some d, .assign x,ty,pos,af,none⟩] Q ρ w:=Lw.g _ e (Lw.nil h)
theorem Nb (e:ev1 n d ρ x=some (vB b))(h:Q (ρ.up d (vB b)) w):Lw P n ops [⟨some d, .assign x,ty,pos,af,none⟩] Q ρ w:=Lw.g _ e (Lw.nil h)
theorem Ns (e:ev1 n d ρ x=some (vS s))(h:Q (ρ.up d (vS s)) w):Lw P n ops [⟨some d, .assign x,ty,pos,af,none⟩] Q ρ w:=Lw.g _ e (Lw.nil h)
theorem Np (e:ev1 n d ρ x=some (ptr p))(h:Q (ρ.up d (ptr p)) w):Lw P n ops [⟨some d, .assign x,ty,pos,af,none⟩] Q ρ w:=Lw.g _ e (Lw.nil h)
theorem Nv (v:Value)(e:ev1 n d ρ x=some v)(h:Q (ρ.up d v) w):Lw P n ops [⟨some d, .assign x,ty,pos,af,none⟩] Q ρ w:=Lw.g v e (Lw.nil h)
theorem nl (h:Q ρ w):Lw P n ops [] Q ρ w:=Lw.nil h
theorem Pb (hq:q=b){o:Bool}(e:ev2 n d ρ c (bif b then x else y)=some (.bool q,vB o))(h:Lw P n ops rest Q (ρ.up d (vB o)) w):Lw P n ops (⟨some d, .pick c x y,ty,pos,af,none⟩::rest) Q ρ w:=Lw.p hq _ e h
end
section
variable {lo hi:Nat}{vs:List Nat}{ρ ρ':Env}
theorem ag (ha:zer lo hi vs ρ ρ':=by repeat (first |with_reducible exact zer.refl _ |with_reducible exact zer.base |refine zer.ov0 rfl ?_ |refine zer.u ?_)){J:Prop}(hJ:J):zer lo hi vs ρ ρ'/\J:=⟨ha,hJ⟩
theorem agm (ha:zer lo hi vs ρ ρ':=by repeat (first |with_reducible exact zer.refl _ |with_reducible exact zer.base |refine zer.ov0 rfl ?_ |refine zer.u ?_)){m:Nat}{I:Nat->Prop}(h:I m):zer lo hi vs ρ ρ' /\ ∃ m',m'<m+1/\I m':=⟨ha,m,Nat.lt_succ_self m,h⟩
end
section
variable {A B C:CW}{L M:List Nat}
theorem Le.j (l:Le L A B)(k:Le M B C):Le (L++M) A C:=(l.sub (by
 unfold zkq;rw[List.all_eq_true];intro a ha;rw[List.any_eq_true];exact⟨a,List.mem_append_left _ ha,Nat.beq_refl a⟩)).trans (k.sub (by
 unfold zkq;rw[List.all_eq_true];intro a ha;rw[List.any_eq_true];exact⟨a,aJ _ ha,Nat.beq_refl a⟩))
theorem Le.w (l:Le L A B)(h:zkq L M=true:=by rfl):Le M A B:=l.sub h
end
section
variable {P:Program}{n d d2 i k g j off s f:Nat}{ρ:Env}{W:CW}{ops:Array Oper}{rest:List Oper}{Q:Env->World->Prop}{ty ty2 t:TypeId}{pos pos2:String}{af af2:Array Edge}{x y:Operand}{v:Value}{cs:List Value}{d0:TypeDesc}{fs:Array Field}
theorem lb [hU:Und P t d0](B:Bx W k g cs)(e:ev1 n d ρ x=some (ptr ((bx g).add j)))(hv:cs[j]? =some v)(h:Lw P n ops rest Q (ρ.up d v) W.w)(hd:zsk d0=true:=by rfl):Lw P n ops (⟨some d, .load t x,ty,pos,af,none⟩::rest) Q ρ W.w:=
 Lw.r (zf1 e).1 (R.ld hd (zf1 e).2 (B.cell hv)) h
theorem fl [hF:Fld P s f off] [hU:Und P t d0] (B:Bx W k g cs) (hv:cs[off]? =some v) (h:Lw P n ops rest Q ((ρ.up d (ptr ((bx g).add off))).up d2 v) W.w) (e:ev1 n d ρ x=some (ptr (bx g)):=by rfl)
 (e2:ev1 n d2 (ρ.up d (ptr ((bx g).add off))) y=some (ptr ((bx g).add off)):=by rfl) (hd:zsk d0=true:=by rfl):
 Lw P n ops (⟨some d, .fieldAddr s x f,ty,pos,af,none⟩::⟨some d2, .load t y,ty2,pos2,af2,none⟩::rest) Q ρ W.w:=
 Lw.fa e (Lw.r (zf1 e2).1 (R.ld hd (zf1 e2).2 (B.cell hv)) h)
theorem la {b:Nat}{z:Value}[hU:Und P t (.struct fs)][hI:Inf P t s b z](B:Bx W k g cs)(h:Lw P n ops rest Q (ρ.up d (.agg cs.toArray)) W.w)(e:ev1 n d ρ x=some (ptr (bx g)):=by rfl)(hl:cs.length=s:=by rfl):Lw P n ops (⟨some d, .load t x,ty,pos,af,none⟩::rest) Q ρ W.w:=
 Lw.r (zf1 e).1 (R.lda B.cells hl (zf1 e).2) h
theorem bo (c:Nat)(e:ev1 n d ρ x=some (.agg cs.toArray))(h: ∀ g W',Le [] W W'->Bx W' c g cs->Lw P n ops rest Q (ρ.up d (ptr (bx g))) W'.w):Lw P n ops (⟨some d, .box t x,ty,pos,af,none⟩::rest) Q ρ W.w:=
 Lw.t (zf1 e).1 (T.box c (zf1 e).2 rfl) fun v w' ⟨g,W',hw,hv,l,b⟩=>by subst hw;subst hv;exact h g W' l b
theorem al {b:Nat}{z:Value}[hI:Inf P t s b z](c:Nat)(cs:List Value)(h: ∀ g W',Le [] W W'->Bx W' c g cs->Lw P n ops rest Q (ρ.up d (ptr (bx g))) W'.w)(hd:Nat.blt d n=true:=by rfl)(hc:z.cells=cs.toArray:=by rfl):Lw P n ops (⟨some d, .alloc t,ty,pos,af,none⟩::rest) Q ρ W.w:=
 Lw.t hd (T.alloc c hc) fun v w' ⟨g,W',hw,hv,l,b⟩=>by subst hw;subst hv;exact h g W' l b
theorem sta {b:Nat}{z:Value}{vs:List Value}[hI:Inf P t s b z](B:Bx W k g cs)(hv: ∀ v∈vs,v.oneCell'=true)(h: ∀ W',Le [k] W W'->Bx W' k g vs->Lw P n ops rest Q ρ W'.w)(hp:ev ρ x=ptr (bx g):=by rfl)(hy:ev ρ y = .agg vs.toArray:=by rfl)(hs:s=vs.length:=by rfl)(hl:vs.length=cs.length:=by rfl):
 Lw P n ops (⟨none, .store t x y,ty,pos,af,none⟩::rest) Q ρ W.w:=
 Lw.u (T.sta B hs hl hv hp hy) fun v w' ⟨W',hw,l,b⟩=>by subst hw;exact h W' l b
end
section
variable {P:Program}{n d f:Nat}{ρ:Env}{W:CW}{ops:Array Oper}{rest:List Oper}{Q:Env->World->Prop}{ty:TypeId}{pos:String}{af:Array Edge}{args:Array Operand}{tys:Array TypeId}{vals:List Value}{L:List Nat}{α β:Type}{o:Option β}{F:β->Option α}{r:α}
theorem ca {g:β->Value} [hF:Fun P f] (hm:o.bind F=some r) (hc: ∀ z,o=some z->zap P f vals.toArray W.w (Res W L fun _ v=>v=g z)) (h: ∀ z W',F z=some r->Le L W W'->Lw P n ops rest Q (ρ.up d (g z)) W'.w)
 (ha:args.toList.map (ev ρ)=vals:=by exact rfl) (hd:Nat.blt d n=true:=by rfl):Lw P n ops (⟨some d, .call ⟨.value (.func f),args,tys⟩,ty,pos,af,none⟩::rest) Q ρ W.w:=by
 obtain⟨z,e,hm⟩:=ob hm
 refine Lw.t hd (T.call ha (hc z e)) fun v w' ⟨W',hw,l,hv⟩=>?_
 subst hw;subst hv
 exact h z W' hm l
theorem cr {R:β->CW->Value->Prop} [hF:Fun P f] (hm:o.bind F=some r) (hc: ∀ z,o=some z->zap P f vals.toArray W.w (Res W L (R z))) (h: ∀ z v W',F z=some r->Le L W W'->R z W' v->Lw P n ops rest Q (ρ.up d v) W'.w)
 (ha:args.toList.map (ev ρ)=vals:=by exact rfl) (hd:Nat.blt d n=true:=by rfl):Lw P n ops (⟨some d, .call ⟨.value (.func f),args,tys⟩,ty,pos,af,none⟩::rest) Q ρ W.w:=by
 obtain⟨z,e,hm⟩:=ob hm
 refine Lw.t hd (T.call ha (hc z e)) fun v w' ⟨W',hw,l,hv⟩=>?_
 subst hw
 exact h z v W' hm l hv
end
section
variable {P:Program}{ρ:Env}{V W:CW}{α:Type}{x r:α}{g:α->Value}{t:Nat}
theorem rt (hm:some x=some r)(a:Le LL V W)(e:ρ t=g x:=by rfl):zsL P [.tmp t] (Res V LL fun _ v=>v=g r) .ret ρ W.w:=by
 cases hm
 exact zhg e (Res.mk a rfl)
end
def psG:Nat->List Oper->Env->List Oper×Env
 |k+1,⟨some d,_,_,_,_,_⟩::l,ρ=>psG k l (ρ.up d undef)
 |_,l,ρ=>(l,ρ)
def gdV (ops:Array Oper)(n:Nat)(ρ:Env)(j d:Nat)(b:Bool):Option (Value×Bool):=match (ops[j]?).bind (·.dst)with
 |some t=>bif Nat.blt d n&&Nat.blt t n then some (ρ t,b) else none
 |none=>none
def psP (ops:Array Oper)(n:Nat)(q c:Bool):Nat->List Oper->Env->Prop
 |k+1,⟨some d,_,_,_,_,some (j,b)⟩::l,ρ=>gdV ops n ρ j d b=some (.bool q,!c)/\psP ops n q c k l (ρ.up d undef)
 |0,_,_=>True
 |_,_,_=>False
def puP (ops:Array Oper)(n:Nat):Nat->List Oper->Env->Prop
 |k+1,⟨some d,_,_,_,_,some (j,b)⟩::l,ρ=>gdV ops n ρ j d b=some (undef,b)/\puP ops n k l (ρ.up d undef)
 |0,_,_=>True
 |_,_,_=>False
section
variable {P:Program}{n d i k:Nat}{ρ ρ':Env}{w:World}{ops:Array Oper}{l l':List Oper}{Q:Env->World->Prop}{c q b:Bool}
theorem zo1 {j:Nat}{v:Value}{b':Bool}(h:gdV ops n ρ j d b=some (v,b')):gdO ops n ρ (some (j,b)) (some d)=some (d,v,b'):=by
 unfold gdV at h
 unfold gdO
 split at h
 ·rename_i t ht
  simp only[ht]
  cases hb:(Nat.blt d n&&Nat.blt t n)with
  |false=>rw[hb]at h;cases h
  |true=>rw[hb]at h;cases h;rfl
 ·cases h
theorem zqo (hq:q=c): ∀ (k:Nat) (l:List Oper) (ρ:Env),psP ops n q c k l ρ->Lw P n ops (psG k l ρ).1 Q (psG k l ρ).2 w->Lw P n ops l Q ρ w
 |0,l,ρ,_,h=>by cases l<;>exact h
 |k+1,[],ρ,e,_=>e.elim
 |k+1,⟨none,_,_,_,_,_⟩::l,ρ,e,_=>e.elim
 |k+1,⟨some d,_,_,_,_,none⟩::l,ρ,e,_=>e.elim
 |k+1,⟨some d,op,ty,pos,af,some (j,b)⟩::l,ρ,e,h=>Lw.ps hq (zo1 e.1) (zqo hq k l _ e.2 h)
theorem zqp: ∀ (k:Nat) (l:List Oper) (ρ:Env),puP ops n k l ρ->Lw P n ops (psG k l ρ).1 Q (psG k l ρ).2 w->Lw P n ops l Q ρ w
 |0,l,ρ,_,h=>by cases l<;>exact h
 |k+1,[],ρ,e,_=>e.elim
 |k+1,⟨none,_,_,_,_,_⟩::l,ρ,e,_=>e.elim
 |k+1,⟨some d,_,_,_,_,none⟩::l,ρ,e,_=>e.elim
 |k+1,⟨some d,op,ty,pos,af,some (j,b)⟩::l,ρ,e,h=>Lw.pu (zo1 e.1) (zqp k l _ e.2 h)
theorem psk (k:Nat)(hq:q=c)(eg:psG k l ρ=(l',ρ'))(h:Lw P n ops l' Q ρ' w)(e:psP ops n q c k l ρ:=by repeat (first |exact trivial |refine⟨rfl,?_⟩)):Lw P n ops l Q ρ w:=
 zqo hq k l ρ e (by rw[eg];exact h)
theorem puk (k:Nat)(eg:psG k l ρ=(l',ρ'))(h:Lw P n ops l' Q ρ' w)(e:puP ops n k l ρ:=by repeat (first |exact trivial |refine⟨rfl,?_⟩)):Lw P n ops l Q ρ w:=
 zqp k l ρ e (by rw[eg];exact h)
def waG:Nat->List Oper->List Oper
 |k+1,⟨d,op,ty,pos,af,_⟩::l=>⟨d,op,ty,pos,af,none⟩::waG k l
 |_,l=>l
def eqD:Option Nat->Nat->Bool
 |some d,t=>Nat.beq d t
 |none,_=>false
def waB (j t:Nat)(b:Bool):Nat->List Oper->Bool
 |k+1,⟨d,_,_,_,_,some (j',b')⟩::l=>Nat.beq j' j&&((bif b then b' else !b')&&(!eqD d t&&waB j t b k l))
 |0,_=>true
 |_,_=>false
def waC (ops:Array Oper)(n:Nat)(ρ:Env)(k:Nat):List Oper->Option (Value×Bool)
 |⟨d,op,ty,pos,af,some (j,b)⟩::l=>match (ops[j]?).bind (·.dst)with
  |some t=>bif Nat.blt t n&&waB j t b k (⟨d,op,ty,pos,af,some (j,b)⟩::l) then some (ρ t,b) else none
  |none=>none
 |_=>none
theorem zpx {a:Act}{d:Option Nat}{t:Nat}(v:Value)(h:eqD d t=false):(a.put d v).tmps[t]? =a.tmps[t]? :=by
 cases d with
 |none=>rfl
 |some d=>
  have hne:d≠t:=fun e=>by rw[e]at h;simp[eqD,Nat.beq_refl]at h
  show(a.tmps.setIfInBounds d v)[t]? =_
  exact Array.getElem?_setIfInBounds_ne hne
theorem Oper.wp_monoD {Q:Exit->Act->World->Prop}{o:Oper}{t:Nat}{a:Act}{w:World}{K K':Act->World->Prop}(hd:eqD o.dst t=false)(h: ∀ a' w',a'.tmps[t]? =a.tmps[t]? ->K a' w'->K' a' w')(hh:o.wp P a w K Q):o.wp P a w K' Q:=by
 have hp: ∀ (a':Act) (v:Value) (w':World),a'.tmps[t]? =a.tmps[t]? ->K (a'.put o.dst v) w'->K' (a'.put o.dst v) w':=fun a' v w' e hk=>h _ _ (by rw[zpx v hd];exact e) hk
 unfold Oper.wp at*
 generalize (execOp a.eval o).run P w=r at*
 cases r with
 |ok n w'=>
  cases n<;>simp only[Oper.upon]at hh ⊢ <;>
   first
    |exact hp _ _ _ rfl hh
    |exact Calls.mono hh (fun e w'' he=>by cases e<;>first |exact hp _ _ _ rfl he |exact he)
    |exact Rows.mono hh (fun _ _ he=>hp _ _ _ rfl he)
 |halt x w'=>cases x<;>simp only[Oper.upon]at hh ⊢ <;>exact hh
theorem zqq {Q:Exit->Act->World->Prop}{j t:Nat}(hj:(ops[j]?).bind (·.dst)=some t): ∀ (k:Nat) (l:List Oper) (a:Act) (w:World),waB j t b k l=true->a.tmps[t]? =some (.bool b)->wpList P ops Q (waG k l) a w->wpList P ops Q l a w
 |0,l,a,w,_,_,h=>by cases l<;>exact h
 |k+1,[],a,w,e,_,_=>by cases e
 |k+1,⟨d,op,ty,pos,af,none⟩::l,a,w,e,_,_=>by cases e
 |k+1,⟨d,op,ty,pos,af,some (j',b')⟩::l,a,w,e,hv,h=>by
  simp only[waB,aG,Bool.not_eq_true']at e
  obtain⟨e1,e2,e3,e4⟩:=e
  obtain rfl:j=j':=(Nat.eq_of_beq_eq_true e1).symm
  obtain rfl:b=b':=by cases b<;>cases b'<;>first |rfl |cases e2
  have hw:Region.wanted ⟨d,op,ty,pos,af,some (j,b)⟩ (yielded ops a.tmps)=true:=by
   simp only[Region.wanted,yielded,hj,aA,hv]
   simp
  have hw1:Region.wanted ⟨d,op,ty,pos,af,none⟩ (yielded ops a.tmps)=true:=rfl
  simp only[waG,wpList,hw1,if_true]at h
  simp only[wpList,hw,if_true]
  rcases h with h |h
  ·exact .inl (Oper.wp_monoD (o:=⟨d,op,ty,pos,af,some (j,b)⟩) e3 (fun a' w' ea hk=>zqq hj k l a' w' e4 (ea.trans hv) hk) h)
  ·exact .inr h
theorem wak (k:Nat)(hq:q=b)(h:Lw P n ops (waG k l) Q ρ w)(e:waC ops n ρ k l=some (.bool q,b):=by rfl):Lw P n ops l Q ρ w:=fun a ha=>by
 match l,e with
 |⟨d,op,ty,pos,af,some (j,b')⟩::l,e=>
  simp only[waC]at e
  split at e
  ·rename_i t ht
   cases hb:(Nat.blt t n&&waB j t b' k (⟨d,op,ty,pos,af,some (j,b')⟩::l))with
   |false=>rw[hb]at e;cases e
   |true=>
    rw[hb]at e
    simp only[aG]at hb
    simp only[aD,Option.some.injEq,Prod.mk.injEq]at e
    obtain⟨e1,rfl⟩:=e
    refine zqq ht k _ a w hb.2 ?_ (h a ha)
    have hlt:t<a.tmps.size:=by rw[ha.size];simpa[Nat.blt_eq]using hb.1
    have hv:=ha.val t
    rw[e1,hq,Array.getD_eq_getD_getElem?,Array.getElem?_eq_getElem hlt]at hv
    rw[Array.getElem?_eq_getElem hlt]
    simpa using hv
  ·cases e
end
def qM (ops:Array Oper)(n:Nat)(ρ:Env)(i:Nat):Option (Nat×Value):=match ops[i]? with
 |some ⟨some d, .move x,_,_,_,none⟩=>bif Nat.blt d n then some (d,ev ρ x) else none
 |_=>none
def qA (ops:Array Oper)(n:Nat)(ρ:Env)(i:Nat):Option (Nat×Value):=match ops[i]? with
 |some ⟨some d, .assign x,_,_,_,none⟩=>bif Nat.blt d n then some (d,ev ρ x) else none
 |_=>none
def qF (ops:Array Oper)(n:Nat)(ρ:Env)(i:Nat):Option (Nat×Nat×Nat×Value):=match ops[i]? with
 |some ⟨some d, .fieldAddr s x f,_,_,_,none⟩=>bif Nat.blt d n then some (d,s,f,ev ρ x) else none
 |_=>none
def qL (ops:Array Oper)(n:Nat)(ρ:Env)(i:Nat):Option (Nat×Nat×Value):=match ops[i]? with
 |some ⟨some d, .load t x,_,_,_,none⟩=>bif Nat.blt d n then some (d,t,ev ρ x) else none
 |_=>none
def qC (ops:Array Oper)(n:Nat)(ρ:Env)(i:Nat):Option (Nat×Nat×List Value):=match ops[i]? with
 |some ⟨some d, .call ⟨.value (.func f),args,_⟩,_,_,_,none⟩=>bif Nat.blt d n then some (d,f,args.toList.map (ev ρ)) else none
 |_=>none
def gQ (ops:Array Oper)(n:Nat)(ρ:Env)(i:Nat):Option (Op×Nat×Nat×Value×Bool):=match ops[i]? with
 |some ⟨some d,op,ty,_,_,some (j,b)⟩=>(gdV ops n ρ j d b).map fun p=>(op,ty,d,p.1,p.2)
 |_=>none
section
variable {P:Program}{n d d2 i i2 k g f s t off ty:Nat}{ρ:Env}{w:World}{ops:Array Oper}{C:World->Prop}{π π':List (Nat×Nat)}{Q:Env->World->Prop}{v:Value}{cs vals:List Value}{W0 W A B:CW}{L M:List Nat}{kd:IntKind}{a:Int}{b c q:Bool}{str:Str}{p:Addr}{op:Op}
theorem zwz (h:qM ops n ρ i=some (d,v)): ∃ x ty pos af,ops[i]? =some ⟨some d, .move x,ty,pos,af,none⟩/\Nat.blt d n=true/\ev ρ x=v:=by
 unfold qM at h
 split at h
 ·rename_i d' x ty pos af e
  cases hb:Nat.blt d' n with
  |false=>rw[hb]at h;cases h
  |true=>rw[hb]at h;cases h;exact⟨_,_,_,_,e,hb,rfl⟩
 ·cases h
theorem zwA (h:qA ops n ρ i=some (d,v)): ∃ x ty pos af,ops[i]? =some ⟨some d, .assign x,ty,pos,af,none⟩/\Nat.blt d n=true/\ev ρ x=v:=by
 unfold qA at h
 split at h
 ·rename_i d' x ty pos af e
  cases hb:Nat.blt d' n with
  |false=>rw[hb]at h;cases h
  |true=>rw[hb]at h;cases h;exact⟨_,_,_,_,e,hb,rfl⟩
 ·cases h
theorem zwB (h:qF ops n ρ i=some (d,s,f,v)): ∃ x ty pos af,ops[i]? =some ⟨some d, .fieldAddr s x f,ty,pos,af,none⟩/\Nat.blt d n=true/\ev ρ x=v:=by
 unfold qF at h
 split at h
 ·rename_i d' s' x f' ty pos af e
  cases hb:Nat.blt d' n with
  |false=>rw[hb]at h;cases h
  |true=>rw[hb]at h;cases h;exact⟨_,_,_,_,e,hb,rfl⟩
 ·cases h
theorem zwC (h:qL ops n ρ i=some (d,t,v)): ∃ x ty pos af,ops[i]? =some ⟨some d, .load t x,ty,pos,af,none⟩/\Nat.blt d n=true/\ev ρ x=v:=by
 unfold qL at h
 split at h
 ·rename_i d' s' x ty pos af e
  cases hb:Nat.blt d' n with
  |false=>rw[hb]at h;cases h
  |true=>rw[hb]at h;cases h;exact⟨_,_,_,_,e,hb,rfl⟩
 ·cases h
theorem zwD (h:qC ops n ρ i=some (d,f,vals)): ∃ args tys ty pos af,ops[i]? =some ⟨some d, .call ⟨.value (.func f),args,tys⟩,ty,pos,af,none⟩/\Nat.blt d n=true/\args.toList.map (ev ρ)=vals:=by
 unfold qC at h
 split at h
 ·rename_i d' f' args tys ty pos af e
  cases hb:Nat.blt d' n with
  |false=>rw[hb]at h;cases h
  |true=>rw[hb]at h;cases h;exact⟨_,_,_,_,_,e,hb,rfl⟩
 ·cases h
theorem Dv (v:Value)(e:qM ops n ρ i=some (d,v))(h:Mw P n ops C π Q (ρ.up d v) w):Mw P n ops C ((i,0)::π) Q ρ w:=
 let ⟨_,_,_,_,h1,h2,h3⟩:=zwz e;Mw.p h1 h2 (fun _=>R.mv h3) h
theorem Di (e:qM ops n ρ i=some (d, .int kd a))(h:Mw P n ops C π Q (ρ.up d (.int kd a)) w):Mw P n ops C ((i,0)::π) Q ρ w:=Dv _ e h
theorem Db (e:qM ops n ρ i=some (d,vB b))(h:Mw P n ops C π Q (ρ.up d (vB b)) w):Mw P n ops C ((i,0)::π) Q ρ w:=Dv _ e h
theorem Ds (e:qM ops n ρ i=some (d,vS str))(h:Mw P n ops C π Q (ρ.up d (vS str)) w):Mw P n ops C ((i,0)::π) Q ρ w:=Dv _ e h
theorem Dp (e:qM ops n ρ i=some (d,ptr p))(h:Mw P n ops C π Q (ρ.up d (ptr p)) w):Mw P n ops C ((i,0)::π) Q ρ w:=Dv _ e h
theorem Hv (v:Value)(e:qA ops n ρ i=some (d,v))(h:Mw P n ops C π Q (ρ.up d v) w):Mw P n ops C ((i,0)::π) Q ρ w:=
 let ⟨_,_,_,_,h1,h2,h3⟩:=zwA e;Mw.p h1 h2 (fun _=>R.as h3) h
theorem Hi (e:qA ops n ρ i=some (d, .int kd a))(h:Mw P n ops C π Q (ρ.up d (.int kd a)) w):Mw P n ops C ((i,0)::π) Q ρ w:=Hv _ e h
theorem Hb (e:qA ops n ρ i=some (d,vB b))(h:Mw P n ops C π Q (ρ.up d (vB b)) w):Mw P n ops C ((i,0)::π) Q ρ w:=Hv _ e h
theorem Df (e:qF ops n ρ i=some (d,s,f, .pointer (some p)))[hF:Fld P s f off](h:Mw P n ops C π Q (ρ.up d (.pointer (some (p.add off)))) w):Mw P n ops C ((i,0)::π) Q ρ w:=
 let ⟨_,_,_,_,h1,h2,h3⟩:=zwB e;Mw.p h1 h2 (fun _=>R.fa h3) h
theorem Dl {d0:TypeDesc}{j:Nat}(B:Bx W k g cs)(e:qL ops n ρ i=some (d,t,ptr ((bx g).add j)))[hU:Und P t d0](hv:cs[j]? =some v)(h:Mw P n ops (Cl W L) π Q (ρ.up d v) w)(hd:zem [k] L=true:=by rfl)(hs:zsk d0=true:=by rfl):Mw P n ops (Cl W L) ((i,1)::π) Q ρ w:=
 let ⟨_,_,_,_,h1,h2,h3⟩:=zwC e;Mw.q h1 h2 (fun _ c=>R.ld hs h3 (B.clc hv hd c)) h
theorem Dfl {d0:TypeDesc} (B:Bx W k g cs) (e:qF ops n ρ i=some (d,s,f,ptr (bx g))) [hF:Fld P s f off] (e2:qL ops n (ρ.up d (ptr ((bx g).add off))) i2=some (d2,t,ptr ((bx g).add off))) [hU:Und P t d0] (hv:cs[off]? =some v)
 (h:Mw P n ops (Cl W L) π Q ((ρ.up d (ptr ((bx g).add off))).up d2 v) w) (hd:zem [k] L=true:=by rfl) (hs:zsk d0=true:=by rfl):Mw P n ops (Cl W L) ((i,0)::(i2,1)::π) Q ρ w:=
 Df e (Dl B e2 hv h hd hs)
theorem Dc {α β:Type} {o:Option β} {F:β->Option α} {r:α} {R:β->CW->Value->Prop} [hF:Fun P f] (hm:o.bind F=some r) (c:Le L W0 W) (hc: ∀ z,o=some z->zap P f vals.toArray W.w (Res W M (R z))) (e:qC ops n ρ i=some (d,f,vals))
 (h: ∀ z v W',F z=some r->Le M W W'->R z W' v->Le L W0 W'->Mw P n ops (Cl W0 L) π Q (ρ.up d v) W'.w) (hs:zkq M L=true:=by rfl):Mw P n ops (Cl W0 L) ((i,2)::π) Q ρ W.w:=by
 obtain⟨z,ez,hm⟩:=ob hm
 obtain⟨args,tys,ty,pos,af,h1,h2,h3⟩:=zwD e
 refine Mw.t h1 h2 (T.call h3 (hc z ez)) fun v w' ⟨W',hw,l,hv⟩=>?_
 subst hw
 exact⟨⟨W',rfl,c.trans (l.sub hs)⟩,h z v W' hm l hv (c.trans (l.sub hs))⟩
theorem mc {X:Prop}(d:Le L W0 A)(l:Le M A B)(k:Le L W0 B->X)(h:zkq M L=true:=by rfl):Cl W0 L B.w/\X:=⟨⟨B,rfl,d.trans (l.sub h)⟩,k (d.trans (l.sub h))⟩
theorem m0 {X:Prop}(l:Le M A B)(k:Le L A B->X)(h:zkq M L=true:=by rfl):Cl A L B.w/\X:=⟨⟨B,rfl,l.sub h⟩,k (l.sub h)⟩
theorem zsR (h:gQ ops n ρ i=some (op,ty,d,v,b)): ∃ j t pos af,ops[i]? =some ⟨some d,op,ty,pos,af,some (j,b)⟩/\(ops[j]?).bind (·.dst)=some t/\Nat.blt d n=true/\Nat.blt t n=true/\ev ρ (.tmp t)=v:=by
 unfold gQ at h
 split at h
 ·rename_i d' op' ty' pos af j b' e
  unfold gdV at h
  split at h
  ·rename_i t ht
   cases hb:(Nat.blt d' n&&Nat.blt t n)with
   |false=>rw[hb]at h;cases h
   |true=>
    rw[hb]at h
    simp only[aG]at hb
    cases h
    exact⟨_,_,_,_,e,ht,hb.1,hb.2,rfl⟩
  ·cases h
 ·cases h
theorem Wp (hq:q=b)(e:gQ ops n ρ i=some (op,ty,d, .bool q,b))(hr: ∀ w,Run P ρ w op ty v)(h:Mw P n ops C π Q (ρ.up d v) w):Mw P n ops C ((i,0)::π) Q ρ w:=
 let ⟨_,_,_,_,h1,h2,h3,h4,h5⟩:=zsR e;Mw.gp hq h2 h4 h5 h1 h3 hr h
theorem Wq (hq:q=b)(e:gQ ops n ρ i=some (op,ty,d, .bool q,b))(hr: ∀ w,C w->Run P ρ w op ty v)(h:Mw P n ops C π Q (ρ.up d v) w):Mw P n ops C ((i,1)::π) Q ρ w:=
 let ⟨_,_,_,_,h1,h2,h3,h4,h5⟩:=zsR e;Mw.gq hq h2 h4 h5 h1 h3 hr h
theorem Wt {T:Value->World->Prop}(hq:q=b)(e:gQ ops n ρ i=some (op,ty,d, .bool q,b))(hr:Tr P ρ w op ty T)(h: ∀ v w',T v w'->C w'/\Mw P n ops C π Q (ρ.up d v) w'):Mw P n ops C ((i,2)::π) Q ρ w:=
 let ⟨_,_,_,_,h1,h2,h3,h4,h5⟩:=zsR e;Mw.gt hq h2 h4 h5 h1 h3 hr h
def dpG (ops:Array Oper):Nat->List (Nat×Nat)->Env->List (Nat×Nat)×Env
 |k+1,(i,x)::π,ρ=>match ops[i]? with
  |some ⟨some d,_,_,_,_,_⟩=>dpG ops k π (ρ.up d undef)
  |_=>((i,x)::π,ρ)
 |_,π,ρ=>(π,ρ)
def dpP (ops:Array Oper)(n:Nat)(q c:Bool):Nat->List (Nat×Nat)->Env->Prop
 |k+1,(i,_)::π,ρ=>match ops[i]? with
  |some ⟨some d,_,_,_,_,some (j,b)⟩=>gdV ops n ρ j d b=some (.bool q,!c)/\dpP ops n q c k π (ρ.up d undef)
  |_=>False
 |0,_,_=>True
 |_,_,_=>False
def duP (ops:Array Oper)(n:Nat):Nat->List (Nat×Nat)->Env->Prop
 |k+1,(i,_)::π,ρ=>match ops[i]? with
  |some ⟨some d,_,_,_,_,some (j,b)⟩=>gdV ops n ρ j d b=some (undef,b)/\duP ops n k π (ρ.up d undef)
  |_=>False
 |0,_,_=>True
 |_,_,_=>False
theorem zqr (hq:q=c): ∀ (k:Nat) (π:List (Nat×Nat)) (ρ:Env),dpP ops n q c k π ρ->Mw P n ops C (dpG ops k π ρ).1 Q (dpG ops k π ρ).2 w->Mw P n ops C π Q ρ w
 |0,π,ρ,_,h=>by cases π<;>exact h
 |k+1,[],ρ,e,_=>e.elim
 |k+1,(i,x)::π,ρ,e,h=>by
  unfold dpP at e
  unfold dpG at h
  split at e
  ·rename_i d op ty pos af j b ho
   rw[ho]at h
   exact Mw.ps hq ho (zo1 e.1) (zqr hq k π _ e.2 h)
  ·exact e.elim
theorem zqs: ∀ (k:Nat) (π:List (Nat×Nat)) (ρ:Env),duP ops n k π ρ->Mw P n ops C (dpG ops k π ρ).1 Q (dpG ops k π ρ).2 w->Mw P n ops C π Q ρ w
 |0,π,ρ,_,h=>by cases π<;>exact h
 |k+1,[],ρ,e,_=>e.elim
 |k+1,(i,x)::π,ρ,e,h=>by
  unfold duP at e
  unfold dpG at h
  split at e
  ·rename_i d op ty pos af j b ho
   rw[ho]at h
   exact Mw.pu ho (zo1 e.1) (zqs k π _ e.2 h)
  ·exact e.elim
theorem dps (k:Nat)(hq:q=c){ρ':Env}(eg:dpG ops k π ρ=(π',ρ'))(h:Mw P n ops C π' Q ρ' w)(e:dpP ops n q c k π ρ:=by repeat (first |exact trivial |refine⟨rfl,?_⟩)):Mw P n ops C π Q ρ w:=
 zqr hq k π ρ e (by rw[eg];exact h)
theorem dpu (k:Nat){ρ':Env}(eg:dpG ops k π ρ=(π',ρ'))(h:Mw P n ops C π' Q ρ' w)(e:duP ops n k π ρ:=by repeat (first |exact trivial |refine⟨rfl,?_⟩)):Mw P n ops C π Q ρ w:=
 zqs k π ρ e (by rw[eg];exact h)
end
section
variable {α:Type}[Rp α]{W:CW}{c:Nat}{K:List Nat}{v:Value}{xs:List α}
theorem Ow.pre (h:Ow (α:=List α) W c K [v] xs){k:Nat}(hk:k<=xs.length):Ow (α:=List α) W c K [cutV v 0 k (sz α)] (xs.take k):=by
 obtain⟨S,⟨v',es,Ss,e,ho⟩,hn,hb⟩:=h
 simp only[List.cons.injEq,and_true]at e
 subst e
 have htl:(xs.take k).length=k:=by rw[List.length_take];omega
 have hat: ∀ (i:Nat) cs x T,(es.take k)[i]? =some cs->(xs.take k)[i]? =some x->(Ss.take k)[i]? =some T->own W.w (AK W K) T cs x:=fun i cs x T h1 h2 h3=>by
  have g: ∀ {β:Type} {l:List β} {y:β},(l.take k)[i]? =some y->l[i]? =some y:=fun {β l y} hy=>by
   rw[List.getElem?_take]at hy
   split at hy
   ·exact hy
   ·cases hy
  exact ho.at_ i cs x T (g h1) (g h2) (g h3)
 have hlen:=ho.len
 have hfl:(es.take k).flatten=es.flatten.take (k*sz α):=by
  have key: ∀ (es:List (List Value)) (k:Nat),(∀ c∈es,c.length=sz α)->(es.take k).flatten=es.flatten.take (k*sz α):=by
   intro es
   induction es with
   |nil=>intro k _;simp
   |cons a es ih=>
    intro k hl
    cases k with
    |zero=>simp
    |succ k=>
     have ha:a.length=sz α:=hl a (by simp)
     rw[List.take_succ_cons,List.flatten_cons,List.flatten_cons,ih k (fun c hc=>hl c (by simp[hc])),List.take_append,ha,List.take_of_length_le (show a.length<=(k+1)*sz α by rw[ha,Nat.add_mul,Nat.one_mul];omega)]
     congr 2
     rw[Nat.add_mul,Nat.one_mul]
     omega
  exact key es k hlen
 rcases ho.row.2 with ⟨rfl,hn0⟩ |⟨g,cap,cur,rfl,hb0,hg,hnc,hcm,hcs,htake⟩
 ·have hk0:k=0:=by omega
  subst hk0
  have:cutV (.slice none 0 0) 0 0 (sz α) = .slice none 0 0:=by simp[cutV,sliced]
  rw[this]
  exact Ow.zr (α:=List α) c K
 ·have hcv:cutV (.slice (some ⟨g,0,none⟩) xs.length cap) 0 k (sz α) = .slice (some ⟨g,0,none⟩) k cap:=by simp[cutV,sliced,Addr.add]
  rw[hcv]
  have hS:S=g::Ss.flatten:=by rw[ho.S];rfl
  have hsub: ∀ b∈(Ss.take k).flatten,b∈Ss.flatten:=fun b hb=>by
   obtain⟨l,hl,hbl⟩:=List.mem_flatten.1 hb
   exact List.mem_flatten.2 ⟨l,List.mem_of_mem_take hl,hbl⟩
  refine⟨g::(Ss.take k).flatten,⟨_,es.take k,Ss.take k,rfl,⟨⟨?_, .inr ⟨g,cap,cur,by rw[htl],hb0,hg,by omega,hcm,hcs,?_⟩⟩,rfl,by rw[List.length_take,htl,ho.elen];omega,by rw[List.length_take,htl,ho.slen];omega,hat⟩⟩,?_,fun b hb'=>hb b ?_⟩
  ·rw[hfl,htl,List.length_take]
   have:=ho.row.1
   rw[this]
   exact Nat.min_eq_left (Nat.mul_le_mul_right _ hk)
  ·rw[hfl,htl,<- htake,List.take_take,Nat.min_eq_left (Nat.mul_le_mul_right _ hk)]
  ·rw[hS]at hn
   have hn':=List.nodup_cons.1 hn
   refine List.nodup_cons.2 ⟨fun hm=>hn'.1 (hsub g hm),?_⟩
   have:(Ss.take k).flatten <+:Ss.flatten:=by
    refine⟨(Ss.drop k).flatten,?_⟩
    rw[<- List.flatten_append,List.take_append_drop]
   exact List.Nodup.sublist this.sublist hn'.2
  ·rw[hS]
   rcases List.mem_cons.1 hb' with e |e
   ·rw[e];simp
   ·exact List.mem_cons_of_mem _ (hsub b e)
end
section
variable {P:Program}{ρ:Env}{α:Type}[Rp α]{W:CW}{c s b:Nat}{z v:Value}{xs q:List α}{t e ty:TypeId}{x:Operand}
end
section
variable {α:Type}[Rp α]
theorem zsS {w:World}{A:Nat->Prop}{v:Value}{xs:List α}{l:Nat}(h:rd w A [v] xs)(hl:l<=xs.length):rd w A [cutV v l xs.length (sz α)] (xs.drop l):=by
 obtain⟨ad,c,e,hc,hm,ha,hx⟩:=h
 have e':v = .slice ad xs.length c:=by simpa using e
 subst e'
 have hlen:(xs.drop l).length=xs.length-l:=by simp
 by_cases hcl:c=l
 ·have he:xs.drop l=[]:=List.eq_nil_of_length_eq_zero (by omega)
  rw[he]
  refine⟨if c=l then ad else ad.map (·.add (l*sz α)),c-l,by simp[cutV,sliced,show xs.length-l=0 by omega],by simp,by unfold maxLen at*;omega,fun hp=>by simp at hp,fun i x hi=>by simp at hi⟩
 ·refine⟨ad.map (·.add (l*sz α)),c-l,by simp[cutV,sliced,hcl,hlen],by omega,by unfold maxLen at*;omega,fun hp=>?_,fun i x hi=>?_⟩
  ·rw[hlen]at hp
   obtain⟨a,rfl,hb⟩:=ha (by omega)
   exact⟨_,rfl,by rw[zfo];exact hb⟩
  ·have hil:=(List.getElem?_eq_some_iff.1 hi).1
   rw[hlen]at hil
   obtain⟨a,rfl,hb⟩:=ha (by omega)
   rw[List.getElem?_drop]at hi
   obtain⟨ecs,h1,h2⟩:=hx _ x hi
   refine⟨ecs,?_,h2⟩
   simp only[slA,Option.map_some]at h1 ⊢
   rw[zfE,<- Nat.add_mul]
   exact h1
end
def Tl (α:Type):Type:=List α
@[reducible] instance Rp.tl {α:Type} [Rp α]:Rp (Tl α):= {
 sz:=1
 ty:=ty (List α)
 lty:=Rp.lty (List α)
 rd w A cs x:=rd (α:=List α) w A cs x
 own w A S cs x:= ∃ (v0:Value) (ys:List α) (l:Nat),l<=ys.length/\cs=[cutV v0 l ys.length (sz α)]/\x=ys.drop l/\own (α:=List α) w A S [v0] ys
 rd_len:=rd_len (α:=List α)
 rd_one:=rd_one (α:=List α)
 rd_keep:=rd_keep (α:=List α)
 rd_mono:=rd_mono (α:=List α)
 own_len:=fun⟨_,_,_,_,e,_⟩=>by rw[e];rfl
 own_rd:=fun⟨v0,ys,l,hl,e,ex,h⟩ hS hA=>by
  subst e
  subst ex
  exact zsS (own_rd (α:=List α) h hS hA) hl
 own_keep:=fun hA hS ⟨v0,ys,l,hl,e,ex,h⟩=>⟨v0,ys,l,hl,e,ex,own_keep (α:=List α) hA hS h⟩
 own_mono:=fun hA ⟨v0,ys,l,hl,e,ex,h⟩=>⟨v0,ys,l,hl,e,ex,own_mono (α:=List α) hA h⟩}
section
variable {P:Program}{ρ:Env}{α:Type}[Rp α]{W:CW}{c k s b t ty':Nat}{z v u:Value}{xs ys q:List α}{x:α}{p r:Operand}{K':List Nat}
theorem Ow.tail (h:Ow (α:=List α) W c [] [v] xs){l:Int}(hm:slM xs l (xs.length:Int)=some q):Ow (α:=Tl α) W c [] [cutV v l.toNat (xs.length:Int).toNat (sz α)] q:=by
 obtain⟨S,ho,hn,hb⟩:=h
 obtain⟨h0,h1,h2,e⟩:=zks hm
 refine⟨S,⟨v,xs,l.toNat,by omega,by rw[Int.toNat_natCast],?_,ho⟩,hn,hb⟩
 rw[e,Int.toNat_natCast,List.take_length]
end
end Go.Sx
