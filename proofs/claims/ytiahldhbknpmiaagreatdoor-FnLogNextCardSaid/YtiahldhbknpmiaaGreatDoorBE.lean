/- Functions of the library, by the contracts of the shelf. Conditions: the arguments read as they are given. -/
import Derived.Test.YtiahldhbknpmiaaGreatDoorBTs
import Derived.Test.YtiahldhbknpmiaaGreatDoorBM0
import Derived.Test.YtiahldhbknpmiaaGreatDoorBM3
import Derived.Test.YtiahldhbknpmiaaGreatDoorBM4
import Derived.Test.YtiahldhbknpmiaaGreatDoorBM14
import Derived.Test.YtiahldhbknpmiaaGreatDoorBLc
import Derived.Test.YtiahldhbknpmiaaGreatDoorBShelf
namespace Go.Sx
open Go Go.Proofs Go.Vm Rp Go.RowKit
set_option linter.unusedVariables false
set_option linter.unusedSimpArgs false
instance :Ia:=⟨fun h=>by
 obtain⟨c,rfl⟩: ∃ c,_=[c]:=⟨_,h.1⟩
 rw[Rd.int h]⟩
instance :Sa:=⟨rfl,⟨fun h=>⟨h.1,h.2.1⟩,fun h=>⟨h.1,h.2,trivial⟩⟩,fun h=>h.1⟩
theorem p196 {W:CW}{K:List Nat}{x0:Str}{x1:Str}{k0:Nat}{r:(List Str)}(h99:Gl 0 W K)(hm:Vm.strings_Split x0 x1=some r):zaY Tryz.prog 196 [vS x0,vS x1].toArray W.w (Res W [] fun W' v=> ∃ (u0:Value),v=u0/\Ow W' k0 [] [u0] r):=by
 unfold Vm.strings_Split at hm
 exact ztm Tryz.strings_Split h99 hm
theorem p201 {W:CW}{x0:Str}{x1:Str}{r:Bool}(hm:Vm.strings_HasPrefix x0 x1=some r):zaY Tryz.prog 201 [vS x0,vS x1].toArray W.w (Res W [] fun W' v=>v=vB r):=by
 unfold Vm.strings_HasPrefix at hm
 exact zsr Tryz.strings_HasPrefix hm
theorem p164 {W:CW}{K:List Nat}{x0:List Str}{v0_:Value}{c0:Nat}{r:(List Str)}(h0:Ow W c0 [] [v0_] x0)(hJ:okJ K [c0]=true)(hm:Vm.zeY x0=some r):zaY Tryz.prog 164 [v0_].toArray W.w (Res W [c0] fun W' v=>v = .tuple #[]/\Ow W' c0 [] [v0_] r):=by
 unfold Vm.zeY at hm
 exact zt0 Tryz.slices_Sort_string Tryz.slices_Sort_string_none h0 hm
theorem p172 {W:CW}{K:List Nat}{x0:List Str}{v0_:Value}{k0:Nat}{c0:Nat}{r:(List Str)}(h0:Ow W c0 [] [v0_] x0)(hJ:okJ K [c0]=true)(hm:Vm.zeb x0=some r):zaY Tryz.prog 172 [v0_].toArray W.w (Res W [c0] fun W' v=> ∃ (u0:Value),v=u0/\Ow W' k0 [] [u0] r):=by
 unfold Vm.zeb at hm
 exact zrQ Tryz.slices_Compact_string Tryz.slices_Compact_string_empty h0 hm
theorem zxE {W:CW} {K:List Nat} {x0:List Head} {v0:Value} {x1:Int} {x2:List Head} {g2 cp2:Nat} {cu2:Array Value} {t2:TypeId} {c0:Nat} {r:List Head} (h0:Ow W c0 [] [v0] x0) (h2:Rd W K [.slice (some ⟨g2,0,none⟩) x2.length cp2] x2) (hB:W.w.heap[g2]? =some (.cells cu2 t2 (0,0))) (hJ:okJ K [c0]=true)
 (hm:(if 0<=x1/\x1<=x0.length/\x0.length+x2.length<=lim then some (x0.take x1.toNat++x2++x0.drop x1.toNat) else none)=some r):
 zaY Tryz.prog 192 [v0,vI x1, .slice (some ⟨g2,0,none⟩) x2.length cp2].toArray W.w (Res W [c0] fun W' v=> ∃ u0,v=u0/\Ow W' c0 [] [u0] r):=by
 split at hm
 case isFalse=>cases hm
 rename_i hh
 obtain⟨hi0,hi1,hl⟩:=hh
 obtain⟨i,rfl⟩: ∃ i:Nat,x1=i:=⟨x1.toNat,by omega⟩
 have hin:i<=x0.length:=by omega
 rw[Int.toNat_natCast]at hm
 cases hm
 have hlm:x0.length+x2.length<=maxLen:=by unfold lim at hl;unfold maxLen;omega
 obtain⟨ad0,cp,rfl,hnc,hcm⟩:=h0.rd.slice_form
 have h2':=h2
 obtain⟨ad2,cpx,es2,ev2,hE2,hfl2,hca2,hone2⟩:=h2.each
 simp only[Value.slice.injEq,true_and]at ev2
 obtain⟨rfl,rfl⟩:=ev2
 refine zaY.of Tryz.func192 rfl rfl rfl rfl (Cw.seq (Cw.region (Lw.g (.slice none 0 0) rfl (Lw.nil ?_))))
 refine Cw.seq (Cw.region (Lw.m (.slice ad0 x0.length cp) rfl (Lw.m (vI i) rfl (Lw.r rfl (R.slV (hv:=0) rfl (.inr ⟨rfl,rfl⟩) (.inl ⟨rfl,rfl⟩) hin hnc hnc) (Lw.nil ?_)))))
 refine Cw.seq (Cw.region (Lw.m (.slice (some ⟨g2,0,none⟩) x2.length cp2) rfl (Lw.r rfl (R.lenV rfl) (Lw.g (vI x2.length) rfl (Lw.nil ?_)))))
 refine Cw.seq (Cw.seq (Cw.region (Lw.m (vI x2.length) rfl (Lw.eq rfl (Lw.nil ?_)))))
 refine Cw.cond (b:=((x2.length:Int)==0)) rfl (fun hc=>?_) (fun hc=>?_)
 ·have hz:x2=[]:=by rw[beq_iff_eq]at hc;exact List.eq_nil_of_length_eq_zero (by omega)
  subst hz
  refine Cw.seq (Cw.region (Lw.m (.slice ad0 x0.length cp) rfl (Lw.g (.slice ad0 x0.length cp) rfl (Lw.nil ?_))))
  refine Cw.ret (zmc rfl ?_)
  refine⟨W,rfl,Le.refl _ _,_,rfl,?_⟩
  rw[List.append_nil,List.take_append_drop]
  exact h0
 have hm0:0<x2.length:=by
  rw[beq_eq_false_iff_ne]at hc
  omega
 refine Cw.skip (Cw.seq (Cw.region (Lw.m (.slice ad0 x0.length cp) rfl (Lw.r rfl (R.lenV rfl) (Lw.g (vI x0.length) rfl (Lw.nil ?_))))))
 refine Cw.seq (Cw.seq (Cw.region (Lw.m (vI i) rfl (Lw.m (vI x0.length) rfl (Lw.eq rfl (Lw.nil ?_))))))
 refine Cw.cond (b:=((i:Int)==(x0.length:Int))) rfl (fun hc1=>?_) (fun hc1=>?_)
 ·have he:i=x0.length:=by rw[beq_iff_eq]at hc1;omega
  subst he
  refine Cw.seq (Cw.region (Lw.m (.slice ad0 x0.length cp) rfl (Lw.m (.slice (some ⟨g2,0,none⟩) x2.length cp2) rfl (Lw.t rfl (T.appP (α:=Head) (zs:=x0++x2) h0 h2' rfl rfl (zfv (by omega))) fun v' w' hT=>?_))))
  obtain⟨W',rfl,l1,o1⟩:=hT
  refine Lw.g v' rfl (Lw.nil (Cw.ret (zmc rfl ⟨W',rfl,l1,_,rfl,?_⟩)))
  rw[List.take_length,List.drop_length,List.append_nil]
  exact o1
 have hlt:i<x0.length:=by
  rw[beq_eq_false_iff_ne]at hc1
  omega
 rcases h0.fl with ⟨_,e⟩ |⟨g,cap,cur,es,ev0,hg,_,_,hcs,htk,hE,hck⟩
 ·subst e
  simp at hlt
 simp only[Value.slice.injEq,true_and]at ev0
 obtain⟨rfl,rfl⟩:=ev0
 obtain⟨a2,ea2,hc2⟩:=hca2 hm0
 obtain rfl:a2=⟨g2,0,none⟩:=(Option.some.inj ea2).symm
 have hblk:AK W K g2:=by
  obtain⟨ad,cpx,e,_,_,ha,_⟩:=h2'
  obtain⟨a,rfl,hA⟩:=ha hm0
  simp only[List.cons.injEq,Value.slice.injEq,and_true,Option.some.injEq]at e
  rw[<- e.1]at hA
  exact hA
 have hcs:cur.size=cp*2:=hcs
 have htk:cur.toList.take (x0.length*2)=es.flatten:=htk
 have hfl2:es2.flatten.length=x2.length*2:=hfl2
 have lA:(es.take i).flatten.length=i*2:=by
  have:=(hE.take i).flen (fun _ _ h=>h.len W.w)
  rw[List.length_take,Nat.min_eq_left hin]at this
  exact this
 have lB:(es.drop i).flatten.length=(x0.length-i)*2:=by
  have:=(hE.drop i).flen (fun _ _ h=>h.len W.w)
  rw[List.length_drop]at this
  exact this
 have hAB:es.flatten=(es.take i).flatten++(es.drop i).flatten:=by rw[<- List.flatten_append,List.take_append_drop]
 rw[hAB]at htk
 obtain⟨qA,qB⟩:=zt2 htk lA (by rw[lB];omega)
 have hone:=Flt.one W.w hE
 rw[hAB]at hone
 have hE2':Each Flt es2 x2:=hE2.imp fun cs x h=>Flt.of h
 have hEE:Each Flt (es.take i++es2++es.drop i) (x0.take i++x2++x0.drop i):=((hE.take i).append hE2').append (hE.drop i)
 have hll:(x0.take i++x2++x0.drop i).length=x0.length+x2.length:=by simp;omega
 have hff:(es.take i++es2++es.drop i).flatten=(es.take i).flatten++es2.flatten++(es.drop i).flatten:=by simp
 have hw:IntKind.i64.wrap ((x0.length:Int)+(x2.length:Int))=((x0.length+x2.length:Nat):Int):=by
  rw[<- Int.natCast_add];exact zrl hlm
 have hwi:IntKind.i64.wrap ((i:Int)+(x2.length:Int))=((i+x2.length:Nat):Int):=by
  rw[<- Int.natCast_add];exact zrl (by omega)
 refine Cw.skip (Cw.seq (Cw.seq (Cw.region (Lw.m (vI x0.length) rfl (Lw.m (vI x2.length) rfl (Lw.add rfl (Lw.m (.slice (some ⟨g,0,none⟩) x0.length cp) rfl (Lw.r rfl (R.capV rfl) (Lw.gt rfl (Lw.nil ?_))))))))))
 refine Cw.cond (b:=decide ((cp:Int)<IntKind.i64.wrap ((x0.length:Int)+(x2.length:Int)))) rfl (fun hcc=>?_) (fun hcc=>?_)
 ·have hroom:cp<x0.length+x2.length:=by
   have:=of_decide_eq_true hcc
   rw[hw]at this
   omega
  have hwk:IntKind.i64.wrap (IntKind.i64.wrap ((x0.length:Int)+(x2.length:Int))-(i:Int))=((x0.length+x2.length-i:Nat):Int):=by
   rw[hw,<- Int.ofNat_sub (by omega)];exact zrl (by omega)
  refine Cw.seq (Cw.region (Lw.m (.slice (some ⟨g,0,none⟩) x0.length cp) rfl (Lw.m (vI i) rfl (Lw.r rfl (R.slV (li:=0) rfl (.inl ⟨rfl,rfl⟩) (.inr ⟨rfl,rfl⟩) (Nat.zero_le _) (show i<=cp by omega) hnc) ?_))))
  refine Lw.m (vI x0.length) rfl (Lw.m (vI x2.length) rfl (Lw.add rfl (Lw.m (vI i) rfl (Lw.sub rfl ?_))))
  refine Lw.t rfl (T.apz (A:=⟨g,0,none⟩) (n:=i) (c:=cp) (k:=x0.length+x2.length-i) (olds:=(es.take i).flatten) ((zmR (by omega)).trans (by simp)) rfl hwk (zqv hg qA) lA (by omega) (by omega) (by omega)) fun v' w' hT=>?_
  obtain⟨G,cu1,ev1,hG,hGm,hN,hs1,ht1,hsz1,hk1,o1,o2,o3⟩:=hT
  have hnk:i+(x0.length+x2.length-i)=x0.length+x2.length:=by omega
  rw[hnk]at ev1 hG
  subst ev1
  have hs1:cu1.size=G*2:=hs1
  have ht1:cu1.toList.take (i*2)=(es.take i).flatten:=ht1
  refine Lw.g (.slice (some ⟨W.w.heap.size,0,none⟩) (x0.length+x2.length) G) rfl (Lw.nil ?_)
  refine Cw.seq (Cw.region (Lw.m (.slice (some ⟨W.w.heap.size,0,none⟩) (x0.length+x2.length) G) rfl (Lw.m (vI i) rfl (Lw.r rfl (R.slV (hv:=0) rfl (.inr ⟨rfl,rfl⟩) (.inl ⟨rfl,rfl⟩) (show i<=x0.length+x2.length by omega) hG hG) (Lw.m (.slice (some ⟨g2,0,none⟩) x2.length cp2) rfl ?_)))))
  refine Lw.t rfl (T.cpy (g:=W.w.heap.size) (o:=i*2) (A:=⟨g2,0,none⟩) (n:=x2.length) (cs:=es2.flatten) (zmR (by omega)) rfl hN (Nat.min_eq_left (by omega)).symm hfl2 (hc2.keep (hk1 _ hblk.1)) (by rw[hfl2,hs1];omega) hone2) fun v1 w2 hT2=>?_
  obtain⟨W1,hW1,hc1⟩: ∃ W1:CW,W1.w=w2/\W1.c=fun b=>if b<W.w.heap.size then W.c b else c0:=⟨⟨w2,_⟩,rfl,rfl⟩
  obtain⟨r1,hr1⟩: ∃ r1:Array Value,r1=(cu1.toList.take (i*2)++es2.flatten++cu1.toList.drop (i*2+es2.flatten.length)).toArray:=⟨_,rfl⟩
  rw[<- hr1]at hT2
  have hN1:W1.w.heap[W.w.heap.size]? =some (.cells r1 130 (0,0)):=by rw[hW1,hT2];exact setRow_heap _ _ _ _ _ _ hN
  have hk2: ∀ b,b<W.w.heap.size->W1.w.heap[b]? =W.w.heap[b]? :=fun b hb=>by rw[hW1,hT2,setRow_other _ _ _ _ (by omega)];exact hk1 b hb
  have hs2:W1.w.heap.size=W.w.heap.size+1:=by rw[hW1,hT2,size_setRow,hsz1]
  have hl1:Le [c0] W W1:=⟨by rw[hW1,hT2];exact o1,by rw[hW1,hT2];exact o2,by rw[hW1,hT2];exact o3,by omega,fun b hb _=>⟨hk2 b hb,by rw[hc1];exact if_pos hb⟩⟩
  have hr1s:r1.size=G*2:=by
   rw[hr1]
   simp only[List.size_toArray,List.length_append,List.length_take,List.length_drop,Array.length_toList,hfl2,hs1]
   omega
  have hr1t:r1.toList.take ((i+x2.length)*2)=(es.take i).flatten++es2.flatten:=by
   rw[hr1,ht1]
   show((es.take i).flatten++es2.flatten++cu1.toList.drop (i*2+es2.flatten.length)).take _=_
   rw[List.take_append_of_le_length (by rw[List.length_append,lA,hfl2];omega),List.take_of_length_le (by rw[List.length_append,lA,hfl2];omega)]
  subst hW1
  refine Lw.nil (Cw.seq (Cw.draw [] [(0,0),(1,0),(2,0),(3,0),(4,0),(5,0),(6,0),(7,0),(8,3)] mixed (by kernel_rfl) fun W3 l3=>?_))
  have k3:=fun b (hb:b<W1.w.heap.size)=>l3.keep b hb (by simp)
  have hgl:g<W.w.heap.size:=(Array.getElem?_eq_some_iff.1 hg).1
  have hg3:W3.w.heap[g]? =some (.cells cur (ty Head) (0,0)):=by rw[(k3 g (by omega)).1,hk2 g hgl];exact hg
  have hN3:W3.w.heap[W.w.heap.size]? =some (.cells r1 130 (0,0)):=by rw[(k3 _ (by omega)).1];exact hN1
  refine Mw.p rfl rfl (fun _=>R.mv (v:= .slice (some ⟨W.w.heap.size,0,none⟩) (x0.length+x2.length) G) rfl) (Mw.p rfl rfl (fun _=>R.mv (v:=vI i) rfl) (Mw.p rfl rfl (fun _=>R.mv (v:=vI x2.length) rfl) (Mw.p rfl rfl (fun _=>R.add rfl rfl) ?_)))
  refine Mw.p rfl rfl (fun _=>R.slV (hv:=0) (l:=i+x2.length) rfl (.inr ⟨rfl,hwi⟩) (.inl ⟨rfl,rfl⟩) (show i+x2.length<=x0.length+x2.length by omega) hG hG) ?_
  refine Mw.p rfl rfl (fun _=>R.mv (v:= .slice (some ⟨g,0,none⟩) x0.length cp) rfl) (Mw.p rfl rfl (fun _=>R.mv (v:=vI i) rfl) (Mw.p rfl rfl (fun _=>R.slV (hv:=0) rfl (.inr ⟨rfl,rfl⟩) (.inl ⟨rfl,rfl⟩) hin hnc hnc) ?_))
  refine Mw.l rfl rfl (T.cpy (g:=W.w.heap.size) (o:=(i+x2.length)*2) (A:=⟨g,i*2,none⟩) (n:=x0.length-i) (cs:=(es.drop i).flatten) (zmR (by omega)) (zmR (by omega)) hN3 (by rw[show x0.length+x2.length-(i+x2.length)=x0.length-i by omega];exact(Nat.min_self _).symm) lB (zqv hg3 qB) (by rw[lB,hr1s];omega) (fun u hu=>hone u (aJ _ hu))) fun v3 w4 hT4=>?_
  refine Mw.nil (Cw.seq (Cw.region (Lw.m (.slice (some ⟨W.w.heap.size,0,none⟩) (x0.length+x2.length) G) rfl (Lw.g (.slice (some ⟨W.w.heap.size,0,none⟩) (x0.length+x2.length) G) rfl (Lw.nil (Cw.ret (zmc rfl ?_)))))))
  have l13:Le [c0] W W3:=hl1.trans ⟨l3.os,l3.tape,l3.output,l3.size,fun b hb _=>k3 b hb⟩
  have hs3:=l3.size
  refine⟨⟨w4,W3.c⟩,rfl,⟨by rw[hT4];exact l13.os,by rw[hT4];exact l13.tape,by rw[hT4];exact l13.output,by rw[hT4,size_setRow];exact l13.size,fun b hb hc=>⟨by rw[hT4,setRow_other _ _ _ _ (by omega)];exact(l13.keep b hb hc).1,(l13.keep b hb hc).2⟩⟩,_,rfl,?_⟩
  rw[<- hll]
  refine Ow.ofFl (W:=⟨w4,W3.c⟩) (g:=W.w.heap.size) (cap:=G) (es:=es.take i++es2++es.drop i) (by rw[hT4];exact setRow_heap _ _ _ _ _ _ hN3) (by rw[hll];exact hG) hGm ?_ hEE ?_ ?_
  ·show _=G*2
   simp only[List.size_toArray,List.length_append,List.length_take,List.length_drop,Array.length_toList,lB,hr1s]
   omega
  ·show((r1.toList.take ((i+x2.length)*2)++(es.drop i).flatten++r1.toList.drop ((i+x2.length)*2+(es.drop i).flatten.length))).take ((x0.take i++x2++x0.drop i).length*2)=_
   rw[hff,hr1t,hll,List.take_append_of_le_length (by simp only[List.length_append,lA,lB,hfl2];omega),List.take_of_length_le (by simp only[List.length_append,lA,lB,hfl2];omega)]
  ·show W3.c W.w.heap.size=c0
   rw[(k3 _ (by omega)).2,hc1]
   exact if_neg (Nat.lt_irrefl _)
 ·have hroom:x0.length+x2.length<=cp:=by
   have:=of_decide_eq_false hcc
   rw[hw]at this
   omega
  have hne:g2≠g:=fun e=>by
   rw[e]at hblk
   have h1:=ziZ (show zkL K [c0]=true by simp only[okJ,aG]at hJ;exact hJ.1) hblk.2
   rw[hck]at h1
   simp at h1
  refine Cw.skip (Cw.seq (Cw.region (Lw.m (.slice (some ⟨g,0,none⟩) x0.length cp) rfl (Lw.m (vI x0.length) rfl (Lw.m (vI x2.length) rfl (Lw.add rfl ?_))))))
  refine Lw.r rfl (R.slE (li:=0) (v:= .slice (some ⟨g,0,none⟩) (x0.length+x2.length) cp) ((zmR (by omega)).trans (by simp)) rfl (.inl ⟨rfl,rfl⟩) (.inr ⟨rfl,hw⟩) (Nat.zero_le _) hroom hnc) (Lw.g (.slice (some ⟨g,0,none⟩) (x0.length+x2.length) cp) rfl (Lw.nil ?_))
  refine Cw.seq (Cw.seq (Cw.region (Lw.m (.slice (some ⟨g2,0,none⟩) x2.length cp2) rfl (Lw.m (.slice (some ⟨g,0,none⟩) (x0.length+x2.length) cp) rfl (Lw.m (vI i) rfl (Lw.m (vI x2.length) rfl (Lw.add rfl ?_)))))))
  refine Lw.r rfl (R.slE (hv:=0) (l:=i+x2.length) (zmR (by omega)) rfl (.inr ⟨rfl,hwi⟩) (.inl ⟨rfl,rfl⟩) (show i+x2.length<=x0.length+x2.length by omega) hroom hroom) ?_
  refine Lw.t rfl (T.ext Tryz.func213 (by kernel_rfl) (by kernel_rfl) (by kernel_rfl) (x:=Extern.SlicesOverlaps.overlaps #[28,28] #[4]) (by kernel_rfl) rfl (Lib.run_overlaps_apart W.w 28 4 130 Tryz.underlying28 2 (fun w=>by
   obtain⟨i,hi,_,his,_⟩:=(inferInstance:Inf Tryz.prog 130 2 24 _).get
   simp[sizeOf,typeInfo,hi,his]) ⟨g2,0,none⟩ ⟨g,(i+x2.length)*2,none⟩ x2.length cp2 _ _ hne t2 130 cu2.size cur.size (by simp[World.shape?,hB]) (by simp[World.shape?,hg];rfl) (by omega) (by simp[World.frozen?,hB]) (by simp[World.frozen?,hB]))) ?_
  rintro _ _ ⟨rfl,rfl⟩
  refine Lw.r rfl (R.not rfl) (Lw.nil (Cw.condT rfl ?_))
  refine Cw.seq (Cw.draw [] [(0,0),(1,0),(2,0),(3,0),(4,0),(5,0),(6,0),(7,0),(8,3)] mixed (by kernel_rfl) fun W3 l3=>?_)
  have k3:=fun b (hb:b<W.w.heap.size)=>l3.keep b hb (by simp)
  have hgl:g<W.w.heap.size:=(Array.getElem?_eq_some_iff.1 hg).1
  have hg3:W3.w.heap[g]? =some (.cells cur (ty Head) (0,0)):=by rw[(k3 g hgl).1];exact hg
  refine Mw.p rfl rfl (fun _=>R.mv (v:= .slice (some ⟨g,0,none⟩) (x0.length+x2.length) cp) rfl) (Mw.p rfl rfl (fun _=>R.mv (v:=vI i) rfl) (Mw.p rfl rfl (fun _=>R.mv (v:=vI x2.length) rfl) (Mw.p rfl rfl (fun _=>R.add rfl rfl) ?_)))
  refine Mw.p rfl rfl (fun _=>R.slE (hv:=0) (l:=i+x2.length) (zmR (by omega)) rfl (.inr ⟨rfl,hwi⟩) (.inl ⟨rfl,rfl⟩) (show i+x2.length<=x0.length+x2.length by omega) hroom hroom) ?_
  refine Mw.p rfl rfl (fun _=>R.mv (v:= .slice (some ⟨g,0,none⟩) (x0.length+x2.length) cp) rfl) (Mw.p rfl rfl (fun _=>R.mv (v:=vI i) rfl) (Mw.p rfl rfl (fun _=>R.slE (hv:=0) (zmR (by omega)) rfl (.inr ⟨rfl,rfl⟩) (.inl ⟨rfl,rfl⟩) (show i<=x0.length+x2.length by omega) hroom hroom) ?_))
  refine Mw.l rfl rfl (T.cpy (g:=g) (o:=(i+x2.length)*2) (A:=⟨g,i*2,none⟩) (n:=x0.length-i) (cs:=(es.drop i).flatten) rfl rfl hg3 (by rw[show x0.length+x2.length-(i+x2.length)=x0.length-i by omega];exact(Nat.min_eq_right (by omega)).symm) lB (zqv hg3 qB) (by rw[lB,hcs];omega) (fun u hu=>hone u (aJ _ hu))) fun v3 w4 hT4=>?_
  obtain⟨r1,hr1⟩: ∃ r1:Array Value,r1=(cur.toList.take ((i+x2.length)*2)++(es.drop i).flatten++cur.toList.drop ((i+x2.length)*2+(es.drop i).flatten.length)).toArray:=⟨_,rfl⟩
  rw[<- hr1]at hT4
  have hr1s:r1.size=cp*2:=by
   rw[hr1]
   simp only[List.size_toArray,List.length_append,List.length_take,List.length_drop,Array.length_toList,lB,hcs]
   omega
  have hg4:w4.heap[g]? =some (.cells r1 (ty Head) (0,0)):=by rw[hT4];exact setRow_heap _ _ _ _ _ _ hg3
  refine Mw.nil (Cw.seq (Cw.region (Lw.m (.slice (some ⟨g,0,none⟩) (x0.length+x2.length) cp) rfl (Lw.m (vI i) rfl (Lw.r rfl (R.slE (hv:=0) (zmR (by omega)) rfl (.inr ⟨rfl,rfl⟩) (.inl ⟨rfl,rfl⟩) (show i<=x0.length+x2.length by omega) hroom hroom) (Lw.m (.slice (some ⟨g2,0,none⟩) x2.length cp2) rfl ?_))))))
  refine Lw.t rfl (T.cpy (g:=g) (o:=i*2) (A:=⟨g2,0,none⟩) (n:=x2.length) (cs:=es2.flatten) rfl rfl hg4 (Nat.min_eq_left (by omega)).symm hfl2 (hc2.keep (by rw[hT4,setRow_other _ _ _ _ hne];exact(k3 g2 hblk.1).1)) (by rw[hfl2,hr1s];omega) hone2) fun v5 w5 hT5=>?_
  refine Lw.nil (Cw.seq (Cw.region (Lw.m (.slice (some ⟨g,0,none⟩) (x0.length+x2.length) cp) rfl (Lw.g (.slice (some ⟨g,0,none⟩) (x0.length+x2.length) cp) rfl (Lw.nil (Cw.ret (zmc rfl ?_)))))))
  have l13:Le [c0] W W3:=⟨l3.os,l3.tape,l3.output,l3.size,fun b hb _=>k3 b hb⟩
  have hng: ∀ b,W.c b∉ [c0]->b≠g:=fun b hc e=>hc (by rw[e,hck];simp)
  refine⟨⟨w5,W3.c⟩,rfl,⟨by rw[hT5,hT4];exact l13.os,by rw[hT5,hT4];exact l13.tape,by rw[hT5,hT4];exact l13.output,by rw[hT5,hT4,size_setRow,size_setRow];exact l13.size,fun b hb hc=>⟨by rw[hT5,hT4,setRow_other _ _ _ _ (hng b hc),setRow_other _ _ _ _ (hng b hc)];exact(l13.keep b hb hc).1,(l13.keep b hb hc).2⟩⟩,_,rfl,?_⟩
  have hcl:cur.toList.length=cp*2:=by rw[Array.length_toList,hcs]
  have hins:=zt1 (q:=x2.length*2) (V:=es2.flatten) htk lA (by rw[lB];omega) hfl2 (by rw[hcl];omega)
  have epq:i*2+x2.length*2=(i+x2.length)*2:=by omega
  simp only[epq]at hins
  rw[<- hll]
  refine Ow.ofFl (W:=⟨w5,W3.c⟩) (g:=g) (cap:=cp) (es:=es.take i++es2++es.drop i) (by rw[hT5];exact setRow_heap _ _ _ _ _ _ hg4) (by rw[hll];exact hroom) hcm ?_ hEE ?_ ?_
  ·show _=cp*2
   simp only[List.size_toArray,List.length_append,List.length_take,List.length_drop,Array.length_toList,hfl2,hr1s]
   omega
  ·show((r1.toList.take (i*2)++es2.flatten++r1.toList.drop (i*2+es2.flatten.length))).take ((x0.take i++x2++x0.drop i).length*2)=_
   rw[hfl2,epq,hr1]
   show(((cur.toList.take ((i+x2.length)*2)++(es.drop i).flatten++cur.toList.drop ((i+x2.length)*2+(es.drop i).flatten.length)).take (i*2)++es2.flatten++(cur.toList.take ((i+x2.length)*2)++(es.drop i).flatten++cur.toList.drop ((i+x2.length)*2+(es.drop i).flatten.length)).drop ((i+x2.length)*2))).take _=_
   rw[hins,hff,hll,List.take_append_of_le_length (by simp only[List.length_append,lA,lB,hfl2];omega),List.take_of_length_le (by simp only[List.length_append,lA,lB,hfl2];omega)]
  ·show W3.c g=c0
   rw[(k3 g hgl).2,hck]
theorem zwc {W:CW} {K:List Nat} {x0:List Head} {v0:Value} {x1:Int} {x2:Head} {g2 k2 k0 c0:Nat} {cs2:List Value} {r:List Head} (h0:Ow W c0 [] [v0] x0) (hB:Bx W k2 g2 cs2) (h2:Rd W K cs2 x2) (hJ:okJ [k2] [c0]=true)
 (hm:(if 0<=x1/\x1<=x0.length/\x0.length+1<=lim then some (x0.take x1.toNat++[x2]++x0.drop x1.toNat) else none)=some r):
 zaY Tryz.prog 192 [v0,vI x1, .slice (some (bx g2)) 1 1].toArray W.w (Res W [c0] fun W' v=> ∃ u0,v=u0/\Ow W' k0 [] [u0] r):=by
 have hc:=hB.cells
 obtain⟨hk,t,hg⟩:=hB
 have hlt:g2<W.w.heap.size:=(Array.getElem?_eq_some_iff.1 hg).1
 have hr:Rd W [k2] [.slice (some ⟨g2,0,none⟩) [x2].length 1] [x2]:=⟨_,1,rfl,by simp,by decide,fun _=>⟨_,rfl,hlt,by rw[hk];simp⟩,fun i x hi=>by
  obtain⟨rfl,rfl⟩:i=0/\x2=x:=by
   cases i with
   |zero=>exact⟨rfl,by simpa using hi⟩
   |succ i=>simp at hi
  refine⟨cs2,?_,Pl.pl h2⟩
  rw[Nat.zero_mul,zmQ]
  exact hc⟩
 have h:=zxE (K:=[k2]) (x2:=[x2]) h0 hr hg hJ hm
 exact h.mono fun v w' ⟨W',e,l,u0,eu,o⟩=>by
  obtain⟨W'',e2,l2,o2⟩:=o.recol k0
  exact⟨W'',e2.trans e,l.trans l2,u0,eu,o2⟩
theorem p192 {W:CW}{K:List Nat}{x0:List Vm.Head}{v0_:Value}{x1:Int}{x2:Vm.Head}{gl2 kl2:Nat}{cs2:List Value}{k0:Nat}{c0:Nat}{r:(List Vm.Head)}(h0:Ow W c0 [] [v0_] x0)(hB2:Bx W kl2 gl2 cs2)(h2:Rd W K cs2 x2)(hJ2:okJ [kl2] [c0]=true)(hJ:okJ K [c0]=true)(hm:Vm.zbD x0 x1 x2=some r):zaY Tryz.prog 192 [v0_,vI x1,(.slice (some (bx gl2)) 1 1)].toArray W.w (Res W [c0] fun W' v=> ∃ (u0:Value),v=u0/\Ow W' k0 [] [u0] r):=by
 unfold Vm.zbD at hm
 exact zwc h0 hB2 h2 hJ2 hm
theorem zxF {W:CW}{x0:List Bool}{v0:Value}{r:List Bool}(h0:Rd W [0] [v0] x0)(hm:(if x0.length<=lim then some x0 else none)=some r):
 zaY Tryz.prog 200 [v0].toArray W.w (Res W LL fun W' v=> ∃ u0,v=u0/\OwS W' LL [] [u0] r):=by
 have hl:x0.length<=lim:=by
  split at hm
  ·assumption
  ·cases hm
 have hap:apM ([]:List Bool) x0=some r:=by
  rw[if_pos hl]at hm
  unfold apM
  rw[if_pos (by simpa using hl),List.nil_append]
  exact hm
 have h0':=h0
 obtain⟨ad,cp,e,hnc,hcm,ha,_⟩:=h0'
 have e':v0 = .slice ad x0.length cp:=by simpa using e
 subst e'
 refine zaY.of Tryz.func200 rfl rfl rfl rfl (Cw.seq (Cw.region (Lw.g (.slice none 0 0) rfl (Lw.nil ?_))))
 refine Cw.seq (Cw.seq (Cw.region (Lw.m (.slice ad x0.length cp) rfl (Lw.r (v:= .bool ad.isNone) rfl (R.bin (u:= .slice ad x0.length cp) (u':= .slice none 0 0) rfl rfl (by rw[eqGuard_at_slice];rfl) (Lib.run_eql_slice_nil _ _ _ _ _ _ _ _ (Und.h (t:=142)))) (Lw.nil ?_)))))
 refine Cw.cond (b:=ad.isNone) rfl (fun hc=>?_) (fun hc=>?_)
 ·have hz:x0=[]:=by
   cases x0 with
   |nil=>rfl
   |cons a l=>
    obtain⟨q,e,_⟩:=ha (by simp)
    rw[e]at hc
    cases hc
  subst hz
  rw[if_pos (show([]:List Bool).length<=lim from Nat.zero_le _)]at hm
  cases hm
  refine Cw.seq (Cw.region (Lw.g (.slice none 0 0) rfl (Lw.nil ?_)))
  exact Cw.ret (zmc rfl (Res.mk (Le.refl _ _) ⟨_,rfl,(zoR []).sub rfl rfl⟩))
 ·refine Cw.skip (Cw.seq (Cw.region (Lw.t rfl (T.lit0 (α:=Bool) 2 []) fun v w' hT=>?_)))
  obtain⟨W1,rfl,l1,o1⟩:=hT
  refine Lw.m (.slice ad x0.length cp) rfl (Lw.t rfl (T.appP (α:=Bool) o1 (h0.up l1 rfl) rfl rfl hap) fun v' w' hT=>?_)
  obtain⟨W2,rfl,l2,o2⟩:=hT
  refine Lw.g v' rfl (Lw.nil (Cw.ret (zmc rfl (Res.mk ((l1.sub rfl).trans (l2.sub rfl)) ⟨_,rfl,o2.s.sub rfl rfl⟩))))
theorem p200 {W:CW}{K:List Nat}{x0:List Bool}{v0_:Value}{k0:Nat}{r:(List Bool)}(h0:Rd W K [v0_] x0)(hm:Vm.zfh x0=some r):zaY Tryz.prog 200 [v0_].toArray W.w (Res W [] fun W' v=> ∃ (u0:Value),v=u0/\Ow W' k0 [] [u0] r):=by
 unfold Vm.zfh at hm
 exact(zxF (h0.view _) hm).ad (fk k0) fun _ _ ⟨u0,e,f0⟩=>⟨u0,e,f0.back (zk0 _)⟩
end Go.Sx
