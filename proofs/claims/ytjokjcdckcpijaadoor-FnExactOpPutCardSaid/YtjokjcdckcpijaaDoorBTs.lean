/- The seat's types and functions: what the rules must know of them, each fact closed. Conditions: none. -/
import Derived.Test.YtjokjcdckcpijaaDoorBLb
import Derived.Test.YtjokjcdckcpijaaDoorBLw
import Derived.Test.YtjokjcdckcpijaaDoorProg
namespace Go.Sx
open Go Go.Proofs Go.Vm Rp
abbrev Q0 (f:Nat)(l:List Value)(W:CW)(R:CW->Value->Prop):Prop:=zax Tryd.prog f l.toArray W.w (Res W LL R)
abbrev Q1 (f:Nat)(l:List Value)(W:CW)(L:List Nat)(R:CW->Value->Prop):Prop:=zax Tryd.prog f l.toArray W.w (Res W L R)
instance :Rp Int:=Rp.atom 3 vI (fun _=>True) (fun _=>rfl) 71
instance (priority:=high):Rp Str:=Rp.atom 9 (fun s=>vS s) (fun _=>True) (fun _=>rfl) 24
instance :Rp Bool:=Rp.atom 4 vB (fun _=>True) (fun _=>rfl) 0
instance :Rp zcM:=Rp.atom 5 (fun b=> .int .u8 (UInt8.toNat b)) (fun _=>True) (fun _=>rfl) 22
instance :Atm Int:=⟨fun h=>⟨rfl,h⟩⟩
instance :Atm Str:=⟨fun h=>⟨rfl,h⟩⟩
instance :Atm Bool:=⟨fun h=>⟨rfl,h⟩⟩
instance :Atm zcM:=⟨fun h=>⟨rfl,h⟩⟩
instance :Pl Int:=⟨fun h=>h⟩
instance :Pl Str:=⟨fun h=>h⟩
instance :Pl Bool:=⟨fun h=>h⟩
instance :Pl zcM:=⟨fun h=>h⟩
instance :Zr Int:=⟨0,[vI 0],⟨rfl,rfl,trivial⟩⟩
instance :Zr Str:=⟨[],[vS []],⟨rfl,rfl,trivial⟩⟩
instance :Zr Bool:=⟨false,[vB false],⟨rfl,rfl,trivial⟩⟩
section
variable {W:CW}{K:List Nat}{v:Value}{p:Addr}
theorem Rd.str {s:Str}(h:Rd W K [v] s):v=vS s:=by simpa using h.1
theorem Rd.int {n:Int}(h:Rd W K [v] n):v=vI n:=by simpa using h.1
theorem Rd.bool {b:Bool}(h:Rd W K [v] b):v=vB b:=by simpa using h.1
theorem At.str {s:Str}(h:At W K p s):W.w.cell? p=some (vS s):=by obtain⟨v,hc,hr⟩:=h.cell rfl;rw[hr.str]at hc;exact hc
theorem At.int {n:Int}(h:At W K p n):W.w.cell? p=some (vI n):=by obtain⟨v,hc,hr⟩:=h.cell rfl;rw[hr.int]at hc;exact hc
theorem At.bool {b:Bool}(h:At W K p b):W.w.cell? p=some (vB b):=by obtain⟨v,hc,hr⟩:=h.cell rfl;rw[hr.bool]at hc;exact hc
theorem rdI (n:Int):Rd W K [vI n] n:=⟨rfl,trivial⟩
theorem rdY (b:UInt8):Rd (α:=zcM) W K [.int .u8 (UInt8.toNat b:Int)] b:=⟨rfl,trivial⟩
theorem rdS (s:Str):Rd W K [vS s] s:=⟨rfl,trivial⟩
end
instance :Rp Vm.Op:=Rp.iso (β:=Int×Str×Str×Str×Str×Int×(List Str)) 26 (fun x=>(x.Kind,x.Branch,x.Who,x.Path,x.To,x.At,x.Text)) 0
instance :Zr Vm.Op:= {
 z:=Vm.Op.mk 0 [] [] [] [] 0 []
 cs:=Zr.cs (Int×Str×Str×Str×Str×Int×(List Str))
 own:=Zr.own (α:=Int×Str×Str×Str×Str×Int×(List Str))}
theorem Op.split {W:CW}{K:List Nat}{cs:List Value}{x:Vm.Op}(h:Rd W K cs x): ∃ c6:Value,cs=[vI x.Kind,vS x.Branch,vS x.Who,vS x.Path,vS x.To,vI x.At,c6]/\Rd W K [c6] x.Text:=by
 replace h:Rd W K cs (x.Kind,x.Branch,x.Who,x.Path,x.To,x.At,x.Text):=h
 obtain⟨c0,d0,rfl,h0,k0⟩:=h.split
 obtain⟨c1,d1,rfl,h1,k1⟩:=Rd.split k0
 obtain⟨c2,d2,rfl,h2,k2⟩:=Rd.split k1
 obtain⟨c3,d3,rfl,h3,k3⟩:=Rd.split k2
 obtain⟨c4,d4,rfl,h4,k4⟩:=Rd.split k3
 obtain⟨c5,d5,rfl,h5,k5⟩:=Rd.split k4
 obtain⟨u0,rfl,_⟩:=Rd.one h0 rfl
 obtain⟨u1,rfl,_⟩:=Rd.one h1 rfl
 obtain⟨u2,rfl,_⟩:=Rd.one h2 rfl
 obtain⟨u3,rfl,_⟩:=Rd.one h3 rfl
 obtain⟨u4,rfl,_⟩:=Rd.one h4 rfl
 obtain⟨u5,rfl,_⟩:=Rd.one h5 rfl
 obtain⟨u6,rfl,_⟩:=Rd.one k5 rfl
 obtain rfl:=Rd.int h0
 obtain rfl:=Rd.str h1
 obtain rfl:=Rd.str h2
 obtain rfl:=Rd.str h3
 obtain rfl:=Rd.str h4
 obtain rfl:=Rd.int h5
 exact⟨u6,rfl,k5⟩
theorem Op.own {W:CW}{K J6:List Nat}{c6:Value}(x0:Int)(x1:Str)(x2:Str)(x3:Str)(x4:Str)(x5:Int)(x6:List Str)(h6:OwS W J6 K [c6] x6)(d0:zcw ([]) ([]++([]++([]++([]++([]++(J6))))))=true:=by rfl)(d1:zcw ([]) ([]++([]++([]++([]++(J6)))))=true:=by rfl)(d2:zcw ([]) ([]++([]++([]++(J6))))=true:=by rfl)(d3:zcw ([]) ([]++([]++(J6)))=true:=by rfl)(d4:zcw ([]) ([]++(J6))=true:=by rfl)(d5:zcw ([]) (J6)=true:=by rfl):OwS W ([]++([]++([]++([]++([]++([]++(J6))))))) K [vI x0,vS x1,vS x2,vS x3,vS x4,vI x5,c6] (Vm.Op.mk x0 x1 x2 x3 x4 x5 x6):=(OwS.pair (OwS.atm (rdI x0)) (OwS.pair (OwS.atm (rdS x1)) (OwS.pair (OwS.atm (rdS x2)) (OwS.pair (OwS.atm (rdS x3)) (OwS.pair (OwS.atm (rdS x4)) (OwS.pair (OwS.atm (rdI x5)) h6 d5) d4) d3) d2) d1) d0)
instance :Fs Vm.Op (Int) 0 (fun x=>x.Kind) (fun x y=>Vm.Op.mk y x.Branch x.Who x.Path x.To x.At x.Text):=⟨(Fs.fst rfl:Fs (Int×Str×Str×Str×Str×Int×(List Str)) (Int) 0 _ _).lt,fun h=>(Fs.fst rfl:Fs (Int×Str×Str×Str×Str×Int×(List Str)) (Int) 0 _ _).lens h⟩
instance :Fs Vm.Op (Str) 1 (fun x=>x.Branch) (fun x y=>Vm.Op.mk x.Kind y x.Who x.Path x.To x.At x.Text):=⟨(Fs.snd rfl (Fs.fst rfl):Fs (Int×Str×Str×Str×Str×Int×(List Str)) (Str) 1 _ _).lt,fun h=>(Fs.snd rfl (Fs.fst rfl):Fs (Int×Str×Str×Str×Str×Int×(List Str)) (Str) 1 _ _).lens h⟩
instance :Fs Vm.Op (Str) 2 (fun x=>x.Who) (fun x y=>Vm.Op.mk x.Kind x.Branch y x.Path x.To x.At x.Text):=⟨(Fs.snd rfl (Fs.snd rfl (Fs.fst rfl)):Fs (Int×Str×Str×Str×Str×Int×(List Str)) (Str) 2 _ _).lt,fun h=>(Fs.snd rfl (Fs.snd rfl (Fs.fst rfl)):Fs (Int×Str×Str×Str×Str×Int×(List Str)) (Str) 2 _ _).lens h⟩
instance :Fs Vm.Op (Str) 3 (fun x=>x.Path) (fun x y=>Vm.Op.mk x.Kind x.Branch x.Who y x.To x.At x.Text):=⟨(Fs.snd rfl (Fs.snd rfl (Fs.snd rfl (Fs.fst rfl))):Fs (Int×Str×Str×Str×Str×Int×(List Str)) (Str) 3 _ _).lt,fun h=>(Fs.snd rfl (Fs.snd rfl (Fs.snd rfl (Fs.fst rfl))):Fs (Int×Str×Str×Str×Str×Int×(List Str)) (Str) 3 _ _).lens h⟩
instance :Fs Vm.Op (Str) 4 (fun x=>x.To) (fun x y=>Vm.Op.mk x.Kind x.Branch x.Who x.Path y x.At x.Text):=⟨(Fs.snd rfl (Fs.snd rfl (Fs.snd rfl (Fs.snd rfl (Fs.fst rfl)))):Fs (Int×Str×Str×Str×Str×Int×(List Str)) (Str) 4 _ _).lt,fun h=>(Fs.snd rfl (Fs.snd rfl (Fs.snd rfl (Fs.snd rfl (Fs.fst rfl)))):Fs (Int×Str×Str×Str×Str×Int×(List Str)) (Str) 4 _ _).lens h⟩
instance :Fs Vm.Op (Int) 5 (fun x=>x.At) (fun x y=>Vm.Op.mk x.Kind x.Branch x.Who x.Path x.To y x.Text):=⟨(Fs.snd rfl (Fs.snd rfl (Fs.snd rfl (Fs.snd rfl (Fs.snd rfl (Fs.fst rfl))))):Fs (Int×Str×Str×Str×Str×Int×(List Str)) (Int) 5 _ _).lt,fun h=>(Fs.snd rfl (Fs.snd rfl (Fs.snd rfl (Fs.snd rfl (Fs.snd rfl (Fs.fst rfl))))):Fs (Int×Str×Str×Str×Str×Int×(List Str)) (Int) 5 _ _).lens h⟩
instance :Fs Vm.Op (List Str) 6 (fun x=>x.Text) (fun x y=>Vm.Op.mk x.Kind x.Branch x.Who x.Path x.To x.At y):=⟨(Fs.snd rfl (Fs.snd rfl (Fs.snd rfl (Fs.snd rfl (Fs.snd rfl (Fs.snd rfl (Fs.self rfl)))))):Fs (Int×Str×Str×Str×Str×Int×(List Str)) (List Str) 6 _ _).lt,fun h=>(Fs.snd rfl (Fs.snd rfl (Fs.snd rfl (Fs.snd rfl (Fs.snd rfl (Fs.snd rfl (Fs.self rfl)))))):Fs (Int×Str×Str×Str×Str×Int×(List Str)) (List Str) 6 _ _).lens h⟩
instance :Fl Vm.Op (List Str) 6 (fun x=>x.Text) (fun x y=>Vm.Op.mk x.Kind x.Branch x.Who x.Path x.To x.At y):=⟨fun h=>(Fl.snd rfl (Fl.snd rfl (Fl.snd rfl (Fl.snd rfl (Fl.snd rfl (Fl.snd rfl (Fl.self rfl)))))):Fl (Int×Str×Str×Str×Str×Int×(List Str)) (List Str) 6 _ _).lens h⟩
theorem Op.rd {W:CW}{K:List Nat}{c6:Value}(x0:Int)(x1:Str)(x2:Str)(x3:Str)(x4:Str)(x5:Int)(x6:List Str)(h6:Rd W K [c6] x6):Rd W K [vI x0,vS x1,vS x2,vS x3,vS x4,vI x5,c6] (Vm.Op.mk x0 x1 x2 x3 x4 x5 x6):=(Rd.join (rdI x0) (Rd.join (rdS x1) (Rd.join (rdS x2) (Rd.join (rdS x3) (Rd.join (rdS x4) (Rd.join (rdI x5) h6))))))
instance :Rp l30Rd:=Rp.iso (β:=(List zcM)×Int) 62 (fun x=>(x.b,x.p)) 0
instance :Zr l30Rd:= {
 z:=Vm.l30Rd.mk [] 0
 cs:=Zr.cs ((List zcM)×Int)
 own:=Zr.own (α:=(List zcM)×Int)}
theorem l30Rd.split {W:CW}{K:List Nat}{cs:List Value}{x:Vm.l30Rd}(h:Rd W K cs x): ∃ c0:Value,cs=[c0,vI x.p]/\Rd W K [c0] x.b:=by
 replace h:Rd W K cs (x.b,x.p):=h
 obtain⟨c0,d0,rfl,h0,k0⟩:=h.split
 obtain⟨u0,rfl,_⟩:=Rd.one h0 rfl
 obtain⟨u1,rfl,_⟩:=Rd.one k0 rfl
 obtain rfl:=Rd.int k0
 exact⟨u0,rfl,h0⟩
theorem l30Rd.own {W:CW}{K J0:List Nat}{c0:Value}(x0:List zcM)(x1:Int)(h0:OwS W J0 K [c0] x0)(d0:zcw (J0) ([])=true:=by rfl):OwS W (J0++([])) K [c0,vI x1] (Vm.l30Rd.mk x0 x1):=(OwS.pair h0 (OwS.atm (rdI x1)) d0)
instance :Fs Vm.l30Rd (List zcM) 0 (fun x=>x.b) (fun x y=>Vm.l30Rd.mk y x.p):=⟨(Fs.fst rfl:Fs ((List zcM)×Int) (List zcM) 0 _ _).lt,fun h=>(Fs.fst rfl:Fs ((List zcM)×Int) (List zcM) 0 _ _).lens h⟩
instance :Fs Vm.l30Rd (Int) 1 (fun x=>x.p) (fun x y=>Vm.l30Rd.mk x.b y):=⟨(Fs.snd rfl (Fs.self rfl):Fs ((List zcM)×Int) (Int) 1 _ _).lt,fun h=>(Fs.snd rfl (Fs.self rfl):Fs ((List zcM)×Int) (Int) 1 _ _).lens h⟩
instance :Fl Vm.l30Rd (List zcM) 0 (fun x=>x.b) (fun x y=>Vm.l30Rd.mk y x.p):=⟨fun h=>(Fl.fst rfl:Fl ((List zcM)×Int) (List zcM) 0 _ _).lens h⟩
theorem l30Rd.rd {W:CW}{K:List Nat}{c0:Value}(x0:List zcM)(x1:Int)(h0:Rd W K [c0] x0):Rd W K [c0,vI x1] (Vm.l30Rd.mk x0 x1):=(Rd.join h0 (rdI x1))
instance :Und Tryd.prog 2 (TypeDesc.int IntKind.i64):=⟨Tryd.underlying2⟩
instance :Inf Tryd.prog 2 1 8 (Value.int IntKind.i64 0):=⟨by kernel_rfl⟩
instance :Und Tryd.prog 3 (TypeDesc.int IntKind.i64):=⟨Tryd.underlying3⟩
instance :Inf Tryd.prog 3 1 8 (Value.int IntKind.i64 0):=⟨by kernel_rfl⟩
instance :Und Tryd.prog 4 TypeDesc.bool:=⟨Tryd.underlying4⟩
instance :Inf Tryd.prog 4 1 1 (Value.bool false):=⟨by kernel_rfl⟩
instance :Und Tryd.prog 5 (TypeDesc.int IntKind.u8):=⟨Tryd.underlying5⟩
instance :Inf Tryd.prog 5 1 1 (Value.int IntKind.u8 0):=⟨by kernel_rfl⟩
instance :Und Tryd.prog 9 TypeDesc.string:=⟨Tryd.underlying9⟩
instance :Inf Tryd.prog 9 1 16 (Value.string (ByteArray.mk #[])):=⟨by kernel_rfl⟩
instance :Und Tryd.prog 12 (TypeDesc.int IntKind.u64):=⟨Tryd.underlying12⟩
instance :Inf Tryd.prog 12 1 8 (Value.int IntKind.u64 0):=⟨by kernel_rfl⟩
instance : Und Tryd.prog 13 (TypeDesc.struct #[(Field.mk "msg" 9 0 false "" "runtime" 0), (Field.mk "addr" 12 1 false "" "runtime" 16)]) := ⟨Tryd.underlying13⟩
instance :Inf Tryd.prog 13 2 24 (Value.agg #[(Value.string (ByteArray.mk #[])),(Value.int IntKind.u64 0)]):=⟨by kernel_rfl⟩
instance :Flat Tryd.prog 13 2:=⟨_,Tryd.underlying13,by kernel_rfl,by kernel_rfl⟩
instance :Fld Tryd.prog 13 0 0:=Flat.fld (n:=2) (by decide)
instance :Fld Tryd.prog 13 1 1:=Flat.fld (n:=2) (by decide)
instance :Und Tryd.prog 21 (TypeDesc.int IntKind.i32):=⟨Tryd.underlying21⟩
instance :Inf Tryd.prog 21 1 4 (Value.int IntKind.i32 0):=⟨by kernel_rfl⟩
instance :Und Tryd.prog 22 (TypeDesc.slice 5):=⟨Tryd.underlying22⟩
instance :Inf Tryd.prog 22 1 24 (Value.slice none 0 0):=⟨by kernel_rfl⟩
instance :Und Tryd.prog 24 (TypeDesc.slice 9):=⟨Tryd.underlying24⟩
instance :Inf Tryd.prog 24 1 24 (Value.slice none 0 0):=⟨by kernel_rfl⟩
instance : Und Tryd.prog 25 (TypeDesc.struct #[(Field.mk "Kind" 3 0 false "" "" 0), (Field.mk "Branch" 9 1 false "" "" 8), (Field.mk "Who" 9 2 false "" "" 24), (Field.mk "Path" 9 3 false "" "" 40), (Field.mk "To" 9 4 false "" "" 56), (Field.mk "At" 3 5 false "" "" 72), (Field.mk "Text" 24 6 false "" "" 80)]) := ⟨Tryd.underlying25⟩
instance :Inf Tryd.prog 25 7 104 (Value.agg #[(Value.int IntKind.i64 0),(Value.string (ByteArray.mk #[])),(Value.string (ByteArray.mk #[])),(Value.string (ByteArray.mk #[])),(Value.string (ByteArray.mk #[])),(Value.int IntKind.i64 0),(Value.slice none 0 0)]):=⟨by kernel_rfl⟩
instance :Flat Tryd.prog 25 7:=⟨_,Tryd.underlying25,by kernel_rfl,by kernel_rfl⟩
instance :Fld Tryd.prog 25 0 0:=Flat.fld (n:=7) (by decide)
instance :Fld Tryd.prog 25 1 1:=Flat.fld (n:=7) (by decide)
instance :Fld Tryd.prog 25 2 2:=Flat.fld (n:=7) (by decide)
instance :Fld Tryd.prog 25 3 3:=Flat.fld (n:=7) (by decide)
instance :Fld Tryd.prog 25 4 4:=Flat.fld (n:=7) (by decide)
instance :Fld Tryd.prog 25 5 5:=Flat.fld (n:=7) (by decide)
instance :Fld Tryd.prog 25 6 6:=Flat.fld (n:=7) (by decide)
instance : Und Tryd.prog 26 (TypeDesc.struct #[(Field.mk "Kind" 3 0 false "" "" 0), (Field.mk "Branch" 9 1 false "" "" 8), (Field.mk "Who" 9 2 false "" "" 24), (Field.mk "Path" 9 3 false "" "" 40), (Field.mk "To" 9 4 false "" "" 56), (Field.mk "At" 3 5 false "" "" 72), (Field.mk "Text" 24 6 false "" "" 80)]) := ⟨Tryd.underlying26⟩
instance :Inf Tryd.prog 26 7 104 (Value.agg #[(Value.int IntKind.i64 0),(Value.string (ByteArray.mk #[])),(Value.string (ByteArray.mk #[])),(Value.string (ByteArray.mk #[])),(Value.string (ByteArray.mk #[])),(Value.int IntKind.i64 0),(Value.slice none 0 0)]):=⟨by kernel_rfl⟩
instance :Flat Tryd.prog 26 7:=⟨_,Tryd.underlying26,by kernel_rfl,by kernel_rfl⟩
instance :Fld Tryd.prog 26 0 0:=Flat.fld (n:=7) (by decide)
instance :Fld Tryd.prog 26 1 1:=Flat.fld (n:=7) (by decide)
instance :Fld Tryd.prog 26 2 2:=Flat.fld (n:=7) (by decide)
instance :Fld Tryd.prog 26 3 3:=Flat.fld (n:=7) (by decide)
instance :Fld Tryd.prog 26 4 4:=Flat.fld (n:=7) (by decide)
instance :Fld Tryd.prog 26 5 5:=Flat.fld (n:=7) (by decide)
instance :Fld Tryd.prog 26 6 6:=Flat.fld (n:=7) (by decide)
instance : Und Tryd.prog 34 (TypeDesc.struct #[(Field.mk "Kind" 3 0 false "" "" 0), (Field.mk "Branch" 9 1 false "" "" 8), (Field.mk "Who" 9 2 false "" "" 24), (Field.mk "Path" 9 3 false "" "" 40), (Field.mk "To" 9 4 false "" "" 56), (Field.mk "At" 3 5 false "" "" 72), (Field.mk "Text" 24 6 false "" "" 80)]) := ⟨Tryd.underlying34⟩
instance :Inf Tryd.prog 34 7 104 (Value.agg #[(Value.int IntKind.i64 0),(Value.string (ByteArray.mk #[])),(Value.string (ByteArray.mk #[])),(Value.string (ByteArray.mk #[])),(Value.string (ByteArray.mk #[])),(Value.int IntKind.i64 0),(Value.slice none 0 0)]):=⟨by kernel_rfl⟩
instance :Flat Tryd.prog 34 7:=⟨_,Tryd.underlying34,by kernel_rfl,by kernel_rfl⟩
instance :Fld Tryd.prog 34 0 0:=Flat.fld (n:=7) (by decide)
instance :Fld Tryd.prog 34 1 1:=Flat.fld (n:=7) (by decide)
instance :Fld Tryd.prog 34 2 2:=Flat.fld (n:=7) (by decide)
instance :Fld Tryd.prog 34 3 3:=Flat.fld (n:=7) (by decide)
instance :Fld Tryd.prog 34 4 4:=Flat.fld (n:=7) (by decide)
instance :Fld Tryd.prog 34 5 5:=Flat.fld (n:=7) (by decide)
instance :Fld Tryd.prog 34 6 6:=Flat.fld (n:=7) (by decide)
instance :Und Tryd.prog 38 (TypeDesc.pointer 62):=⟨Tryd.underlying38⟩
instance :Inf Tryd.prog 38 1 8 (Value.pointer none):=⟨by kernel_rfl⟩
instance : Und Tryd.prog 61 (TypeDesc.struct #[(Field.mk "b" 22 0 false "" "loop.example/versioncontrol/spec" 0), (Field.mk "p" 3 1 false "" "loop.example/versioncontrol/spec" 24)]) := ⟨Tryd.underlying61⟩
instance :Inf Tryd.prog 61 2 32 (Value.agg #[(Value.slice none 0 0),(Value.int IntKind.i64 0)]):=⟨by kernel_rfl⟩
instance :Flat Tryd.prog 61 2:=⟨_,Tryd.underlying61,by kernel_rfl,by kernel_rfl⟩
instance :Fld Tryd.prog 61 0 0:=Flat.fld (n:=2) (by decide)
instance :Fld Tryd.prog 61 1 1:=Flat.fld (n:=2) (by decide)
instance : Und Tryd.prog 62 (TypeDesc.struct #[(Field.mk "b" 22 0 false "" "loop.example/versioncontrol/spec" 0), (Field.mk "p" 3 1 false "" "loop.example/versioncontrol/spec" 24)]) := ⟨Tryd.underlying62⟩
instance :Inf Tryd.prog 62 2 32 (Value.agg #[(Value.slice none 0 0),(Value.int IntKind.i64 0)]):=⟨by kernel_rfl⟩
instance :Flat Tryd.prog 62 2:=⟨_,Tryd.underlying62,by kernel_rfl,by kernel_rfl⟩
instance :Fld Tryd.prog 62 0 0:=Flat.fld (n:=2) (by decide)
instance :Fld Tryd.prog 62 1 1:=Flat.fld (n:=2) (by decide)
instance :Und Tryd.prog 71 (TypeDesc.slice 3):=⟨Tryd.underlying71⟩
instance :Inf Tryd.prog 71 1 24 (Value.slice none 0 0):=⟨by kernel_rfl⟩
instance :Und Tryd.prog 74 (TypeDesc.pointer 76):=⟨Tryd.underlying74⟩
instance :Inf Tryd.prog 74 1 8 (Value.pointer none):=⟨by kernel_rfl⟩
instance : Und Tryd.prog 75 (TypeDesc.struct #[(Field.mk "addr" 74 0 false "" "strings" 0), (Field.mk "buf" 22 1 false "" "strings" 8)]) := ⟨Tryd.underlying75⟩
instance :Inf Tryd.prog 75 2 32 (Value.agg #[(Value.pointer none),(Value.slice none 0 0)]):=⟨by kernel_rfl⟩
instance :Flat Tryd.prog 75 2:=⟨_,Tryd.underlying75,by kernel_rfl,by kernel_rfl⟩
instance :Fld Tryd.prog 75 0 0:=Flat.fld (n:=2) (by decide)
instance :Fld Tryd.prog 75 1 1:=Flat.fld (n:=2) (by decide)
instance : Und Tryd.prog 76 (TypeDesc.struct #[(Field.mk "addr" 74 0 false "" "strings" 0), (Field.mk "buf" 22 1 false "" "strings" 8)]) := ⟨Tryd.underlying76⟩
instance :Inf Tryd.prog 76 2 32 (Value.agg #[(Value.pointer none),(Value.slice none 0 0)]):=⟨by kernel_rfl⟩
instance :Flat Tryd.prog 76 2:=⟨_,Tryd.underlying76,by kernel_rfl,by kernel_rfl⟩
instance :Fld Tryd.prog 76 0 0:=Flat.fld (n:=2) (by decide)
instance :Fld Tryd.prog 76 1 1:=Flat.fld (n:=2) (by decide)
instance :Und Tryd.prog 80 (TypeDesc.int IntKind.i64):=⟨Tryd.underlying80⟩
instance :Inf Tryd.prog 80 1 8 (Value.int IntKind.i64 0):=⟨by kernel_rfl⟩
instance :Und Tryd.prog 83 (TypeDesc.pointer 96):=⟨Tryd.underlying83⟩
instance :Inf Tryd.prog 83 1 8 (Value.pointer none):=⟨by kernel_rfl⟩
instance :Und Tryd.prog 86 (TypeDesc.pointer 5):=⟨Tryd.underlying86⟩
instance :Inf Tryd.prog 86 1 8 (Value.pointer none):=⟨by kernel_rfl⟩
instance :Und Tryd.prog 90 (TypeDesc.int IntKind.u64):=⟨Tryd.underlying90⟩
instance :Inf Tryd.prog 90 1 8 (Value.int IntKind.u64 0):=⟨by kernel_rfl⟩
instance :Und Tryd.prog 93 (TypeDesc.int IntKind.u64):=⟨Tryd.underlying93⟩
instance :Inf Tryd.prog 93 1 8 (Value.int IntKind.u64 0):=⟨by kernel_rfl⟩
instance : Und Tryd.prog 95 (TypeDesc.struct #[(Field.mk "Func" 9 0 false "" "" 0), (Field.mk "Num" 9 1 false "" "" 16), (Field.mk "Err" 48 2 false "" "" 32)]) := ⟨Tryd.underlying95⟩
instance :Inf Tryd.prog 95 3 48 (Value.agg #[(Value.string (ByteArray.mk #[])),(Value.string (ByteArray.mk #[])),Value.nilIface]):=⟨by kernel_rfl⟩
instance :Flat Tryd.prog 95 3:=⟨_,Tryd.underlying95,by kernel_rfl,by kernel_rfl⟩
instance :Fld Tryd.prog 95 0 0:=Flat.fld (n:=3) (by decide)
instance :Fld Tryd.prog 95 1 1:=Flat.fld (n:=3) (by decide)
instance :Fld Tryd.prog 95 2 2:=Flat.fld (n:=3) (by decide)
instance : Und Tryd.prog 96 (TypeDesc.struct #[(Field.mk "Func" 9 0 false "" "" 0), (Field.mk "Num" 9 1 false "" "" 16), (Field.mk "Err" 48 2 false "" "" 32)]) := ⟨Tryd.underlying96⟩
instance :Inf Tryd.prog 96 3 48 (Value.agg #[(Value.string (ByteArray.mk #[])),(Value.string (ByteArray.mk #[])),Value.nilIface]):=⟨by kernel_rfl⟩
instance :Flat Tryd.prog 96 3:=⟨_,Tryd.underlying96,by kernel_rfl,by kernel_rfl⟩
instance :Fld Tryd.prog 96 0 0:=Flat.fld (n:=3) (by decide)
instance :Fld Tryd.prog 96 1 1:=Flat.fld (n:=3) (by decide)
instance :Fld Tryd.prog 96 2 2:=Flat.fld (n:=3) (by decide)
instance :Und Tryd.prog 103 (TypeDesc.pointer 105):=⟨Tryd.underlying103⟩
instance :Inf Tryd.prog 103 1 8 (Value.pointer none):=⟨by kernel_rfl⟩
instance : Und Tryd.prog 104 (TypeDesc.struct #[(Field.mk "s" 9 0 false "" "errors" 0)]) := ⟨Tryd.underlying104⟩
instance :Inf Tryd.prog 104 1 16 (Value.agg #[(Value.string (ByteArray.mk #[]))]):=⟨by kernel_rfl⟩
instance :Flat Tryd.prog 104 1:=⟨_,Tryd.underlying104,by kernel_rfl,by kernel_rfl⟩
instance :Fld Tryd.prog 104 0 0:=Flat.fld (n:=1) (by decide)
instance : Und Tryd.prog 105 (TypeDesc.struct #[(Field.mk "s" 9 0 false "" "errors" 0)]) := ⟨Tryd.underlying105⟩
instance :Inf Tryd.prog 105 1 16 (Value.agg #[(Value.string (ByteArray.mk #[]))]):=⟨by kernel_rfl⟩
instance :Flat Tryd.prog 105 1:=⟨_,Tryd.underlying105,by kernel_rfl,by kernel_rfl⟩
instance :Fld Tryd.prog 105 0 0:=Flat.fld (n:=1) (by decide)
instance :Und Tryd.prog 111 (TypeDesc.int IntKind.u32):=⟨Tryd.underlying111⟩
instance :Inf Tryd.prog 111 1 4 (Value.int IntKind.u32 0):=⟨by kernel_rfl⟩
instance : Und Tryd.prog 115 (TypeDesc.struct #[(Field.mk "lo" 5 0 false "" "unicode/utf8" 0), (Field.mk "hi" 5 1 false "" "unicode/utf8" 1)]) := ⟨Tryd.underlying115⟩
instance :Inf Tryd.prog 115 2 2 (Value.agg #[(Value.int IntKind.u8 0),(Value.int IntKind.u8 0)]):=⟨by kernel_rfl⟩
instance :Flat Tryd.prog 115 2:=⟨_,Tryd.underlying115,by kernel_rfl,by kernel_rfl⟩
instance :Fld Tryd.prog 115 0 0:=Flat.fld (n:=2) (by decide)
instance :Fld Tryd.prog 115 1 1:=Flat.fld (n:=2) (by decide)
instance : Und Tryd.prog 116 (TypeDesc.struct #[(Field.mk "lo" 5 0 false "" "unicode/utf8" 0), (Field.mk "hi" 5 1 false "" "unicode/utf8" 1)]) := ⟨Tryd.underlying116⟩
instance :Inf Tryd.prog 116 2 2 (Value.agg #[(Value.int IntKind.u8 0),(Value.int IntKind.u8 0)]):=⟨by kernel_rfl⟩
instance :Flat Tryd.prog 116 2:=⟨_,Tryd.underlying116,by kernel_rfl,by kernel_rfl⟩
instance :Fld Tryd.prog 116 0 0:=Flat.fld (n:=2) (by decide)
instance :Fld Tryd.prog 116 1 1:=Flat.fld (n:=2) (by decide)
instance :Fun Tryd.prog 5:=⟨_,Tryd.func5,by kernel_rfl,by kernel_rfl⟩
instance :Fun Tryd.prog 10:=⟨_,Tryd.func10,by kernel_rfl,by kernel_rfl⟩
instance :Fun Tryd.prog 12:=⟨_,Tryd.func12,by kernel_rfl,by kernel_rfl⟩
instance :Fun Tryd.prog 13:=⟨_,Tryd.func13,by kernel_rfl,by kernel_rfl⟩
instance :Fun Tryd.prog 15:=⟨_,Tryd.func15,by kernel_rfl,by kernel_rfl⟩
instance :Fun Tryd.prog 16:=⟨_,Tryd.func16,by kernel_rfl,by kernel_rfl⟩
instance :Fun Tryd.prog 17:=⟨_,Tryd.func17,by kernel_rfl,by kernel_rfl⟩
instance :Fun Tryd.prog 24:=⟨_,Tryd.func24,by kernel_rfl,by kernel_rfl⟩
instance :Fun Tryd.prog 25:=⟨_,Tryd.func25,by kernel_rfl,by kernel_rfl⟩
instance :Fun Tryd.prog 27:=⟨_,Tryd.func27,by kernel_rfl,by kernel_rfl⟩
instance :Fun Tryd.prog 28:=⟨_,Tryd.func28,by kernel_rfl,by kernel_rfl⟩
instance :Fun Tryd.prog 29:=⟨_,Tryd.func29,by kernel_rfl,by kernel_rfl⟩
instance :Fun Tryd.prog 31:=⟨_,Tryd.func31,by kernel_rfl,by kernel_rfl⟩
instance :Fun Tryd.prog 32:=⟨_,Tryd.func32,by kernel_rfl,by kernel_rfl⟩
instance :Fun Tryd.prog 35:=⟨_,Tryd.func35,by kernel_rfl,by kernel_rfl⟩
instance :Fun Tryd.prog 36:=⟨_,Tryd.func36,by kernel_rfl,by kernel_rfl⟩
instance :Fun Tryd.prog 37:=⟨_,Tryd.func37,by kernel_rfl,by kernel_rfl⟩
instance :Fun Tryd.prog 38:=⟨_,Tryd.func38,by kernel_rfl,by kernel_rfl⟩
instance :Fun Tryd.prog 39:=⟨_,Tryd.func39,by kernel_rfl,by kernel_rfl⟩
instance :Fun Tryd.prog 40:=⟨_,Tryd.func40,by kernel_rfl,by kernel_rfl⟩
instance :Fun Tryd.prog 41:=⟨_,Tryd.func41,by kernel_rfl,by kernel_rfl⟩
instance :Fun Tryd.prog 42:=⟨_,Tryd.func42,by kernel_rfl,by kernel_rfl⟩
instance :Fun Tryd.prog 43:=⟨_,Tryd.func43,by kernel_rfl,by kernel_rfl⟩
instance :Fun Tryd.prog 51:=⟨_,Tryd.func51,by kernel_rfl,by kernel_rfl⟩
instance :Fun Tryd.prog 52:=⟨_,Tryd.func52,by kernel_rfl,by kernel_rfl⟩
instance :Fun Tryd.prog 53:=⟨_,Tryd.func53,by kernel_rfl,by kernel_rfl⟩
instance :Fun Tryd.prog 54:=⟨_,Tryd.func54,by kernel_rfl,by kernel_rfl⟩
instance :Fun Tryd.prog 55:=⟨_,Tryd.func55,by kernel_rfl,by kernel_rfl⟩
instance :Fun Tryd.prog 56:=⟨_,Tryd.func56,by kernel_rfl,by kernel_rfl⟩
instance :Fun Tryd.prog 57:=⟨_,Tryd.func57,by kernel_rfl,by kernel_rfl⟩
instance :Fun Tryd.prog 58:=⟨_,Tryd.func58,by kernel_rfl,by kernel_rfl⟩
instance :Fun Tryd.prog 60:=⟨_,Tryd.func60,by kernel_rfl,by kernel_rfl⟩
instance :Fun Tryd.prog 61:=⟨_,Tryd.func61,by kernel_rfl,by kernel_rfl⟩
instance :Fun Tryd.prog 75:=⟨_,Tryd.func75,by kernel_rfl,by kernel_rfl⟩
instance :Fun Tryd.prog 86:=⟨_,Tryd.func86,by kernel_rfl,by kernel_rfl⟩
theorem mixed:Tryd.prog.follows .mixedOrders=true:=by kernel_rfl
end Go.Sx
