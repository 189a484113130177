/- The seat's types and functions: what the rules must know of them, each fact closed. Conditions: none. -/
import Derived.Test.YtjokjcdckcpijaaGreatDoorXALb
import Derived.Test.YtjokjcdckcpijaaGreatDoorXALw
import Derived.Test.YtjokjcdckcpijaaGreatDoorProg
namespace Go.Sx
open Go Go.Proofs Go.Vm Rp
abbrev Q0 (f:Nat)(l:List Value)(W:CW)(R:CW->Value->Prop):Prop:=zap Tryz.prog f l.toArray W.w (Res W LL R)
abbrev Q1 (f:Nat)(l:List Value)(W:CW)(L:List Nat)(R:CW->Value->Prop):Prop:=zap Tryz.prog f l.toArray W.w (Res W L R)
instance :Rp Int:=Rp.atom 3 vI (fun _=>True) (fun _=>rfl) 37
instance (priority:=high):Rp Str:=Rp.atom 9 (fun s=>vS s) (fun _=>True) (fun _=>rfl) 33
instance :Rp Bool:=Rp.atom 4 vB (fun _=>True) (fun _=>rfl) 123
instance :Rp Byte:=Rp.atom 5 (fun b=> .int .u8 (UInt8.toNat b)) (fun _=>True) (fun _=>rfl) 22
instance :Atm Int:=⟨fun h=>⟨rfl,h⟩⟩
instance :Atm Str:=⟨fun h=>⟨rfl,h⟩⟩
instance :Atm Bool:=⟨fun h=>⟨rfl,h⟩⟩
instance :Atm Byte:=⟨fun h=>⟨rfl,h⟩⟩
instance :Pl Int:=⟨fun h=>h⟩
instance :Pl Str:=⟨fun h=>h⟩
instance :Pl Bool:=⟨fun h=>h⟩
instance :Pl Byte:=⟨fun h=>h⟩
instance :Zr Int:=⟨0,[vI 0],⟨rfl,rfl,trivial⟩⟩
instance :Zr Str:=⟨[],[vS []],⟨rfl,rfl,trivial⟩⟩
instance :Zr Bool:=⟨false,[vB false],⟨rfl,rfl,trivial⟩⟩
section
variable {W:CW}{K:List Nat}{v:Value}{p:Addr}
theorem Rd.str {s:Str}(h:Rd W K [v] s):v=vS s:=by simpa using h.1
theorem Rd.int {n:Int}(h:Rd W K [v] n):v=vI n:=by simpa using h.1
theorem Rd.bool {b:Bool}(h:Rd W K [v] b):v=vB b:=by simpa using h.1
theorem Rd.byte {b:Byte}(h:Rd W K [v] b):v = .int .u8 (UInt8.toNat b):=by simpa using h.1
theorem At.str {s:Str}(h:At W K p s):W.w.cell? p=some (vS s):=by obtain⟨v,hc,hr⟩:=h.cell rfl;rw[hr.str]at hc;exact hc
theorem At.int {n:Int}(h:At W K p n):W.w.cell? p=some (vI n):=by obtain⟨v,hc,hr⟩:=h.cell rfl;rw[hr.int]at hc;exact hc
theorem At.bool {b:Bool}(h:At W K p b):W.w.cell? p=some (vB b):=by obtain⟨v,hc,hr⟩:=h.cell rfl;rw[hr.bool]at hc;exact hc
theorem At.byte {b:Byte}(h:At W K p b):W.w.cell? p=some (.int .u8 (UInt8.toNat b)):=by obtain⟨v,hc,hr⟩:=h.cell rfl;rw[hr.byte]at hc;exact hc
theorem rdI (n:Int):Rd W K [vI n] n:=⟨rfl,trivial⟩
theorem rdS (s:Str):Rd W K [vS s] s:=⟨rfl,trivial⟩
theorem rdB (b:Bool):Rd W K [vB b] b:=⟨rfl,trivial⟩
end
instance :Rp File:=Rp.iso (β:=Str×(List Str)) 42 (fun x=>(x.Path,x.Text)) 38
instance :Zr File:= {
 z:=Vm.File.mk [] []
 cs:=Zr.cs (Str×(List Str))
 own:=Zr.own (α:=Str×(List Str))}
theorem File.split {W:CW}{K:List Nat}{cs:List Value}{x:Vm.File}(h:Rd W K cs x): ∃ c1:Value,cs=[vS x.Path,c1]/\Rd W K [c1] x.Text:=by
 replace h:Rd W K cs (x.Path,x.Text):=h
 obtain⟨c0,d0,rfl,h0,k0⟩:=h.split
 obtain⟨u0,rfl,_⟩:=Rd.one h0 rfl
 obtain⟨u1,rfl,_⟩:=Rd.one k0 rfl
 obtain rfl:=Rd.str h0
 exact⟨u1,rfl,k0⟩
theorem File.at0 {W:CW}{K:List Nat}{p:Addr}{x:Vm.File}(h:At W K p x):At W K (p.add 0) x.Path:=by
 replace h:At W K p (x.Path,x.Text):=h
 replace h:=h.fst
 exact(zhd p).symm▸h
theorem File.at1 {W:CW}{K:List Nat}{p:Addr}{x:Vm.File}(h:At W K p x):At W K (p.add 1) x.Text:=by
 replace h:At W K p (x.Path,x.Text):=h
 replace h:=h.snd
 exact h
theorem File.own {W:CW}{K J1:List Nat}{c1:Value}(x0:Str)(x1:List Str)(h1:OwS W J1 K [c1] x1)(d0:zem ([]) (J1)=true:=by rfl):OwS W ([]++(J1)) K [vS x0,c1] (Vm.File.mk x0 x1):=(OwS.pair (OwS.atm (rdS x0)) h1 d0)
instance :Fs Vm.File (Str) 0 (fun x=>x.Path) (fun x y=>Vm.File.mk y x.Text):=⟨(Fs.fst rfl:Fs (Str×(List Str)) (Str) 0 _ _).lt,fun h=>(Fs.fst rfl:Fs (Str×(List Str)) (Str) 0 _ _).lens h⟩
instance :Fs Vm.File (List Str) 1 (fun x=>x.Text) (fun x y=>Vm.File.mk x.Path y):=⟨(Fs.snd rfl (Fs.self rfl):Fs (Str×(List Str)) (List Str) 1 _ _).lt,fun h=>(Fs.snd rfl (Fs.self rfl):Fs (Str×(List Str)) (List Str) 1 _ _).lens h⟩
instance :Fl Vm.File (List Str) 1 (fun x=>x.Text) (fun x y=>Vm.File.mk x.Path y):=⟨fun h=>(Fl.snd rfl (Fl.self rfl):Fl (Str×(List Str)) (List Str) 1 _ _).lens h⟩
theorem File.rd {W:CW}{K:List Nat}{c1:Value}(x0:Str)(x1:List Str)(h1:Rd W K [c1] x1):Rd W K [vS x0,c1] (Vm.File.mk x0 x1):=(Rd.join (rdS x0) h1)
instance :Rp Commit:=Rp.iso (β:=(List Int)×Str×(List File)) 40 (fun x=>(x.Parents,x.Who,x.Tree)) 23
instance :Zr Commit:= {
 z:=Vm.Commit.mk [] [] []
 cs:=Zr.cs ((List Int)×Str×(List File))
 own:=Zr.own (α:=(List Int)×Str×(List File))}
theorem Commit.split {W:CW}{K:List Nat}{cs:List Value}{x:Vm.Commit}(h:Rd W K cs x): ∃ c0 c2:Value,cs=[c0,vS x.Who,c2]/\Rd W K [c0] x.Parents/\Rd W K [c2] x.Tree:=by
 replace h:Rd W K cs (x.Parents,x.Who,x.Tree):=h
 obtain⟨c0,d0,rfl,h0,k0⟩:=h.split
 obtain⟨c1,d1,rfl,h1,k1⟩:=Rd.split k0
 obtain⟨u0,rfl,_⟩:=Rd.one h0 rfl
 obtain⟨u1,rfl,_⟩:=Rd.one h1 rfl
 obtain⟨u2,rfl,_⟩:=Rd.one k1 rfl
 obtain rfl:=Rd.str h1
 exact⟨u0,u2,rfl,h0,k1⟩
theorem Commit.at0 {W:CW}{K:List Nat}{p:Addr}{x:Vm.Commit}(h:At W K p x):At W K (p.add 0) x.Parents:=by
 replace h:At W K p (x.Parents,x.Who,x.Tree):=h
 replace h:=h.fst
 exact(zhd p).symm▸h
theorem Commit.at1 {W:CW}{K:List Nat}{p:Addr}{x:Vm.Commit}(h:At W K p x):At W K (p.add 1) x.Who:=by
 replace h:At W K p (x.Parents,x.Who,x.Tree):=h
 replace h:=h.snd
 replace h:=h.fst
 exact h
theorem Commit.at2 {W:CW}{K:List Nat}{p:Addr}{x:Vm.Commit}(h:At W K p x):At W K (p.add 2) x.Tree:=by
 replace h:At W K p (x.Parents,x.Who,x.Tree):=h
 replace h:=h.snd
 replace h:=h.snd
 rw[zfE]at h
 exact h
theorem Commit.own {W:CW}{K J0 J2:List Nat}{c0 c2:Value}(x0:List Int)(x1:Str)(x2:List File)(h0:OwS W J0 K [c0] x0)(h2:OwS W J2 K [c2] x2)(d0:zem (J0) ([]++(J2))=true:=by rfl)(d1:zem ([]) (J2)=true:=by rfl):OwS W (J0++([]++(J2))) K [c0,vS x1,c2] (Vm.Commit.mk x0 x1 x2):=(OwS.pair h0 (OwS.pair (OwS.atm (rdS x1)) h2 d1) d0)
instance :Fs Vm.Commit (List Int) 0 (fun x=>x.Parents) (fun x y=>Vm.Commit.mk y x.Who x.Tree):=⟨(Fs.fst rfl:Fs ((List Int)×Str×(List File)) (List Int) 0 _ _).lt,fun h=>(Fs.fst rfl:Fs ((List Int)×Str×(List File)) (List Int) 0 _ _).lens h⟩
instance :Fs Vm.Commit (Str) 1 (fun x=>x.Who) (fun x y=>Vm.Commit.mk x.Parents y x.Tree):=⟨(Fs.snd rfl (Fs.fst rfl):Fs ((List Int)×Str×(List File)) (Str) 1 _ _).lt,fun h=>(Fs.snd rfl (Fs.fst rfl):Fs ((List Int)×Str×(List File)) (Str) 1 _ _).lens h⟩
instance :Fs Vm.Commit (List File) 2 (fun x=>x.Tree) (fun x y=>Vm.Commit.mk x.Parents x.Who y):=⟨(Fs.snd rfl (Fs.snd rfl (Fs.self rfl)):Fs ((List Int)×Str×(List File)) (List File) 2 _ _).lt,fun h=>(Fs.snd rfl (Fs.snd rfl (Fs.self rfl)):Fs ((List Int)×Str×(List File)) (List File) 2 _ _).lens h⟩
instance :Fl Vm.Commit (List Int) 0 (fun x=>x.Parents) (fun x y=>Vm.Commit.mk y x.Who x.Tree):=⟨fun h=>(Fl.fst rfl:Fl ((List Int)×Str×(List File)) (List Int) 0 _ _).lens h⟩
instance :Fl Vm.Commit (List File) 2 (fun x=>x.Tree) (fun x y=>Vm.Commit.mk x.Parents x.Who y):=⟨fun h=>(Fl.snd rfl (Fl.snd rfl (Fl.self rfl)):Fl ((List Int)×Str×(List File)) (List File) 2 _ _).lens h⟩
theorem Commit.rd {W:CW}{K:List Nat}{c0 c2:Value}(x0:List Int)(x1:Str)(x2:List File)(h0:Rd W K [c0] x0)(h2:Rd W K [c2] x2):Rd W K [c0,vS x1,c2] (Vm.Commit.mk x0 x1 x2):=(Rd.join h0 (Rd.join (rdS x1) h2))
instance :Rp Head:=Rp.iso (β:=Str×Int) 60 (fun x=>(x.Name,x.At)) 24
instance :Atm Head:=⟨fun h=>Atm.own (α:=Str×Int) h⟩
instance :Pl Head:=⟨fun h=>Pl.pl (α:=Str×Int) h⟩
instance :Zr Head:= {
 z:=Vm.Head.mk [] 0
 cs:=Zr.cs (Str×Int)
 own:=Zr.own (α:=Str×Int)}
theorem Head.split {W:CW}{K:List Nat}{cs:List Value}{x:Vm.Head}(h:Rd W K cs x):cs=[vS x.Name,vI x.At]:=by
 replace h:Rd W K cs (x.Name,x.At):=h
 obtain⟨c0,d0,rfl,h0,k0⟩:=h.split
 obtain⟨u0,rfl,_⟩:=Rd.one h0 rfl
 obtain⟨u1,rfl,_⟩:=Rd.one k0 rfl
 obtain rfl:=Rd.str h0
 obtain rfl:=Rd.int k0
 exact rfl
theorem Head.at0 {W:CW}{K:List Nat}{p:Addr}{x:Vm.Head}(h:At W K p x):At W K (p.add 0) x.Name:=by
 replace h:At W K p (x.Name,x.At):=h
 replace h:=h.fst
 exact(zhd p).symm▸h
theorem Head.at1 {W:CW}{K:List Nat}{p:Addr}{x:Vm.Head}(h:At W K p x):At W K (p.add 1) x.At:=by
 replace h:At W K p (x.Name,x.At):=h
 replace h:=h.snd
 exact h
instance :Fs Vm.Head (Str) 0 (fun x=>x.Name) (fun x y=>Vm.Head.mk y x.At):=⟨(Fs.fst rfl:Fs (Str×Int) (Str) 0 _ _).lt,fun h=>(Fs.fst rfl:Fs (Str×Int) (Str) 0 _ _).lens h⟩
instance :Fs Vm.Head (Int) 1 (fun x=>x.At) (fun x y=>Vm.Head.mk x.Name y):=⟨(Fs.snd rfl (Fs.self rfl):Fs (Str×Int) (Int) 1 _ _).lt,fun h=>(Fs.snd rfl (Fs.self rfl):Fs (Str×Int) (Int) 1 _ _).lens h⟩
theorem Head.rd {W:CW}{K:List Nat}(x0:Str)(x1:Int):Rd W K [vS x0,vI x1] (Vm.Head.mk x0 x1):=(Rd.join (rdS x0) (rdI x1))
instance :Rp Repo:=Rp.iso (β:=(List Commit)×(List Head)) 26 (fun x=>(x.Commits,x.Heads)) 0
instance :Zr Repo:= {
 z:=Vm.Repo.mk [] []
 cs:=Zr.cs ((List Commit)×(List Head))
 own:=Zr.own (α:=(List Commit)×(List Head))}
theorem Repo.split {W:CW}{K:List Nat}{cs:List Value}{x:Vm.Repo}(h:Rd W K cs x): ∃ c0 c1:Value,cs=[c0,c1]/\Rd W K [c0] x.Commits/\Rd W K [c1] x.Heads:=by
 replace h:Rd W K cs (x.Commits,x.Heads):=h
 obtain⟨c0,d0,rfl,h0,k0⟩:=h.split
 obtain⟨u0,rfl,_⟩:=Rd.one h0 rfl
 obtain⟨u1,rfl,_⟩:=Rd.one k0 rfl
 exact⟨u0,u1,rfl,h0,k0⟩
theorem Repo.at0 {W:CW}{K:List Nat}{p:Addr}{x:Vm.Repo}(h:At W K p x):At W K (p.add 0) x.Commits:=by
 replace h:At W K p (x.Commits,x.Heads):=h
 replace h:=h.fst
 exact(zhd p).symm▸h
theorem Repo.at1 {W:CW}{K:List Nat}{p:Addr}{x:Vm.Repo}(h:At W K p x):At W K (p.add 1) x.Heads:=by
 replace h:At W K p (x.Commits,x.Heads):=h
 replace h:=h.snd
 exact h
theorem Repo.own {W:CW}{K J0 J1:List Nat}{c0 c1:Value}(x0:List Commit)(x1:List Head)(h0:OwS W J0 K [c0] x0)(h1:OwS W J1 K [c1] x1)(d0:zem (J0) (J1)=true:=by rfl):OwS W (J0++(J1)) K [c0,c1] (Vm.Repo.mk x0 x1):=(OwS.pair h0 h1 d0)
instance :Fs Vm.Repo (List Commit) 0 (fun x=>x.Commits) (fun x y=>Vm.Repo.mk y x.Heads):=⟨(Fs.fst rfl:Fs ((List Commit)×(List Head)) (List Commit) 0 _ _).lt,fun h=>(Fs.fst rfl:Fs ((List Commit)×(List Head)) (List Commit) 0 _ _).lens h⟩
instance :Fs Vm.Repo (List Head) 1 (fun x=>x.Heads) (fun x y=>Vm.Repo.mk x.Commits y):=⟨(Fs.snd rfl (Fs.self rfl):Fs ((List Commit)×(List Head)) (List Head) 1 _ _).lt,fun h=>(Fs.snd rfl (Fs.self rfl):Fs ((List Commit)×(List Head)) (List Head) 1 _ _).lens h⟩
instance :Fl Vm.Repo (List Commit) 0 (fun x=>x.Commits) (fun x y=>Vm.Repo.mk y x.Heads):=⟨fun h=>(Fl.fst rfl:Fl ((List Commit)×(List Head)) (List Commit) 0 _ _).lens h⟩
instance :Fl Vm.Repo (List Head) 1 (fun x=>x.Heads) (fun x y=>Vm.Repo.mk x.Commits y):=⟨fun h=>(Fl.snd rfl (Fl.self rfl):Fl ((List Commit)×(List Head)) (List Head) 1 _ _).lens h⟩
theorem Repo.rd {W:CW}{K:List Nat}{c0 c1:Value}(x0:List Commit)(x1:List Head)(h0:Rd W K [c0] x0)(h1:Rd W K [c1] x1):Rd W K [c0,c1] (Vm.Repo.mk x0 x1):=(Rd.join h0 h1)
instance :Rp Delta:=Rp.iso (β:=Int×Int×(List Str)) 69 (fun x=>(x.From,x.Many,x.Lines)) 51
instance :Zr Delta:= {
 z:=Vm.Delta.mk 0 0 []
 cs:=Zr.cs (Int×Int×(List Str))
 own:=Zr.own (α:=Int×Int×(List Str))}
theorem Delta.split {W:CW}{K:List Nat}{cs:List Value}{x:Vm.Delta}(h:Rd W K cs x): ∃ c2:Value,cs=[vI x.From,vI x.Many,c2]/\Rd W K [c2] x.Lines:=by
 replace h:Rd W K cs (x.From,x.Many,x.Lines):=h
 obtain⟨c0,d0,rfl,h0,k0⟩:=h.split
 obtain⟨c1,d1,rfl,h1,k1⟩:=Rd.split k0
 obtain⟨u0,rfl,_⟩:=Rd.one h0 rfl
 obtain⟨u1,rfl,_⟩:=Rd.one h1 rfl
 obtain⟨u2,rfl,_⟩:=Rd.one k1 rfl
 obtain rfl:=Rd.int h0
 obtain rfl:=Rd.int h1
 exact⟨u2,rfl,k1⟩
theorem Delta.at0 {W:CW}{K:List Nat}{p:Addr}{x:Vm.Delta}(h:At W K p x):At W K (p.add 0) x.From:=by
 replace h:At W K p (x.From,x.Many,x.Lines):=h
 replace h:=h.fst
 exact(zhd p).symm▸h
theorem Delta.at1 {W:CW}{K:List Nat}{p:Addr}{x:Vm.Delta}(h:At W K p x):At W K (p.add 1) x.Many:=by
 replace h:At W K p (x.From,x.Many,x.Lines):=h
 replace h:=h.snd
 replace h:=h.fst
 exact h
theorem Delta.at2 {W:CW}{K:List Nat}{p:Addr}{x:Vm.Delta}(h:At W K p x):At W K (p.add 2) x.Lines:=by
 replace h:At W K p (x.From,x.Many,x.Lines):=h
 replace h:=h.snd
 replace h:=h.snd
 rw[zfE]at h
 exact h
theorem Delta.own {W:CW}{K J2:List Nat}{c2:Value}(x0:Int)(x1:Int)(x2:List Str)(h2:OwS W J2 K [c2] x2)(d0:zem ([]) ([]++(J2))=true:=by rfl)(d1:zem ([]) (J2)=true:=by rfl):OwS W ([]++([]++(J2))) K [vI x0,vI x1,c2] (Vm.Delta.mk x0 x1 x2):=(OwS.pair (OwS.atm (rdI x0)) (OwS.pair (OwS.atm (rdI x1)) h2 d1) d0)
instance :Fs Vm.Delta (Int) 0 (fun x=>x.From) (fun x y=>Vm.Delta.mk y x.Many x.Lines):=⟨(Fs.fst rfl:Fs (Int×Int×(List Str)) (Int) 0 _ _).lt,fun h=>(Fs.fst rfl:Fs (Int×Int×(List Str)) (Int) 0 _ _).lens h⟩
instance :Fs Vm.Delta (Int) 1 (fun x=>x.Many) (fun x y=>Vm.Delta.mk x.From y x.Lines):=⟨(Fs.snd rfl (Fs.fst rfl):Fs (Int×Int×(List Str)) (Int) 1 _ _).lt,fun h=>(Fs.snd rfl (Fs.fst rfl):Fs (Int×Int×(List Str)) (Int) 1 _ _).lens h⟩
instance :Fs Vm.Delta (List Str) 2 (fun x=>x.Lines) (fun x y=>Vm.Delta.mk x.From x.Many y):=⟨(Fs.snd rfl (Fs.snd rfl (Fs.self rfl)):Fs (Int×Int×(List Str)) (List Str) 2 _ _).lt,fun h=>(Fs.snd rfl (Fs.snd rfl (Fs.self rfl)):Fs (Int×Int×(List Str)) (List Str) 2 _ _).lens h⟩
instance :Fl Vm.Delta (List Str) 2 (fun x=>x.Lines) (fun x y=>Vm.Delta.mk x.From x.Many y):=⟨fun h=>(Fl.snd rfl (Fl.snd rfl (Fl.self rfl)):Fl (Int×Int×(List Str)) (List Str) 2 _ _).lens h⟩
theorem Delta.rd {W:CW}{K:List Nat}{c2:Value}(x0:Int)(x1:Int)(x2:List Str)(h2:Rd W K [c2] x2):Rd W K [vI x0,vI x1,c2] (Vm.Delta.mk x0 x1 x2):=(Rd.join (rdI x0) (Rd.join (rdI x1) h2))
instance :Rp Packed:=Rp.iso (β:=Int×(List Delta)) 54 (fun x=>(x.Base,x.Delta)) 31
instance :Zr Packed:= {
 z:=Vm.Packed.mk 0 []
 cs:=Zr.cs (Int×(List Delta))
 own:=Zr.own (α:=Int×(List Delta))}
theorem Packed.split {W:CW}{K:List Nat}{cs:List Value}{x:Vm.Packed}(h:Rd W K cs x): ∃ c1:Value,cs=[vI x.Base,c1]/\Rd W K [c1] x.Delta:=by
 replace h:Rd W K cs (x.Base,x.Delta):=h
 obtain⟨c0,d0,rfl,h0,k0⟩:=h.split
 obtain⟨u0,rfl,_⟩:=Rd.one h0 rfl
 obtain⟨u1,rfl,_⟩:=Rd.one k0 rfl
 obtain rfl:=Rd.int h0
 exact⟨u1,rfl,k0⟩
theorem Packed.at0 {W:CW}{K:List Nat}{p:Addr}{x:Vm.Packed}(h:At W K p x):At W K (p.add 0) x.Base:=by
 replace h:At W K p (x.Base,x.Delta):=h
 replace h:=h.fst
 exact(zhd p).symm▸h
theorem Packed.at1 {W:CW}{K:List Nat}{p:Addr}{x:Vm.Packed}(h:At W K p x):At W K (p.add 1) x.Delta:=by
 replace h:At W K p (x.Base,x.Delta):=h
 replace h:=h.snd
 exact h
theorem Packed.own {W:CW}{K J1:List Nat}{c1:Value}(x0:Int)(x1:List Delta)(h1:OwS W J1 K [c1] x1)(d0:zem ([]) (J1)=true:=by rfl):OwS W ([]++(J1)) K [vI x0,c1] (Vm.Packed.mk x0 x1):=(OwS.pair (OwS.atm (rdI x0)) h1 d0)
instance :Fs Vm.Packed (Int) 0 (fun x=>x.Base) (fun x y=>Vm.Packed.mk y x.Delta):=⟨(Fs.fst rfl:Fs (Int×(List Delta)) (Int) 0 _ _).lt,fun h=>(Fs.fst rfl:Fs (Int×(List Delta)) (Int) 0 _ _).lens h⟩
instance :Fs Vm.Packed (List Delta) 1 (fun x=>x.Delta) (fun x y=>Vm.Packed.mk x.Base y):=⟨(Fs.snd rfl (Fs.self rfl):Fs (Int×(List Delta)) (List Delta) 1 _ _).lt,fun h=>(Fs.snd rfl (Fs.self rfl):Fs (Int×(List Delta)) (List Delta) 1 _ _).lens h⟩
instance :Fl Vm.Packed (List Delta) 1 (fun x=>x.Delta) (fun x y=>Vm.Packed.mk x.Base y):=⟨fun h=>(Fl.snd rfl (Fl.self rfl):Fl (Int×(List Delta)) (List Delta) 1 _ _).lens h⟩
theorem Packed.rd {W:CW}{K:List Nat}{c1:Value}(x0:Int)(x1:List Delta)(h1:Rd W K [c1] x1):Rd W K [vI x0,c1] (Vm.Packed.mk x0 x1):=(Rd.join (rdI x0) h1)
instance :Rp l30Rd:=Rp.iso (β:=(List Byte)×Int) 62 (fun x=>(x.b,x.p)) 0
instance :Zr l30Rd:= {
 z:=Vm.l30Rd.mk [] 0
 cs:=Zr.cs ((List Byte)×Int)
 own:=Zr.own (α:=(List Byte)×Int)}
theorem l30Rd.split {W:CW}{K:List Nat}{cs:List Value}{x:Vm.l30Rd}(h:Rd W K cs x): ∃ c0:Value,cs=[c0,vI x.p]/\Rd W K [c0] x.b:=by
 replace h:Rd W K cs (x.b,x.p):=h
 obtain⟨c0,d0,rfl,h0,k0⟩:=h.split
 obtain⟨u0,rfl,_⟩:=Rd.one h0 rfl
 obtain⟨u1,rfl,_⟩:=Rd.one k0 rfl
 obtain rfl:=Rd.int k0
 exact⟨u0,rfl,h0⟩
theorem l30Rd.at0 {W:CW}{K:List Nat}{p:Addr}{x:Vm.l30Rd}(h:At W K p x):At W K (p.add 0) x.b:=by
 replace h:At W K p (x.b,x.p):=h
 replace h:=h.fst
 exact(zhd p).symm▸h
theorem l30Rd.at1 {W:CW}{K:List Nat}{p:Addr}{x:Vm.l30Rd}(h:At W K p x):At W K (p.add 1) x.p:=by
 replace h:At W K p (x.b,x.p):=h
 replace h:=h.snd
 exact h
theorem l30Rd.own {W:CW}{K J0:List Nat}{c0:Value}(x0:List Byte)(x1:Int)(h0:OwS W J0 K [c0] x0)(d0:zem (J0) ([])=true:=by rfl):OwS W (J0++([])) K [c0,vI x1] (Vm.l30Rd.mk x0 x1):=(OwS.pair h0 (OwS.atm (rdI x1)) d0)
instance :Fs Vm.l30Rd (List Byte) 0 (fun x=>x.b) (fun x y=>Vm.l30Rd.mk y x.p):=⟨(Fs.fst rfl:Fs ((List Byte)×Int) (List Byte) 0 _ _).lt,fun h=>(Fs.fst rfl:Fs ((List Byte)×Int) (List Byte) 0 _ _).lens h⟩
instance :Fs Vm.l30Rd (Int) 1 (fun x=>x.p) (fun x y=>Vm.l30Rd.mk x.b y):=⟨(Fs.snd rfl (Fs.self rfl):Fs ((List Byte)×Int) (Int) 1 _ _).lt,fun h=>(Fs.snd rfl (Fs.self rfl):Fs ((List Byte)×Int) (Int) 1 _ _).lens h⟩
instance :Fl Vm.l30Rd (List Byte) 0 (fun x=>x.b) (fun x y=>Vm.l30Rd.mk y x.p):=⟨fun h=>(Fl.fst rfl:Fl ((List Byte)×Int) (List Byte) 0 _ _).lens h⟩
theorem l30Rd.rd {W:CW}{K:List Nat}{c0:Value}(x0:List Byte)(x1:Int)(h0:Rd W K [c0] x0):Rd W K [c0,vI x1] (Vm.l30Rd.mk x0 x1):=(Rd.join h0 (rdI x1))
instance :Rp Vm.Op:=Rp.iso (β:=Int×Str×Str×Str×Str×Int×(List Str)) 82 (fun x=>(x.Kind,x.Branch,x.Who,x.Path,x.To,x.At,x.Text)) 73
instance :Zr Vm.Op:= {
 z:=Vm.Op.mk 0 [] [] [] [] 0 []
 cs:=Zr.cs (Int×Str×Str×Str×Str×Int×(List Str))
 own:=Zr.own (α:=Int×Str×Str×Str×Str×Int×(List Str))}
theorem Op.split {W:CW}{K:List Nat}{cs:List Value}{x:Vm.Op}(h:Rd W K cs x): ∃ c6:Value,cs=[vI x.Kind,vS x.Branch,vS x.Who,vS x.Path,vS x.To,vI x.At,c6]/\Rd W K [c6] x.Text:=by
 replace h:Rd W K cs (x.Kind,x.Branch,x.Who,x.Path,x.To,x.At,x.Text):=h
 obtain⟨c0,d0,rfl,h0,k0⟩:=h.split
 obtain⟨c1,d1,rfl,h1,k1⟩:=Rd.split k0
 obtain⟨c2,d2,rfl,h2,k2⟩:=Rd.split k1
 obtain⟨c3,d3,rfl,h3,k3⟩:=Rd.split k2
 obtain⟨c4,d4,rfl,h4,k4⟩:=Rd.split k3
 obtain⟨c5,d5,rfl,h5,k5⟩:=Rd.split k4
 obtain⟨u0,rfl,_⟩:=Rd.one h0 rfl
 obtain⟨u1,rfl,_⟩:=Rd.one h1 rfl
 obtain⟨u2,rfl,_⟩:=Rd.one h2 rfl
 obtain⟨u3,rfl,_⟩:=Rd.one h3 rfl
 obtain⟨u4,rfl,_⟩:=Rd.one h4 rfl
 obtain⟨u5,rfl,_⟩:=Rd.one h5 rfl
 obtain⟨u6,rfl,_⟩:=Rd.one k5 rfl
 obtain rfl:=Rd.int h0
 obtain rfl:=Rd.str h1
 obtain rfl:=Rd.str h2
 obtain rfl:=Rd.str h3
 obtain rfl:=Rd.str h4
 obtain rfl:=Rd.int h5
 exact⟨u6,rfl,k5⟩
theorem Op.at0 {W:CW}{K:List Nat}{p:Addr}{x:Vm.Op}(h:At W K p x):At W K (p.add 0) x.Kind:=by
 replace h:At W K p (x.Kind,x.Branch,x.Who,x.Path,x.To,x.At,x.Text):=h
 replace h:=h.fst
 exact(zhd p).symm▸h
theorem Op.at1 {W:CW}{K:List Nat}{p:Addr}{x:Vm.Op}(h:At W K p x):At W K (p.add 1) x.Branch:=by
 replace h:At W K p (x.Kind,x.Branch,x.Who,x.Path,x.To,x.At,x.Text):=h
 replace h:=h.snd
 replace h:=h.fst
 exact h
theorem Op.at2 {W:CW}{K:List Nat}{p:Addr}{x:Vm.Op}(h:At W K p x):At W K (p.add 2) x.Who:=by
 replace h:At W K p (x.Kind,x.Branch,x.Who,x.Path,x.To,x.At,x.Text):=h
 replace h:=h.snd
 replace h:=h.snd
 replace h:=h.fst
 rw[zfE]at h
 exact h
theorem Op.own {W:CW}{K J6:List Nat}{c6:Value}(x0:Int)(x1:Str)(x2:Str)(x3:Str)(x4:Str)(x5:Int)(x6:List Str)(h6:OwS W J6 K [c6] x6)(d0:zem ([]) ([]++([]++([]++([]++([]++(J6))))))=true:=by rfl)(d1:zem ([]) ([]++([]++([]++([]++(J6)))))=true:=by rfl)(d2:zem ([]) ([]++([]++([]++(J6))))=true:=by rfl)(d3:zem ([]) ([]++([]++(J6)))=true:=by rfl)(d4:zem ([]) ([]++(J6))=true:=by rfl)(d5:zem ([]) (J6)=true:=by rfl):OwS W ([]++([]++([]++([]++([]++([]++(J6))))))) K [vI x0,vS x1,vS x2,vS x3,vS x4,vI x5,c6] (Vm.Op.mk x0 x1 x2 x3 x4 x5 x6):=(OwS.pair (OwS.atm (rdI x0)) (OwS.pair (OwS.atm (rdS x1)) (OwS.pair (OwS.atm (rdS x2)) (OwS.pair (OwS.atm (rdS x3)) (OwS.pair (OwS.atm (rdS x4)) (OwS.pair (OwS.atm (rdI x5)) h6 d5) d4) d3) d2) d1) d0)
instance :Fs Vm.Op (Int) 0 (fun x=>x.Kind) (fun x y=>Vm.Op.mk y x.Branch x.Who x.Path x.To x.At x.Text):=⟨(Fs.fst rfl:Fs (Int×Str×Str×Str×Str×Int×(List Str)) (Int) 0 _ _).lt,fun h=>(Fs.fst rfl:Fs (Int×Str×Str×Str×Str×Int×(List Str)) (Int) 0 _ _).lens h⟩
instance :Fs Vm.Op (Str) 1 (fun x=>x.Branch) (fun x y=>Vm.Op.mk x.Kind y x.Who x.Path x.To x.At x.Text):=⟨(Fs.snd rfl (Fs.fst rfl):Fs (Int×Str×Str×Str×Str×Int×(List Str)) (Str) 1 _ _).lt,fun h=>(Fs.snd rfl (Fs.fst rfl):Fs (Int×Str×Str×Str×Str×Int×(List Str)) (Str) 1 _ _).lens h⟩
instance :Fs Vm.Op (Str) 2 (fun x=>x.Who) (fun x y=>Vm.Op.mk x.Kind x.Branch y x.Path x.To x.At x.Text):=⟨(Fs.snd rfl (Fs.snd rfl (Fs.fst rfl)):Fs (Int×Str×Str×Str×Str×Int×(List Str)) (Str) 2 _ _).lt,fun h=>(Fs.snd rfl (Fs.snd rfl (Fs.fst rfl)):Fs (Int×Str×Str×Str×Str×Int×(List Str)) (Str) 2 _ _).lens h⟩
instance :Fs Vm.Op (Str) 3 (fun x=>x.Path) (fun x y=>Vm.Op.mk x.Kind x.Branch x.Who y x.To x.At x.Text):=⟨(Fs.snd rfl (Fs.snd rfl (Fs.snd rfl (Fs.fst rfl))):Fs (Int×Str×Str×Str×Str×Int×(List Str)) (Str) 3 _ _).lt,fun h=>(Fs.snd rfl (Fs.snd rfl (Fs.snd rfl (Fs.fst rfl))):Fs (Int×Str×Str×Str×Str×Int×(List Str)) (Str) 3 _ _).lens h⟩
instance :Fs Vm.Op (Str) 4 (fun x=>x.To) (fun x y=>Vm.Op.mk x.Kind x.Branch x.Who x.Path y x.At x.Text):=⟨(Fs.snd rfl (Fs.snd rfl (Fs.snd rfl (Fs.snd rfl (Fs.fst rfl)))):Fs (Int×Str×Str×Str×Str×Int×(List Str)) (Str) 4 _ _).lt,fun h=>(Fs.snd rfl (Fs.snd rfl (Fs.snd rfl (Fs.snd rfl (Fs.fst rfl)))):Fs (Int×Str×Str×Str×Str×Int×(List Str)) (Str) 4 _ _).lens h⟩
instance :Fs Vm.Op (Int) 5 (fun x=>x.At) (fun x y=>Vm.Op.mk x.Kind x.Branch x.Who x.Path x.To y x.Text):=⟨(Fs.snd rfl (Fs.snd rfl (Fs.snd rfl (Fs.snd rfl (Fs.snd rfl (Fs.fst rfl))))):Fs (Int×Str×Str×Str×Str×Int×(List Str)) (Int) 5 _ _).lt,fun h=>(Fs.snd rfl (Fs.snd rfl (Fs.snd rfl (Fs.snd rfl (Fs.snd rfl (Fs.fst rfl))))):Fs (Int×Str×Str×Str×Str×Int×(List Str)) (Int) 5 _ _).lens h⟩
instance :Fs Vm.Op (List Str) 6 (fun x=>x.Text) (fun x y=>Vm.Op.mk x.Kind x.Branch x.Who x.Path x.To x.At y):=⟨(Fs.snd rfl (Fs.snd rfl (Fs.snd rfl (Fs.snd rfl (Fs.snd rfl (Fs.snd rfl (Fs.self rfl)))))):Fs (Int×Str×Str×Str×Str×Int×(List Str)) (List Str) 6 _ _).lt,fun h=>(Fs.snd rfl (Fs.snd rfl (Fs.snd rfl (Fs.snd rfl (Fs.snd rfl (Fs.snd rfl (Fs.self rfl)))))):Fs (Int×Str×Str×Str×Str×Int×(List Str)) (List Str) 6 _ _).lens h⟩
instance :Fl Vm.Op (List Str) 6 (fun x=>x.Text) (fun x y=>Vm.Op.mk x.Kind x.Branch x.Who x.Path x.To x.At y):=⟨fun h=>(Fl.snd rfl (Fl.snd rfl (Fl.snd rfl (Fl.snd rfl (Fl.snd rfl (Fl.snd rfl (Fl.self rfl)))))):Fl (Int×Str×Str×Str×Str×Int×(List Str)) (List Str) 6 _ _).lens h⟩
theorem Op.rd {W:CW}{K:List Nat}{c6:Value}(x0:Int)(x1:Str)(x2:Str)(x3:Str)(x4:Str)(x5:Int)(x6:List Str)(h6:Rd W K [c6] x6):Rd W K [vI x0,vS x1,vS x2,vS x3,vS x4,vI x5,c6] (Vm.Op.mk x0 x1 x2 x3 x4 x5 x6):=(Rd.join (rdI x0) (Rd.join (rdS x1) (Rd.join (rdS x2) (Rd.join (rdS x3) (Rd.join (rdS x4) (Rd.join (rdI x5) h6))))))
instance :Rp Clash:=Rp.iso (β:=Str×Int) 125 (fun x=>(x.Path,x.Kind)) 115
instance :Atm Clash:=⟨fun h=>Atm.own (α:=Str×Int) h⟩
instance :Pl Clash:=⟨fun h=>Pl.pl (α:=Str×Int) h⟩
instance :Zr Clash:= {
 z:=Vm.Clash.mk [] 0
 cs:=Zr.cs (Str×Int)
 own:=Zr.own (α:=Str×Int)}
theorem Clash.split {W:CW}{K:List Nat}{cs:List Value}{x:Vm.Clash}(h:Rd W K cs x):cs=[vS x.Path,vI x.Kind]:=by
 replace h:Rd W K cs (x.Path,x.Kind):=h
 obtain⟨c0,d0,rfl,h0,k0⟩:=h.split
 obtain⟨u0,rfl,_⟩:=Rd.one h0 rfl
 obtain⟨u1,rfl,_⟩:=Rd.one k0 rfl
 obtain rfl:=Rd.str h0
 obtain rfl:=Rd.int k0
 exact rfl
theorem Clash.at0 {W:CW}{K:List Nat}{p:Addr}{x:Vm.Clash}(h:At W K p x):At W K (p.add 0) x.Path:=by
 replace h:At W K p (x.Path,x.Kind):=h
 replace h:=h.fst
 exact(zhd p).symm▸h
theorem Clash.at1 {W:CW}{K:List Nat}{p:Addr}{x:Vm.Clash}(h:At W K p x):At W K (p.add 1) x.Kind:=by
 replace h:At W K p (x.Path,x.Kind):=h
 replace h:=h.snd
 exact h
instance :Fs Vm.Clash (Str) 0 (fun x=>x.Path) (fun x y=>Vm.Clash.mk y x.Kind):=⟨(Fs.fst rfl:Fs (Str×Int) (Str) 0 _ _).lt,fun h=>(Fs.fst rfl:Fs (Str×Int) (Str) 0 _ _).lens h⟩
instance :Fs Vm.Clash (Int) 1 (fun x=>x.Kind) (fun x y=>Vm.Clash.mk x.Path y):=⟨(Fs.snd rfl (Fs.self rfl):Fs (Str×Int) (Int) 1 _ _).lt,fun h=>(Fs.snd rfl (Fs.self rfl):Fs (Str×Int) (Int) 1 _ _).lens h⟩
theorem Clash.rd {W:CW}{K:List Nat}(x0:Str)(x1:Int):Rd W K [vS x0,vI x1] (Vm.Clash.mk x0 x1):=(Rd.join (rdS x0) (rdI x1))
instance :Rp Part:=Rp.iso (β:=Bool×(List Str)×(List Str)×(List Str)×(List Str)) 145 (fun x=>(x.Clash,x.Lines,x.Old,x.One,x.Two)) 142
instance :Zr Part:= {
 z:=Vm.Part.mk false [] [] [] []
 cs:=Zr.cs (Bool×(List Str)×(List Str)×(List Str)×(List Str))
 own:=Zr.own (α:=Bool×(List Str)×(List Str)×(List Str)×(List Str))}
theorem Part.split {W:CW}{K:List Nat}{cs:List Value}{x:Vm.Part}(h:Rd W K cs x): ∃ c1 c2 c3 c4:Value,cs=[vB x.Clash,c1,c2,c3,c4]/\Rd W K [c1] x.Lines/\Rd W K [c2] x.Old/\Rd W K [c3] x.One/\Rd W K [c4] x.Two:=by
 replace h:Rd W K cs (x.Clash,x.Lines,x.Old,x.One,x.Two):=h
 obtain⟨c0,d0,rfl,h0,k0⟩:=h.split
 obtain⟨c1,d1,rfl,h1,k1⟩:=Rd.split k0
 obtain⟨c2,d2,rfl,h2,k2⟩:=Rd.split k1
 obtain⟨c3,d3,rfl,h3,k3⟩:=Rd.split k2
 obtain⟨u0,rfl,_⟩:=Rd.one h0 rfl
 obtain⟨u1,rfl,_⟩:=Rd.one h1 rfl
 obtain⟨u2,rfl,_⟩:=Rd.one h2 rfl
 obtain⟨u3,rfl,_⟩:=Rd.one h3 rfl
 obtain⟨u4,rfl,_⟩:=Rd.one k3 rfl
 obtain rfl:=Rd.bool h0
 exact⟨u1,u2,u3,u4,rfl,h1,h2,h3,k3⟩
theorem Part.at0 {W:CW}{K:List Nat}{p:Addr}{x:Vm.Part}(h:At W K p x):At W K (p.add 0) x.Clash:=by
 replace h:At W K p (x.Clash,x.Lines,x.Old,x.One,x.Two):=h
 replace h:=h.fst
 exact(zhd p).symm▸h
theorem Part.at1 {W:CW}{K:List Nat}{p:Addr}{x:Vm.Part}(h:At W K p x):At W K (p.add 1) x.Lines:=by
 replace h:At W K p (x.Clash,x.Lines,x.Old,x.One,x.Two):=h
 replace h:=h.snd
 replace h:=h.fst
 exact h
theorem Part.at2 {W:CW}{K:List Nat}{p:Addr}{x:Vm.Part}(h:At W K p x):At W K (p.add 2) x.Old:=by
 replace h:At W K p (x.Clash,x.Lines,x.Old,x.One,x.Two):=h
 replace h:=h.snd
 replace h:=h.snd
 replace h:=h.fst
 rw[zfE]at h
 exact h
theorem Part.own {W:CW}{K J1 J2 J3 J4:List Nat}{c1 c2 c3 c4:Value}(x0:Bool)(x1:List Str)(x2:List Str)(x3:List Str)(x4:List Str)(h1:OwS W J1 K [c1] x1)(h2:OwS W J2 K [c2] x2)(h3:OwS W J3 K [c3] x3)(h4:OwS W J4 K [c4] x4)(d0:zem ([]) (J1++(J2++(J3++(J4))))=true:=by rfl)(d1:zem (J1) (J2++(J3++(J4)))=true:=by rfl)(d2:zem (J2) (J3++(J4))=true:=by rfl)(d3:zem (J3) (J4)=true:=by rfl):OwS W ([]++(J1++(J2++(J3++(J4))))) K [vB x0,c1,c2,c3,c4] (Vm.Part.mk x0 x1 x2 x3 x4):=(OwS.pair (OwS.atm (rdB x0)) (OwS.pair h1 (OwS.pair h2 (OwS.pair h3 h4 d3) d2) d1) d0)
instance :Fs Vm.Part (Bool) 0 (fun x=>x.Clash) (fun x y=>Vm.Part.mk y x.Lines x.Old x.One x.Two):=⟨(Fs.fst rfl:Fs (Bool×(List Str)×(List Str)×(List Str)×(List Str)) (Bool) 0 _ _).lt,fun h=>(Fs.fst rfl:Fs (Bool×(List Str)×(List Str)×(List Str)×(List Str)) (Bool) 0 _ _).lens h⟩
instance :Fs Vm.Part (List Str) 1 (fun x=>x.Lines) (fun x y=>Vm.Part.mk x.Clash y x.Old x.One x.Two):=⟨(Fs.snd rfl (Fs.fst rfl):Fs (Bool×(List Str)×(List Str)×(List Str)×(List Str)) (List Str) 1 _ _).lt,fun h=>(Fs.snd rfl (Fs.fst rfl):Fs (Bool×(List Str)×(List Str)×(List Str)×(List Str)) (List Str) 1 _ _).lens h⟩
instance :Fs Vm.Part (List Str) 2 (fun x=>x.Old) (fun x y=>Vm.Part.mk x.Clash x.Lines y x.One x.Two):=⟨(Fs.snd rfl (Fs.snd rfl (Fs.fst rfl)):Fs (Bool×(List Str)×(List Str)×(List Str)×(List Str)) (List Str) 2 _ _).lt,fun h=>(Fs.snd rfl (Fs.snd rfl (Fs.fst rfl)):Fs (Bool×(List Str)×(List Str)×(List Str)×(List Str)) (List Str) 2 _ _).lens h⟩
instance :Fs Vm.Part (List Str) 3 (fun x=>x.One) (fun x y=>Vm.Part.mk x.Clash x.Lines x.Old y x.Two):=⟨(Fs.snd rfl (Fs.snd rfl (Fs.snd rfl (Fs.fst rfl))):Fs (Bool×(List Str)×(List Str)×(List Str)×(List Str)) (List Str) 3 _ _).lt,fun h=>(Fs.snd rfl (Fs.snd rfl (Fs.snd rfl (Fs.fst rfl))):Fs (Bool×(List Str)×(List Str)×(List Str)×(List Str)) (List Str) 3 _ _).lens h⟩
instance :Fs Vm.Part (List Str) 4 (fun x=>x.Two) (fun x y=>Vm.Part.mk x.Clash x.Lines x.Old x.One y):=⟨(Fs.snd rfl (Fs.snd rfl (Fs.snd rfl (Fs.snd rfl (Fs.self rfl)))):Fs (Bool×(List Str)×(List Str)×(List Str)×(List Str)) (List Str) 4 _ _).lt,fun h=>(Fs.snd rfl (Fs.snd rfl (Fs.snd rfl (Fs.snd rfl (Fs.self rfl)))):Fs (Bool×(List Str)×(List Str)×(List Str)×(List Str)) (List Str) 4 _ _).lens h⟩
instance :Fl Vm.Part (List Str) 1 (fun x=>x.Lines) (fun x y=>Vm.Part.mk x.Clash y x.Old x.One x.Two):=⟨fun h=>(Fl.snd rfl (Fl.fst rfl):Fl (Bool×(List Str)×(List Str)×(List Str)×(List Str)) (List Str) 1 _ _).lens h⟩
instance :Fl Vm.Part (List Str) 2 (fun x=>x.Old) (fun x y=>Vm.Part.mk x.Clash x.Lines y x.One x.Two):=⟨fun h=>(Fl.snd rfl (Fl.snd rfl (Fl.fst rfl)):Fl (Bool×(List Str)×(List Str)×(List Str)×(List Str)) (List Str) 2 _ _).lens h⟩
instance :Fl Vm.Part (List Str) 3 (fun x=>x.One) (fun x y=>Vm.Part.mk x.Clash x.Lines x.Old y x.Two):=⟨fun h=>(Fl.snd rfl (Fl.snd rfl (Fl.snd rfl (Fl.fst rfl))):Fl (Bool×(List Str)×(List Str)×(List Str)×(List Str)) (List Str) 3 _ _).lens h⟩
instance :Fl Vm.Part (List Str) 4 (fun x=>x.Two) (fun x y=>Vm.Part.mk x.Clash x.Lines x.Old x.One y):=⟨fun h=>(Fl.snd rfl (Fl.snd rfl (Fl.snd rfl (Fl.snd rfl (Fl.self rfl)))):Fl (Bool×(List Str)×(List Str)×(List Str)×(List Str)) (List Str) 4 _ _).lens h⟩
theorem Part.rd {W:CW}{K:List Nat}{c1 c2 c3 c4:Value}(x0:Bool)(x1:List Str)(x2:List Str)(x3:List Str)(x4:List Str)(h1:Rd W K [c1] x1)(h2:Rd W K [c2] x2)(h3:Rd W K [c3] x3)(h4:Rd W K [c4] x4):Rd W K [vB x0,c1,c2,c3,c4] (Vm.Part.mk x0 x1 x2 x3 x4):=(Rd.join (rdB x0) (Rd.join h1 (Rd.join h2 (Rd.join h3 h4))))
instance :Und Tryz.prog 2 (TypeDesc.int IntKind.i64):=⟨Tryz.underlying2⟩
instance :Inf Tryz.prog 2 1 8 (Value.int IntKind.i64 0):=⟨by kernel_rfl⟩
instance :Und Tryz.prog 3 (TypeDesc.int IntKind.i64):=⟨Tryz.underlying3⟩
instance :Inf Tryz.prog 3 1 8 (Value.int IntKind.i64 0):=⟨by kernel_rfl⟩
instance :Und Tryz.prog 4 TypeDesc.bool:=⟨Tryz.underlying4⟩
instance :Inf Tryz.prog 4 1 1 (Value.bool false):=⟨by kernel_rfl⟩
instance :Und Tryz.prog 5 (TypeDesc.int IntKind.u8):=⟨Tryz.underlying5⟩
instance :Inf Tryz.prog 5 1 1 (Value.int IntKind.u8 0):=⟨by kernel_rfl⟩
instance :Und Tryz.prog 9 TypeDesc.string:=⟨Tryz.underlying9⟩
instance :Inf Tryz.prog 9 1 16 (Value.string (ByteArray.mk #[])):=⟨by kernel_rfl⟩
instance :Und Tryz.prog 12 (TypeDesc.int IntKind.u64):=⟨Tryz.underlying12⟩
instance :Inf Tryz.prog 12 1 8 (Value.int IntKind.u64 0):=⟨by kernel_rfl⟩
instance : Und Tryz.prog 13 (TypeDesc.struct #[(Field.mk "msg" 9 0 false "" "runtime" 0), (Field.mk "addr" 12 1 false "" "runtime" 16)]) := ⟨Tryz.underlying13⟩
instance :Inf Tryz.prog 13 2 24 (Value.agg #[(Value.string (ByteArray.mk #[])),(Value.int IntKind.u64 0)]):=⟨by kernel_rfl⟩
instance :Flat Tryz.prog 13 2:=⟨_,Tryz.underlying13,by kernel_rfl,by kernel_rfl⟩
instance :Fld Tryz.prog 13 0 0:=Flat.fld (n:=2) (by decide)
instance :Fld Tryz.prog 13 1 1:=Flat.fld (n:=2) (by decide)
instance :Und Tryz.prog 21 (TypeDesc.int IntKind.i32):=⟨Tryz.underlying21⟩
instance :Inf Tryz.prog 21 1 4 (Value.int IntKind.i32 0):=⟨by kernel_rfl⟩
instance :Und Tryz.prog 22 (TypeDesc.slice 5):=⟨Tryz.underlying22⟩
instance :Inf Tryz.prog 22 1 24 (Value.slice none 0 0):=⟨by kernel_rfl⟩
instance :Und Tryz.prog 23 (TypeDesc.slice 40):=⟨Tryz.underlying23⟩
instance :Inf Tryz.prog 23 1 24 (Value.slice none 0 0):=⟨by kernel_rfl⟩
instance :Und Tryz.prog 24 (TypeDesc.slice 60):=⟨Tryz.underlying24⟩
instance :Inf Tryz.prog 24 1 24 (Value.slice none 0 0):=⟨by kernel_rfl⟩
instance : Und Tryz.prog 25 (TypeDesc.struct #[(Field.mk "Commits" 23 0 false "" "" 0), (Field.mk "Heads" 24 1 false "" "" 24)]) := ⟨Tryz.underlying25⟩
instance :Inf Tryz.prog 25 2 48 (Value.agg #[(Value.slice none 0 0),(Value.slice none 0 0)]):=⟨by kernel_rfl⟩
instance :Flat Tryz.prog 25 2:=⟨_,Tryz.underlying25,by kernel_rfl,by kernel_rfl⟩
instance :Fld Tryz.prog 25 0 0:=Flat.fld (n:=2) (by decide)
instance :Fld Tryz.prog 25 1 1:=Flat.fld (n:=2) (by decide)
instance : Und Tryz.prog 26 (TypeDesc.struct #[(Field.mk "Commits" 23 0 false "" "" 0), (Field.mk "Heads" 24 1 false "" "" 24)]) := ⟨Tryz.underlying26⟩
instance :Inf Tryz.prog 26 2 48 (Value.agg #[(Value.slice none 0 0),(Value.slice none 0 0)]):=⟨by kernel_rfl⟩
instance :Flat Tryz.prog 26 2:=⟨_,Tryz.underlying26,by kernel_rfl,by kernel_rfl⟩
instance :Fld Tryz.prog 26 0 0:=Flat.fld (n:=2) (by decide)
instance :Fld Tryz.prog 26 1 1:=Flat.fld (n:=2) (by decide)
instance :Und Tryz.prog 28 (TypeDesc.slice 33):=⟨Tryz.underlying28⟩
instance :Inf Tryz.prog 28 1 24 (Value.slice none 0 0):=⟨by kernel_rfl⟩
instance :Und Tryz.prog 31 (TypeDesc.slice 54):=⟨Tryz.underlying31⟩
instance :Inf Tryz.prog 31 1 24 (Value.slice none 0 0):=⟨by kernel_rfl⟩
instance :Und Tryz.prog 33 (TypeDesc.slice 9):=⟨Tryz.underlying33⟩
instance :Inf Tryz.prog 33 1 24 (Value.slice none 0 0):=⟨by kernel_rfl⟩
instance :Und Tryz.prog 37 (TypeDesc.slice 3):=⟨Tryz.underlying37⟩
instance :Inf Tryz.prog 37 1 24 (Value.slice none 0 0):=⟨by kernel_rfl⟩
instance :Und Tryz.prog 38 (TypeDesc.slice 42):=⟨Tryz.underlying38⟩
instance :Inf Tryz.prog 38 1 24 (Value.slice none 0 0):=⟨by kernel_rfl⟩
instance : Und Tryz.prog 39 (TypeDesc.struct #[(Field.mk "Parents" 37 0 false "" "" 0), (Field.mk "Who" 9 1 false "" "" 24), (Field.mk "Tree" 38 2 false "" "" 40)]) := ⟨Tryz.underlying39⟩
instance :Inf Tryz.prog 39 3 64 (Value.agg #[(Value.slice none 0 0),(Value.string (ByteArray.mk #[])),(Value.slice none 0 0)]):=⟨by kernel_rfl⟩
instance :Flat Tryz.prog 39 3:=⟨_,Tryz.underlying39,by kernel_rfl,by kernel_rfl⟩
instance :Fld Tryz.prog 39 0 0:=Flat.fld (n:=3) (by decide)
instance :Fld Tryz.prog 39 1 1:=Flat.fld (n:=3) (by decide)
instance :Fld Tryz.prog 39 2 2:=Flat.fld (n:=3) (by decide)
instance : Und Tryz.prog 40 (TypeDesc.struct #[(Field.mk "Parents" 37 0 false "" "" 0), (Field.mk "Who" 9 1 false "" "" 24), (Field.mk "Tree" 38 2 false "" "" 40)]) := ⟨Tryz.underlying40⟩
instance :Inf Tryz.prog 40 3 64 (Value.agg #[(Value.slice none 0 0),(Value.string (ByteArray.mk #[])),(Value.slice none 0 0)]):=⟨by kernel_rfl⟩
instance :Flat Tryz.prog 40 3:=⟨_,Tryz.underlying40,by kernel_rfl,by kernel_rfl⟩
instance :Fld Tryz.prog 40 0 0:=Flat.fld (n:=3) (by decide)
instance :Fld Tryz.prog 40 1 1:=Flat.fld (n:=3) (by decide)
instance :Fld Tryz.prog 40 2 2:=Flat.fld (n:=3) (by decide)
instance : Und Tryz.prog 41 (TypeDesc.struct #[(Field.mk "Path" 9 0 false "" "" 0), (Field.mk "Text" 33 1 false "" "" 16)]) := ⟨Tryz.underlying41⟩
instance :Inf Tryz.prog 41 2 40 (Value.agg #[(Value.string (ByteArray.mk #[])),(Value.slice none 0 0)]):=⟨by kernel_rfl⟩
instance :Flat Tryz.prog 41 2:=⟨_,Tryz.underlying41,by kernel_rfl,by kernel_rfl⟩
instance :Fld Tryz.prog 41 0 0:=Flat.fld (n:=2) (by decide)
instance :Fld Tryz.prog 41 1 1:=Flat.fld (n:=2) (by decide)
instance : Und Tryz.prog 42 (TypeDesc.struct #[(Field.mk "Path" 9 0 false "" "" 0), (Field.mk "Text" 33 1 false "" "" 16)]) := ⟨Tryz.underlying42⟩
instance :Inf Tryz.prog 42 2 40 (Value.agg #[(Value.string (ByteArray.mk #[])),(Value.slice none 0 0)]):=⟨by kernel_rfl⟩
instance :Flat Tryz.prog 42 2:=⟨_,Tryz.underlying42,by kernel_rfl,by kernel_rfl⟩
instance :Fld Tryz.prog 42 0 0:=Flat.fld (n:=2) (by decide)
instance :Fld Tryz.prog 42 1 1:=Flat.fld (n:=2) (by decide)
instance :Und Tryz.prog 45 (TypeDesc.pointer 62):=⟨Tryz.underlying45⟩
instance :Inf Tryz.prog 45 1 8 (Value.pointer none):=⟨by kernel_rfl⟩
instance :Und Tryz.prog 51 (TypeDesc.slice 69):=⟨Tryz.underlying51⟩
instance :Inf Tryz.prog 51 1 24 (Value.slice none 0 0):=⟨by kernel_rfl⟩
instance : Und Tryz.prog 53 (TypeDesc.struct #[(Field.mk "Base" 3 0 false "" "" 0), (Field.mk "Delta" 51 1 false "" "" 8)]) := ⟨Tryz.underlying53⟩
instance :Inf Tryz.prog 53 2 32 (Value.agg #[(Value.int IntKind.i64 0),(Value.slice none 0 0)]):=⟨by kernel_rfl⟩
instance :Flat Tryz.prog 53 2:=⟨_,Tryz.underlying53,by kernel_rfl,by kernel_rfl⟩
instance :Fld Tryz.prog 53 0 0:=Flat.fld (n:=2) (by decide)
instance :Fld Tryz.prog 53 1 1:=Flat.fld (n:=2) (by decide)
instance : Und Tryz.prog 54 (TypeDesc.struct #[(Field.mk "Base" 3 0 false "" "" 0), (Field.mk "Delta" 51 1 false "" "" 8)]) := ⟨Tryz.underlying54⟩
instance :Inf Tryz.prog 54 2 32 (Value.agg #[(Value.int IntKind.i64 0),(Value.slice none 0 0)]):=⟨by kernel_rfl⟩
instance :Flat Tryz.prog 54 2:=⟨_,Tryz.underlying54,by kernel_rfl,by kernel_rfl⟩
instance :Fld Tryz.prog 54 0 0:=Flat.fld (n:=2) (by decide)
instance :Fld Tryz.prog 54 1 1:=Flat.fld (n:=2) (by decide)
instance : Und Tryz.prog 59 (TypeDesc.struct #[(Field.mk "Name" 9 0 false "" "" 0), (Field.mk "At" 3 1 false "" "" 16)]) := ⟨Tryz.underlying59⟩
instance :Inf Tryz.prog 59 2 24 (Value.agg #[(Value.string (ByteArray.mk #[])),(Value.int IntKind.i64 0)]):=⟨by kernel_rfl⟩
instance :Flat Tryz.prog 59 2:=⟨_,Tryz.underlying59,by kernel_rfl,by kernel_rfl⟩
instance :Fld Tryz.prog 59 0 0:=Flat.fld (n:=2) (by decide)
instance :Fld Tryz.prog 59 1 1:=Flat.fld (n:=2) (by decide)
instance : Und Tryz.prog 60 (TypeDesc.struct #[(Field.mk "Name" 9 0 false "" "" 0), (Field.mk "At" 3 1 false "" "" 16)]) := ⟨Tryz.underlying60⟩
instance :Inf Tryz.prog 60 2 24 (Value.agg #[(Value.string (ByteArray.mk #[])),(Value.int IntKind.i64 0)]):=⟨by kernel_rfl⟩
instance :Ssi Tryz.prog 60:=⟨by kernel_rfl,by kernel_rfl,_,_,Tryz.underlying60,by decide,by decide,rfl,rfl,Tryz.underlying9,_,Tryz.underlying3⟩
instance :Flat Tryz.prog 60 2:=⟨_,Tryz.underlying60,by kernel_rfl,by kernel_rfl⟩
instance :Fld Tryz.prog 60 0 0:=Flat.fld (n:=2) (by decide)
instance :Fld Tryz.prog 60 1 1:=Flat.fld (n:=2) (by decide)
instance : Und Tryz.prog 61 (TypeDesc.struct #[(Field.mk "b" 22 0 false "" "loop.example/versioncontrol/spec" 0), (Field.mk "p" 3 1 false "" "loop.example/versioncontrol/spec" 24)]) := ⟨Tryz.underlying61⟩
instance :Inf Tryz.prog 61 2 32 (Value.agg #[(Value.slice none 0 0),(Value.int IntKind.i64 0)]):=⟨by kernel_rfl⟩
instance :Flat Tryz.prog 61 2:=⟨_,Tryz.underlying61,by kernel_rfl,by kernel_rfl⟩
instance :Fld Tryz.prog 61 0 0:=Flat.fld (n:=2) (by decide)
instance :Fld Tryz.prog 61 1 1:=Flat.fld (n:=2) (by decide)
instance : Und Tryz.prog 62 (TypeDesc.struct #[(Field.mk "b" 22 0 false "" "loop.example/versioncontrol/spec" 0), (Field.mk "p" 3 1 false "" "loop.example/versioncontrol/spec" 24)]) := ⟨Tryz.underlying62⟩
instance :Inf Tryz.prog 62 2 32 (Value.agg #[(Value.slice none 0 0),(Value.int IntKind.i64 0)]):=⟨by kernel_rfl⟩
instance :Flat Tryz.prog 62 2:=⟨_,Tryz.underlying62,by kernel_rfl,by kernel_rfl⟩
instance :Fld Tryz.prog 62 0 0:=Flat.fld (n:=2) (by decide)
instance :Fld Tryz.prog 62 1 1:=Flat.fld (n:=2) (by decide)
instance : Und Tryz.prog 68 (TypeDesc.struct #[(Field.mk "From" 3 0 false "" "" 0), (Field.mk "Many" 3 1 false "" "" 8), (Field.mk "Lines" 33 2 false "" "" 16)]) := ⟨Tryz.underlying68⟩
instance :Inf Tryz.prog 68 3 40 (Value.agg #[(Value.int IntKind.i64 0),(Value.int IntKind.i64 0),(Value.slice none 0 0)]):=⟨by kernel_rfl⟩
instance :Flat Tryz.prog 68 3:=⟨_,Tryz.underlying68,by kernel_rfl,by kernel_rfl⟩
instance :Fld Tryz.prog 68 0 0:=Flat.fld (n:=3) (by decide)
instance :Fld Tryz.prog 68 1 1:=Flat.fld (n:=3) (by decide)
instance :Fld Tryz.prog 68 2 2:=Flat.fld (n:=3) (by decide)
instance : Und Tryz.prog 69 (TypeDesc.struct #[(Field.mk "From" 3 0 false "" "" 0), (Field.mk "Many" 3 1 false "" "" 8), (Field.mk "Lines" 33 2 false "" "" 16)]) := ⟨Tryz.underlying69⟩
instance :Inf Tryz.prog 69 3 40 (Value.agg #[(Value.int IntKind.i64 0),(Value.int IntKind.i64 0),(Value.slice none 0 0)]):=⟨by kernel_rfl⟩
instance :Flat Tryz.prog 69 3:=⟨_,Tryz.underlying69,by kernel_rfl,by kernel_rfl⟩
instance :Fld Tryz.prog 69 0 0:=Flat.fld (n:=3) (by decide)
instance :Fld Tryz.prog 69 1 1:=Flat.fld (n:=3) (by decide)
instance :Fld Tryz.prog 69 2 2:=Flat.fld (n:=3) (by decide)
instance :Und Tryz.prog 73 (TypeDesc.slice 82):=⟨Tryz.underlying73⟩
instance :Inf Tryz.prog 73 1 24 (Value.slice none 0 0):=⟨by kernel_rfl⟩
instance : Und Tryz.prog 81 (TypeDesc.struct #[(Field.mk "Kind" 3 0 false "" "" 0), (Field.mk "Branch" 9 1 false "" "" 8), (Field.mk "Who" 9 2 false "" "" 24), (Field.mk "Path" 9 3 false "" "" 40), (Field.mk "To" 9 4 false "" "" 56), (Field.mk "At" 3 5 false "" "" 72), (Field.mk "Text" 33 6 false "" "" 80)]) := ⟨Tryz.underlying81⟩
instance :Inf Tryz.prog 81 7 104 (Value.agg #[(Value.int IntKind.i64 0),(Value.string (ByteArray.mk #[])),(Value.string (ByteArray.mk #[])),(Value.string (ByteArray.mk #[])),(Value.string (ByteArray.mk #[])),(Value.int IntKind.i64 0),(Value.slice none 0 0)]):=⟨by kernel_rfl⟩
instance :Flat Tryz.prog 81 7:=⟨_,Tryz.underlying81,by kernel_rfl,by kernel_rfl⟩
instance :Fld Tryz.prog 81 0 0:=Flat.fld (n:=7) (by decide)
instance :Fld Tryz.prog 81 1 1:=Flat.fld (n:=7) (by decide)
instance :Fld Tryz.prog 81 2 2:=Flat.fld (n:=7) (by decide)
instance :Fld Tryz.prog 81 3 3:=Flat.fld (n:=7) (by decide)
instance :Fld Tryz.prog 81 4 4:=Flat.fld (n:=7) (by decide)
instance :Fld Tryz.prog 81 5 5:=Flat.fld (n:=7) (by decide)
instance :Fld Tryz.prog 81 6 6:=Flat.fld (n:=7) (by decide)
instance : Und Tryz.prog 82 (TypeDesc.struct #[(Field.mk "Kind" 3 0 false "" "" 0), (Field.mk "Branch" 9 1 false "" "" 8), (Field.mk "Who" 9 2 false "" "" 24), (Field.mk "Path" 9 3 false "" "" 40), (Field.mk "To" 9 4 false "" "" 56), (Field.mk "At" 3 5 false "" "" 72), (Field.mk "Text" 33 6 false "" "" 80)]) := ⟨Tryz.underlying82⟩
instance :Inf Tryz.prog 82 7 104 (Value.agg #[(Value.int IntKind.i64 0),(Value.string (ByteArray.mk #[])),(Value.string (ByteArray.mk #[])),(Value.string (ByteArray.mk #[])),(Value.string (ByteArray.mk #[])),(Value.int IntKind.i64 0),(Value.slice none 0 0)]):=⟨by kernel_rfl⟩
instance :Flat Tryz.prog 82 7:=⟨_,Tryz.underlying82,by kernel_rfl,by kernel_rfl⟩
instance :Fld Tryz.prog 82 0 0:=Flat.fld (n:=7) (by decide)
instance :Fld Tryz.prog 82 1 1:=Flat.fld (n:=7) (by decide)
instance :Fld Tryz.prog 82 2 2:=Flat.fld (n:=7) (by decide)
instance :Fld Tryz.prog 82 3 3:=Flat.fld (n:=7) (by decide)
instance :Fld Tryz.prog 82 4 4:=Flat.fld (n:=7) (by decide)
instance :Fld Tryz.prog 82 5 5:=Flat.fld (n:=7) (by decide)
instance :Fld Tryz.prog 82 6 6:=Flat.fld (n:=7) (by decide)
instance :Und Tryz.prog 115 (TypeDesc.slice 125):=⟨Tryz.underlying115⟩
instance :Inf Tryz.prog 115 1 24 (Value.slice none 0 0):=⟨by kernel_rfl⟩
instance :Und Tryz.prog 123 (TypeDesc.slice 4):=⟨Tryz.underlying123⟩
instance :Inf Tryz.prog 123 1 24 (Value.slice none 0 0):=⟨by kernel_rfl⟩
instance : Und Tryz.prog 124 (TypeDesc.struct #[(Field.mk "Path" 9 0 false "" "" 0), (Field.mk "Kind" 3 1 false "" "" 16)]) := ⟨Tryz.underlying124⟩
instance :Inf Tryz.prog 124 2 24 (Value.agg #[(Value.string (ByteArray.mk #[])),(Value.int IntKind.i64 0)]):=⟨by kernel_rfl⟩
instance :Flat Tryz.prog 124 2:=⟨_,Tryz.underlying124,by kernel_rfl,by kernel_rfl⟩
instance :Fld Tryz.prog 124 0 0:=Flat.fld (n:=2) (by decide)
instance :Fld Tryz.prog 124 1 1:=Flat.fld (n:=2) (by decide)
instance : Und Tryz.prog 125 (TypeDesc.struct #[(Field.mk "Path" 9 0 false "" "" 0), (Field.mk "Kind" 3 1 false "" "" 16)]) := ⟨Tryz.underlying125⟩
instance :Inf Tryz.prog 125 2 24 (Value.agg #[(Value.string (ByteArray.mk #[])),(Value.int IntKind.i64 0)]):=⟨by kernel_rfl⟩
instance :Ssi Tryz.prog 125:=⟨by kernel_rfl,by kernel_rfl,_,_,Tryz.underlying125,by decide,by decide,rfl,rfl,Tryz.underlying9,_,Tryz.underlying3⟩
instance :Flat Tryz.prog 125 2:=⟨_,Tryz.underlying125,by kernel_rfl,by kernel_rfl⟩
instance :Fld Tryz.prog 125 0 0:=Flat.fld (n:=2) (by decide)
instance :Fld Tryz.prog 125 1 1:=Flat.fld (n:=2) (by decide)
instance :Und Tryz.prog 127 (TypeDesc.int IntKind.u64):=⟨Tryz.underlying127⟩
instance :Inf Tryz.prog 127 1 8 (Value.int IntKind.u64 0):=⟨by kernel_rfl⟩
instance : Und Tryz.prog 132 (TypeDesc.struct #[(Field.mk "lo" 5 0 false "" "unicode/utf8" 0), (Field.mk "hi" 5 1 false "" "unicode/utf8" 1)]) := ⟨Tryz.underlying132⟩
instance :Inf Tryz.prog 132 2 2 (Value.agg #[(Value.int IntKind.u8 0),(Value.int IntKind.u8 0)]):=⟨by kernel_rfl⟩
instance :Flat Tryz.prog 132 2:=⟨_,Tryz.underlying132,by kernel_rfl,by kernel_rfl⟩
instance :Fld Tryz.prog 132 0 0:=Flat.fld (n:=2) (by decide)
instance :Fld Tryz.prog 132 1 1:=Flat.fld (n:=2) (by decide)
instance : Und Tryz.prog 133 (TypeDesc.struct #[(Field.mk "lo" 5 0 false "" "unicode/utf8" 0), (Field.mk "hi" 5 1 false "" "unicode/utf8" 1)]) := ⟨Tryz.underlying133⟩
instance :Inf Tryz.prog 133 2 2 (Value.agg #[(Value.int IntKind.u8 0),(Value.int IntKind.u8 0)]):=⟨by kernel_rfl⟩
instance :Flat Tryz.prog 133 2:=⟨_,Tryz.underlying133,by kernel_rfl,by kernel_rfl⟩
instance :Fld Tryz.prog 133 0 0:=Flat.fld (n:=2) (by decide)
instance :Fld Tryz.prog 133 1 1:=Flat.fld (n:=2) (by decide)
instance :Und Tryz.prog 135 (TypeDesc.int IntKind.u32):=⟨Tryz.underlying135⟩
instance :Inf Tryz.prog 135 1 4 (Value.int IntKind.u32 0):=⟨by kernel_rfl⟩
instance :Und Tryz.prog 142 (TypeDesc.slice 145):=⟨Tryz.underlying142⟩
instance :Inf Tryz.prog 142 1 24 (Value.slice none 0 0):=⟨by kernel_rfl⟩
instance : Und Tryz.prog 144 (TypeDesc.struct #[(Field.mk "Clash" 4 0 false "" "" 0), (Field.mk "Lines" 33 1 false "" "" 8), (Field.mk "Old" 33 2 false "" "" 32), (Field.mk "One" 33 3 false "" "" 56), (Field.mk "Two" 33 4 false "" "" 80)]) := ⟨Tryz.underlying144⟩
instance :Inf Tryz.prog 144 5 104 (Value.agg #[(Value.bool false),(Value.slice none 0 0),(Value.slice none 0 0),(Value.slice none 0 0),(Value.slice none 0 0)]):=⟨by kernel_rfl⟩
instance :Flat Tryz.prog 144 5:=⟨_,Tryz.underlying144,by kernel_rfl,by kernel_rfl⟩
instance :Fld Tryz.prog 144 0 0:=Flat.fld (n:=5) (by decide)
instance :Fld Tryz.prog 144 1 1:=Flat.fld (n:=5) (by decide)
instance :Fld Tryz.prog 144 2 2:=Flat.fld (n:=5) (by decide)
instance :Fld Tryz.prog 144 3 3:=Flat.fld (n:=5) (by decide)
instance :Fld Tryz.prog 144 4 4:=Flat.fld (n:=5) (by decide)
instance : Und Tryz.prog 145 (TypeDesc.struct #[(Field.mk "Clash" 4 0 false "" "" 0), (Field.mk "Lines" 33 1 false "" "" 8), (Field.mk "Old" 33 2 false "" "" 32), (Field.mk "One" 33 3 false "" "" 56), (Field.mk "Two" 33 4 false "" "" 80)]) := ⟨Tryz.underlying145⟩
instance :Inf Tryz.prog 145 5 104 (Value.agg #[(Value.bool false),(Value.slice none 0 0),(Value.slice none 0 0),(Value.slice none 0 0),(Value.slice none 0 0)]):=⟨by kernel_rfl⟩
instance :Flat Tryz.prog 145 5:=⟨_,Tryz.underlying145,by kernel_rfl,by kernel_rfl⟩
instance :Fld Tryz.prog 145 0 0:=Flat.fld (n:=5) (by decide)
instance :Fld Tryz.prog 145 1 1:=Flat.fld (n:=5) (by decide)
instance :Fld Tryz.prog 145 2 2:=Flat.fld (n:=5) (by decide)
instance :Fld Tryz.prog 145 3 3:=Flat.fld (n:=5) (by decide)
instance :Fld Tryz.prog 145 4 4:=Flat.fld (n:=5) (by decide)
instance :Und Tryz.prog 149 (TypeDesc.slice 37):=⟨Tryz.underlying149⟩
instance :Inf Tryz.prog 149 1 24 (Value.slice none 0 0):=⟨by kernel_rfl⟩
instance :Und Tryz.prog 161 (TypeDesc.pointer 5):=⟨Tryz.underlying161⟩
instance :Inf Tryz.prog 161 1 8 (Value.pointer none):=⟨by kernel_rfl⟩
instance :Fun Tryz.prog 3:=⟨_,Tryz.func3,by kernel_rfl,by kernel_rfl⟩
instance :Fun Tryz.prog 4:=⟨_,Tryz.func4,by kernel_rfl,by kernel_rfl⟩
instance :Fun Tryz.prog 5:=⟨_,Tryz.func5,by kernel_rfl,by kernel_rfl⟩
instance :Fun Tryz.prog 6:=⟨_,Tryz.func6,by kernel_rfl,by kernel_rfl⟩
instance :Fun Tryz.prog 7:=⟨_,Tryz.func7,by kernel_rfl,by kernel_rfl⟩
instance :Fun Tryz.prog 8:=⟨_,Tryz.func8,by kernel_rfl,by kernel_rfl⟩
instance :Fun Tryz.prog 9:=⟨_,Tryz.func9,by kernel_rfl,by kernel_rfl⟩
instance :Fun Tryz.prog 10:=⟨_,Tryz.func10,by kernel_rfl,by kernel_rfl⟩
instance :Fun Tryz.prog 11:=⟨_,Tryz.func11,by kernel_rfl,by kernel_rfl⟩
instance :Fun Tryz.prog 12:=⟨_,Tryz.func12,by kernel_rfl,by kernel_rfl⟩
instance :Fun Tryz.prog 13:=⟨_,Tryz.func13,by kernel_rfl,by kernel_rfl⟩
instance :Fun Tryz.prog 14:=⟨_,Tryz.func14,by kernel_rfl,by kernel_rfl⟩
instance :Fun Tryz.prog 15:=⟨_,Tryz.func15,by kernel_rfl,by kernel_rfl⟩
instance :Fun Tryz.prog 16:=⟨_,Tryz.func16,by kernel_rfl,by kernel_rfl⟩
instance :Fun Tryz.prog 17:=⟨_,Tryz.func17,by kernel_rfl,by kernel_rfl⟩
instance :Fun Tryz.prog 18:=⟨_,Tryz.func18,by kernel_rfl,by kernel_rfl⟩
instance :Fun Tryz.prog 19:=⟨_,Tryz.func19,by kernel_rfl,by kernel_rfl⟩
instance :Fun Tryz.prog 20:=⟨_,Tryz.func20,by kernel_rfl,by kernel_rfl⟩
instance :Fun Tryz.prog 21:=⟨_,Tryz.func21,by kernel_rfl,by kernel_rfl⟩
instance :Fun Tryz.prog 22:=⟨_,Tryz.func22,by kernel_rfl,by kernel_rfl⟩
instance :Fun Tryz.prog 23:=⟨_,Tryz.func23,by kernel_rfl,by kernel_rfl⟩
instance :Fun Tryz.prog 24:=⟨_,Tryz.func24,by kernel_rfl,by kernel_rfl⟩
instance :Fun Tryz.prog 25:=⟨_,Tryz.func25,by kernel_rfl,by kernel_rfl⟩
instance :Fun Tryz.prog 26:=⟨_,Tryz.func26,by kernel_rfl,by kernel_rfl⟩
instance :Fun Tryz.prog 27:=⟨_,Tryz.func27,by kernel_rfl,by kernel_rfl⟩
instance :Fun Tryz.prog 28:=⟨_,Tryz.func28,by kernel_rfl,by kernel_rfl⟩
instance :Fun Tryz.prog 29:=⟨_,Tryz.func29,by kernel_rfl,by kernel_rfl⟩
instance :Fun Tryz.prog 30:=⟨_,Tryz.func30,by kernel_rfl,by kernel_rfl⟩
instance :Fun Tryz.prog 31:=⟨_,Tryz.func31,by kernel_rfl,by kernel_rfl⟩
instance :Fun Tryz.prog 32:=⟨_,Tryz.func32,by kernel_rfl,by kernel_rfl⟩
instance :Fun Tryz.prog 33:=⟨_,Tryz.func33,by kernel_rfl,by kernel_rfl⟩
instance :Fun Tryz.prog 34:=⟨_,Tryz.func34,by kernel_rfl,by kernel_rfl⟩
instance :Fun Tryz.prog 35:=⟨_,Tryz.func35,by kernel_rfl,by kernel_rfl⟩
instance :Fun Tryz.prog 36:=⟨_,Tryz.func36,by kernel_rfl,by kernel_rfl⟩
instance :Fun Tryz.prog 37:=⟨_,Tryz.func37,by kernel_rfl,by kernel_rfl⟩
instance :Fun Tryz.prog 38:=⟨_,Tryz.func38,by kernel_rfl,by kernel_rfl⟩
instance :Fun Tryz.prog 39:=⟨_,Tryz.func39,by kernel_rfl,by kernel_rfl⟩
instance :Fun Tryz.prog 40:=⟨_,Tryz.func40,by kernel_rfl,by kernel_rfl⟩
instance :Fun Tryz.prog 41:=⟨_,Tryz.func41,by kernel_rfl,by kernel_rfl⟩
instance :Fun Tryz.prog 42:=⟨_,Tryz.func42,by kernel_rfl,by kernel_rfl⟩
instance :Fun Tryz.prog 43:=⟨_,Tryz.func43,by kernel_rfl,by kernel_rfl⟩
instance :Fun Tryz.prog 44:=⟨_,Tryz.func44,by kernel_rfl,by kernel_rfl⟩
instance :Fun Tryz.prog 45:=⟨_,Tryz.func45,by kernel_rfl,by kernel_rfl⟩
instance :Fun Tryz.prog 46:=⟨_,Tryz.func46,by kernel_rfl,by kernel_rfl⟩
instance :Fun Tryz.prog 47:=⟨_,Tryz.func47,by kernel_rfl,by kernel_rfl⟩
instance :Fun Tryz.prog 48:=⟨_,Tryz.func48,by kernel_rfl,by kernel_rfl⟩
instance :Fun Tryz.prog 49:=⟨_,Tryz.func49,by kernel_rfl,by kernel_rfl⟩
instance :Fun Tryz.prog 50:=⟨_,Tryz.func50,by kernel_rfl,by kernel_rfl⟩
instance :Fun Tryz.prog 51:=⟨_,Tryz.func51,by kernel_rfl,by kernel_rfl⟩
instance :Fun Tryz.prog 52:=⟨_,Tryz.func52,by kernel_rfl,by kernel_rfl⟩
instance :Fun Tryz.prog 53:=⟨_,Tryz.func53,by kernel_rfl,by kernel_rfl⟩
instance :Fun Tryz.prog 54:=⟨_,Tryz.func54,by kernel_rfl,by kernel_rfl⟩
instance :Fun Tryz.prog 55:=⟨_,Tryz.func55,by kernel_rfl,by kernel_rfl⟩
instance :Fun Tryz.prog 56:=⟨_,Tryz.func56,by kernel_rfl,by kernel_rfl⟩
instance :Fun Tryz.prog 57:=⟨_,Tryz.func57,by kernel_rfl,by kernel_rfl⟩
instance :Fun Tryz.prog 58:=⟨_,Tryz.func58,by kernel_rfl,by kernel_rfl⟩
instance :Fun Tryz.prog 59:=⟨_,Tryz.func59,by kernel_rfl,by kernel_rfl⟩
instance :Fun Tryz.prog 60:=⟨_,Tryz.func60,by kernel_rfl,by kernel_rfl⟩
instance :Fun Tryz.prog 61:=⟨_,Tryz.func61,by kernel_rfl,by kernel_rfl⟩
instance :Fun Tryz.prog 62:=⟨_,Tryz.func62,by kernel_rfl,by kernel_rfl⟩
instance :Fun Tryz.prog 63:=⟨_,Tryz.func63,by kernel_rfl,by kernel_rfl⟩
instance :Fun Tryz.prog 64:=⟨_,Tryz.func64,by kernel_rfl,by kernel_rfl⟩
instance :Fun Tryz.prog 65:=⟨_,Tryz.func65,by kernel_rfl,by kernel_rfl⟩
instance :Fun Tryz.prog 66:=⟨_,Tryz.func66,by kernel_rfl,by kernel_rfl⟩
instance :Fun Tryz.prog 67:=⟨_,Tryz.func67,by kernel_rfl,by kernel_rfl⟩
instance :Fun Tryz.prog 68:=⟨_,Tryz.func68,by kernel_rfl,by kernel_rfl⟩
instance :Fun Tryz.prog 69:=⟨_,Tryz.func69,by kernel_rfl,by kernel_rfl⟩
instance :Fun Tryz.prog 70:=⟨_,Tryz.func70,by kernel_rfl,by kernel_rfl⟩
instance :Fun Tryz.prog 71:=⟨_,Tryz.func71,by kernel_rfl,by kernel_rfl⟩
instance :Fun Tryz.prog 74:=⟨_,Tryz.func74,by kernel_rfl,by kernel_rfl⟩
instance :Fun Tryz.prog 75:=⟨_,Tryz.func75,by kernel_rfl,by kernel_rfl⟩
instance :Fun Tryz.prog 76:=⟨_,Tryz.func76,by kernel_rfl,by kernel_rfl⟩
instance :Fun Tryz.prog 77:=⟨_,Tryz.func77,by kernel_rfl,by kernel_rfl⟩
instance :Fun Tryz.prog 78:=⟨_,Tryz.func78,by kernel_rfl,by kernel_rfl⟩
instance :Fun Tryz.prog 79:=⟨_,Tryz.func79,by kernel_rfl,by kernel_rfl⟩
instance :Fun Tryz.prog 80:=⟨_,Tryz.func80,by kernel_rfl,by kernel_rfl⟩
instance :Fun Tryz.prog 81:=⟨_,Tryz.func81,by kernel_rfl,by kernel_rfl⟩
instance :Fun Tryz.prog 85:=⟨_,Tryz.func85,by kernel_rfl,by kernel_rfl⟩
instance :Fun Tryz.prog 86:=⟨_,Tryz.func86,by kernel_rfl,by kernel_rfl⟩
instance :Fun Tryz.prog 87:=⟨_,Tryz.func87,by kernel_rfl,by kernel_rfl⟩
instance :Fun Tryz.prog 88:=⟨_,Tryz.func88,by kernel_rfl,by kernel_rfl⟩
instance :Fun Tryz.prog 89:=⟨_,Tryz.func89,by kernel_rfl,by kernel_rfl⟩
instance :Fun Tryz.prog 94:=⟨_,Tryz.func94,by kernel_rfl,by kernel_rfl⟩
instance :Fun Tryz.prog 95:=⟨_,Tryz.func95,by kernel_rfl,by kernel_rfl⟩
instance :Fun Tryz.prog 101:=⟨_,Tryz.func101,by kernel_rfl,by kernel_rfl⟩
instance :Fun Tryz.prog 102:=⟨_,Tryz.func102,by kernel_rfl,by kernel_rfl⟩
instance :Fun Tryz.prog 105:=⟨_,Tryz.func105,by kernel_rfl,by kernel_rfl⟩
instance :Fun Tryz.prog 106:=⟨_,Tryz.func106,by kernel_rfl,by kernel_rfl⟩
instance :Fun Tryz.prog 107:=⟨_,Tryz.func107,by kernel_rfl,by kernel_rfl⟩
instance :Fun Tryz.prog 108:=⟨_,Tryz.func108,by kernel_rfl,by kernel_rfl⟩
instance :Fun Tryz.prog 109:=⟨_,Tryz.func109,by kernel_rfl,by kernel_rfl⟩
instance :Fun Tryz.prog 110:=⟨_,Tryz.func110,by kernel_rfl,by kernel_rfl⟩
instance :Fun Tryz.prog 111:=⟨_,Tryz.func111,by kernel_rfl,by kernel_rfl⟩
instance :Fun Tryz.prog 112:=⟨_,Tryz.func112,by kernel_rfl,by kernel_rfl⟩
instance :Fun Tryz.prog 113:=⟨_,Tryz.func113,by kernel_rfl,by kernel_rfl⟩
theorem mixed:Tryz.prog.follows .mixedOrders=true:=by kernel_rfl
end Go.Sx
