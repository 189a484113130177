/- The seat's types and functions: what the rules must know of them, each fact closed. Conditions: none. -/
import Derived.Test.YtiahldhbknpmiaaGreatDoorBLb
import Derived.Test.YtiahldhbknpmiaaGreatDoorBLw
import Derived.Test.YtiahldhbknpmiaaGreatDoorProg
namespace Go.Sx
open Go Go.Proofs Go.Vm Rp
abbrev Q0 (f:Nat)(l:List Value)(W:CW)(R:CW->Value->Prop):Prop:=zaY Tryz.prog f l.toArray W.w (Res W LL R)
abbrev Q1 (f:Nat)(l:List Value)(W:CW)(L:List Nat)(R:CW->Value->Prop):Prop:=zaY Tryz.prog f l.toArray W.w (Res W L R)
instance :Rp Int:=Rp.atom 3 vI (fun _=>True) (fun _=>rfl) 66
instance (priority:=high):Rp Str:=Rp.atom 9 (fun s=>vS s) (fun _=>True) (fun _=>rfl) 40
instance :Rp Bool:=Rp.atom 4 vB (fun _=>True) (fun _=>rfl) 142
instance :Rp Byte:=Rp.atom 5 (fun b=> .int .u8 (UInt8.toNat b)) (fun _=>True) (fun _=>rfl) 58
instance :Atm Int:=⟨fun h=>⟨rfl,h⟩⟩
instance :Atm Str:=⟨fun h=>⟨rfl,h⟩⟩
instance :Atm Bool:=⟨fun h=>⟨rfl,h⟩⟩
instance :Atm Byte:=⟨fun h=>⟨rfl,h⟩⟩
instance :Pl Int:=⟨fun h=>h⟩
instance :Pl Str:=⟨fun h=>h⟩
instance :Pl Bool:=⟨fun h=>h⟩
instance :Pl Byte:=⟨fun h=>h⟩
instance :Zr Int:=⟨0,[vI 0],⟨rfl,rfl,trivial⟩⟩
instance :Zr Str:=⟨[],[vS []],⟨rfl,rfl,trivial⟩⟩
instance :Zr Bool:=⟨false,[vB false],⟨rfl,rfl,trivial⟩⟩
section
variable {W:CW}{K:List Nat}{v:Value}{p:Addr}
theorem Rd.str {s:Str}(h:Rd W K [v] s):v=vS s:=by simpa using h.1
theorem Rd.int {n:Int}(h:Rd W K [v] n):v=vI n:=by simpa using h.1
theorem Rd.bool {b:Bool}(h:Rd W K [v] b):v=vB b:=by simpa using h.1
theorem Rd.byte {b:Byte}(h:Rd W K [v] b):v = .int .u8 (UInt8.toNat b):=by simpa using h.1
theorem At.str {s:Str}(h:At W K p s):W.w.cell? p=some (vS s):=by obtain⟨v,hc,hr⟩:=h.cell rfl;rw[hr.str]at hc;exact hc
theorem At.int {n:Int}(h:At W K p n):W.w.cell? p=some (vI n):=by obtain⟨v,hc,hr⟩:=h.cell rfl;rw[hr.int]at hc;exact hc
theorem At.bool {b:Bool}(h:At W K p b):W.w.cell? p=some (vB b):=by obtain⟨v,hc,hr⟩:=h.cell rfl;rw[hr.bool]at hc;exact hc
theorem At.byte {b:Byte}(h:At W K p b):W.w.cell? p=some (.int .u8 (UInt8.toNat b)):=by obtain⟨v,hc,hr⟩:=h.cell rfl;rw[hr.byte]at hc;exact hc
theorem rdI (n:Int):Rd W K [vI n] n:=⟨rfl,trivial⟩
theorem rdS (s:Str):Rd W K [vS s] s:=⟨rfl,trivial⟩
theorem rdB (b:Bool):Rd W K [vB b] b:=⟨rfl,trivial⟩
end
instance :Rp File:=Rp.iso (β:=Str×(List Str)) 135 (fun x=>(x.Path,x.Text)) 63
instance :Zr File:= {
 z:=Vm.File.mk [] []
 cs:=Zr.cs (Str×(List Str))
 own:=Zr.own (α:=Str×(List Str))}
theorem File.split {W:CW}{K:List Nat}{cs:List Value}{x:Vm.File}(h:Rd W K cs x): ∃ c1:Value,cs=[vS x.Path,c1]/\Rd W K [c1] x.Text:=by
 replace h:Rd W K cs (x.Path,x.Text):=h
 obtain⟨c0,d0,rfl,h0,k0⟩:=h.split
 obtain⟨u0,rfl,_⟩:=Rd.one h0 rfl
 obtain⟨u1,rfl,_⟩:=Rd.one k0 rfl
 obtain rfl:=Rd.str h0
 exact⟨u1,rfl,k0⟩
theorem File.at0 {W:CW}{K:List Nat}{p:Addr}{x:Vm.File}(h:At W K p x):At W K (p.add 0) x.Path:=by
 replace h:At W K p (x.Path,x.Text):=h
 replace h:=h.fst
 exact(zmQ p).symm▸h
theorem File.at1 {W:CW}{K:List Nat}{p:Addr}{x:Vm.File}(h:At W K p x):At W K (p.add 1) x.Text:=by
 replace h:At W K p (x.Path,x.Text):=h
 replace h:=h.snd
 exact h
theorem File.own {W:CW}{K J1:List Nat}{c1:Value}(x0:Str)(x1:List Str)(h1:OwS W J1 K [c1] x1)(d0:zkL ([]) (J1)=true:=by rfl):OwS W ([]++(J1)) K [vS x0,c1] (Vm.File.mk x0 x1):=(OwS.pair (OwS.atm (rdS x0)) h1 d0)
instance :Fs Vm.File (Str) 0 (fun x=>x.Path) (fun x y=>Vm.File.mk y x.Text):=⟨(Fs.fst rfl:Fs (Str×(List Str)) (Str) 0 _ _).lt,fun h=>(Fs.fst rfl:Fs (Str×(List Str)) (Str) 0 _ _).lens h⟩
instance :Fs Vm.File (List Str) 1 (fun x=>x.Text) (fun x y=>Vm.File.mk x.Path y):=⟨(Fs.snd rfl (Fs.self rfl):Fs (Str×(List Str)) (List Str) 1 _ _).lt,fun h=>(Fs.snd rfl (Fs.self rfl):Fs (Str×(List Str)) (List Str) 1 _ _).lens h⟩
instance :Fl Vm.File (List Str) 1 (fun x=>x.Text) (fun x y=>Vm.File.mk x.Path y):=⟨fun h=>(Fl.snd rfl (Fl.self rfl):Fl (Str×(List Str)) (List Str) 1 _ _).lens h⟩
theorem File.rd {W:CW}{K:List Nat}{c1:Value}(x0:Str)(x1:List Str)(h1:Rd W K [c1] x1):Rd W K [vS x0,c1] (Vm.File.mk x0 x1):=(Rd.join (rdS x0) h1)
instance :Rp Commit:=Rp.iso (β:=(List Int)×Str×(List File)) 68 (fun x=>(x.Parents,x.Who,x.Tree)) 27
instance :Zr Commit:= {
 z:=Vm.Commit.mk [] [] []
 cs:=Zr.cs ((List Int)×Str×(List File))
 own:=Zr.own (α:=(List Int)×Str×(List File))}
theorem Commit.split {W:CW}{K:List Nat}{cs:List Value}{x:Vm.Commit}(h:Rd W K cs x): ∃ c0 c2:Value,cs=[c0,vS x.Who,c2]/\Rd W K [c0] x.Parents/\Rd W K [c2] x.Tree:=by
 replace h:Rd W K cs (x.Parents,x.Who,x.Tree):=h
 obtain⟨c0,d0,rfl,h0,k0⟩:=h.split
 obtain⟨c1,d1,rfl,h1,k1⟩:=Rd.split k0
 obtain⟨u0,rfl,_⟩:=Rd.one h0 rfl
 obtain⟨u1,rfl,_⟩:=Rd.one h1 rfl
 obtain⟨u2,rfl,_⟩:=Rd.one k1 rfl
 obtain rfl:=Rd.str h1
 exact⟨u0,u2,rfl,h0,k1⟩
theorem Commit.at0 {W:CW}{K:List Nat}{p:Addr}{x:Vm.Commit}(h:At W K p x):At W K (p.add 0) x.Parents:=by
 replace h:At W K p (x.Parents,x.Who,x.Tree):=h
 replace h:=h.fst
 exact(zmQ p).symm▸h
theorem Commit.at1 {W:CW}{K:List Nat}{p:Addr}{x:Vm.Commit}(h:At W K p x):At W K (p.add 1) x.Who:=by
 replace h:At W K p (x.Parents,x.Who,x.Tree):=h
 replace h:=h.snd
 replace h:=h.fst
 exact h
theorem Commit.at2 {W:CW}{K:List Nat}{p:Addr}{x:Vm.Commit}(h:At W K p x):At W K (p.add 2) x.Tree:=by
 replace h:At W K p (x.Parents,x.Who,x.Tree):=h
 replace h:=h.snd
 replace h:=h.snd
 rw[zmP]at h
 exact h
theorem Commit.own {W:CW}{K J0 J2:List Nat}{c0 c2:Value}(x0:List Int)(x1:Str)(x2:List File)(h0:OwS W J0 K [c0] x0)(h2:OwS W J2 K [c2] x2)(d0:zkL (J0) ([]++(J2))=true:=by rfl)(d1:zkL ([]) (J2)=true:=by rfl):OwS W (J0++([]++(J2))) K [c0,vS x1,c2] (Vm.Commit.mk x0 x1 x2):=(OwS.pair h0 (OwS.pair (OwS.atm (rdS x1)) h2 d1) d0)
instance :Fs Vm.Commit (List Int) 0 (fun x=>x.Parents) (fun x y=>Vm.Commit.mk y x.Who x.Tree):=⟨(Fs.fst rfl:Fs ((List Int)×Str×(List File)) (List Int) 0 _ _).lt,fun h=>(Fs.fst rfl:Fs ((List Int)×Str×(List File)) (List Int) 0 _ _).lens h⟩
instance :Fs Vm.Commit (Str) 1 (fun x=>x.Who) (fun x y=>Vm.Commit.mk x.Parents y x.Tree):=⟨(Fs.snd rfl (Fs.fst rfl):Fs ((List Int)×Str×(List File)) (Str) 1 _ _).lt,fun h=>(Fs.snd rfl (Fs.fst rfl):Fs ((List Int)×Str×(List File)) (Str) 1 _ _).lens h⟩
instance :Fs Vm.Commit (List File) 2 (fun x=>x.Tree) (fun x y=>Vm.Commit.mk x.Parents x.Who y):=⟨(Fs.snd rfl (Fs.snd rfl (Fs.self rfl)):Fs ((List Int)×Str×(List File)) (List File) 2 _ _).lt,fun h=>(Fs.snd rfl (Fs.snd rfl (Fs.self rfl)):Fs ((List Int)×Str×(List File)) (List File) 2 _ _).lens h⟩
instance :Fl Vm.Commit (List Int) 0 (fun x=>x.Parents) (fun x y=>Vm.Commit.mk y x.Who x.Tree):=⟨fun h=>(Fl.fst rfl:Fl ((List Int)×Str×(List File)) (List Int) 0 _ _).lens h⟩
instance :Fl Vm.Commit (List File) 2 (fun x=>x.Tree) (fun x y=>Vm.Commit.mk x.Parents x.Who y):=⟨fun h=>(Fl.snd rfl (Fl.snd rfl (Fl.self rfl)):Fl ((List Int)×Str×(List File)) (List File) 2 _ _).lens h⟩
theorem Commit.rd {W:CW}{K:List Nat}{c0 c2:Value}(x0:List Int)(x1:Str)(x2:List File)(h0:Rd W K [c0] x0)(h2:Rd W K [c2] x2):Rd W K [c0,vS x1,c2] (Vm.Commit.mk x0 x1 x2):=(Rd.join h0 (Rd.join (rdS x1) h2))
instance :Rp Head:=Rp.iso (β:=Str×Int) 130 (fun x=>(x.Name,x.At)) 28
instance :Atm Head:=⟨fun h=>Atm.own (α:=Str×Int) h⟩
instance :Pl Head:=⟨fun h=>Pl.pl (α:=Str×Int) h⟩
instance :Zr Head:= {
 z:=Vm.Head.mk [] 0
 cs:=Zr.cs (Str×Int)
 own:=Zr.own (α:=Str×Int)}
theorem Head.split {W:CW}{K:List Nat}{cs:List Value}{x:Vm.Head}(h:Rd W K cs x):cs=[vS x.Name,vI x.At]:=by
 replace h:Rd W K cs (x.Name,x.At):=h
 obtain⟨c0,d0,rfl,h0,k0⟩:=h.split
 obtain⟨u0,rfl,_⟩:=Rd.one h0 rfl
 obtain⟨u1,rfl,_⟩:=Rd.one k0 rfl
 obtain rfl:=Rd.str h0
 obtain rfl:=Rd.int k0
 exact rfl
theorem Head.at0 {W:CW}{K:List Nat}{p:Addr}{x:Vm.Head}(h:At W K p x):At W K (p.add 0) x.Name:=by
 replace h:At W K p (x.Name,x.At):=h
 replace h:=h.fst
 exact(zmQ p).symm▸h
theorem Head.at1 {W:CW}{K:List Nat}{p:Addr}{x:Vm.Head}(h:At W K p x):At W K (p.add 1) x.At:=by
 replace h:At W K p (x.Name,x.At):=h
 replace h:=h.snd
 exact h
instance :Fs Vm.Head (Str) 0 (fun x=>x.Name) (fun x y=>Vm.Head.mk y x.At):=⟨(Fs.fst rfl:Fs (Str×Int) (Str) 0 _ _).lt,fun h=>(Fs.fst rfl:Fs (Str×Int) (Str) 0 _ _).lens h⟩
instance :Fs Vm.Head (Int) 1 (fun x=>x.At) (fun x y=>Vm.Head.mk x.Name y):=⟨(Fs.snd rfl (Fs.self rfl):Fs (Str×Int) (Int) 1 _ _).lt,fun h=>(Fs.snd rfl (Fs.self rfl):Fs (Str×Int) (Int) 1 _ _).lens h⟩
theorem Head.rd {W:CW}{K:List Nat}(x0:Str)(x1:Int):Rd W K [vS x0,vI x1] (Vm.Head.mk x0 x1):=(Rd.join (rdS x0) (rdI x1))
instance :Rp Repo:=Rp.iso (β:=(List Commit)×(List Head)) 30 (fun x=>(x.Commits,x.Heads)) 0
instance :Zr Repo:= {
 z:=Vm.Repo.mk [] []
 cs:=Zr.cs ((List Commit)×(List Head))
 own:=Zr.own (α:=(List Commit)×(List Head))}
theorem Repo.split {W:CW}{K:List Nat}{cs:List Value}{x:Vm.Repo}(h:Rd W K cs x): ∃ c0 c1:Value,cs=[c0,c1]/\Rd W K [c0] x.Commits/\Rd W K [c1] x.Heads:=by
 replace h:Rd W K cs (x.Commits,x.Heads):=h
 obtain⟨c0,d0,rfl,h0,k0⟩:=h.split
 obtain⟨u0,rfl,_⟩:=Rd.one h0 rfl
 obtain⟨u1,rfl,_⟩:=Rd.one k0 rfl
 exact⟨u0,u1,rfl,h0,k0⟩
theorem Repo.at0 {W:CW}{K:List Nat}{p:Addr}{x:Vm.Repo}(h:At W K p x):At W K (p.add 0) x.Commits:=by
 replace h:At W K p (x.Commits,x.Heads):=h
 replace h:=h.fst
 exact(zmQ p).symm▸h
theorem Repo.at1 {W:CW}{K:List Nat}{p:Addr}{x:Vm.Repo}(h:At W K p x):At W K (p.add 1) x.Heads:=by
 replace h:At W K p (x.Commits,x.Heads):=h
 replace h:=h.snd
 exact h
theorem Repo.own {W:CW}{K J0 J1:List Nat}{c0 c1:Value}(x0:List Commit)(x1:List Head)(h0:OwS W J0 K [c0] x0)(h1:OwS W J1 K [c1] x1)(d0:zkL (J0) (J1)=true:=by rfl):OwS W (J0++(J1)) K [c0,c1] (Vm.Repo.mk x0 x1):=(OwS.pair h0 h1 d0)
instance :Fs Vm.Repo (List Commit) 0 (fun x=>x.Commits) (fun x y=>Vm.Repo.mk y x.Heads):=⟨(Fs.fst rfl:Fs ((List Commit)×(List Head)) (List Commit) 0 _ _).lt,fun h=>(Fs.fst rfl:Fs ((List Commit)×(List Head)) (List Commit) 0 _ _).lens h⟩
instance :Fs Vm.Repo (List Head) 1 (fun x=>x.Heads) (fun x y=>Vm.Repo.mk x.Commits y):=⟨(Fs.snd rfl (Fs.self rfl):Fs ((List Commit)×(List Head)) (List Head) 1 _ _).lt,fun h=>(Fs.snd rfl (Fs.self rfl):Fs ((List Commit)×(List Head)) (List Head) 1 _ _).lens h⟩
instance :Fl Vm.Repo (List Commit) 0 (fun x=>x.Commits) (fun x y=>Vm.Repo.mk y x.Heads):=⟨fun h=>(Fl.fst rfl:Fl ((List Commit)×(List Head)) (List Commit) 0 _ _).lens h⟩
instance :Fl Vm.Repo (List Head) 1 (fun x=>x.Heads) (fun x y=>Vm.Repo.mk x.Commits y):=⟨fun h=>(Fl.snd rfl (Fl.self rfl):Fl ((List Commit)×(List Head)) (List Head) 1 _ _).lens h⟩
theorem Repo.rd {W:CW}{K:List Nat}{c0 c1:Value}(x0:List Commit)(x1:List Head)(h0:Rd W K [c0] x0)(h1:Rd W K [c1] x1):Rd W K [c0,c1] (Vm.Repo.mk x0 x1):=(Rd.join h0 h1)
instance :Rp Review:=Rp.iso (β:=Str×Str×Str×(List Str)) 49 (fun x=>(x.Branch,x.Into,x.By,x.Yes)) 0
instance :Zr Review:= {
 z:=Vm.Review.mk [] [] [] []
 cs:=Zr.cs (Str×Str×Str×(List Str))
 own:=Zr.own (α:=Str×Str×Str×(List Str))}
theorem Review.split {W:CW}{K:List Nat}{cs:List Value}{x:Vm.Review}(h:Rd W K cs x): ∃ c3:Value,cs=[vS x.Branch,vS x.Into,vS x.By,c3]/\Rd W K [c3] x.Yes:=by
 replace h:Rd W K cs (x.Branch,x.Into,x.By,x.Yes):=h
 obtain⟨c0,d0,rfl,h0,k0⟩:=h.split
 obtain⟨c1,d1,rfl,h1,k1⟩:=Rd.split k0
 obtain⟨c2,d2,rfl,h2,k2⟩:=Rd.split k1
 obtain⟨u0,rfl,_⟩:=Rd.one h0 rfl
 obtain⟨u1,rfl,_⟩:=Rd.one h1 rfl
 obtain⟨u2,rfl,_⟩:=Rd.one h2 rfl
 obtain⟨u3,rfl,_⟩:=Rd.one k2 rfl
 obtain rfl:=Rd.str h0
 obtain rfl:=Rd.str h1
 obtain rfl:=Rd.str h2
 exact⟨u3,rfl,k2⟩
theorem Review.at0 {W:CW}{K:List Nat}{p:Addr}{x:Vm.Review}(h:At W K p x):At W K (p.add 0) x.Branch:=by
 replace h:At W K p (x.Branch,x.Into,x.By,x.Yes):=h
 replace h:=h.fst
 exact(zmQ p).symm▸h
theorem Review.at1 {W:CW}{K:List Nat}{p:Addr}{x:Vm.Review}(h:At W K p x):At W K (p.add 1) x.Into:=by
 replace h:At W K p (x.Branch,x.Into,x.By,x.Yes):=h
 replace h:=h.snd
 replace h:=h.fst
 exact h
theorem Review.at2 {W:CW}{K:List Nat}{p:Addr}{x:Vm.Review}(h:At W K p x):At W K (p.add 2) x.By:=by
 replace h:At W K p (x.Branch,x.Into,x.By,x.Yes):=h
 replace h:=h.snd
 replace h:=h.snd
 replace h:=h.fst
 rw[zmP]at h
 exact h
theorem Review.own {W:CW}{K J3:List Nat}{c3:Value}(x0:Str)(x1:Str)(x2:Str)(x3:List Str)(h3:OwS W J3 K [c3] x3)(d0:zkL ([]) ([]++([]++(J3)))=true:=by rfl)(d1:zkL ([]) ([]++(J3))=true:=by rfl)(d2:zkL ([]) (J3)=true:=by rfl):OwS W ([]++([]++([]++(J3)))) K [vS x0,vS x1,vS x2,c3] (Vm.Review.mk x0 x1 x2 x3):=(OwS.pair (OwS.atm (rdS x0)) (OwS.pair (OwS.atm (rdS x1)) (OwS.pair (OwS.atm (rdS x2)) h3 d2) d1) d0)
instance :Fs Vm.Review (Str) 0 (fun x=>x.Branch) (fun x y=>Vm.Review.mk y x.Into x.By x.Yes):=⟨(Fs.fst rfl:Fs (Str×Str×Str×(List Str)) (Str) 0 _ _).lt,fun h=>(Fs.fst rfl:Fs (Str×Str×Str×(List Str)) (Str) 0 _ _).lens h⟩
instance :Fs Vm.Review (Str) 1 (fun x=>x.Into) (fun x y=>Vm.Review.mk x.Branch y x.By x.Yes):=⟨(Fs.snd rfl (Fs.fst rfl):Fs (Str×Str×Str×(List Str)) (Str) 1 _ _).lt,fun h=>(Fs.snd rfl (Fs.fst rfl):Fs (Str×Str×Str×(List Str)) (Str) 1 _ _).lens h⟩
instance :Fs Vm.Review (Str) 2 (fun x=>x.By) (fun x y=>Vm.Review.mk x.Branch x.Into y x.Yes):=⟨(Fs.snd rfl (Fs.snd rfl (Fs.fst rfl)):Fs (Str×Str×Str×(List Str)) (Str) 2 _ _).lt,fun h=>(Fs.snd rfl (Fs.snd rfl (Fs.fst rfl)):Fs (Str×Str×Str×(List Str)) (Str) 2 _ _).lens h⟩
instance :Fs Vm.Review (List Str) 3 (fun x=>x.Yes) (fun x y=>Vm.Review.mk x.Branch x.Into x.By y):=⟨(Fs.snd rfl (Fs.snd rfl (Fs.snd rfl (Fs.self rfl))):Fs (Str×Str×Str×(List Str)) (List Str) 3 _ _).lt,fun h=>(Fs.snd rfl (Fs.snd rfl (Fs.snd rfl (Fs.self rfl))):Fs (Str×Str×Str×(List Str)) (List Str) 3 _ _).lens h⟩
instance :Fl Vm.Review (List Str) 3 (fun x=>x.Yes) (fun x y=>Vm.Review.mk x.Branch x.Into x.By y):=⟨fun h=>(Fl.snd rfl (Fl.snd rfl (Fl.snd rfl (Fl.self rfl))):Fl (Str×Str×Str×(List Str)) (List Str) 3 _ _).lens h⟩
theorem Review.rd {W:CW}{K:List Nat}{c3:Value}(x0:Str)(x1:Str)(x2:Str)(x3:List Str)(h3:Rd W K [c3] x3):Rd W K [vS x0,vS x1,vS x2,c3] (Vm.Review.mk x0 x1 x2 x3):=(Rd.join (rdS x0) (Rd.join (rdS x1) (Rd.join (rdS x2) h3)))
instance :Rp Owner:=Rp.iso (β:=Str×Str) 115 (fun x=>(x.Path,x.Who)) 47
instance :Atm Owner:=⟨fun h=>Atm.own (α:=Str×Str) h⟩
instance :Pl Owner:=⟨fun h=>Pl.pl (α:=Str×Str) h⟩
instance :Zr Owner:= {
 z:=Vm.Owner.mk [] []
 cs:=Zr.cs (Str×Str)
 own:=Zr.own (α:=Str×Str)}
theorem Owner.split {W:CW}{K:List Nat}{cs:List Value}{x:Vm.Owner}(h:Rd W K cs x):cs=[vS x.Path,vS x.Who]:=by
 replace h:Rd W K cs (x.Path,x.Who):=h
 obtain⟨c0,d0,rfl,h0,k0⟩:=h.split
 obtain⟨u0,rfl,_⟩:=Rd.one h0 rfl
 obtain⟨u1,rfl,_⟩:=Rd.one k0 rfl
 obtain rfl:=Rd.str h0
 obtain rfl:=Rd.str k0
 exact rfl
theorem Owner.at0 {W:CW}{K:List Nat}{p:Addr}{x:Vm.Owner}(h:At W K p x):At W K (p.add 0) x.Path:=by
 replace h:At W K p (x.Path,x.Who):=h
 replace h:=h.fst
 exact(zmQ p).symm▸h
theorem Owner.at1 {W:CW}{K:List Nat}{p:Addr}{x:Vm.Owner}(h:At W K p x):At W K (p.add 1) x.Who:=by
 replace h:At W K p (x.Path,x.Who):=h
 replace h:=h.snd
 exact h
instance :Fs Vm.Owner (Str) 0 (fun x=>x.Path) (fun x y=>Vm.Owner.mk y x.Who):=⟨(Fs.fst rfl:Fs (Str×Str) (Str) 0 _ _).lt,fun h=>(Fs.fst rfl:Fs (Str×Str) (Str) 0 _ _).lens h⟩
instance :Fs Vm.Owner (Str) 1 (fun x=>x.Who) (fun x y=>Vm.Owner.mk x.Path y):=⟨(Fs.snd rfl (Fs.self rfl):Fs (Str×Str) (Str) 1 _ _).lt,fun h=>(Fs.snd rfl (Fs.self rfl):Fs (Str×Str) (Str) 1 _ _).lens h⟩
theorem Owner.rd {W:CW}{K:List Nat}(x0:Str)(x1:Str):Rd W K [vS x0,vS x1] (Vm.Owner.mk x0 x1):=(Rd.join (rdS x0) (rdS x1))
instance :Rp Hunk:=Rp.iso (β:=Int×(List Str)×(List Str)) 207 (fun x=>(x.At,x.Less,x.More)) 174
instance :Zr Hunk:= {
 z:=Vm.Hunk.mk 0 [] []
 cs:=Zr.cs (Int×(List Str)×(List Str))
 own:=Zr.own (α:=Int×(List Str)×(List Str))}
theorem Hunk.split {W:CW}{K:List Nat}{cs:List Value}{x:Vm.Hunk}(h:Rd W K cs x): ∃ c1 c2:Value,cs=[vI x.At,c1,c2]/\Rd W K [c1] x.Less/\Rd W K [c2] x.More:=by
 replace h:Rd W K cs (x.At,x.Less,x.More):=h
 obtain⟨c0,d0,rfl,h0,k0⟩:=h.split
 obtain⟨c1,d1,rfl,h1,k1⟩:=Rd.split k0
 obtain⟨u0,rfl,_⟩:=Rd.one h0 rfl
 obtain⟨u1,rfl,_⟩:=Rd.one h1 rfl
 obtain⟨u2,rfl,_⟩:=Rd.one k1 rfl
 obtain rfl:=Rd.int h0
 exact⟨u1,u2,rfl,h1,k1⟩
theorem Hunk.at0 {W:CW}{K:List Nat}{p:Addr}{x:Vm.Hunk}(h:At W K p x):At W K (p.add 0) x.At:=by
 replace h:At W K p (x.At,x.Less,x.More):=h
 replace h:=h.fst
 exact(zmQ p).symm▸h
theorem Hunk.at1 {W:CW}{K:List Nat}{p:Addr}{x:Vm.Hunk}(h:At W K p x):At W K (p.add 1) x.Less:=by
 replace h:At W K p (x.At,x.Less,x.More):=h
 replace h:=h.snd
 replace h:=h.fst
 exact h
theorem Hunk.at2 {W:CW}{K:List Nat}{p:Addr}{x:Vm.Hunk}(h:At W K p x):At W K (p.add 2) x.More:=by
 replace h:At W K p (x.At,x.Less,x.More):=h
 replace h:=h.snd
 replace h:=h.snd
 rw[zmP]at h
 exact h
theorem Hunk.own {W:CW}{K J1 J2:List Nat}{c1 c2:Value}(x0:Int)(x1:List Str)(x2:List Str)(h1:OwS W J1 K [c1] x1)(h2:OwS W J2 K [c2] x2)(d0:zkL ([]) (J1++(J2))=true:=by rfl)(d1:zkL (J1) (J2)=true:=by rfl):OwS W ([]++(J1++(J2))) K [vI x0,c1,c2] (Vm.Hunk.mk x0 x1 x2):=(OwS.pair (OwS.atm (rdI x0)) (OwS.pair h1 h2 d1) d0)
instance :Fs Vm.Hunk (Int) 0 (fun x=>x.At) (fun x y=>Vm.Hunk.mk y x.Less x.More):=⟨(Fs.fst rfl:Fs (Int×(List Str)×(List Str)) (Int) 0 _ _).lt,fun h=>(Fs.fst rfl:Fs (Int×(List Str)×(List Str)) (Int) 0 _ _).lens h⟩
instance :Fs Vm.Hunk (List Str) 1 (fun x=>x.Less) (fun x y=>Vm.Hunk.mk x.At y x.More):=⟨(Fs.snd rfl (Fs.fst rfl):Fs (Int×(List Str)×(List Str)) (List Str) 1 _ _).lt,fun h=>(Fs.snd rfl (Fs.fst rfl):Fs (Int×(List Str)×(List Str)) (List Str) 1 _ _).lens h⟩
instance :Fs Vm.Hunk (List Str) 2 (fun x=>x.More) (fun x y=>Vm.Hunk.mk x.At x.Less y):=⟨(Fs.snd rfl (Fs.snd rfl (Fs.self rfl)):Fs (Int×(List Str)×(List Str)) (List Str) 2 _ _).lt,fun h=>(Fs.snd rfl (Fs.snd rfl (Fs.self rfl)):Fs (Int×(List Str)×(List Str)) (List Str) 2 _ _).lens h⟩
instance :Fl Vm.Hunk (List Str) 1 (fun x=>x.Less) (fun x y=>Vm.Hunk.mk x.At y x.More):=⟨fun h=>(Fl.snd rfl (Fl.fst rfl):Fl (Int×(List Str)×(List Str)) (List Str) 1 _ _).lens h⟩
instance :Fl Vm.Hunk (List Str) 2 (fun x=>x.More) (fun x y=>Vm.Hunk.mk x.At x.Less y):=⟨fun h=>(Fl.snd rfl (Fl.snd rfl (Fl.self rfl)):Fl (Int×(List Str)×(List Str)) (List Str) 2 _ _).lens h⟩
theorem Hunk.rd {W:CW}{K:List Nat}{c1 c2:Value}(x0:Int)(x1:List Str)(x2:List Str)(h1:Rd W K [c1] x1)(h2:Rd W K [c2] x2):Rd W K [vI x0,c1,c2] (Vm.Hunk.mk x0 x1 x2):=(Rd.join (rdI x0) (Rd.join h1 h2))
instance :Rp Change:=Rp.iso (β:=Int×Str×Str×(List Str)×(List Hunk)) 176 (fun x=>(x.Kind,x.Path,x.To,x.Text,x.Patch)) 119
instance :Zr Change:= {
 z:=Vm.Change.mk 0 [] [] [] []
 cs:=Zr.cs (Int×Str×Str×(List Str)×(List Hunk))
 own:=Zr.own (α:=Int×Str×Str×(List Str)×(List Hunk))}
theorem Change.split {W:CW}{K:List Nat}{cs:List Value}{x:Vm.Change}(h:Rd W K cs x): ∃ c3 c4:Value,cs=[vI x.Kind,vS x.Path,vS x.To,c3,c4]/\Rd W K [c3] x.Text/\Rd W K [c4] x.Patch:=by
 replace h:Rd W K cs (x.Kind,x.Path,x.To,x.Text,x.Patch):=h
 obtain⟨c0,d0,rfl,h0,k0⟩:=h.split
 obtain⟨c1,d1,rfl,h1,k1⟩:=Rd.split k0
 obtain⟨c2,d2,rfl,h2,k2⟩:=Rd.split k1
 obtain⟨c3,d3,rfl,h3,k3⟩:=Rd.split k2
 obtain⟨u0,rfl,_⟩:=Rd.one h0 rfl
 obtain⟨u1,rfl,_⟩:=Rd.one h1 rfl
 obtain⟨u2,rfl,_⟩:=Rd.one h2 rfl
 obtain⟨u3,rfl,_⟩:=Rd.one h3 rfl
 obtain⟨u4,rfl,_⟩:=Rd.one k3 rfl
 obtain rfl:=Rd.int h0
 obtain rfl:=Rd.str h1
 obtain rfl:=Rd.str h2
 exact⟨u3,u4,rfl,h3,k3⟩
theorem Change.at0 {W:CW}{K:List Nat}{p:Addr}{x:Vm.Change}(h:At W K p x):At W K (p.add 0) x.Kind:=by
 replace h:At W K p (x.Kind,x.Path,x.To,x.Text,x.Patch):=h
 replace h:=h.fst
 exact(zmQ p).symm▸h
theorem Change.at1 {W:CW}{K:List Nat}{p:Addr}{x:Vm.Change}(h:At W K p x):At W K (p.add 1) x.Path:=by
 replace h:At W K p (x.Kind,x.Path,x.To,x.Text,x.Patch):=h
 replace h:=h.snd
 replace h:=h.fst
 exact h
theorem Change.at2 {W:CW}{K:List Nat}{p:Addr}{x:Vm.Change}(h:At W K p x):At W K (p.add 2) x.To:=by
 replace h:At W K p (x.Kind,x.Path,x.To,x.Text,x.Patch):=h
 replace h:=h.snd
 replace h:=h.snd
 replace h:=h.fst
 rw[zmP]at h
 exact h
theorem Change.own {W:CW}{K J3 J4:List Nat}{c3 c4:Value}(x0:Int)(x1:Str)(x2:Str)(x3:List Str)(x4:List Hunk)(h3:OwS W J3 K [c3] x3)(h4:OwS W J4 K [c4] x4)(d0:zkL ([]) ([]++([]++(J3++(J4))))=true:=by rfl)(d1:zkL ([]) ([]++(J3++(J4)))=true:=by rfl)(d2:zkL ([]) (J3++(J4))=true:=by rfl)(d3:zkL (J3) (J4)=true:=by rfl):OwS W ([]++([]++([]++(J3++(J4))))) K [vI x0,vS x1,vS x2,c3,c4] (Vm.Change.mk x0 x1 x2 x3 x4):=(OwS.pair (OwS.atm (rdI x0)) (OwS.pair (OwS.atm (rdS x1)) (OwS.pair (OwS.atm (rdS x2)) (OwS.pair h3 h4 d3) d2) d1) d0)
instance :Fs Vm.Change (Int) 0 (fun x=>x.Kind) (fun x y=>Vm.Change.mk y x.Path x.To x.Text x.Patch):=⟨(Fs.fst rfl:Fs (Int×Str×Str×(List Str)×(List Hunk)) (Int) 0 _ _).lt,fun h=>(Fs.fst rfl:Fs (Int×Str×Str×(List Str)×(List Hunk)) (Int) 0 _ _).lens h⟩
instance :Fs Vm.Change (Str) 1 (fun x=>x.Path) (fun x y=>Vm.Change.mk x.Kind y x.To x.Text x.Patch):=⟨(Fs.snd rfl (Fs.fst rfl):Fs (Int×Str×Str×(List Str)×(List Hunk)) (Str) 1 _ _).lt,fun h=>(Fs.snd rfl (Fs.fst rfl):Fs (Int×Str×Str×(List Str)×(List Hunk)) (Str) 1 _ _).lens h⟩
instance :Fs Vm.Change (Str) 2 (fun x=>x.To) (fun x y=>Vm.Change.mk x.Kind x.Path y x.Text x.Patch):=⟨(Fs.snd rfl (Fs.snd rfl (Fs.fst rfl)):Fs (Int×Str×Str×(List Str)×(List Hunk)) (Str) 2 _ _).lt,fun h=>(Fs.snd rfl (Fs.snd rfl (Fs.fst rfl)):Fs (Int×Str×Str×(List Str)×(List Hunk)) (Str) 2 _ _).lens h⟩
instance :Fs Vm.Change (List Str) 3 (fun x=>x.Text) (fun x y=>Vm.Change.mk x.Kind x.Path x.To y x.Patch):=⟨(Fs.snd rfl (Fs.snd rfl (Fs.snd rfl (Fs.fst rfl))):Fs (Int×Str×Str×(List Str)×(List Hunk)) (List Str) 3 _ _).lt,fun h=>(Fs.snd rfl (Fs.snd rfl (Fs.snd rfl (Fs.fst rfl))):Fs (Int×Str×Str×(List Str)×(List Hunk)) (List Str) 3 _ _).lens h⟩
instance :Fs Vm.Change (List Hunk) 4 (fun x=>x.Patch) (fun x y=>Vm.Change.mk x.Kind x.Path x.To x.Text y):=⟨(Fs.snd rfl (Fs.snd rfl (Fs.snd rfl (Fs.snd rfl (Fs.self rfl)))):Fs (Int×Str×Str×(List Str)×(List Hunk)) (List Hunk) 4 _ _).lt,fun h=>(Fs.snd rfl (Fs.snd rfl (Fs.snd rfl (Fs.snd rfl (Fs.self rfl)))):Fs (Int×Str×Str×(List Str)×(List Hunk)) (List Hunk) 4 _ _).lens h⟩
instance :Fl Vm.Change (List Str) 3 (fun x=>x.Text) (fun x y=>Vm.Change.mk x.Kind x.Path x.To y x.Patch):=⟨fun h=>(Fl.snd rfl (Fl.snd rfl (Fl.snd rfl (Fl.fst rfl))):Fl (Int×Str×Str×(List Str)×(List Hunk)) (List Str) 3 _ _).lens h⟩
instance :Fl Vm.Change (List Hunk) 4 (fun x=>x.Patch) (fun x y=>Vm.Change.mk x.Kind x.Path x.To x.Text y):=⟨fun h=>(Fl.snd rfl (Fl.snd rfl (Fl.snd rfl (Fl.snd rfl (Fl.self rfl)))):Fl (Int×Str×Str×(List Str)×(List Hunk)) (List Hunk) 4 _ _).lens h⟩
theorem Change.rd {W:CW}{K:List Nat}{c3 c4:Value}(x0:Int)(x1:Str)(x2:Str)(x3:List Str)(x4:List Hunk)(h3:Rd W K [c3] x3)(h4:Rd W K [c4] x4):Rd W K [vI x0,vS x1,vS x2,c3,c4] (Vm.Change.mk x0 x1 x2 x3 x4):=(Rd.join (rdI x0) (Rd.join (rdS x1) (Rd.join (rdS x2) (Rd.join h3 h4))))
instance :Rp has:=Rp.iso (β:=(List Str)×Bool) 186 (fun x=>(x.text,x.file)) 0
instance :Zr has:= {
 z:=Vm.has.mk [] false
 cs:=Zr.cs ((List Str)×Bool)
 own:=Zr.own (α:=(List Str)×Bool)}
theorem has.split {W:CW}{K:List Nat}{cs:List Value}{x:Vm.has}(h:Rd W K cs x): ∃ c0:Value,cs=[c0,vB x.file]/\Rd W K [c0] x.text:=by
 replace h:Rd W K cs (x.text,x.file):=h
 obtain⟨c0,d0,rfl,h0,k0⟩:=h.split
 obtain⟨u0,rfl,_⟩:=Rd.one h0 rfl
 obtain⟨u1,rfl,_⟩:=Rd.one k0 rfl
 obtain rfl:=Rd.bool k0
 exact⟨u0,rfl,h0⟩
theorem has.at0 {W:CW}{K:List Nat}{p:Addr}{x:Vm.has}(h:At W K p x):At W K (p.add 0) x.text:=by
 replace h:At W K p (x.text,x.file):=h
 replace h:=h.fst
 exact(zmQ p).symm▸h
theorem has.at1 {W:CW}{K:List Nat}{p:Addr}{x:Vm.has}(h:At W K p x):At W K (p.add 1) x.file:=by
 replace h:At W K p (x.text,x.file):=h
 replace h:=h.snd
 exact h
theorem has.own {W:CW}{K J0:List Nat}{c0:Value}(x0:List Str)(x1:Bool)(h0:OwS W J0 K [c0] x0)(d0:zkL (J0) ([])=true:=by rfl):OwS W (J0++([])) K [c0,vB x1] (Vm.has.mk x0 x1):=(OwS.pair h0 (OwS.atm (rdB x1)) d0)
instance :Fs Vm.has (List Str) 0 (fun x=>x.text) (fun x y=>Vm.has.mk y x.file):=⟨(Fs.fst rfl:Fs ((List Str)×Bool) (List Str) 0 _ _).lt,fun h=>(Fs.fst rfl:Fs ((List Str)×Bool) (List Str) 0 _ _).lens h⟩
instance :Fs Vm.has (Bool) 1 (fun x=>x.file) (fun x y=>Vm.has.mk x.text y):=⟨(Fs.snd rfl (Fs.self rfl):Fs ((List Str)×Bool) (Bool) 1 _ _).lt,fun h=>(Fs.snd rfl (Fs.self rfl):Fs ((List Str)×Bool) (Bool) 1 _ _).lens h⟩
instance :Fl Vm.has (List Str) 0 (fun x=>x.text) (fun x y=>Vm.has.mk y x.file):=⟨fun h=>(Fl.fst rfl:Fl ((List Str)×Bool) (List Str) 0 _ _).lens h⟩
theorem has.rd {W:CW}{K:List Nat}{c0:Value}(x0:List Str)(x1:Bool)(h0:Rd W K [c0] x0):Rd W K [c0,vB x1] (Vm.has.mk x0 x1):=(Rd.join h0 (rdB x1))
instance :Rp Clash:=Rp.iso (β:=Str×Int) 191 (fun x=>(x.Path,x.Kind)) 137
instance :Atm Clash:=⟨fun h=>Atm.own (α:=Str×Int) h⟩
instance :Pl Clash:=⟨fun h=>Pl.pl (α:=Str×Int) h⟩
instance :Zr Clash:= {
 z:=Vm.Clash.mk [] 0
 cs:=Zr.cs (Str×Int)
 own:=Zr.own (α:=Str×Int)}
theorem Clash.split {W:CW}{K:List Nat}{cs:List Value}{x:Vm.Clash}(h:Rd W K cs x):cs=[vS x.Path,vI x.Kind]:=by
 replace h:Rd W K cs (x.Path,x.Kind):=h
 obtain⟨c0,d0,rfl,h0,k0⟩:=h.split
 obtain⟨u0,rfl,_⟩:=Rd.one h0 rfl
 obtain⟨u1,rfl,_⟩:=Rd.one k0 rfl
 obtain rfl:=Rd.str h0
 obtain rfl:=Rd.int k0
 exact rfl
theorem Clash.at0 {W:CW}{K:List Nat}{p:Addr}{x:Vm.Clash}(h:At W K p x):At W K (p.add 0) x.Path:=by
 replace h:At W K p (x.Path,x.Kind):=h
 replace h:=h.fst
 exact(zmQ p).symm▸h
theorem Clash.at1 {W:CW}{K:List Nat}{p:Addr}{x:Vm.Clash}(h:At W K p x):At W K (p.add 1) x.Kind:=by
 replace h:At W K p (x.Path,x.Kind):=h
 replace h:=h.snd
 exact h
instance :Fs Vm.Clash (Str) 0 (fun x=>x.Path) (fun x y=>Vm.Clash.mk y x.Kind):=⟨(Fs.fst rfl:Fs (Str×Int) (Str) 0 _ _).lt,fun h=>(Fs.fst rfl:Fs (Str×Int) (Str) 0 _ _).lens h⟩
instance :Fs Vm.Clash (Int) 1 (fun x=>x.Kind) (fun x y=>Vm.Clash.mk x.Path y):=⟨(Fs.snd rfl (Fs.self rfl):Fs (Str×Int) (Int) 1 _ _).lt,fun h=>(Fs.snd rfl (Fs.self rfl):Fs (Str×Int) (Int) 1 _ _).lens h⟩
theorem Clash.rd {W:CW}{K:List Nat}(x0:Str)(x1:Int):Rd W K [vS x0,vI x1] (Vm.Clash.mk x0 x1):=(Rd.join (rdS x0) (rdI x1))
instance :Rp l30Rd:=Rp.iso (β:=(List Byte)×Int) 193 (fun x=>(x.b,x.p)) 0
instance :Zr l30Rd:= {
 z:=Vm.l30Rd.mk [] 0
 cs:=Zr.cs ((List Byte)×Int)
 own:=Zr.own (α:=(List Byte)×Int)}
theorem l30Rd.split {W:CW}{K:List Nat}{cs:List Value}{x:Vm.l30Rd}(h:Rd W K cs x): ∃ c0:Value,cs=[c0,vI x.p]/\Rd W K [c0] x.b:=by
 replace h:Rd W K cs (x.b,x.p):=h
 obtain⟨c0,d0,rfl,h0,k0⟩:=h.split
 obtain⟨u0,rfl,_⟩:=Rd.one h0 rfl
 obtain⟨u1,rfl,_⟩:=Rd.one k0 rfl
 obtain rfl:=Rd.int k0
 exact⟨u0,rfl,h0⟩
theorem l30Rd.at0 {W:CW}{K:List Nat}{p:Addr}{x:Vm.l30Rd}(h:At W K p x):At W K (p.add 0) x.b:=by
 replace h:At W K p (x.b,x.p):=h
 replace h:=h.fst
 exact(zmQ p).symm▸h
theorem l30Rd.at1 {W:CW}{K:List Nat}{p:Addr}{x:Vm.l30Rd}(h:At W K p x):At W K (p.add 1) x.p:=by
 replace h:At W K p (x.b,x.p):=h
 replace h:=h.snd
 exact h
theorem l30Rd.own {W:CW}{K J0:List Nat}{c0:Value}(x0:List Byte)(x1:Int)(h0:OwS W J0 K [c0] x0)(d0:zkL (J0) ([])=true:=by rfl):OwS W (J0++([])) K [c0,vI x1] (Vm.l30Rd.mk x0 x1):=(OwS.pair h0 (OwS.atm (rdI x1)) d0)
instance :Fs Vm.l30Rd (List Byte) 0 (fun x=>x.b) (fun x y=>Vm.l30Rd.mk y x.p):=⟨(Fs.fst rfl:Fs ((List Byte)×Int) (List Byte) 0 _ _).lt,fun h=>(Fs.fst rfl:Fs ((List Byte)×Int) (List Byte) 0 _ _).lens h⟩
instance :Fs Vm.l30Rd (Int) 1 (fun x=>x.p) (fun x y=>Vm.l30Rd.mk x.b y):=⟨(Fs.snd rfl (Fs.self rfl):Fs ((List Byte)×Int) (Int) 1 _ _).lt,fun h=>(Fs.snd rfl (Fs.self rfl):Fs ((List Byte)×Int) (Int) 1 _ _).lens h⟩
instance :Fl Vm.l30Rd (List Byte) 0 (fun x=>x.b) (fun x y=>Vm.l30Rd.mk y x.p):=⟨fun h=>(Fl.fst rfl:Fl ((List Byte)×Int) (List Byte) 0 _ _).lens h⟩
theorem l30Rd.rd {W:CW}{K:List Nat}{c0:Value}(x0:List Byte)(x1:Int)(h0:Rd W K [c0] x0):Rd W K [c0,vI x1] (Vm.l30Rd.mk x0 x1):=(Rd.join h0 (rdI x1))
instance :Rp Part:=Rp.iso (β:=Bool×(List Str)×(List Str)×(List Str)×(List Str)) 242 (fun x=>(x.Clash,x.Lines,x.Old,x.One,x.Two)) 246
instance :Zr Part:= {
 z:=Vm.Part.mk false [] [] [] []
 cs:=Zr.cs (Bool×(List Str)×(List Str)×(List Str)×(List Str))
 own:=Zr.own (α:=Bool×(List Str)×(List Str)×(List Str)×(List Str))}
theorem Part.split {W:CW}{K:List Nat}{cs:List Value}{x:Vm.Part}(h:Rd W K cs x): ∃ c1 c2 c3 c4:Value,cs=[vB x.Clash,c1,c2,c3,c4]/\Rd W K [c1] x.Lines/\Rd W K [c2] x.Old/\Rd W K [c3] x.One/\Rd W K [c4] x.Two:=by
 replace h:Rd W K cs (x.Clash,x.Lines,x.Old,x.One,x.Two):=h
 obtain⟨c0,d0,rfl,h0,k0⟩:=h.split
 obtain⟨c1,d1,rfl,h1,k1⟩:=Rd.split k0
 obtain⟨c2,d2,rfl,h2,k2⟩:=Rd.split k1
 obtain⟨c3,d3,rfl,h3,k3⟩:=Rd.split k2
 obtain⟨u0,rfl,_⟩:=Rd.one h0 rfl
 obtain⟨u1,rfl,_⟩:=Rd.one h1 rfl
 obtain⟨u2,rfl,_⟩:=Rd.one h2 rfl
 obtain⟨u3,rfl,_⟩:=Rd.one h3 rfl
 obtain⟨u4,rfl,_⟩:=Rd.one k3 rfl
 obtain rfl:=Rd.bool h0
 exact⟨u1,u2,u3,u4,rfl,h1,h2,h3,k3⟩
theorem Part.at0 {W:CW}{K:List Nat}{p:Addr}{x:Vm.Part}(h:At W K p x):At W K (p.add 0) x.Clash:=by
 replace h:At W K p (x.Clash,x.Lines,x.Old,x.One,x.Two):=h
 replace h:=h.fst
 exact(zmQ p).symm▸h
theorem Part.at1 {W:CW}{K:List Nat}{p:Addr}{x:Vm.Part}(h:At W K p x):At W K (p.add 1) x.Lines:=by
 replace h:At W K p (x.Clash,x.Lines,x.Old,x.One,x.Two):=h
 replace h:=h.snd
 replace h:=h.fst
 exact h
theorem Part.at2 {W:CW}{K:List Nat}{p:Addr}{x:Vm.Part}(h:At W K p x):At W K (p.add 2) x.Old:=by
 replace h:At W K p (x.Clash,x.Lines,x.Old,x.One,x.Two):=h
 replace h:=h.snd
 replace h:=h.snd
 replace h:=h.fst
 rw[zmP]at h
 exact h
theorem Part.own {W:CW}{K J1 J2 J3 J4:List Nat}{c1 c2 c3 c4:Value}(x0:Bool)(x1:List Str)(x2:List Str)(x3:List Str)(x4:List Str)(h1:OwS W J1 K [c1] x1)(h2:OwS W J2 K [c2] x2)(h3:OwS W J3 K [c3] x3)(h4:OwS W J4 K [c4] x4)(d0:zkL ([]) (J1++(J2++(J3++(J4))))=true:=by rfl)(d1:zkL (J1) (J2++(J3++(J4)))=true:=by rfl)(d2:zkL (J2) (J3++(J4))=true:=by rfl)(d3:zkL (J3) (J4)=true:=by rfl):OwS W ([]++(J1++(J2++(J3++(J4))))) K [vB x0,c1,c2,c3,c4] (Vm.Part.mk x0 x1 x2 x3 x4):=(OwS.pair (OwS.atm (rdB x0)) (OwS.pair h1 (OwS.pair h2 (OwS.pair h3 h4 d3) d2) d1) d0)
instance :Fs Vm.Part (Bool) 0 (fun x=>x.Clash) (fun x y=>Vm.Part.mk y x.Lines x.Old x.One x.Two):=⟨(Fs.fst rfl:Fs (Bool×(List Str)×(List Str)×(List Str)×(List Str)) (Bool) 0 _ _).lt,fun h=>(Fs.fst rfl:Fs (Bool×(List Str)×(List Str)×(List Str)×(List Str)) (Bool) 0 _ _).lens h⟩
instance :Fs Vm.Part (List Str) 1 (fun x=>x.Lines) (fun x y=>Vm.Part.mk x.Clash y x.Old x.One x.Two):=⟨(Fs.snd rfl (Fs.fst rfl):Fs (Bool×(List Str)×(List Str)×(List Str)×(List Str)) (List Str) 1 _ _).lt,fun h=>(Fs.snd rfl (Fs.fst rfl):Fs (Bool×(List Str)×(List Str)×(List Str)×(List Str)) (List Str) 1 _ _).lens h⟩
instance :Fs Vm.Part (List Str) 2 (fun x=>x.Old) (fun x y=>Vm.Part.mk x.Clash x.Lines y x.One x.Two):=⟨(Fs.snd rfl (Fs.snd rfl (Fs.fst rfl)):Fs (Bool×(List Str)×(List Str)×(List Str)×(List Str)) (List Str) 2 _ _).lt,fun h=>(Fs.snd rfl (Fs.snd rfl (Fs.fst rfl)):Fs (Bool×(List Str)×(List Str)×(List Str)×(List Str)) (List Str) 2 _ _).lens h⟩
instance :Fs Vm.Part (List Str) 3 (fun x=>x.One) (fun x y=>Vm.Part.mk x.Clash x.Lines x.Old y x.Two):=⟨(Fs.snd rfl (Fs.snd rfl (Fs.snd rfl (Fs.fst rfl))):Fs (Bool×(List Str)×(List Str)×(List Str)×(List Str)) (List Str) 3 _ _).lt,fun h=>(Fs.snd rfl (Fs.snd rfl (Fs.snd rfl (Fs.fst rfl))):Fs (Bool×(List Str)×(List Str)×(List Str)×(List Str)) (List Str) 3 _ _).lens h⟩
instance :Fs Vm.Part (List Str) 4 (fun x=>x.Two) (fun x y=>Vm.Part.mk x.Clash x.Lines x.Old x.One y):=⟨(Fs.snd rfl (Fs.snd rfl (Fs.snd rfl (Fs.snd rfl (Fs.self rfl)))):Fs (Bool×(List Str)×(List Str)×(List Str)×(List Str)) (List Str) 4 _ _).lt,fun h=>(Fs.snd rfl (Fs.snd rfl (Fs.snd rfl (Fs.snd rfl (Fs.self rfl)))):Fs (Bool×(List Str)×(List Str)×(List Str)×(List Str)) (List Str) 4 _ _).lens h⟩
instance :Fl Vm.Part (List Str) 1 (fun x=>x.Lines) (fun x y=>Vm.Part.mk x.Clash y x.Old x.One x.Two):=⟨fun h=>(Fl.snd rfl (Fl.fst rfl):Fl (Bool×(List Str)×(List Str)×(List Str)×(List Str)) (List Str) 1 _ _).lens h⟩
instance :Fl Vm.Part (List Str) 2 (fun x=>x.Old) (fun x y=>Vm.Part.mk x.Clash x.Lines y x.One x.Two):=⟨fun h=>(Fl.snd rfl (Fl.snd rfl (Fl.fst rfl)):Fl (Bool×(List Str)×(List Str)×(List Str)×(List Str)) (List Str) 2 _ _).lens h⟩
instance :Fl Vm.Part (List Str) 3 (fun x=>x.One) (fun x y=>Vm.Part.mk x.Clash x.Lines x.Old y x.Two):=⟨fun h=>(Fl.snd rfl (Fl.snd rfl (Fl.snd rfl (Fl.fst rfl))):Fl (Bool×(List Str)×(List Str)×(List Str)×(List Str)) (List Str) 3 _ _).lens h⟩
instance :Fl Vm.Part (List Str) 4 (fun x=>x.Two) (fun x y=>Vm.Part.mk x.Clash x.Lines x.Old x.One y):=⟨fun h=>(Fl.snd rfl (Fl.snd rfl (Fl.snd rfl (Fl.snd rfl (Fl.self rfl)))):Fl (Bool×(List Str)×(List Str)×(List Str)×(List Str)) (List Str) 4 _ _).lens h⟩
theorem Part.rd {W:CW}{K:List Nat}{c1 c2 c3 c4:Value}(x0:Bool)(x1:List Str)(x2:List Str)(x3:List Str)(x4:List Str)(h1:Rd W K [c1] x1)(h2:Rd W K [c2] x2)(h3:Rd W K [c3] x3)(h4:Rd W K [c4] x4):Rd W K [vB x0,c1,c2,c3,c4] (Vm.Part.mk x0 x1 x2 x3 x4):=(Rd.join (rdB x0) (Rd.join h1 (Rd.join h2 (Rd.join h3 h4))))
instance :Rp Vm.Op:=Rp.iso (β:=Int×Str×Str×Str×Str×Int×(List Str)) 250 (fun x=>(x.Kind,x.Branch,x.Who,x.Path,x.To,x.At,x.Text)) 216
instance :Zr Vm.Op:= {
 z:=Vm.Op.mk 0 [] [] [] [] 0 []
 cs:=Zr.cs (Int×Str×Str×Str×Str×Int×(List Str))
 own:=Zr.own (α:=Int×Str×Str×Str×Str×Int×(List Str))}
theorem Op.split {W:CW}{K:List Nat}{cs:List Value}{x:Vm.Op}(h:Rd W K cs x): ∃ c6:Value,cs=[vI x.Kind,vS x.Branch,vS x.Who,vS x.Path,vS x.To,vI x.At,c6]/\Rd W K [c6] x.Text:=by
 replace h:Rd W K cs (x.Kind,x.Branch,x.Who,x.Path,x.To,x.At,x.Text):=h
 obtain⟨c0,d0,rfl,h0,k0⟩:=h.split
 obtain⟨c1,d1,rfl,h1,k1⟩:=Rd.split k0
 obtain⟨c2,d2,rfl,h2,k2⟩:=Rd.split k1
 obtain⟨c3,d3,rfl,h3,k3⟩:=Rd.split k2
 obtain⟨c4,d4,rfl,h4,k4⟩:=Rd.split k3
 obtain⟨c5,d5,rfl,h5,k5⟩:=Rd.split k4
 obtain⟨u0,rfl,_⟩:=Rd.one h0 rfl
 obtain⟨u1,rfl,_⟩:=Rd.one h1 rfl
 obtain⟨u2,rfl,_⟩:=Rd.one h2 rfl
 obtain⟨u3,rfl,_⟩:=Rd.one h3 rfl
 obtain⟨u4,rfl,_⟩:=Rd.one h4 rfl
 obtain⟨u5,rfl,_⟩:=Rd.one h5 rfl
 obtain⟨u6,rfl,_⟩:=Rd.one k5 rfl
 obtain rfl:=Rd.int h0
 obtain rfl:=Rd.str h1
 obtain rfl:=Rd.str h2
 obtain rfl:=Rd.str h3
 obtain rfl:=Rd.str h4
 obtain rfl:=Rd.int h5
 exact⟨u6,rfl,k5⟩
theorem Op.at0 {W:CW}{K:List Nat}{p:Addr}{x:Vm.Op}(h:At W K p x):At W K (p.add 0) x.Kind:=by
 replace h:At W K p (x.Kind,x.Branch,x.Who,x.Path,x.To,x.At,x.Text):=h
 replace h:=h.fst
 exact(zmQ p).symm▸h
theorem Op.at1 {W:CW}{K:List Nat}{p:Addr}{x:Vm.Op}(h:At W K p x):At W K (p.add 1) x.Branch:=by
 replace h:At W K p (x.Kind,x.Branch,x.Who,x.Path,x.To,x.At,x.Text):=h
 replace h:=h.snd
 replace h:=h.fst
 exact h
theorem Op.at2 {W:CW}{K:List Nat}{p:Addr}{x:Vm.Op}(h:At W K p x):At W K (p.add 2) x.Who:=by
 replace h:At W K p (x.Kind,x.Branch,x.Who,x.Path,x.To,x.At,x.Text):=h
 replace h:=h.snd
 replace h:=h.snd
 replace h:=h.fst
 rw[zmP]at h
 exact h
theorem Op.own {W:CW}{K J6:List Nat}{c6:Value}(x0:Int)(x1:Str)(x2:Str)(x3:Str)(x4:Str)(x5:Int)(x6:List Str)(h6:OwS W J6 K [c6] x6)(d0:zkL ([]) ([]++([]++([]++([]++([]++(J6))))))=true:=by rfl)(d1:zkL ([]) ([]++([]++([]++([]++(J6)))))=true:=by rfl)(d2:zkL ([]) ([]++([]++([]++(J6))))=true:=by rfl)(d3:zkL ([]) ([]++([]++(J6)))=true:=by rfl)(d4:zkL ([]) ([]++(J6))=true:=by rfl)(d5:zkL ([]) (J6)=true:=by rfl):OwS W ([]++([]++([]++([]++([]++([]++(J6))))))) K [vI x0,vS x1,vS x2,vS x3,vS x4,vI x5,c6] (Vm.Op.mk x0 x1 x2 x3 x4 x5 x6):=(OwS.pair (OwS.atm (rdI x0)) (OwS.pair (OwS.atm (rdS x1)) (OwS.pair (OwS.atm (rdS x2)) (OwS.pair (OwS.atm (rdS x3)) (OwS.pair (OwS.atm (rdS x4)) (OwS.pair (OwS.atm (rdI x5)) h6 d5) d4) d3) d2) d1) d0)
instance :Fs Vm.Op (Int) 0 (fun x=>x.Kind) (fun x y=>Vm.Op.mk y x.Branch x.Who x.Path x.To x.At x.Text):=⟨(Fs.fst rfl:Fs (Int×Str×Str×Str×Str×Int×(List Str)) (Int) 0 _ _).lt,fun h=>(Fs.fst rfl:Fs (Int×Str×Str×Str×Str×Int×(List Str)) (Int) 0 _ _).lens h⟩
instance :Fs Vm.Op (Str) 1 (fun x=>x.Branch) (fun x y=>Vm.Op.mk x.Kind y x.Who x.Path x.To x.At x.Text):=⟨(Fs.snd rfl (Fs.fst rfl):Fs (Int×Str×Str×Str×Str×Int×(List Str)) (Str) 1 _ _).lt,fun h=>(Fs.snd rfl (Fs.fst rfl):Fs (Int×Str×Str×Str×Str×Int×(List Str)) (Str) 1 _ _).lens h⟩
instance :Fs Vm.Op (Str) 2 (fun x=>x.Who) (fun x y=>Vm.Op.mk x.Kind x.Branch y x.Path x.To x.At x.Text):=⟨(Fs.snd rfl (Fs.snd rfl (Fs.fst rfl)):Fs (Int×Str×Str×Str×Str×Int×(List Str)) (Str) 2 _ _).lt,fun h=>(Fs.snd rfl (Fs.snd rfl (Fs.fst rfl)):Fs (Int×Str×Str×Str×Str×Int×(List Str)) (Str) 2 _ _).lens h⟩
instance :Fs Vm.Op (Str) 3 (fun x=>x.Path) (fun x y=>Vm.Op.mk x.Kind x.Branch x.Who y x.To x.At x.Text):=⟨(Fs.snd rfl (Fs.snd rfl (Fs.snd rfl (Fs.fst rfl))):Fs (Int×Str×Str×Str×Str×Int×(List Str)) (Str) 3 _ _).lt,fun h=>(Fs.snd rfl (Fs.snd rfl (Fs.snd rfl (Fs.fst rfl))):Fs (Int×Str×Str×Str×Str×Int×(List Str)) (Str) 3 _ _).lens h⟩
instance :Fs Vm.Op (Str) 4 (fun x=>x.To) (fun x y=>Vm.Op.mk x.Kind x.Branch x.Who x.Path y x.At x.Text):=⟨(Fs.snd rfl (Fs.snd rfl (Fs.snd rfl (Fs.snd rfl (Fs.fst rfl)))):Fs (Int×Str×Str×Str×Str×Int×(List Str)) (Str) 4 _ _).lt,fun h=>(Fs.snd rfl (Fs.snd rfl (Fs.snd rfl (Fs.snd rfl (Fs.fst rfl)))):Fs (Int×Str×Str×Str×Str×Int×(List Str)) (Str) 4 _ _).lens h⟩
instance :Fs Vm.Op (Int) 5 (fun x=>x.At) (fun x y=>Vm.Op.mk x.Kind x.Branch x.Who x.Path x.To y x.Text):=⟨(Fs.snd rfl (Fs.snd rfl (Fs.snd rfl (Fs.snd rfl (Fs.snd rfl (Fs.fst rfl))))):Fs (Int×Str×Str×Str×Str×Int×(List Str)) (Int) 5 _ _).lt,fun h=>(Fs.snd rfl (Fs.snd rfl (Fs.snd rfl (Fs.snd rfl (Fs.snd rfl (Fs.fst rfl))))):Fs (Int×Str×Str×Str×Str×Int×(List Str)) (Int) 5 _ _).lens h⟩
instance :Fs Vm.Op (List Str) 6 (fun x=>x.Text) (fun x y=>Vm.Op.mk x.Kind x.Branch x.Who x.Path x.To x.At y):=⟨(Fs.snd rfl (Fs.snd rfl (Fs.snd rfl (Fs.snd rfl (Fs.snd rfl (Fs.snd rfl (Fs.self rfl)))))):Fs (Int×Str×Str×Str×Str×Int×(List Str)) (List Str) 6 _ _).lt,fun h=>(Fs.snd rfl (Fs.snd rfl (Fs.snd rfl (Fs.snd rfl (Fs.snd rfl (Fs.snd rfl (Fs.self rfl)))))):Fs (Int×Str×Str×Str×Str×Int×(List Str)) (List Str) 6 _ _).lens h⟩
instance :Fl Vm.Op (List Str) 6 (fun x=>x.Text) (fun x y=>Vm.Op.mk x.Kind x.Branch x.Who x.Path x.To x.At y):=⟨fun h=>(Fl.snd rfl (Fl.snd rfl (Fl.snd rfl (Fl.snd rfl (Fl.snd rfl (Fl.snd rfl (Fl.self rfl)))))):Fl (Int×Str×Str×Str×Str×Int×(List Str)) (List Str) 6 _ _).lens h⟩
theorem Op.rd {W:CW}{K:List Nat}{c6:Value}(x0:Int)(x1:Str)(x2:Str)(x3:Str)(x4:Str)(x5:Int)(x6:List Str)(h6:Rd W K [c6] x6):Rd W K [vI x0,vS x1,vS x2,vS x3,vS x4,vI x5,c6] (Vm.Op.mk x0 x1 x2 x3 x4 x5 x6):=(Rd.join (rdI x0) (Rd.join (rdS x1) (Rd.join (rdS x2) (Rd.join (rdS x3) (Rd.join (rdS x4) (Rd.join (rdI x5) h6))))))
instance :Und Tryz.prog 2 (TypeDesc.int IntKind.i64):=⟨Tryz.underlying2⟩
instance :Inf Tryz.prog 2 1 8 (Value.int IntKind.i64 0):=⟨by kernel_rfl⟩
instance :Und Tryz.prog 3 (TypeDesc.int IntKind.i64):=⟨Tryz.underlying3⟩
instance :Inf Tryz.prog 3 1 8 (Value.int IntKind.i64 0):=⟨by kernel_rfl⟩
instance :Und Tryz.prog 4 TypeDesc.bool:=⟨Tryz.underlying4⟩
instance :Inf Tryz.prog 4 1 1 (Value.bool false):=⟨by kernel_rfl⟩
instance :Und Tryz.prog 5 (TypeDesc.int IntKind.u8):=⟨Tryz.underlying5⟩
instance :Inf Tryz.prog 5 1 1 (Value.int IntKind.u8 0):=⟨by kernel_rfl⟩
instance :Und Tryz.prog 9 TypeDesc.string:=⟨Tryz.underlying9⟩
instance :Inf Tryz.prog 9 1 16 (Value.string (ByteArray.mk #[])):=⟨by kernel_rfl⟩
instance :Und Tryz.prog 12 (TypeDesc.int IntKind.u64):=⟨Tryz.underlying12⟩
instance :Inf Tryz.prog 12 1 8 (Value.int IntKind.u64 0):=⟨by kernel_rfl⟩
instance : Und Tryz.prog 13 (TypeDesc.struct #[(Field.mk "msg" 9 0 false "" "runtime" 0), (Field.mk "addr" 12 1 false "" "runtime" 16)]) := ⟨Tryz.underlying13⟩
instance :Inf Tryz.prog 13 2 24 (Value.agg #[(Value.string (ByteArray.mk #[])),(Value.int IntKind.u64 0)]):=⟨by kernel_rfl⟩
instance :Flat Tryz.prog 13 2:=⟨_,Tryz.underlying13,by kernel_rfl,by kernel_rfl⟩
instance :Fld Tryz.prog 13 0 0:=Flat.fld (n:=2) (by decide)
instance :Fld Tryz.prog 13 1 1:=Flat.fld (n:=2) (by decide)
instance :Und Tryz.prog 21 (TypeDesc.int IntKind.i32):=⟨Tryz.underlying21⟩
instance :Inf Tryz.prog 21 1 4 (Value.int IntKind.i32 0):=⟨by kernel_rfl⟩
instance :Und Tryz.prog 22 (TypeDesc.slice 156):=⟨Tryz.underlying22⟩
instance :Inf Tryz.prog 22 1 24 (Value.slice none 0 0):=⟨by kernel_rfl⟩
instance :Und Tryz.prog 23 (TypeDesc.slice 158):=⟨Tryz.underlying23⟩
instance :Inf Tryz.prog 23 1 24 (Value.slice none 0 0):=⟨by kernel_rfl⟩
instance : Und Tryz.prog 24 (TypeDesc.struct #[(Field.mk "Commits" 22 0 false "" "" 0), (Field.mk "Heads" 23 1 false "" "" 24)]) := ⟨Tryz.underlying24⟩
instance :Inf Tryz.prog 24 2 48 (Value.agg #[(Value.slice none 0 0),(Value.slice none 0 0)]):=⟨by kernel_rfl⟩
instance :Flat Tryz.prog 24 2:=⟨_,Tryz.underlying24,by kernel_rfl,by kernel_rfl⟩
instance :Fld Tryz.prog 24 0 0:=Flat.fld (n:=2) (by decide)
instance :Fld Tryz.prog 24 1 1:=Flat.fld (n:=2) (by decide)
instance : Und Tryz.prog 25 (TypeDesc.struct #[(Field.mk "Commits" 22 0 false "" "" 0), (Field.mk "Heads" 23 1 false "" "" 24)]) := ⟨Tryz.underlying25⟩
instance :Inf Tryz.prog 25 2 48 (Value.agg #[(Value.slice none 0 0),(Value.slice none 0 0)]):=⟨by kernel_rfl⟩
instance :Flat Tryz.prog 25 2:=⟨_,Tryz.underlying25,by kernel_rfl,by kernel_rfl⟩
instance :Fld Tryz.prog 25 0 0:=Flat.fld (n:=2) (by decide)
instance :Fld Tryz.prog 25 1 1:=Flat.fld (n:=2) (by decide)
instance :Und Tryz.prog 27 (TypeDesc.slice 68):=⟨Tryz.underlying27⟩
instance :Inf Tryz.prog 27 1 24 (Value.slice none 0 0):=⟨by kernel_rfl⟩
instance :Und Tryz.prog 28 (TypeDesc.slice 130):=⟨Tryz.underlying28⟩
instance :Inf Tryz.prog 28 1 24 (Value.slice none 0 0):=⟨by kernel_rfl⟩
instance : Und Tryz.prog 29 (TypeDesc.struct #[(Field.mk "Commits" 27 0 false "" "" 0), (Field.mk "Heads" 28 1 false "" "" 24)]) := ⟨Tryz.underlying29⟩
instance :Inf Tryz.prog 29 2 48 (Value.agg #[(Value.slice none 0 0),(Value.slice none 0 0)]):=⟨by kernel_rfl⟩
instance :Flat Tryz.prog 29 2:=⟨_,Tryz.underlying29,by kernel_rfl,by kernel_rfl⟩
instance :Fld Tryz.prog 29 0 0:=Flat.fld (n:=2) (by decide)
instance :Fld Tryz.prog 29 1 1:=Flat.fld (n:=2) (by decide)
instance : Und Tryz.prog 30 (TypeDesc.struct #[(Field.mk "Commits" 27 0 false "" "" 0), (Field.mk "Heads" 28 1 false "" "" 24)]) := ⟨Tryz.underlying30⟩
instance :Inf Tryz.prog 30 2 48 (Value.agg #[(Value.slice none 0 0),(Value.slice none 0 0)]):=⟨by kernel_rfl⟩
instance :Flat Tryz.prog 30 2:=⟨_,Tryz.underlying30,by kernel_rfl,by kernel_rfl⟩
instance :Fld Tryz.prog 30 0 0:=Flat.fld (n:=2) (by decide)
instance :Fld Tryz.prog 30 1 1:=Flat.fld (n:=2) (by decide)
instance :Und Tryz.prog 39 (TypeDesc.slice 111):=⟨Tryz.underlying39⟩
instance :Inf Tryz.prog 39 1 24 (Value.slice none 0 0):=⟨by kernel_rfl⟩
instance :Und Tryz.prog 40 (TypeDesc.slice 9):=⟨Tryz.underlying40⟩
instance :Inf Tryz.prog 40 1 24 (Value.slice none 0 0):=⟨by kernel_rfl⟩
instance : Und Tryz.prog 41 (TypeDesc.struct #[(Field.mk "Branch" 9 0 false "" "" 0), (Field.mk "Into" 9 1 false "" "" 16), (Field.mk "By" 9 2 false "" "" 32), (Field.mk "Yes" 40 3 false "" "" 48)]) := ⟨Tryz.underlying41⟩
instance :Inf Tryz.prog 41 4 72 (Value.agg #[(Value.string (ByteArray.mk #[])),(Value.string (ByteArray.mk #[])),(Value.string (ByteArray.mk #[])),(Value.slice none 0 0)]):=⟨by kernel_rfl⟩
instance :Flat Tryz.prog 41 4:=⟨_,Tryz.underlying41,by kernel_rfl,by kernel_rfl⟩
instance :Fld Tryz.prog 41 0 0:=Flat.fld (n:=4) (by decide)
instance :Fld Tryz.prog 41 1 1:=Flat.fld (n:=4) (by decide)
instance :Fld Tryz.prog 41 2 2:=Flat.fld (n:=4) (by decide)
instance :Fld Tryz.prog 41 3 3:=Flat.fld (n:=4) (by decide)
instance : Und Tryz.prog 42 (TypeDesc.struct #[(Field.mk "Branch" 9 0 false "" "" 0), (Field.mk "Into" 9 1 false "" "" 16), (Field.mk "By" 9 2 false "" "" 32), (Field.mk "Yes" 40 3 false "" "" 48)]) := ⟨Tryz.underlying42⟩
instance :Inf Tryz.prog 42 4 72 (Value.agg #[(Value.string (ByteArray.mk #[])),(Value.string (ByteArray.mk #[])),(Value.string (ByteArray.mk #[])),(Value.slice none 0 0)]):=⟨by kernel_rfl⟩
instance :Flat Tryz.prog 42 4:=⟨_,Tryz.underlying42,by kernel_rfl,by kernel_rfl⟩
instance :Fld Tryz.prog 42 0 0:=Flat.fld (n:=4) (by decide)
instance :Fld Tryz.prog 42 1 1:=Flat.fld (n:=4) (by decide)
instance :Fld Tryz.prog 42 2 2:=Flat.fld (n:=4) (by decide)
instance :Fld Tryz.prog 42 3 3:=Flat.fld (n:=4) (by decide)
instance :Und Tryz.prog 47 (TypeDesc.slice 115):=⟨Tryz.underlying47⟩
instance :Inf Tryz.prog 47 1 24 (Value.slice none 0 0):=⟨by kernel_rfl⟩
instance : Und Tryz.prog 49 (TypeDesc.struct #[(Field.mk "Branch" 9 0 false "" "" 0), (Field.mk "Into" 9 1 false "" "" 16), (Field.mk "By" 9 2 false "" "" 32), (Field.mk "Yes" 40 3 false "" "" 48)]) := ⟨Tryz.underlying49⟩
instance :Inf Tryz.prog 49 4 72 (Value.agg #[(Value.string (ByteArray.mk #[])),(Value.string (ByteArray.mk #[])),(Value.string (ByteArray.mk #[])),(Value.slice none 0 0)]):=⟨by kernel_rfl⟩
instance :Flat Tryz.prog 49 4:=⟨_,Tryz.underlying49,by kernel_rfl,by kernel_rfl⟩
instance :Fld Tryz.prog 49 0 0:=Flat.fld (n:=4) (by decide)
instance :Fld Tryz.prog 49 1 1:=Flat.fld (n:=4) (by decide)
instance :Fld Tryz.prog 49 2 2:=Flat.fld (n:=4) (by decide)
instance :Fld Tryz.prog 49 3 3:=Flat.fld (n:=4) (by decide)
instance :Und Tryz.prog 58 (TypeDesc.slice 5):=⟨Tryz.underlying58⟩
instance :Inf Tryz.prog 58 1 24 (Value.slice none 0 0):=⟨by kernel_rfl⟩
instance :Und Tryz.prog 63 (TypeDesc.slice 135):=⟨Tryz.underlying63⟩
instance :Inf Tryz.prog 63 1 24 (Value.slice none 0 0):=⟨by kernel_rfl⟩
instance :Und Tryz.prog 66 (TypeDesc.slice 3):=⟨Tryz.underlying66⟩
instance :Inf Tryz.prog 66 1 24 (Value.slice none 0 0):=⟨by kernel_rfl⟩
instance : Und Tryz.prog 67 (TypeDesc.struct #[(Field.mk "Parents" 66 0 false "" "" 0), (Field.mk "Who" 9 1 false "" "" 24), (Field.mk "Tree" 63 2 false "" "" 40)]) := ⟨Tryz.underlying67⟩
instance :Inf Tryz.prog 67 3 64 (Value.agg #[(Value.slice none 0 0),(Value.string (ByteArray.mk #[])),(Value.slice none 0 0)]):=⟨by kernel_rfl⟩
instance :Flat Tryz.prog 67 3:=⟨_,Tryz.underlying67,by kernel_rfl,by kernel_rfl⟩
instance :Fld Tryz.prog 67 0 0:=Flat.fld (n:=3) (by decide)
instance :Fld Tryz.prog 67 1 1:=Flat.fld (n:=3) (by decide)
instance :Fld Tryz.prog 67 2 2:=Flat.fld (n:=3) (by decide)
instance : Und Tryz.prog 68 (TypeDesc.struct #[(Field.mk "Parents" 66 0 false "" "" 0), (Field.mk "Who" 9 1 false "" "" 24), (Field.mk "Tree" 63 2 false "" "" 40)]) := ⟨Tryz.underlying68⟩
instance :Inf Tryz.prog 68 3 64 (Value.agg #[(Value.slice none 0 0),(Value.string (ByteArray.mk #[])),(Value.slice none 0 0)]):=⟨by kernel_rfl⟩
instance :Flat Tryz.prog 68 3:=⟨_,Tryz.underlying68,by kernel_rfl,by kernel_rfl⟩
instance :Fld Tryz.prog 68 0 0:=Flat.fld (n:=3) (by decide)
instance :Fld Tryz.prog 68 1 1:=Flat.fld (n:=3) (by decide)
instance :Fld Tryz.prog 68 2 2:=Flat.fld (n:=3) (by decide)
instance : Und Tryz.prog 110 (TypeDesc.struct #[(Field.mk "Path" 9 0 false "" "" 0), (Field.mk "Who" 9 1 false "" "" 16)]) := ⟨Tryz.underlying110⟩
instance :Inf Tryz.prog 110 2 32 (Value.agg #[(Value.string (ByteArray.mk #[])),(Value.string (ByteArray.mk #[]))]):=⟨by kernel_rfl⟩
instance :Flat Tryz.prog 110 2:=⟨_,Tryz.underlying110,by kernel_rfl,by kernel_rfl⟩
instance :Fld Tryz.prog 110 0 0:=Flat.fld (n:=2) (by decide)
instance :Fld Tryz.prog 110 1 1:=Flat.fld (n:=2) (by decide)
instance : Und Tryz.prog 111 (TypeDesc.struct #[(Field.mk "Path" 9 0 false "" "" 0), (Field.mk "Who" 9 1 false "" "" 16)]) := ⟨Tryz.underlying111⟩
instance :Inf Tryz.prog 111 2 32 (Value.agg #[(Value.string (ByteArray.mk #[])),(Value.string (ByteArray.mk #[]))]):=⟨by kernel_rfl⟩
instance :Flat Tryz.prog 111 2:=⟨_,Tryz.underlying111,by kernel_rfl,by kernel_rfl⟩
instance :Fld Tryz.prog 111 0 0:=Flat.fld (n:=2) (by decide)
instance :Fld Tryz.prog 111 1 1:=Flat.fld (n:=2) (by decide)
instance : Und Tryz.prog 115 (TypeDesc.struct #[(Field.mk "Path" 9 0 false "" "" 0), (Field.mk "Who" 9 1 false "" "" 16)]) := ⟨Tryz.underlying115⟩
instance :Inf Tryz.prog 115 2 32 (Value.agg #[(Value.string (ByteArray.mk #[])),(Value.string (ByteArray.mk #[]))]):=⟨by kernel_rfl⟩
instance :Flat Tryz.prog 115 2:=⟨_,Tryz.underlying115,by kernel_rfl,by kernel_rfl⟩
instance :Fld Tryz.prog 115 0 0:=Flat.fld (n:=2) (by decide)
instance :Fld Tryz.prog 115 1 1:=Flat.fld (n:=2) (by decide)
instance :Und Tryz.prog 119 (TypeDesc.slice 176):=⟨Tryz.underlying119⟩
instance :Inf Tryz.prog 119 1 24 (Value.slice none 0 0):=⟨by kernel_rfl⟩
instance : Und Tryz.prog 129 (TypeDesc.struct #[(Field.mk "Name" 9 0 false "" "" 0), (Field.mk "At" 3 1 false "" "" 16)]) := ⟨Tryz.underlying129⟩
instance :Inf Tryz.prog 129 2 24 (Value.agg #[(Value.string (ByteArray.mk #[])),(Value.int IntKind.i64 0)]):=⟨by kernel_rfl⟩
instance :Flat Tryz.prog 129 2:=⟨_,Tryz.underlying129,by kernel_rfl,by kernel_rfl⟩
instance :Fld Tryz.prog 129 0 0:=Flat.fld (n:=2) (by decide)
instance :Fld Tryz.prog 129 1 1:=Flat.fld (n:=2) (by decide)
instance : Und Tryz.prog 130 (TypeDesc.struct #[(Field.mk "Name" 9 0 false "" "" 0), (Field.mk "At" 3 1 false "" "" 16)]) := ⟨Tryz.underlying130⟩
instance :Inf Tryz.prog 130 2 24 (Value.agg #[(Value.string (ByteArray.mk #[])),(Value.int IntKind.i64 0)]):=⟨by kernel_rfl⟩
instance :Ssi Tryz.prog 130:=⟨by kernel_rfl,by kernel_rfl,_,_,Tryz.underlying130,by decide,by decide,rfl,rfl,Tryz.underlying9,_,Tryz.underlying3⟩
instance :Flat Tryz.prog 130 2:=⟨_,Tryz.underlying130,by kernel_rfl,by kernel_rfl⟩
instance :Fld Tryz.prog 130 0 0:=Flat.fld (n:=2) (by decide)
instance :Fld Tryz.prog 130 1 1:=Flat.fld (n:=2) (by decide)
instance : Und Tryz.prog 134 (TypeDesc.struct #[(Field.mk "Path" 9 0 false "" "" 0), (Field.mk "Text" 40 1 false "" "" 16)]) := ⟨Tryz.underlying134⟩
instance :Inf Tryz.prog 134 2 40 (Value.agg #[(Value.string (ByteArray.mk #[])),(Value.slice none 0 0)]):=⟨by kernel_rfl⟩
instance :Flat Tryz.prog 134 2:=⟨_,Tryz.underlying134,by kernel_rfl,by kernel_rfl⟩
instance :Fld Tryz.prog 134 0 0:=Flat.fld (n:=2) (by decide)
instance :Fld Tryz.prog 134 1 1:=Flat.fld (n:=2) (by decide)
instance : Und Tryz.prog 135 (TypeDesc.struct #[(Field.mk "Path" 9 0 false "" "" 0), (Field.mk "Text" 40 1 false "" "" 16)]) := ⟨Tryz.underlying135⟩
instance :Inf Tryz.prog 135 2 40 (Value.agg #[(Value.string (ByteArray.mk #[])),(Value.slice none 0 0)]):=⟨by kernel_rfl⟩
instance :Flat Tryz.prog 135 2:=⟨_,Tryz.underlying135,by kernel_rfl,by kernel_rfl⟩
instance :Fld Tryz.prog 135 0 0:=Flat.fld (n:=2) (by decide)
instance :Fld Tryz.prog 135 1 1:=Flat.fld (n:=2) (by decide)
instance :Und Tryz.prog 137 (TypeDesc.slice 191):=⟨Tryz.underlying137⟩
instance :Inf Tryz.prog 137 1 24 (Value.slice none 0 0):=⟨by kernel_rfl⟩
instance :Und Tryz.prog 142 (TypeDesc.slice 4):=⟨Tryz.underlying142⟩
instance :Inf Tryz.prog 142 1 24 (Value.slice none 0 0):=⟨by kernel_rfl⟩
instance :Und Tryz.prog 144 (TypeDesc.pointer 193):=⟨Tryz.underlying144⟩
instance :Inf Tryz.prog 144 1 8 (Value.pointer none):=⟨by kernel_rfl⟩
instance :Und Tryz.prog 154 (TypeDesc.slice 219):=⟨Tryz.underlying154⟩
instance :Inf Tryz.prog 154 1 24 (Value.slice none 0 0):=⟨by kernel_rfl⟩
instance : Und Tryz.prog 155 (TypeDesc.struct #[(Field.mk "Parents" 66 0 false "" "" 0), (Field.mk "Who" 9 1 false "" "" 24), (Field.mk "Tree" 154 2 false "" "" 40)]) := ⟨Tryz.underlying155⟩
instance :Inf Tryz.prog 155 3 64 (Value.agg #[(Value.slice none 0 0),(Value.string (ByteArray.mk #[])),(Value.slice none 0 0)]):=⟨by kernel_rfl⟩
instance :Flat Tryz.prog 155 3:=⟨_,Tryz.underlying155,by kernel_rfl,by kernel_rfl⟩
instance :Fld Tryz.prog 155 0 0:=Flat.fld (n:=3) (by decide)
instance :Fld Tryz.prog 155 1 1:=Flat.fld (n:=3) (by decide)
instance :Fld Tryz.prog 155 2 2:=Flat.fld (n:=3) (by decide)
instance : Und Tryz.prog 156 (TypeDesc.struct #[(Field.mk "Parents" 66 0 false "" "" 0), (Field.mk "Who" 9 1 false "" "" 24), (Field.mk "Tree" 154 2 false "" "" 40)]) := ⟨Tryz.underlying156⟩
instance :Inf Tryz.prog 156 3 64 (Value.agg #[(Value.slice none 0 0),(Value.string (ByteArray.mk #[])),(Value.slice none 0 0)]):=⟨by kernel_rfl⟩
instance :Flat Tryz.prog 156 3:=⟨_,Tryz.underlying156,by kernel_rfl,by kernel_rfl⟩
instance :Fld Tryz.prog 156 0 0:=Flat.fld (n:=3) (by decide)
instance :Fld Tryz.prog 156 1 1:=Flat.fld (n:=3) (by decide)
instance :Fld Tryz.prog 156 2 2:=Flat.fld (n:=3) (by decide)
instance : Und Tryz.prog 158 (TypeDesc.struct #[(Field.mk "Name" 9 0 false "" "" 0), (Field.mk "At" 3 1 false "" "" 16)]) := ⟨Tryz.underlying158⟩
instance :Inf Tryz.prog 158 2 24 (Value.agg #[(Value.string (ByteArray.mk #[])),(Value.int IntKind.i64 0)]):=⟨by kernel_rfl⟩
instance :Flat Tryz.prog 158 2:=⟨_,Tryz.underlying158,by kernel_rfl,by kernel_rfl⟩
instance :Fld Tryz.prog 158 0 0:=Flat.fld (n:=2) (by decide)
instance :Fld Tryz.prog 158 1 1:=Flat.fld (n:=2) (by decide)
instance :Und Tryz.prog 174 (TypeDesc.slice 207):=⟨Tryz.underlying174⟩
instance :Inf Tryz.prog 174 1 24 (Value.slice none 0 0):=⟨by kernel_rfl⟩
instance : Und Tryz.prog 175 (TypeDesc.struct #[(Field.mk "Kind" 3 0 false "" "" 0), (Field.mk "Path" 9 1 false "" "" 8), (Field.mk "To" 9 2 false "" "" 24), (Field.mk "Text" 40 3 false "" "" 40), (Field.mk "Patch" 174 4 false "" "" 64)]) := ⟨Tryz.underlying175⟩
instance :Inf Tryz.prog 175 5 88 (Value.agg #[(Value.int IntKind.i64 0),(Value.string (ByteArray.mk #[])),(Value.string (ByteArray.mk #[])),(Value.slice none 0 0),(Value.slice none 0 0)]):=⟨by kernel_rfl⟩
instance :Flat Tryz.prog 175 5:=⟨_,Tryz.underlying175,by kernel_rfl,by kernel_rfl⟩
instance :Fld Tryz.prog 175 0 0:=Flat.fld (n:=5) (by decide)
instance :Fld Tryz.prog 175 1 1:=Flat.fld (n:=5) (by decide)
instance :Fld Tryz.prog 175 2 2:=Flat.fld (n:=5) (by decide)
instance :Fld Tryz.prog 175 3 3:=Flat.fld (n:=5) (by decide)
instance :Fld Tryz.prog 175 4 4:=Flat.fld (n:=5) (by decide)
instance : Und Tryz.prog 176 (TypeDesc.struct #[(Field.mk "Kind" 3 0 false "" "" 0), (Field.mk "Path" 9 1 false "" "" 8), (Field.mk "To" 9 2 false "" "" 24), (Field.mk "Text" 40 3 false "" "" 40), (Field.mk "Patch" 174 4 false "" "" 64)]) := ⟨Tryz.underlying176⟩
instance :Inf Tryz.prog 176 5 88 (Value.agg #[(Value.int IntKind.i64 0),(Value.string (ByteArray.mk #[])),(Value.string (ByteArray.mk #[])),(Value.slice none 0 0),(Value.slice none 0 0)]):=⟨by kernel_rfl⟩
instance :Flat Tryz.prog 176 5:=⟨_,Tryz.underlying176,by kernel_rfl,by kernel_rfl⟩
instance :Fld Tryz.prog 176 0 0:=Flat.fld (n:=5) (by decide)
instance :Fld Tryz.prog 176 1 1:=Flat.fld (n:=5) (by decide)
instance :Fld Tryz.prog 176 2 2:=Flat.fld (n:=5) (by decide)
instance :Fld Tryz.prog 176 3 3:=Flat.fld (n:=5) (by decide)
instance :Fld Tryz.prog 176 4 4:=Flat.fld (n:=5) (by decide)
instance : Und Tryz.prog 185 (TypeDesc.struct #[(Field.mk "text" 40 0 false "" "loop.example/versioncontrol/impl" 0), (Field.mk "file" 4 1 false "" "loop.example/versioncontrol/impl" 24)]) := ⟨Tryz.underlying185⟩
instance :Inf Tryz.prog 185 2 32 (Value.agg #[(Value.slice none 0 0),(Value.bool false)]):=⟨by kernel_rfl⟩
instance :Flat Tryz.prog 185 2:=⟨_,Tryz.underlying185,by kernel_rfl,by kernel_rfl⟩
instance :Fld Tryz.prog 185 0 0:=Flat.fld (n:=2) (by decide)
instance :Fld Tryz.prog 185 1 1:=Flat.fld (n:=2) (by decide)
instance : Und Tryz.prog 186 (TypeDesc.struct #[(Field.mk "text" 40 0 false "" "loop.example/versioncontrol/impl" 0), (Field.mk "file" 4 1 false "" "loop.example/versioncontrol/impl" 24)]) := ⟨Tryz.underlying186⟩
instance :Inf Tryz.prog 186 2 32 (Value.agg #[(Value.slice none 0 0),(Value.bool false)]):=⟨by kernel_rfl⟩
instance :Flat Tryz.prog 186 2:=⟨_,Tryz.underlying186,by kernel_rfl,by kernel_rfl⟩
instance :Fld Tryz.prog 186 0 0:=Flat.fld (n:=2) (by decide)
instance :Fld Tryz.prog 186 1 1:=Flat.fld (n:=2) (by decide)
instance : Und Tryz.prog 190 (TypeDesc.struct #[(Field.mk "Path" 9 0 false "" "" 0), (Field.mk "Kind" 3 1 false "" "" 16)]) := ⟨Tryz.underlying190⟩
instance :Inf Tryz.prog 190 2 24 (Value.agg #[(Value.string (ByteArray.mk #[])),(Value.int IntKind.i64 0)]):=⟨by kernel_rfl⟩
instance :Flat Tryz.prog 190 2:=⟨_,Tryz.underlying190,by kernel_rfl,by kernel_rfl⟩
instance :Fld Tryz.prog 190 0 0:=Flat.fld (n:=2) (by decide)
instance :Fld Tryz.prog 190 1 1:=Flat.fld (n:=2) (by decide)
instance : Und Tryz.prog 191 (TypeDesc.struct #[(Field.mk "Path" 9 0 false "" "" 0), (Field.mk "Kind" 3 1 false "" "" 16)]) := ⟨Tryz.underlying191⟩
instance :Inf Tryz.prog 191 2 24 (Value.agg #[(Value.string (ByteArray.mk #[])),(Value.int IntKind.i64 0)]):=⟨by kernel_rfl⟩
instance :Ssi Tryz.prog 191:=⟨by kernel_rfl,by kernel_rfl,_,_,Tryz.underlying191,by decide,by decide,rfl,rfl,Tryz.underlying9,_,Tryz.underlying3⟩
instance :Flat Tryz.prog 191 2:=⟨_,Tryz.underlying191,by kernel_rfl,by kernel_rfl⟩
instance :Fld Tryz.prog 191 0 0:=Flat.fld (n:=2) (by decide)
instance :Fld Tryz.prog 191 1 1:=Flat.fld (n:=2) (by decide)
instance : Und Tryz.prog 192 (TypeDesc.struct #[(Field.mk "b" 58 0 false "" "loop.example/versioncontrol/spec" 0), (Field.mk "p" 3 1 false "" "loop.example/versioncontrol/spec" 24)]) := ⟨Tryz.underlying192⟩
instance :Inf Tryz.prog 192 2 32 (Value.agg #[(Value.slice none 0 0),(Value.int IntKind.i64 0)]):=⟨by kernel_rfl⟩
instance :Flat Tryz.prog 192 2:=⟨_,Tryz.underlying192,by kernel_rfl,by kernel_rfl⟩
instance :Fld Tryz.prog 192 0 0:=Flat.fld (n:=2) (by decide)
instance :Fld Tryz.prog 192 1 1:=Flat.fld (n:=2) (by decide)
instance : Und Tryz.prog 193 (TypeDesc.struct #[(Field.mk "b" 58 0 false "" "loop.example/versioncontrol/spec" 0), (Field.mk "p" 3 1 false "" "loop.example/versioncontrol/spec" 24)]) := ⟨Tryz.underlying193⟩
instance :Inf Tryz.prog 193 2 32 (Value.agg #[(Value.slice none 0 0),(Value.int IntKind.i64 0)]):=⟨by kernel_rfl⟩
instance :Flat Tryz.prog 193 2:=⟨_,Tryz.underlying193,by kernel_rfl,by kernel_rfl⟩
instance :Fld Tryz.prog 193 0 0:=Flat.fld (n:=2) (by decide)
instance :Fld Tryz.prog 193 1 1:=Flat.fld (n:=2) (by decide)
instance :Und Tryz.prog 204 (TypeDesc.int IntKind.u64):=⟨Tryz.underlying204⟩
instance :Inf Tryz.prog 204 1 8 (Value.int IntKind.u64 0):=⟨by kernel_rfl⟩
instance : Und Tryz.prog 206 (TypeDesc.struct #[(Field.mk "At" 3 0 false "" "" 0), (Field.mk "Less" 40 1 false "" "" 8), (Field.mk "More" 40 2 false "" "" 32)]) := ⟨Tryz.underlying206⟩
instance :Inf Tryz.prog 206 3 56 (Value.agg #[(Value.int IntKind.i64 0),(Value.slice none 0 0),(Value.slice none 0 0)]):=⟨by kernel_rfl⟩
instance :Flat Tryz.prog 206 3:=⟨_,Tryz.underlying206,by kernel_rfl,by kernel_rfl⟩
instance :Fld Tryz.prog 206 0 0:=Flat.fld (n:=3) (by decide)
instance :Fld Tryz.prog 206 1 1:=Flat.fld (n:=3) (by decide)
instance :Fld Tryz.prog 206 2 2:=Flat.fld (n:=3) (by decide)
instance : Und Tryz.prog 207 (TypeDesc.struct #[(Field.mk "At" 3 0 false "" "" 0), (Field.mk "Less" 40 1 false "" "" 8), (Field.mk "More" 40 2 false "" "" 32)]) := ⟨Tryz.underlying207⟩
instance :Inf Tryz.prog 207 3 56 (Value.agg #[(Value.int IntKind.i64 0),(Value.slice none 0 0),(Value.slice none 0 0)]):=⟨by kernel_rfl⟩
instance :Flat Tryz.prog 207 3:=⟨_,Tryz.underlying207,by kernel_rfl,by kernel_rfl⟩
instance :Fld Tryz.prog 207 0 0:=Flat.fld (n:=3) (by decide)
instance :Fld Tryz.prog 207 1 1:=Flat.fld (n:=3) (by decide)
instance :Fld Tryz.prog 207 2 2:=Flat.fld (n:=3) (by decide)
instance :Und Tryz.prog 209 (TypeDesc.slice 63):=⟨Tryz.underlying209⟩
instance :Inf Tryz.prog 209 1 24 (Value.slice none 0 0):=⟨by kernel_rfl⟩
instance :Und Tryz.prog 216 (TypeDesc.slice 250):=⟨Tryz.underlying216⟩
instance :Inf Tryz.prog 216 1 24 (Value.slice none 0 0):=⟨by kernel_rfl⟩
instance : Und Tryz.prog 219 (TypeDesc.struct #[(Field.mk "Path" 9 0 false "" "" 0), (Field.mk "Text" 40 1 false "" "" 16)]) := ⟨Tryz.underlying219⟩
instance :Inf Tryz.prog 219 2 40 (Value.agg #[(Value.string (ByteArray.mk #[])),(Value.slice none 0 0)]):=⟨by kernel_rfl⟩
instance :Flat Tryz.prog 219 2:=⟨_,Tryz.underlying219,by kernel_rfl,by kernel_rfl⟩
instance :Fld Tryz.prog 219 0 0:=Flat.fld (n:=2) (by decide)
instance :Fld Tryz.prog 219 1 1:=Flat.fld (n:=2) (by decide)
instance :Und Tryz.prog 227 (TypeDesc.int IntKind.i64):=⟨Tryz.underlying227⟩
instance :Inf Tryz.prog 227 1 8 (Value.int IntKind.i64 0):=⟨by kernel_rfl⟩
instance :Und Tryz.prog 235 (TypeDesc.int IntKind.u32):=⟨Tryz.underlying235⟩
instance :Inf Tryz.prog 235 1 4 (Value.int IntKind.u32 0):=⟨by kernel_rfl⟩
instance :Und Tryz.prog 237 (TypeDesc.int IntKind.u64):=⟨Tryz.underlying237⟩
instance :Inf Tryz.prog 237 1 8 (Value.int IntKind.u64 0):=⟨by kernel_rfl⟩
instance :Und Tryz.prog 238 (TypeDesc.slice 66):=⟨Tryz.underlying238⟩
instance :Inf Tryz.prog 238 1 24 (Value.slice none 0 0):=⟨by kernel_rfl⟩
instance : Und Tryz.prog 241 (TypeDesc.struct #[(Field.mk "Clash" 4 0 false "" "" 0), (Field.mk "Lines" 40 1 false "" "" 8), (Field.mk "Old" 40 2 false "" "" 32), (Field.mk "One" 40 3 false "" "" 56), (Field.mk "Two" 40 4 false "" "" 80)]) := ⟨Tryz.underlying241⟩
instance :Inf Tryz.prog 241 5 104 (Value.agg #[(Value.bool false),(Value.slice none 0 0),(Value.slice none 0 0),(Value.slice none 0 0),(Value.slice none 0 0)]):=⟨by kernel_rfl⟩
instance :Flat Tryz.prog 241 5:=⟨_,Tryz.underlying241,by kernel_rfl,by kernel_rfl⟩
instance :Fld Tryz.prog 241 0 0:=Flat.fld (n:=5) (by decide)
instance :Fld Tryz.prog 241 1 1:=Flat.fld (n:=5) (by decide)
instance :Fld Tryz.prog 241 2 2:=Flat.fld (n:=5) (by decide)
instance :Fld Tryz.prog 241 3 3:=Flat.fld (n:=5) (by decide)
instance :Fld Tryz.prog 241 4 4:=Flat.fld (n:=5) (by decide)
instance : Und Tryz.prog 242 (TypeDesc.struct #[(Field.mk "Clash" 4 0 false "" "" 0), (Field.mk "Lines" 40 1 false "" "" 8), (Field.mk "Old" 40 2 false "" "" 32), (Field.mk "One" 40 3 false "" "" 56), (Field.mk "Two" 40 4 false "" "" 80)]) := ⟨Tryz.underlying242⟩
instance :Inf Tryz.prog 242 5 104 (Value.agg #[(Value.bool false),(Value.slice none 0 0),(Value.slice none 0 0),(Value.slice none 0 0),(Value.slice none 0 0)]):=⟨by kernel_rfl⟩
instance :Flat Tryz.prog 242 5:=⟨_,Tryz.underlying242,by kernel_rfl,by kernel_rfl⟩
instance :Fld Tryz.prog 242 0 0:=Flat.fld (n:=5) (by decide)
instance :Fld Tryz.prog 242 1 1:=Flat.fld (n:=5) (by decide)
instance :Fld Tryz.prog 242 2 2:=Flat.fld (n:=5) (by decide)
instance :Fld Tryz.prog 242 3 3:=Flat.fld (n:=5) (by decide)
instance :Fld Tryz.prog 242 4 4:=Flat.fld (n:=5) (by decide)
instance :Und Tryz.prog 246 (TypeDesc.slice 242):=⟨Tryz.underlying246⟩
instance :Inf Tryz.prog 246 1 24 (Value.slice none 0 0):=⟨by kernel_rfl⟩
instance : Und Tryz.prog 249 (TypeDesc.struct #[(Field.mk "Kind" 3 0 false "" "" 0), (Field.mk "Branch" 9 1 false "" "" 8), (Field.mk "Who" 9 2 false "" "" 24), (Field.mk "Path" 9 3 false "" "" 40), (Field.mk "To" 9 4 false "" "" 56), (Field.mk "At" 3 5 false "" "" 72), (Field.mk "Text" 40 6 false "" "" 80)]) := ⟨Tryz.underlying249⟩
instance :Inf Tryz.prog 249 7 104 (Value.agg #[(Value.int IntKind.i64 0),(Value.string (ByteArray.mk #[])),(Value.string (ByteArray.mk #[])),(Value.string (ByteArray.mk #[])),(Value.string (ByteArray.mk #[])),(Value.int IntKind.i64 0),(Value.slice none 0 0)]):=⟨by kernel_rfl⟩
instance :Flat Tryz.prog 249 7:=⟨_,Tryz.underlying249,by kernel_rfl,by kernel_rfl⟩
instance :Fld Tryz.prog 249 0 0:=Flat.fld (n:=7) (by decide)
instance :Fld Tryz.prog 249 1 1:=Flat.fld (n:=7) (by decide)
instance :Fld Tryz.prog 249 2 2:=Flat.fld (n:=7) (by decide)
instance :Fld Tryz.prog 249 3 3:=Flat.fld (n:=7) (by decide)
instance :Fld Tryz.prog 249 4 4:=Flat.fld (n:=7) (by decide)
instance :Fld Tryz.prog 249 5 5:=Flat.fld (n:=7) (by decide)
instance :Fld Tryz.prog 249 6 6:=Flat.fld (n:=7) (by decide)
instance : Und Tryz.prog 250 (TypeDesc.struct #[(Field.mk "Kind" 3 0 false "" "" 0), (Field.mk "Branch" 9 1 false "" "" 8), (Field.mk "Who" 9 2 false "" "" 24), (Field.mk "Path" 9 3 false "" "" 40), (Field.mk "To" 9 4 false "" "" 56), (Field.mk "At" 3 5 false "" "" 72), (Field.mk "Text" 40 6 false "" "" 80)]) := ⟨Tryz.underlying250⟩
instance :Inf Tryz.prog 250 7 104 (Value.agg #[(Value.int IntKind.i64 0),(Value.string (ByteArray.mk #[])),(Value.string (ByteArray.mk #[])),(Value.string (ByteArray.mk #[])),(Value.string (ByteArray.mk #[])),(Value.int IntKind.i64 0),(Value.slice none 0 0)]):=⟨by kernel_rfl⟩
instance :Flat Tryz.prog 250 7:=⟨_,Tryz.underlying250,by kernel_rfl,by kernel_rfl⟩
instance :Fld Tryz.prog 250 0 0:=Flat.fld (n:=7) (by decide)
instance :Fld Tryz.prog 250 1 1:=Flat.fld (n:=7) (by decide)
instance :Fld Tryz.prog 250 2 2:=Flat.fld (n:=7) (by decide)
instance :Fld Tryz.prog 250 3 3:=Flat.fld (n:=7) (by decide)
instance :Fld Tryz.prog 250 4 4:=Flat.fld (n:=7) (by decide)
instance :Fld Tryz.prog 250 5 5:=Flat.fld (n:=7) (by decide)
instance :Fld Tryz.prog 250 6 6:=Flat.fld (n:=7) (by decide)
instance :Und Tryz.prog 257 (TypeDesc.int IntKind.u64):=⟨Tryz.underlying257⟩
instance :Inf Tryz.prog 257 1 8 (Value.int IntKind.u64 0):=⟨by kernel_rfl⟩
instance :Und Tryz.prog 261 (TypeDesc.pointer 3):=⟨Tryz.underlying261⟩
instance :Inf Tryz.prog 261 1 8 (Value.pointer none):=⟨by kernel_rfl⟩
instance :Und Tryz.prog 279 (TypeDesc.pointer 257):=⟨Tryz.underlying279⟩
instance :Inf Tryz.prog 279 1 8 (Value.pointer none):=⟨by kernel_rfl⟩
instance : Und Tryz.prog 286 (TypeDesc.struct #[(Field.mk "lo" 5 0 false "" "unicode/utf8" 0), (Field.mk "hi" 5 1 false "" "unicode/utf8" 1)]) := ⟨Tryz.underlying286⟩
instance :Inf Tryz.prog 286 2 2 (Value.agg #[(Value.int IntKind.u8 0),(Value.int IntKind.u8 0)]):=⟨by kernel_rfl⟩
instance :Flat Tryz.prog 286 2:=⟨_,Tryz.underlying286,by kernel_rfl,by kernel_rfl⟩
instance :Fld Tryz.prog 286 0 0:=Flat.fld (n:=2) (by decide)
instance :Fld Tryz.prog 286 1 1:=Flat.fld (n:=2) (by decide)
instance : Und Tryz.prog 287 (TypeDesc.struct #[(Field.mk "lo" 5 0 false "" "unicode/utf8" 0), (Field.mk "hi" 5 1 false "" "unicode/utf8" 1)]) := ⟨Tryz.underlying287⟩
instance :Inf Tryz.prog 287 2 2 (Value.agg #[(Value.int IntKind.u8 0),(Value.int IntKind.u8 0)]):=⟨by kernel_rfl⟩
instance :Flat Tryz.prog 287 2:=⟨_,Tryz.underlying287,by kernel_rfl,by kernel_rfl⟩
instance :Fld Tryz.prog 287 0 0:=Flat.fld (n:=2) (by decide)
instance :Fld Tryz.prog 287 1 1:=Flat.fld (n:=2) (by decide)
instance :Und Tryz.prog 301 (TypeDesc.pointer 5):=⟨Tryz.underlying301⟩
instance :Inf Tryz.prog 301 1 8 (Value.pointer none):=⟨by kernel_rfl⟩
instance :Fun Tryz.prog 8:=⟨_,Tryz.func8,by kernel_rfl,by kernel_rfl⟩
instance :Fun Tryz.prog 9:=⟨_,Tryz.func9,by kernel_rfl,by kernel_rfl⟩
instance :Fun Tryz.prog 10:=⟨_,Tryz.func10,by kernel_rfl,by kernel_rfl⟩
instance :Fun Tryz.prog 11:=⟨_,Tryz.func11,by kernel_rfl,by kernel_rfl⟩
instance :Fun Tryz.prog 12:=⟨_,Tryz.func12,by kernel_rfl,by kernel_rfl⟩
instance :Fun Tryz.prog 13:=⟨_,Tryz.func13,by kernel_rfl,by kernel_rfl⟩
instance :Fun Tryz.prog 14:=⟨_,Tryz.func14,by kernel_rfl,by kernel_rfl⟩
instance :Fun Tryz.prog 16:=⟨_,Tryz.func16,by kernel_rfl,by kernel_rfl⟩
instance :Fun Tryz.prog 18:=⟨_,Tryz.func18,by kernel_rfl,by kernel_rfl⟩
instance :Fun Tryz.prog 22:=⟨_,Tryz.func22,by kernel_rfl,by kernel_rfl⟩
instance :Fun Tryz.prog 23:=⟨_,Tryz.func23,by kernel_rfl,by kernel_rfl⟩
instance :Fun Tryz.prog 24:=⟨_,Tryz.func24,by kernel_rfl,by kernel_rfl⟩
instance :Fun Tryz.prog 41:=⟨_,Tryz.func41,by kernel_rfl,by kernel_rfl⟩
instance :Fun Tryz.prog 42:=⟨_,Tryz.func42,by kernel_rfl,by kernel_rfl⟩
instance :Fun Tryz.prog 43:=⟨_,Tryz.func43,by kernel_rfl,by kernel_rfl⟩
instance :Fun Tryz.prog 44:=⟨_,Tryz.func44,by kernel_rfl,by kernel_rfl⟩
instance :Fun Tryz.prog 45:=⟨_,Tryz.func45,by kernel_rfl,by kernel_rfl⟩
instance :Fun Tryz.prog 46:=⟨_,Tryz.func46,by kernel_rfl,by kernel_rfl⟩
instance :Fun Tryz.prog 47:=⟨_,Tryz.func47,by kernel_rfl,by kernel_rfl⟩
instance :Fun Tryz.prog 48:=⟨_,Tryz.func48,by kernel_rfl,by kernel_rfl⟩
instance :Fun Tryz.prog 49:=⟨_,Tryz.func49,by kernel_rfl,by kernel_rfl⟩
instance :Fun Tryz.prog 50:=⟨_,Tryz.func50,by kernel_rfl,by kernel_rfl⟩
instance :Fun Tryz.prog 51:=⟨_,Tryz.func51,by kernel_rfl,by kernel_rfl⟩
instance :Fun Tryz.prog 52:=⟨_,Tryz.func52,by kernel_rfl,by kernel_rfl⟩
instance :Fun Tryz.prog 53:=⟨_,Tryz.func53,by kernel_rfl,by kernel_rfl⟩
instance :Fun Tryz.prog 54:=⟨_,Tryz.func54,by kernel_rfl,by kernel_rfl⟩
instance :Fun Tryz.prog 55:=⟨_,Tryz.func55,by kernel_rfl,by kernel_rfl⟩
instance :Fun Tryz.prog 56:=⟨_,Tryz.func56,by kernel_rfl,by kernel_rfl⟩
instance :Fun Tryz.prog 57:=⟨_,Tryz.func57,by kernel_rfl,by kernel_rfl⟩
instance :Fun Tryz.prog 58:=⟨_,Tryz.func58,by kernel_rfl,by kernel_rfl⟩
instance :Fun Tryz.prog 59:=⟨_,Tryz.func59,by kernel_rfl,by kernel_rfl⟩
instance :Fun Tryz.prog 60:=⟨_,Tryz.func60,by kernel_rfl,by kernel_rfl⟩
instance :Fun Tryz.prog 61:=⟨_,Tryz.func61,by kernel_rfl,by kernel_rfl⟩
instance :Fun Tryz.prog 62:=⟨_,Tryz.func62,by kernel_rfl,by kernel_rfl⟩
instance :Fun Tryz.prog 63:=⟨_,Tryz.func63,by kernel_rfl,by kernel_rfl⟩
instance :Fun Tryz.prog 64:=⟨_,Tryz.func64,by kernel_rfl,by kernel_rfl⟩
instance :Fun Tryz.prog 65:=⟨_,Tryz.func65,by kernel_rfl,by kernel_rfl⟩
instance :Fun Tryz.prog 68:=⟨_,Tryz.func68,by kernel_rfl,by kernel_rfl⟩
instance :Fun Tryz.prog 69:=⟨_,Tryz.func69,by kernel_rfl,by kernel_rfl⟩
instance :Fun Tryz.prog 70:=⟨_,Tryz.func70,by kernel_rfl,by kernel_rfl⟩
instance :Fun Tryz.prog 71:=⟨_,Tryz.func71,by kernel_rfl,by kernel_rfl⟩
instance :Fun Tryz.prog 72:=⟨_,Tryz.func72,by kernel_rfl,by kernel_rfl⟩
instance :Fun Tryz.prog 73:=⟨_,Tryz.func73,by kernel_rfl,by kernel_rfl⟩
instance :Fun Tryz.prog 74:=⟨_,Tryz.func74,by kernel_rfl,by kernel_rfl⟩
instance :Fun Tryz.prog 77:=⟨_,Tryz.func77,by kernel_rfl,by kernel_rfl⟩
instance :Fun Tryz.prog 84:=⟨_,Tryz.func84,by kernel_rfl,by kernel_rfl⟩
instance :Fun Tryz.prog 87:=⟨_,Tryz.func87,by kernel_rfl,by kernel_rfl⟩
instance :Fun Tryz.prog 88:=⟨_,Tryz.func88,by kernel_rfl,by kernel_rfl⟩
instance :Fun Tryz.prog 89:=⟨_,Tryz.func89,by kernel_rfl,by kernel_rfl⟩
instance :Fun Tryz.prog 90:=⟨_,Tryz.func90,by kernel_rfl,by kernel_rfl⟩
instance :Fun Tryz.prog 91:=⟨_,Tryz.func91,by kernel_rfl,by kernel_rfl⟩
instance :Fun Tryz.prog 92:=⟨_,Tryz.func92,by kernel_rfl,by kernel_rfl⟩
instance :Fun Tryz.prog 104:=⟨_,Tryz.func104,by kernel_rfl,by kernel_rfl⟩
instance :Fun Tryz.prog 105:=⟨_,Tryz.func105,by kernel_rfl,by kernel_rfl⟩
instance :Fun Tryz.prog 111:=⟨_,Tryz.func111,by kernel_rfl,by kernel_rfl⟩
instance :Fun Tryz.prog 112:=⟨_,Tryz.func112,by kernel_rfl,by kernel_rfl⟩
instance :Fun Tryz.prog 113:=⟨_,Tryz.func113,by kernel_rfl,by kernel_rfl⟩
instance :Fun Tryz.prog 114:=⟨_,Tryz.func114,by kernel_rfl,by kernel_rfl⟩
instance :Fun Tryz.prog 115:=⟨_,Tryz.func115,by kernel_rfl,by kernel_rfl⟩
instance :Fun Tryz.prog 116:=⟨_,Tryz.func116,by kernel_rfl,by kernel_rfl⟩
instance :Fun Tryz.prog 117:=⟨_,Tryz.func117,by kernel_rfl,by kernel_rfl⟩
instance :Fun Tryz.prog 118:=⟨_,Tryz.func118,by kernel_rfl,by kernel_rfl⟩
instance :Fun Tryz.prog 119:=⟨_,Tryz.func119,by kernel_rfl,by kernel_rfl⟩
instance :Fun Tryz.prog 120:=⟨_,Tryz.func120,by kernel_rfl,by kernel_rfl⟩
instance :Fun Tryz.prog 121:=⟨_,Tryz.func121,by kernel_rfl,by kernel_rfl⟩
instance :Fun Tryz.prog 122:=⟨_,Tryz.func122,by kernel_rfl,by kernel_rfl⟩
instance :Fun Tryz.prog 123:=⟨_,Tryz.func123,by kernel_rfl,by kernel_rfl⟩
instance :Fun Tryz.prog 124:=⟨_,Tryz.func124,by kernel_rfl,by kernel_rfl⟩
instance :Fun Tryz.prog 125:=⟨_,Tryz.func125,by kernel_rfl,by kernel_rfl⟩
instance :Fun Tryz.prog 126:=⟨_,Tryz.func126,by kernel_rfl,by kernel_rfl⟩
instance :Fun Tryz.prog 127:=⟨_,Tryz.func127,by kernel_rfl,by kernel_rfl⟩
instance :Fun Tryz.prog 128:=⟨_,Tryz.func128,by kernel_rfl,by kernel_rfl⟩
instance :Fun Tryz.prog 129:=⟨_,Tryz.func129,by kernel_rfl,by kernel_rfl⟩
instance :Fun Tryz.prog 130:=⟨_,Tryz.func130,by kernel_rfl,by kernel_rfl⟩
instance :Fun Tryz.prog 131:=⟨_,Tryz.func131,by kernel_rfl,by kernel_rfl⟩
instance :Fun Tryz.prog 132:=⟨_,Tryz.func132,by kernel_rfl,by kernel_rfl⟩
instance :Fun Tryz.prog 133:=⟨_,Tryz.func133,by kernel_rfl,by kernel_rfl⟩
instance :Fun Tryz.prog 134:=⟨_,Tryz.func134,by kernel_rfl,by kernel_rfl⟩
instance :Fun Tryz.prog 135:=⟨_,Tryz.func135,by kernel_rfl,by kernel_rfl⟩
instance :Fun Tryz.prog 136:=⟨_,Tryz.func136,by kernel_rfl,by kernel_rfl⟩
instance :Fun Tryz.prog 137:=⟨_,Tryz.func137,by kernel_rfl,by kernel_rfl⟩
instance :Fun Tryz.prog 138:=⟨_,Tryz.func138,by kernel_rfl,by kernel_rfl⟩
instance :Fun Tryz.prog 141:=⟨_,Tryz.func141,by kernel_rfl,by kernel_rfl⟩
instance :Fun Tryz.prog 142:=⟨_,Tryz.func142,by kernel_rfl,by kernel_rfl⟩
instance :Fun Tryz.prog 143:=⟨_,Tryz.func143,by kernel_rfl,by kernel_rfl⟩
instance :Fun Tryz.prog 146:=⟨_,Tryz.func146,by kernel_rfl,by kernel_rfl⟩
instance :Fun Tryz.prog 147:=⟨_,Tryz.func147,by kernel_rfl,by kernel_rfl⟩
instance :Fun Tryz.prog 154:=⟨_,Tryz.func154,by kernel_rfl,by kernel_rfl⟩
instance :Fun Tryz.prog 155:=⟨_,Tryz.func155,by kernel_rfl,by kernel_rfl⟩
instance :Fun Tryz.prog 156:=⟨_,Tryz.func156,by kernel_rfl,by kernel_rfl⟩
instance :Fun Tryz.prog 157:=⟨_,Tryz.func157,by kernel_rfl,by kernel_rfl⟩
instance :Fun Tryz.prog 158:=⟨_,Tryz.func158,by kernel_rfl,by kernel_rfl⟩
instance :Fun Tryz.prog 161:=⟨_,Tryz.func161,by kernel_rfl,by kernel_rfl⟩
instance :Fun Tryz.prog 162:=⟨_,Tryz.func162,by kernel_rfl,by kernel_rfl⟩
instance :Fun Tryz.prog 164:=⟨_,Tryz.func164,by kernel_rfl,by kernel_rfl⟩
instance :Fun Tryz.prog 165:=⟨_,Tryz.func165,by kernel_rfl,by kernel_rfl⟩
instance :Fun Tryz.prog 166:=⟨_,Tryz.func166,by kernel_rfl,by kernel_rfl⟩
instance :Fun Tryz.prog 168:=⟨_,Tryz.func168,by kernel_rfl,by kernel_rfl⟩
instance :Fun Tryz.prog 169:=⟨_,Tryz.func169,by kernel_rfl,by kernel_rfl⟩
instance :Fun Tryz.prog 170:=⟨_,Tryz.func170,by kernel_rfl,by kernel_rfl⟩
instance :Fun Tryz.prog 172:=⟨_,Tryz.func172,by kernel_rfl,by kernel_rfl⟩
instance :Fun Tryz.prog 173:=⟨_,Tryz.func173,by kernel_rfl,by kernel_rfl⟩
instance :Fun Tryz.prog 174:=⟨_,Tryz.func174,by kernel_rfl,by kernel_rfl⟩
instance :Fun Tryz.prog 175:=⟨_,Tryz.func175,by kernel_rfl,by kernel_rfl⟩
instance :Fun Tryz.prog 176:=⟨_,Tryz.func176,by kernel_rfl,by kernel_rfl⟩
instance :Fun Tryz.prog 177:=⟨_,Tryz.func177,by kernel_rfl,by kernel_rfl⟩
instance :Fun Tryz.prog 178:=⟨_,Tryz.func178,by kernel_rfl,by kernel_rfl⟩
instance :Fun Tryz.prog 179:=⟨_,Tryz.func179,by kernel_rfl,by kernel_rfl⟩
instance :Fun Tryz.prog 180:=⟨_,Tryz.func180,by kernel_rfl,by kernel_rfl⟩
instance :Fun Tryz.prog 181:=⟨_,Tryz.func181,by kernel_rfl,by kernel_rfl⟩
instance :Fun Tryz.prog 182:=⟨_,Tryz.func182,by kernel_rfl,by kernel_rfl⟩
instance :Fun Tryz.prog 183:=⟨_,Tryz.func183,by kernel_rfl,by kernel_rfl⟩
instance :Fun Tryz.prog 186:=⟨_,Tryz.func186,by kernel_rfl,by kernel_rfl⟩
instance :Fun Tryz.prog 187:=⟨_,Tryz.func187,by kernel_rfl,by kernel_rfl⟩
instance :Fun Tryz.prog 192:=⟨_,Tryz.func192,by kernel_rfl,by kernel_rfl⟩
instance :Fun Tryz.prog 193:=⟨_,Tryz.func193,by kernel_rfl,by kernel_rfl⟩
instance :Fun Tryz.prog 196:=⟨_,Tryz.func196,by kernel_rfl,by kernel_rfl⟩
instance :Fun Tryz.prog 199:=⟨_,Tryz.func199,by kernel_rfl,by kernel_rfl⟩
instance :Fun Tryz.prog 200:=⟨_,Tryz.func200,by kernel_rfl,by kernel_rfl⟩
instance :Fun Tryz.prog 201:=⟨_,Tryz.func201,by kernel_rfl,by kernel_rfl⟩
instance :Fun Tryz.prog 202:=⟨_,Tryz.func202,by kernel_rfl,by kernel_rfl⟩
instance :Fun Tryz.prog 203:=⟨_,Tryz.func203,by kernel_rfl,by kernel_rfl⟩
instance :Fun Tryz.prog 204:=⟨_,Tryz.func204,by kernel_rfl,by kernel_rfl⟩
instance :Fun Tryz.prog 205:=⟨_,Tryz.func205,by kernel_rfl,by kernel_rfl⟩
instance :Fun Tryz.prog 206:=⟨_,Tryz.func206,by kernel_rfl,by kernel_rfl⟩
instance :Fun Tryz.prog 207:=⟨_,Tryz.func207,by kernel_rfl,by kernel_rfl⟩
instance :Fun Tryz.prog 208:=⟨_,Tryz.func208,by kernel_rfl,by kernel_rfl⟩
instance :Fun Tryz.prog 210:=⟨_,Tryz.func210,by kernel_rfl,by kernel_rfl⟩
instance :Fun Tryz.prog 216:=⟨_,Tryz.func216,by kernel_rfl,by kernel_rfl⟩
instance :Fun Tryz.prog 217:=⟨_,Tryz.func217,by kernel_rfl,by kernel_rfl⟩
instance :Fun Tryz.prog 232:=⟨_,Tryz.func232,by kernel_rfl,by kernel_rfl⟩
instance :Fun Tryz.prog 234:=⟨_,Tryz.func234,by kernel_rfl,by kernel_rfl⟩
instance :Fun Tryz.prog 235:=⟨_,Tryz.func235,by kernel_rfl,by kernel_rfl⟩
instance :Fun Tryz.prog 236:=⟨_,Tryz.func236,by kernel_rfl,by kernel_rfl⟩
instance :Fun Tryz.prog 237:=⟨_,Tryz.func237,by kernel_rfl,by kernel_rfl⟩
instance :Fun Tryz.prog 238:=⟨_,Tryz.func238,by kernel_rfl,by kernel_rfl⟩
instance :Fun Tryz.prog 239:=⟨_,Tryz.func239,by kernel_rfl,by kernel_rfl⟩
instance :Fun Tryz.prog 240:=⟨_,Tryz.func240,by kernel_rfl,by kernel_rfl⟩
instance :Fun Tryz.prog 241:=⟨_,Tryz.func241,by kernel_rfl,by kernel_rfl⟩
instance :Fun Tryz.prog 245:=⟨_,Tryz.func245,by kernel_rfl,by kernel_rfl⟩
instance :Fun Tryz.prog 255:=⟨_,Tryz.func255,by kernel_rfl,by kernel_rfl⟩
instance :Fun Tryz.prog 256:=⟨_,Tryz.func256,by kernel_rfl,by kernel_rfl⟩
instance :Fun Tryz.prog 257:=⟨_,Tryz.func257,by kernel_rfl,by kernel_rfl⟩
instance :Fun Tryz.prog 258:=⟨_,Tryz.func258,by kernel_rfl,by kernel_rfl⟩
instance :Fun Tryz.prog 259:=⟨_,Tryz.func259,by kernel_rfl,by kernel_rfl⟩
instance :Fun Tryz.prog 260:=⟨_,Tryz.func260,by kernel_rfl,by kernel_rfl⟩
instance :Fun Tryz.prog 261:=⟨_,Tryz.func261,by kernel_rfl,by kernel_rfl⟩
instance :Fun Tryz.prog 262:=⟨_,Tryz.func262,by kernel_rfl,by kernel_rfl⟩
instance :Fun Tryz.prog 263:=⟨_,Tryz.func263,by kernel_rfl,by kernel_rfl⟩
instance :Fun Tryz.prog 264:=⟨_,Tryz.func264,by kernel_rfl,by kernel_rfl⟩
instance :Fun Tryz.prog 265:=⟨_,Tryz.func265,by kernel_rfl,by kernel_rfl⟩
instance :Fun Tryz.prog 266:=⟨_,Tryz.func266,by kernel_rfl,by kernel_rfl⟩
instance :Fun Tryz.prog 267:=⟨_,Tryz.func267,by kernel_rfl,by kernel_rfl⟩
instance :Fun Tryz.prog 268:=⟨_,Tryz.func268,by kernel_rfl,by kernel_rfl⟩
instance :Fun Tryz.prog 271:=⟨_,Tryz.func271,by kernel_rfl,by kernel_rfl⟩
instance :Fun Tryz.prog 277:=⟨_,Tryz.func277,by kernel_rfl,by kernel_rfl⟩
instance :Fun Tryz.prog 278:=⟨_,Tryz.func278,by kernel_rfl,by kernel_rfl⟩
instance :Fun Tryz.prog 279:=⟨_,Tryz.func279,by kernel_rfl,by kernel_rfl⟩
instance :Fun Tryz.prog 280:=⟨_,Tryz.func280,by kernel_rfl,by kernel_rfl⟩
instance :Fun Tryz.prog 281:=⟨_,Tryz.func281,by kernel_rfl,by kernel_rfl⟩
theorem mixed:Tryz.prog.follows .mixedOrders=true:=by kernel_rfl
end Go.Sx
