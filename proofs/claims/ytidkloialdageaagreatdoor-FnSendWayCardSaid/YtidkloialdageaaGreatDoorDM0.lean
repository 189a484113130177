/- Models of the functions: plain Lean, printed by a program of ours. Conditions: none. -/
import Derived.Test.YtidkloialdageaaGreatDoorDLw
import Derived.Lib.SplitLaws
import Derived.Lib.IndexMore
import Derived.Lib.Join
import Derived.Lib.ItoaNum
namespace Go.Vm
open Go Go.Sx
set_option linter.unusedVariables false
set_option linter.unusedSimpArgs false
def spec_l30Open (x0 : List Byte) : Option (Vm.l30Rd) :=
 jn (fun (y1 : List Byte) =>
 some (Vm.l30Rd.mk y1 0)) fun K5 =>
 bif decide ((2000 : Int) < ((x0.length : Int) : Int)) then
 ((slM x0 0 2000).bind fun q13 =>
 K5 q13)
 else
 (K5 x0)
def spec_l30Rd_pick (x0 : Vm.l30Rd) (x1 : Int) : Option (Int × Int) :=
 jn (fun (y3 : Bool) =>
 bif y3 then
 (some (0, w64 (x0.p + 1)))
 else
 (bif decide ((w64 ((w64 (x0.p + 1)) - 1) : Int) < ((x0.b.length : Int) : Int)) then
 ((gi x0.b (w64 ((w64 (x0.p + 1)) - 1))).bind fun u11 =>
 (if (x1 : Int) = 0 then none else some ()).bind fun _ =>
 some (Int.tmod (w64 (UInt8.toNat u11 : Int)) x1, w64 (x0.p + 1)))
 else
 ((if ((x0.b.length : Int) : Int) = 0 then none else some ()).bind fun _ =>
 (gi x0.b (Int.tmod (w64 ((w64 (x0.p + 1)) - 1)) (x0.b.length : Int))).bind fun u19 =>
 (if ((x0.b.length : Int) : Int) = 0 then none else some ()).bind fun _ =>
 (gi x0.b (Int.tmod (w64 ((w64 ((w64 ((w64 (x0.p + 1)) - 1)) * 7)) + 3)) (x0.b.length : Int))).bind fun u22 =>
 (if ((x0.b.length : Int) : Int) = 0 then none else some ()).bind fun _ =>
 (if (x1 : Int) = 0 then none else some ()).bind fun _ =>
 some (Int.tmod (xor64 (w64 ((w64 ((w64 ((w64 ((w64 (UInt8.toNat u19 : Int)) * 131)) + (w64 ((w64 (UInt8.toNat u22 : Int)) * 1117)))) + (w64 ((w64 ((w64 (x0.p + 1)) - 1)) * 29)))) + (w64 ((w64 (Int.tdiv (w64 ((w64 (x0.p + 1)) - 1)) (x0.b.length : Int))) * 53)))) (w64 (Int.tdiv (w64 ((w64 ((w64 ((w64 ((w64 (UInt8.toNat u19 : Int)) * 131)) + (w64 ((w64 (UInt8.toNat u22 : Int)) * 1117)))) + (w64 ((w64 ((w64 (x0.p + 1)) - 1)) * 29)))) + (w64 ((w64 (Int.tdiv (w64 ((w64 (x0.p + 1)) - 1)) (x0.b.length : Int))) * 53)))) 64))) x1, w64 (x0.p + 1))))) fun K5 =>
 bif decide ((x1 : Int) < (1 : Int)) then
 (K5 true)
 else
 (K5 (((x0.b.length : Int) : Int) == (0 : Int)))
def spec_l30Rd_one (x0 : Vm.l30Rd) (x1 : List Int) : Option (Int × Int) :=
 (Vm.spec_l30Rd_pick x0 (x1.length : Int)).bind fun z1 =>
 (gi x1 z1.1).bind fun u5 =>
 some (u5, z1.2)
def spec_l30Rd_of (x0 : Vm.l30Rd) (x1 : List Str) : Option (Str × Int) :=
 (Vm.spec_l30Rd_pick x0 (x1.length : Int)).bind fun z1 =>
 (gi x1 z1.1).bind fun u5 =>
 some (u5, z1.2)
def spec_l30Branch (x0 : Vm.l30Rd) : Option (Str × Int) :=
 (Vm.spec_l30Rd_of x0 ([([109, 97, 105, 110] : Str), ([109, 97, 105, 110] : Str), ([115, 105, 100, 101] : Str), ([100, 101, 118] : Str)] : List Str)).bind fun z5 =>
 some (z5.1, z5.2)
def spec_l30Path (x0 : Vm.l30Rd) : Option (Str × Int) :=
 (Vm.spec_l30Rd_of x0 ([([97] : Str), ([98] : Str), ([100, 47, 101] : Str), ([100, 47, 102] : Str), ([103, 47, 104, 47, 105] : Str), ([103, 47, 107] : Str), ([122] : Str)] : List Str)).bind fun z5 =>
 some (z5.1, z5.2)
def spec_l30Line (x0 : Vm.l30Rd) : Option (Str × Int) :=
 (Vm.spec_l30Rd_of x0 ([([97] : Str), ([98] : Str), ([99] : Str), ([100] : Str), ([] : Str), ([120, 32, 121] : Str), ([115, 101, 101, 32, 97] : Str), ([115, 101, 101, 32, 100, 47, 101] : Str), ([101, 110, 100] : Str)] : List Str)).bind fun z5 =>
 some (z5.1, z5.2)
def spec_l30Text_l1 (x0 : Vm.l30Rd) (K22 : List Str → Int → Int → Option ((List Str) × Int)) : Nat → List Str → Int → Int → Option ((List Str) × Int)
 | 0, _, _, _ => none
 | m + 1, y15, y18, y19 =>
 bif decide ((0 : Int) < (y18 : Int)) then
 ((Vm.spec_l30Line (Vm.l30Rd.mk x0.b y19)).bind fun z28 =>
 (apM y15 [z28.1]).bind fun q39 =>
 spec_l30Text_l1 x0 K22 m q39 (w64 (y18 - 1)) z28.2)
 else
 (K22 y15 y18 y19)
def spec_l30Text (x0 : Vm.l30Rd) : Option ((List Str) × Int) :=
 (Vm.spec_l30Rd_one x0 ([0, 1, 3, 5, 8] : List Int)).bind fun z9 =>
 jn (fun (y15 : List Str) (y18 : Int) (y19 : Int) =>
 some (y15, y19)) fun K22 =>
 spec_l30Text_l1 x0 K22 ((z9.1 - 0).toNat + 1) ([] : List Str) z9.1 z9.2
def spec_l30Op (x0 : Vm.l30Rd) : Option (Vm.Op × Int) :=
 (Vm.spec_l30Branch x0).bind fun z5 =>
 (Vm.spec_l30Rd_of (Vm.l30Rd.mk x0.b z5.2) ([([97, 110, 110] : Str), ([98, 111, 98] : Str), ([99, 105, 100] : Str)] : List Str)).bind fun z15 =>
 jn (fun (y31 : Int) (y33 : Int) (y34 : Str) (y35 : Str) (y36 : Str) (y37 : Str) (y38 : Int) (y39 : List Str) =>
 some (Vm.Op.mk y33 y34 y35 y36 y37 y38 y39, y31)) fun K44 =>
 (Vm.spec_l30Rd_pick (Vm.l30Rd.mk x0.b z15.2) 12).bind fun z61 =>
 bif ((z61.1 : Int) == (0 : Int)) then
 ((Vm.spec_l30Path (Vm.l30Rd.mk x0.b z61.2)).bind fun z75 =>
 K44 z75.2 2 z5.1 z15.1 z75.1 ([] : Str) 0 ([] : List Str))
 else
 (bif ((z61.1 : Int) == (1 : Int)) then
 ((Vm.spec_l30Path (Vm.l30Rd.mk x0.b z61.2)).bind fun z94 =>
 (Vm.spec_l30Path (Vm.l30Rd.mk x0.b z94.2)).bind fun z107 =>
 K44 z107.2 3 z5.1 z15.1 z94.1 z107.1 0 ([] : List Str))
 else
 (jn (fun (y119 : Bool) =>
 bif y119 then
 ((Vm.spec_l30Rd_of (Vm.l30Rd.mk x0.b z61.2) ([([115, 105, 100, 101] : Str), ([100, 101, 118] : Str), ([111, 108, 100] : Str)] : List Str)).bind fun z140 =>
 K44 z140.2 4 z5.1 z15.1 ([] : Str) z140.1 0 ([] : List Str))
 else
 (jn (fun (y154 : Bool) =>
 bif y154 then
 ((Vm.spec_l30Branch (Vm.l30Rd.mk x0.b z61.2)).bind fun z169 =>
 K44 z169.2 5 z5.1 z15.1 ([] : Str) z169.1 0 ([] : List Str))
 else
 (bif ((z61.1 : Int) == (7 : Int)) then
 ((Vm.spec_l30Rd_pick (Vm.l30Rd.mk x0.b z61.2) 10).bind fun z188 =>
 K44 z188.2 6 z5.1 z15.1 ([] : Str) ([] : Str) z188.1 ([] : List Str))
 else
 (bif ((z61.1 : Int) == (8 : Int)) then
 ((Vm.spec_l30Rd_pick (Vm.l30Rd.mk x0.b z61.2) 10).bind fun z207 =>
 K44 z207.2 7 z5.1 z15.1 ([] : Str) ([] : Str) z207.1 ([] : List Str))
 else
 ((Vm.spec_l30Path (Vm.l30Rd.mk x0.b z61.2)).bind fun z225 =>
 (Vm.spec_l30Text (Vm.l30Rd.mk x0.b z225.2)).bind fun z238 =>
 K44 z238.2 1 z5.1 z15.1 z225.1 ([] : Str) 0 z238.1)))) fun K156 =>
 bif ((z61.1 : Int) == (4 : Int)) then
 (K156 ((z61.1 : Int) == (4 : Int)))
 else
 (bif ((z61.1 : Int) == (5 : Int)) then
 (K156 ((z61.1 : Int) == (5 : Int)))
 else
 (K156 ((z61.1 : Int) == (6 : Int)))))) fun K121 =>
 bif ((z61.1 : Int) == (2 : Int)) then
 (K121 ((z61.1 : Int) == (2 : Int)))
 else
 (K121 ((z61.1 : Int) == (3 : Int)))))
def spec_l30Ops_l1 (x0 : Vm.l30Rd) (K22 : List Vm.Op → Int → Int → Option ((List Vm.Op) × Int)) : Nat → List Vm.Op → Int → Int → Option ((List Vm.Op) × Int)
 | 0, _, _, _ => none
 | m + 1, y15, y18, y19 =>
 bif decide ((0 : Int) < (y18 : Int)) then
 ((Vm.spec_l30Op (Vm.l30Rd.mk x0.b y19)).bind fun z28 =>
 (apM y15 [Vm.Op.mk z28.1.Kind z28.1.Branch z28.1.Who z28.1.Path z28.1.To z28.1.At z28.1.Text]).bind fun q40 =>
 spec_l30Ops_l1 x0 K22 m q40 (w64 (y18 - 1)) z28.2)
 else
 (K22 y15 y18 y19)
def spec_l30Ops (x0 : Vm.l30Rd) : Option ((List Vm.Op) × Int) :=
 (Vm.spec_l30Rd_one x0 ([0, 3, 8, 14, 20] : List Int)).bind fun z9 =>
 jn (fun (y15 : List Vm.Op) (y18 : Int) (y19 : Int) =>
 some (y15, y19)) fun K22 =>
 spec_l30Ops_l1 x0 K22 ((z9.1 - 0).toNat + 1) ([] : List Op) z9.1 z9.2
def spec_l1In (x0 : Int) (x1 : Int) (x2 : Int) : Option (Bool) :=
 jn (fun (y1 : Bool) =>
 some y1) fun K3 =>
 bif decide ((x1 : Int) ≤ (x0 : Int)) then
 (K3 (decide ((x0 : Int) ≤ (x2 : Int))))
 else
 (K3 false)
def spec_l4Name_l1 (x0 : Str) (K4 : Bool → Int → Option (Bool)) : Nat → Bool → Int → Option (Bool)
 | 0, _, _ => none
 | m + 1, y1, y2 =>
 bif decide ((y2 : Int) < ((x0.length : Int) : Int)) then
 (jn (fun (y8 : Bool) =>
 bif y8 then
 (some false)
 else
 (spec_l4Name_l1 x0 K4 m y1 (w64 (y2 + 1)))) fun K10 =>
 (chM x0 y2).bind fun u13 =>
 bif decide (((UInt8.toNat u13 : Int) : Int) < (97 : Int)) then
 ((chM x0 y2).bind fun u16 =>
 bif decide (((UInt8.toNat u16 : Int) : Int) < (48 : Int)) then
 (K10 true)
 else
 ((chM x0 y2).bind fun u19 =>
 K10 (decide ((57 : Int) < ((UInt8.toNat u19 : Int) : Int)))))
 else
 ((chM x0 y2).bind fun u21 =>
 bif decide ((122 : Int) < ((UInt8.toNat u21 : Int) : Int)) then
 ((chM x0 y2).bind fun u24 =>
 bif decide (((UInt8.toNat u24 : Int) : Int) < (48 : Int)) then
 (K10 true)
 else
 ((chM x0 y2).bind fun u27 =>
 K10 (decide ((57 : Int) < ((UInt8.toNat u27 : Int) : Int)))))
 else
 (K10 false)))
 else
 (K4 y1 y2)
def spec_l4Name (x0 : Str) : Option (Bool) :=
 jn (fun (y1 : Bool) (y2 : Int) =>
 (Vm.spec_l1In (x0.length : Int) 1 6).bind fun z29 =>
 some z29) fun K4 =>
 spec_l4Name_l1 x0 K4 (((x0.length : Int) - 0).toNat + 1) false 0
def spec_l19Bare (x0 : Vm.Op) (x1 : Bool) (x2 : Bool) (x3 : Bool) (x4 : Bool) : Option (Bool) :=
 jn (fun (y3 : Bool) =>
 some y3) fun K5 =>
 bif x1 then
 (bif x2 then
 (bif x3 then
 (bif x4 then
 (K5 true)
 else
 (K5 (((x0.Text.length : Int) : Int) == (0 : Int))))
 else
 (bif ((x0.At : Int) == (0 : Int)) then
 (bif x4 then
 (K5 true)
 else
 (K5 (((x0.Text.length : Int) : Int) == (0 : Int))))
 else
 (K5 false)))
 else
 (bif (x0.To == ([] : Str)) then
 (bif x3 then
 (bif x4 then
 (K5 true)
 else
 (K5 (((x0.Text.length : Int) : Int) == (0 : Int))))
 else
 (bif ((x0.At : Int) == (0 : Int)) then
 (bif x4 then
 (K5 true)
 else
 (K5 (((x0.Text.length : Int) : Int) == (0 : Int))))
 else
 (K5 false)))
 else
 (K5 false)))
 else
 (bif (x0.Path == ([] : Str)) then
 (bif x2 then
 (bif x3 then
 (bif x4 then
 (K5 true)
 else
 (K5 (((x0.Text.length : Int) : Int) == (0 : Int))))
 else
 (bif ((x0.At : Int) == (0 : Int)) then
 (bif x4 then
 (K5 true)
 else
 (K5 (((x0.Text.length : Int) : Int) == (0 : Int))))
 else
 (K5 false)))
 else
 (bif (x0.To == ([] : Str)) then
 (bif x3 then
 (bif x4 then
 (K5 true)
 else
 (K5 (((x0.Text.length : Int) : Int) == (0 : Int))))
 else
 (bif ((x0.At : Int) == (0 : Int)) then
 (bif x4 then
 (K5 true)
 else
 (K5 (((x0.Text.length : Int) : Int) == (0 : Int))))
 else
 (K5 false)))
 else
 (K5 false)))
 else
 (K5 false))
def spec_l1Cut_l1 (x0 : Str) (x1 : Byte) (x2 : Int) (K9 : List Str → Int → Int → Option ((List Str))) : Nat → List Str → Int → Int → Option ((List Str))
 | 0, _, _, _ => none
 | m + 1, y3, y6, y7 =>
 jn (fun (y12 : Bool) =>
 bif y12 then
 (jn (fun (y18 : List Str) (y21 : Int) =>
 spec_l1Cut_l1 x0 x1 x2 K9 m y18 y21 (w64 (y7 + 1))) fun K23 =>
 (chM x0 y7).bind fun u25 =>
 bif (((UInt8.toNat u25 : Int) : Int) == ((UInt8.toNat x1 : Int) : Int)) then
 ((slM x0 y6 y7).bind fun q28 =>
 (apM y3 [q28]).bind fun q33 =>
 K23 q33 (w64 (y7 + 1)))
 else
 (K23 y3 y6))
 else
 (K9 y3 y6 y7)) fun K14 =>
 bif decide ((y7 : Int) < ((x0.length : Int) : Int)) then
 (K14 (decide (((y3.length : Int) : Int) < (x2 : Int))))
 else
 (K14 false)
def spec_l1Cut (x0 : Str) (x1 : Byte) (x2 : Int) : Option ((List Str)) :=
 jn (fun (y3 : List Str) (y6 : Int) (y7 : Int) =>
 (slM x0 y6 (x0.length : Int)).bind fun q38 =>
 (apM y3 [q38]).bind fun q43 =>
 some q43) fun K9 =>
 spec_l1Cut_l1 x0 x1 x2 K9 (x0.length + 1) ([] : List Str) 0 0
def spec_l4Path_l1 (z1 : (List Str)) (K8 : Bool → Int → Option (Bool)) : Nat → Bool → Int → Option (Bool)
 | 0, _, _ => none
 | m + 1, y5, y6 =>
 bif decide ((y6 : Int) < ((z1.length : Int) : Int)) then
 ((gi z1 y6).bind fun u13 =>
 (Vm.spec_l4Name u13).bind fun z15 =>
 bif (!z15) then
 (some false)
 else
 (spec_l4Path_l1 z1 K8 m y5 (w64 (y6 + 1))))
 else
 (K8 y5 y6)
def spec_l4Path (x0 : Str) : Option (Bool) :=
 (Vm.spec_l1Cut x0 (UInt8.ofNatLT 47 (by decide) : Byte) 3).bind fun z1 =>
 jn (fun (y5 : Bool) (y6 : Int) =>
 some (decide (((z1.length : Int) : Int) ≤ (3 : Int)))) fun K8 =>
 spec_l4Path_l1 z1 K8 (((z1.length : Int) - 0).toNat + 1) false 0
def spec_l1Line_l1 (x0 : Str) (K4 : Bool → Int → Option (Bool)) : Nat → Bool → Int → Option (Bool)
 | 0, _, _ => none
 | m + 1, y1, y2 =>
 bif decide ((y2 : Int) < ((x0.length : Int) : Int)) then
 (jn (fun (y8 : Bool) =>
 bif y8 then
 (some false)
 else
 (spec_l1Line_l1 x0 K4 m y1 (w64 (y2 + 1)))) fun K10 =>
 (chM x0 y2).bind fun u13 =>
 bif decide (((UInt8.toNat u13 : Int) : Int) < (32 : Int)) then
 (K10 true)
 else
 ((chM x0 y2).bind fun u16 =>
 K10 (decide ((126 : Int) < ((UInt8.toNat u16 : Int) : Int)))))
 else
 (K4 y1 y2)
def spec_l1Line (x0 : Str) : Option (Bool) :=
 jn (fun (y1 : Bool) (y2 : Int) =>
 some (decide (((x0.length : Int) : Int) ≤ (12 : Int)))) fun K4 =>
 spec_l1Line_l1 x0 K4 (((x0.length : Int) - 0).toNat + 1) false 0
def spec_l1Ok_l1 (x0 : List Str) (K4 : Bool → Int → Option (Bool)) : Nat → Bool → Int → Option (Bool)
 | 0, _, _ => none
 | m + 1, y1, y2 =>
 bif decide ((y2 : Int) < ((x0.length : Int) : Int)) then
 ((gi x0 y2).bind fun u9 =>
 (Vm.spec_l1Line u9).bind fun z11 =>
 bif (!z11) then
 (some false)
 else
 (spec_l1Ok_l1 x0 K4 m y1 (w64 (y2 + 1))))
 else
 (K4 y1 y2)
def spec_l1Ok (x0 : List Str) : Option (Bool) :=
 jn (fun (y1 : Bool) (y2 : Int) =>
 some (decide (((x0.length : Int) : Int) ≤ (10 : Int)))) fun K4 =>
 spec_l1Ok_l1 x0 K4 (((x0.length : Int) - 0).toNat + 1) false 0
def spec_l19Lines_l2 (x0 : List Str) (y2 : Int) (K13 : Bool → Int → Option (Bool)) : Nat → Bool → Int → Option (Bool)
 | 0, _, _ => none
 | m + 1, y10, y11 =>
 (gi x0 y2).bind fun u16 =>
 bif decide ((y11 : Int) < ((u16.length : Int) : Int)) then
 ((gi x0 y2).bind fun u20 =>
 (chM u20 y11).bind fun u22 =>
 bif (((UInt8.toNat u22 : Int) : Int) == (124 : Int)) then
 (some false)
 else
 (spec_l19Lines_l2 x0 y2 K13 m y10 (w64 (y11 + 1))))
 else
 (K13 y10 y11)
def spec_l19Lines_l1 (x0 : List Str) (K5 : Bool → Int → Option (Bool)) : Nat → Bool → Int → Option (Bool)
 | 0, _, _ => none
 | m + 1, y1, y2 =>
 bif decide ((y2 : Int) < ((x0.length : Int) : Int)) then
 (jn (fun (y10 : Bool) (y11 : Int) =>
 spec_l19Lines_l1 x0 K5 m y10 (w64 (y2 + 1))) fun K13 =>
 spec_l19Lines_l2 x0 y2 K13 (((gi x0 y2).getD []).length + 1) y1 0)
 else
 (K5 y1 y2)
def spec_l19Lines (x0 : List Str) : Option (Bool) :=
 jn (fun (y1 : Bool) (y2 : Int) =>
 (Vm.spec_l1Ok x0).bind fun z25 =>
 some z25) fun K5 =>
 spec_l19Lines_l1 x0 K5 (((x0.length : Int) - 0).toNat + 1) false 0
def spec_l19Ok (x0 : Vm.Op) : Option (Bool) :=
 jn (fun (y3 : Bool) =>
 bif y3 then
 (some false)
 else
 (bif ((x0.Kind : Int) == (1 : Int)) then
 (jn (fun (y10 : Bool) =>
 some y10) fun K12 =>
 (Vm.spec_l19Bare x0 true false false true).bind fun z16 =>
 bif z16 then
 ((Vm.spec_l4Path x0.Path).bind fun z22 =>
 bif z22 then
 ((Vm.spec_l19Lines x0.Text).bind fun z29 =>
 K12 z29)
 else
 (K12 false))
 else
 (K12 false))
 else
 (bif ((x0.Kind : Int) == (2 : Int)) then
 (jn (fun (y35 : Bool) =>
 some y35) fun K37 =>
 (Vm.spec_l19Bare x0 true false false false).bind fun z41 =>
 bif z41 then
 ((Vm.spec_l4Path x0.Path).bind fun z47 =>
 K37 z47)
 else
 (K37 false))
 else
 (bif ((x0.Kind : Int) == (3 : Int)) then
 (jn (fun (y53 : Bool) =>
 some y53) fun K55 =>
 (Vm.spec_l19Bare x0 true true false false).bind fun z59 =>
 bif z59 then
 ((Vm.spec_l4Path x0.Path).bind fun z65 =>
 bif z65 then
 ((Vm.spec_l4Path x0.To).bind fun z71 =>
 K55 z71)
 else
 (K55 false))
 else
 (K55 false))
 else
 (jn (fun (y76 : Bool) =>
 bif y76 then
 (jn (fun (y82 : Bool) =>
 some y82) fun K84 =>
 (Vm.spec_l19Bare x0 false true false false).bind fun z88 =>
 bif z88 then
 ((Vm.spec_l4Name x0.To).bind fun z94 =>
 K84 z94)
 else
 (K84 false))
 else
 (jn (fun (y99 : Bool) =>
 bif y99 then
 (jn (fun (y105 : Bool) =>
 some y105) fun K107 =>
 (Vm.spec_l19Bare x0 false false true false).bind fun z111 =>
 bif z111 then
 ((Vm.spec_l1In x0.At 0 15).bind fun z117 =>
 K107 z117)
 else
 (K107 false))
 else
 (some false)) fun K101 =>
 bif ((x0.Kind : Int) == (6 : Int)) then
 (K101 ((x0.Kind : Int) == (6 : Int)))
 else
 (K101 ((x0.Kind : Int) == (7 : Int))))) fun K78 =>
 bif ((x0.Kind : Int) == (4 : Int)) then
 (K78 ((x0.Kind : Int) == (4 : Int)))
 else
 (K78 ((x0.Kind : Int) == (5 : Int)))))))) fun K5 =>
 (Vm.spec_l4Name x0.Branch).bind fun z124 =>
 bif (!z124) then
 (K5 true)
 else
 ((Vm.spec_l4Name x0.Who).bind fun z130 =>
 K5 (!z130))
def spec_l7At_l1 (x0 : Vm.Repo) (x1 : Str) (K6 : Int → Int → Option (Int)) : Nat → Int → Int → Option (Int)
 | 0, _, _ => none
 | m + 1, y3, y4 =>
 bif decide ((y4 : Int) < ((x0.Heads.length : Int) : Int)) then
 ((gi x0.Heads y4).bind fun u12 =>
 bif (u12.Name == x1) then
 ((gi x0.Heads y4).bind fun u15 =>
 some u15.At)
 else
 (spec_l7At_l1 x0 x1 K6 m y3 (w64 (y4 + 1))))
 else
 (K6 y3 y4)
def spec_l7At (x0 : Vm.Repo) (x1 : Str) : Option (Int) :=
 jn (fun (y3 : Int) (y4 : Int) =>
 some (-1)) fun K6 =>
 spec_l7At_l1 x0 x1 K6 (((x0.Heads.length : Int) - 0).toNat + 1) 0 0
def spec_l4In (x0 : Str) (x1 : Str) : Option (Bool) :=
 jn (fun (y1 : Bool) =>
 some y1) fun K3 =>
 bif decide (((x0.length : Int) : Int) < ((x1.length : Int) : Int)) then
 ((slM x1 0 (x0.length : Int)).bind fun q6 =>
 bif (q6 == x0) then
 ((chM x1 (x0.length : Int)).bind fun u9 =>
 K3 (((UInt8.toNat u9 : Int) : Int) == (47 : Int)))
 else
 (K3 false))
 else
 (K3 false)
def spec_l4Ok_l2 (x0 : List Vm.File) (y2 : Int) (K18 : Bool → Int → Option (Bool)) : Nat → Bool → Int → Option (Bool)
 | 0, _, _ => none
 | m + 1, y15, y16 =>
 bif decide ((y16 : Int) < ((x0.length : Int) : Int)) then
 ((gi x0 y2).bind fun u25 =>
 (gi x0 y16).bind fun u28 =>
 (Vm.spec_l4In u25.Path u28.Path).bind fun z30 =>
 bif z30 then
 (some false)
 else
 (spec_l4Ok_l2 x0 y2 K18 m y15 (w64 (y16 + 1))))
 else
 (K18 y15 y16)
def spec_l4Ok_l1 (x0 : List Vm.File) (K5 : Bool → Int → Option (Bool)) : Nat → Bool → Int → Option (Bool)
 | 0, _, _ => none
 | m + 1, y1, y2 =>
 bif decide ((y2 : Int) < ((x0.length : Int) : Int)) then
 (jn (fun (y10 : Bool) =>
 bif y10 then
 (some false)
 else
 (jn (fun (y15 : Bool) (y16 : Int) =>
 spec_l4Ok_l1 x0 K5 m y15 (w64 (y2 + 1))) fun K18 =>
 spec_l4Ok_l2 x0 y2 K18 (((x0.length : Int) - 0).toNat + 1) y1 0)) fun K12 =>
 (gi x0 y2).bind fun u37 =>
 (Vm.spec_l4Path u37.Path).bind fun z40 =>
 bif (!z40) then
 (K12 true)
 else
 ((gi x0 y2).bind fun u45 =>
 (Vm.spec_l1Ok u45.Text).bind fun z51 =>
 bif (!z51) then
 (K12 true)
 else
 (bif decide ((0 : Int) < (y2 : Int)) then
 ((gi x0 y2).bind fun u57 =>
 (gi x0 (w64 (y2 - 1))).bind fun u59 =>
 K12 (Op.bytesLess u57.Path u59.Path || u57.Path == u59.Path))
 else
 (K12 false))))
 else
 (K5 y1 y2)
def spec_l4Ok (x0 : List Vm.File) : Option (Bool) :=
 jn (fun (y1 : Bool) (y2 : Int) =>
 some (decide (((x0.length : Int) : Int) ≤ (8 : Int)))) fun K5 =>
 spec_l4Ok_l1 x0 K5 (((x0.length : Int) - 0).toNat + 1) false 0
def spec_l4Copy_l1 (x0 : List Vm.File) (K8 : List Vm.File → Int → Option ((List Vm.File))) : Nat → List Vm.File → Int → Option ((List Vm.File))
 | 0, _, _ => none
 | m + 1, y3, y6 =>
 bif decide ((y6 : Int) < ((x0.length : Int) : Int)) then
 ((gi x0 y6).bind fun u16 =>
 (gi x0 y6).bind fun u19 =>
 (apM ([] : List Str) u19.Text).bind fun q27 =>
 (apM y3 [Vm.File.mk u16.Path q27]).bind fun q37 =>
 spec_l4Copy_l1 x0 K8 m q37 (w64 (y6 + 1)))
 else
 (K8 y3 y6)
def spec_l4Copy (x0 : List Vm.File) : Option ((List Vm.File)) :=
 jn (fun (y3 : List Vm.File) (y6 : Int) =>
 some y3) fun K8 =>
 spec_l4Copy_l1 x0 K8 (((x0.length : Int) - 0).toNat + 1) ([] : List File) 0
def spec_l4Set_l1 (x0 : List Vm.File) (x1 : Vm.File) (K12 : List Vm.File → Bool → Int → Option ((List Vm.File))) : Nat → List Vm.File → Bool → Int → Option ((List Vm.File))
 | 0, _, _, _ => none
 | m + 1, y6, y9, y10 =>
 bif decide ((y10 : Int) < ((x0.length : Int) : Int)) then
 (jn (fun (y21 : List Vm.File) (y24 : Bool) =>
 spec_l4Set_l1 x0 x1 K12 m y21 y24 (w64 (y10 + 1))) fun K26 =>
 jn (fun (y29 : List Vm.File) (y32 : Bool) =>
 (gi x0 y10).bind fun u41 =>
 bif (u41.Path != x1.Path) then
 ((gi x0 y10).bind fun u45 =>
 (apM y29 [u45]).bind fun q57 =>
 K26 q57 y32)
 else
 (K26 y29 y32)) fun K34 =>
 jn (fun (y63 : Bool) =>
 bif y63 then
 ((apM ([] : List Str) x1.Text).bind fun q78 =>
 (apM y6 [Vm.File.mk x1.Path q78]).bind fun q96 =>
 K34 q96 true)
 else
 (K34 y6 y9)) fun K65 =>
 bif (!y9) then
 ((gi x0 y10).bind fun u107 =>
 K65 (!Op.bytesLess u107.Path x1.Path))
 else
 (K65 false))
 else
 (K12 y6 y9 y10)
def spec_l4Set (x0 : List Vm.File) (x1 : Vm.File) : Option ((List Vm.File)) :=
 jn (fun (y6 : List Vm.File) (y9 : Bool) (y10 : Int) =>
 jn (fun (y110 : List Vm.File) =>
 some y110) fun K114 =>
 bif (!y9) then
 ((apM ([] : List Str) x1.Text).bind fun q126 =>
 (apM y6 [Vm.File.mk x1.Path q126]).bind fun q144 =>
 K114 q144)
 else
 (K114 y6)) fun K12 =>
 spec_l4Set_l1 x0 x1 K12 (((x0.length : Int) - 0).toNat + 1) ([] : List File) false 0
def spec_TreeSet (x0 : List Vm.File) (x1 : Vm.File) : Option ((List Vm.File) × Bool) :=
 (Vm.spec_l4Ok x0).bind fun z4 =>
 bif (!z4) then
 (some (([] : List File), false))
 else
 ((Vm.spec_l4Copy x0).bind fun z14 =>
 (Vm.spec_l4Set z14 x1).bind fun z20 =>
 (Vm.spec_l4Ok z20).bind fun z28 =>
 bif (!z28) then
 ((Vm.spec_l4Copy x0).bind fun z37 =>
 some (z37, false))
 else
 (some (z20, true)))
def spec_l7Ok_l2 (y4 : Int) (u14 : Vm.Commit) (K32 : Bool → Int → Option (Bool)) : Nat → Bool → Int → Option (Bool)
 | 0, _, _ => none
 | m + 1, y29, y30 =>
 bif decide ((y30 : Int) < ((u14.Parents.length : Int) : Int)) then
 (jn (fun (y39 : Bool) =>
 bif y39 then
 (some false)
 else
 (spec_l7Ok_l2 y4 u14 K32 m y29 (w64 (y30 + 1)))) fun K41 =>
 (gi u14.Parents y30).bind fun u50 =>
 (Vm.spec_l1In u50 0 (w64 (y4 - 1))).bind fun z53 =>
 bif (!z53) then
 (K41 true)
 else
 (bif decide ((0 : Int) < (y30 : Int)) then
 ((gi u14.Parents y30).bind fun u61 =>
 (gi u14.Parents 0).bind fun u63 =>
 K41 ((u61 : Int) == (u63 : Int)))
 else
 (K41 false)))
 else
 (K32 y29 y30)
def spec_l7Ok_l3 (x0 : Vm.Repo) (K90 : Bool → Int → Option (Bool)) : Nat → Bool → Int → Option (Bool)
 | 0, _, _ => none
 | m + 1, y87, y88 =>
 bif decide ((y88 : Int) < ((x0.Heads.length : Int) : Int)) then
 (jn (fun (y96 : Bool) =>
 bif y96 then
 (some false)
 else
 (spec_l7Ok_l3 x0 K90 m y87 (w64 (y88 + 1)))) fun K98 =>
 (gi x0.Heads y88).bind fun u105 =>
 (Vm.spec_l4Name u105.Name).bind fun z108 =>
 bif (!z108) then
 (K98 true)
 else
 ((gi x0.Heads y88).bind fun u114 =>
 (Vm.spec_l1In u114.At 0 (w64 ((x0.Commits.length : Int) - 1))).bind fun z117 =>
 bif (!z117) then
 (K98 true)
 else
 (bif decide ((0 : Int) < (y88 : Int)) then
 ((gi x0.Heads y88).bind fun u124 =>
 (gi x0.Heads (w64 (y88 - 1))).bind fun u126 =>
 K98 (Op.bytesLess u124.Name u126.Name || u124.Name == u126.Name))
 else
 (K98 false))))
 else
 (K90 y87 y88)
def spec_l7Ok_l1 (x0 : Vm.Repo) (K8 : Bool → Int → Option (Bool)) : Nat → Bool → Int → Option (Bool)
 | 0, _, _ => none
 | m + 1, y3, y4 =>
 bif decide ((y4 : Int) < ((x0.Commits.length : Int) : Int)) then
 ((gi x0.Commits y4).bind fun u14 =>
 jn (fun (y29 : Bool) (y30 : Int) =>
 jn (fun (y65 : Bool) =>
 bif y65 then
 (some false)
 else
 (spec_l7Ok_l1 x0 K8 m y29 (w64 (y4 + 1)))) fun K67 =>
 bif decide ((2 : Int) < ((u14.Parents.length : Int) : Int)) then
 (K67 true)
 else
 ((Vm.spec_l4Name u14.Who).bind fun z73 =>
 bif (!z73) then
 (K67 true)
 else
 ((Vm.spec_l4Ok u14.Tree).bind fun z81 =>
 K67 (!z81)))) fun K32 =>
 spec_l7Ok_l2 y4 u14 K32 (((u14.Parents.length : Int) - 0).toNat + 1) y3 0)
 else
 (K8 y3 y4)
def spec_l7Ok (x0 : Vm.Repo) : Option (Bool) :=
 jn (fun (y3 : Bool) (y4 : Int) =>
 jn (fun (y87 : Bool) (y88 : Int) =>
 jn (fun (y128 : Bool) =>
 some y128) fun K130 =>
 bif decide (((x0.Commits.length : Int) : Int) ≤ (16 : Int)) then
 (K130 (decide (((x0.Heads.length : Int) : Int) ≤ (5 : Int))))
 else
 (K130 false)) fun K90 =>
 spec_l7Ok_l3 x0 K90 (((x0.Heads.length : Int) - 0).toNat + 1) y3 0) fun K8 =>
 spec_l7Ok_l1 x0 K8 (((x0.Commits.length : Int) - 0).toNat + 1) false 0
def spec_l7CopyCommit (x0 : Vm.Commit) : Option (Vm.Commit) :=
 (apM ([] : List Int) x0.Parents).bind fun q14 =>
 (Vm.spec_l4Copy x0.Tree).bind fun z22 =>
 some (Vm.Commit.mk q14 x0.Who z22)
def spec_l7Copy_l1 (x0 : Vm.Repo) (K36 : Int → List Vm.Commit → List Vm.Head → Option (Vm.Repo)) : Nat → Int → List Vm.Commit → List Vm.Head → Option (Vm.Repo)
 | 0, _, _, _ => none
 | m + 1, y27, y28, y31 =>
 bif decide ((y27 : Int) < ((x0.Commits.length : Int) : Int)) then
 ((gi x0.Commits y27).bind fun u50 =>
 (Vm.spec_l7CopyCommit u50).bind fun z60 =>
 (apM y28 [Vm.Commit.mk z60.Parents z60.Who z60.Tree]).bind fun q78 =>
 spec_l7Copy_l1 x0 K36 m (w64 (y27 + 1)) q78 y31)
 else
 (K36 y27 y28 y31)
def spec_l7Copy (x0 : Vm.Repo) : Option (Vm.Repo) :=
 (apM ([] : List Head) x0.Heads).bind fun q10 =>
 jn (fun (y27 : Int) (y28 : List Vm.Commit) (y31 : List Vm.Head) =>
 some (Vm.Repo.mk y28 y31)) fun K36 =>
 spec_l7Copy_l1 x0 K36 (((x0.Commits.length : Int) - 0).toNat + 1) 0 ([] : List Commit) q10
def spec_l7Head_l1 (x0 : Vm.Repo) (x1 : Str) (x2 : Int) (K24 : Bool → Int → List Vm.Commit → List Vm.Head → Option (Vm.Repo)) : Nat → Bool → Int → List Vm.Commit → List Vm.Head → Option (Vm.Repo)
 | 0, _, _, _, _ => none
 | m + 1, y14, y15, y16, y19 =>
 bif decide ((y15 : Int) < ((x0.Heads.length : Int) : Int)) then
 (jn (fun (y32 : Bool) (y33 : List Vm.Commit) (y36 : List Vm.Head) =>
 spec_l7Head_l1 x0 x1 x2 K24 m y32 (w64 (y15 + 1)) y33 y36) fun K41 =>
 jn (fun (y45 : Bool) (y46 : List Vm.Commit) (y49 : List Vm.Head) =>
 (gi x0.Heads y15).bind fun u58 =>
 bif (u58.Name != x1) then
 ((gi x0.Heads y15).bind fun u68 =>
 (apM y49 [u68]).bind fun q80 =>
 K41 y45 y46 q80)
 else
 (K41 y45 y46 y49)) fun K54 =>
 jn (fun (y95 : Bool) =>
 bif y95 then
 ((apM y19 [Vm.Head.mk x1 x2]).bind fun q110 =>
 K54 true y16 q110)
 else
 (K54 y14 y16 y19)) fun K97 =>
 bif (!y14) then
 ((gi x0.Heads y15).bind fun u127 =>
 K97 (!Op.bytesLess u127.Name x1))
 else
 (K97 false))
 else
 (K24 y14 y15 y16 y19)
def spec_l7Head (x0 : Vm.Repo) (x1 : Str) (x2 : Int) : Option (Vm.Repo) :=
 jn (fun (y14 : Bool) (y15 : Int) (y16 : List Vm.Commit) (y19 : List Vm.Head) =>
 jn (fun (y129 : List Vm.Commit) (y132 : List Vm.Head) =>
 some (Vm.Repo.mk y129 y132)) fun K137 =>
 bif (!y14) then
 ((apM y19 [Vm.Head.mk x1 x2]).bind fun q160 =>
 K137 y16 q160)
 else
 (K137 y16 y19)) fun K24 =>
 spec_l7Head_l1 x0 x1 x2 K24 (((x0.Heads.length : Int) - 0).toNat + 1) false 0 x0.Commits ([] : List Head)
def spec_l7Add (x0 : Vm.Repo) (x1 : Str) (x2 : Vm.Commit) : Option (Vm.Repo) :=
 (apM ([] : List Commit) x0.Commits).bind fun q26 =>
 (apM q26 [x2]).bind fun q41 =>
 (Vm.spec_l7Head (Vm.Repo.mk q41 x0.Heads) x1 (x0.Commits.length : Int)).bind fun z185 =>
 some z185
def spec_RepoCommit (x0 : Vm.Repo) (x1 : Str) (x2 : Str) (x3 : List Vm.File) : Option (Vm.Repo × Bool) :=
 (Vm.spec_l7Ok x0).bind fun z8 =>
 bif (!z8) then
 (some (Vm.Repo.mk ([] : List Commit) ([] : List Head), false))
 else
 ((Vm.spec_l4Copy x3).bind fun z19 =>
 jn (fun (y35 : List Int) (y38 : Str) (y39 : List Vm.File) =>
 (Vm.spec_l7Copy x0).bind fun z57 =>
 (Vm.spec_l7Add (Vm.Repo.mk z57.Commits z57.Heads) x1 (Vm.Commit.mk y35 y38 y39)).bind fun z66 =>
 (Vm.spec_l7Ok z66).bind fun z204 =>
 bif (!z204) then
 ((Vm.spec_l7Copy x0).bind fun z219 =>
 some (Vm.Repo.mk z219.Commits z219.Heads, false))
 else
 (some (z66, true))) fun K44 =>
 (Vm.spec_l7At x0 x1).bind fun z321 =>
 bif decide ((0 : Int) ≤ (z321 : Int)) then
 ((Vm.spec_l7At x0 x1).bind fun z332 =>
 K44 ([z332] : List Int) x2 z19)
 else
 (K44 ([] : List Int) x2 z19))
def spec_l19Tree (x0 : Vm.Repo) (x1 : Vm.Op) (x2 : List Vm.File) (x3 : Bool) : Option (Vm.Repo × Int) :=
 bif (!x3) then
 (some (x0, 1))
 else
 ((Vm.spec_RepoCommit x0 x1.Branch x1.Who x2).bind fun z20 =>
 bif (!z20.2) then
 (some (x0, 5))
 else
 (some (z20.1, 0)))
def spec_l4Drop_l1 (x0 : List Vm.File) (x1 : Str) (K8 : List Vm.File → Int → Option ((List Vm.File))) : Nat → List Vm.File → Int → Option ((List Vm.File))
 | 0, _, _ => none
 | m + 1, y3, y6 =>
 bif decide ((y6 : Int) < ((x0.length : Int) : Int)) then
 (jn (fun (y15 : List Vm.File) =>
 spec_l4Drop_l1 x0 x1 K8 m y15 (w64 (y6 + 1))) fun K19 =>
 jn (fun (y21 : Bool) =>
 bif y21 then
 ((gi x0 y6).bind fun u27 =>
 (apM y3 [u27]).bind fun q39 =>
 K19 q39)
 else
 (K19 y3)) fun K23 =>
 (gi x0 y6).bind fun u44 =>
 bif (u44.Path != x1) then
 ((gi x0 y6).bind fun u47 =>
 (Vm.spec_l4In x1 u47.Path).bind fun z49 =>
 K23 (!z49))
 else
 (K23 false))
 else
 (K8 y3 y6)
def spec_l4Drop (x0 : List Vm.File) (x1 : Str) : Option ((List Vm.File)) :=
 jn (fun (y3 : List Vm.File) (y6 : Int) =>
 some y3) fun K8 =>
 spec_l4Drop_l1 x0 x1 K8 (((x0.length : Int) - 0).toNat + 1) ([] : List File) 0
def spec_TreeDrop (x0 : List Vm.File) (x1 : Str) : Option ((List Vm.File) × Bool) :=
 (Vm.spec_l4Ok x0).bind fun z1 =>
 bif (!z1) then
 (some (([] : List File), false))
 else
 ((Vm.spec_l4Copy x0).bind fun z7 =>
 (Vm.spec_l4Drop z7 x1).bind fun z11 =>
 some (z11, decide (((z11.length : Int) : Int) < ((x0.length : Int) : Int))))
def spec_TreeMove_l1 (x0 : List Vm.File) (x1 : Str) (x2 : Str) (K44 : List Vm.File → Int → Option ((List Vm.File) × Bool)) : Nat → List Vm.File → Int → Option ((List Vm.File) × Bool)
 | 0, _, _ => none
 | m + 1, y39, y42 =>
 bif decide ((y42 : Int) < ((x0.length : Int) : Int)) then
 (jn (fun (y49 : List Vm.File) =>
 spec_TreeMove_l1 x0 x1 x2 K44 m y49 (w64 (y42 + 1))) fun K53 =>
 jn (fun (y55 : Bool) =>
 bif y55 then
 ((gi x0 y42).bind fun u64 =>
 (slM u64.Path (x1.length : Int) (u64.Path.length : Int)).bind fun q67 =>
 (saM x2 q67).bind fun q69 =>
 (gi x0 y42).bind fun u71 =>
 (Vm.spec_l4Set y39 (Vm.File.mk q69 u71.Text)).bind fun z77 =>
 K53 z77)
 else
 (K53 y39)) fun K57 =>
 (gi x0 y42).bind fun u89 =>
 bif (u89.Path == x1) then
 (K57 true)
 else
 ((gi x0 y42).bind fun u92 =>
 (Vm.spec_l4In x1 u92.Path).bind fun z94 =>
 K57 z94))
 else
 (K44 y39 y42)
def spec_TreeMove (x0 : List Vm.File) (x1 : Str) (x2 : Str) : Option ((List Vm.File) × Bool) :=
 (Vm.spec_l4Ok x0).bind fun z1 =>
 bif (!z1) then
 (some (([] : List File), false))
 else
 ((Vm.spec_l4Copy x0).bind fun z7 =>
 (Vm.spec_l4Drop z7 x1).bind fun z11 =>
 jn (fun (y16 : Bool) =>
 bif y16 then
 ((Vm.spec_l4Copy x0).bind fun z24 =>
 some (z24, false))
 else
 (jn (fun (y39 : List Vm.File) (y42 : Int) =>
 jn (fun (y99 : Bool) =>
 bif y99 then
 ((Vm.spec_l4Copy x0).bind fun z106 =>
 some (z106, false))
 else
 (some (y39, true))) fun K101 =>
 (Vm.spec_l4Ok y39).bind fun z115 =>
 bif (!z115) then
 (K101 true)
 else
 (K101 (((y39.length : Int) : Int) != ((x0.length : Int) : Int)))) fun K44 =>
 spec_TreeMove_l1 x0 x1 x2 K44 (((x0.length : Int) - 0).toNat + 1) z11 0)) fun K18 =>
 bif (((z11.length : Int) : Int) == ((x0.length : Int) : Int)) then
 (K18 true)
 else
 ((Vm.spec_l4Path x2).bind fun z125 =>
 K18 (!z125)))
def spec_RepoBranch (x0 : Vm.Repo) (x1 : Str) (x2 : Int) : Option (Vm.Repo × Bool) :=
 (Vm.spec_l7Ok x0).bind fun z8 =>
 bif (!z8) then
 (some (Vm.Repo.mk ([] : List Commit) ([] : List Head), false))
 else
 ((Vm.spec_l7Copy x0).bind fun z20 =>
 (Vm.spec_l7Head (Vm.Repo.mk z20.Commits z20.Heads) x1 x2).bind fun z26 =>
 jn (fun (y48 : Bool) =>
 bif y48 then
 ((Vm.spec_l7Copy x0).bind fun z60 =>
 some (Vm.Repo.mk z60.Commits z60.Heads, false))
 else
 (some (z26, true))) fun K50 =>
 (Vm.spec_l7At x0 x1).bind fun z122 =>
 bif decide ((0 : Int) ≤ (z122 : Int)) then
 (K50 true)
 else
 ((Vm.spec_l7Ok z26).bind fun z134 =>
 K50 (!z134)))
def spec_l8All_l2 (x0 : Vm.Repo) (y16 : Int) (K30 : Int → List Bool → Option ((List Int))) : Nat → Int → List Bool → Option ((List Int))
 | 0, _, _ => none
 | m + 1, y26, y27 =>
 jn (fun (y34 : Bool) =>
 bif y34 then
 ((gi x0.Commits y16).bind fun u41 =>
 (gi u41.Parents y26).bind fun u47 =>
 (gi y27 u47).bind fun u49 =>
 (siM y27 u47 true).bind fun q52 =>
 spec_l8All_l2 x0 y16 K30 m (w64 (y26 + 1)) q52)
 else
 (K30 y26 y27)) fun K36 =>
 (gi x0.Commits y16).bind fun u56 =>
 bif decide ((y26 : Int) < ((u56.Parents.length : Int) : Int)) then
 ((gi y27 y16).bind fun u63 =>
 K36 u63)
 else
 (K36 false)
def spec_l8All_l3 (y18 : List Bool) (K74 : List Int → Int → Option ((List Int))) : Nat → List Int → Int → Option ((List Int))
 | 0, _, _ => none
 | m + 1, y69, y72 =>
 bif decide ((y72 : Int) < ((y18.length : Int) : Int)) then
 (jn (fun (y80 : List Int) =>
 spec_l8All_l3 y18 K74 m y80 (w64 (y72 + 1))) fun K84 =>
 (gi y18 y72).bind fun u88 =>
 bif u88 then
 ((apM y69 [y72]).bind fun q96 =>
 K84 q96)
 else
 (K84 y69))
 else
 (K74 y69 y72)
def spec_l8All_l1 (x0 : Vm.Repo) (K21 : Int → List Bool → Option ((List Int))) : Nat → Int → List Bool → Option ((List Int))
 | 0, _, _ => none
 | m + 1, y16, y18 =>
 bif decide ((0 : Int) ≤ (y16 : Int)) then
 (jn (fun (y26 : Int) (y27 : List Bool) =>
 spec_l8All_l1 x0 K21 m (w64 (y16 - 1)) y27) fun K30 =>
 spec_l8All_l2 x0 y16 K30 (4) 0 y18)
 else
 (K21 y16 y18)
def spec_l8All (x0 : Vm.Repo) (x1 : Int) : Option ((List Int)) :=
 (mkM (x0.Commits.length : Int) (false : Bool)).bind fun q4 =>
 (gi q4 x1).bind fun u9 =>
 (siM q4 x1 true).bind fun q12 =>
 jn (fun (y16 : Int) (y18 : List Bool) =>
 jn (fun (y69 : List Int) (y72 : Int) =>
 some y69) fun K74 =>
 spec_l8All_l3 y18 K74 (((y18.length : Int) - 0).toNat + 1) ([] : List Int) 0) fun K21 =>
 spec_l8All_l1 x0 K21 ((x1 + 1 - 0).toNat + 1) x1 q12
def spec_l8Has_l1 (x0 : List Int) (x1 : Int) (K4 : Bool → Int → Option (Bool)) : Nat → Bool → Int → Option (Bool)
 | 0, _, _ => none
 | m + 1, y1, y2 =>
 bif decide ((y2 : Int) < ((x0.length : Int) : Int)) then
 ((gi x0 y2).bind fun u9 =>
 bif ((u9 : Int) == (x1 : Int)) then
 (some true)
 else
 (spec_l8Has_l1 x0 x1 K4 m y1 (w64 (y2 + 1))))
 else
 (K4 y1 y2)
def spec_l8Has (x0 : List Int) (x1 : Int) : Option (Bool) :=
 jn (fun (y1 : Bool) (y2 : Int) =>
 some false) fun K4 =>
 spec_l8Has_l1 x0 x1 K4 (((x0.length : Int) - 0).toNat + 1) false 0
def spec_l8Bases_l3 (x0 : Vm.Repo) (y23 : List Int) (y80 : Int) (K107 : Bool → Int → Option ((List Int))) : Nat → Bool → Int → Option ((List Int))
 | 0, _, _ => none
 | m + 1, y104, y105 =>
 bif decide ((y105 : Int) < ((y23.length : Int) : Int)) then
 (bif y104 then
 (bif ((y105 : Int) == (y80 : Int)) then
 (spec_l8Bases_l3 x0 y23 y80 K107 m true (w64 (y105 + 1)))
 else
 ((gi y23 y105).bind fun u125 =>
 (gi y23 y80).bind fun u127 =>
 (Vm.spec_l8All x0 u125).bind fun z131 =>
 (Vm.spec_l8Has z131 u127).bind fun z140 =>
 spec_l8Bases_l3 x0 y23 y80 K107 m (!z140) (w64 (y105 + 1))))
 else
 (spec_l8Bases_l3 x0 y23 y80 K107 m false (w64 (y105 + 1))))
 else
 (K107 y104 y105)
def spec_l8Bases_l2 (x0 : Vm.Repo) (y23 : List Int) (K84 : List Int → Int → Option ((List Int))) : Nat → List Int → Int → Option ((List Int))
 | 0, _, _ => none
 | m + 1, y77, y80 =>
 bif decide ((y80 : Int) < ((y23.length : Int) : Int)) then
 (jn (fun (y92 : List Int) =>
 spec_l8Bases_l2 x0 y23 K84 m y92 (w64 (y80 + 1))) fun K98 =>
 jn (fun (y104 : Bool) (y105 : Int) =>
 bif y104 then
 ((gi y23 y80).bind fun u151 =>
 (apM y77 [u151]).bind fun q160 =>
 K98 q160)
 else
 (K98 y77)) fun K107 =>
 spec_l8Bases_l3 x0 y23 y80 K107 (((y23.length : Int) - 0).toNat + 1) true 0)
 else
 (K84 y77 y80)
def spec_l8Bases_l1 (z5 : (List Int)) (z12 : (List Int)) (K28 : List Int → Int → Option ((List Int))) : Nat → List Int → Int → Option ((List Int))
 | 0, _, _ => none
 | m + 1, y23, y26 =>
 bif decide ((y26 : Int) < ((z5.length : Int) : Int)) then
 (jn (fun (y35 : List Int) =>
 spec_l8Bases_l1 z5 z12 K28 m y35 (w64 (y26 + 1))) fun K39 =>
 (gi z5 y26).bind fun u44 =>
 (Vm.spec_l8Has z12 u44).bind fun z46 =>
 bif z46 then
 ((gi z5 y26).bind fun u55 =>
 (apM y23 [u55]).bind fun q63 =>
 K39 q63)
 else
 (K39 y23))
 else
 (K28 y23 y26)
def spec_l8Bases (x0 : Vm.Repo) (x1 : Int) (x2 : Int) : Option ((List Int)) :=
 (Vm.spec_l8All x0 x1).bind fun z5 =>
 (Vm.spec_l8All x0 x2).bind fun z12 =>
 jn (fun (y23 : List Int) (y26 : Int) =>
 jn (fun (y77 : List Int) (y80 : Int) =>
 some y77) fun K84 =>
 spec_l8Bases_l2 x0 y23 K84 (((y23.length : Int) - 0).toNat + 1) ([] : List Int) 0) fun K28 =>
 spec_l8Bases_l1 z5 z12 K28 (((z5.length : Int) - 0).toNat + 1) ([] : List Int) 0
def spec_l9Base (x0 : Vm.Repo) (x1 : Int) (x2 : Int) : Option ((List Vm.File)) :=
 (Vm.spec_l8Bases x0 x1 x2).bind fun z5 =>
 bif (((z5.length : Int) : Int) == (0 : Int)) then
 (some ([] : List File))
 else
 ((gi z5 (w64 ((z5.length : Int) - 1))).bind fun u15 =>
 (gi x0.Commits u15).bind fun u17 =>
 some u17.Tree)
def spec_l5Put_l1 (x0 : List Str) (x1 : Str) (K3 : Int → Option ((List Str))) : Nat → Int → Option ((List Str))
 | 0, _ => none
 | m + 1, y1 =>
 jn (fun (y6 : Bool) =>
 bif y6 then
 (spec_l5Put_l1 x0 x1 K3 m (w64 (y1 + 1)))
 else
 (K3 y1)) fun K8 =>
 bif decide ((y1 : Int) < ((x0.length : Int) : Int)) then
 ((gi x0 y1).bind fun u56 =>
 K8 (Op.bytesLess u56 x1))
 else
 (K8 false)
def spec_l5Put (x0 : List Str) (x1 : Str) : Option ((List Str)) :=
 jn (fun (y1 : Int) =>
 jn (fun (y11 : Bool) =>
 bif y11 then
 (some x0)
 else
 ((slM x0 0 y1).bind fun q19 =>
 (apM ([] : List Str) q19).bind fun q24 =>
 (apM q24 [x1]).bind fun q31 =>
 (slM x0 y1 (x0.length : Int)).bind fun q36 =>
 (apM q31 q36).bind fun q41 =>
 some q41)) fun K13 =>
 bif decide ((y1 : Int) < ((x0.length : Int) : Int)) then
 ((gi x0 y1).bind fun u52 =>
 K13 (u52 == x1))
 else
 (K13 false)) fun K3 =>
 spec_l5Put_l1 x0 x1 K3 (x0.length + 1) 0
def spec_l6Paths_l3 (x2 : List Vm.File) (K45 : List Str → Int → Option ((List Str))) : Nat → List Str → Int → Option ((List Str))
 | 0, _, _ => none
 | m + 1, y40, y43 =>
 bif decide ((y43 : Int) < ((x2.length : Int) : Int)) then
 ((gi x2 y43).bind fun u50 =>
 (Vm.spec_l5Put y40 u50.Path).bind fun z52 =>
 spec_l6Paths_l3 x2 K45 m z52 (w64 (y43 + 1)))
 else
 (K45 y40 y43)
def spec_l6Paths_l2 (x1 : List Vm.File) (K28 : List Str → Int → Option ((List Str))) : Nat → List Str → Int → Option ((List Str))
 | 0, _, _ => none
 | m + 1, y23, y26 =>
 bif decide ((y26 : Int) < ((x1.length : Int) : Int)) then
 ((gi x1 y26).bind fun u33 =>
 (Vm.spec_l5Put y23 u33.Path).bind fun z35 =>
 spec_l6Paths_l2 x1 K28 m z35 (w64 (y26 + 1)))
 else
 (K28 y23 y26)
def spec_l6Paths_l1 (x0 : List Vm.File) (K11 : List Str → Int → Option ((List Str))) : Nat → List Str → Int → Option ((List Str))
 | 0, _, _ => none
 | m + 1, y6, y9 =>
 bif decide ((y9 : Int) < ((x0.length : Int) : Int)) then
 ((gi x0 y9).bind fun u16 =>
 (Vm.spec_l5Put y6 u16.Path).bind fun z18 =>
 spec_l6Paths_l1 x0 K11 m z18 (w64 (y9 + 1)))
 else
 (K11 y6 y9)
def spec_l6Paths (x0 : List Vm.File) (x1 : List Vm.File) (x2 : List Vm.File) : Option ((List Str)) :=
 jn (fun (y6 : List Str) (y9 : Int) =>
 jn (fun (y23 : List Str) (y26 : Int) =>
 jn (fun (y40 : List Str) (y43 : Int) =>
 some y40) fun K45 =>
 spec_l6Paths_l3 x2 K45 (((x2.length : Int) - 0).toNat + 1) y23 0) fun K28 =>
 spec_l6Paths_l2 x1 K28 (((x1.length : Int) - 0).toNat + 1) y6 0) fun K11 =>
 spec_l6Paths_l1 x0 K11 (((x0.length : Int) - 0).toNat + 1) ([] : List Str) 0
def spec_l4Get_l1 (x0 : List Vm.File) (x1 : Str) (K7 : List Str → Bool → Int → Option ((List Str) × Bool)) : Nat → List Str → Bool → Int → Option ((List Str) × Bool)
 | 0, _, _, _ => none
 | m + 1, y1, y4, y5 =>
 bif decide ((y5 : Int) < ((x0.length : Int) : Int)) then
 ((gi x0 y5).bind fun u12 =>
 bif (u12.Path == x1) then
 ((gi x0 y5).bind fun u15 =>
 some (u15.Text, true))
 else
 (spec_l4Get_l1 x0 x1 K7 m y1 y4 (w64 (y5 + 1))))
 else
 (K7 y1 y4 y5)
def spec_l4Get (x0 : List Vm.File) (x1 : Str) : Option ((List Str) × Bool) :=
 jn (fun (y1 : List Str) (y4 : Bool) (y5 : Int) =>
 some (([] : List Str), false)) fun K7 =>
 spec_l4Get_l1 x0 x1 K7 (((x0.length : Int) - 0).toNat + 1) ([] : List Str) false 0
def spec_l1Same_l1 (x0 : List Str) (x1 : List Str) (K5 : Bool → Int → Option (Bool)) : Nat → Bool → Int → Option (Bool)
 | 0, _, _ => none
 | m + 1, y2, y3 =>
 bif decide ((y3 : Int) < ((x0.length : Int) : Int)) then
 ((gi x0 y3).bind fun u12 =>
 (gi x1 y3).bind fun u15 =>
 bif (u12 != u15) then
 (some false)
 else
 (spec_l1Same_l1 x0 x1 K5 m y2 (w64 (y3 + 1))))
 else
 (K5 y2 y3)
def spec_l1Same (x0 : List Str) (x1 : List Str) : Option (Bool) :=
 bif (((x0.length : Int) : Int) != ((x1.length : Int) : Int)) then
 (some false)
 else
 (jn (fun (y2 : Bool) (y3 : Int) =>
 some true) fun K5 =>
 spec_l1Same_l1 x0 x1 K5 (((x0.length : Int) - 0).toNat + 1) false 0)
def spec_l6Same (x0 : List Str) (x1 : Bool) (x2 : List Str) (x3 : Bool) : Option (Bool) :=
 jn (fun (y1 : Bool) =>
 some y1) fun K3 =>
 bif (x1 == x3) then
 (bif (!x1) then
 (K3 true)
 else
 ((Vm.spec_l1Same x0 x2).bind fun z7 =>
 K3 z7))
 else
 (K3 false)
def spec_l1Table_l3 (x0 : List Str) (x1 : List Str) (y28 : Int) (K42 : Int → List (List Int) → Option ((List (List Int)))) : Nat → Int → List (List Int) → Option ((List (List Int)))
 | 0, _, _ => none
 | m + 1, y38, y39 =>
 bif decide ((0 : Int) ≤ (y38 : Int)) then
 (jn (fun (y46 : List (List Int)) =>
 spec_l1Table_l3 x0 x1 y28 K42 m (w64 (y38 - 1)) y46) fun K49 =>
 (gi x0 y28).bind fun u54 =>
 (gi x1 y38).bind fun u57 =>
 bif (u54 == u57) then
 ((gi y39 y28).bind fun u64 =>
 (gi y39 (w64 (y28 + 1))).bind fun u69 =>
 (gi u69 (w64 (y38 + 1))).bind fun u74 =>
 (gi u64 y38).bind fun u76 =>
 (siM u64 y38 (w64 (u74 + 1))).bind fun q81 =>
 (siM y39 y28 q81).bind fun q85_ =>
 K49 q85_)
 else
 ((gi y39 (w64 (y28 + 1))).bind fun u90 =>
 (gi u90 y38).bind fun u95 =>
 (gi y39 y28).bind fun u97 =>
 (gi u97 (w64 (y38 + 1))).bind fun u102 =>
 bif decide ((u102 : Int) ≤ (u95 : Int)) then
 ((gi y39 y28).bind fun u108 =>
 (gi y39 (w64 (y28 + 1))).bind fun u113 =>
 (gi u113 y38).bind fun u118 =>
 (gi u108 y38).bind fun u120 =>
 (siM u108 y38 u118).bind fun q125 =>
 (siM y39 y28 q125).bind fun q129_ =>
 K49 q129_)
 else
 ((gi y39 y28).bind fun u134 =>
 (gi y39 y28).bind fun u139 =>
 (gi u139 (w64 (y38 + 1))).bind fun u144 =>
 (gi u134 y38).bind fun u146 =>
 (siM u134 y38 u144).bind fun q151 =>
 (siM y39 y28 q151).bind fun q155_ =>
 K49 q155_)))
 else
 (K42 y38 y39)
def spec_l1Table_l2 (x0 : List Str) (x1 : List Str) (K33 : Int → List (List Int) → Option ((List (List Int)))) : Nat → Int → List (List Int) → Option ((List (List Int)))
 | 0, _, _ => none
 | m + 1, y28, y30 =>
 bif decide ((0 : Int) ≤ (y28 : Int)) then
 (jn (fun (y38 : Int) (y39 : List (List Int)) =>
 spec_l1Table_l2 x0 x1 K33 m (w64 (y28 - 1)) y39) fun K42 =>
 spec_l1Table_l3 x0 x1 y28 K42 (((w64 ((x1.length : Int) - 1)) + 1 - 0).toNat + 1) (w64 ((x1.length : Int) - 1)) y30)
 else
 (K33 y28 y30)
def spec_l1Table_l1 (x0 : List Str) (x1 : List Str) (K8 : List (List Int) → Int → Option ((List (List Int)))) : Nat → List (List Int) → Int → Option ((List (List Int)))
 | 0, _, _ => none
 | m + 1, y3, y6 =>
 bif decide ((y6 : Int) ≤ ((x0.length : Int) : Int)) then
 ((mkM (w64 ((x1.length : Int) + 1)) (0 : Int)).bind fun q14 =>
 (apM y3 [q14]).bind fun q23 =>
 spec_l1Table_l1 x0 x1 K8 m q23 (w64 (y6 + 1)))
 else
 (K8 y3 y6)
def spec_l1Table (x0 : List Str) (x1 : List Str) : Option ((List (List Int))) :=
 jn (fun (y3 : List (List Int)) (y6 : Int) =>
 jn (fun (y28 : Int) (y30 : List (List Int)) =>
 some y30) fun K33 =>
 spec_l1Table_l2 x0 x1 K33 (((w64 ((x0.length : Int) - 1)) + 1 - 0).toNat + 1) (w64 ((x0.length : Int) - 1)) y3) fun K8 =>
 spec_l1Table_l1 x0 x1 K8 (((x0.length : Int) + 1 - 0).toNat + 1) ([] : List (List Int)) 0
def spec_l1Match_l1 (x0 : List Str) (x1 : List Str) (z1 : (List (List Int))) (K14 : List Int → Int → Int → Option ((List Int))) : Nat → List Int → Int → Int → Option ((List Int))
 | 0, _, _, _ => none
 | m + 1, y8, y11, y12 =>
 bif decide ((y12 : Int) < ((x0.length : Int) : Int)) then
 (jn (fun (y20 : Bool) =>
 bif y20 then
 ((apM y8 [y11]).bind fun q31 =>
 spec_l1Match_l1 x0 x1 z1 K14 m q31 (w64 (y11 + 1)) (w64 (y12 + 1)))
 else
 (jn (fun (y37 : Bool) =>
 bif y37 then
 ((apM y8 [(-1)]).bind fun q48 =>
 spec_l1Match_l1 x0 x1 z1 K14 m q48 y11 (w64 (y12 + 1)))
 else
 (spec_l1Match_l1 x0 x1 z1 K14 m y8 (w64 (y11 + 1)) y12)) fun K39 =>
 bif decide (((x1.length : Int) : Int) ≤ (y11 : Int)) then
 (K39 true)
 else
 ((gi z1 (w64 (y12 + 1))).bind fun u60 =>
 (gi u60 y11).bind fun u65 =>
 (gi z1 y12).bind fun u67 =>
 (gi u67 (w64 (y11 + 1))).bind fun u72 =>
 K39 (decide ((u72 : Int) ≤ (u65 : Int)))))) fun K22 =>
 bif decide ((y11 : Int) < ((x1.length : Int) : Int)) then
 ((gi x0 y12).bind fun u80 =>
 (gi x1 y11).bind fun u83 =>
 K22 (u80 == u83))
 else
 (K22 false))
 else
 (K14 y8 y11 y12)
def spec_l1Match (x0 : List Str) (x1 : List Str) : Option ((List Int)) :=
 (Vm.spec_l1Table x0 x1).bind fun z1 =>
 jn (fun (y8 : List Int) (y11 : Int) (y12 : Int) =>
 some y8) fun K14 =>
 spec_l1Match_l1 x0 x1 z1 K14 (x0.length + x1.length + 1) ([] : List Int) 0 0
def spec_l3Part (x0 : List Str) (x1 : List Str) (x2 : List Str) : Option (Vm.Part) :=
 jn (fun (y3 : Bool) =>
 bif y3 then
 ((apM ([] : List Str) x2).bind fun q12 =>
 some (Vm.Part.mk false q12 ([] : List Str) ([] : List Str) ([] : List Str)))
 else
 ((Vm.spec_l1Same x2 x0).bind fun z26 =>
 bif z26 then
 ((apM ([] : List Str) x1).bind fun q35 =>
 some (Vm.Part.mk false q35 ([] : List Str) ([] : List Str) ([] : List Str)))
 else
 ((apM ([] : List Str) x0).bind fun q50 =>
 (apM ([] : List Str) x1).bind fun q60 =>
 (apM ([] : List Str) x2).bind fun q72 =>
 some (Vm.Part.mk true ([] : List Str) q50 q60 q72)))) fun K5 =>
 (Vm.spec_l1Same x1 x0).bind fun z102 =>
 bif z102 then
 (K5 z102)
 else
 ((Vm.spec_l1Same x1 x2).bind fun z110 =>
 K5 z110)
def spec_l3Put (x0 : List Vm.Part) (x1 : Vm.Part) : Option ((List Vm.Part)) :=
 jn (fun (y8 : Bool) =>
 bif y8 then
 (some x0)
 else
 (jn (fun (y26 : Bool) =>
 bif y26 then
 ((gi x0 (w64 ((x0.length : Int) - 1))).bind fun u45 =>
 (apM u45.Lines x1.Lines).bind fun q57 =>
 (gi x0 (w64 ((x0.length : Int) - 1))).bind fun u66 =>
 (siM x0 (w64 ((x0.length : Int) - 1)) (Vm.Part.mk u45.Clash q57 u45.Old u45.One u45.Two)).bind fun q69 =>
 some q69)
 else
 ((apM x0 [Vm.Part.mk x1.Clash x1.Lines x1.Old x1.One x1.Two]).bind fun q92 =>
 some q92)) fun K28 =>
 bif decide ((0 : Int) < ((x0.length : Int) : Int)) then
 (bif (!x1.Clash) then
 ((gi x0 (w64 ((x0.length : Int) - 1))).bind fun u104 =>
 K28 (!u104.Clash))
 else
 (K28 false))
 else
 (K28 false))) fun K10 =>
 bif (!x1.Clash) then
 (K10 (((x1.Lines.length : Int) : Int) == (0 : Int)))
 else
 (K10 false)
def spec_l3Of_l1 (x0 : List Str) (x1 : List Str) (x2 : List Str) (q15 : List Int) (q37 : List Int) (K53 : List Vm.Part → Int → Int → Int → Int → Option ((List Vm.Part))) : Nat → List Vm.Part → Int → Int → Int → Int → Option ((List Vm.Part))
 | 0, _, _, _, _, _ => none
 | m + 1, y45, y48, y49, y50, y51 =>
 bif decide ((y51 : Int) < ((q15.length : Int) : Int)) then
 (jn (fun (y61 : List Vm.Part) (y64 : Int) (y65 : Int) (y66 : Int) =>
 spec_l3Of_l1 x0 x1 x2 q15 q37 K53 m y61 y64 y65 y66 (w64 (y51 + 1))) fun K68 =>
 jn (fun (y74 : Bool) =>
 bif y74 then
 (K68 y45 y48 y49 y50)
 else
 ((slM x0 y48 y51).bind fun q91 =>
 (gi q15 y51).bind fun u96 =>
 (slM x1 y49 u96).bind fun q98 =>
 (gi q37 y51).bind fun u103 =>
 (slM x2 y50 u103).bind fun q105 =>
 (Vm.spec_l3Part q91 q98 q105).bind fun z110 =>
 (Vm.spec_l3Put y45 (Vm.Part.mk z110.Clash z110.Lines z110.Old z110.One z110.Two)).bind fun z119 =>
 jn (fun (y127 : List Vm.Part) =>
 (gi q15 y51).bind fun u137 =>
 (gi q37 y51).bind fun u139 =>
 K68 y127 (w64 (y51 + 1)) (w64 (u137 + 1)) (w64 (u139 + 1))) fun K131 =>
 bif decide ((y51 : Int) < ((x0.length : Int) : Int)) then
 ((gi x0 y51).bind fun u149 =>
 (Vm.spec_l3Put z119 (Vm.Part.mk false ([u149] : List Str) ([] : List Str) ([] : List Str) ([] : List Str))).bind fun z158 =>
 K131 z158)
 else
 (K131 z119))) fun K76 =>
 (gi q15 y51).bind fun u172 =>
 bif decide ((u172 : Int) < (0 : Int)) then
 (K76 true)
 else
 ((gi q37 y51).bind fun u175 =>
 K76 (decide ((u175 : Int) < (0 : Int)))))
 else
 (K53 y45 y48 y49 y50 y51)
def spec_l3Of (x0 : List Str) (x1 : List Str) (x2 : List Str) : Option ((List Vm.Part)) :=
 (Vm.spec_l1Match x0 x1).bind fun z5 =>
 (apM z5 [(x1.length : Int)]).bind fun q15 =>
 (Vm.spec_l1Match x0 x2).bind fun z23 =>
 (apM z23 [(x2.length : Int)]).bind fun q37 =>
 jn (fun (y45 : List Vm.Part) (y48 : Int) (y49 : Int) (y50 : Int) (y51 : Int) =>
 some y45) fun K53 =>
 spec_l3Of_l1 x0 x1 x2 q15 q37 K53 (((q15.length : Int) - 0).toNat + 1) ([] : List Part) 0 0 0 0
def spec_l3Text_l1 (x0 : List Vm.Part) (K12 : List Str → Bool → List Str → Int → Option ((List Str) × Bool)) : Nat → List Str → Bool → List Str → Int → Option ((List Str) × Bool)
 | 0, _, _, _, _ => none
 | m + 1, y3, y6, y7, y10 =>
 bif decide ((y10 : Int) < ((x0.length : Int) : Int)) then
 ((gi x0 y10).bind fun u17 =>
 bif u17.Clash then
 (some (([] : List Str), false))
 else
 ((gi x0 y10).bind fun u20 =>
 (apM y7 u20.Lines).bind fun q25 =>
 spec_l3Text_l1 x0 K12 m y3 y6 q25 (w64 (y10 + 1))))
 else
 (K12 y3 y6 y7 y10)
def spec_l3Text (x0 : List Vm.Part) : Option ((List Str) × Bool) :=
 jn (fun (y3 : List Str) (y6 : Bool) (y7 : List Str) (y10 : Int) =>
 (Vm.spec_l1Ok y7).bind fun z30 =>
 bif (!z30) then
 (some (([] : List Str), false))
 else
 (some (y7, true))) fun K12 =>
 spec_l3Text_l1 x0 K12 (((x0.length : Int) - 0).toNat + 1) ([] : List Str) false ([] : List Str) 0
def spec_l6One (x0 : List Vm.File) (x1 : List Vm.File) (x2 : List Vm.File) (x3 : Str) : Option ((List Str) × Bool × Int) :=
 (Vm.spec_l4Get x0 x3).bind fun z1 =>
 (Vm.spec_l4Get x1 x3).bind fun z7 =>
 (Vm.spec_l4Get x2 x3).bind fun z13 =>
 jn (fun (y18 : Bool) =>
 bif y18 then
 (some (z13.1, z13.2, 0))
 else
 ((Vm.spec_l6Same z13.1 z13.2 z1.1 z1.2).bind fun z26 =>
 bif z26 then
 (some (z7.1, z7.2, 0))
 else
 (jn (fun (y32 : Bool) =>
 bif y32 then
 (some (z1.1, z1.2, 1))
 else
 (bif (!z1.2) then
 (some (([] : List Str), false, 2))
 else
 ((Vm.spec_l3Of z1.1 z7.1 z13.1).bind fun z42 =>
 (Vm.spec_l3Text z42).bind fun z46 =>
 bif (!z46.2) then
 (some (z1.1, true, 3))
 else
 (some (z46.1, true, 0))))) fun K34 =>
 bif (!z7.2) then
 (K34 true)
 else
 (K34 (!z13.2))))) fun K20 =>
 (Vm.spec_l6Same z7.1 z7.2 z1.1 z1.2).bind fun z60 =>
 bif z60 then
 (K20 z60)
 else
 ((Vm.spec_l6Same z7.1 z7.2 z13.1 z13.2).bind fun z67 =>
 K20 z67)
def spec_l6Of_l1 (x0 : List Vm.File) (x1 : List Vm.File) (x2 : List Vm.File) (z9 : (List Str)) (K27 : List Vm.File → List Vm.Clash → Int → Option ((List Vm.File) × (List Vm.Clash))) : Nat → List Vm.File → List Vm.Clash → Int → Option ((List Vm.File) × (List Vm.Clash))
 | 0, _, _, _ => none
 | m + 1, y16, y19, y22 =>
 bif decide ((y22 : Int) < ((z9.length : Int) : Int)) then
 (jn (fun (y32 : List Vm.File) (y35 : List Vm.Clash) =>
 spec_l6Of_l1 x0 x1 x2 z9 K27 m y32 y35 (w64 (y22 + 1))) fun K42 =>
 (gi z9 y22).bind fun u44 =>
 (Vm.spec_l6One x0 x1 x2 u44).bind fun z49 =>
 jn (fun (y56 : List Vm.Clash) =>
 bif z49.2.1 then
 ((gi z9 y22).bind fun u68 =>
 (apM ([] : List Str) z49.1).bind fun q75 =>
 (apM y16 [Vm.File.mk u68 q75]).bind fun q87 =>
 K42 q87 y56)
 else
 (K42 y16 y56)) fun K60 =>
 bif decide ((0 : Int) < (z49.2.2 : Int)) then
 ((gi z9 y22).bind fun u94 =>
 (apM y19 [Vm.Clash.mk u94 z49.2.2]).bind fun q101 =>
 K60 q101)
 else
 (K60 y19))
 else
 (K27 y16 y19 y22)
def spec_l6Of (x0 : List Vm.File) (x1 : List Vm.File) (x2 : List Vm.File) : Option ((List Vm.File) × (List Vm.Clash)) :=
 (Vm.spec_l6Paths x0 x1 x2).bind fun z9 =>
 jn (fun (y16 : List Vm.File) (y19 : List Vm.Clash) (y22 : Int) =>
 some (y16, y19)) fun K27 =>
 spec_l6Of_l1 x0 x1 x2 z9 K27 (((z9.length : Int) - 0).toNat + 1) ([] : List File) ([] : List Clash) 0
def spec_l6Join (x0 : List Vm.File) (x1 : List Vm.File) (x2 : List Vm.File) : Option ((List Vm.File) × (List Vm.Clash)) :=
 (Vm.spec_l6Of x0 x1 x2).bind fun z1 =>
 jn (fun (y5 : Bool) =>
 bif y5 then
 ((Vm.spec_l4Copy x0).bind fun z13 =>
 some (z13, ([Vm.Clash.mk ([] : Str) 4] : List Clash)))
 else
 (some (z1.1, z1.2))) fun K7 =>
 bif (((z1.2.length : Int) : Int) == (0 : Int)) then
 ((Vm.spec_l4Ok z1.1).bind fun z41 =>
 K7 (!z41))
 else
 (K7 false)
def spec_l9Unite (x0 : Vm.Repo) (x1 : Str) (x2 : Str) (x3 : Int) : Option (Vm.Repo × Int) :=
 (Vm.spec_l7At x0 x1).bind fun z8 =>
 (Vm.spec_l8All x0 z8).bind fun z16 =>
 (Vm.spec_l8Has z16 x3).bind fun z22 =>
 bif z22 then
 (some (x0, 2))
 else
 ((Vm.spec_l8All x0 x3).bind fun z38 =>
 (Vm.spec_l8Has z38 z8).bind fun z45 =>
 bif z45 then
 ((Vm.spec_l7Head x0 x1 x3).bind fun z56 =>
 some (z56, 3))
 else
 ((gi x0.Commits z8).bind fun u79 =>
 (gi x0.Commits x3).bind fun u85 =>
 (Vm.spec_l9Base x0 z8 x3).bind fun z91 =>
 (Vm.spec_l6Join z91 u79.Tree u85.Tree).bind fun z102 =>
 bif decide ((0 : Int) < ((z102.2.length : Int) : Int)) then
 (some (x0, 4))
 else
 ((Vm.spec_l7Add x0 x1 (Vm.Commit.mk ([z8, x3] : List Int) x2 z102.1)).bind fun z130 =>
 (Vm.spec_l7Ok z130).bind fun z163 =>
 bif (!z163) then
 (some (x0, 5))
 else
 (some (z130, 0)))))
def spec_UniteInto (x0 : Vm.Repo) (x1 : Str) (x2 : Str) (x3 : Int) : Option (Vm.Repo × Int) :=
 (Vm.spec_l7Ok x0).bind fun z8 =>
 bif (!z8) then
 (some (Vm.Repo.mk ([] : List Commit) ([] : List Head), 1))
 else
 (jn (fun (y18 : Bool) =>
 bif y18 then
 ((Vm.spec_l7Copy x0).bind fun z27 =>
 some (Vm.Repo.mk z27.Commits z27.Heads, 1))
 else
 ((Vm.spec_l7Copy x0).bind fun z52 =>
 (Vm.spec_l9Unite (Vm.Repo.mk z52.Commits z52.Heads) x1 x2 x3).bind fun z58 =>
 some (z58.1, z58.2))) fun K20 =>
 (Vm.spec_l7At x0 x1).bind fun z92 =>
 bif decide ((z92 : Int) < (0 : Int)) then
 (K20 true)
 else
 ((Vm.spec_l4Name x2).bind fun z99 =>
 bif (!z99) then
 (K20 true)
 else
 ((Vm.spec_l1In x3 0 (w64 ((x0.Commits.length : Int) - 1))).bind fun z107 =>
 K20 (!z107))))
def spec_l10Ahead (x0 : Vm.Repo) (x1 : Int) : Option ((List Vm.File)) :=
 (gi x0.Commits x1).bind fun u3 =>
 bif (((u3.Parents.length : Int) : Int) == (0 : Int)) then
 (some ([] : List File))
 else
 ((gi x0.Commits x1).bind fun u13 =>
 (gi u13.Parents 0).bind fun u19 =>
 (gi x0.Commits u19).bind fun u21 =>
 some u21.Tree)
def spec_l10Put (x0 : Vm.Repo) (x1 : Str) (x2 : Str) (x3 : List Vm.File) (x4 : List Vm.File) : Option (Vm.Repo × Int) :=
 (Vm.spec_l7At x0 x1).bind fun z8 =>
 (gi x0.Commits z8).bind fun u14 =>
 (Vm.spec_l6Join x3 u14.Tree x4).bind fun z22 =>
 bif decide ((0 : Int) < ((z22.2.length : Int) : Int)) then
 (some (x0, 4))
 else
 ((Vm.spec_l7Add x0 x1 (Vm.Commit.mk ([z8] : List Int) x2 z22.1)).bind fun z44 =>
 (Vm.spec_l7Ok z44).bind fun z71 =>
 bif (!z71) then
 (some (x0, 5))
 else
 (some (z44, 0)))
def spec_PickOf (x0 : Vm.Repo) (x1 : Str) (x2 : Str) (x3 : Int) : Option (Vm.Repo × Int) :=
 (Vm.spec_l7Ok x0).bind fun z8 =>
 bif (!z8) then
 (some (Vm.Repo.mk ([] : List Commit) ([] : List Head), 1))
 else
 (jn (fun (y18 : Bool) =>
 bif y18 then
 ((Vm.spec_l7Copy x0).bind fun z27 =>
 some (Vm.Repo.mk z27.Commits z27.Heads, 1))
 else
 ((Vm.spec_l7Copy x0).bind fun z52 =>
 (gi z52.Commits x3).bind fun u77 =>
 (Vm.spec_l10Ahead (Vm.Repo.mk z52.Commits z52.Heads) x3).bind fun z82 =>
 (Vm.spec_l10Put (Vm.Repo.mk z52.Commits z52.Heads) x1 x2 z82 u77.Tree).bind fun z93 =>
 some (z93.1, z93.2))) fun K20 =>
 (Vm.spec_l7At x0 x1).bind fun z136 =>
 bif decide ((z136 : Int) < (0 : Int)) then
 (K20 true)
 else
 ((Vm.spec_l4Name x2).bind fun z143 =>
 bif (!z143) then
 (K20 true)
 else
 ((Vm.spec_l1In x3 0 (w64 ((x0.Commits.length : Int) - 1))).bind fun z151 =>
 K20 (!z151))))
def spec_PickBack (x0 : Vm.Repo) (x1 : Str) (x2 : Str) (x3 : Int) : Option (Vm.Repo × Int) :=
 (Vm.spec_l7Ok x0).bind fun z8 =>
 bif (!z8) then
 (some (Vm.Repo.mk ([] : List Commit) ([] : List Head), 1))
 else
 (jn (fun (y18 : Bool) =>
 bif y18 then
 ((Vm.spec_l7Copy x0).bind fun z27 =>
 some (Vm.Repo.mk z27.Commits z27.Heads, 1))
 else
 ((Vm.spec_l7Copy x0).bind fun z52 =>
 (gi z52.Commits x3).bind fun u77 =>
 (Vm.spec_l10Ahead (Vm.Repo.mk z52.Commits z52.Heads) x3).bind fun z82 =>
 (Vm.spec_l10Put (Vm.Repo.mk z52.Commits z52.Heads) x1 x2 u77.Tree z82).bind fun z93 =>
 some (z93.1, z93.2))) fun K20 =>
 (Vm.spec_l7At x0 x1).bind fun z136 =>
 bif decide ((z136 : Int) < (0 : Int)) then
 (K20 true)
 else
 ((Vm.spec_l4Name x2).bind fun z143 =>
 bif (!z143) then
 (K20 true)
 else
 ((Vm.spec_l1In x3 0 (w64 ((x0.Commits.length : Int) - 1))).bind fun z151 =>
 K20 (!z151))))
def spec_l19Do (x0 : Vm.Repo) (x1 : Vm.Op) : Option (Vm.Repo × Int) :=
 (Vm.spec_l7At x0 x1.Branch).bind fun z12 =>
 jn (fun (y30 : List Vm.File) =>
 bif ((x1.Kind : Int) == (1 : Int)) then
 ((Vm.spec_TreeSet y30 (Vm.File.mk x1.Path x1.Text)).bind fun z41 =>
 (Vm.spec_l19Tree x0 x1 z41.1 z41.2).bind fun z53 =>
 some (z53.1, z53.2))
 else
 (bif ((x1.Kind : Int) == (2 : Int)) then
 ((Vm.spec_TreeDrop y30 x1.Path).bind fun z79 =>
 (Vm.spec_l19Tree x0 x1 z79.1 z79.2).bind fun z91 =>
 some (z91.1, z91.2))
 else
 (bif ((x1.Kind : Int) == (3 : Int)) then
 ((Vm.spec_TreeMove y30 x1.Path x1.To).bind fun z117 =>
 (Vm.spec_l19Tree x0 x1 z117.1 z117.2).bind fun z129 =>
 some (z129.1, z129.2))
 else
 (bif ((x1.Kind : Int) == (4 : Int)) then
 ((Vm.spec_RepoBranch x0 x1.To z12).bind fun z157 =>
 bif (!z157.2) then
 (some (x0, 1))
 else
 (some (z157.1, 0)))
 else
 (bif ((x1.Kind : Int) == (5 : Int)) then
 ((Vm.spec_l7At x0 x1.To).bind fun z199 =>
 (Vm.spec_UniteInto x0 x1.Branch x1.Who z199).bind fun z208 =>
 some (z208.1, z208.2))
 else
 (bif ((x1.Kind : Int) == (6 : Int)) then
 ((Vm.spec_PickOf x0 x1.Branch x1.Who x1.At).bind fun z226 =>
 some (z226.1, z226.2))
 else
 ((Vm.spec_PickBack x0 x1.Branch x1.Who x1.At).bind fun z243 =>
 some (z243.1, z243.2)))))))) fun K34 =>
 bif decide ((0 : Int) ≤ (z12 : Int)) then
 ((gi x0.Commits z12).bind fun u259 =>
 K34 u259.Tree)
 else
 (K34 ([] : List File))
def spec_RepoPlay_l1 (x0 : List Vm.Op) (K20 : Int → List Vm.Commit → List Vm.Head → Option (Vm.Repo)) : Nat → Int → List Vm.Commit → List Vm.Head → Option (Vm.Repo)
 | 0, _, _, _ => none
 | m + 1, y9, y12, y15 =>
 jn (fun (y24 : Bool) =>
 bif y24 then
 (jn (fun (y33 : List Vm.Commit) (y36 : List Vm.Head) =>
 spec_RepoPlay_l1 x0 K20 m (w64 (y9 + 1)) y33 y36) fun K41 =>
 (gi x0 y9).bind fun u44 =>
 (Vm.spec_l19Ok u44).bind fun z52 =>
 bif z52 then
 ((gi x0 y9).bind fun u63 =>
 (Vm.spec_l19Do (Vm.Repo.mk y12 y15) u63).bind fun z73 =>
 K41 z73.1.Commits z73.1.Heads)
 else
 (K41 y12 y15))
 else
 (K20 y9 y12 y15)) fun K26 =>
 bif decide ((y9 : Int) < ((x0.length : Int) : Int)) then
 (K26 (decide ((y9 : Int) < (30 : Int))))
 else
 (K26 false)
def spec_RepoPlay (x0 : List Vm.Op) : Option (Vm.Repo) :=
 jn (fun (y9 : Int) (y12 : List Vm.Commit) (y15 : List Vm.Head) =>
 some (Vm.Repo.mk y12 y15)) fun K20 =>
 spec_RepoPlay_l1 x0 K20 (x0.length + 1) 0 ([] : List Commit) ([] : List Head)
def spec_l30Repo (x0 : Vm.l30Rd) : Option (Vm.Repo × Int) :=
 (Vm.spec_l30Ops x0).bind fun z5 =>
 (Vm.spec_RepoPlay z5.1).bind fun z10 =>
 (Vm.spec_l7Copy z10).bind fun z19 =>
 some (Vm.Repo.mk z19.Commits z19.Heads, z5.2)
def spec_l30AnyRepo (x0 : Vm.l30Rd) : Option (Vm.Repo × Int) :=
 (Vm.spec_l30Repo x0).bind fun z5 =>
 jn (fun (y23 : Int) (y25 : List Vm.Commit) (y28 : List Vm.Head) =>
 some (Vm.Repo.mk y25 y28, y23)) fun K33 =>
 bif decide ((0 : Int) < ((z5.1.Commits.length : Int) : Int)) then
 ((Vm.spec_l30Rd_pick (Vm.l30Rd.mk x0.b z5.2) (z5.1.Commits.length : Int)).bind fun z56 =>
 (Vm.spec_l30Rd_pick (Vm.l30Rd.mk x0.b z56.2) 16).bind fun z65 =>
 bif ((z65.1 : Int) == (0 : Int)) then
 ((gi z5.1.Commits z56.1).bind fun u81 =>
 (siM z5.1.Commits z56.1 (Vm.Commit.mk ([z56.1] : List Int) u81.Who u81.Tree)).bind fun q84 =>
 K33 z65.2 q84 z5.1.Heads)
 else
 (bif ((z65.1 : Int) == (1 : Int)) then
 ((gi z5.1.Commits z56.1).bind fun u92 =>
 (siM z5.1.Commits z56.1 (Vm.Commit.mk u92.Parents ([] : Str) u92.Tree)).bind fun q95 =>
 K33 z65.2 q95 z5.1.Heads)
 else
 (bif ((z65.1 : Int) == (2 : Int)) then
 ((gi z5.1.Heads 0).bind fun u110 =>
 (apM z5.1.Heads [u110]).bind fun q122 =>
 K33 z65.2 z5.1.Commits q122)
 else
 (K33 z65.2 z5.1.Commits z5.1.Heads))))
 else
 (K33 z5.2 z5.1.Commits z5.1.Heads)
def spec_l30At (x0 : Vm.l30Rd) (x1 : Vm.Repo) : Option (Int × Int) :=
 (Vm.spec_l30Rd_pick x0 14).bind fun z5 =>
 bif ((z5.1 : Int) == (0 : Int)) then
 ((Vm.spec_l30Rd_one (Vm.l30Rd.mk x0.b z5.2) ([(-1), (x1.Commits.length : Int)] : List Int)).bind fun z17 =>
 some (z17.1, z17.2))
 else
 ((Vm.spec_l30Rd_pick (Vm.l30Rd.mk x0.b z5.2) (x1.Commits.length : Int)).bind fun z25 =>
 some (z25.1, z25.2))
def spec_DrawAncIs (x0 : List Byte) : Option (Vm.Repo × Int × Int) :=
 (Vm.spec_l30Open x0).bind fun z4 =>
 (Vm.spec_l30AnyRepo z4).bind fun z10 =>
 (Vm.spec_l30At (Vm.l30Rd.mk z4.b z10.2) (Vm.Repo.mk z10.1.Commits z10.1.Heads)).bind fun z28 =>
 (Vm.spec_l30At (Vm.l30Rd.mk z4.b z28.2) (Vm.Repo.mk z10.1.Commits z10.1.Heads)).bind fun z44 =>
 some (Vm.Repo.mk z10.1.Commits z10.1.Heads, z28.1, z44.1)
def impl_within (x0 : Int) (x1 : Int) (x2 : Int) : Option (Bool) :=
 jn (fun (y1 : Bool) =>
 some y1) fun K3 =>
 bif decide ((x1 : Int) ≤ (x0 : Int)) then
 (K3 (decide ((x0 : Int) ≤ (x2 : Int))))
 else
 (K3 false)
def impl_wordByte (x0 : Byte) : Option (Bool) :=
 jn (fun (y1 : Bool) =>
 some y1) fun K3 =>
 bif decide ((97 : Int) ≤ ((UInt8.toNat x0 : Int) : Int)) then
 (bif decide (((UInt8.toNat x0 : Int) : Int) ≤ (122 : Int)) then
 (K3 true)
 else
 (bif decide ((48 : Int) ≤ ((UInt8.toNat x0 : Int) : Int)) then
 (K3 (decide (((UInt8.toNat x0 : Int) : Int) ≤ (57 : Int))))
 else
 (K3 false)))
 else
 (bif decide ((48 : Int) ≤ ((UInt8.toNat x0 : Int) : Int)) then
 (K3 (decide (((UInt8.toNat x0 : Int) : Int) ≤ (57 : Int))))
 else
 (K3 false))
def impl_nameOk_l1 (x0 : Str) (K9 : Bool → Int → Option (Bool)) : Nat → Bool → Int → Option (Bool)
 | 0, _, _ => none
 | m + 1, y6, y7 =>
 bif decide ((y7 : Int) < ((x0.length : Int) : Int)) then
 ((chM x0 y7).bind fun u13 =>
 (Vm.impl_wordByte u13).bind fun z15 =>
 bif (!z15) then
 (some false)
 else
 (impl_nameOk_l1 x0 K9 m y6 (w64 (y7 + 1))))
 else
 (K9 y6 y7)
def impl_nameOk (x0 : Str) : Option (Bool) :=
 (Vm.impl_within (x0.length : Int) 1 6).bind fun z1 =>
 bif (!z1) then
 (some false)
 else
 (jn (fun (y6 : Bool) (y7 : Int) =>
 some true) fun K9 =>
 impl_nameOk_l1 x0 K9 (((x0.length : Int) - 0).toNat + 1) false 0)
def impl_lineOk_l1 (x0 : Str) (K5 : Bool → Int → Option (Bool)) : Nat → Bool → Int → Option (Bool)
 | 0, _, _ => none
 | m + 1, y2, y3 =>
 bif decide ((y3 : Int) < ((x0.length : Int) : Int)) then
 (jn (fun (y9 : Bool) =>
 bif y9 then
 (some false)
 else
 (impl_lineOk_l1 x0 K5 m y2 (w64 (y3 + 1)))) fun K11 =>
 (chM x0 y3).bind fun u14 =>
 bif decide (((UInt8.toNat u14 : Int) : Int) < (32 : Int)) then
 (K11 true)
 else
 ((chM x0 y3).bind fun u17 =>
 K11 (decide ((126 : Int) < ((UInt8.toNat u17 : Int) : Int)))))
 else
 (K5 y2 y3)
def impl_lineOk (x0 : Str) : Option (Bool) :=
 bif decide ((12 : Int) < ((x0.length : Int) : Int)) then
 (some false)
 else
 (jn (fun (y2 : Bool) (y3 : Int) =>
 some true) fun K5 =>
 impl_lineOk_l1 x0 K5 (((x0.length : Int) - 0).toNat + 1) false 0)
def impl_TextOk_l1 (x0 : List Str) (K6 : Bool → Int → Option (Bool)) : Nat → Bool → Int → Option (Bool)
 | 0, _, _ => none
 | m + 1, y2, y4 =>
 bif decide ((y4 : Int) < ((x0.length : Int) : Int)) then
 ((gi x0 y4).bind fun u10 =>
 (Vm.impl_lineOk u10).bind fun z13 =>
 bif (!z13) then
 (some false)
 else
 (impl_TextOk_l1 x0 K6 m y2 (w64 (y4 + 1))))
 else
 (K6 y2 y4)
def impl_TextOk (x0 : List Str) : Option (Bool) :=
 bif decide ((10 : Int) < ((x0.length : Int) : Int)) then
 (some false)
 else
 (jn (fun (y2 : Bool) (y4 : Int) =>
 some true) fun K6 =>
 impl_TextOk_l1 x0 K6 (((x0.length : Int) - 0).toNat + 1) false 0)
def strings_Split (x0 : Str) (x1 : Str) : Option ((List Str)) :=
 if x0.length ≤ 4294967000 ∧ 1 ≤ x1.length then some (Go.Lib.split x0 x1) else none
def impl_PathOk_l1 (z1 : (List Str)) (K10 : Bool → Int → Option (Bool)) : Nat → Bool → Int → Option (Bool)
 | 0, _, _ => none
 | m + 1, y6, y8 =>
 bif decide ((y8 : Int) < ((z1.length : Int) : Int)) then
 ((gi z1 y8).bind fun u15 =>
 (Vm.impl_nameOk u15).bind fun z17 =>
 bif (!z17) then
 (some false)
 else
 (impl_PathOk_l1 z1 K10 m y6 (w64 (y8 + 1))))
 else
 (K10 y6 y8)
def impl_PathOk (x0 : Str) : Option (Bool) :=
 (Vm.strings_Split x0 ([47] : Str)).bind fun z1 =>
 bif decide ((3 : Int) < ((z1.length : Int) : Int)) then
 (some false)
 else
 (jn (fun (y6 : Bool) (y8 : Int) =>
 some true) fun K10 =>
 impl_PathOk_l1 z1 K10 (((z1.length : Int) - 0).toNat + 1) false 0)
def strings_HasPrefix (x0 : Str) (x1 : Str) : Option (Bool) :=
 some (Go.Lib.hasPrefix x0 x1)
def impl_PathIn (x0 : Str) (x1 : Str) : Option (Bool) :=
 jn (fun (y1 : Bool) =>
 some y1) fun K3 =>
 (Vm.impl_PathOk x0).bind fun z5 =>
 bif z5 then
 ((Vm.impl_PathOk x1).bind fun z11 =>
 bif z11 then
 ((saM x0 ([47] : Str)).bind fun q16 =>
 (Vm.strings_HasPrefix x1 q16).bind fun z18 =>
 K3 z18)
 else
 (K3 false))
 else
 (K3 false)
def impl_TreeOk_l2 (u12 : Vm.File) (q30 : List Vm.File) (K39 : Bool → Int → Option (Bool)) : Nat → Bool → Int → Option (Bool)
 | 0, _, _ => none
 | m + 1, y35, y37 =>
 bif decide ((y37 : Int) < ((q30.length : Int) : Int)) then
 ((gi q30 y37).bind fun u44 =>
 (Vm.impl_PathIn u44.Path u12.Path).bind fun z59 =>
 bif z59 then
 (some false)
 else
 (impl_TreeOk_l2 u12 q30 K39 m y35 (w64 (y37 + 1))))
 else
 (K39 y35 y37)
def impl_TreeOk_l1 (x0 : List Vm.File) (K8 : Bool → Int → Option (Bool)) : Nat → Bool → Int → Option (Bool)
 | 0, _, _ => none
 | m + 1, y2, y6 =>
 bif decide ((y6 : Int) < ((x0.length : Int) : Int)) then
 ((gi x0 y6).bind fun u12 =>
 jn (fun (y24 : Bool) =>
 bif y24 then
 (some false)
 else
 ((slM x0 0 y6).bind fun q30 =>
 jn (fun (y35 : Bool) (y37 : Int) =>
 impl_TreeOk_l1 x0 K8 m y35 (w64 (y6 + 1))) fun K39 =>
 impl_TreeOk_l2 u12 q30 K39 (((q30.length : Int) - 0).toNat + 1) y2 0)) fun K26 =>
 (Vm.impl_TextOk u12.Text).bind fun z70 =>
 bif (!z70) then
 (K26 true)
 else
 ((Vm.impl_PathOk u12.Path).bind fun z77 =>
 bif (!z77) then
 (K26 true)
 else
 (bif decide ((0 : Int) < (y6 : Int)) then
 ((gi x0 (w64 (y6 - 1))).bind fun u84 =>
 K26 (!Op.bytesLess u84.Path u12.Path))
 else
 (K26 false))))
 else
 (K8 y2 y6)
def impl_TreeOk (x0 : List Vm.File) : Option (Bool) :=
 bif decide ((8 : Int) < ((x0.length : Int) : Int)) then
 (some false)
 else
 (jn (fun (y2 : Bool) (y6 : Int) =>
 some true) fun K8 =>
 impl_TreeOk_l1 x0 K8 (((x0.length : Int) - 0).toNat + 1) false 0)
def impl_Repo_exists (x0 : Vm.Repo) (x1 : Int) : Option (Bool) :=
 (Vm.impl_within x1 0 (w64 ((x0.Commits.length : Int) - 1))).bind fun z4 =>
 some z4
def impl_headsOk_l1 (x0 : Vm.Repo) (x1 : List Vm.Head) (K10 : Bool → Int → Option (Bool)) : Nat → Bool → Int → Option (Bool)
 | 0, _, _ => none
 | m + 1, y5, y8 =>
 bif decide ((y8 : Int) < ((x1.length : Int) : Int)) then
 ((gi x1 y8).bind fun u15 =>
 jn (fun (y27 : Bool) =>
 bif y27 then
 (some false)
 else
 (impl_headsOk_l1 x0 x1 K10 m y5 (w64 (y8 + 1)))) fun K29 =>
 (Vm.impl_nameOk u15.Name).bind fun z38 =>
 bif (!z38) then
 (K29 true)
 else
 ((Vm.impl_Repo_exists x0 u15.At).bind fun z47 =>
 bif (!z47) then
 (K29 true)
 else
 (bif decide ((0 : Int) < (y8 : Int)) then
 ((gi x1 (w64 (y8 - 1))).bind fun u55 =>
 K29 (!Op.bytesLess u55.Name u15.Name))
 else
 (K29 false))))
 else
 (K10 y5 y8)
def impl_headsOk (x0 : Vm.Repo) (x1 : List Vm.Head) : Option (Bool) :=
 bif decide ((5 : Int) < ((x1.length : Int) : Int)) then
 (some false)
 else
 (jn (fun (y5 : Bool) (y8 : Int) =>
 some true) fun K10 =>
 impl_headsOk_l1 x0 x1 K10 (((x1.length : Int) - 0).toNat + 1) false 0)
def impl_RepoOk_l2 (y9 : Int) (u16 : Vm.Commit) (K44 : Bool → Int → Option (Bool)) : Nat → Bool → Int → Option (Bool)
 | 0, _, _ => none
 | m + 1, y40, y42 =>
 bif decide ((y42 : Int) < ((u16.Parents.length : Int) : Int)) then
 ((gi u16.Parents y42).bind fun u50 =>
 (Vm.impl_within u50 0 (w64 (y9 - 1))).bind fun z53 =>
 bif (!z53) then
 (some false)
 else
 (impl_RepoOk_l2 y9 u16 K44 m y40 (w64 (y42 + 1))))
 else
 (K44 y40 y42)
def impl_RepoOk_l1 (x0 : Vm.Repo) (K11 : Bool → Int → Option (Bool)) : Nat → Bool → Int → Option (Bool)
 | 0, _, _ => none
 | m + 1, y5, y9 =>
 bif decide ((y9 : Int) < ((x0.Commits.length : Int) : Int)) then
 ((gi x0.Commits y9).bind fun u16 =>
 jn (fun (y32 : Bool) =>
 bif y32 then
 (some false)
 else
 (jn (fun (y40 : Bool) (y42 : Int) =>
 impl_RepoOk_l1 x0 K11 m y40 (w64 (y9 + 1))) fun K44 =>
 impl_RepoOk_l2 y9 u16 K44 (((u16.Parents.length : Int) - 0).toNat + 1) y5 0)) fun K34 =>
 bif decide ((2 : Int) < ((u16.Parents.length : Int) : Int)) then
 (K34 true)
 else
 (bif (((u16.Parents.length : Int) : Int) == (2 : Int)) then
 ((gi u16.Parents 0).bind fun u67 =>
 (gi u16.Parents 1).bind fun u69 =>
 bif ((u67 : Int) == (u69 : Int)) then
 (K34 true)
 else
 ((Vm.impl_nameOk u16.Who).bind fun z72 =>
 bif (!z72) then
 (K34 true)
 else
 ((Vm.impl_TreeOk u16.Tree).bind fun z81 =>
 K34 (!z81))))
 else
 ((Vm.impl_nameOk u16.Who).bind fun z87 =>
 bif (!z87) then
 (K34 true)
 else
 ((Vm.impl_TreeOk u16.Tree).bind fun z96 =>
 K34 (!z96)))))
 else
 (K11 y5 y9)
def impl_RepoOk (x0 : Vm.Repo) : Option (Bool) :=
 bif decide ((16 : Int) < ((x0.Commits.length : Int) : Int)) then
 (some false)
 else
 (jn (fun (y5 : Bool) (y9 : Int) =>
 (Vm.impl_headsOk x0 x0.Heads).bind fun z104 =>
 some z104) fun K11 =>
 impl_RepoOk_l1 x0 K11 (((x0.Commits.length : Int) - 0).toNat + 1) false 0)
def impl_Repo_are_l1 (x0 : Vm.Repo) (x1 : List Int) (K17 : Bool → Int → Option (Bool)) : Nat → Bool → Int → Option (Bool)
 | 0, _, _ => none
 | m + 1, y13, y15 =>
 bif decide ((y15 : Int) < ((x1.length : Int) : Int)) then
 ((gi x1 y15).bind fun u22 =>
 (Vm.impl_Repo_exists x0 u22).bind fun z27 =>
 bif (!z27) then
 (some false)
 else
 (impl_Repo_are_l1 x0 x1 K17 m y13 (w64 (y15 + 1))))
 else
 (K17 y13 y15)
def impl_Repo_are (x0 : Vm.Repo) (x1 : List Int) : Option (Bool) :=
 (Vm.impl_RepoOk x0).bind fun z6 =>
 bif (!z6) then
 (some false)
 else
 (jn (fun (y13 : Bool) (y15 : Int) =>
 some true) fun K17 =>
 impl_Repo_are_l1 x0 x1 K17 (((x1.length : Int) - 0).toNat + 1) false 0)
def impl_Repo_ancestors_l2 (K30 : List Bool → Option ((List Bool))) (u36 : Vm.Commit)  : Nat → Int → List Bool → Option ((List Bool))
 | 0, _, _ => none
 | m + 1, y43, y44 =>
 bif decide ((y43 : Int) < ((u36.Parents.length : Int) : Int)) then
 ((gi u36.Parents y43).bind fun u52 =>
 (gi y44 u52).bind fun u55 =>
 (siM y44 u52 true).bind fun q58 =>
 impl_Repo_ancestors_l2 K30 u36 m (w64 (y43 + 1)) q58)
 else
 (K30 y44)
def impl_Repo_ancestors_l1 (x0 : Vm.Repo) (K21 : Int → List Bool → Option ((List Bool))) : Nat → Int → List Bool → Option ((List Bool))
 | 0, _, _ => none
 | m + 1, y16, y18 =>
 bif decide ((0 : Int) ≤ (y16 : Int)) then
 (jn (fun (y27 : List Bool) =>
 impl_Repo_ancestors_l1 x0 K21 m (w64 (y16 - 1)) y27) fun K30 =>
 (gi y18 y16).bind fun u33 =>
 bif u33 then
 ((gi x0.Commits y16).bind fun u36 =>
 impl_Repo_ancestors_l2 K30 u36 (((u36.Parents.length : Int) - 0).toNat + 1) 0 y18)
 else
 (K30 y18))
 else
 (K21 y16 y18)
def impl_Repo_ancestors (x0 : Vm.Repo) (x1 : Int) : Option ((List Bool)) :=
 (mkM (x0.Commits.length : Int) (false : Bool)).bind fun q4 =>
 (gi q4 x1).bind fun u9 =>
 (siM q4 x1 true).bind fun q12 =>
 jn (fun (y16 : Int) (y18 : List Bool) =>
 some y18) fun K21 =>
 impl_Repo_ancestors_l1 x0 K21 ((x1 + 1 - 0).toNat + 1) x1 q12
def impl_listOf_l1 (x0 : List Bool) (K8 : List Int → Int → Option ((List Int))) : Nat → List Int → Int → Option ((List Int))
 | 0, _, _ => none
 | m + 1, y1, y6 =>
 bif decide ((y6 : Int) < ((x0.length : Int) : Int)) then
 (jn (fun (y12 : List Int) =>
 impl_listOf_l1 x0 K8 m y12 (w64 (y6 + 1))) fun K18 =>
 (gi x0 y6).bind fun u20 =>
 bif u20 then
 ((apM y1 [y6]).bind fun q27 =>
 K18 q27)
 else
 (K18 y1))
 else
 (K8 y1 y6)
def impl_listOf (x0 : List Bool) : Option ((List Int)) :=
 jn (fun (y1 : List Int) (y6 : Int) =>
 some y1) fun K8 =>
 impl_listOf_l1 x0 K8 (((x0.length : Int) - 0).toNat + 1) ([] : List Int) 0
def impl_AncAll (x0 : Vm.Repo) (x1 : Int) : Option ((List Int)) :=
 (Vm.impl_Repo_are x0 ([x1] : List Int)).bind fun z9 =>
 bif (!z9) then
 (some ([] : List Int))
 else
 ((Vm.impl_Repo_ancestors x0 x1).bind fun z18 =>
 (Vm.impl_listOf z18).bind fun z24 =>
 some z24)
def spec_AncAll (x0 : Vm.Repo) (x1 : Int) : Option ((List Int)) :=
 jn (fun (y3 : Bool) =>
 bif y3 then
 (some ([] : List Int))
 else
 ((Vm.spec_l8All x0 x1).bind fun z11 =>
 some z11)) fun K5 =>
 (Vm.spec_l7Ok x0).bind fun z18 =>
 bif (!z18) then
 (K5 true)
 else
 ((Vm.spec_l1In x1 0 (w64 ((x0.Commits.length : Int) - 1))).bind fun z25 =>
 K5 (!z25))
def laws_smInts_l1 (x0 : List Int) (x1 : List Int) (K5 : Bool → Int → Option (Bool)) : Nat → Bool → Int → Option (Bool)
 | 0, _, _ => none
 | m + 1, y2, y3 =>
 bif decide ((y3 : Int) < ((x0.length : Int) : Int)) then
 ((gi x0 y3).bind fun u12 =>
 (gi x1 y3).bind fun u15 =>
 bif ((u12 : Int) != (u15 : Int)) then
 (some false)
 else
 (laws_smInts_l1 x0 x1 K5 m y2 (w64 (y3 + 1))))
 else
 (K5 y2 y3)
def laws_smInts (x0 : List Int) (x1 : List Int) : Option (Bool) :=
 bif (((x0.length : Int) : Int) != ((x1.length : Int) : Int)) then
 (some false)
 else
 (jn (fun (y2 : Bool) (y3 : Int) =>
 some true) fun K5 =>
 laws_smInts_l1 x0 x1 K5 (((x0.length : Int) - 0).toNat + 1) false 0)
def impl_Repo_live_l2 (z44 : (List Int)) (K57 : Int → List Bool → Option ((List Bool))) : Nat → Int → List Bool → Option ((List Bool))
 | 0, _, _ => none
 | m + 1, y53, y54 =>
 bif decide ((y53 : Int) < ((z44.length : Int) : Int)) then
 ((gi z44 y53).bind fun u65 =>
 (gi y54 u65).bind fun u67 =>
 (siM y54 u65 true).bind fun q70 =>
 impl_Repo_live_l2 z44 K57 m (w64 (y53 + 1)) q70)
 else
 (K57 y53 y54)
def impl_Repo_live_l1 (x0 : Vm.Repo) (K16 : Int → List Bool → Option ((List Bool))) : Nat → Int → List Bool → Option ((List Bool))
 | 0, _, _ => none
 | m + 1, y12, y13 =>
 bif decide ((y12 : Int) < ((x0.Heads.length : Int) : Int)) then
 ((gi x0.Heads y12).bind fun u21 =>
 (Vm.impl_Repo_ancestors x0 u21.At).bind fun z37 =>
 (Vm.impl_listOf z37).bind fun z44 =>
 jn (fun (y53 : Int) (y54 : List Bool) =>
 impl_Repo_live_l1 x0 K16 m (w64 (y12 + 1)) y54) fun K57 =>
 impl_Repo_live_l2 z44 K57 (((z44.length : Int) - 0).toNat + 1) 0 y13)
 else
 (K16 y12 y13)
def impl_Repo_live (x0 : Vm.Repo) : Option ((List Bool)) :=
 (mkM (x0.Commits.length : Int) (false : Bool)).bind fun q4 =>
 jn (fun (y12 : Int) (y13 : List Bool) =>
 some y13) fun K16 =>
 impl_Repo_live_l1 x0 K16 (((x0.Heads.length : Int) - 0).toNat + 1) 0 q4
def impl_Repo_tree (x0 : Vm.Repo) (x1 : Int) : Option ((List Vm.File)) :=
 bif decide ((x1 : Int) < (0 : Int)) then
 (some ([] : List File))
 else
 ((gi x0.Commits x1).bind fun u4 =>
 some u4.Tree)
def impl_copyText (x0 : List Str) : Option ((List Str)) :=
 (apM ([] : List Str) x0).bind fun q3 =>
 some q3
def impl_copyTree_l1 (x0 : List Vm.File) (K7 : List Vm.File → Int → Option ((List Vm.File))) : Nat → List Vm.File → Int → Option ((List Vm.File))
 | 0, _, _ => none
 | m + 1, y1, y5 =>
 bif decide ((y5 : Int) < ((x0.length : Int) : Int)) then
 ((gi x0 y5).bind fun u11 =>
 (Vm.impl_copyText u11.Text).bind fun z30 =>
 (apM y1 [Vm.File.mk u11.Path z30]).bind fun q41 =>
 impl_copyTree_l1 x0 K7 m q41 (w64 (y5 + 1)))
 else
 (K7 y1 y5)
def impl_copyTree (x0 : List Vm.File) : Option ((List Vm.File)) :=
 jn (fun (y1 : List Vm.File) (y5 : Int) =>
 some y1) fun K7 =>
 impl_copyTree_l1 x0 K7 (((x0.length : Int) - 0).toNat + 1) ([] : List File) 0
def impl_KeepOnly_l2 (q77 : List Int) (u351 : Vm.Commit) (K368 : Int → List Int → Str → List Vm.File → Option (Vm.Repo)) : Nat → Int → List Int → Str → List Vm.File → Option (Vm.Repo)
 | 0, _, _, _, _ => none
 | m + 1, y358, y359, y362, y363 =>
 bif decide ((y358 : Int) < ((u351.Parents.length : Int) : Int)) then
 ((gi u351.Parents y358).bind fun u380 =>
 (gi q77 u380).bind fun u396 =>
 (apM y359 [u396]).bind fun q411 =>
 impl_KeepOnly_l2 q77 u351 K368 m (w64 (y358 + 1)) q411 y362 y363)
 else
 (K368 y358 y359 y362 y363)
def impl_KeepOnly_l3 (x0 : Vm.Repo) (y61 : List Int) (K487 : Int → List Vm.Commit → List Vm.Head → Option (Vm.Repo)) : Nat → Int → List Vm.Commit → List Vm.Head → Option (Vm.Repo)
 | 0, _, _, _ => none
 | m + 1, y478, y479, y482 =>
 bif decide ((y478 : Int) < ((x0.Heads.length : Int) : Int)) then
 ((gi x0.Heads y478).bind fun u496 =>
 (gi y61 u496.At).bind fun u533 =>
 (apM y482 [Vm.Head.mk u496.Name u533]).bind fun q546 =>
 impl_KeepOnly_l3 x0 y61 K487 m (w64 (y478 + 1)) y479 q546)
 else
 (K487 y478 y479 y482)
def impl_KeepOnly_l1 (x0 : Vm.Repo) (z41 : (List Int)) (K64 : Int → List Vm.Commit → List Vm.Head → List Int → Option (Vm.Repo)) : Nat → Int → List Vm.Commit → List Vm.Head → List Int → Option (Vm.Repo)
 | 0, _, _, _, _ => none
 | m + 1, y53, y54, y57, y61 =>
 bif decide ((y53 : Int) < ((z41.length : Int) : Int)) then
 ((gi z41 y53).bind fun u72 =>
 (gi y61 u72).bind fun u74 =>
 (siM y61 u72 (y54.length : Int)).bind fun q77 =>
 (gi x0.Commits u72).bind fun u97 =>
 (Vm.impl_Repo_tree x0 u72).bind fun z101 =>
 (Vm.impl_copyTree z101).bind fun z114 =>
 (gi x0.Commits u72).bind fun u351 =>
 jn (fun (y358 : Int) (y359 : List Int) (y362 : Str) (y363 : List Vm.File) =>
 (apM y54 [Vm.Commit.mk y359 y362 y363]).bind fun q452 =>
 impl_KeepOnly_l1 x0 z41 K64 m (w64 (y53 + 1)) q452 y57 q77) fun K368 =>
 impl_KeepOnly_l2 q77 u351 K368 (((u351.Parents.length : Int) - 0).toNat + 1) 0 ([] : List Int) u97.Who z114)
 else
 (K64 y53 y54 y57 y61)
def impl_KeepOnly (x0 : Vm.Repo) : Option (Vm.Repo) :=
 (Vm.impl_RepoOk x0).bind fun z9 =>
 bif (!z9) then
 (some (Vm.Repo.mk ([] : List Commit) ([] : List Head)))
 else
 ((mkM (x0.Commits.length : Int) (0 : Int)).bind fun q20 =>
 (Vm.impl_Repo_live x0).bind fun z33 =>
 (Vm.impl_listOf z33).bind fun z41 =>
 jn (fun (y53 : Int) (y54 : List Vm.Commit) (y57 : List Vm.Head) (y61 : List Int) =>
 jn (fun (y478 : Int) (y479 : List Vm.Commit) (y482 : List Vm.Head) =>
 some (Vm.Repo.mk y479 y482)) fun K487 =>
 impl_KeepOnly_l3 x0 y61 K487 (((x0.Heads.length : Int) - 0).toNat + 1) 0 y54 y57) fun K64 =>
 impl_KeepOnly_l1 x0 z41 K64 (((z41.length : Int) - 0).toNat + 1) 0 ([] : List Commit) ([] : List Head) q20)
def impl_Repo_areSuspect (x0 : Vm.Repo) (x1 : List Int) (x2 : Int) : Option (Bool) :=
 jn (fun (y3 : Bool) =>
 some y3) fun K5 =>
 (Vm.impl_Repo_are x0 x1).bind fun z12 =>
 bif z12 then
 (bif decide (((x1.length : Int) : Int) ≤ (16 : Int)) then
 ((Vm.impl_Repo_exists x0 x2).bind fun z22 =>
 K5 z22)
 else
 (K5 false))
 else
 (K5 false)
def impl_Repo_since_l2 (z33 : (List Int)) (K45 : Int → List Bool → Option ((List Int))) : Nat → Int → List Bool → Option ((List Int))
 | 0, _, _ => none
 | m + 1, y41, y42 =>
 bif decide ((y41 : Int) < ((z33.length : Int) : Int)) then
 ((gi z33 y41).bind fun u52 =>
 (gi y42 u52).bind fun u54 =>
 (siM y42 u52 false).bind fun q57 =>
 impl_Repo_since_l2 z33 K45 m (w64 (y41 + 1)) q57)
 else
 (K45 y41 y42)
def impl_Repo_since_l1 (x0 : Vm.Repo) (x2 : List Int) (K17 : Int → List Bool → Option ((List Int))) : Nat → Int → List Bool → Option ((List Int))
 | 0, _, _ => none
 | m + 1, y13, y14 =>
 bif decide ((y13 : Int) < ((x2.length : Int) : Int)) then
 ((gi x2 y13).bind fun u22 =>
 (Vm.impl_Repo_ancestors x0 u22).bind fun z27 =>
 (Vm.impl_listOf z27).bind fun z33 =>
 jn (fun (y41 : Int) (y42 : List Bool) =>
 impl_Repo_since_l1 x0 x2 K17 m (w64 (y13 + 1)) y42) fun K45 =>
 impl_Repo_since_l2 z33 K45 (((z33.length : Int) - 0).toNat + 1) 0 y14)
 else
 (K17 y13 y14)
def impl_Repo_since (x0 : Vm.Repo) (x1 : Int) (x2 : List Int) : Option ((List Int)) :=
 (Vm.impl_Repo_ancestors x0 x1).bind fun z5 =>
 jn (fun (y13 : Int) (y14 : List Bool) =>
 (Vm.impl_listOf y14).bind fun z63 =>
 some z63) fun K17 =>
 impl_Repo_since_l1 x0 x2 K17 (((x2.length : Int) - 0).toNat + 1) 0 z5
def slices_Index_int_int_l1 (x0 : List Int) (x1 : Int) (K5 : Int → Int → Option (Int)) : Nat → Int → Int → Option (Int)
 | 0, _, _ => none
 | m + 1, y1, y3 =>
 bif decide ((y3 : Int) < ((x0.length : Int) : Int)) then
 ((gi x0 y3).bind fun u9 =>
 bif ((x1 : Int) == (u9 : Int)) then
 (some y3)
 else
 (slices_Index_int_int_l1 x0 x1 K5 m y1 (w64 (y3 + 1))))
 else
 (K5 y1 y3)
def slices_Index_int_int (x0 : List Int) (x1 : Int) : Option (Int) :=
 jn (fun (y1 : Int) (y3 : Int) =>
 some (-1)) fun K5 =>
 slices_Index_int_int_l1 x0 x1 K5 (((x0.length : Int) - 0).toNat + 1) 0 0
def impl_SendOf_l2 (x1 : List Int) (z16 : (List Int)) (u211 : Vm.Commit) (K234 : List Vm.Commit → Bool → Int → List Int → Str → List Vm.File → Option ((List Vm.Commit) × Bool)) : Nat → List Vm.Commit → Bool → Int → List Int → Str → List Vm.File → Option ((List Vm.Commit) × Bool)
 | 0, _, _, _, _, _, _ => none
 | m + 1, y217, y220, y224, y225, y228, y229 =>
 bif decide ((y224 : Int) < ((u211.Parents.length : Int) : Int)) then
 (jn (fun (y241 : List Vm.Commit) (y244 : Bool) (y248 : List Int) (y251 : Str) (y252 : List Vm.File) =>
 impl_SendOf_l2 x1 z16 u211 K234 m y241 y244 (w64 (y224 + 1)) y248 y251 y252) fun K257 =>
 (gi u211.Parents y224).bind fun u262 =>
 (Vm.slices_Index_int_int z16 u262).bind fun z265 =>
 (Vm.slices_Index_int_int x1 u262).bind fun z277 =>
 bif decide ((0 : Int) ≤ (z265 : Int)) then
 ((apM y225 [z265]).bind fun q298 =>
 K257 y217 y220 q298 y228 y229)
 else
 (bif decide ((0 : Int) ≤ (z277 : Int)) then
 ((apM y225 [w64 ((-1) - z277)]).bind fun q328 =>
 K257 y217 y220 q328 y228 y229)
 else
 (some (([] : List Commit), false))))
 else
 (K234 y217 y220 y224 y225 y228 y229)
def impl_SendOf_l1 (x0 : Vm.Repo) (x1 : List Int) (z16 : (List Int)) (K35 : List Vm.Commit → Bool → List Vm.Commit → Int → Option ((List Vm.Commit) × Bool)) : Nat → List Vm.Commit → Bool → List Vm.Commit → Int → Option ((List Vm.Commit) × Bool)
 | 0, _, _, _, _ => none
 | m + 1, y21, y24, y25, y33 =>
 bif decide ((y33 : Int) < ((z16.length : Int) : Int)) then
 ((gi z16 y33).bind fun u41 =>
 (gi x0.Commits u41).bind fun u49 =>
 (Vm.impl_Repo_tree x0 u41).bind fun z53 =>
 (Vm.impl_copyTree z53).bind fun z62 =>
 (gi x0.Commits u41).bind fun u211 =>
 jn (fun (y217 : List Vm.Commit) (y220 : Bool) (y224 : Int) (y225 : List Int) (y228 : Str) (y229 : List Vm.File) =>
 (apM y25 [Vm.Commit.mk y225 y228 y229]).bind fun q357 =>
 impl_SendOf_l1 x0 x1 z16 K35 m y217 y220 q357 (w64 (y33 + 1))) fun K234 =>
 impl_SendOf_l2 x1 z16 u211 K234 (((u211.Parents.length : Int) - 0).toNat + 1) y21 y24 0 ([] : List Int) u49.Who z62)
 else
 (K35 y21 y24 y25 y33)
def impl_SendOf (x0 : Vm.Repo) (x1 : List Int) (x2 : Int) : Option ((List Vm.Commit) × Bool) :=
 (Vm.impl_Repo_areSuspect x0 x1 x2).bind fun z7 =>
 bif (!z7) then
 (some (([] : List Commit), false))
 else
 ((Vm.impl_Repo_since x0 x2 x1).bind fun z16 =>
 jn (fun (y21 : List Vm.Commit) (y24 : Bool) (y25 : List Vm.Commit) (y33 : Int) =>
 some (y25, true)) fun K35 =>
 impl_SendOf_l1 x0 x1 z16 K35 (((z16.length : Int) - 0).toNat + 1) ([] : List Commit) false ([] : List Commit) 0)
def impl_Repo_own_l1 (x0 : Vm.Repo) (K38 : Int → List Vm.Commit → List Vm.Head → Option (Vm.Repo)) : Nat → Int → List Vm.Commit → List Vm.Head → Option (Vm.Repo)
 | 0, _, _, _ => none
 | m + 1, y29, y30, y33 =>
 bif decide ((y29 : Int) < ((x0.Commits.length : Int) : Int)) then
 ((gi x0.Commits y29).bind fun u44 =>
 (apM ([] : List Int) u44.Parents).bind fun q84 =>
 (Vm.impl_copyTree u44.Tree).bind fun z96 =>
 (apM y30 [Vm.Commit.mk q84 u44.Who z96]).bind fun q117 =>
 impl_Repo_own_l1 x0 K38 m (w64 (y29 + 1)) q117 y33)
 else
 (K38 y29 y30 y33)
def impl_Repo_own (x0 : Vm.Repo) : Option (Vm.Repo) :=
 (apM ([] : List Head) x0.Heads).bind fun q10 =>
 jn (fun (y29 : Int) (y30 : List Vm.Commit) (y33 : List Vm.Head) =>
 some (Vm.Repo.mk y30 y33)) fun K38 =>
 impl_Repo_own_l1 x0 K38 (((x0.Commits.length : Int) - 0).toNat + 1) 0 ([] : List Commit) q10
def slices_Insert_impl_Head_impl_Head (x0 : List Vm.Head) (x1 : Int) (x2 : Vm.Head) : Option ((List Vm.Head)) :=
 if 0 ≤ x1 ∧ x1 ≤ x0.length ∧ x0.length + 1 ≤ lim then some (x0.take x1.toNat ++ [x2] ++ x0.drop x1.toNat) else none
def impl_insertHead_l1 (x0 : List Vm.Head) (x1 : Vm.Head) (K6 : Int → Option ((List Vm.Head))) : Nat → Int → Option ((List Vm.Head))
 | 0, _ => none
 | m + 1, y4 =>
 jn (fun (y10 : Bool) =>
 bif y10 then
 (impl_insertHead_l1 x0 x1 K6 m (w64 (y4 - 1)))
 else
 (K6 y4)) fun K12 =>
 bif decide ((0 : Int) < (y4 : Int)) then
 ((gi x0 (w64 (y4 - 1))).bind fun u92 =>
 K12 (!(Op.bytesLess u92.Name x1.Name || u92.Name == x1.Name)))
 else
 (K12 false)
def impl_insertHead (x0 : List Vm.Head) (x1 : Vm.Head) : Option ((List Vm.Head)) :=
 jn (fun (y4 : Int) =>
 (apM ([] : List Head) x0).bind fun q22 =>
 (Vm.slices_Insert_impl_Head_impl_Head q22 y4 x1).bind fun z32 =>
 some z32) fun K6 =>
 impl_insertHead_l1 x0 x1 K6 (x0.length + 1) (x0.length : Int)
def impl_Repo_point_l1 (x0 : Vm.Repo) (x1 : Str) (x2 : Int) (K22 : Int → List Vm.Commit → List Vm.Head → List Vm.Head → Option (Vm.Repo)) : Nat → Int → List Vm.Commit → List Vm.Head → List Vm.Head → Option (Vm.Repo)
 | 0, _, _, _, _ => none
 | m + 1, y11, y12, y15, y19 =>
 bif decide ((y11 : Int) < ((x0.Heads.length : Int) : Int)) then
 ((gi y19 y11).bind fun u28 =>
 bif (u28.Name == x1) then
 ((gi y19 y11).bind fun u31 =>
 (siM y19 y11 (Vm.Head.mk u31.Name x2)).bind fun q34 =>
 some (Vm.Repo.mk x0.Commits q34))
 else
 (impl_Repo_point_l1 x0 x1 x2 K22 m (w64 (y11 + 1)) y12 y15 y19))
 else
 (K22 y11 y12 y15 y19)
def impl_Repo_point (x0 : Vm.Repo) (x1 : Str) (x2 : Int) : Option (Vm.Repo) :=
 jn (fun (y11 : Int) (y12 : List Vm.Commit) (y15 : List Vm.Head) (y19 : List Vm.Head) =>
 (Vm.impl_insertHead y19 (Vm.Head.mk x1 x2)).bind fun z63 =>
 some (Vm.Repo.mk x0.Commits z63)) fun K22 =>
 impl_Repo_point_l1 x0 x1 x2 K22 (((x0.Heads.length : Int) - 0).toNat + 1) 0 ([] : List Commit) ([] : List Head) x0.Heads
def impl_Repo_tried (x0 : Vm.Repo) (x1 : Vm.Repo) : Option (Vm.Repo × Bool) :=
 (Vm.impl_RepoOk (Vm.Repo.mk x1.Commits x1.Heads)).bind fun z17 =>
 bif (!z17) then
 ((Vm.impl_Repo_own x0).bind fun z29 =>
 some (Vm.Repo.mk z29.Commits z29.Heads, false))
 else
 (some (Vm.Repo.mk x1.Commits x1.Heads, true))
def impl_SendTake_l2 (x0 : Vm.Repo) (x1 : List Int) (y85 : Int) (u106 : Vm.Commit) (K336 : Bool → Int → List Vm.Commit → List Vm.Head → List Int → Str → List Vm.File → Option (Vm.Repo × Bool)) : Nat → Bool → Int → List Vm.Commit → List Vm.Head → List Int → Str → List Vm.File → Option (Vm.Repo × Bool)
 | 0, _, _, _, _, _, _, _ => none
 | m + 1, y317, y319, y320, y323, y327, y330, y331 =>
 bif decide ((y319 : Int) < ((u106.Parents.length : Int) : Int)) then
 (jn (fun (y345 : Bool) (y347 : List Vm.Commit) (y350 : List Vm.Head) (y354 : List Int) (y357 : Str) (y358 : List Vm.File) =>
 impl_SendTake_l2 x0 x1 y85 u106 K336 m y345 (w64 (y319 + 1)) y347 y350 y354 y357 y358) fun K363 =>
 (gi u106.Parents y319).bind fun u370 =>
 (Vm.impl_within u370 0 (w64 (y85 - 1))).bind fun z373 =>
 bif z373 then
 ((apM y327 [w64 ((x0.Commits.length : Int) + u370)]).bind fun q403 =>
 K363 y317 y320 y323 q403 y330 y331)
 else
 ((Vm.impl_within u370 (w64 (0 - (x1.length : Int))) (-1)).bind fun z432 =>
 bif z432 then
 ((gi x1 (w64 ((-1) - u370))).bind fun u461 =>
 (apM y327 [u461]).bind fun q477 =>
 K363 y317 y320 y323 q477 y330 y331)
 else
 ((Vm.impl_Repo_own x0).bind fun z507 =>
 some (Vm.Repo.mk z507.Commits z507.Heads, false))))
 else
 (K336 y317 y319 y320 y323 y327 y330 y331)
def impl_SendTake_l1 (x0 : Vm.Repo) (x1 : List Int) (x2 : List Vm.Commit) (K101 : Bool → Int → Int → List Vm.Commit → List Vm.Head → List Vm.Commit → List Vm.Head → Option (Vm.Repo × Bool)) : Nat → Bool → Int → Int → List Vm.Commit → List Vm.Head → List Vm.Commit → List Vm.Head → Option (Vm.Repo × Bool)
 | 0, _, _, _, _, _, _, _ => none
 | m + 1, y79, y80, y85, y86, y89, y93, y96 =>
 bif decide ((y85 : Int) < ((x2.length : Int) : Int)) then
 ((gi x2 y85).bind fun u106 =>
 (Vm.impl_copyTree u106.Tree).bind fun z145 =>
 jn (fun (y317 : Bool) (y319 : Int) (y320 : List Vm.Commit) (y323 : List Vm.Head) (y327 : List Int) (y330 : Str) (y331 : List Vm.File) =>
 (apM y93 [Vm.Commit.mk y327 y330 y331]).bind fun q577 =>
 impl_SendTake_l1 x0 x1 x2 K101 m y317 (y93.length : Int) (w64 (y85 + 1)) y320 y323 q577 y96) fun K336 =>
 impl_SendTake_l2 x0 x1 y85 u106 K336 (((u106.Parents.length : Int) - 0).toNat + 1) y79 0 y86 y89 ([] : List Int) u106.Who z145)
 else
 (K101 y79 y80 y85 y86 y89 y93 y96)
def impl_SendTake (x0 : Vm.Repo) (x1 : List Int) (x2 : List Vm.Commit) (x3 : Str) : Option (Vm.Repo × Bool) :=
 (Vm.impl_RepoOk x0).bind fun z9 =>
 bif (!z9) then
 (some (Vm.Repo.mk ([] : List Commit) ([] : List Head), false))
 else
 (jn (fun (y19 : Bool) =>
 bif y19 then
 ((Vm.impl_Repo_own x0).bind fun z28 =>
 some (Vm.Repo.mk z28.Commits z28.Heads, false))
 else
 ((Vm.impl_Repo_own x0).bind fun z51 =>
 jn (fun (y69 : Int) =>
 jn (fun (y79 : Bool) (y80 : Int) (y85 : Int) (y86 : List Vm.Commit) (y89 : List Vm.Head) (y93 : List Vm.Commit) (y96 : List Vm.Head) =>
 (Vm.impl_Repo_point (Vm.Repo.mk y93 y96) x3 y80).bind fun z610 =>
 (Vm.impl_Repo_tried x0 (Vm.Repo.mk z610.Commits z610.Heads)).bind fun z622 =>
 some (Vm.Repo.mk z622.1.Commits z622.1.Heads, z622.2)) fun K101 =>
 impl_SendTake_l1 x0 x1 x2 K101 (((x2.length : Int) - 0).toNat + 1) false y69 0 ([] : List Commit) ([] : List Head) z51.Commits z51.Heads) fun K71 =>
 bif decide ((0 : Int) < ((x1.length : Int) : Int)) then
 ((gi x1 0).bind fun u657 =>
 K71 u657)
 else
 (K71 (-1)))) fun K21 =>
 bif decide ((16 : Int) < ((x1.length : Int) : Int)) then
 (K21 true)
 else
 ((Vm.impl_Repo_are x0 x1).bind fun z664 =>
 bif (!z664) then
 (K21 true)
 else
 (K21 ((w64 ((x2.length : Int) + (x1.length : Int)) : Int) == (0 : Int)))))
def impl_Repo_at_l1 (x0 : Vm.Repo) (x1 : Str) (K8 : Int → Int → Option (Int)) : Nat → Int → Int → Option (Int)
 | 0, _, _ => none
 | m + 1, y4, y6 =>
 bif decide ((y6 : Int) < ((x0.Heads.length : Int) : Int)) then
 ((gi x0.Heads y6).bind fun u13 =>
 bif (u13.Name == x1) then
 (some u13.At)
 else
 (impl_Repo_at_l1 x0 x1 K8 m y4 (w64 (y6 + 1))))
 else
 (K8 y4 y6)
def impl_Repo_at (x0 : Vm.Repo) (x1 : Str) : Option (Int) :=
 jn (fun (y4 : Int) (y6 : Int) =>
 some (-1)) fun K8 =>
 impl_Repo_at_l1 x0 x1 K8 (((x0.Heads.length : Int) - 0).toNat + 1) 0 0
def impl_RepoAt (x0 : Vm.Repo) (x1 : Str) : Option (Int) :=
 (Vm.impl_RepoOk x0).bind fun z6 =>
 bif (!z6) then
 (some (-1))
 else
 ((Vm.impl_Repo_at x0 x1).bind fun z14 =>
 some z14)
def impl_RepoTree (x0 : Vm.Repo) (x1 : Int) : Option ((List Vm.File) × Bool) :=
 jn (fun (y3 : Bool) =>
 bif y3 then
 (some (([] : List File), false))
 else
 ((Vm.impl_Repo_tree x0 x1).bind fun z11 =>
 (Vm.impl_copyTree z11).bind fun z17 =>
 some (z17, true))) fun K5 =>
 (Vm.impl_RepoOk x0).bind fun z25 =>
 bif (!z25) then
 (K5 true)
 else
 ((Vm.impl_Repo_exists x0 x1).bind fun z33 =>
 K5 (!z33))
def laws_smTexts_l1 (x0 : List Str) (x1 : List Str) (K5 : Bool → Int → Option (Bool)) : Nat → Bool → Int → Option (Bool)
 | 0, _, _ => none
 | m + 1, y2, y3 =>
 bif decide ((y3 : Int) < ((x0.length : Int) : Int)) then
 ((gi x0 y3).bind fun u12 =>
 (gi x1 y3).bind fun u15 =>
 bif (u12 != u15) then
 (some false)
 else
 (laws_smTexts_l1 x0 x1 K5 m y2 (w64 (y3 + 1))))
 else
 (K5 y2 y3)
def laws_smTexts (x0 : List Str) (x1 : List Str) : Option (Bool) :=
 bif (((x0.length : Int) : Int) != ((x1.length : Int) : Int)) then
 (some false)
 else
 (jn (fun (y2 : Bool) (y3 : Int) =>
 some true) fun K5 =>
 laws_smTexts_l1 x0 x1 K5 (((x0.length : Int) - 0).toNat + 1) false 0)
def laws_smTree_l1 (x0 : List Vm.File) (x1 : List Vm.File) (K5 : Bool → Int → Option (Bool)) : Nat → Bool → Int → Option (Bool)
 | 0, _, _ => none
 | m + 1, y2, y3 =>
 bif decide ((y3 : Int) < ((x0.length : Int) : Int)) then
 (jn (fun (y10 : Bool) =>
 bif y10 then
 (some false)
 else
 (laws_smTree_l1 x0 x1 K5 m y2 (w64 (y3 + 1)))) fun K12 =>
 (gi x0 y3).bind fun u17 =>
 (gi x1 y3).bind fun u20 =>
 bif (u17.Path != u20.Path) then
 (K12 true)
 else
 ((gi x0 y3).bind fun u24 =>
 (gi x1 y3).bind fun u29 =>
 (Vm.laws_smTexts u24.Text u29.Text).bind fun z34 =>
 K12 (!z34)))
 else
 (K5 y2 y3)
def laws_smTree (x0 : List Vm.File) (x1 : List Vm.File) : Option (Bool) :=
 bif (((x0.length : Int) : Int) != ((x1.length : Int) : Int)) then
 (some false)
 else
 (jn (fun (y2 : Bool) (y3 : Int) =>
 some true) fun K5 =>
 laws_smTree_l1 x0 x1 K5 (((x0.length : Int) - 0).toNat + 1) false 0)
def laws_FnSendWay_l1 (z15 : (List Int)) (K115 : List Int → Int → Option (Bool)) : Nat → List Int → Int → Option (Bool)
 | 0, _, _ => none
 | m + 1, y110, y113 =>
 bif decide ((y113 : Int) < ((z15.length : Int) : Int)) then
 ((apM y110 [y113]).bind fun q140 =>
 laws_FnSendWay_l1 z15 K115 m q140 (w64 (y113 + 1)))
 else
 (K115 y110 y113)
def laws_FnSendWay (x0 : List Byte) : Option (Bool) :=
 bif decide ((1048576 : Int) < ((x0.length : Int) : Int)) then
 (some true)
 else
 ((Vm.spec_DrawAncIs x0).bind fun z2 =>
 (Vm.impl_AncAll (Vm.Repo.mk z2.1.Commits z2.1.Heads) z2.2.1).bind fun z15 =>
 jn (fun (y22 : Bool) =>
 bif y22 then
 ((Vm.spec_AncAll (Vm.Repo.mk z2.1.Commits z2.1.Heads) z2.2.1).bind fun z31 =>
 (Vm.laws_smInts z15 z31).bind fun z39 =>
 some z39)
 else
 ((Vm.impl_KeepOnly (Vm.Repo.mk z2.1.Commits ([Vm.Head.mk ([120] : Str) z2.2.1] : List Head))).bind fun z69 =>
 jn (fun (y110 : List Int) (y113 : Int) =>
 (Vm.impl_SendOf (Vm.Repo.mk z2.1.Commits z2.1.Heads) z15 z2.2.2).bind fun z155 =>
 (Vm.impl_SendTake (Vm.Repo.mk z69.Commits z69.Heads) y110 z155.1 ([121] : Str)).bind fun z170 =>
 jn (fun (y215 : Bool) =>
 bif y215 then
 (jn (fun (y234 : Bool) =>
 some y234) fun K236 =>
 bif z155.2 then
 (bif z170.2 then
 (K236 true)
 else
 (K236 (decide ((16 : Int) < (w64 ((z69.Commits.length : Int) + (z155.1.length : Int)) : Int)))))
 else
 (K236 false))
 else
 ((Vm.impl_RepoAt (Vm.Repo.mk z170.1.Commits z170.1.Heads) ([121] : Str)).bind fun z271 =>
 (Vm.impl_RepoTree (Vm.Repo.mk z170.1.Commits z170.1.Heads) z271).bind fun z290 =>
 jn (fun (y308 : Bool) =>
 some y308) fun K310 =>
 (gi z2.1.Commits z2.2.2).bind fun u344 =>
 (Vm.laws_smTree z290.1 u344.Tree).bind fun z349 =>
 bif z349 then
 ((Vm.impl_RepoAt (Vm.Repo.mk z170.1.Commits z170.1.Heads) ([121] : Str)).bind fun z370 =>
 (Vm.impl_AncAll (Vm.Repo.mk z170.1.Commits z170.1.Heads) z370).bind fun z390 =>
 (Vm.impl_AncAll (Vm.Repo.mk z2.1.Commits z2.1.Heads) z2.2.2).bind fun z410 =>
 K310 (((z390.length : Int) : Int) == ((z410.length : Int) : Int)))
 else
 (K310 false))) fun K217 =>
 bif (!z155.2) then
 (K217 true)
 else
 (bif (!z170.2) then
 (K217 true)
 else
 (K217 (((z155.1.length : Int) : Int) == (0 : Int))))) fun K115 =>
 laws_FnSendWay_l1 z15 K115 (((z15.length : Int) - 0).toNat + 1) ([] : List Int) 0)) fun K24 =>
 (Vm.spec_AncAll (Vm.Repo.mk z2.1.Commits z2.1.Heads) z2.2.1).bind fun z432 =>
 (Vm.laws_smInts z15 z432).bind fun z440 =>
 bif (!z440) then
 (K24 true)
 else
 (bif (((z15.length : Int) : Int) == (0 : Int)) then
 (K24 true)
 else
 (bif decide ((z2.2.2 : Int) < (0 : Int)) then
 (K24 true)
 else
 (K24 (decide (((z2.1.Commits.length : Int) : Int) ≤ (z2.2.2 : Int)))))))
end Go.Vm
