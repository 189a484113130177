/- What of the program's structs fits a machine, and their bulk. Conditions: none. -/
import Derived.Test.YtmjjhnahdmlmaaaDoorXTy
import Derived.Test.YtmjjhnahdmlmaaaDoorXPl
namespace Go.Vm
open Go Go.Sx
set_option linter.unusedSimpArgs false
set_option linter.unusedVariables false

instance : Bk File := ⟨fun x => Bk.fit x.Path ∧ Bk.fit x.Text, fun x => Bk.bulk x.Path + Bk.bulk x.Text⟩
instance : Bk Commit := ⟨fun x => Bk.fit x.Parents ∧ Bk.fit x.Who ∧ Bk.fit x.Tree, fun x => Bk.bulk x.Parents + (Bk.bulk x.Who + Bk.bulk x.Tree)⟩
instance : Bk Head := ⟨fun x => Bk.fit x.Name ∧ Bk.fit x.At, fun x => Bk.bulk x.Name + Bk.bulk x.At⟩
instance : Bk Repo := ⟨fun x => Bk.fit x.Commits ∧ Bk.fit x.Heads, fun x => Bk.bulk x.Commits + Bk.bulk x.Heads⟩
instance : Bk Hunk := ⟨fun x => Bk.fit x.At ∧ Bk.fit x.Less ∧ Bk.fit x.More, fun x => Bk.bulk x.At + (Bk.bulk x.Less + Bk.bulk x.More)⟩
instance : Bk Part := ⟨fun x => Bk.fit x.Clash ∧ Bk.fit x.Lines ∧ Bk.fit x.Old ∧ Bk.fit x.One ∧ Bk.fit x.Two, fun x => Bk.bulk x.Clash + (Bk.bulk x.Lines + (Bk.bulk x.Old + (Bk.bulk x.One + Bk.bulk x.Two)))⟩
instance : Bk Change := ⟨fun x => Bk.fit x.Kind ∧ Bk.fit x.Path ∧ Bk.fit x.To ∧ Bk.fit x.Text ∧ Bk.fit x.Patch, fun x => Bk.bulk x.Kind + (Bk.bulk x.Path + (Bk.bulk x.To + (Bk.bulk x.Text + Bk.bulk x.Patch)))⟩
instance : Bk Clash := ⟨fun x => Bk.fit x.Path ∧ Bk.fit x.Kind, fun x => Bk.bulk x.Path + Bk.bulk x.Kind⟩
instance : Bk has := ⟨fun x => Bk.fit x.text ∧ Bk.fit x.file, fun x => Bk.bulk x.text + Bk.bulk x.file⟩
instance : Bk Delta := ⟨fun x => Bk.fit x.From ∧ Bk.fit x.Many ∧ Bk.fit x.Lines, fun x => Bk.bulk x.From + (Bk.bulk x.Many + Bk.bulk x.Lines)⟩
instance : Bk Packed := ⟨fun x => Bk.fit x.Base ∧ Bk.fit x.Delta, fun x => Bk.bulk x.Base + Bk.bulk x.Delta⟩
instance : Bk Share := ⟨fun x => Bk.fit x.Who ∧ Bk.fit x.Many, fun x => Bk.bulk x.Who + Bk.bulk x.Many⟩
instance : Bk Owner := ⟨fun x => Bk.fit x.Path ∧ Bk.fit x.Who, fun x => Bk.bulk x.Path + Bk.bulk x.Who⟩
instance : Bk Review := ⟨fun x => Bk.fit x.Branch ∧ Bk.fit x.Into ∧ Bk.fit x.By ∧ Bk.fit x.Yes, fun x => Bk.bulk x.Branch + (Bk.bulk x.Into + (Bk.bulk x.By + Bk.bulk x.Yes))⟩
instance : Bk Lost := ⟨fun x => Bk.fit x.Path ∧ Bk.fit x.Line ∧ Bk.fit x.To, fun x => Bk.bulk x.Path + (Bk.bulk x.Line + Bk.bulk x.To)⟩
instance : Bk Memo := ⟨fun x => Bk.fit x.Old ∧ Bk.fit x.One ∧ Bk.fit x.Two ∧ Bk.fit x.Done, fun x => Bk.bulk x.Old + (Bk.bulk x.One + (Bk.bulk x.Two + Bk.bulk x.Done))⟩
instance : Bk Op := ⟨fun x => Bk.fit x.Kind ∧ Bk.fit x.Branch ∧ Bk.fit x.Who ∧ Bk.fit x.Path ∧ Bk.fit x.To ∧ Bk.fit x.At ∧ Bk.fit x.Text, fun x => Bk.bulk x.Kind + (Bk.bulk x.Branch + (Bk.bulk x.Who + (Bk.bulk x.Path + (Bk.bulk x.To + (Bk.bulk x.At + Bk.bulk x.Text)))))⟩
end Go.Vm
