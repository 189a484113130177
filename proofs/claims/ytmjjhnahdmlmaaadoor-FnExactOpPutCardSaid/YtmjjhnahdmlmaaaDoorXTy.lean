/- The structs of the program, as Lean structures. Conditions: none. -/
import Derived.Test.YtmjjhnahdmlmaaaDoorXSp
namespace Go.Vm
open Go.Sx
set_option linter.unusedSimpArgs false
set_option linter.unusedVariables false

structure File where
  Path : Str
  Text : List Str
  deriving DecidableEq
structure Commit where
  Parents : List Int
  Who : Str
  Tree : List File
  deriving DecidableEq
structure Head where
  Name : Str
  At : Int
  deriving DecidableEq
structure Repo where
  Commits : List Commit
  Heads : List Head
  deriving DecidableEq
structure Hunk where
  At : Int
  Less : List Str
  More : List Str
  deriving DecidableEq
structure Part where
  Clash : Bool
  Lines : List Str
  Old : List Str
  One : List Str
  Two : List Str
  deriving DecidableEq
structure Change where
  Kind : Int
  Path : Str
  To : Str
  Text : List Str
  Patch : List Hunk
  deriving DecidableEq
structure Clash where
  Path : Str
  Kind : Int
  deriving DecidableEq
structure has where
  text : List Str
  file : Bool
  deriving DecidableEq
structure Delta where
  From : Int
  Many : Int
  Lines : List Str
  deriving DecidableEq
structure Packed where
  Base : Int
  Delta : List Delta
  deriving DecidableEq
structure Share where
  Who : Str
  Many : Int
  deriving DecidableEq
structure Owner where
  Path : Str
  Who : Str
  deriving DecidableEq
structure Review where
  Branch : Str
  Into : Str
  By : Str
  Yes : List Str
  deriving DecidableEq
structure Lost where
  Path : Str
  Line : Int
  To : Str
  deriving DecidableEq
structure Memo where
  Old : List Str
  One : List Str
  Two : List Str
  Done : List Str
  deriving DecidableEq
structure Op where
  Kind : Int
  Branch : Str
  Who : Str
  Path : Str
  To : Str
  At : Int
  Text : List Str
  deriving DecidableEq
structure l30Rd where
  b : List Byte
  p : Int
end Go.Vm
