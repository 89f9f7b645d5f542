/- Plain law: steps of fields. No condition beyond those written. -/
import Derived.Test.YtogekdhkcndbdaaChangesL30
import Derived.Test.YtogekdhkcndbdaaChangesL12
import Derived.Test.YtogekdhkcndbdaaWvX2
import Derived.Test.YtogekdhkcndbdaaChangesL26
import Derived.Test.YtogekdhkcndbdaaChangesL07
namespace Go.Abs
set_option linter.unusedSimpArgs false
set_option linter.unusedVariables false

section
variable {g : Nat → Nat} {xs : List Nat} {j : Nat}
end

section
variable {W H : Nat} {u v : Int}
end

section
variable {W H cx cy : Nat} {wr : Bool} {sp lo e x y : List Nat}
end
/-- A field. -/
structure Fld where
  e : List Nat
  x : List Nat
  y : List Nat
end Go.Abs

