/- Plain law: steps of fields. No condition beyond those written. -/
import Derived.Test.YtaacdckenhnocaaExactLoadSheetL07
import Derived.Test.YtaacdckenhnocaaWvH3
import Derived.Test.YtaacdckenhnocaaExactLoadSheetL12
import Derived.Test.YtaacdckenhnocaaWvX2
import Derived.Test.YtaacdckenhnocaaExactLoadSheetL26
namespace Go.Abs
set_option linter.unusedSimpArgs false
set_option linter.unusedVariables false

section
variable {g : Nat → Nat} {xs : List Nat} {j : Nat}
end

section
variable {W H : Nat} {u v : Int}
end

section
variable {W H cx cy : Nat} {wr : Bool} {sp lo e x y : List Nat}
end
/-- A field. -/
structure Fld where
  e : List Nat
  x : List Nat
  y : List Nat
end Go.Abs

