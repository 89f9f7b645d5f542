/- Plain law: steps of fields. No condition beyond those written. -/
import Derived.Test.YtoijdkmkfhefjaaExactStoreFilmL30
import Derived.Test.YtoijdkmkfhefjaaExactStoreFilmL13
import Derived.Test.YtoijdkmkfhefjaaWvX2
import Derived.Test.YtoijdkmkfhefjaaExactStoreFilmL26
import Derived.Test.YtoijdkmkfhefjaaExactStoreFilmL07
import Derived.Test.YtoijdkmkfhefjaaExactStoreFilmL12
namespace Go.Abs
set_option linter.unusedSimpArgs false
set_option linter.unusedVariables false

def newM (g : Nat → Nat) (xs : List Nat) : List Nat := (List.range xs.length).map g
section
variable {g : Nat → Nat} {xs : List Nat} {j : Nat}
end

section
variable {W H : Nat} {u v : Int}
end

section
variable {W H cx cy : Nat} {wr : Bool} {sp lo e x y : List Nat}
end
/-- A field. -/
structure Fld where
  e : List Nat
  x : List Nat
  y : List Nat
end Go.Abs

