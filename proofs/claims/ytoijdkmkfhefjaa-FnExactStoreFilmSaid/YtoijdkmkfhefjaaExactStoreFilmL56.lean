/- Laws of functions: fields that are scaled and added. Conditions: the laws of what they call. -/
import Derived.Test.YtoijdkmkfhefjaaExactStoreFilmL53
namespace Go.Abs

set_option linter.unusedSimpArgs false
set_option linter.unusedVariables false
set_option maxHeartbeats 8000000
set_option maxRecDepth 20000
abbrev scaleL (by_ : Nat) (xs : List Nat) : List Nat := newM (fun i => fbin .mul .f32 (xs.getD i 0) by_) xs
abbrev addL (a b : List Nat) : List Nat := newM (fun i => fbin .add .f32 (a.getD i 0) (b.getD i 0)) a
def scOk (w h : Int) (wr : Bool) (sp lo e x y : List Nat) (b : Nat) : Bool := isField w h wr sp lo e x y && isField w h wr sp lo (scaleL b e) (scaleL b x) (scaleL b y)
def adOk (w h : Int) (wr : Bool) (sp lo e x y e' x' y' : List Nat) : Bool := isField w h wr sp lo e x y && isField w h wr sp lo e' x' y' && isField w h wr sp lo (addL e e') (addL x x') (addL y y')
end Go.Abs

