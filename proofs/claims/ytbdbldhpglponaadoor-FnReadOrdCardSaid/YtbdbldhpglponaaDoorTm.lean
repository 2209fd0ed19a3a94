/- The terms of ordinals. -/
namespace OM
/-- A term: its number and its exponent. -/
structure Tm where
  f0 : Int
  f1 : List Tm
abbrev O := List Tm
end OM
