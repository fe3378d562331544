/- Twenty values in one: the open slots of a large activation. No program here. -/
import Derived.WalkKit
namespace Go
structure V20 where
  a : Value
  b : Value
  c : Value
  d : Value
  e : Value
  f : Value
  g : Value
  h : Value
  i : Value
  j : Value
  k : Value
  l : Value
  m : Value
  n : Value
  o : Value
  p : Value
  q : Value
  r : Value
  s : Value
  t : Value
end Go
