/- (Hex).need: what it reckons: distances in a map, made less until nothing turns. -/
import Derived.Test.YtcfdlbjngpmcaaaPAllx14
import Derived.Test.YtcfdlbjngpmcaaaPAllx8
import Derived.Test.YtcfdlbjngpmcaaaPAllx5
namespace Go.Proofs.Ytcfdlbjngpmcaaa.PAll
open Go.RowKit Go.Proofs.YtcfdlbjngpmcaaaW.PrintWords Go.Proofs.YtcfdlbjngpmcaaaW.PrintLast
set_option linter.unusedVariables false

/-- A map as the list of what was put, the last first. -/
def mget : List (Int × Int) → Int → Option Int
  | [], _ => none
  | p :: m, c => if p.1 = c then some p.2 else mget m c
def mput (m : List (Int × Int)) (c v : Int) : List (Int × Int) := (c, v) :: m
def lineI (side player c : Int) : Int := if player = 1 then wrap64 (Int.tdiv c side) else Int.tmod c side
/-- The least value of the entries on the last line, -1 if there is none. -/
def bestM (side player : Int) (m : List (Int × Int)) : Int := (m.filter fun p => mget m p.1 == some p.2).foldr (fun p b => if lineI side player p.1 = wrap64 (side - 1) ∧ (b < 0 ∨ p.2 < b) then p.2 else b) (-1)
mutual
def impl_Hex_need.l0 : Nat → Int → List Int → Int → List (Int × Int) → Int → Option Int
  | 0, _, _, _, _, _ => none
  | k + 1, s, l, p, m, i =>
    if i < (l.length : Int) then
      (if lineI s p i = 0 then (impl_Hex_need_2.f i s l p).bind fun o =>
        (if o = true then (impl_Hex_need_1.f i s l).bind fun c => (if m.length < 1048576 then impl_Hex_need.l0 k s l p (mput m i c) (wrap64 (i + 1)) else none) else impl_Hex_need.l0 k s l p m (wrap64 (i + 1)))
      else impl_Hex_need.l0 k s l p m (wrap64 (i + 1)))
    else impl_Hex_need.l1 k s l p m true
def impl_Hex_need.l1 : Nat → Int → List Int → Int → List (Int × Int) → Bool → Option Int
  | 0, _, _, _, _, _ => none
  | k + 1, s, l, p, m, ch => if ch = true then impl_Hex_need.l2 k s l p m false 0 else (if m.all (fun q => decide (0 ≤ q.2)) = true then some (bestM s p m) else none)
def impl_Hex_need.l2 : Nat → Int → List Int → Int → List (Int × Int) → Bool → Int → Option Int
  | 0, _, _, _, _, _, _ => none
  | k + 1, s, l, p, m, ch, i =>
    if i < (l.length : Int) then
      (match mget m i with
      | none => impl_Hex_need.l2 k s l p m ch (wrap64 (i + 1))
      | some n => (impl_near.f k s i).bind fun near => impl_Hex_need.l3 k s l p m ch i n near 0)
    else impl_Hex_need.l1 k s l p m ch
def impl_Hex_need.l3 : Nat → Int → List Int → Int → List (Int × Int) → Bool → Int → Int → List Int → Int → Option Int
  | 0, _, _, _, _, _, _, _, _, _ => none
  | k + 1, s, l, p, m, ch, i, n, near, j =>
    if j < (near.length : Int) then
      (if 0 ≤ j then (impl_Hex_need_2.f (rd near j) s l p).bind fun o =>
        (if o = true then
          (match mget m (rd near j) with
          | none => (impl_Hex_need_1.f (rd near j) s l).bind fun c => (if m.length < 1048576 then impl_Hex_need.l3 k s l p (mput m (rd near j) (wrap64 (n + c))) true i n near (wrap64 (j + 1)) else none)
          | some v => (impl_Hex_need_1.f (rd near j) s l).bind fun c => (if wrap64 (n + c) < v then (if m.length < 1048576 then impl_Hex_need.l3 k s l p (mput m (rd near j) (wrap64 (n + c))) true i n near (wrap64 (j + 1)) else none) else impl_Hex_need.l3 k s l p m ch i n near (wrap64 (j + 1))))
        else impl_Hex_need.l3 k s l p m ch i n near (wrap64 (j + 1)))
      else none)
    else impl_Hex_need.l2 k s l p m ch (wrap64 (i + 1))
end
def impl_Hex_need.f (k : Nat) (a0_0 : Int) (l0_1 : List Int) (a1 : Int) : Option (Int) := if a0_0 = 0 then none else if l0_1.length ≤ 1048576 then impl_Hex_need.l0 k a0_0 l0_1 a1 [] 0 else none

end Go.Proofs.Ytcfdlbjngpmcaaa.PAll
