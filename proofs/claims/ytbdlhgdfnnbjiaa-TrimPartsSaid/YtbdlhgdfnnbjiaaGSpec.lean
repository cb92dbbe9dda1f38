import Derived.Test.YtbdlhgdfnnbjiaaPYx8
import Derived.Test.YtbdlhgdfnnbjiaaGisWord
import Derived.Test.YtbdlhgdfnnbjiaaGturned
import Derived.Test.YtbdlhgdfnnbjiaaShelf
namespace Go.Proofs.Ytbdlhgdfnnbjiaa.PY
open Go.RowKit Go.Proofs.YtbdlhgdfnnbjiaaW.PrintWords Go.Proofs.YtbdlhgdfnnbjiaaW.PrintLast Go.Proofs.YtbdlhgdfnnbjiaaW.PrintMore
set_option linter.unusedVariables false
/-- The longest palindrome at a center. -/
def cen (s : ByteArray) (c : Nat) : Int := (trim_centered.f 200 s c).getD 0
/-- The palindromes at a center, the longest one first. -/
def partsC (s : ByteArray) (c : Nat) : Nat → Int → List (Int × ByteArray)
  | 0, _ => []
  | k + 1, n => if 0 < n then (((c : Int) + 1 - n) / 2, s.extract (((c : Int) + 1 - n) / 2).toNat (((c : Int) + 1 - n) / 2 + n).toNat) :: partsC s c k (n - 2) else []
/-- All palindromes with their positions, as they come. -/
def partsU (s : ByteArray) (m : Nat) : List (Int × ByteArray) := (List.range m).flatMap fun c => partsC s c 101 (cen s c)
def partsL (s : ByteArray) : List (Int × ByteArray) := partsU s (2 * s.size - 1)
/-- The order of Palindromes. -/
def ltP (x y : ByteArray) : Bool := decide (x.size < y.size) || (decide (x.size = y.size) && decide (x.data.toList < y.data.toList))
/-- A string is added in its place, unless it is there. -/
def insP (x : ByteArray) : List ByteArray → List ByteArray
  | [] => [x]
  | y :: l => if ltP x y = true then x :: y :: l else if ltP y x = true then y :: insP x l else y :: l
def palSpec (s : ByteArray) : List ByteArray := (partsL s).foldl (fun l x => insP x.2 l) []
def trim_Palindromes.f (a0 : ByteArray) : Option (List ByteArray × Int) := (trim_isWord.f a0).bind fun t => if t = true then some (palSpec a0, 0) else some ([], 2)
def trim_Occurrences.f (a0 : ByteArray) : Option (Int × Int) := (trim_isWord.f a0).bind fun t => if t = true then some (((partsL a0).length : Int), 0) else some (0, 2)
/-- The first one of the longest. -/
def longStep (r : Int × Int) (x : Int × ByteArray) : Int × Int := if r.2 < (x.2.size : Int) ∨ ((x.2.size : Int) = r.2 ∧ x.1 < r.1) then (x.1, (x.2.size : Int)) else r
def longSpec (s : ByteArray) : Int × Int := (partsL s).foldl longStep (0, 0)
def trim_Longest.f (a0 : ByteArray) : Option (Int × Int × Int) := (trim_isWord.f a0).bind fun t => if t = true then some ((longSpec a0).1, (longSpec a0).2, 0) else some (0, 0, 2)
/-- How long the longest palindrome is that is a subsequence of the d letters from i on. -/
def lq (s : ByteArray) : Nat → Nat → Nat
  | 0, _ => 0
  | 1, _ => 1
  | d + 2, i => max (max (lq s (d + 1) (i + 1)) (lq s (d + 1) i)) (if bt s i = bt s ((i + d + 1 : Nat) : Int) then 2 + lq s d (i + 1) else 0)
def lqI (s : ByteArray) (i j : Int) : Int := if i < j then (lq s (j - i).toNat i.toNat : Int) else 0
/-- The loops of Inner. -/
def trim_Inner.l1 : Nat → ByteArray → Int → Int → Int → Int → Option (Int × Int × Int × Bool)
  | 0, _, _, _, _, _ => none
  | k + 1, s, i, j, n, c =>
    let p := Lib.indexByte (s.extract i.toNat j.toNat).data.toList c.toNat.toUInt8
    let q := Lib.lastIndexByte (s.extract i.toNat j.toNat) c
    if n = 1 ∧ 0 ≤ p then some (c, j, j, true)
    else if p < q ∧ 2 + lqI s (i + p + 1) (i + q) = n then some (c, i + p + 1, i + q, false)
    else trim_Inner.l1 k s i j n ((c + 1) % 256)
def trim_Inner.l0 : Nat → ByteArray → Int → Int → List Int → ByteArray → Option (List Int × ByteArray)
  | 0, _, _, _, _, _ => none
  | k + 1, s, i, j, half, middle =>
    if 0 < lqI s i j then
      (trim_Inner.l1 k s i j (lqI s i j) 97).bind fun r =>
        if r.2.2.2 = true then (if r.1 < 128 then trim_Inner.l0 k s r.2.1 r.2.2.1 half (strOfNums [r.1]) else none)
        else if half.length < 200 then trim_Inner.l0 k s r.2.1 r.2.2.1 (half ++ [r.1]) middle else none
    else some (half, middle)
def trim_Inner.f (k : Nat) (a0 : ByteArray) : Option (ByteArray × Int) := (trim_isWord.f a0).bind fun t =>
  if t = true then (trim_Inner.l0 k a0 0 a0.size [] ⟨#[]⟩).bind fun r => (trim_turned.f (strOfNums r.1)).bind fun u => some (strOfNums r.1 ++ r.2 ++ u, 0) else some (⟨#[]⟩, 2)
/-- The loop of Outer. -/
def trim_Outer.l0 : Nat → ByteArray → Int → Int → List Int → ByteArray → Option (List Int × ByteArray)
  | 0, _, _, _, _, _ => none
  | k + 1, s, i, j, half, middle =>
    if i < j then
      (if half.length < 200 then
        (if i + 1 = j then trim_Outer.l0 k s (i + 1) j half (s.extract i.toNat j.toNat)
        else if bt s i = bt s (j - 1) then trim_Outer.l0 k s (i + 1) (j - 1) (half ++ [bt s i]) middle
        else if lqI s i (j - 1) ≤ lqI s (i + 1) j then trim_Outer.l0 k s (i + 1) j (half ++ [bt s i]) middle
        else trim_Outer.l0 k s i (j - 1) (half ++ [bt s (j - 1)]) middle) else none)
    else some (half, middle)
def trim_Outer.f (k : Nat) (a0 : ByteArray) : Option (ByteArray × Int) := (trim_isWord.f a0).bind fun t =>
  if t = true then (trim_Outer.l0 k a0 0 a0.size [] ⟨#[]⟩).bind fun r => (trim_turned.f (strOfNums r.1)).bind fun u => some (strOfNums r.1 ++ r.2 ++ u, 0) else some (⟨#[]⟩, 2)
end Go.Proofs.Ytbdlhgdfnnbjiaa.PY
