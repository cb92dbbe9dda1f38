/- The walk of trim.turned through slices.Reverse: what it computes, as a Lean function. -/
import Derived.Test.YtbdlhgdfnnbjiaaPYx2
import Derived.Lib.ConvBytes
namespace Go.Proofs.Ytbdlhgdfnnbjiaa.PY
open Go.RowKit Go.Proofs.YtbdlhgdfnnbjiaaW.PrintWords Go.Proofs.YtbdlhgdfnnbjiaaW.PrintLast Go.Proofs.YtbdlhgdfnnbjiaaW.PrintMore
set_option linter.unusedVariables false
set_option linter.unusedSimpArgs false
/-- A block of bytes, whose first n cells are the numbers of the list. -/
def Bytes (w : World) (g : Nat) (cs : Nat) (m : List Int) : Prop :=
  ∃ cur : Array Value, w.heap[g]? = some (.cells cur 5 (cs, cs + 1)) ∧ cur.size = cs ∧ m.length ≤ cs ∧ cur.toList.take m.length = m.map (fun x => Value.int .u8 x)
theorem Bytes.cell {w : World} {g cs : Nat} {m : List Int} (h : Bytes w g cs m) (i : Nat) (hi : i < m.length) : w.cell? ⟨g, i, none⟩ = some (.int .u8 (rd m i)) := by
  obtain ⟨cur, hg, hs, hl, ht⟩ := h
  have h1 : w.cell? ⟨g, i, none⟩ = cur[i]? := by simp [World.cell?, hg]
  rw [h1]
  have h2 : (cur.toList.take m.length)[i]? = (m.map (fun x => Value.int .u8 x))[i]? := by rw [ht]
  rw [List.getElem?_take_of_lt hi] at h2
  simp only [Array.getElem?_toList] at h2
  rw [h2]
  simp [rd, hi]
theorem Bytes.frozen {w : World} {g cs : Nat} {m : List Int} (h : Bytes w g cs m) (i : Nat) (hi : i < m.length) : w.frozen? ⟨g, i, none⟩ = false := by
  obtain ⟨cur, hg, hs, hl, ht⟩ := h
  simp [World.frozen?, hg]
  omega
theorem Bytes.set {w : World} {g cs : Nat} {m : List Int} (h : Bytes w g cs m) (i : Nat) (x : Int) (hi : i < m.length) : Bytes (w.setCell ⟨g, i, none⟩ (.int .u8 x)) g cs (m.set i x) := by
  obtain ⟨cur, hg, hs, hl, ht⟩ := h
  refine ⟨cur.setIfInBounds i (.int .u8 x), ?_, by simp [hs], by simpa using hl, ?_⟩
  · simp [World.setCell, Array.getElem?_modify, hg]
  · rw [List.length_set, List.map_set, ← ht]
    simp [List.take_set]
theorem Bytes.drew {w : World} {g cs : Nat} {m : List Int} (h : Bytes w g cs m) : Bytes w.drew g cs m := h
theorem Bytes.size {w : World} {g cs : Nat} {m : List Int} (h : Bytes w g cs m) : m.length ≤ cs := by
  obtain ⟨cur, hg, hs, hl, ht⟩ := h
  exact hl
theorem wrap_small {n : Int} (h0 : -9223372036854775808 ≤ n) (h1 : n ≤ 9223372036854775807) : wrap64 n = n := by unfold wrap64; omega
theorem grown_set {w W : World} {g : Nat} (h : w.grownBy W (some g)) (i : Nat) (v : Value) : w.grownBy (W.setCell ⟨g, i, none⟩ v) (some g) :=
  World.grownBy.trans h ⟨rfl, rfl, rfl, by show W.heap.size ≤ (W.heap.modify _ _).size; rw [Array.size_modify]; exact Nat.le_refl _, fun k _ hk => Below.heap_setCell W _ v k (fun e => hk (by rw [e]))⟩
theorem grown_drew {w W : World} {r : Option Nat} (h : w.grownBy W r) : w.grownBy W.drew r := ⟨h.1, h.2, h.3, h.4, h.5⟩
set_option maxHeartbeats 8000000 in
set_option maxRecDepth 100000 in
theorem reverse89.calls (k : Nat) (g cs cap : Nat) (l r : List Int) (w : World) (hmax : l.length ≤ 1000000) (hb : Bytes w g cs l) (hgl : g < w.heap.size) (h : slices_Reverse_byte_byte.f k l = some r) :
    Calls Try.prog 89 #[.slice (some ⟨g, 0, none⟩) l.length cap] w fun e w' => e = .returned (.tuple #[]) ∧ Bytes w' g cs r ∧ w.grownBy w' (some g) := by
  unfold slices_Reverse_byte_byte.f at h
  rw [wrap_small (by omega) (by omega)] at h
  have H' := Aside0.mk h
  have HBy := Aside0.mk hb
  clear h hb
  go_enter Try.func89, Try.ntmps89
  go_wp2
  go_loopg [2, 3] k (fun kq v2 v3 wr => ∃ (m : List Int) (i j : Int), v2 = .int .i64 i ∧ v3 = .int .i64 j ∧ m.length = l.length ∧ 0 ≤ i ∧ i ≤ l.length ∧ -1 ≤ j ∧ j ≤ l.length ∧ Aside0 (slices_Reverse_byte_byte.l0 kq m i j = some r) ∧ Aside0 (kq ≤ k) ∧ Aside0 (Bytes wr g cs m) ∧ Aside0 (w.grownBy wr (some g)))
  case atStart => exact ⟨l, 0, (l.length : Int) - 1, rfl, rfl, rfl, by omega, by omega, by omega, by omega, H', ⟨Nat.le_refl _⟩, HBy, ⟨World.grownBy.refl _ _⟩⟩
  case round =>
    clear H' HBy
    obtain ⟨m, i, j, rfl, rfl, hm, hi0, hi1, hj0, hj1, HA, HK, HBy, HG⟩ := hrel
    cases gk with
    | zero => exact absurd HA.out (by simp [slices_Reverse_byte_byte.l0])
    | succ k1 =>
      have H := HA.out
      clear HA
      simp only [slices_Reverse_byte_byte.l0] at H
      by_cases c1 : i < j
      · rw [if_pos c1] at H
        have c1b : decide (i < j) = true := decide_eq_true c1
        by_cases c2 : 0 ≤ j
        · rw [if_pos c2] at H
          by_cases c3 : j < (m.length : Int)
          · rw [if_pos c3, if_pos hi0] at H
            have c4 : i < (m.length : Int) := by omega
            rw [if_pos c4, wrap_small (n := i + 1) (by omega) (by omega), wrap_small (n := j - 1) (by omega) (by omega)] at H
            have H' := Aside0.mk H
            clear H
            obtain ⟨a, rfl⟩ := Int.eq_ofNat_of_zero_le hi0
            obtain ⟨b, rfl⟩ := Int.eq_ofNat_of_zero_le c2
            have hal : a < m.length := by omega
            have hbl : b < m.length := by omega
            have hal' : a < l.length := by omega
            have hbl' : b < l.length := by omega
            have hca := HBy.out.cell a hal
            have hcb := HBy.out.cell b hbl
            have hfa := HBy.out.frozen a hal
            have hfb := HBy.out.frozen b hbl
            have hm' := Aside0.mk hm
            have hne : ¬ a = b := by omega
            have hne' : ¬ b = a := by omega
            clear hm
            go_wp2
            go_region
            go_wp2
            go_roundg k1
            case measure => have := HK.out; omega
            case rel => exact ⟨(m.set a (rd m b)).set b (rd m a), (a : Int) + 1, (b : Int) - 1, rfl, rfl, by simpa using hm'.out, by omega, by omega, by omega, by omega, ⟨by simpa using H'.out⟩, ⟨by have := HK.out; omega⟩, ⟨((HBy.out.set a _ hal).set b _ (by simpa using hbl)).drew⟩, ⟨grown_drew (grown_set (grown_set HG.out _ _) _ _)⟩⟩
          · rw [if_neg c3] at H; simp at H
        · rw [if_neg c2] at H; simp at H
      · rw [if_neg c1] at H
        have c1b : decide (i < j) = false := decide_eq_false c1
        clear c1
        obtain rfl := Option.some.inj H
        go_wp2
        go_end0
        exact ⟨rfl, HBy.out, HG.out⟩
theorem rev_l0 (n : Nat) (hn : n ≤ 1000000) : ∀ (k : Nat) (m : List Int) (i j : Int), m.length = n → 0 ≤ i → -1 ≤ j → i + j + 1 = n → -1 ≤ j - i → j - i + 2 ≤ 2 * (k : Int) →
    ∃ r, slices_Reverse_byte_byte.l0 k m i j = some r ∧ r.length = n ∧ ∀ t : Nat, t < n → r[t]? = if i ≤ t ∧ (t : Int) ≤ j then m[n - 1 - t]? else m[t]?
  | 0, m, i, j, hm, hi, hj, hs, hd, hk => by omega
  | k + 1, m, i, j, hm, hi, hj, hs, hd, hk => by
    simp only [slices_Reverse_byte_byte.l0]
    by_cases c1 : i < j
    · obtain ⟨a, rfl⟩ := Int.eq_ofNat_of_zero_le hi
      obtain ⟨b, rfl⟩ := Int.eq_ofNat_of_zero_le (show 0 ≤ j by omega)
      rw [if_pos c1, if_pos (by omega), if_pos (by omega), if_pos hi, if_pos (by omega), wrap_small (by omega) (by omega), wrap_small (by omega) (by omega)]
      simp only [Int.toNat_natCast]
      obtain ⟨r, h1, h2, h3⟩ := rev_l0 n hn k ((m.set a (rd m b)).set b (rd m a)) ((a : Int) + 1) ((b : Int) - 1) (by simpa using hm) (by omega) (by omega) (by omega) (by omega) (by omega)
      refine ⟨r, h1, h2, fun t ht => ?_⟩
      rw [h3 t ht]
      have hal : a < m.length := by omega
      have hbl : b < m.length := by omega
      have ea : rd m a = m[a] := by simp [rd, hal]
      have eb : rd m b = m[b] := by simp [rd, hbl]
      by_cases q1 : (a : Int) + 1 ≤ t ∧ (t : Int) ≤ (b : Int) - 1
      · rw [if_pos q1, if_pos (by omega)]
        rw [List.getElem?_set_ne (by omega), List.getElem?_set_ne (by omega)]
      · rw [if_neg q1]
        by_cases q2 : t = a
        · subst q2
          rw [if_pos (by omega), List.getElem?_set_ne (by omega), List.getElem?_set_self (by omega), eb, show n - 1 - t = b from by omega, List.getElem?_eq_getElem hbl]
        · by_cases q3 : t = b
          · subst q3
            rw [if_pos (by omega), List.getElem?_set_self (by simpa using hbl), ea, show n - 1 - t = a from by omega, List.getElem?_eq_getElem hal]
          · rw [if_neg (by omega), List.getElem?_set_ne (by omega), List.getElem?_set_ne (by omega)]
    · rw [if_neg c1]
      refine ⟨m, rfl, hm, fun t ht => ?_⟩
      by_cases q1 : i ≤ t ∧ (t : Int) ≤ j
      · rw [if_pos q1, show n - 1 - t = t from by omega]
      · rw [if_neg q1]
theorem rev_f (l : List Int) (hl : l.length ≤ 1000000) : slices_Reverse_byte_byte.f (l.length + 1) l = some l.reverse := by
  unfold slices_Reverse_byte_byte.f
  rw [wrap_small (by omega) (by omega)]
  obtain ⟨r, h1, h2, h3⟩ := rev_l0 l.length hl (l.length + 1) l 0 ((l.length : Int) - 1) rfl (by omega) (by omega) (by omega) (by omega) (by omega)
  rw [h1]
  congr 1
  apply List.ext_getElem?
  intro t
  by_cases ht : t < l.length
  · rw [h3 t ht, if_pos (by omega), List.getElem?_reverse ht]
  · rw [List.getElem?_eq_none (by omega), List.getElem?_eq_none (by simpa using ht)]
def numsOf (s : ByteArray) : List Int := s.data.toList.map fun b => (b.toNat : Int)
theorem numsOf_length (s : ByteArray) : (numsOf s).length = s.size := by simp [numsOf]
def trim_turned.f (a0 : ByteArray) : Option ByteArray := if a0.size ≤ 1000000 then some (strOfNums (numsOf a0).reverse) else none
theorem bytes_new (w : World) (s : ByteArray) : Bytes (Lib.bytesWorld w 5 s) w.heap.size (Lib.bytesCells w 5 s).size (numsOf s) := by
  refine ⟨Lib.bytesCells w 5 s, Lib.bytesWorld_at_new w 5 s, rfl, ?_, ?_⟩
  · rw [numsOf_length]
    simp [Lib.bytesCells]
  · rw [numsOf_length]
    simp [Lib.bytesCells, numsOf]
set_option maxHeartbeats 8000000 in
set_option maxRecDepth 100000 in
theorem trim_turned.calls (a0 : ByteArray) (r : ByteArray) (w : World) (h : trim_turned.f a0 = some r) :
    Calls Try.prog 73 #[.string a0] w fun e w' => e = .returned (.string r) ∧ Below w.heap.size w w' := by
  unfold trim_turned.f at h
  by_cases c1 : a0.size ≤ 1000000
  · rw [if_pos c1] at h
    obtain rfl := Option.some.inj h
    have hcv := fun w => Lib.run_convert_string_bytes (P := Try.prog) w 9 57 5 a0 Try.underlying9 Try.underlying57 Try.underlying5
    have hrv := Aside0.mk (rev_f (numsOf a0) (by rw [numsOf_length]; exact c1))
    go_enter Try.func73, Try.ntmps73
    have hsz : w.heap.size < (Lib.bytesWorld w 5 a0).heap.size := by rw [Lib.bytesWorld_size]; omega
    have cr := reverse89.calls ((numsOf a0).length + 1) w.heap.size (Lib.bytesCells w 5 a0).size (grownCap w a0.size 0 5) (numsOf a0) (numsOf a0).reverse (Lib.bytesWorld w 5 a0) (by rw [numsOf_length]; exact c1) (bytes_new w a0) hsz hrv.out
    rw [numsOf_length] at cr
    have cr := Aside0.mk cr
    clear hsz
    have HBW : Below w.heap.size w (Lib.bytesWorld w 5 a0) := ⟨rfl, rfl, rfl, by rw [Lib.bytesWorld_size]; omega, fun k hk => Lib.bytesWorld_at_old w 5 a0 k hk⟩
    have HBW := Aside0.mk HBW
    go_wp2_with (go_at_call 89; (with_reducible refine cr.out.mono ?_); rintro e w2 ⟨rfl, hby, hgr⟩; have HB2 := Aside0.mk (HBW.out.grown hgr (by rw [Lib.bytesWorld_size]; omega) (fun k e => by cases e; exact Nat.le_refl _)); have hcv2 := run_convert_bytes_arg (P := Try.prog) (w := w2) 57 5 Try.underlying57 Try.underlying5 w.heap.size 0 a0.size (grownCap w a0.size 0 5) (numsOf a0).reverse (by rw [List.length_reverse, numsOf_length]) (fun i hi => by rw [Nat.zero_add]; exact hby.cell i (by rw [List.length_reverse, numsOf_length]; exact hi)) 9 Try.underlying9; clear hby hgr)
    go_ret
    exact ⟨rfl, HB2.out⟩
  · rw [if_neg c1] at h; simp at h
end Go.Proofs.Ytbdlhgdfnnbjiaa.PY
