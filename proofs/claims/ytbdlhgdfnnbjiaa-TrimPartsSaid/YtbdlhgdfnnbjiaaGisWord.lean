/- The walk of trim.isWord through strings.ContainsFunc: what it computes, as a Lean function. -/
import Derived.Test.YtbdlhgdfnnbjiaaPYx0
import Derived.Shelf.GgClosure.StringsIndexFunc
namespace Go.Proofs.Ytbdlhgdfnnbjiaa.PY
open Go.RowKit Go.Proofs.YtbdlhgdfnnbjiaaW.PrintWords Go.Proofs.YtbdlhgdfnnbjiaaW.PrintLast Go.Proofs.YtbdlhgdfnnbjiaaW.PrintMore
set_option linter.unusedVariables false
set_option linter.unusedSimpArgs false
def allBytes (s : ByteArray) : Bool := (List.range s.size).all fun j => decide (97 ≤ (s.get! j).toNat) && decide ((s.get! j).toNat ≤ 100)
theorem allBytes_iff (s : ByteArray) : allBytes s = true ↔ ∀ j, j < s.size → 97 ≤ (s.get! j).toNat ∧ (s.get! j).toNat ≤ 100 := by
  simp [allBytes, List.all_eq_true]
def badR (r : Int) : Bool := decide (r < 97) || decide (r > 100)
theorem decode_low (s : ByteArray) (i : Nat) (h : (s.get! i).toNat < 128) : Utf8.decode s i = ((s.get! i).toNat, 1) := by
  unfold Utf8.decode
  simp [h]
theorem decode_high (s : ByteArray) (i : Nat) (h : 128 ≤ (s.get! i).toNat) : 128 ≤ (Utf8.decode s i).1 := by
  unfold Utf8.decode
  simp only [Nat.add_zero]
  rw [if_neg (by omega)]
  (repeat' split) <;> first | omega | (simp [Utf8.runeError]; done) | (rename_i hh; simp only [Bool.and_eq_true, decide_eq_true_eq] at hh; omega)
theorem bad_of_decode (s : ByteArray) (i : Nat) : badR ((Utf8.decode s i).1 : Int) = true ↔ ¬ (97 ≤ (s.get! i).toNat ∧ (s.get! i).toNat ≤ 100) := by
  by_cases h : (s.get! i).toNat < 128
  · rw [decode_low s i h]
    simp [badR]
    omega
  · have := decode_high s i (by omega)
    simp [badR]
    omega
theorem isWord1_yes (r : Int) (hb : badR r = true) (w : World) : Calls Try.prog 78 #[.int .i32 r] w fun e w' => e = .returned (.bool true) ∧ Drawn0 w w' := by
  by_cases h : r < 97
  · have h1 : decide (r < 97) = true := decide_eq_true h
    clear h hb
    go_enter Try.func78, Try.ntmps78
    go_wp2
    go_ret
    exact ⟨by first | rfl | (simp; done), by repeat (first | exact Drawn0.refl _ | apply Drawn0.step)⟩
  · have h1 : decide (r < 97) = false := decide_eq_false h
    have h2 : decide (100 < r) = true := by simpa [badR, h] using hb
    clear h hb
    go_enter Try.func78, Try.ntmps78
    go_wp2
    go_ret
    exact ⟨by first | rfl | (simp; done), by repeat (first | exact Drawn0.refl _ | apply Drawn0.step)⟩
theorem isWord1_no (r : Int) (hb : badR r = false) (w : World) : Calls Try.prog 78 #[.int .i32 r] w fun e w' => e = .returned (.bool false) ∧ Drawn0 w w' := by
  have hb' : decide (r < 97) = false ∧ decide (100 < r) = false := by simpa [badR] using hb
  have h1 := hb'.1
  have h2 := hb'.2
  clear hb hb'
  go_enter Try.func78, Try.ntmps78
  go_wp2
  go_ret
  exact ⟨by first | rfl | (simp; done), by repeat (first | exact Drawn0.refl _ | apply Drawn0.step)⟩
set_option maxHeartbeats 4000000 in
set_option maxRecDepth 100000 in
theorem indexFunc100.calls (s : ByteArray) (w : World) :
    Calls Try.prog 100 #[.string s, .func (.func 78) #[] #[], .bool true] w fun e w' => ∃ i : Int, e = .returned (.int .i64 i) ∧ decide (0 ≤ i) = (!allBytes s) ∧ Below w.heap.size w w' := by
  go_enter Try.func100, Try.ntmps100
  go_wp2
  go_loopg [] s.size (fun gf wx => ∃ pos : Nat, wx.heap[w.heap.size]? = some (.stringIter s pos) ∧ Below w.heap.size w wx ∧ Aside0 (∀ j, j < pos → j < s.size → 97 ≤ (s.get! j).toNat ∧ (s.get! j).toNat ≤ 100) ∧ s.size ≤ pos + gf)
  case atStart => exact ⟨0, World.iter_heap w s 0, (Below.refl _ w).alloc (Nat.le_refl _) _, ⟨fun j hj => by omega⟩, by omega⟩
  case round =>
    obtain ⟨pos, hit, hbw, hok, hfu⟩ := hrel
    by_cases hps : pos < s.size
    · obtain ⟨g', rfl⟩ : ∃ g', gk = g' + 1 := ⟨gk - 1, by omega⟩
      have hnx : ∀ ty, (Instr.next (.pointer (some ⟨w.heap.size, 0, none⟩)) true ty).run Try.prog wr = _ := fun ty => Lib.run_next_any_at wr w.heap.size s pos ty hit hps
      have hwd := Lib.width_pos s pos
      have hbd := bad_of_decode s pos
      have hdl := decode_low s pos
      obtain ⟨R, hR⟩ : ∃ R, (Utf8.decode s pos).1 = R := ⟨_, rfl⟩
      obtain ⟨K, hK⟩ : ∃ K, (Utf8.decode s pos).2 = K := ⟨_, rfl⟩
      rw [hR, hK] at hnx
      rw [hK] at hwd
      rw [hR] at hbd
      have hK1 : (s.get! pos).toNat < 128 → K = 1 := fun h => by rw [← hK, hdl h]
      have hit2 := Lib.iterAt_heap wr w.heap.size s pos (pos + K) hit
      have hbw2 := Lib.below_iterAt hbw (k := w.heap.size) (Nat.le_refl _) s (pos + K)
      obtain ⟨W, hWd⟩ : ∃ W, wr.iterAt w.heap.size s (pos + K) = W := ⟨_, rfl⟩
      rw [hWd] at hnx hit2 hbw2
      have hbd' := Aside0.mk hbd
      have hK1' := Aside0.mk hK1
      have hwd' := Aside0.mk hwd
      clear hbd hdl hR hK hK1 hWd hwd
      cases hsp : badR (R : Int) with
      | true =>
        have hb := Aside0.mk hsp
        clear hsp
        go_wp2_with (go_at_call 78; (with_reducible refine (isWord1_yes _ hb.out _).mono ?_); rintro e W' ⟨rfl, ⟨q, rfl⟩⟩)
        go_ret
        refine ⟨pos, rfl, ?_, pw_below_drewN hbw2 q⟩
        have h1 : allBytes s = false := by
          cases h : allBytes s with
          | false => rfl
          | true => exact absurd ((allBytes_iff s).1 h pos hps) (hbd'.out.1 hb.out)
        rw [h1]
        simp
      | false =>
        have hb := Aside0.mk hsp
        clear hsp
        go_wp2_with (go_at_call 78; (with_reducible refine (isWord1_no _ hb.out _).mono ?_); rintro e W' ⟨rfl, ⟨q, rfl⟩⟩)
        have hg : 97 ≤ (s.get! pos).toNat ∧ (s.get! pos).toNat ≤ 100 := Decidable.byContradiction fun h => by
          have := hbd'.out.2 h
          rw [hb.out] at this
          cases this
        have hK2 := hK1'.out (by omega)
        go_roundg g'
        case measure => omega
        case rel => exact ⟨pos + K, hit2, pw_below_drewN hbw2 q, ⟨fun j hj hs => by
          rcases Nat.lt_or_ge j pos with h | h
          · exact hok.out j h hs
          · have : j = pos := by omega
            subst this
            exact hg⟩, by omega⟩
    · have hnx : ∀ ty, (Instr.next (.pointer (some ⟨w.heap.size, 0, none⟩)) true ty).run Try.prog wr = _ := fun ty => Lib.run_next_end_at wr w.heap.size s pos ty hit hps
      go_wp2
      go_ret
      refine ⟨-1, rfl, ?_, hbw⟩
      rw [(allBytes_iff s).2 (fun j hj => hok.out j (by omega) hj)]
      decide
theorem indexFunc91.calls (s : ByteArray) (w : World) :
    Calls Try.prog 91 #[.string s, .func (.func 78) #[] #[]] w fun e w' => ∃ i : Int, e = .returned (.int .i64 i) ∧ decide (0 ≤ i) = (!allBytes s) ∧ Below w.heap.size w w' := by
  go_enter Try.func91, Try.ntmps91
  go_wp2_with (go_at_call 100; (with_reducible refine (indexFunc100.calls s _).mono ?_); rintro e w1 ⟨i, rfl, hi, hb⟩; have hi := Aside0.mk hi)
  go_ret
  exact ⟨i, rfl, by first | exact hi.out | (have := hi.out; assumption), hb⟩
theorem containsFunc77.calls (s : ByteArray) (b : Bool) (hb : (!allBytes s) = b) (w : World) :
    Calls Try.prog 77 #[.string s, .func (.func 78) #[] #[]] w fun e w' => e = .returned (.bool b) ∧ Below w.heap.size w w' := by
  have hb := Aside0.mk hb
  go_enter Try.func77, Try.ntmps77
  go_wp2_with (go_at_call 91; (with_reducible refine (indexFunc91.calls s _).mono ?_); rintro e w1 ⟨i, rfl, hi, hbw⟩; rw [hb.out] at hi)
  go_ret
  exact ⟨by first | rfl | (simp; done) | (simp [hi]; done), hbw⟩
def trim_isWord.f (a0 : ByteArray) : Option Bool := if (a0.size : Int) ≤ 100 then some (allBytes a0) else some false
theorem trim_isWord.calls (a0 : ByteArray) (r : Bool) (w : World) (h : trim_isWord.f a0 = some r) :
    Calls Try.prog 54 #[.string a0] w fun e w' => e = .returned (.bool r) ∧ Below w.heap.size w w' := by
  unfold trim_isWord.f at h
  by_cases c1 : (a0.size : Int) ≤ 100
  · rw [if_pos c1] at h
    have c1b : decide ((a0.size : Int) ≤ 100) = true := decide_eq_true c1
    have c1n : a0.size ≤ 100 := by omega
    have h := Aside0.mk (Option.some.inj h)
    clear c1
    go_enter Try.func54, Try.ntmps54
    go_wp2_with (go_at_call 77; (with_reducible refine (containsFunc77.calls a0 (!r) (by rw [h.out]) _).mono ?_); rintro e w1 ⟨rfl, hb⟩)
    go_ret
    exact ⟨by simp, hb⟩
  · rw [if_neg c1] at h
    have c1b : decide ((a0.size : Int) ≤ 100) = false := decide_eq_false c1
    have c1n : 100 < a0.size := by omega
    obtain rfl := Option.some.inj h
    go_enter Try.func54, Try.ntmps54
    go_wp2
    go_ret
    exact ⟨by first | rfl | (simp; done), Below.refl _ _⟩
end Go.Proofs.Ytbdlhgdfnnbjiaa.PY
