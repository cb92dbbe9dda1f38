/- The walk of trim.Inner. -/
import Derived.Test.YtbdlhgdfnnbjiaaGInMake
import Derived.Test.YtbdlhgdfnnbjiaaGOccurrences
import Derived.Lib.IndexBytes
namespace Go.Proofs.Ytbdlhgdfnnbjiaa.PY
open Go.RowKit Go.Shelf Go.Maps Go.Proofs.YtbdlhgdfnnbjiaaW.PrintWords Go.Proofs.YtbdlhgdfnnbjiaaW.PrintLast Go.Proofs.YtbdlhgdfnnbjiaaW.PrintMore
set_option linter.unusedVariables false
set_option linter.unusedSimpArgs false
theorem trim_Inner.mono_l1 : ∀ k s i j n c, LeO (trim_Inner.l1 k s i j n c) (trim_Inner.l1 (k + 1) s i j n c)
  | 0, s, i, j, n, c => fun r h => by simp [trim_Inner.l1] at h
  | k + 1, s, i, j, n, c => by
    unfold trim_Inner.l1
    exact LeO.ite (LeO.refl _) (LeO.ite (LeO.refl _) (trim_Inner.mono_l1 k s i j n _))
theorem trim_Inner.mono_l0 : ∀ k s i j half middle, LeO (trim_Inner.l0 k s i j half middle) (trim_Inner.l0 (k + 1) s i j half middle)
  | 0, s, i, j, half, middle => fun r h => by simp [trim_Inner.l0] at h
  | k + 1, s, i, j, half, middle => by
    rw [trim_Inner.l0, trim_Inner.l0]
    refine LeO.ite (LeO.bind (trim_Inner.mono_l1 k _ _ _ _ _) fun r => LeO.ite (LeO.ite (trim_Inner.mono_l0 k _ _ _ _ _) (LeO.refl _)) (LeO.ite (trim_Inner.mono_l0 k _ _ _ _ _) (LeO.refl _))) (LeO.refl _)
theorem trim_Inner.mono : ∀ a0 k, LeO (trim_Inner.f k a0) (trim_Inner.f (k + 1) a0) := by
  intro a0 k
  unfold trim_Inner.f
  exact LeO.bind (LeO.refl _) fun t => LeO.ite (LeO.bind (trim_Inner.mono_l0 k _ _ _ _ _) fun _ => LeO.refl _) (LeO.refl _)
theorem lastByte_piece (s : ByteArray) (c : Int) : -1 ≤ Lib.lastIndexByte s c ∧ Lib.lastIndexByte s c < s.size := by
  unfold Lib.lastIndexByte
  rcases Lib.lastIdx_spec s c s.size with ⟨h, _⟩ | ⟨i, hi, h, _⟩ <;> rw [h] <;> omega
def pI (s : ByteArray) (i j c : Int) : Int := Lib.indexByte (s.extract i.toNat j.toNat).data.toList c.toNat.toUInt8
def qI (s : ByteArray) (i j c : Int) : Int := Lib.lastIndexByte (s.extract i.toNat j.toNat) c
theorem pI_range (s : ByteArray) {i j : Int} (h0 : 0 ≤ i) (hj : j ≤ s.size) (hij : i ≤ j) (c : Int) : -1 ≤ pI s i j c ∧ (pI s i j c = -1 ∨ i + pI s i j c < j) := by
  unfold pI
  rcases Lib.indexByte_piece s i.toNat j.toNat c.toNat.toUInt8 with h | ⟨o, h, h2⟩ <;> rw [h] <;> omega
theorem qI_range (s : ByteArray) {i j : Int} (h0 : 0 ≤ i) (hj : j ≤ s.size) (hij : i ≤ j) (c : Int) : -1 ≤ qI s i j c ∧ (qI s i j c = -1 ∨ i + qI s i j c < j) := by
  unfold qI
  have := lastByte_piece (s.extract i.toNat j.toNat) c
  rw [ByteArray.size_extract] at this
  omega
theorem idx71 (s : ByteArray) (i j c : Int) (w : World) : Calls Try.prog 71 #[.string (s.extract i.toNat j.toNat), .int .u8 c] w fun e w' => e = .returned (.int .i64 (pI s i j c)) ∧ w' = w := Any.strings_IndexByte Try.lays137 _ _ _
theorem idx72 (s : ByteArray) (hs : s.size ≤ 100) (i j c : Int) (w : World) : Calls Try.prog 72 #[.string (s.extract i.toNat j.toNat), .int .u8 c] w fun e w' => e = .returned (.int .i64 (qI s i j c)) ∧ w' = w := Any.strings_LastIndexByte Try.lays149 _ _ (by rw [ByteArray.size_extract]; omega) _
theorem l1_succ (k : Nat) (s : ByteArray) (i j n c : Int) : trim_Inner.l1 (k + 1) s i j n c = if n = 1 ∧ 0 ≤ pI s i j c then some (c, j, j, true) else if pI s i j c < qI s i j c ∧ 2 + lqI s (i + pI s i j c + 1) (i + qI s i j c) = n then some (c, i + pI s i j c + 1, i + qI s i j c, false) else trim_Inner.l1 k s i j n ((c + 1) % 256) := rfl
theorem make70' (s : ByteArray) (w w1 : World) (hb1 : Below w.heap.size w w1) : Calls Try.prog 70 #[.string s] w1 fun e w' => ∃ b, e = .returned (LF (b + 2) (b + 3) b) ∧ InAt s w b (.slice none 0 0) [] w' :=
  (make70 s w1).mono fun e w' h => ⟨w1.heap.size, h.1, h.2.M, Kd.R_nil _ _ _ _ _, below_step hb1 h.2.HB, h.2.HZ, Nat.le_trans hb1.size (Nat.le_refl _)⟩
theorem grown_below {W W1 : World} (h : Below W.heap.size W W1) : W.grownBy W1 none := ⟨h.os, h.tape, h.output, h.size, fun k hk _ => h.block k hk⟩
theorem InAt.below' {s : ByteArray} {w : World} {b : Nat} {v : Value} {half : List Int} {W W1 : World} (h : InAt s w b v half W) (hb : Below W.heap.size W W1) : InAt s w b v half W1 := h.below hb (grown_below hb)
theorem InAt.cv {s : ByteArray} {w : World} {b : Nat} {v : Value} {half : List Int} {W : World} (h : InAt s w b v half W) : (convert 57 9 v).run Try.prog W = .ok (.string (strOfNums half)) W := own_string (P := Try.prog) Try.underlying57 Try.underlying5 Try.underlying9 (Kd.own_of_R h.HO)
theorem InAt.drew {s : ByteArray} {w : World} {b : Nat} {v : Value} {half : List Int} {W : World} (h : InAt s w b v half W) : InAt s w b v half W.drew := h.drewN 1


theorem cat_run (A B : ByteArray) (h : A.size + B.size ≤ 9223372036854775807) : ∀ W : World, Sem.run Try.prog (binOp .add 9 (.string A) (.string B)) W = .ok (.string (A ++ B)) W := by
  intro W
  go_simp
theorem enc_small {c : Int} (h0 : 0 ≤ c) (h1 : c < 128) : Utf8.encode c = strOfNums [c] := by
  obtain ⟨n, rfl⟩ := Int.eq_ofNat_of_zero_le h0
  have hn : n < 128 := by omega
  clear h0 h1
  revert hn
  revert n
  decide +kernel
theorem rel_A {s : ByteArray} {w W W1 : World} {b : Nat} {v : Value} {half : List Int} (hI : InAt s w b v half W) (hM3 : Memo s (b + 2) (b + 3) b (b + 1) W1) (hg3 : W.grownBy W1 (some (b + 1))) : InAt s w b v half W1 := hI.call hM3 hg3
set_option maxHeartbeats 8000000 in
set_option maxRecDepth 100000 in
theorem trim_Inner.calls (k : Nat) (a0 : ByteArray) (r1 : ByteArray) (r2 : Int) (w : World) (h : trim_Inner.f k a0 = some (r1, r2)) :
    Calls Try.prog 42 #[.string a0] w fun e w' => e = .returned (.tuple #[.string r1, .int .i64 r2]) ∧ Below w.heap.size w w' := by
  unfold trim_Inner.f at h
  obtain ⟨t, A1, h⟩ := Option.bind_eq_some_iff.mp h
  have hsz := fun e : t = true => isWord_size (by rw [← e]; exact A1)
  replace A1 := Aside0.mk A1
  cases t with
  | false =>
    rw [if_neg (by decide)] at h
    simp only [Option.some.injEq, Prod.mk.injEq] at h
    obtain ⟨rfl, rfl⟩ := h
    clear hsz
    go_enter Try.func42, Try.ntmps42
    go_wp2_with (first | (go_at_call 54; (with_reducible refine (trim_isWord.calls a0 false _ A1.out).mono ?_); rintro e w1 ⟨rfl, hb1⟩))
    go_ret2
    exact ⟨rfl, hb1⟩
  | true =>
    rw [if_pos rfl] at h
    obtain ⟨⟨halfR, midR⟩, hl0, h⟩ := Option.bind_eq_some_iff.mp h
    obtain ⟨u, hu, h⟩ := Option.bind_eq_some_iff.mp h
    simp only [Option.some.injEq, Prod.mk.injEq] at h
    obtain ⟨hr1, rfl⟩ := h
    replace hr1 := Aside0.mk hr1
    replace hu := Aside0.mk hu
    replace hl0 := Aside0.mk hl0
    have hs := hsz rfl
    have hs9 := Aside0.mk hs
    have hLl : lqI a0 0 a0.size = lqI a0 0 a0.size := rfl
    clear hsz
    go_enter Try.func42, Try.ntmps42
    go_wp2_with (first
      | (go_at_call 54; (with_reducible refine (trim_isWord.calls a0 true _ A1.out).mono ?_); rintro e w1 ⟨rfl, hb1⟩)
      | (go_at_call 70; (with_reducible refine (make70' a0 w _ hb1).mono ?_); rintro e w2 ⟨b, rfl, hIn⟩; replace hIn := Aside0.mk hIn; clear hb1; unfold LF)
      | (go_at_call 86; (with_reducible refine (sub86 a0 hs9.out _ _ _ _ _ _ _ _ (by omega) (by omega) (Nat.le_refl _) hIn.out.M).mono ?_); rintro e w3 ⟨rfl, hM3, hg3⟩))
    have hIn3 := Aside0.mk (hIn.out.call hM3 hg3)
    clear hM3 hg3 hIn
    clear hs
    go_loopg [5, 6, 7, 8, 9] k (fun kq v5 v6 v7 v8 v9 W => ∃ (half : List Int) (middle : ByteArray) (i j n : Int), v6 = .string middle ∧ v7 = .int .i64 i ∧ v8 = .int .i64 j ∧ v9 = .int .i64 n ∧ 0 ≤ i ∧ i ≤ j ∧ j ≤ a0.size ∧ half.length ≤ 200 ∧ middle.size ≤ 1 ∧ Aside0 (n = lqI a0 i j) ∧ Aside0 (trim_Inner.l0 kq a0 i j half middle = some (halfR, midR)) ∧ Aside0 (kq ≤ k) ∧ Aside0 (InAt a0 w b v5 half W))
    case atStart => exact ⟨[], ⟨#[]⟩, 0, a0.size, _, rfl, rfl, rfl, rfl, Int.le_refl _, by omega, Int.le_refl _, by simp, by decide, ⟨rfl⟩, hl0, ⟨Nat.le_refl _⟩, hIn3⟩
    case round =>
      clear hl0 hIn3
      obtain ⟨half, middle, i, j, n, rfl, rfl, rfl, rfl, h0, hij, hj, hlh, hlm, hn, HA, HK, HI⟩ := hrel
      cases gk with
      | zero => exact absurd HA.out (by simp [trim_Inner.l0])
      | succ k1 =>
        have H := HA.out
        clear HA
        rw [trim_Inner.l0, ← hn.out] at H
        by_cases c1 : 0 < n
        · rw [if_pos c1] at H
          have c1b : decide (0 < n) = true := decide_eq_true c1
          obtain ⟨⟨c9, i9, j9, t9⟩, hl1, H⟩ := Option.bind_eq_some_iff.mp H
          have H9 := Aside0.mk H
          replace hl1 := Aside0.mk hl1
          clear H
          go_wp2
          go_loopg [5, 6, 7, 8, 10] k1 (fun kq v5 v6 v7 v8 v10 W => ∃ (c : Int), v5 = u5 ∧ v6 = .string middle ∧ v7 = .int .i64 i ∧ v8 = .int .i64 j ∧ v10 = .int .u8 c ∧ 0 ≤ c ∧ c < 256 ∧ Aside0 (trim_Inner.l1 kq a0 i j n c = some (c9, i9, j9, t9)) ∧ Aside0 (kq ≤ k1) ∧ Aside0 (InAt a0 w b u5 half W))
          case atStart => exact ⟨97, rfl, rfl, rfl, rfl, rfl, by decide, by decide, hl1, ⟨Nat.le_refl _⟩, HI⟩
          case round =>
            clear hl1 HI
            obtain ⟨c, rfl, rfl, rfl, rfl, rfl, hc0, hc1, HA, HK2, HI⟩ := hrel
            cases gk with
            | zero => exact absurd HA.out (by simp [trim_Inner.l1])
            | succ k2 =>
              have H := HA.out
              clear HA
              have hp := pI_range a0 h0 hj hij c
              have hq := qI_range a0 h0 hj hij c
              have hsz9 := hs9.out
              have hjx := Aside0.mk hj
              have q1 := eq_true h0
              have q2 := eq_true hij
              have q3 := eq_true hj
              go_wp2
              go_quiet (first
                | (go_at_call 71; refine Calls.quiet_of_same (idx71 a0 i j c _))
                | (go_at_call 72; refine Calls.quiet_of_same (idx72 a0 hs9.out i j c _)))
              have HI := Aside0.mk (HI.out.drewN nq)
              rw [l1_succ] at H
              obtain ⟨p, hpe⟩ : ∃ p, p = pI a0 i j c := ⟨_, rfl⟩
              obtain ⟨q, hqe⟩ : ∃ q, q = qI a0 i j c := ⟨_, rfl⟩
              rw [← hpe] at hp H ⊢
              rw [← hqe] at hq H ⊢
              clear hpe hqe q1 q2 q3 hjx
              have hi9 := InAt.hb HI.out
              clear hi9
              replace hsz9 := Aside0.mk hsz9
              have hn0 : n = 1 → True := fun _ => trivial
              clear hn0
              obtain ⟨R, hR⟩ : ∃ R, R = lqI a0 (i + p + 1) (i + q) := ⟨_, rfl⟩
              have hRr : 0 ≤ R ∧ R ≤ 100 := by
                have := lqI_range a0 (i + p + 1) (i + q)
                have := hsz9.out
                rw [hR]
                omega
              rw [← hR] at H
              replace hR := Aside0.mk hR
              have hS : (a0.size : Int) ≤ 100 := by have := hsz9.out; omega
              have hw1 : IntKind.i64.wrap (i + p) = i + p := (i64_w _).trans (pw64 (by omega) (by omega))
              have hw2 : IntKind.i64.wrap (i + p + 1) = i + p + 1 := (i64_w _).trans (pw64 (by omega) (by omega))
              have hw3 : IntKind.i64.wrap (i + q) = i + q := (i64_w _).trans (pw64 (by omega) (by omega))
              have hw4 : IntKind.i64.wrap (2 + R) = 2 + R := (i64_w _).trans (pw64 (by omega) (by omega))
              have hab : 0 ≤ i + p + 1 ∧ i + q ≤ a0.size ∧ (p < q → i + p + 1 ≤ i + q) := by omega
              replace hab := Aside0.mk hab
              have hbd := Aside0.mk (And.intro h0 (And.intro hij hj))
              have hcall : ∀ W, Memo a0 (b + 2) (b + 3) b (b + 1) W → Calls Try.prog 86 #[.int .i64 (i + p + 1), .int .i64 (i + q), .pointer (some ⟨b + 2, 0, none⟩), .pointer (some ⟨b + 3, 0, none⟩), .pointer (some ⟨b, 0, none⟩)] W (SubPost a0 (b + 2) (b + 3) b (b + 1) W R) := by
                intro W hW
                rw [hR.out]
                exact sub86 a0 hsz9.out _ _ _ _ _ _ _ _ hab.out.1 hab.out.2.1 (Nat.le_refl _) hW
              replace hcall := Aside0.mk hcall
              by_cases cA : n = 1 ∧ 0 ≤ p
              · rw [if_pos cA] at H
                simp only [Option.some.injEq, Prod.mk.injEq] at H
                obtain ⟨rfl, rfl, rfl, rfl⟩ := H
                have H10 := H9.out
                rw [if_pos rfl] at H10
                have d1 : (n == 1) = true := beq_iff_eq.mpr cA.1
                have d2 : decide (0 ≤ p) = true := decide_eq_true cA.2
                clear cA hp hq hRr hS h0 hij hj hw1 hw2 hw3 hw4
                try dsimp only at H10
                by_cases c128 : c < 128
                · rw [if_pos c128] at H10
                  replace H10 := Aside0.mk H10
                  have H9 := 0
                  go_wp2_with (first
                    | (go_at_call 86; (with_reducible refine (sub86 a0 hs9.out _ _ _ _ _ _ _ _ (Int.le_trans hbd.out.1 hbd.out.2.1) hbd.out.2.2 (Nat.le_refl _) HI.out.M).mono ?_); rintro e w3 ⟨rfl, hM3, hg3⟩))
                  rw [enc_small hc0 c128]
                  go_roundg k1
                  case measure => have := HK.out; omega
                  case rel => exact ⟨half, _, j, j, _, rfl, rfl, rfl, rfl, Int.le_trans hbd.out.1 hbd.out.2.1, Int.le_refl _, hbd.out.2.2, hlh, by rw [strOfNums_size]; exact Nat.le_refl 1, ⟨rfl⟩, H10, ⟨by have := HK.out; omega⟩, ⟨HI.out.call hM3 hg3⟩⟩
                · rw [if_neg c128] at H10
                  cases H10
              · rw [if_neg cA] at H
                have hB : (n == 1) = false ∨ ((n == 1) = true ∧ decide (0 ≤ p) = false) := by
                  by_cases e : n = 1
                  · exact .inr ⟨beq_iff_eq.mpr e, decide_eq_false (fun e2 => cA ⟨e, e2⟩)⟩
                  · exact .inl (beq_eq_false_iff_ne.mpr e)
                clear cA hp hq hS h0 hij hj
                by_cases c3 : p < q ∧ 2 + R = n
                · rw [if_pos c3] at H
                  simp only [Option.some.injEq, Prod.mk.injEq] at H
                  obtain ⟨rfl, rfl, rfl, rfl⟩ := H
                  have H10 := H9.out
                  rw [if_neg (by decide)] at H10
                  have d3 : decide (p < q) = true := decide_eq_true c3.1
                  have d4 : (2 + R == n) = true := beq_iff_eq.mpr c3.2
                  have hord := hab.out.2.2 c3.1
                  replace hord := Aside0.mk hord
                  clear c3 hRr
                  by_cases c200 : half.length < 200
                  · rw [if_pos c200] at H10
                    replace H10 := Aside0.mk H10
                    clear H9
                    replace c200 := Aside0.mk c200
                    rcases hB with d1 | ⟨d1, d2⟩
                    all_goals
                      go_wp2_with (first
                        | (go_at_call 86; (with_reducible refine (hcall.out _ HI.out.M).mono ?_); rintro e w3 ⟨rfl, hM3, hg3⟩; have hI3 := Aside0.mk (HI.out.call hM3 hg3); clear hM3 hg3)
                        | ((with_reducible refine gate_builtin (b := .append) (xs := #[.tmp 71, .tmp 73]) rfl ?_); at_builtin; refine Kd.R_append (Kd.int .u8) (w0 := w) w.heap.size rfl (.tmp 71) (.tmp 73) 57 5 (.int .u8 0) 1 rfl Try.underlying57 info5 rfl (by decide) (by decide) u5 half c [.int .u8 c] (fun q => b + 4 ≤ q) (fun _ => False) rfl rfl rfl (fun _ hk => hk.elim) (fun q hq => Nat.le_trans hI3.out.HZ hq) hI3.out.HO hI3.out.HB hI3.out.HB.size (by have := c200.out; omega) ?_; intro v5 w5 ho5 hb5 hg5 hat5; have hI5 := Aside0.mk (hI3.out.grow ho5 hb5 hg5); clear ho5 hb5 hg5 hat5)
                        | (go_at_call 86; (with_reducible refine (hcall.out _ hI5.out.M).mono ?_); rintro e w6 ⟨rfl, hM6, hg6⟩; have hI6 := Aside0.mk (hI5.out.call hM6 hg6); clear hM6 hg6))
                      go_roundg k1
                      case measure => have := HK.out; omega
                      case rel => exact ⟨half ++ [c], middle, _, _, _, rfl, rfl, rfl, rfl, hab.out.1, hord.out, hab.out.2.1, by rw [List.length_append]; have := c200.out; simp; omega, hlm, ⟨hR.out⟩, H10, ⟨by have := HK.out; omega⟩, hI6⟩
                  · rw [if_neg c200] at H10
                    cases H10
                · rw [if_neg c3] at H
                  replace H := Aside0.mk H
                  have hC : decide (p < q) = false ∨ (decide (p < q) = true ∧ (2 + R == n) = false) := by
                    by_cases e : p < q
                    · exact .inr ⟨decide_eq_true e, beq_eq_false_iff_ne.mpr (fun e2 => c3 ⟨e, e2⟩)⟩
                    · exact .inl (decide_eq_false e)
                  clear c3 hRr
                  have hm0 : 0 ≤ (c + 1) % 256 ∧ (c + 1) % 256 < 256 := by omega
                  replace hm0 := Aside0.mk hm0
                  rcases hB with d1 | ⟨d1, d2⟩
                  all_goals
                    rcases hC with d3 | ⟨d3, d4⟩
                    · go_wp2
                      go_roundg k2
                      case measure => have := HK.out; have := HK2.out; omega
                      case rel => exact ⟨_, rfl, rfl, rfl, rfl, rfl, hm0.out.1, hm0.out.2, H, ⟨by have := HK2.out; omega⟩, HI⟩
                    · go_wp2_with (first
                        | (go_at_call 86; (with_reducible refine (hcall.out _ HI.out.M).mono ?_); rintro e w3 ⟨rfl, hM3, hg3⟩; have hI3 := Aside0.mk (HI.out.call hM3 hg3); clear hM3 hg3))
                      go_roundg k2
                      case measure => have := HK.out; have := HK2.out; omega
                      case rel => exact ⟨_, rfl, rfl, rfl, rfl, rfl, hm0.out.1, hm0.out.2, H, ⟨by have := HK2.out; omega⟩, hI3⟩
        · rw [if_neg c1] at H
          have c1b : decide (0 < n) = false := decide_eq_false c1
          clear c1
          simp only [Option.some.injEq, Prod.mk.injEq] at H
          obtain ⟨rfl, rfl⟩ := H
          have husz : u.size = half.length := by
            have := hu.out
            unfold trim_turned.f at this
            rw [strOfNums_size, if_pos (by omega)] at this
            have := congrArg ByteArray.size (Option.some.inj this)
            rw [strOfNums_size, List.length_reverse, numsOf_length, strOfNums_size] at this
            exact this.symm
          have hsz1 := strOfNums_size half
          obtain ⟨S, hS⟩ : ∃ S, S = strOfNums half := ⟨_, rfl⟩
          have hcv : ∀ W, InAt a0 w b u5 half W → (convert 57 9 u5).run Try.prog W = .ok (.string S) W := fun W h => by rw [hS]; exact h.cv
          rw [← hS] at hsz1 hu hr1
          have f1 : (S.size + middle.size ≤ 9223372036854775807) = True := eq_true (by omega)
          have f2 : (S.size + middle.size + u.size ≤ 9223372036854775807) = True := eq_true (by omega)
          have f3 : (9223372036854775807 < (S.size : Int) + middle.size) = False := eq_false (by omega)
          have f4 : (9223372036854775807 < (S.size : Int) + middle.size + u.size) = False := eq_false (by omega)
          have f5 : (9223372036854775807 < S.size + middle.size) = False := eq_false (by omega)
          have f6 : (9223372036854775807 < S.size + middle.size + u.size) = False := eq_false (by omega)
          have f7 : ∀ W : World, Sem.run Try.prog (binOp .add 9 (.string S) (.string middle)) W = .ok (.string (S ++ middle)) W := cat_run S middle (by omega)
          have f8 : ∀ W : World, Sem.run Try.prog (binOp .add 9 (.string (S ++ middle)) (.string u)) W = .ok (.string (S ++ middle ++ u)) W := cat_run (S ++ middle) u (by rw [ByteArray.size_append]; omega)
          have hE := HI.out.drew
          clear hsz1 husz hS hlh hlm
          replace hcv := Aside0.mk hcv
          go_wp2
          go_region_held3 (fun W => (convert 57 9 u5).run Try.prog W = .ok (.string S) W ∧ InAt a0 w b u5 half W)
            (first
              | exact ⟨hcv.out _ hE, hE⟩
              | (go_split_ands; exact ⟨hcv.out _ (InAt.below' (by assumption) hb7), InAt.below' (by assumption) hb7⟩)
              | go_keep)
            ((first | (go_at_call 73; (try go_split_ands); (with_reducible refine (trim_turned.calls _ u _ hu.out).mono ?_); rintro e w7 ⟨rfl, hb7⟩)))
          have hEnd : Below w.heap.size w w7 := by go_split_ands; exact InAt.HB (by assumption)
          obtain rfl := hr1.out
          go_wp2
          go_ret2
          exact ⟨rfl, hEnd⟩
end Go.Proofs.Ytbdlhgdfnnbjiaa.PY
