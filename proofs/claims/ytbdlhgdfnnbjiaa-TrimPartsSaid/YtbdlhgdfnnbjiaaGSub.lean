/- The closure of trim.inner: it calls itself, and keeps what it knows in a map. -/
import Derived.Test.YtbdlhgdfnnbjiaaGMemo
import Derived.Maps.OwnOps
import Derived.Deep.RegionHeld3
namespace Go.Proofs.Ytbdlhgdfnnbjiaa.PY
open Go.RowKit Go.Shelf Go.Maps Go.Proofs.YtbdlhgdfnnbjiaaW.PrintWords Go.Proofs.YtbdlhgdfnnbjiaaW.PrintLast Go.Proofs.YtbdlhgdfnnbjiaaW.PrintMore
attribute [local go_sem] max2_int max_two
set_option linter.unusedVariables false
set_option linter.unusedSimpArgs false
def LF (kb lb sb : Nat) : Value := .func (.func 86) #[] #[.pointer (some ⟨kb, 0, none⟩), .pointer (some ⟨lb, 0, none⟩), .pointer (some ⟨sb, 0, none⟩)]
/-- The memo and the variables of the closure. -/
structure Memo (s : ByteArray) (kb lb sb mb : Nat) (W : World) : Prop where
  K : W.heap[kb]? = some (.cells #[.map (some mb)] 82 (0, 0))
  L : W.heap[lb]? = some (.cells #[LF kb lb sb] 39 (0, 0))
  S : W.heap[sb]? = some (.cells #[.string s] 9 (0, 0))
  M : ∃ D, W.ownsMap Try.prog 83 (plainElem (H := Unit) Try.prog 3) mb (Maps.size D) D ∧ Good s D
theorem own_size {W : World} {mb n : Nat} {D : DataW Unit} (h : W.ownsMap Try.prog 83 (plainElem (H := Unit) Try.prog 3) mb n D) : W.ownsMap Try.prog 83 (plainElem (H := Unit) Try.prog 3) mb (Maps.size D) D := by
  obtain ⟨es, clock, hb, Ft, hs, hD⟩ := h
  refine ⟨es, clock, hb, Ft, ?_, hD⟩
  rw [hD]
  show es.size ≤ (List.foldr DataW.insert [] _).length
  rw [length_sorted]
  simp
theorem Memo.kept {s : ByteArray} {kb lb sb mb : Nat} {W W' : World} (h : Memo s kb lb sb mb W) (hg : W.grownBy W' none) : Memo s kb lb sb mb W' := by
  obtain ⟨D, hD, hG⟩ := h.M
  exact ⟨(hg.block _ (blk_lt h.K) (by simp)).trans h.K, (hg.block _ (blk_lt h.L) (by simp)).trans h.L, (hg.block _ (blk_lt h.S) (by simp)).trans h.S, D, hD.kept hg (by simp), hG⟩
theorem grownBy_none {W W' : World} {r : Option Nat} (h : W.grownBy W' none) : W.grownBy W' r := ⟨h.1, h.2, h.3, h.4, fun k hk _ => h.5 k hk (by simp)⟩
theorem zero3 (w : World) : (zeroValue 3).run Try.prog w = .ok (.int .i64 0) w := by kernel_rfl
/-- The world within a call of the closure: its memo, its own box, and nothing else has turned. -/
structure At (s : ByteArray) (kb lb sb mb g : Nat) (i j : Int) (w W : World) : Prop where
  M : Memo s kb lb sb mb W
  G : w.grownBy W (some mb)
  B : W.heap[g]? = some (.cells #[.int .i64 i, .int .i64 j] 83 (0, 0))
theorem At.drew {s : ByteArray} {kb lb sb mb g : Nat} {i j : Int} {w W : World} (h : At s kb lb sb mb g i j w W) : At s kb lb sb mb g i j w W.drew := by
  obtain ⟨D, hD, hG⟩ := h.M.M
  exact ⟨⟨h.M.K, h.M.L, h.M.S, D, hD.drew, hG⟩, ⟨h.G.1, h.G.2, h.G.3, h.G.4, h.G.5⟩, h.B⟩
theorem At.drewN {s : ByteArray} {kb lb sb mb g : Nat} {i j : Int} {w W : World} (h : At s kb lb sb mb g i j w W) (n : Nat) : At s kb lb sb mb g i j w (W.drewN n) := by
  obtain ⟨D, hD, hG⟩ := h.M.M
  exact ⟨⟨h.M.K, h.M.L, h.M.S, D, hD, hG⟩, ⟨h.G.1, h.G.2, h.G.3, h.G.4, h.G.5⟩, h.B⟩
theorem At.call {s : ByteArray} {kb lb sb mb g : Nat} {i j : Int} {w W W1 : World} (hgm : g ≠ mb) (h : At s kb lb sb mb g i j w W) (hM : Memo s kb lb sb mb W1) (hg : W.grownBy W1 (some mb)) : At s kb lb sb mb g i j w W1 :=
  ⟨hM, h.G.trans hg, (hg.block g (blk_lt h.B) (by simpa using hgm)).trans h.B⟩
theorem Memo.ne {s : ByteArray} {kb lb sb mb : Nat} {W : World} (h : Memo s kb lb sb mb W) : kb ≠ mb ∧ lb ≠ mb ∧ sb ≠ mb := by
  obtain ⟨D, ⟨es, clock, hb, _⟩, _⟩ := h.M
  refine ⟨fun e => ?_, fun e => ?_, fun e => ?_⟩
  · have := h.K; rw [e, hb] at this; cases this
  · have := h.L; rw [e, hb] at this; cases this
  · have := h.S; rw [e, hb] at this; cases this
theorem Memo.put {s : ByteArray} {kb lb sb mb n : Nat} {W W1 : World} {D : DataW Unit} (h : Memo s kb lb sb mb W) (hg : W.grownBy W1 (some mb)) (hown : W1.ownsMap Try.prog 83 (plainElem (H := Unit) Try.prog 3) mb n D) (hG : Good s D) : Memo s kb lb sb mb W1 := by
  obtain ⟨n1, n2, n3⟩ := h.ne
  exact ⟨(hg.block _ (blk_lt h.K) (by simpa using n1)).trans h.K, (hg.block _ (blk_lt h.L) (by simpa using n2)).trans h.L, (hg.block _ (blk_lt h.S) (by simpa using n3)).trans h.S, D, own_size hown, hG⟩
theorem At.cell {s : ByteArray} {kb lb sb mb g : Nat} {i j : Int} {w W : World} (h : At s kb lb sb mb g i j w W) : W.cell? ⟨lb, 0, none⟩ = some (.func (.func 86) #[] #[.pointer (some ⟨kb, 0, none⟩), .pointer (some ⟨lb, 0, none⟩), .pointer (some ⟨sb, 0, none⟩)]) := (blk_cell h.M.L 0).trans rfl
theorem pairL_key (i j : Int) : WideAt.IsKeyLit (pairL i j) := (show WideAt.IsKeyLit (.string _) from trivial)
/-- What the closure promises. -/
def SubPost (s : ByteArray) (kb lb sb mb : Nat) (W : World) (r : Int) (e : Ending) (W' : World) : Prop := e = .returned (.int .i64 r) ∧ Memo s kb lb sb mb W' ∧ W.grownBy W' (some mb)
set_option maxHeartbeats 4000000 in
set_option maxRecDepth 100000 in
theorem sub86_no (s : ByteArray) (kb lb sb mb : Nat) (i j : Int) (w : World) (h : ¬ i < j) (hM : Memo s kb lb sb mb w) :
    Calls Try.prog 86 #[.int .i64 i, .int .i64 j, .pointer (some ⟨kb, 0, none⟩), .pointer (some ⟨lb, 0, none⟩), .pointer (some ⟨sb, 0, none⟩)] w (SubPost s kb lb sb mb w (lqI s i j)) := by
  rw [lqI_ge h]
  have hM := Aside0.mk hM
  go_enter Try.func86, Try.ntmps86
  go_wp2
  go_ret
  exact ⟨rfl, hM.out, ⟨rfl, rfl, rfl, Nat.le_refl _, fun _ _ _ => rfl⟩⟩
set_option maxHeartbeats 4000000 in
set_option maxRecDepth 100000 in
theorem sub86 (s : ByteArray) (hs : s.size ≤ 100) (kb lb sb mb : Nat) : ∀ (d : Nat) (i j : Int) (w : World), 0 ≤ i → j ≤ s.size → (j - i).toNat ≤ d → Memo s kb lb sb mb w →
    Calls Try.prog 86 #[.int .i64 i, .int .i64 j, .pointer (some ⟨kb, 0, none⟩), .pointer (some ⟨lb, 0, none⟩), .pointer (some ⟨sb, 0, none⟩)] w (SubPost s kb lb sb mb w (lqI s i j)) := by
  intro d
  induction d with
  | zero => intro i j w h0 h1 hd hM; exact sub86_no s kb lb sb mb i j w (by omega) hM
  | succ d ih =>
    intro i j w h0 h1 hd hM
    by_cases hij : i < j
    · obtain ⟨D, hown, hG⟩ := hM.M
      have hsz := good_size hs (hown.canon keyed83) hG
      have hkey := keyOf_pairV (wf64 h0 (by omega)) (wf64 (i := j) (by omega) (by omega))
      have hK := hM.K
      have hc1 := blk_cell hK 0
      simp at hc1
      have hMl := blk_lt hK
      have hown' := hown.alloc (.cells #[.int .i64 i, .int .i64 j] 83 (0, 0))
      have hkey := Aside0.mk hkey
      have hown := Aside0.mk hown
      have hown' := Aside0.mk hown'
      have hM := Aside0.mk hM
      have hG := Aside0.mk hG
      clear hK
      cases hsn : has D (pairL i j) with
      | true =>
        have hat0 := Aside0.mk (good_at hs hG.out h0 hij h1 hsn)
        go_enter Try.func86, Try.ntmps86
        go_wp2_with (first
          | (at_lookup; refine wpList_lookup_own_ok_int _ rfl _ _ 82 rfl 83 3 .i64 keyed83 Try.underlying82 Try.underlying3 (zero3 _) mb (Maps.size D) D rfl hown'.out _ _ rfl hkey.out ?_; intro c hat hwc; rw [hsn])
          | (at_lookup; refine wpList_lookup_own_int _ rfl _ _ 82 rfl 83 3 .i64 keyed83 Try.underlying82 Try.underlying3 (zero3 _) mb (Maps.size D) D rfl hown'.out _ _ rfl hkey.out ?_; intro c2 hat2 hwc2)
          | go_in)
        obtain rfl : c2 = lqI s i j := by have := hat2.symm.trans hat0.out; simpa using this
        go_ret
        have hg := World.grownBy_alloc w (.cells #[.int .i64 i, .int .i64 j] 83 (0, 0)) none
        exact ⟨rfl, hM.out.kept hg, grownBy_none hg⟩
      | false =>
        by_cases hij2 : i + 1 < j
        · have hstep := lqI_step (s := s) h0 hij2
          obtain ⟨g, hg⟩ : ∃ g, g = w.heap.size := ⟨_, rfl⟩
          have hgA := World.grownBy_alloc w (.cells #[.int .i64 i, .int .i64 j] 83 (0, 0)) none
          have hMA := hM.out.kept hgA
          have hBox : (w.alloc (.cells #[.int .i64 i, .int .i64 j] 83 (0, 0))).heap[g]? = some (.cells #[.int .i64 i, .int .i64 j] 83 (0, 0)) := by rw [hg]; exact blk_new w _
          have hstep := Aside0.mk hstep
          have hLA := blk_cell hMA.L 0
          simp at hLA
          unfold LF at hLA
          have hMA := Aside0.mk hMA
          have hBox := Aside0.mk hBox
          have hgA := Aside0.mk (grownBy_none (r := some mb) hgA)
          go_enter Try.func86, Try.ntmps86
          go_wp2_with (first
            | (at_lookup; refine wpList_lookup_own_ok_int _ rfl _ _ 82 rfl 83 3 .i64 keyed83 Try.underlying82 Try.underlying3 (zero3 _) mb (Maps.size D) D rfl hown'.out _ _ rfl hkey.out ?_; intro c hat hwc; rw [hsn]))
          obtain ⟨wA, hwA⟩ : ∃ wA, wA = w.alloc (.cells #[.int .i64 i, .int .i64 j] 83 (0, 0)) := ⟨_, rfl⟩
          rw [← hg, ← hwA]
          rw [← hwA] at hLA hMA hBox hgA
          have hgm : g ≠ mb := by have := hown.out.lt; omega
          have hAt : At s kb lb sb mb g i j w wA := ⟨hMA.out, hgA.out, hBox.out⟩
          have hAtD := hAt.drew
          clear hwA hg hMA hgA hBox hLA
          have ihA := fun W hM => ih (i + 1) j W (by omega) h1 (by omega) hM
          have ihB := fun W hM => ih i (j - 1) W h0 (by omega) (by omega) hM
          have ihC := Aside0.mk (fun W hM => ih (i + 1) (j - 1) W (by omega) (by omega) (by omega) hM)
          have hw1 : IntKind.i64.wrap (i + 1) = i + 1 := (i64_w _).trans (pw64 (by omega) (by omega))
          have hw2 : IntKind.i64.wrap (j - 1) = j - 1 := (i64_w _).trans (pw64 (by omega) (by omega))
          go_region_held3 (fun W => W.cell? ⟨lb, 0, none⟩ = some (.func (.func 86) #[] #[.pointer (some ⟨kb, 0, none⟩), .pointer (some ⟨lb, 0, none⟩), .pointer (some ⟨sb, 0, none⟩)]) ∧ At s kb lb sb mb g i j w W)
            (first
              | exact ⟨hAtD.cell, hAtD⟩
              | (go_split_ands; exact ⟨(At.call hgm (by assumption) hM1 hg1).cell, At.call hgm (by assumption) hM1 hg1⟩)
              | go_keep)
            ((first
              | (go_at_call 86; (try go_split_ands); (with_reducible refine (ihA _ (At.M (by assumption))).mono ?_); rintro e w' ⟨rfl, hM1, hg1⟩)
              | (go_at_call 86; (try go_split_ands); (with_reducible refine (ihB _ (At.M (by assumption))).mono ?_); rintro e w' ⟨rfl, hM1, hg1⟩)))
          have hAt2 : At s kb lb sb mb g i j w w' := At.call hgm (by assumption) hM1 hg1
          obtain ⟨w2, hw2e⟩ : ∃ w2, w2 = w' := ⟨_, rfl⟩
          rw [← hw2e]
          rw [← hw2e] at hAt2
          have hA0 := lqI_range s (i + 1) j
          have hB0 := lqI_range s i (j - 1)
          have hC0 := lqI_range s (i + 1) (j - 1)
          have hst := hstep.out
          obtain ⟨A, hA⟩ : ∃ A, A = lqI s (i + 1) j := ⟨_, rfl⟩
          obtain ⟨B, hB⟩ : ∃ B, B = lqI s i (j - 1) := ⟨_, rfl⟩
          obtain ⟨C, hC⟩ : ∃ C, C = lqI s (i + 1) (j - 1) := ⟨_, rfl⟩
          obtain ⟨R, hR⟩ : ∃ R, R = lqI s i j := ⟨_, rfl⟩
          have ihC' := ihC.out
          rw [← hC] at ihC' hC0 hst
          rw [← hA] at hA0 hst ⊢
          rw [← hB] at hB0 hst ⊢
          have hR0 := lqI_range s i j
          rw [← hR] at hst hR0 ⊢
          have hR' := Aside0.mk hR
          have ihC' := Aside0.mk ihC'
          have hC0' : 0 ≤ C ∧ C ≤ 1000 := by omega
          obtain ⟨m1, hm1⟩ : ∃ m1, m1 = (if A < B then B else A) := ⟨_, rfl⟩
          rw [← hm1]
          have hm1x : m1 = mx A B := hm1
          rw [← hm1x] at hst
          have hm1r : 0 ≤ m1 ∧ m1 ≤ 1000 := by
            rw [hm1]
            split <;> omega
          clear hw2e hA hB hC hR hm1 hm1x hA0 hB0 hC0 ih ihA ihB ihC hstep hAt hAtD hM hG hown' hown hsn hsz
          have hst := Aside0.mk hst
          clear hstep hgA hMA hBox hM hown hG hown' hw1 hc1 hMl
          have hcS := blk_cell hAt2.M.S 0
          simp at hcS
          have hcL := hAt2.cell
          have hi1 : i < (s.size : Int) := Int.lt_of_lt_of_le hij h1
          clear hw2
          obtain ⟨q, hqe⟩ : ∃ q, q = j - 1 := ⟨_, rfl⟩
          have ihC2 := ihC'.out
          have hst9 := hst.out
          rw [← hqe] at ihC2 hst9
          have ihC9 := Aside0.mk ihC2
          have hj0 : 0 ≤ q := by rw [hqe]; exact Int.le_sub_right_of_add_le (Int.le_trans (Int.add_le_add_right h0 1) (Int.le_of_lt hij2))
          have hj1 : q < (s.size : Int) := by rw [hqe]; exact Int.lt_of_lt_of_le (Int.sub_one_lt_of_le (Int.le_refl j)) h1
          obtain rfl : j = q + 1 := by rw [hqe]; exact (Int.sub_add_cancel j 1).symm
          have hwq : IntKind.i64.wrap q = q := (i64_w _).trans (pw64 (Int.le_trans (by decide) hj0) (Int.le_trans (Int.le_of_lt hj1) (by have := hs; omega)))
          clear hqe ihC2 hst ihC'
          have bt1 := bt_at s i
          have bt2 := bt_at s q
          have hAt2 := Aside0.mk hAt2
          have p1 := eq_true h0
          have p2 := eq_true hi1
          have p3 := eq_true hj0
          have p4 := eq_true hj1
          by_cases hq : bt s i = bt s q
          · have hqb : (bt s i == bt s q) = true := by simpa using hq
            rw [if_pos hq] at hst9
            have hst9 := Aside0.mk hst9
            clear hq
            go_wp2
            go_quiet (fail)
            clear bt1 bt2 hwq p1 p2 p3 p4 hqb hj0 hj1
            have hAtD := Aside0.mk (hAt2.out.drewN nq)
            have hV : (if m1 < 2 + C then 2 + C else m1) = lqI s i (q + 1) := by
              have h1 := hst9.out
              have h2 := hR'.out
              rw [← h2, h1]
              rfl
            have hV := Aside0.mk hV
            go_wp2_with (first
              | (go_at_call 86; (with_reducible refine (ihC9.out _ hAtD.out.M).mono ?_); rintro e w4 ⟨rfl, hM4, hg4⟩; have hAt4 := Aside0.mk (At.call hgm hAtD.out hM4 hg4); clear hM4 hg4 hAtD hAt2 hcS hcL; obtain ⟨D4, hown4, hG4⟩ := hAt4.out.M.M; have c1 := blk_cell hAt4.out.M.K 0; have c2 := blk_cell hAt4.out.B 0; have c3 := blk_cell hAt4.out.B 1; simp at c1 c2 c3; have hsz4 : Maps.size D4 < maxLen := (by have := good_size hs (hown4.canon keyed83) hG4; unfold maxLen; omega); have hwf := wf64 (lqI_range s i (q + 1)).1 (by have := lqI_range s i (q + 1); omega); have hown4 := Aside0.mk hown4; have hG4 := Aside0.mk hG4; have hsz4 := Aside0.mk hsz4; have hwf := Aside0.mk hwf)
              | (at_mapUpdate; refine wpList_mapUpdate_own _ rfl _ _ _ 82 rfl 83 3 keyed83 Try.underlying82 _ mb (Maps.size D4) D4 rfl hown4.out hsz4.out _ _ _ rfl rfl hkey.out _ [] (plainElem_int Try.underlying3 hwf.out) ?_; intro w5 hown5 hg5; have hM5 := Memo.put hAt4.out.M hg5 hown5 (good_put hown4.out.isMap hG4.out h0 hij h1); have hAt5 := At.call hgm hAt4.out hM5 hg5; have d1 := blk_cell hAt5.M.K 0; have d2 := blk_cell hAt5.B 0; have d3 := blk_cell hAt5.B 1; simp at d1 d2 d3; have hAt5 := Aside0.mk hAt5; have hown5 := Aside0.mk hown5; clear hM5 hg5)
              | (at_lookup; refine wpList_lookup_own_int _ rfl _ _ 82 rfl 83 3 .i64 keyed83 Try.underlying82 Try.underlying3 (zero3 _) mb (Maps.size D4 + 1) _ rfl hown5.out _ _ rfl hkey.out ?_; intro c6 hat6 hwc6; have hat6 := Aside0.mk hat6)
              | go_in)
            obtain rfl : c6 = lqI s i (q + 1) := by
              have := hat6.out
              rw [atKey_put_same hown4.out.isMap (pairL_key _ _)] at this
              simpa using this.symm
            go_ret
            exact ⟨rfl, hAt5.out.M, hAt5.out.G⟩
          · have hqb : (bt s i == bt s q) = false := by simpa using hq
            rw [if_neg hq] at hst9
            have hst9 := Aside0.mk hst9
            clear hq
            go_wp2
            go_quiet (fail)
            clear bt1 bt2 hwq p1 p2 p3 p4 hqb hj0 hj1
            have hAt4 := Aside0.mk (hAt2.out.drewN nq)
            obtain rfl : m1 = lqI s i (q + 1) := by rw [← hR'.out, hst9.out]
            clear hAt2 hcS hcL
            obtain ⟨D4, hown4, hG4⟩ := hAt4.out.M.M
            have c1 := blk_cell hAt4.out.M.K 0
            have c2 := blk_cell hAt4.out.B 0
            have c3 := blk_cell hAt4.out.B 1
            simp at c1 c2 c3
            have hsz4 : Maps.size D4 < maxLen := (by have := good_size hs (hown4.canon keyed83) hG4; unfold maxLen; omega)
            have hwf := wf64 (lqI_range s i (q + 1)).1 (by have := lqI_range s i (q + 1); omega)
            have hown4 := Aside0.mk hown4
            have hG4 := Aside0.mk hG4
            have hsz4 := Aside0.mk hsz4
            have hwf := Aside0.mk hwf
            go_wp2_with (first
              | (at_mapUpdate; refine wpList_mapUpdate_own _ rfl _ _ _ 82 rfl 83 3 keyed83 Try.underlying82 _ mb (Maps.size D4) D4 rfl hown4.out hsz4.out _ _ _ rfl rfl hkey.out _ [] (plainElem_int Try.underlying3 hwf.out) ?_; intro w5 hown5 hg5; have hM5 := Memo.put hAt4.out.M hg5 hown5 (good_put hown4.out.isMap hG4.out h0 hij h1); have hAt5 := At.call hgm hAt4.out hM5 hg5; have d1 := blk_cell hAt5.M.K 0; have d2 := blk_cell hAt5.B 0; have d3 := blk_cell hAt5.B 1; simp at d1 d2 d3; have hAt5 := Aside0.mk hAt5; have hown5 := Aside0.mk hown5; clear hM5 hg5)
              | (at_lookup; refine wpList_lookup_own_int _ rfl _ _ 82 rfl 83 3 .i64 keyed83 Try.underlying82 Try.underlying3 (zero3 _) mb (Maps.size D4 + 1) _ rfl hown5.out _ _ rfl hkey.out ?_; intro c6 hat6 hwc6; have hat6 := Aside0.mk hat6)
              | go_in)
            obtain rfl : c6 = lqI s i (q + 1) := by
              have := hat6.out
              rw [atKey_put_same hown4.out.isMap (pairL_key _ _)] at this
              simpa using this.symm
            go_ret
            exact ⟨rfl, hAt5.out.M, hAt5.out.G⟩
        · have hone := Aside0.mk (lqI_one (s := s) hij hij2)
          obtain ⟨g, hg⟩ : ∃ g, g = w.heap.size := ⟨_, rfl⟩
          have hgA := World.grownBy_alloc w (.cells #[.int .i64 i, .int .i64 j] 83 (0, 0)) none
          have hBox : (w.alloc (.cells #[.int .i64 i, .int .i64 j] 83 (0, 0))).heap[g]? = some (.cells #[.int .i64 i, .int .i64 j] 83 (0, 0)) := by rw [hg]; exact blk_new w _
          have hgm : g ≠ mb := by have := hown.out.lt; omega
          have hAt4 : At s kb lb sb mb g i j w (w.alloc (.cells #[.int .i64 i, .int .i64 j] 83 (0, 0))) := ⟨hM.out.kept hgA, grownBy_none hgA, hBox⟩
          have hAt4 := Aside0.mk hAt4
          have hwf : (Lit.int .i64 1).wf = true := wf64 (by decide) (by decide)
          have hwf := Aside0.mk hwf
          have hsz4 : Maps.size D < maxLen := by unfold maxLen; omega
          have hsz4 := Aside0.mk hsz4
          clear hgA hBox
          go_enter Try.func86, Try.ntmps86
          go_wp2_with (first
            | (at_lookup; refine wpList_lookup_own_ok_int _ rfl _ _ 82 rfl 83 3 .i64 keyed83 Try.underlying82 Try.underlying3 (zero3 _) mb (Maps.size D) D rfl hown'.out _ _ rfl hkey.out ?_; intro c hat hwc; rw [hsn])
            | (at_mapUpdate; refine wpList_mapUpdate_own _ rfl _ _ _ 82 rfl 83 3 keyed83 Try.underlying82 _ mb (Maps.size D) D rfl hown'.out hsz4.out _ _ _ rfl rfl hkey.out _ [] (plainElem_int Try.underlying3 hwf.out) ?_; intro w5 hown5 hg5; have hM5 := Memo.put hAt4.out.M hg5 hown5 (by have := good_put hown.out.isMap hG.out h0 hij h1; rw [hone.out] at this; exact this); have hAt5 := At.call hgm hAt4.out hM5 hg5; have d1 := blk_cell hAt5.M.K 0; have d2 := blk_cell hAt5.B 0; have d3 := blk_cell hAt5.B 1; rw [hg] at d2 d3; simp at d1 d2 d3; have hAt5 := Aside0.mk hAt5; have hown5 := Aside0.mk hown5; clear hM5 hg5)
            | (at_lookup; refine wpList_lookup_own_int _ rfl _ _ 82 rfl 83 3 .i64 keyed83 Try.underlying82 Try.underlying3 (zero3 _) mb (Maps.size D + 1) _ rfl hown5.out _ _ rfl hkey.out ?_; intro c6 hat6 hwc6; have hat6 := Aside0.mk hat6)
            | go_in)
          obtain rfl : c6 = 1 := by
            have := hat6.out
            rw [atKey_put_same hown.out.isMap (pairL_key _ _)] at this
            simpa using this.symm
          rw [hone.out]
          go_ret
          exact ⟨rfl, hAt5.out.M, hAt5.out.G⟩
    · exact sub86_no s kb lb sb mb i j w hij hM
end Go.Proofs.Ytbdlhgdfnnbjiaa.PY
