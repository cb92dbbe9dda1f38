/- The walk of trim.Palindromes. -/
import Derived.Test.YtbdlhgdfnnbjiaaGSorted
import Derived.Maps.OwnIn
import Derived.StringKeys
namespace Go.Proofs.Ytbdlhgdfnnbjiaa.PY
open Go.RowKit Go.Shelf Go.Sort Go.Maps Go.Proofs.YtbdlhgdfnnbjiaaW.PrintWords Go.Proofs.YtbdlhgdfnnbjiaaW.PrintLast Go.Proofs.YtbdlhgdfnnbjiaaW.PrintMore
attribute [local go_sem] Oper.semAt_some
set_option linter.unusedVariables false
set_option linter.unusedSimpArgs false
/-- The map's datum. -/
def foundD (pre : List Pt) : DataW Unit := pre.foldl (fun D x => D.put (.string x.1.2.data.toList) (.lit (.bool true))) (.map [])
theorem foundD_snoc (pre : List Pt) (x : Pt) : foundD (pre ++ [x]) = (foundD pre).put (.string x.1.2.data.toList) (.lit (.bool true)) := by simp [foundD, List.foldl_append]
theorem foundD_isMap : ∀ pre, IsMap (foundD pre) := by
  intro pre
  have : ∀ (pre : List Pt) (D : DataW Unit), IsMap D → IsMap (pre.foldl (fun D x => D.put (.string x.1.2.data.toList) (.lit (.bool true))) D) := by
    intro pre
    induction pre with
    | nil => intro D h; exact h
    | cons x pre ih => intro D h; exact ih _ (h.put _ _)
  exact this pre _ isMap_empty
theorem foundD_has (y : List UInt8) : ∀ pre : List Pt, has (foundD pre) (.string y) = true ↔ ∃ t ∈ pre, t.1.2.data.toList = y := by
  intro pre
  have : ∀ (pre : List Pt) (D : DataW Unit), IsMap D → (has (pre.foldl (fun D x => D.put (.string x.1.2.data.toList) (.lit (.bool true))) D) (.string y) = true ↔ (∃ t ∈ pre, t.1.2.data.toList = y) ∨ has D (.string y) = true) := by
    intro pre
    induction pre with
    | nil => intro D h; simp
    | cons x pre ih =>
      intro D h
      rw [List.foldl_cons, ih _ (h.put _ _)]
      by_cases e : x.1.2.data.toList = y
      · subst e
        rw [has_put_same h (show WideAt.IsKeyLit (.string _) from trivial)]
        exact ⟨fun _ => .inl ⟨x, List.mem_cons_self, rfl⟩, fun _ => .inr rfl⟩
      · rw [has_put_other (by simpa using fun h2 => e h2.symm)]
        constructor
        · rintro (⟨t, ht, e2⟩ | h2)
          · exact .inl ⟨t, List.mem_cons_of_mem _ ht, e2⟩
          · exact .inr h2
        · rintro (⟨t, ht, e2⟩ | h2)
          · rcases List.mem_cons.1 ht with rfl | ht
            · exact absurd e2 e
            · exact .inl ⟨t, ht, e2⟩
          · exact .inr h2
  have h2 := this pre (.map []) isMap_empty
  have h3 : has (.map [] : DataW Unit) (.string y) = false := rfl
  rw [h3] at h2
  simpa [foundD] using h2
theorem parts_size (s : ByteArray) (hs : s.size ≤ 100) : ∀ t ∈ partsL s, t.2.size ≤ 100 := by
  intro t ht
  unfold partsL partsU at ht
  obtain ⟨c, _, hc⟩ := List.mem_flatMap.1 ht
  have : ∀ (k : Nat) (n : Int), ∀ t ∈ partsC s c k n, t.2.size ≤ 100 := by
    intro k
    induction k with
    | zero => intro n t ht; simp [partsC] at ht
    | succ k ih =>
      intro n t ht
      simp only [partsC] at ht
      split at ht
      · rcases List.mem_cons.1 ht with rfl | ht
        · exact ext_size s hs _ _
        · exact ih _ _ ht
      · simp at ht
  exact this _ _ t hc
theorem foundD_all (s : ByteArray) (hs : s.size ≤ 100) (y : List UInt8) : has (foundD ((partsL s).map toPt)) (.string y) = true ↔ y ∈ (palSpec s).map fun y => y.data.toList := by
  rw [foundD_has, List.mem_map]
  constructor
  · rintro ⟨t, ht, e⟩
    obtain ⟨u, hu, rfl⟩ := List.mem_map.1 ht
    rw [toPt_val (parts_size s hs u hu)] at e
    exact ⟨u.2, (palSpec_mem s _).2 ⟨u, hu, rfl⟩, e⟩
  · rintro ⟨z, hz, e⟩
    obtain ⟨u, hu, rfl⟩ := (palSpec_mem s z).1 hz
    exact ⟨toPt u, List.mem_map_of_mem hu, by rw [toPt_val (parts_size s hs u hu)]; exact e⟩
/-- The keys collected, sorted, are the spec's list. -/
theorem keys_spec (s : ByteArray) (hs : s.size ≤ 100) {w : World} {b n : Nat} (hown : w.ownsMap Try.prog 9 (plainElem Try.prog 4) b n (foundD ((partsL s).map toPt))) {ss : List (List UInt8)} (h : ss.Perm (strKeys (foundD ((partsL s).map toPt)))) :
    ss.mergeSort (fun x y => !(ltOf cmpP) y x) = (palSpec s).map fun y => y.data.toList := by
  refine sort_eq (h.trans ?_)
  obtain ⟨es, hD, hp⟩ := hown.tidy (string_keyed Try.underlying9)
  obtain ⟨es', hD', hko⟩ := hown.keysOf
  obtain rfl : es = es' := by rw [hD] at hD'; simpa using hD'
  have hall := foundD_all s hs
  rw [hD] at hall ⊢
  refine (perm_strKeys hp (fun p hp => ?_) (palSpec_nodup s) (fun x => (hall x).symm)).symm
  obtain ⟨v, hv⟩ := hko p hp
  obtain ⟨x, _, e, _⟩ := Maps.keyOf_str Try.underlying9 hv
  exact ⟨x, e⟩
theorem owns_strings {w : World} {base : Nat} {v : Value} {l : List ByteArray} {ss : List (List UInt8)} (hl : ss = l.map fun y => y.data.toList) {n : Nat} (hn : n = l.length) (h : w.ownsRow base 9 1 v n (ss.map encStr)) : Kd.R Kd.string 9 w base (fun _ => True) v l := by
  refine Kd.R_of_own ?_ (fun _ _ => trivial)
  rw [← hn]
  have : ss.map encStr = encs (fun x => Value.string x) l := by
    rw [hl, List.map_map]
    unfold encs
    refine List.map_congr_left (fun y _ => ?_)
    simp [encStr]
  rw [← this]; exact h
set_option maxHeartbeats 4000000 in
set_option maxRecDepth 100000 in
theorem trim_Palindromes.calls (a0 : ByteArray) (r1 : List ByteArray) (r2 : Int) (w : World) (h : trim_Palindromes.f a0 = some (r1, r2)) :
    Calls Try.prog 33 #[.string a0] w fun e w' => ∃ v0_ : Value, e = .returned (.tuple #[v0_, .int .i64 r2]) ∧ Kd.R Kd.string 9 w' w.heap.size (fun _ => True) v0_ r1 ∧ Below w.heap.size w w' := by
  unfold trim_Palindromes.f at h
  obtain ⟨t, A1, h⟩ := Option.bind_eq_some_iff.mp h
  have hsz := fun e : t = true => isWord_size (by rw [← e]; exact A1)
  have A1 := Aside0.mk A1
  cases t with
  | false =>
    rw [if_neg (by decide)] at h
    simp only [Option.some.injEq, Prod.mk.injEq] at h
    obtain ⟨rfl, rfl⟩ := h
    clear hsz
    go_enter Try.func33, Try.ntmps33
    go_wp2_with (first | (go_at_call 54; (with_reducible refine (trim_isWord.calls a0 false _ A1.out).mono ?_); rintro e w1 ⟨rfl, hb1⟩))
    go_ret2
    exact ⟨_, rfl, Kd.R_nil _ _ _ _ _, hb1⟩
  | true =>
    rw [if_pos rfl] at h
    simp only [Option.some.injEq, Prod.mk.injEq] at h
    obtain ⟨rfl, rfl⟩ := h
    have hs := hsz rfl
    have hlen := Aside0.mk (partsL_len a0 hs)
    have hs := Aside0.mk hs
    clear hsz
    have hmm := @run_makeMap Try.prog
    refine (callsIn_wide (n := 9)).1 ?_
    refine callsIn_of_wp_marks Try.func33 rfl trivial ?_
    simp only [Try.ntmps33, List.size_toArray, List.length_cons, List.length_nil, Nat.reduceAdd, Nat.reduceSub, Array.replicate_succ, Array.replicate_zero, List.push_toArray, List.append_toArray, List.nil_append, List.cons_append]
    gi_wp2_with (first | (refine ⟨trivial, ?_⟩; gi_at_call 54; (with_reducible refine (callsIn_wide.2 (trim_isWord.calls a0 true _ A1.out)).mono ?_); rintro e w1 ⟨rfl, hb1⟩) | (refine ⟨trivial, ?_⟩; gi_at_call 61; (with_reducible refine (callsIn_wide.2 (parts_make a0 _)).mono ?_); rintro e w2 ⟨rfl, rfl⟩))
    obtain ⟨b, hb⟩ : ∃ b, b = w1.heap.size := ⟨_, rfl⟩
    obtain ⟨W0, hW0⟩ : ∃ W0, W0 = (((w1.alloc (.map #[] 0)).alloc (.cells #[.map (some b)] 59 (0, 0))).alloc (.cells #[.string a0] 9 (0, 0))) := ⟨_, rfl⟩
    rw [← hb, ← hW0]
    have Bm : W0.ownsMap Try.prog 9 (plainElem (H := Unit) Try.prog 4) b 0 (.map []) := by
      rw [hW0, hb]
      exact ((World.ownsMap_made w1 Try.prog 9 _).alloc _).alloc _
    have Bf : W0.heap[b + 1]? = some (.cells #[.map (some b)] 59 (0, 0)) := by
      rw [hW0, hb]
      have := blk_new (w1.alloc (.map #[] 0)) (.cells #[.map (some w1.heap.size)] 59 (0, 0))
      rw [World.size_alloc] at this
      exact blk_alloc this _
    have Bs : W0.heap[b + 1 + 1]? = some (.cells #[.string a0] 9 (0, 0)) := by
      rw [hW0, hb]
      have := blk_new ((w1.alloc (.map #[] 0)).alloc (.cells #[.map (some w1.heap.size)] 59 (0, 0))) (.cells #[.string a0] 9 (0, 0))
      rw [World.size_alloc, World.size_alloc] at this
      exact this
    have hS : W0.heap.size = b + 3 := by rw [hW0, hb]; simp
    have hbw : w.heap.size ≤ b := by have := hb1.size; omega
    have HB : Below w.heap.size w W0 := by rw [hW0]; exact below_alloc (below_alloc (below_alloc hb1 _) _) _
    clear hW0 hb1 hb hmm
    refine wpIn_rangeFunc_ownG rfl (by omega) (gf := 80) (lb := #[.pointer (some ⟨b + 1 + 1, 0, none⟩)]) rfl trivial (enters_of Try.func80 (by kernel_rfl) rfl)
      (parts_stops a0 hs.out _ (b + 1 + 1) W0 Bs) kpB_t (kpB_b (by omega)) (Below.refl _ _) (fun _ => rfl)
      (fun pre W => W.heap[b + 1]? = some (.cells #[.map (some b)] 59 (0, 0)) ∧ W.ownsMap Try.prog 9 (plainElem (H := Unit) Try.prog 4) b pre.length (foundD pre) ∧ Below w.heap.size w W ∧ b + 3 ≤ W.heap.size) (fun _ _ _ => False)
      (fun s A B row hs hg hr => ⟨(hg.block (b + 1) (blk_lt hs.1) (fun e => by have := (hr _ e.symm).1; omega)).trans hs.1, hs.2.1.kept hg (fun e => by have := (hr _ e.symm).1; omega), hs.2.2.1.grown hg hs.2.2.1.size (fun k e => by have := (hr _ e).1; omega), Nat.le_trans hs.2.2.2 hg.size⟩)
      (fun _ _ _ _ _ hs _ _ => hs) ⟨Bf, Bm, HB, Nat.le_of_eq hS.symm⟩
      (fun x => { tmps := #[.string a0, undef, .slice none 0 0, .int .i64 0, .pointer (some ⟨b + 1, 0, none⟩), undef, .string x.1.2, .string a0, .bool true, .bool false, .map (some b), .string a0, .func (.func 80) #[] #[.pointer (some ⟨b + 1 + 1, 0, none⟩)], .int .i64 x.1.1, .string x.1.2, undef, undef, undef, undef, undef], defers := [] }) ?assign ?body ?done ?stop
    case assign =>
      intro l x W K hK
      have hz : (#[13, 14] : Array Tmp).zip (encPt x) = #[(13, .int .i64 x.1.1), (14, .string x.1.2)] := by simp [encPt]
      rw [hz]
      gi_wp2
      exact hK
    case body =>
      rintro l pre x W ⟨B1, hown, HBW, hWz⟩ hpl
      have hSS := Aside0.mk hS
      clear hS
      have hc1 := blk_cell B1 0
      simp at hc1
      have hsz : x.1.2.size ≤ maxLen := by have := x.2; unfold maxLen; omega
      have hkey := Aside0.mk (Go.WideMaps.keyOf_string_mk Try.underlying9 hsz)
      have hpm : pre.length < maxLen := by have := hlen.out; unfold maxLen; omega
      have hpm := Aside0.mk hpm
      have hWz := Aside0.mk hWz
      have hown := Aside0.mk hown
      have B1 := Aside0.mk B1
      have HBW := Aside0.mk HBW
      clear hpl hsz
      gi_wp2_with (first | (gi_at_mapUpdate; refine wpListIn_mapUpdate_own _ rfl _ _ _ 59 rfl 9 4 (Maps.string_keyed Try.underlying9) Try.underlying59 _ b pre.length _ rfl hown.out hpm.out _ _ _ rfl rfl hkey.out _ [] (plainElem_bool Try.underlying4 true) ?_; intro w1 hown1 hgrow1) | gi_in)
      gi_wp2
      refine ⟨KeepsFrom.of_grownBy hgrow1 (fun j e => by cases e; have := hSS.out; omega), hgrow1.block (b + 1 + 1) (by have := hWz.out; omega) (fun e => by have := Option.some.inj e; omega), (hgrow1.block (b + 1) (blk_lt B1.out) (by simp)).trans B1.out, ?_, HBW.out.grown hgrow1 HBW.out.size (fun k e => by cases e; exact hbw), Nat.le_trans hWz.out hgrow1.size⟩
      rw [foundD_snoc, List.length_append]; exact hown1
    case done =>
      rintro D ys W hD rfl ⟨B1, hown, HBW, hWz⟩ hK
      have hc1 := blk_cell B1 0
      simp at hc1
      have hK := Aside0.mk hK
      have HBW := Aside0.mk HBW
      have hDW : D < W.heap.size := blk_lt hK.out
      have hbD : Aside0 (w.heap.size ≤ D) := ⟨by omega⟩
      have hD := Aside0.mk hD
      have hle := hown.size_le
      rw [List.length_map] at hle
      have hle2 := hlen.out
      have hseq : SeqGives Fence.wide 5 Try.prog 83 #[.pointer (some ⟨W.heap.size, 0, none⟩)] encStr (fun ss => ss.Perm (strKeys (foundD ((partsL a0).map toPt)))) (Maps.size (foundD ((partsL a0).map toPt))) (W.alloc (.cells #[.map (some b)] 59 (0, 0))) :=
        AnyZ.keys_gives (ρ := Try.keysL_ren) { Try.keysL with } Fence.wide _ trivial rfl (by omega) W.heap.size b _ (foundD ((partsL a0).map toPt)) _ (by simp) (by simp) (hown.alloc _)
      have cK : ∀ mb V, CallsIn Fence.wide 8 Try.prog 63 #[.map mb] V fun e w' => e = .returned (.func (.func 83) #[] #[.pointer (some ⟨V.heap.size, 0, none⟩)]) ∧ w' = V.alloc (.cells #[.map mb] 59 (0, 0)) := fun mb V => AnyZ.keys_in Try.keysL Fence.wide 8 trivial rfl mb V
      have cS := sorted62 8 (by omega) 83 #[.pointer (some ⟨W.heap.size, 0, none⟩)] (enters_of Try.func83 (by kernel_rfl) rfl) _ _ (by unfold maxLen; omega) (by omega) _ hseq
      have cS := Aside0.mk cS
      have hown := Aside0.mk hown
      have B1 := Aside0.mk B1
      have hDW := Aside0.mk hDW
      clear hseq hle hle2 hWz
      gi_wp2_with (first | (refine ⟨trivial, ?_⟩; gi_at_call 63; refine (cK _ _).mono ?_; rintro e w' ⟨rfl, rfl⟩) | (refine ⟨trivial, ?_⟩; gi_at_call 62; refine cS.out.mono ?_; rintro e w3 ⟨v, ss, rfl, hperm, hrow, hbel⟩))
      have hz : (W.alloc (.cells #[.map (some b)] 59 (0, 0))).heap.size = W.heap.size + 1 := by simp
      rw [hz] at hbel hrow
      have hK3 : w3.heap[D]? = some (.deferred (some [])) := by
        refine (hbel.block D (by have := hDW.out; omega)).trans ?_
        exact blk_alloc hK.out _
      have hB3 : Below w.heap.size w w3 := below_step (below_alloc HBW.out _) (by rw [hz]; exact hbel)
      have hsp := keys_spec a0 hs.out hown.out hperm
      have hln : ss.length = (palSpec a0).length := by
        have := congrArg List.length hsp
        simpa using this
      have R0 := owns_strings hsp hln hrow
      have R2 := Kd.R_grown (Kd.R_bound R0) (grownBy_putObj' w3 D (.deferred none)) (fun k hk e => by cases e; have := hk.2.1; have := hDW.out; omega)
      have R3 := Kd.R_lower (Kd.R_mono R2 (fun _ _ => trivial)) (show w.heap.size ≤ W.heap.size + 1 by have := HBW.out.size; omega)
      have R3 := Aside0.mk R3
      have hK3 := Aside0.mk hK3
      have hB3 := Aside0.mk hB3
      clear R0 R2 hsp hln hrow hbel hz hperm
      gi_wp2
      refine ⟨by simp, .inl ⟨_, _, rfl, run_takeDeferred hK3.out, ?_⟩⟩
      exact ⟨_, by simp [results, Try.f33, go_sem], v, rfl, R3.out, hB3.out.grown (grownBy_putObj' _ _ _) hB3.out.size (fun k e => by cases e; exact hbD.out)⟩
    case stop =>
      rintro D c pre W _ _ h _
      exact h.elim
end Go.Proofs.Ytbdlhgdfnnbjiaa.PY
