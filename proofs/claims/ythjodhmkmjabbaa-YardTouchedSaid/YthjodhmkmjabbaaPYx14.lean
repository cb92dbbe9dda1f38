-- Made by the session's own driver (wip/tools/p2.py) out of the translation; Lean checks it.
import Derived.Test.YthjodhmkmjabbaaSq
import Derived.Test.YthjodhmkmjabbaaPYx0
import Derived.Test.YthjodhmkmjabbaaPYx2
namespace Go.Proofs.Ythjodhmkmjabbaa.PY
open Go.RowKit Go.Proofs.YthjodhmkmjabbaaW.PrintWords Go.Proofs.YthjodhmkmjabbaaW.PrintLast Go.Proofs.YthjodhmkmjabbaaW.PrintMore
attribute [local go_sem] max2_int min2_int max_two min_two max_three min_three max_four min_four   -- for this text's walks alone
set_option linter.unusedVariables false
set_option linter.unusedSimpArgs false
/-! ### yard_beside: function 68 -/
def yard_beside.f (a0_0 : Int) (a0_1 : Int) (a1_0 : Int) (a1_1 : Int) : Option (Bool) := some ((wrap64 ((wrap64 (a1_0 * a0_1)) - (wrap64 (a0_0 * a1_1)))) == 1)
set_option maxHeartbeats 8000000 in
set_option maxRecDepth 100000 in
theorem yard_beside.calls (a0_0 : Int) (a0_1 : Int) (a1_0 : Int) (a1_1 : Int) (r : Bool) (w : World) (h : yard_beside.f a0_0 a0_1 a1_0 a1_1 = some r) :
 Calls Try.prog 68 #[.agg #[.int .i64 a0_0, .int .i64 a0_1], .agg #[.int .i64 a1_0, .int .i64 a1_1]] w fun e w' => e = .returned (.bool r) ∧ Below w.heap.size w w' := by
 have hu23 := Try.underlying23
 have HB := Aside0.mk (Below.refl w.heap.size w)
 have H : (some ((wrap64 ((wrap64 (a1_0 * a0_1)) - (wrap64 (a0_0 * a1_1)))) == 1)) = some r := h
 clear h
 obtain rfl := Option.some.inj H
 go_enter Try.func68, Try.ntmps68
 go_wp2_with (first | ((with_reducible refine gate_dst (N := 2) rfl ?_); refine box_event ?hg (N := 2) ?hd (cs := #[.int .i64 a0_0, .int .i64 a0_1]) (t := 23) ?hr ?_; (case hd => rfl); (case hg => rfl); (case hr => first | (go_simp; done) | (go_simp; rfl)); intro gb245 hg w3 hbox hb; have BK245 := Aside0.mk (hbox); have GW245 := bG HB hg; have GE245 := bG HB hg; replace HB := bS HB hb; clear hb hbox hg) | ((with_reducible refine gate_dst (N := 3) rfl ?_); refine box_event ?hg (N := 3) ?hd (cs := #[.int .i64 a1_0, .int .i64 a1_1]) (t := 23) ?hr ?_; (case hd => rfl); (case hg => rfl); (case hr => first | (go_simp; done) | (go_simp; rfl)); intro gb246 hg w4 hbox hb; have BK246 := Aside0.mk (hbox); have GW246 := bG HB hg; have GE246 := bG HB hg; replace HB := bS HB hb; have NB245_246 := nL BK245 hg; have NB246_245 := nG BK245 hg; replace BK245 := kB BK245 hb; clear hb hbox hg; have hnb5 := NB246_245.out; have hnc5 := NB245_246.out; obtain ⟨hcz6_0, hcz6_1, hfz6_0, hfz6_1⟩ := cQ BK246; obtain ⟨hcz7_0, hcz7_1, hfz7_0, hfz7_1⟩ := cQ BK245))
 go_ret
 exact ⟨by first | rfl | (simp [errW_none, errW_some] <;> rfl) | (simp [*, errW_none, errW_some] <;> rfl), bB HB⟩
/-! ### yard_Neighbors: function 32 -/
def yard_Neighbors.f (k : Nat) (a0_0 : Int) (a0_1 : Int) (a1_0 : Int) (a1_1 : Int) : Option (Bool × Int) := (yard_isFrac.f k a0_0 a0_1).bind fun t249 => (if t249 = true then ((yard_isFrac.f k a1_0 a1_1).bind fun t250 => (if t250 = true then ((yard_beside.f a0_0 a0_1 a1_0 a1_1).bind fun t251 => (some (t251, 0))) else (some (false, 2)))) else (some (false, 2)))
theorem yard_Neighbors.mono : ∀ a0 a1 a2 a3 k, LeO (yard_Neighbors.f k a0 a1 a2 a3) (yard_Neighbors.f (k + 1) a0 a1 a2 a3) := by
 intro a0 a1 a2 a3 k
 unfold yard_Neighbors.f
 repeat' first
  | (with_reducible exact yard_isFrac.mono _ _ _)
  | (with_reducible exact LeO.refl _)
  | (with_reducible exact LeO.none _)
  | (with_reducible refine LeO.ite ?_ ?_)
  | (with_reducible refine LeO.bind ?_ (fun _ => ?_))
  | exact yard_isFrac.mono _ _ _
  | exact LeO.none _
  | refine LeO.ite ?_ ?_
  | refine LeO.bind ?_ (fun _ => ?_)
set_option maxHeartbeats 8000000 in
set_option maxRecDepth 100000 in
theorem yard_Neighbors.calls (k : Nat) (a0_0 : Int) (a0_1 : Int) (a1_0 : Int) (a1_1 : Int) (r1 : Bool) (r2 : Int) (w : World) (h : yard_Neighbors.f k a0_0 a0_1 a1_0 a1_1 = some (r1, r2)) :
 Calls Try.prog 32 #[.agg #[.int .i64 a0_0, .int .i64 a0_1], .agg #[.int .i64 a1_0, .int .i64 a1_1]] w fun e w' => e = .returned (.tuple #[.bool r1, .int .i64 r2]) ∧ Below w.heap.size w w' := by
 have hu23 := Try.underlying23
 have HB := Aside0.mk (Below.refl w.heap.size w)
 have H : ((yard_isFrac.f k a0_0 a0_1).bind fun t249 => (if t249 = true then ((yard_isFrac.f k a1_0 a1_1).bind fun t250 => (if t250 = true then ((yard_beside.f a0_0 a0_1 a1_0 a1_1).bind fun t251 => (some (t251, 0))) else (some (false, 2)))) else (some (false, 2)))) = some (r1, r2) := h
 clear h
 replace H := Option.bind_eq_some_iff.mp H
 obtain ⟨t249, A30, H⟩ := H
 replace H : (if t249 = true then ((yard_isFrac.f k a1_0 a1_1).bind fun t250 => (if t250 = true then ((yard_beside.f a0_0 a0_1 a1_0 a1_1).bind fun t251 => (some (t251, 0))) else (some (false, 2)))) else (some (false, 2))) = some (r1, r2) := H
 have A3 := Aside0.mk A30
 clear A30
 by_cases c4 : t249 = true
 ·subst c4
  have H1 : ((yard_isFrac.f k a1_0 a1_1).bind fun t250 => (if t250 = true then ((yard_beside.f a0_0 a0_1 a1_0 a1_1).bind fun t251 => (some (t251, 0))) else (some (false, 2)))) = some (r1, r2) := by rw [if_pos rfl] at H; exact H
  clear H
  have H := H1
  clear H1
  replace H := Option.bind_eq_some_iff.mp H
  obtain ⟨t250, A50, H⟩ := H
  replace H : (if t250 = true then ((yard_beside.f a0_0 a0_1 a1_0 a1_1).bind fun t251 => (some (t251, 0))) else (some (false, 2))) = some (r1, r2) := H
  have A5 := Aside0.mk A50
  clear A50
  by_cases c6 : t250 = true
  ·subst c6
   have H1 : ((yard_beside.f a0_0 a0_1 a1_0 a1_1).bind fun t251 => (some (t251, 0))) = some (r1, r2) := by rw [if_pos rfl] at H; exact H
   clear H
   have H := H1
   clear H1
   replace H := Option.bind_eq_some_iff.mp H
   obtain ⟨t251, A70, H⟩ := H
   replace H : (some (t251, 0)) = some (r1, r2) := H
   have A7 := Aside0.mk A70
   clear A70
   simp only [Option.some.injEq, Prod.mk.injEq] at H
   obtain ⟨rfl, rfl⟩ := H
   go_enter Try.func32, Try.ntmps32
   go_wp2_with (first | ((with_reducible refine gate_dst (N := 2) rfl ?_); refine box_event ?hg (N := 2) ?hd (cs := #[.int .i64 a0_0, .int .i64 a0_1]) (t := 23) ?hr ?_; (case hd => rfl); (case hg => rfl); (case hr => first | (go_simp; done) | (go_simp; rfl)); intro gb247 hg w8 hbox hb; have BK247 := Aside0.mk (hbox); have GW247 := bG HB hg; have GE247 := bG HB hg; replace HB := bS HB hb; clear hb hbox hg) | ((with_reducible refine gate_dst (N := 3) rfl ?_); refine box_event ?hg (N := 3) ?hd (cs := #[.int .i64 a1_0, .int .i64 a1_1]) (t := 23) ?hr ?_; (case hd => rfl); (case hg => rfl); (case hr => first | (go_simp; done) | (go_simp; rfl)); intro gb248 hg w9 hbox hb; have BK248 := Aside0.mk (hbox); have GW248 := bG HB hg; have GE248 := bG HB hg; replace HB := bS HB hb; have NB247_248 := nL BK247 hg; have NB248_247 := nG BK247 hg; replace BK247 := kB BK247 hb; clear hb hbox hg; have hnb10 := NB247_248.out; have hnc10 := NB248_247.out; obtain ⟨hcz11_0, hcz11_1, hfz11_0, hfz11_1⟩ := cQ BK247) | ((with_reducible refine gate_callee (f := 60) rfl ?_); refine gL 7 Try.func60 #[.agg #[.int .i64 a0_0, .int .i64 a0_1]] (h := ?_); (with_reducible refine (yard_isFrac.calls k a0_0 a0_1 true _ A3.out).mono ?_); rintro e w12 ⟨rfl, hb⟩; refine ⟨_, rfl, ?_⟩; replace BK247 := kB BK247 hb; replace BK248 := kB BK248 hb; replace HB := bS HB hb; (try clear hb); (try clear hb2); (try clear hk); (try clear hi); obtain ⟨hcz13_0, hcz13_1, hfz13_0, hfz13_1⟩ := cQ BK248) | (go_at_call 60; (with_reducible refine (yard_isFrac.calls k a1_0 a1_1 true _ A5.out).mono ?_); rintro e w14 ⟨rfl, hb⟩; replace BK247 := kB BK247 hb; replace BK248 := kB BK248 hb; replace HB := bS HB hb; (try clear hb); (try clear hb2); (try clear hk); (try clear hi); obtain ⟨hcz15_0, hcz15_1, hfz15_0, hfz15_1⟩ := cQ BK247; obtain ⟨hcz16_0, hcz16_1, hfz16_0, hfz16_1⟩ := cQ BK248) | ((with_reducible refine gate_callee (f := 68) rfl ?_); refine gL 16 Try.func68 #[.agg #[.int .i64 a0_0, .int .i64 a0_1], .agg #[.int .i64 a1_0, .int .i64 a1_1]] (h := ?_); (with_reducible refine (yard_beside.calls a0_0 a0_1 a1_0 a1_1 t251 _ A7.out).mono ?_); rintro e w17 ⟨rfl, hb⟩; refine ⟨_, rfl, ?_⟩; replace BK247 := kB BK247 hb; replace BK248 := kB BK248 hb; replace HB := bS HB hb; (try clear hb); (try clear hb2); (try clear hk); (try clear hi)))
   go_ret2
   exact ⟨by first | rfl | (simp [errW_none, errW_some] <;> rfl) | (simp [*, errW_none, errW_some] <;> rfl), bB HB⟩
  ·replace c6 := Bool.eq_false_iff.mpr c6
   subst c6
   have H1 : (some (false, 2)) = some (r1, r2) := by rw [if_neg (show ¬ (false = true) by decide)] at H; exact H
   clear H
   have H := H1
   clear H1
   simp only [Option.some.injEq, Prod.mk.injEq] at H
   obtain ⟨rfl, rfl⟩ := H
   go_enter Try.func32, Try.ntmps32
   go_wp2_with (first | ((with_reducible refine gate_dst (N := 2) rfl ?_); refine box_event ?hg (N := 2) ?hd (cs := #[.int .i64 a0_0, .int .i64 a0_1]) (t := 23) ?hr ?_; (case hd => rfl); (case hg => rfl); (case hr => first | (go_simp; done) | (go_simp; rfl)); intro gb247 hg w18 hbox hb; have BK247 := Aside0.mk (hbox); have GW247 := bG HB hg; have GE247 := bG HB hg; replace HB := bS HB hb; clear hb hbox hg) | ((with_reducible refine gate_dst (N := 3) rfl ?_); refine box_event ?hg (N := 3) ?hd (cs := #[.int .i64 a1_0, .int .i64 a1_1]) (t := 23) ?hr ?_; (case hd => rfl); (case hg => rfl); (case hr => first | (go_simp; done) | (go_simp; rfl)); intro gb248 hg w19 hbox hb; have BK248 := Aside0.mk (hbox); have GW248 := bG HB hg; have GE248 := bG HB hg; replace HB := bS HB hb; have NB247_248 := nL BK247 hg; have NB248_247 := nG BK247 hg; replace BK247 := kB BK247 hb; clear hb hbox hg; have hnb20 := NB247_248.out; have hnc20 := NB248_247.out; obtain ⟨hcz21_0, hcz21_1, hfz21_0, hfz21_1⟩ := cQ BK247) | ((with_reducible refine gate_callee (f := 60) rfl ?_); refine gL 7 Try.func60 #[.agg #[.int .i64 a0_0, .int .i64 a0_1]] (h := ?_); (with_reducible refine (yard_isFrac.calls k a0_0 a0_1 true _ A3.out).mono ?_); rintro e w22 ⟨rfl, hb⟩; refine ⟨_, rfl, ?_⟩; replace BK247 := kB BK247 hb; replace BK248 := kB BK248 hb; replace HB := bS HB hb; (try clear hb); (try clear hb2); (try clear hk); (try clear hi); obtain ⟨hcz23_0, hcz23_1, hfz23_0, hfz23_1⟩ := cQ BK248) | (go_at_call 60; (with_reducible refine (yard_isFrac.calls k a1_0 a1_1 false _ A5.out).mono ?_); rintro e w24 ⟨rfl, hb⟩; replace BK247 := kB BK247 hb; replace BK248 := kB BK248 hb; replace HB := bS HB hb; (try clear hb); (try clear hb2); (try clear hk); (try clear hi)))
   go_ret2
   exact ⟨by first | rfl | (simp [errW_none, errW_some] <;> rfl) | (simp [*, errW_none, errW_some] <;> rfl), bB HB⟩
 ·replace c4 := Bool.eq_false_iff.mpr c4
  subst c4
  have H1 : (some (false, 2)) = some (r1, r2) := by rw [if_neg (show ¬ (false = true) by decide)] at H; exact H
  clear H
  have H := H1
  clear H1
  simp only [Option.some.injEq, Prod.mk.injEq] at H
  obtain ⟨rfl, rfl⟩ := H
  go_enter Try.func32, Try.ntmps32
  go_wp2_with (first | ((with_reducible refine gate_dst (N := 2) rfl ?_); refine box_event ?hg (N := 2) ?hd (cs := #[.int .i64 a0_0, .int .i64 a0_1]) (t := 23) ?hr ?_; (case hd => rfl); (case hg => rfl); (case hr => first | (go_simp; done) | (go_simp; rfl)); intro gb247 hg w25 hbox hb; have BK247 := Aside0.mk (hbox); have GW247 := bG HB hg; have GE247 := bG HB hg; replace HB := bS HB hb; clear hb hbox hg) | ((with_reducible refine gate_dst (N := 3) rfl ?_); refine box_event ?hg (N := 3) ?hd (cs := #[.int .i64 a1_0, .int .i64 a1_1]) (t := 23) ?hr ?_; (case hd => rfl); (case hg => rfl); (case hr => first | (go_simp; done) | (go_simp; rfl)); intro gb248 hg w26 hbox hb; have BK248 := Aside0.mk (hbox); have GW248 := bG HB hg; have GE248 := bG HB hg; replace HB := bS HB hb; have NB247_248 := nL BK247 hg; have NB248_247 := nG BK247 hg; replace BK247 := kB BK247 hb; clear hb hbox hg; have hnb27 := NB247_248.out; have hnc27 := NB248_247.out; obtain ⟨hcz28_0, hcz28_1, hfz28_0, hfz28_1⟩ := cQ BK247) | ((with_reducible refine gate_callee (f := 60) rfl ?_); refine gL 7 Try.func60 #[.agg #[.int .i64 a0_0, .int .i64 a0_1]] (h := ?_); (with_reducible refine (yard_isFrac.calls k a0_0 a0_1 false _ A3.out).mono ?_); rintro e w29 ⟨rfl, hb⟩; refine ⟨_, rfl, ?_⟩; replace BK247 := kB BK247 hb; replace BK248 := kB BK248 hb; replace HB := bS HB hb; (try clear hb); (try clear hb2); (try clear hk); (try clear hi)))
  go_ret2
  exact ⟨by first | rfl | (simp [errW_none, errW_some] <;> rfl) | (simp [*, errW_none, errW_some] <;> rfl), bB HB⟩
/-! ### galloonref03_Neighbors: function 33 -/
def galloonref03_Neighbors.f (a0_0 : Int) (a0_1 : Int) (a1_0 : Int) (a1_1 : Int) : Option (Bool) := some ((wrap64 ((wrap64 (a1_0 * a0_1)) - (wrap64 (a0_0 * a1_1)))) == 1)
set_option maxHeartbeats 8000000 in
set_option maxRecDepth 100000 in
theorem galloonref03_Neighbors.calls (a0_0 : Int) (a0_1 : Int) (a1_0 : Int) (a1_1 : Int) (r : Bool) (w : World) (h : galloonref03_Neighbors.f a0_0 a0_1 a1_0 a1_1 = some r) :
 Calls Try.prog 33 #[.agg #[.int .i64 a0_0, .int .i64 a0_1], .agg #[.int .i64 a1_0, .int .i64 a1_1]] w fun e w' => e = .returned (.bool r) ∧ Below w.heap.size w w' := by
 have hu23 := Try.underlying23
 have HB := Aside0.mk (Below.refl w.heap.size w)
 have H : (some ((wrap64 ((wrap64 (a1_0 * a0_1)) - (wrap64 (a0_0 * a1_1)))) == 1)) = some r := h
 clear h
 obtain rfl := Option.some.inj H
 go_enter Try.func33, Try.ntmps33
 go_wp2_with (first | ((with_reducible refine gate_dst (N := 2) rfl ?_); refine box_event ?hg (N := 2) ?hd (cs := #[.int .i64 a0_0, .int .i64 a0_1]) (t := 23) ?hr ?_; (case hd => rfl); (case hg => rfl); (case hr => first | (go_simp; done) | (go_simp; rfl)); intro gb252 hg w3 hbox hb; have BK252 := Aside0.mk (hbox); have GW252 := bG HB hg; have GE252 := bG HB hg; replace HB := bS HB hb; clear hb hbox hg) | ((with_reducible refine gate_dst (N := 3) rfl ?_); refine box_event ?hg (N := 3) ?hd (cs := #[.int .i64 a1_0, .int .i64 a1_1]) (t := 23) ?hr ?_; (case hd => rfl); (case hg => rfl); (case hr => first | (go_simp; done) | (go_simp; rfl)); intro gb253 hg w4 hbox hb; have BK253 := Aside0.mk (hbox); have GW253 := bG HB hg; have GE253 := bG HB hg; replace HB := bS HB hb; have NB252_253 := nL BK252 hg; have NB253_252 := nG BK252 hg; replace BK252 := kB BK252 hb; clear hb hbox hg; have hnb5 := NB253_252.out; have hnc5 := NB252_253.out; obtain ⟨hcz6_0, hcz6_1, hfz6_0, hfz6_1⟩ := cQ BK253; obtain ⟨hcz7_0, hcz7_1, hfz7_0, hfz7_1⟩ := cQ BK252))
 go_ret
 exact ⟨by first | rfl | (simp [errW_none, errW_some] <;> rfl) | (simp [*, errW_none, errW_some] <;> rfl), bB HB⟩
/-! ### galloonref03_Between: function 34 -/
def galloonref03_Between.f : Nat → Int → Int → Int → Int → Option (Int × Int)
 | 0, _, _, _, _ => none
 | k + 1, a0, a1, a2, a3 => if a1 = 0 then (none) else (if (wrap64 ((wrap64 ((wrap64 (Int.tdiv a0 a1)) + 1)) * a3)) < a2 then (some (wrap64 ((wrap64 (Int.tdiv a0 a1)) + 1), 1)) else (if (wrap64 (a0 - (wrap64 ((wrap64 (Int.tdiv a0 a1)) * a1)))) = 0 then (if (wrap64 (a2 - (wrap64 ((wrap64 (Int.tdiv a0 a1)) * a3)))) = 0 then (none) else (some (wrap64 ((wrap64 ((wrap64 (Int.tdiv a0 a1)) * (wrap64 ((wrap64 (Int.tdiv a3 (wrap64 (a2 - (wrap64 ((wrap64 (Int.tdiv a0 a1)) * a3)))))) + 1)))) + 1), wrap64 ((wrap64 (Int.tdiv a3 (wrap64 (a2 - (wrap64 ((wrap64 (Int.tdiv a0 a1)) * a3)))))) + 1)))) else ((galloonref03_Between.f k a3 (wrap64 (a2 - (wrap64 ((wrap64 (Int.tdiv a0 a1)) * a3)))) a1 (wrap64 (a0 - (wrap64 ((wrap64 (Int.tdiv a0 a1)) * a1))))).bind fun bt254 => (some (wrap64 ((wrap64 ((wrap64 (Int.tdiv a0 a1)) * bt254.1)) + bt254.2), bt254.1)))))
theorem galloonref03_Between.mono_l : ∀ k, (∀ y0 y1 y2 y3, LeO (galloonref03_Between.f k y0 y1 y2 y3) (galloonref03_Between.f (k + 1) y0 y1 y2 y3))
 | 0 => fun _ _ _ _ r h => by simp [galloonref03_Between.f] at h
 | k + 1 => by
  have ih0 := galloonref03_Between.mono_l k
  ·intro y0 y1 y2 y3
   unfold galloonref03_Between.f
   repeat' first
   | (with_reducible exact ih0 _ _ _ _)
   | (with_reducible exact LeO.refl _)
   | (with_reducible exact LeO.none _)
   | (with_reducible refine LeO.ite ?_ ?_)
   | (with_reducible refine LeO.bind ?_ (fun _ => ?_))
   | exact ih0 _ _ _ _
   | exact LeO.none _
   | refine LeO.ite ?_ ?_
   | refine LeO.bind ?_ (fun _ => ?_)
theorem galloonref03_Between.mono : ∀ a0 a1 a2 a3 k, LeO (galloonref03_Between.f k a0 a1 a2 a3) (galloonref03_Between.f (k + 1) a0 a1 a2 a3) := by
 intro a0 a1 a2 a3 k
 have ih0 := galloonref03_Between.mono_l k
 exact ih0 a0 a1 a2 a3
set_option maxHeartbeats 8000000 in
set_option maxRecDepth 100000 in
theorem galloonref03_Between.calls (k : Nat) : ∀ (a0 : Int) (a1 : Int) (a2 : Int) (a3 : Int) (r1 : Int) (r2 : Int) (w : World) (h : galloonref03_Between.f k a0 a1 a2 a3 = some (r1, r2)),
 Calls Try.prog 34 #[.int .i64 a0, .int .i64 a1, .int .i64 a2, .int .i64 a3] w fun e w' => e = .returned (.tuple #[.int .i64 r1, .int .i64 r2]) ∧ Drawn0 w w' := by
 induction k using Nat.strongRecOn with
 | _ k ih =>
 intro a0 a1 a2 a3 r1 r2 w h
 cases k with
 | zero => exact absurd h (by simp [galloonref03_Between.f])
 | succ k =>
 simp only [galloonref03_Between.f] at h
 have H : (if a1 = 0 then (none) else (if (wrap64 ((wrap64 ((wrap64 (Int.tdiv a0 a1)) + 1)) * a3)) < a2 then (some (wrap64 ((wrap64 (Int.tdiv a0 a1)) + 1), 1)) else (if (wrap64 (a0 - (wrap64 ((wrap64 (Int.tdiv a0 a1)) * a1)))) = 0 then (if (wrap64 (a2 - (wrap64 ((wrap64 (Int.tdiv a0 a1)) * a3)))) = 0 then (none) else (some (wrap64 ((wrap64 ((wrap64 (Int.tdiv a0 a1)) * (wrap64 ((wrap64 (Int.tdiv a3 (wrap64 (a2 - (wrap64 ((wrap64 (Int.tdiv a0 a1)) * a3)))))) + 1)))) + 1), wrap64 ((wrap64 (Int.tdiv a3 (wrap64 (a2 - (wrap64 ((wrap64 (Int.tdiv a0 a1)) * a3)))))) + 1)))) else ((galloonref03_Between.f k a3 (wrap64 (a2 - (wrap64 ((wrap64 (Int.tdiv a0 a1)) * a3)))) a1 (wrap64 (a0 - (wrap64 ((wrap64 (Int.tdiv a0 a1)) * a1))))).bind fun bt254 => (some (wrap64 ((wrap64 ((wrap64 (Int.tdiv a0 a1)) * bt254.1)) + bt254.2), bt254.1)))))) = some (r1, r2) := h
 clear h
 by_cases c5 : a1 = 0
 ·rw [if_pos c5] at H
  exact absurd H (by simp)
 ·rw [if_neg c5] at H
  have c5b0 : (a1 == 0) = false := beq_eq_false_iff_ne.mpr c5
  have c5b1 : (a1 != 0) = true := bne_iff_ne.mpr c5
  by_cases c6 : (wrap64 ((wrap64 ((wrap64 (Int.tdiv a0 a1)) + 1)) * a3)) < a2
  ·rw [if_pos c6] at H
   have c6b0 : decide ((wrap64 ((wrap64 ((wrap64 (Int.tdiv a0 a1)) + 1)) * a3)) < a2) = true := decide_eq_true c6
   clear c6
   simp only [Option.some.injEq, Prod.mk.injEq] at H
   obtain ⟨rfl, rfl⟩ := H
   go_enter Try.func34, Try.ntmps34
   go_wp2
   go_ret2
   exact ⟨by first | rfl | (simp; done) | (simp [*]; done), by repeat (first | exact Drawn0.refl _ | apply Drawn0.step)⟩
  ·rw [if_neg c6] at H
   have c6b0 : decide ((wrap64 ((wrap64 ((wrap64 (Int.tdiv a0 a1)) + 1)) * a3)) < a2) = false := decide_eq_false c6
   clear c6
   by_cases c7 : (wrap64 (a0 - (wrap64 ((wrap64 (Int.tdiv a0 a1)) * a1)))) = 0
   ·rw [if_pos c7] at H
    have c7b0 : ((wrap64 (a0 - (wrap64 ((wrap64 (Int.tdiv a0 a1)) * a1)))) == 0) = true := beq_iff_eq.mpr c7
    have c7b1 : ((wrap64 (a0 - (wrap64 ((wrap64 (Int.tdiv a0 a1)) * a1)))) != 0) = false := bne_eq_false_iff_eq.mpr c7
    clear c7
    by_cases c8 : (wrap64 (a2 - (wrap64 ((wrap64 (Int.tdiv a0 a1)) * a3)))) = 0
    ·rw [if_pos c8] at H
     exact absurd H (by simp)
    ·rw [if_neg c8] at H
     have c8b0 : ((wrap64 (a2 - (wrap64 ((wrap64 (Int.tdiv a0 a1)) * a3)))) == 0) = false := beq_eq_false_iff_ne.mpr c8
     have c8b1 : ((wrap64 (a2 - (wrap64 ((wrap64 (Int.tdiv a0 a1)) * a3)))) != 0) = true := bne_iff_ne.mpr c8
     simp only [Option.some.injEq, Prod.mk.injEq] at H
     obtain ⟨rfl, rfl⟩ := H
     go_enter Try.func34, Try.ntmps34
     go_wp2
     go_ret2
     exact ⟨by first | rfl | (simp; done) | (simp [*]; done), by repeat (first | exact Drawn0.refl _ | apply Drawn0.step)⟩
   ·rw [if_neg c7] at H
    have c7b0 : ((wrap64 (a0 - (wrap64 ((wrap64 (Int.tdiv a0 a1)) * a1)))) == 0) = false := beq_eq_false_iff_ne.mpr c7
    have c7b1 : ((wrap64 (a0 - (wrap64 ((wrap64 (Int.tdiv a0 a1)) * a1)))) != 0) = true := bne_iff_ne.mpr c7
    replace H := Option.bind_eq_some_iff.mp H
    obtain ⟨⟨t254, t255⟩, A90, H⟩ := H
    replace H : (some (wrap64 ((wrap64 ((wrap64 (Int.tdiv a0 a1)) * t254)) + t255), t254)) = some (r1, r2) := H
    have A9 := Aside0.mk A90
    clear A90
    simp only [Option.some.injEq, Prod.mk.injEq] at H
    obtain ⟨rfl, rfl⟩ := H
    go_enter Try.func34, Try.ntmps34
    go_wp2_with (first | ((with_reducible refine gate_callee (f := 34) rfl ?_); refine gL 53 Try.func34 #[.int .i64 a3, .int .i64 (wrap64 (a2 - (wrap64 ((wrap64 (Int.tdiv a0 a1)) * a3)))), .int .i64 a1, .int .i64 (wrap64 (a0 - (wrap64 ((wrap64 (Int.tdiv a0 a1)) * a1))))] (h := ?_); (with_reducible refine (ih k (by omega) a3 (wrap64 (a2 - (wrap64 ((wrap64 (Int.tdiv a0 a1)) * a3)))) a1 (wrap64 (a0 - (wrap64 ((wrap64 (Int.tdiv a0 a1)) * a1)))) t254 t255 _ A9.out).mono ?_); rintro e w' ⟨rfl, ⟨nd, rfl⟩⟩; refine ⟨_, rfl, ?_⟩))
    go_ret2
    exact ⟨by first | rfl | (simp; done) | (simp [*]; done), by repeat (first | exact Drawn0.refl _ | apply Drawn0.step)⟩
end Go.Proofs.Ythjodhmkmjabbaa.PY
