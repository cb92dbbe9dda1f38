import Derived.Test.YthjodhmkmjabbaaPYx0
import Derived.Test.YthjodhmkmjabbaaWLast
import Derived.Test.YthjodhmkmjabbaaWMore
import Derived.Test.YthjodhmkmjabbaaWTab
import Derived.Test.YthjodhmkmjabbaaSq
/-! Steps of printed walks whose side conditions have a tactic as their default. -/
namespace Go.Proofs.Ythjodhmkmjabbaa.PY
open Go.RowKit Go.Proofs.YthjodhmkmjabbaaW.PrintWords Go.Proofs.YthjodhmkmjabbaaW.PrintLast Go.Proofs.YthjodhmkmjabbaaW.PrintMore
set_option linter.unusedVariables false
section
variable {P : Program} {ops : Array Oper} {Q : Exit → Act → World → Prop} {md : Region.Mode} {S : World → Prop} {ds : List Nat} {oi : Oper} {v : Value} {fuel : Nat} {l : Array Bool} {a a' : Act} {w : World} {T : Bool × List (List Nat × List Nat)} {B : List Nat}
theorem tk12 (HT : Aside0 (rtab md ops = T)) (HW : Aside0 (waitsOk T.2 B = true)) (hS : S w) (n k i : Nat) (t : Tmp) (hi : ops[i]? = some oi := by rfl) (hN : oi.dst = some t := by rfl) (hc : takeW T B ds l.toList (lb n k).toList i = true := by kernel_rfl) (hQ : ∀ c a w, Q (.panic c) (a.put oi.dst v) w → Q (.panic c) a w := by exact fun _ _ _ h => h)
    (hy : YieldsIf P ops S oi v a := by exact Or.inl ⟨by rfl, by rintro w' ⟨s0, s1, s2, s3, s4, s5, s6, s7, s8, s9, s10, s11⟩; go_simp; with_reducible rfl⟩) (ha : a.put (some t) v = a' := by simp only [Act.put, List.setIfInBounds_toArray, List.set_cons_zero, List.set_cons_succ, i64_w, i32_w]; rfl)
    (h : wpAnyLast P md ops Q S ds fuel (lb n k) a' w) : wpAnyLast P md ops Q S ds (fuel + 1) l a w := take_ (lb n k) hi hN (take_ofW HT.out HW.out hc) hQ hy hS ha h
theorem tk14 (HT : Aside0 (rtab md ops = T)) (HW : Aside0 (waitsOk T.2 B = true)) (hS : S w) (n k i : Nat) (t : Tmp) (hi : ops[i]? = some oi := by rfl) (hN : oi.dst = some t := by rfl) (hc : takeW T B ds l.toList (lb n k).toList i = true := by kernel_rfl) (hQ : ∀ c a w, Q (.panic c) (a.put oi.dst v) w → Q (.panic c) a w := by exact fun _ _ _ h => h)
    (hy : YieldsIf P ops S oi v a := by exact Or.inl ⟨by rfl, by rintro w' ⟨s0, s1, s2, s3, s4, s5, s6, s7, s8, s9, s10, s11, s12, s13⟩; go_simp; with_reducible rfl⟩) (ha : a.put (some t) v = a' := by simp only [Act.put, List.setIfInBounds_toArray, List.set_cons_zero, List.set_cons_succ, i64_w, i32_w]; rfl)
    (h : wpAnyLast P md ops Q S ds fuel (lb n k) a' w) : wpAnyLast P md ops Q S ds (fuel + 1) l a w := take_ (lb n k) hi hN (take_ofW HT.out HW.out hc) hQ hy hS ha h
theorem tk16 (HT : Aside0 (rtab md ops = T)) (HW : Aside0 (waitsOk T.2 B = true)) (hS : S w) (n k i : Nat) (t : Tmp) (hi : ops[i]? = some oi := by rfl) (hN : oi.dst = some t := by rfl) (hc : takeW T B ds l.toList (lb n k).toList i = true := by kernel_rfl) (hQ : ∀ c a w, Q (.panic c) (a.put oi.dst v) w → Q (.panic c) a w := by exact fun _ _ _ h => h)
    (hy : YieldsIf P ops S oi v a := by exact Or.inl ⟨by rfl, by rintro w' ⟨s0, s1, s2, s3, s4, s5, s6, s7, s8, s9, s10, s11, s12, s13, s14, s15⟩; go_simp; with_reducible rfl⟩) (ha : a.put (some t) v = a' := by simp only [Act.put, List.setIfInBounds_toArray, List.set_cons_zero, List.set_cons_succ, i64_w, i32_w]; rfl)
    (h : wpAnyLast P md ops Q S ds fuel (lb n k) a' w) : wpAnyLast P md ops Q S ds (fuel + 1) l a w := take_ (lb n k) hi hN (take_ofW HT.out HW.out hc) hQ hy hS ha h
theorem tk18 (HT : Aside0 (rtab md ops = T)) (HW : Aside0 (waitsOk T.2 B = true)) (hS : S w) (n k i : Nat) (t : Tmp) (hi : ops[i]? = some oi := by rfl) (hN : oi.dst = some t := by rfl) (hc : takeW T B ds l.toList (lb n k).toList i = true := by kernel_rfl) (hQ : ∀ c a w, Q (.panic c) (a.put oi.dst v) w → Q (.panic c) a w := by exact fun _ _ _ h => h)
    (hy : YieldsIf P ops S oi v a := by exact Or.inl ⟨by rfl, by rintro w' ⟨s0, s1, s2, s3, s4, s5, s6, s7, s8, s9, s10, s11, s12, s13, s14, s15, s16, s17⟩; go_simp; with_reducible rfl⟩) (ha : a.put (some t) v = a' := by simp only [Act.put, List.setIfInBounds_toArray, List.set_cons_zero, List.set_cons_succ, i64_w, i32_w]; rfl)
    (h : wpAnyLast P md ops Q S ds fuel (lb n k) a' w) : wpAnyLast P md ops Q S ds (fuel + 1) l a w := take_ (lb n k) hi hN (take_ofW HT.out HW.out hc) hQ hy hS ha h
end
end Go.Proofs.Ythjodhmkmjabbaa.PY
