/- Laws of a range over a function, as the walks of this seat use them. -/
import Derived.Test.YthjodhmkmjabbaaPYx0
import Derived.RangeFuncRecord
import Derived.RangeFuncNested
import Derived.RangeFuncCalls
import Derived.RangeFuncLeaves
import Derived.Shelf.Abstract
import Derived.Shelf.RegionOpen
import Derived.OwnWalkIn
import Derived.TacticsInMore
import Derived.LoopNIn
import Derived.LoopIn
import Derived.Maps.OwnIn
import Derived.Sort.LoopGhostIn
namespace Go.Proofs.Ythjodhmkmjabbaa.PY
open Go.RowKit Go.Shelf Go.Proofs.YthjodhmkmjabbaaW.PrintWords Go.Proofs.YthjodhmkmjabbaaW.PrintLast Go.Proofs.YthjodhmkmjabbaaW.PrintMore
attribute [local go_sem] Oper.semAt_some
set_option linter.unusedVariables false
set_option linter.unusedSimpArgs false

/-- The record of a loop under way, and the block of its rounds' deferred calls. -/
structure IsRec (W : World) (l D : Nat) (st : LoopState) (pe : Option Code) (fn : FuncId) (tmps : Array Value) (ps : Array Tmp) (assign body : Code) : Prop where
  L : W.heap[l]? = some (.loop { state := st, pending := pe, fn := fn, tmps := tmps, params := ps, assign := assign, body := body, defers := D })
  K : W.heap[D]? = some (.deferred (some []))
/-- A range over a function is entered: the deferred calls' block and the record are laid, the one call is made. -/
theorem range_enter {F : Fence} {n : Nat} {P : Program} {g : Operand} {ps : Array Tmp} {assign body : Code} {Q : Exit → Act → World → Prop} {a : Act} {w : World}
    (hro : F.round = none) (h1 : 1 ≤ n) {gf : Nat} {lb : Array Value} (hg : a.eval g = .func (.func gf) #[] lb) (hFg : F.fn gf) (eg : ∀ args w, (callFunc gf args).run P w = .ok (.enter gf args) w)
    (h : ∀ fn, F.fn fn → ∀ W1 l D, D = w.heap.size → l = w.heap.size + 1 → ∀ RR : World → LoopState → Option Code → Prop, (∀ W st pe, RR W st pe ↔ IsRec W l D st pe fn a.tmps ps assign body) → RR W1 .ready none → Below w.heap.size w W1 → W1.heap.size = w.heap.size + 2 →
      CallsIn F (n - 1) P gf (#[.func (.yield l) #[] #[]] ++ lb) W1 (rangePost F n P l Q { a with defers := [{ target := .collected D, args := #[] }] ++ a.defers })) :
    (Code.rangeFunc g ps assign body).wpIn F n P Q a w := by
  refine wpIn_rangeFunc ?_
  intro fn hfn
  rw [hro]
  obtain ⟨W1, hW1⟩ : ∃ W1, W1 = (w.alloc (.deferred (some []))).alloc (.loop { state := .ready, pending := none, fn := fn, tmps := a.tmps, params := ps, assign := assign, body := body, defers := w.heap.size }) := ⟨_, rfl⟩
  refine ⟨w.heap.size + 1, [{ target := .collected w.heap.size, args := #[] }], W1, { target := .fn (.func gf) lb, args := #[.func (.yield (w.heap.size + 1)) #[] #[]] }, W1, gf,
    #[.func (.yield (w.heap.size + 1)) #[] #[]] ++ lb, W1, ?_, ?_, ?_, ?_, fun _ => h1, ?_⟩
  · rw [hW1]; exact run_enterLoop_outer _ _ _ _ _
  · simp only [resolve, hg]
    simp [go_sem]
  · intro f' hf'; simp [Target.leads] at hf'; subst hf'; exact hFg
  · simp [invoke, go_sem, eg]
  · refine h fn hfn W1 _ _ rfl rfl (fun W st pe => IsRec W (w.heap.size + 1) w.heap.size st pe fn a.tmps ps assign body) (fun _ _ _ => Iff.rfl) ⟨?_, ?_⟩ ?_ ?_
    · rw [hW1]
      have := World.alloc_heap_new (w.alloc (.deferred (some []))) (.loop { state := .ready, pending := none, fn := fn, tmps := a.tmps, params := ps, assign := assign, body := body, defers := w.heap.size })
      rwa [World.size_alloc] at this
    · rw [hW1]; exact blk_alloc (World.alloc_heap_new w _) _
    · rw [hW1]; exact below_alloc (below_alloc (Below.refl _ w) _) _
    · rw [hW1]; simp

/-- What a turn of the record alone keeps. -/
structure RecKept (W W' : World) (l : Nat) : Prop where
  other : ∀ k, k ≠ l → W'.heap[k]? = W.heap[k]?
  size : W'.heap.size = W.heap.size
  below : ∀ B (w0 : World), B ≤ l → Below B w0 W → Below B w0 W'
theorem recKept_put {W : World} {l : Nat} {o' : Obj} (hl : W.heap[l]? = some o') (o : Obj) : RecKept W (W.putObj l o) l :=
  ⟨fun k hk => World.putObj_heap_other hk, World.putObj_size, fun B w0 hB h => h.grown (grownBy_putObj' W l o) (by have := blk_lt hl; omega) (fun k e => by cases e; exact hB)⟩
theorem rec_begin {P : Program} {W : World} {l D : Nat} {fn : FuncId} {tm : Array Value} {ps : Array Tmp} {asg bd : Code} (h : IsRec W l D .ready none fn tm ps asg bd) (hlD : D ≠ l) :
    ∃ W', (Instr.beginRound l).run P W = .ok () W' ∧ IsRec W' l D .busy none fn tm ps asg bd ∧ RecKept W W' l :=
  ⟨_, run_beginRound h.L rfl, ⟨World.putObj_heap_same (blk_lt h.L), (World.putObj_heap_other hlD).trans h.K⟩, recKept_put h.L _⟩
theorem rec_end {P : Program} {W : World} {l D : Nat} {fn : FuncId} {tm : Array Value} {ps : Array Tmp} {asg bd : Code} (jump : Option Code) (h : IsRec W l D .busy none fn tm ps asg bd) (hlD : D ≠ l) :
    ∃ W', (Instr.endRound l jump).run P W = .ok (.bool jump.isNone) W' ∧ IsRec W' l D (if jump.isNone then .ready else .done) jump fn tm ps asg bd ∧ RecKept W W' l :=
  ⟨_, run_endRound jump h.L, ⟨World.putObj_heap_same (blk_lt h.L), (World.putObj_heap_other hlD).trans h.K⟩, recKept_put h.L _⟩
theorem rec_over {P : Program} {W : World} {l D : Nat} {st : LoopState} {pe : Option Code} {fn : FuncId} {tm : Array Value} {ps : Array Tmp} {asg bd : Code} (h : IsRec W l D st pe fn tm ps asg bd) (hlD : D ≠ l) (hst : st ≠ .busy) :
    ∃ W', (Instr.endLoop l).run P W = .ok pe W' ∧ W'.heap[D]? = some (.deferred (some [])) ∧ RecKept W W' l :=
  ⟨_, run_endLoop h.L (by exact hst), (World.putObj_heap_other hlD).trans h.K, recKept_put h.L _⟩
theorem rec_same {W W' : World} {l D : Nat} {st : LoopState} {pe : Option Code} {fn : FuncId} {tm : Array Value} {ps : Array Tmp} {asg bd : Code} (h : IsRec W l D st pe fn tm ps asg bd)
    (hl : W'.heap[l]? = W.heap[l]?) (hD : W'.heap[D]? = W.heap[D]?) : IsRec W' l D st pe fn tm ps asg bd := ⟨hl.trans h.L, hD.trans h.K⟩
theorem heap_drew (W : World) (q : Nat) : W.drew.heap[q]? = W.heap[q]? := rfl
theorem rec_far {W W' : World} {l D g3 g4 : Nat} {st : LoopState} {pe : Option Code} {fn : FuncId} {tm : Array Value} {ps : Array Tmp} {asg bd : Code} (h : IsRec W l D st pe fn tm ps asg bd)
    (he : ∀ q, q ≠ g3 → q ≠ g4 → W'.heap[q]? = W.heap[q]?) (h3 : l ≠ g3) (h4 : l ≠ g4) (k3 : D ≠ g3) (k4 : D ≠ g4) : IsRec W' l D st pe fn tm ps asg bd := rec_same h (he l h3 h4) (he D k3 k4)
/-- append(v, x) inside a fence: the twin of 'R_append'. -/
theorem R_appendIn {F : Fence} {n : Nat} {P : Program} {ops : Array Oper} {rest : List Oper} {o : Oper} {a : Act} {Q : Exit → Act → World → Prop} {α : Type} (d : Kd α) {w0 W : World} (base : Nat) (hgd : o.guard = none) (s x : Operand) (t e : TypeId) (z : Value) (bytes : Nat)
    (ho : o.op = .call { callee := .builtin .append, args := #[s, x], argTypes := #[t, t] })
    (ht : P.underlying t = some (.slice e)) (hinfo : (P.info? e).map (fun i => (i.zero, i.size, i.bytes)) = some (some z, d.sz, bytes)) (hz : z.cells.size = d.sz) (hs0 : 0 < d.sz) (hb0 : 0 < bytes)
    (v : Value) (xs : List α) (p : α) (cs : List Value) (ok okp : Nat → Prop) (hs : a.eval s = v) (hx : a.eval x = .slice (some ⟨W.heap.size, 0, none⟩) 1 1) (hp : d.M W base okp p cs) (hokp : ∀ k, okp k → ok k ∧ some k ≠ v.ownBlock) (hfresh : ∀ k, W.heap.size ≤ k → ok k)
    (HO : d.R e W base ok v xs) (HB : Below base w0 W) (hbase : base ≤ W.heap.size) (hl : (xs.length + 1) * bytes ≤ 140737488355328)
    (h : ∀ v1 w1, d.R e w1 base ok v1 (xs ++ [p]) → Below base w0 w1 → W.grownBy w1 v.ownBlock → (v1.ownBlock = v.ownBlock ∨ ∃ b, v1.ownBlock = some b ∧ W.heap.size ≤ b) → wpListIn F n P ops Q rest (a.put o.dst v1) w1) :
    wpListIn F n P ops Q (o :: rest) a (W.alloc (.cells cs.toArray e)) := by
  obtain ⟨h0, inner, hown, hr⟩ := HO
  obtain ⟨i0, hi, hzz⟩ := Option.map_eq_some_iff.1 hinfo
  simp only [Prod.mk.injEq] at hzz
  obtain ⟨hz0, hz1, hz2⟩ := hzz
  have hlen : xs.length + 1 ≤ 140737488355328 := Nat.le_trans (Nat.le_mul_of_pos_right _ hb0) hl
  refine wpListIn_append_own_at (W.alloc (.cells cs.toArray e)) hgd s x t ho base e i0 z d.sz bytes ht hi hz0 hz1 hz2 hz hs0 v xs.length inner hs (hown.alloc _) ⟨W.heap.size, 0, none⟩ 1 1 cs hx (by rw [d.K_len (d.K_of_M hp)]; simp)
    (by simpa using World.news_of_block (cs := cs.toArray) (t := e) (fr := (0, 0)) (heap_alloc_new W (.cells cs.toArray e))) (d.K_one (d.K_of_M hp)) (by simp only [maxLen]; omega) hl (by simp; omega) ?_
  intro v1 w1 hown1 hg _ hat
  have hat' : v1.ownBlock = v.ownBlock ∨ ∃ b, v1.ownBlock = some b ∧ W.heap.size ≤ b := by
    rcases hat with hat | hat
    · exact .inl hat
    · exact .inr ⟨_, hat, by simp⟩
  have hg' : W.grownBy w1 v.ownBlock := World.grownBy.trans (World.grownBy_alloc W _ _) hg
  exact h v1 w1 (Kd.R_appended h0 hr hp hokp hfresh hown1 hg' hat') ((HB.alloc hbase _).grown hg (by simp; omega) (own_base hown)) hg' hat'
end Go.Proofs.Ythjodhmkmjabbaa.PY
