/-
  No cell of these rows narrows 'for every input' (looked for: loops, veiled, ifaces, maps, wideKeys, modest, calm, conditions, laid).
  DERIVED. THE GIVEN ROWS OF THIS SEAT. 13 by the template 'for every input the law returns true; each argument reads behind the call as it read before'; 0 by the template 'total and deterministic' (their statements: YtbdlhgdfnnbjiaaTotals.lean).
  GIVEN WITH THE SEED: the statements are not yours to turn. If you find one false, say at which input.
  Laid BY PROGRAM, IN A SANDBOX (cutbox-rows.mjs): the forced cells as the released guide's own fill.sh prints them over the translation 8029438540ed10b6… (all of the seat's roots in one cut). By AI agents, Wed Nov 11 2026. No macro, syntax, notation, axiom, sorry.
-/
import Derived.Test.YtbdlhgdfnnbjiaaChecked
import GoSem.Claim
import GoSem.ClaimJoined
import GoSem.ClaimMapViews
import Derived.JoinedTies
import Derived.KernelRfl
namespace Go.Proofs.Ytbdlhgdfnnbjiaa
/- THE CELL 'sum', in the pinned program and in every row, IS THE sha256 OF THE DUMP (.gsa) THAT YtbdlhgdfnnbjiaaProg.lean LOADS. Nothing in Lean hashes anything: it is a label: what it is worth is what the hold of that sum in a sandbox is worth. -/
noncomputable def Try.pinned : Pinned := { name := "ytbdlhgdfnnbjiaa", sum := "8029438540ed10b648d933f009424c89799aa368a58c16aea7e5c58f9cd63f88", checked := Try.checked }
namespace Rows
def none {H : Type} : Left H := { results := [], args := [] }

/-- 'galloonlaw01.TrimEnds': WHATEVER THE INPUT: true; the input reads as it did. -/
def trimEndsSpec : ChangeSpec := { name := "trimEnds", fn := fun _ => fun
  | [d] => { results := [.lit (.bool true)], args := [d] }
  | _ => none }
def trimEndsRow : OpenClaim := { program := "ytbdlhgdfnnbjiaa", sum := "8029438540ed10b648d933f009424c89799aa368a58c16aea7e5c58f9cd63f88", func := "galloon/galloonlaw01.TrimEnds", spec := "trimEnds", inPlace := ["internal/bytealg.IndexByteString", "internal/bytealg.IndexString"], unfollowed := true, recurses := true, named := ["internal/bytealg.MaxLen"], plainKeys := false, apart := false }
def TrimEndsSaid : Prop := trimEndsRow.holds Try.pinned (OpenSpec.ofChange trimEndsSpec)

/-- ITS FALSE NEIGHBOUR: 'it returns false'. Refute it at one input. -/
def trimEndsWrong : ChangeSpec := { name := "trimEnds", fn := fun _ => fun
  | [d] => { results := [.lit (.bool false)], args := [d] }
  | _ => none }
def TrimEndsWrongFalsely : Prop := trimEndsRow.holds Try.pinned (OpenSpec.ofChange trimEndsWrong)

/-- 'galloonlaw01.TrimClosures': WHATEVER THE INPUT: true; the input reads as it did. -/
def trimClosuresSpec : ChangeSpec := { name := "trimClosures", fn := fun _ => fun
  | [d] => { results := [.lit (.bool true)], args := [d] }
  | _ => none }
def trimClosuresRow : OpenClaim := { program := "ytbdlhgdfnnbjiaa", sum := "8029438540ed10b648d933f009424c89799aa368a58c16aea7e5c58f9cd63f88", func := "galloon/galloonlaw01.TrimClosures", spec := "trimClosures", inPlace := ["internal/bytealg.IndexByteString", "internal/bytealg.IndexString"], unfollowed := true, recurses := true, named := ["internal/bytealg.MaxLen"], plainKeys := false, apart := false }
def TrimClosuresSaid : Prop := trimClosuresRow.holds Try.pinned (OpenSpec.ofChange trimClosuresSpec)

/-- ITS FALSE NEIGHBOUR: 'it returns false'. Refute it at one input. -/
def trimClosuresWrong : ChangeSpec := { name := "trimClosures", fn := fun _ => fun
  | [d] => { results := [.lit (.bool false)], args := [d] }
  | _ => none }
def TrimClosuresWrongFalsely : Prop := trimClosuresRow.holds Try.pinned (OpenSpec.ofChange trimClosuresWrong)

/-- 'galloonlaw01.TrimTowers': WHATEVER THE INPUT: true; the input reads as it did. -/
def trimTowersSpec : ChangeSpec := { name := "trimTowers", fn := fun _ => fun
  | [d1, d2] => { results := [.lit (.bool true)], args := [d1, d2] }
  | _ => none }
def trimTowersRow : OpenClaim := { program := "ytbdlhgdfnnbjiaa", sum := "8029438540ed10b648d933f009424c89799aa368a58c16aea7e5c58f9cd63f88", func := "galloon/galloonlaw01.TrimTowers", spec := "trimTowers", inPlace := ["internal/bytealg.IndexByteString", "internal/bytealg.IndexString"], unfollowed := true, recurses := true, named := ["internal/bytealg.MaxLen"], plainKeys := false, apart := false }
def TrimTowersSaid : Prop := trimTowersRow.holds Try.pinned (OpenSpec.ofChange trimTowersSpec)

/-- ITS FALSE NEIGHBOUR: 'it returns false'. Refute it at one input. -/
def trimTowersWrong : ChangeSpec := { name := "trimTowers", fn := fun _ => fun
  | [d1, d2] => { results := [.lit (.bool false)], args := [d1, d2] }
  | _ => none }
def TrimTowersWrongFalsely : Prop := trimTowersRow.holds Try.pinned (OpenSpec.ofChange trimTowersWrong)

/-- 'galloonlaw01.TrimPalindromes': WHATEVER THE INPUT: true; the input reads as it did. -/
def trimPalindromesSpec : ChangeSpec := { name := "trimPalindromes", fn := fun _ => fun
  | [d] => { results := [.lit (.bool true)], args := [d] }
  | _ => none }
def trimPalindromesRow : OpenClaim := { program := "ytbdlhgdfnnbjiaa", sum := "8029438540ed10b648d933f009424c89799aa368a58c16aea7e5c58f9cd63f88", func := "galloon/galloonlaw01.TrimPalindromes", spec := "trimPalindromes", inPlace := ["internal/bytealg.IndexByteString", "internal/bytealg.IndexString"], unfollowed := true, recurses := true, named := ["internal/bytealg.MaxLen"], plainKeys := false, apart := false }
def TrimPalindromesSaid : Prop := trimPalindromesRow.holds Try.pinned (OpenSpec.ofChange trimPalindromesSpec)

/-- ITS FALSE NEIGHBOUR: 'it returns false'. Refute it at one input. -/
def trimPalindromesWrong : ChangeSpec := { name := "trimPalindromes", fn := fun _ => fun
  | [d] => { results := [.lit (.bool false)], args := [d] }
  | _ => none }
def TrimPalindromesWrongFalsely : Prop := trimPalindromesRow.holds Try.pinned (OpenSpec.ofChange trimPalindromesWrong)

/-- 'galloonlaw01.TrimInner': WHATEVER THE INPUT: true; the input reads as it did. -/
def trimInnerSpec : ChangeSpec := { name := "trimInner", fn := fun _ => fun
  | [d] => { results := [.lit (.bool true)], args := [d] }
  | _ => none }
def trimInnerRow : OpenClaim := { program := "ytbdlhgdfnnbjiaa", sum := "8029438540ed10b648d933f009424c89799aa368a58c16aea7e5c58f9cd63f88", func := "galloon/galloonlaw01.TrimInner", spec := "trimInner", inPlace := ["internal/bytealg.IndexByteString", "internal/bytealg.IndexString"], unfollowed := true, recurses := true, named := ["internal/bytealg.MaxLen"], plainKeys := false, apart := false }
def TrimInnerSaid : Prop := trimInnerRow.holds Try.pinned (OpenSpec.ofChange trimInnerSpec)

/-- ITS FALSE NEIGHBOUR: 'it returns false'. Refute it at one input. -/
def trimInnerWrong : ChangeSpec := { name := "trimInner", fn := fun _ => fun
  | [d] => { results := [.lit (.bool false)], args := [d] }
  | _ => none }
def TrimInnerWrongFalsely : Prop := trimInnerRow.holds Try.pinned (OpenSpec.ofChange trimInnerWrong)

/-- 'galloonlaw01.TrimChecks': WHATEVER THE INPUT: true; the input reads as it did. -/
def trimChecksSpec : ChangeSpec := { name := "trimChecks", fn := fun _ => fun
  | [d1, d2] => { results := [.lit (.bool true)], args := [d1, d2] }
  | _ => none }
def trimChecksRow : OpenClaim := { program := "ytbdlhgdfnnbjiaa", sum := "8029438540ed10b648d933f009424c89799aa368a58c16aea7e5c58f9cd63f88", func := "galloon/galloonlaw01.TrimChecks", spec := "trimChecks", inPlace := ["internal/bytealg.IndexByteString", "internal/bytealg.IndexString"], unfollowed := true, recurses := true, named := ["internal/bytealg.MaxLen"], plainKeys := false, apart := false }
def TrimChecksSaid : Prop := trimChecksRow.holds Try.pinned (OpenSpec.ofChange trimChecksSpec)

/-- ITS FALSE NEIGHBOUR: 'it returns false'. Refute it at one input. -/
def trimChecksWrong : ChangeSpec := { name := "trimChecks", fn := fun _ => fun
  | [d1, d2] => { results := [.lit (.bool false)], args := [d1, d2] }
  | _ => none }
def TrimChecksWrongFalsely : Prop := trimChecksRow.holds Try.pinned (OpenSpec.ofChange trimChecksWrong)

/-- 'galloonlaw01.TrimRich': WHATEVER THE INPUT: true; the input reads as it did. -/
def trimRichSpec : ChangeSpec := { name := "trimRich", fn := fun _ => fun
  | [d] => { results := [.lit (.bool true)], args := [d] }
  | _ => none }
def trimRichRow : OpenClaim := { program := "ytbdlhgdfnnbjiaa", sum := "8029438540ed10b648d933f009424c89799aa368a58c16aea7e5c58f9cd63f88", func := "galloon/galloonlaw01.TrimRich", spec := "trimRich", inPlace := ["internal/bytealg.IndexByteString", "internal/bytealg.IndexString"], unfollowed := true, recurses := true, named := ["internal/bytealg.MaxLen"], plainKeys := false, apart := false }
def TrimRichSaid : Prop := trimRichRow.holds Try.pinned (OpenSpec.ofChange trimRichSpec)

/-- ITS FALSE NEIGHBOUR: 'it returns false'. Refute it at one input. -/
def trimRichWrong : ChangeSpec := { name := "trimRich", fn := fun _ => fun
  | [d] => { results := [.lit (.bool false)], args := [d] }
  | _ => none }
def TrimRichWrongFalsely : Prop := trimRichRow.holds Try.pinned (OpenSpec.ofChange trimRichWrong)

/-- 'galloonlaw01.TrimReversed': WHATEVER THE INPUT: true; the input reads as it did. -/
def trimReversedSpec : ChangeSpec := { name := "trimReversed", fn := fun _ => fun
  | [d] => { results := [.lit (.bool true)], args := [d] }
  | _ => none }
def trimReversedRow : OpenClaim := { program := "ytbdlhgdfnnbjiaa", sum := "8029438540ed10b648d933f009424c89799aa368a58c16aea7e5c58f9cd63f88", func := "galloon/galloonlaw01.TrimReversed", spec := "trimReversed", inPlace := ["internal/bytealg.IndexByteString", "internal/bytealg.IndexString"], unfollowed := true, recurses := true, named := ["internal/bytealg.MaxLen"], plainKeys := false, apart := false }
def TrimReversedSaid : Prop := trimReversedRow.holds Try.pinned (OpenSpec.ofChange trimReversedSpec)

/-- ITS FALSE NEIGHBOUR: 'it returns false'. Refute it at one input. -/
def trimReversedWrong : ChangeSpec := { name := "trimReversed", fn := fun _ => fun
  | [d] => { results := [.lit (.bool false)], args := [d] }
  | _ => none }
def TrimReversedWrongFalsely : Prop := trimReversedRow.holds Try.pinned (OpenSpec.ofChange trimReversedWrong)

/-- 'galloonlaw01.TrimFewest': WHATEVER THE INPUT: true; the input reads as it did. -/
def trimFewestSpec : ChangeSpec := { name := "trimFewest", fn := fun _ => fun
  | [d1, d2] => { results := [.lit (.bool true)], args := [d1, d2] }
  | _ => none }
def trimFewestRow : OpenClaim := { program := "ytbdlhgdfnnbjiaa", sum := "8029438540ed10b648d933f009424c89799aa368a58c16aea7e5c58f9cd63f88", func := "galloon/galloonlaw01.TrimFewest", spec := "trimFewest", inPlace := ["internal/bytealg.IndexByteString", "internal/bytealg.IndexString"], unfollowed := true, recurses := true, named := ["internal/bytealg.MaxLen"], plainKeys := false, apart := false }
def TrimFewestSaid : Prop := trimFewestRow.holds Try.pinned (OpenSpec.ofChange trimFewestSpec)

/-- ITS FALSE NEIGHBOUR: 'it returns false'. Refute it at one input. -/
def trimFewestWrong : ChangeSpec := { name := "trimFewest", fn := fun _ => fun
  | [d1, d2] => { results := [.lit (.bool false)], args := [d1, d2] }
  | _ => none }
def TrimFewestWrongFalsely : Prop := trimFewestRow.holds Try.pinned (OpenSpec.ofChange trimFewestWrong)

/-- 'galloonlaw01.TrimClosed': WHATEVER THE INPUT: true; the input reads as it did. -/
def trimClosedSpec : ChangeSpec := { name := "trimClosed", fn := fun _ => fun
  | [d] => { results := [.lit (.bool true)], args := [d] }
  | _ => none }
def trimClosedRow : OpenClaim := { program := "ytbdlhgdfnnbjiaa", sum := "8029438540ed10b648d933f009424c89799aa368a58c16aea7e5c58f9cd63f88", func := "galloon/galloonlaw01.TrimClosed", spec := "trimClosed", inPlace := ["internal/bytealg.IndexByteString", "internal/bytealg.IndexString"], unfollowed := true, recurses := true, named := ["internal/bytealg.MaxLen"], plainKeys := false, apart := false }
def TrimClosedSaid : Prop := trimClosedRow.holds Try.pinned (OpenSpec.ofChange trimClosedSpec)

/-- ITS FALSE NEIGHBOUR: 'it returns false'. Refute it at one input. -/
def trimClosedWrong : ChangeSpec := { name := "trimClosed", fn := fun _ => fun
  | [d] => { results := [.lit (.bool false)], args := [d] }
  | _ => none }
def TrimClosedWrongFalsely : Prop := trimClosedRow.holds Try.pinned (OpenSpec.ofChange trimClosedWrong)

/-- 'galloonlaw01.TrimLengths': WHATEVER THE INPUT: true; the input reads as it did. -/
def trimLengthsSpec : ChangeSpec := { name := "trimLengths", fn := fun _ => fun
  | [d] => { results := [.lit (.bool true)], args := [d] }
  | _ => none }
def trimLengthsRow : OpenClaim := { program := "ytbdlhgdfnnbjiaa", sum := "8029438540ed10b648d933f009424c89799aa368a58c16aea7e5c58f9cd63f88", func := "galloon/galloonlaw01.TrimLengths", spec := "trimLengths", inPlace := ["internal/bytealg.IndexByteString", "internal/bytealg.IndexString"], unfollowed := true, recurses := true, named := ["internal/bytealg.MaxLen"], plainKeys := false, apart := false }
def TrimLengthsSaid : Prop := trimLengthsRow.holds Try.pinned (OpenSpec.ofChange trimLengthsSpec)

/-- ITS FALSE NEIGHBOUR: 'it returns false'. Refute it at one input. -/
def trimLengthsWrong : ChangeSpec := { name := "trimLengths", fn := fun _ => fun
  | [d] => { results := [.lit (.bool false)], args := [d] }
  | _ => none }
def TrimLengthsWrongFalsely : Prop := trimLengthsRow.holds Try.pinned (OpenSpec.ofChange trimLengthsWrong)

/-- 'galloonlaw01.TrimOwn': WHATEVER THE INPUT: true; the input reads as it did. -/
def trimOwnSpec : ChangeSpec := { name := "trimOwn", fn := fun _ => fun
  | [d] => { results := [.lit (.bool true)], args := [d] }
  | _ => none }
def trimOwnRow : OpenClaim := { program := "ytbdlhgdfnnbjiaa", sum := "8029438540ed10b648d933f009424c89799aa368a58c16aea7e5c58f9cd63f88", func := "galloon/galloonlaw01.TrimOwn", spec := "trimOwn", inPlace := ["internal/bytealg.IndexByteString", "internal/bytealg.IndexString"], unfollowed := true, recurses := true, named := ["internal/bytealg.MaxLen"], plainKeys := false, apart := false }
def TrimOwnSaid : Prop := trimOwnRow.holds Try.pinned (OpenSpec.ofChange trimOwnSpec)

/-- ITS FALSE NEIGHBOUR: 'it returns false'. Refute it at one input. -/
def trimOwnWrong : ChangeSpec := { name := "trimOwn", fn := fun _ => fun
  | [d] => { results := [.lit (.bool false)], args := [d] }
  | _ => none }
def TrimOwnWrongFalsely : Prop := trimOwnRow.holds Try.pinned (OpenSpec.ofChange trimOwnWrong)

/-- 'galloonlaw01.TrimParts': WHATEVER THE INPUT: true; the input reads as it did. -/
def trimPartsSpec : ChangeSpec := { name := "trimParts", fn := fun _ => fun
  | [d] => { results := [.lit (.bool true)], args := [d] }
  | _ => none }
def trimPartsRow : OpenClaim := { program := "ytbdlhgdfnnbjiaa", sum := "8029438540ed10b648d933f009424c89799aa368a58c16aea7e5c58f9cd63f88", func := "galloon/galloonlaw01.TrimParts", spec := "trimParts", inPlace := ["internal/bytealg.IndexByteString", "internal/bytealg.IndexString"], unfollowed := true, recurses := true, named := ["internal/bytealg.MaxLen"], plainKeys := false, apart := false }
def TrimPartsSaid : Prop := trimPartsRow.holds Try.pinned (OpenSpec.ofChange trimPartsSpec)

/-- ITS FALSE NEIGHBOUR: 'it returns false'. Refute it at one input. -/
def trimPartsWrong : ChangeSpec := { name := "trimParts", fn := fun _ => fun
  | [d] => { results := [.lit (.bool false)], args := [d] }
  | _ => none }
def TrimPartsWrongFalsely : Prop := trimPartsRow.holds Try.pinned (OpenSpec.ofChange trimPartsWrong)

/- THE SECOND FORM. 'bulk': how many values and letters a reading holds, each counted each time it is reached (what is shared counts as often as it is met; a slice's spare places count too). A statement '..UptoSaid' is the law's where the arguments, and the package variables that the reading takes, are together of bulk at most 1048576: NARROWER than '..Said'. Prove '..Said' where nothing that the law and all that it calls make is longer than what came in: it says more and counts as full. Else prove '..UptoSaid'. A law counts once. -/
mutual
def uptoBulk {H : Type} : DataW H → Nat
  | .lit (.string bytes) => bytes.length + 1
  | .lit _ => 1
  | .nil => 1
  | .ptr d => uptoBulk d + 1
  | .slice elems spare => uptoBulkAll elems + uptoBulkAll spare + 1
  | .agg parts => uptoBulkAll parts + 1
  | .iface _ d => uptoBulk d + 1
  | .map entries => uptoBulkEntries entries + 1
  | .held _ => 1
def uptoBulkAll {H : Type} : List (DataW H) → Nat
  | [] => 0
  | d :: r => uptoBulk d + uptoBulkAll r
def uptoBulkEntries {H : Type} : List (Lit × DataW H) → Nat
  | [] => 0
  | x :: r => uptoBulkEntry x + uptoBulkEntries r
def uptoBulkEntry {H : Type} : Lit × DataW H → Nat
  | (.string bytes, d) => bytes.length + uptoBulk d + 1
  | (_, d) => uptoBulk d + 1
 end
def uptoSmall : (H : Type) → List (DataW H) → Bool := fun _ ds => decide (uptoBulkAll ds ≤ 1048576)
def OpenSpec.upto (s : _root_.Go.ChangeSpec) : _root_.Go.OpenSpec := { _root_.Go.OpenSpec.ofChange s with cond := some uptoSmall }

/-- 'galloonlaw01.TrimEnds', WHERE WHAT IT READS IS OF BULK AT MOST 1048576: true; the input reads as it did. -/
def trimEndsUptoRow : OpenClaim := { program := "ytbdlhgdfnnbjiaa", sum := "8029438540ed10b648d933f009424c89799aa368a58c16aea7e5c58f9cd63f88", func := "galloon/galloonlaw01.TrimEnds", spec := "trimEnds", inPlace := ["internal/bytealg.IndexByteString", "internal/bytealg.IndexString"], unfollowed := true, recurses := true, named := ["internal/bytealg.MaxLen"], plainKeys := false, apart := false, narrowed := true }
def TrimEndsUptoSaid : Prop := trimEndsUptoRow.holds Try.pinned (OpenSpec.upto trimEndsSpec)

/-- 'galloonlaw01.TrimClosures', WHERE WHAT IT READS IS OF BULK AT MOST 1048576: true; the input reads as it did. -/
def trimClosuresUptoRow : OpenClaim := { program := "ytbdlhgdfnnbjiaa", sum := "8029438540ed10b648d933f009424c89799aa368a58c16aea7e5c58f9cd63f88", func := "galloon/galloonlaw01.TrimClosures", spec := "trimClosures", inPlace := ["internal/bytealg.IndexByteString", "internal/bytealg.IndexString"], unfollowed := true, recurses := true, named := ["internal/bytealg.MaxLen"], plainKeys := false, apart := false, narrowed := true }
def TrimClosuresUptoSaid : Prop := trimClosuresUptoRow.holds Try.pinned (OpenSpec.upto trimClosuresSpec)

/-- 'galloonlaw01.TrimTowers', WHERE WHAT IT READS IS OF BULK AT MOST 1048576: true; the input reads as it did. -/
def trimTowersUptoRow : OpenClaim := { program := "ytbdlhgdfnnbjiaa", sum := "8029438540ed10b648d933f009424c89799aa368a58c16aea7e5c58f9cd63f88", func := "galloon/galloonlaw01.TrimTowers", spec := "trimTowers", inPlace := ["internal/bytealg.IndexByteString", "internal/bytealg.IndexString"], unfollowed := true, recurses := true, named := ["internal/bytealg.MaxLen"], plainKeys := false, apart := false, narrowed := true }
def TrimTowersUptoSaid : Prop := trimTowersUptoRow.holds Try.pinned (OpenSpec.upto trimTowersSpec)

/-- 'galloonlaw01.TrimPalindromes', WHERE WHAT IT READS IS OF BULK AT MOST 1048576: true; the input reads as it did. -/
def trimPalindromesUptoRow : OpenClaim := { program := "ytbdlhgdfnnbjiaa", sum := "8029438540ed10b648d933f009424c89799aa368a58c16aea7e5c58f9cd63f88", func := "galloon/galloonlaw01.TrimPalindromes", spec := "trimPalindromes", inPlace := ["internal/bytealg.IndexByteString", "internal/bytealg.IndexString"], unfollowed := true, recurses := true, named := ["internal/bytealg.MaxLen"], plainKeys := false, apart := false, narrowed := true }
def TrimPalindromesUptoSaid : Prop := trimPalindromesUptoRow.holds Try.pinned (OpenSpec.upto trimPalindromesSpec)

/-- 'galloonlaw01.TrimInner', WHERE WHAT IT READS IS OF BULK AT MOST 1048576: true; the input reads as it did. -/
def trimInnerUptoRow : OpenClaim := { program := "ytbdlhgdfnnbjiaa", sum := "8029438540ed10b648d933f009424c89799aa368a58c16aea7e5c58f9cd63f88", func := "galloon/galloonlaw01.TrimInner", spec := "trimInner", inPlace := ["internal/bytealg.IndexByteString", "internal/bytealg.IndexString"], unfollowed := true, recurses := true, named := ["internal/bytealg.MaxLen"], plainKeys := false, apart := false, narrowed := true }
def TrimInnerUptoSaid : Prop := trimInnerUptoRow.holds Try.pinned (OpenSpec.upto trimInnerSpec)

/-- 'galloonlaw01.TrimChecks', WHERE WHAT IT READS IS OF BULK AT MOST 1048576: true; the input reads as it did. -/
def trimChecksUptoRow : OpenClaim := { program := "ytbdlhgdfnnbjiaa", sum := "8029438540ed10b648d933f009424c89799aa368a58c16aea7e5c58f9cd63f88", func := "galloon/galloonlaw01.TrimChecks", spec := "trimChecks", inPlace := ["internal/bytealg.IndexByteString", "internal/bytealg.IndexString"], unfollowed := true, recurses := true, named := ["internal/bytealg.MaxLen"], plainKeys := false, apart := false, narrowed := true }
def TrimChecksUptoSaid : Prop := trimChecksUptoRow.holds Try.pinned (OpenSpec.upto trimChecksSpec)

/-- 'galloonlaw01.TrimRich', WHERE WHAT IT READS IS OF BULK AT MOST 1048576: true; the input reads as it did. -/
def trimRichUptoRow : OpenClaim := { program := "ytbdlhgdfnnbjiaa", sum := "8029438540ed10b648d933f009424c89799aa368a58c16aea7e5c58f9cd63f88", func := "galloon/galloonlaw01.TrimRich", spec := "trimRich", inPlace := ["internal/bytealg.IndexByteString", "internal/bytealg.IndexString"], unfollowed := true, recurses := true, named := ["internal/bytealg.MaxLen"], plainKeys := false, apart := false, narrowed := true }
def TrimRichUptoSaid : Prop := trimRichUptoRow.holds Try.pinned (OpenSpec.upto trimRichSpec)

/-- 'galloonlaw01.TrimReversed', WHERE WHAT IT READS IS OF BULK AT MOST 1048576: true; the input reads as it did. -/
def trimReversedUptoRow : OpenClaim := { program := "ytbdlhgdfnnbjiaa", sum := "8029438540ed10b648d933f009424c89799aa368a58c16aea7e5c58f9cd63f88", func := "galloon/galloonlaw01.TrimReversed", spec := "trimReversed", inPlace := ["internal/bytealg.IndexByteString", "internal/bytealg.IndexString"], unfollowed := true, recurses := true, named := ["internal/bytealg.MaxLen"], plainKeys := false, apart := false, narrowed := true }
def TrimReversedUptoSaid : Prop := trimReversedUptoRow.holds Try.pinned (OpenSpec.upto trimReversedSpec)

/-- 'galloonlaw01.TrimFewest', WHERE WHAT IT READS IS OF BULK AT MOST 1048576: true; the input reads as it did. -/
def trimFewestUptoRow : OpenClaim := { program := "ytbdlhgdfnnbjiaa", sum := "8029438540ed10b648d933f009424c89799aa368a58c16aea7e5c58f9cd63f88", func := "galloon/galloonlaw01.TrimFewest", spec := "trimFewest", inPlace := ["internal/bytealg.IndexByteString", "internal/bytealg.IndexString"], unfollowed := true, recurses := true, named := ["internal/bytealg.MaxLen"], plainKeys := false, apart := false, narrowed := true }
def TrimFewestUptoSaid : Prop := trimFewestUptoRow.holds Try.pinned (OpenSpec.upto trimFewestSpec)

/-- 'galloonlaw01.TrimClosed', WHERE WHAT IT READS IS OF BULK AT MOST 1048576: true; the input reads as it did. -/
def trimClosedUptoRow : OpenClaim := { program := "ytbdlhgdfnnbjiaa", sum := "8029438540ed10b648d933f009424c89799aa368a58c16aea7e5c58f9cd63f88", func := "galloon/galloonlaw01.TrimClosed", spec := "trimClosed", inPlace := ["internal/bytealg.IndexByteString", "internal/bytealg.IndexString"], unfollowed := true, recurses := true, named := ["internal/bytealg.MaxLen"], plainKeys := false, apart := false, narrowed := true }
def TrimClosedUptoSaid : Prop := trimClosedUptoRow.holds Try.pinned (OpenSpec.upto trimClosedSpec)

/-- 'galloonlaw01.TrimLengths', WHERE WHAT IT READS IS OF BULK AT MOST 1048576: true; the input reads as it did. -/
def trimLengthsUptoRow : OpenClaim := { program := "ytbdlhgdfnnbjiaa", sum := "8029438540ed10b648d933f009424c89799aa368a58c16aea7e5c58f9cd63f88", func := "galloon/galloonlaw01.TrimLengths", spec := "trimLengths", inPlace := ["internal/bytealg.IndexByteString", "internal/bytealg.IndexString"], unfollowed := true, recurses := true, named := ["internal/bytealg.MaxLen"], plainKeys := false, apart := false, narrowed := true }
def TrimLengthsUptoSaid : Prop := trimLengthsUptoRow.holds Try.pinned (OpenSpec.upto trimLengthsSpec)

/-- 'galloonlaw01.TrimOwn', WHERE WHAT IT READS IS OF BULK AT MOST 1048576: true; the input reads as it did. -/
def trimOwnUptoRow : OpenClaim := { program := "ytbdlhgdfnnbjiaa", sum := "8029438540ed10b648d933f009424c89799aa368a58c16aea7e5c58f9cd63f88", func := "galloon/galloonlaw01.TrimOwn", spec := "trimOwn", inPlace := ["internal/bytealg.IndexByteString", "internal/bytealg.IndexString"], unfollowed := true, recurses := true, named := ["internal/bytealg.MaxLen"], plainKeys := false, apart := false, narrowed := true }
def TrimOwnUptoSaid : Prop := trimOwnUptoRow.holds Try.pinned (OpenSpec.upto trimOwnSpec)

/-- 'galloonlaw01.TrimParts', WHERE WHAT IT READS IS OF BULK AT MOST 1048576: true; the input reads as it did. -/
def trimPartsUptoRow : OpenClaim := { program := "ytbdlhgdfnnbjiaa", sum := "8029438540ed10b648d933f009424c89799aa368a58c16aea7e5c58f9cd63f88", func := "galloon/galloonlaw01.TrimParts", spec := "trimParts", inPlace := ["internal/bytealg.IndexByteString", "internal/bytealg.IndexString"], unfollowed := true, recurses := true, named := ["internal/bytealg.MaxLen"], plainKeys := false, apart := false, narrowed := true }
def TrimPartsUptoSaid : Prop := trimPartsUptoRow.holds Try.pinned (OpenSpec.upto trimPartsSpec)

end Rows
end Go.Proofs.Ytbdlhgdfnnbjiaa
