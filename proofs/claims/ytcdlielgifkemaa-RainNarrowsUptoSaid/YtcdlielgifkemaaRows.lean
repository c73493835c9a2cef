/-
  No cell of these rows narrows 'for every input' (looked for: loops, veiled, ifaces, maps, wideKeys, modest, calm, conditions, laid).
  DERIVED. THE GIVEN ROWS OF THIS SEAT. 5 by the template 'for every input the law returns true; each argument reads behind the call as it read before'; 0 by the template 'total and deterministic' (their statements: YtcdlielgifkemaaTotals.lean).
  GIVEN WITH THE SEED: the statements are not yours to turn. If you find one false, say at which input.
  Laid BY PROGRAM, IN A SANDBOX (cutbox-rows.mjs): the forced cells as the released guide's own fill.sh prints them over the translation 6614b75ebe47f0b2… (all of the seat's roots in one cut). By AI agents, Wed Nov 11 2026. No macro, syntax, notation, axiom, sorry.
-/
import Derived.Test.YtcdlielgifkemaaChecked
import GoSem.Claim
import GoSem.ClaimJoined
import GoSem.ClaimMapViews
import Derived.JoinedTies
import Derived.KernelRfl
namespace Go.Proofs.Ytcdlielgifkemaa
/- THE CELL 'sum', in the pinned program and in every row, IS THE sha256 OF THE DUMP (.gsa) THAT YtcdlielgifkemaaProg.lean LOADS. Nothing in Lean hashes anything: it is a label: what it is worth is what the hold of that sum in a sandbox is worth. -/
noncomputable def Try.pinned : Pinned := { name := "ytcdlielgifkemaa", sum := "6614b75ebe47f0b235199838c5f8d1157186add779449f6fc2a2d4050e711f41", checked := Try.checked }
namespace Rows
def none {H : Type} : Left H := { results := [], args := [] }

/-- 'bournelaw26.RainSums': WHATEVER THE INPUT: true; the input reads as it did. -/
def rainSumsSpec : ChangeSpec := { name := "rainSums", fn := fun _ => fun
  | [d1, d2, d3] => { results := [.lit (.bool true)], args := [d1, d2, d3] }
  | _ => none }
def rainSumsRow : OpenClaim := { program := "ytcdlielgifkemaa", sum := "6614b75ebe47f0b235199838c5f8d1157186add779449f6fc2a2d4050e711f41", func := "bourne/bournelaw26.RainSums", spec := "rainSums", unfollowed := true, recurses := true, named := ["math/bits.divideError", "math/bits.overflowError"], apart := false }
def RainSumsSaid : Prop := rainSumsRow.holds Try.pinned (OpenSpec.ofChange rainSumsSpec)

/-- ITS FALSE NEIGHBOUR: 'it returns false'. Refute it at one input. -/
def rainSumsWrong : ChangeSpec := { name := "rainSums", fn := fun _ => fun
  | [d1, d2, d3] => { results := [.lit (.bool false)], args := [d1, d2, d3] }
  | _ => none }
def RainSumsWrongFalsely : Prop := rainSumsRow.holds Try.pinned (OpenSpec.ofChange rainSumsWrong)

/-- 'bournelaw26.RainAdds': WHATEVER THE INPUT: true; the input reads as it did. -/
def rainAddsSpec : ChangeSpec := { name := "rainAdds", fn := fun _ => fun
  | [d1, d2, d3] => { results := [.lit (.bool true)], args := [d1, d2, d3] }
  | _ => none }
def rainAddsRow : OpenClaim := { program := "ytcdlielgifkemaa", sum := "6614b75ebe47f0b235199838c5f8d1157186add779449f6fc2a2d4050e711f41", func := "bourne/bournelaw26.RainAdds", spec := "rainAdds", unfollowed := true, recurses := true, named := ["math/bits.divideError", "math/bits.overflowError"], apart := false }
def RainAddsSaid : Prop := rainAddsRow.holds Try.pinned (OpenSpec.ofChange rainAddsSpec)

/-- ITS FALSE NEIGHBOUR: 'it returns false'. Refute it at one input. -/
def rainAddsWrong : ChangeSpec := { name := "rainAdds", fn := fun _ => fun
  | [d1, d2, d3] => { results := [.lit (.bool false)], args := [d1, d2, d3] }
  | _ => none }
def RainAddsWrongFalsely : Prop := rainAddsRow.holds Try.pinned (OpenSpec.ofChange rainAddsWrong)

/-- 'bournelaw26.RainTells': WHATEVER THE INPUT: true; the input reads as it did. -/
def rainTellsSpec : ChangeSpec := { name := "rainTells", fn := fun _ => fun
  | [d1, d2, d3, d4, d5] => { results := [.lit (.bool true)], args := [d1, d2, d3, d4, d5] }
  | _ => none }
def rainTellsRow : OpenClaim := { program := "ytcdlielgifkemaa", sum := "6614b75ebe47f0b235199838c5f8d1157186add779449f6fc2a2d4050e711f41", func := "bourne/bournelaw26.RainTells", spec := "rainTells", unfollowed := true, recurses := true, named := ["math/bits.divideError", "math/bits.overflowError"], apart := false }
def RainTellsSaid : Prop := rainTellsRow.holds Try.pinned (OpenSpec.ofChange rainTellsSpec)

/-- ITS FALSE NEIGHBOUR: 'it returns false'. Refute it at one input. -/
def rainTellsWrong : ChangeSpec := { name := "rainTells", fn := fun _ => fun
  | [d1, d2, d3, d4, d5] => { results := [.lit (.bool false)], args := [d1, d2, d3, d4, d5] }
  | _ => none }
def RainTellsWrongFalsely : Prop := rainTellsRow.holds Try.pinned (OpenSpec.ofChange rainTellsWrong)

/-- 'bournelaw26.RainNarrows': WHATEVER THE INPUT: true; the input reads as it did. -/
def rainNarrowsSpec : ChangeSpec := { name := "rainNarrows", fn := fun _ => fun
  | [d1, d2, d3, d4, d5] => { results := [.lit (.bool true)], args := [d1, d2, d3, d4, d5] }
  | _ => none }
def rainNarrowsRow : OpenClaim := { program := "ytcdlielgifkemaa", sum := "6614b75ebe47f0b235199838c5f8d1157186add779449f6fc2a2d4050e711f41", func := "bourne/bournelaw26.RainNarrows", spec := "rainNarrows", unfollowed := true, recurses := true, named := ["math/bits.divideError", "math/bits.overflowError"], apart := false }
def RainNarrowsSaid : Prop := rainNarrowsRow.holds Try.pinned (OpenSpec.ofChange rainNarrowsSpec)

/-- ITS FALSE NEIGHBOUR: 'it returns false'. Refute it at one input. -/
def rainNarrowsWrong : ChangeSpec := { name := "rainNarrows", fn := fun _ => fun
  | [d1, d2, d3, d4, d5] => { results := [.lit (.bool false)], args := [d1, d2, d3, d4, d5] }
  | _ => none }
def RainNarrowsWrongFalsely : Prop := rainNarrowsRow.holds Try.pinned (OpenSpec.ofChange rainNarrowsWrong)

/-- 'bournelaw26.RainEncloses': WHATEVER THE INPUT: true; the input reads as it did. -/
def rainEnclosesSpec : ChangeSpec := { name := "rainEncloses", fn := fun _ => fun
  | [d1, d2, d3, d4, d5] => { results := [.lit (.bool true)], args := [d1, d2, d3, d4, d5] }
  | _ => none }
def rainEnclosesRow : OpenClaim := { program := "ytcdlielgifkemaa", sum := "6614b75ebe47f0b235199838c5f8d1157186add779449f6fc2a2d4050e711f41", func := "bourne/bournelaw26.RainEncloses", spec := "rainEncloses", unfollowed := true, recurses := true, named := ["math/bits.divideError", "math/bits.overflowError"], apart := false }
def RainEnclosesSaid : Prop := rainEnclosesRow.holds Try.pinned (OpenSpec.ofChange rainEnclosesSpec)

/-- ITS FALSE NEIGHBOUR: 'it returns false'. Refute it at one input. -/
def rainEnclosesWrong : ChangeSpec := { name := "rainEncloses", fn := fun _ => fun
  | [d1, d2, d3, d4, d5] => { results := [.lit (.bool false)], args := [d1, d2, d3, d4, d5] }
  | _ => none }
def RainEnclosesWrongFalsely : Prop := rainEnclosesRow.holds Try.pinned (OpenSpec.ofChange rainEnclosesWrong)

/- THE SECOND FORM. 'bulk': how many values and letters a reading holds, each counted each time it is reached (what is shared counts as often as it is met; a slice's spare places count too). A statement '..UptoSaid' is the law's where the arguments, and the package variables that the reading takes, are together of bulk at most 1048576: NARROWER than '..Said'. Prove '..Said' where nothing that the law and all that it calls make is longer than what came in: it says more and counts as full. Else prove '..UptoSaid'. A law counts once. -/
mutual
def uptoBulk {H : Type} : DataW H → Nat
  | .lit (.string bytes) => bytes.length + 1
  | .lit _ => 1
  | .nil => 1
  | .ptr d => uptoBulk d + 1
  | .slice elems spare => uptoBulkAll elems + uptoBulkAll spare + 1
  | .agg parts => uptoBulkAll parts + 1
  | .iface _ d => uptoBulk d + 1
  | .map entries => uptoBulkEntries entries + 1
  | .held _ => 1
def uptoBulkAll {H : Type} : List (DataW H) → Nat
  | [] => 0
  | d :: r => uptoBulk d + uptoBulkAll r
def uptoBulkEntries {H : Type} : List (Lit × DataW H) → Nat
  | [] => 0
  | x :: r => uptoBulkEntry x + uptoBulkEntries r
def uptoBulkEntry {H : Type} : Lit × DataW H → Nat
  | (.string bytes, d) => bytes.length + uptoBulk d + 1
  | (_, d) => uptoBulk d + 1
 end
def uptoSmall : (H : Type) → List (DataW H) → Bool := fun _ ds => decide (uptoBulkAll ds ≤ 1048576)
def OpenSpec.upto (s : _root_.Go.ChangeSpec) : _root_.Go.OpenSpec := { _root_.Go.OpenSpec.ofChange s with cond := some uptoSmall }

/-- 'bournelaw26.RainSums', WHERE WHAT IT READS IS OF BULK AT MOST 1048576: true; the input reads as it did. -/
def rainSumsUptoRow : OpenClaim := { program := "ytcdlielgifkemaa", sum := "6614b75ebe47f0b235199838c5f8d1157186add779449f6fc2a2d4050e711f41", func := "bourne/bournelaw26.RainSums", spec := "rainSums", unfollowed := true, recurses := true, named := ["math/bits.divideError", "math/bits.overflowError"], apart := false, narrowed := true }
def RainSumsUptoSaid : Prop := rainSumsUptoRow.holds Try.pinned (OpenSpec.upto rainSumsSpec)

/-- 'bournelaw26.RainAdds', WHERE WHAT IT READS IS OF BULK AT MOST 1048576: true; the input reads as it did. -/
def rainAddsUptoRow : OpenClaim := { program := "ytcdlielgifkemaa", sum := "6614b75ebe47f0b235199838c5f8d1157186add779449f6fc2a2d4050e711f41", func := "bourne/bournelaw26.RainAdds", spec := "rainAdds", unfollowed := true, recurses := true, named := ["math/bits.divideError", "math/bits.overflowError"], apart := false, narrowed := true }
def RainAddsUptoSaid : Prop := rainAddsUptoRow.holds Try.pinned (OpenSpec.upto rainAddsSpec)

/-- 'bournelaw26.RainTells', WHERE WHAT IT READS IS OF BULK AT MOST 1048576: true; the input reads as it did. -/
def rainTellsUptoRow : OpenClaim := { program := "ytcdlielgifkemaa", sum := "6614b75ebe47f0b235199838c5f8d1157186add779449f6fc2a2d4050e711f41", func := "bourne/bournelaw26.RainTells", spec := "rainTells", unfollowed := true, recurses := true, named := ["math/bits.divideError", "math/bits.overflowError"], apart := false, narrowed := true }
def RainTellsUptoSaid : Prop := rainTellsUptoRow.holds Try.pinned (OpenSpec.upto rainTellsSpec)

/-- 'bournelaw26.RainNarrows', WHERE WHAT IT READS IS OF BULK AT MOST 1048576: true; the input reads as it did. -/
def rainNarrowsUptoRow : OpenClaim := { program := "ytcdlielgifkemaa", sum := "6614b75ebe47f0b235199838c5f8d1157186add779449f6fc2a2d4050e711f41", func := "bourne/bournelaw26.RainNarrows", spec := "rainNarrows", unfollowed := true, recurses := true, named := ["math/bits.divideError", "math/bits.overflowError"], apart := false, narrowed := true }
def RainNarrowsUptoSaid : Prop := rainNarrowsUptoRow.holds Try.pinned (OpenSpec.upto rainNarrowsSpec)

/-- 'bournelaw26.RainEncloses', WHERE WHAT IT READS IS OF BULK AT MOST 1048576: true; the input reads as it did. -/
def rainEnclosesUptoRow : OpenClaim := { program := "ytcdlielgifkemaa", sum := "6614b75ebe47f0b235199838c5f8d1157186add779449f6fc2a2d4050e711f41", func := "bourne/bournelaw26.RainEncloses", spec := "rainEncloses", unfollowed := true, recurses := true, named := ["math/bits.divideError", "math/bits.overflowError"], apart := false, narrowed := true }
def RainEnclosesUptoSaid : Prop := rainEnclosesUptoRow.holds Try.pinned (OpenSpec.upto rainEnclosesSpec)

end Rows
end Go.Proofs.Ytcdlielgifkemaa
