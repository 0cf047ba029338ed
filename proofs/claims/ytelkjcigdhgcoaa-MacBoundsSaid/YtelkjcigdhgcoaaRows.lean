/-
  No cell of these rows narrows 'for every input' (looked for: loops, veiled, ifaces, maps, wideKeys, modest, calm, conditions, laid).
  DERIVED. THE GIVEN ROWS OF THIS SEAT. 11 by the template 'for every input the law returns true; each argument reads behind the call as it read before'; 0 by the template 'total and deterministic' (their statements: YtelkjcigdhgcoaaTotals.lean).
  GIVEN WITH THE SEED: the statements are not yours to turn. If you find one false, say at which input.
  Laid BY PROGRAM, IN A SANDBOX (cutbox-rows.mjs): the forced cells as the released guide's own fill.sh prints them over the translation da9a7d6cefa25e6e… (all of the seat's roots in one cut). By AI agents, Wed Nov 11 2026. No macro, syntax, notation, axiom, sorry.
-/
import Derived.Test.YtelkjcigdhgcoaaChecked
import GoSem.Claim
import GoSem.ClaimJoined
import GoSem.ClaimMapViews
import Derived.JoinedTies
import Derived.KernelRfl
namespace Go.Proofs.Ytelkjcigdhgcoaa
/- THE CELL 'sum', in the pinned program and in every row, IS THE sha256 OF THE DUMP (.gsa) THAT YtelkjcigdhgcoaaProg.lean LOADS. Nothing in Lean hashes anything: it is a label: what it is worth is what the hold of that sum in a sandbox is worth. -/
noncomputable def Try.pinned : Pinned := { name := "ytelkjcigdhgcoaa", sum := "da9a7d6cefa25e6eb0fff7dbd51f13cb6dd59a9ddd31a1a583352e856dd13696", checked := Try.checked }
namespace Rows
def none {H : Type} : Left H := { results := [], args := [] }

/-- 'anchoritelaw02.ShaConstants': WHATEVER THE INPUT: true; the input reads as it did. -/
def shaConstantsSpec : ChangeSpec := { name := "shaConstants", fn := fun _ => fun
  | [d] => { results := [.lit (.bool true)], args := [d] }
  | _ => none }
def shaConstantsRow : OpenClaim := { program := "ytelkjcigdhgcoaa", sum := "da9a7d6cefa25e6eb0fff7dbd51f13cb6dd59a9ddd31a1a583352e856dd13696", func := "anchorite/anchoritelaw02.ShaConstants", spec := "shaConstants", inPlace := ["math/bits.Add64"], unfollowed := true, recurses := true, apart := false }
def ShaConstantsSaid : Prop := shaConstantsRow.holds Try.pinned (OpenSpec.ofChange shaConstantsSpec)

/-- ITS FALSE NEIGHBOUR: 'it returns false'. Refute it at one input. -/
def shaConstantsWrong : ChangeSpec := { name := "shaConstants", fn := fun _ => fun
  | [d] => { results := [.lit (.bool false)], args := [d] }
  | _ => none }
def ShaConstantsWrongFalsely : Prop := shaConstantsRow.holds Try.pinned (OpenSpec.ofChange shaConstantsWrong)

/-- 'anchoritelaw02.ShaSums': WHATEVER THE INPUT: true; the input reads as it did. -/
def shaSumsSpec : ChangeSpec := { name := "shaSums", fn := fun _ => fun
  | [d] => { results := [.lit (.bool true)], args := [d] }
  | _ => none }
def shaSumsRow : OpenClaim := { program := "ytelkjcigdhgcoaa", sum := "da9a7d6cefa25e6eb0fff7dbd51f13cb6dd59a9ddd31a1a583352e856dd13696", func := "anchorite/anchoritelaw02.ShaSums", spec := "shaSums", inPlace := ["math/bits.Add64"], unfollowed := true, recurses := true, apart := false }
def ShaSumsSaid : Prop := shaSumsRow.holds Try.pinned (OpenSpec.ofChange shaSumsSpec)

/-- ITS FALSE NEIGHBOUR: 'it returns false'. Refute it at one input. -/
def shaSumsWrong : ChangeSpec := { name := "shaSums", fn := fun _ => fun
  | [d] => { results := [.lit (.bool false)], args := [d] }
  | _ => none }
def ShaSumsWrongFalsely : Prop := shaSumsRow.holds Try.pinned (OpenSpec.ofChange shaSumsWrong)

/-- 'anchoritelaw02.ShaPresses': WHATEVER THE INPUT: true; the input reads as it did. -/
def shaPressesSpec : ChangeSpec := { name := "shaPresses", fn := fun _ => fun
  | [d1, d2] => { results := [.lit (.bool true)], args := [d1, d2] }
  | _ => none }
def shaPressesRow : OpenClaim := { program := "ytelkjcigdhgcoaa", sum := "da9a7d6cefa25e6eb0fff7dbd51f13cb6dd59a9ddd31a1a583352e856dd13696", func := "anchorite/anchoritelaw02.ShaPresses", spec := "shaPresses", inPlace := ["math/bits.Add64"], unfollowed := true, recurses := true, apart := false }
def ShaPressesSaid : Prop := shaPressesRow.holds Try.pinned (OpenSpec.ofChange shaPressesSpec)

/-- ITS FALSE NEIGHBOUR: 'it returns false'. Refute it at one input. -/
def shaPressesWrong : ChangeSpec := { name := "shaPresses", fn := fun _ => fun
  | [d1, d2] => { results := [.lit (.bool false)], args := [d1, d2] }
  | _ => none }
def ShaPressesWrongFalsely : Prop := shaPressesRow.holds Try.pinned (OpenSpec.ofChange shaPressesWrong)

/-- 'anchoritelaw02.ShaParts': WHATEVER THE INPUT: true; the input reads as it did. -/
def shaPartsSpec : ChangeSpec := { name := "shaParts", fn := fun _ => fun
  | [d1, d2] => { results := [.lit (.bool true)], args := [d1, d2] }
  | _ => none }
def shaPartsRow : OpenClaim := { program := "ytelkjcigdhgcoaa", sum := "da9a7d6cefa25e6eb0fff7dbd51f13cb6dd59a9ddd31a1a583352e856dd13696", func := "anchorite/anchoritelaw02.ShaParts", spec := "shaParts", inPlace := ["math/bits.Add64"], unfollowed := true, recurses := true, apart := false }
def ShaPartsSaid : Prop := shaPartsRow.holds Try.pinned (OpenSpec.ofChange shaPartsSpec)

/-- ITS FALSE NEIGHBOUR: 'it returns false'. Refute it at one input. -/
def shaPartsWrong : ChangeSpec := { name := "shaParts", fn := fun _ => fun
  | [d1, d2] => { results := [.lit (.bool false)], args := [d1, d2] }
  | _ => none }
def ShaPartsWrongFalsely : Prop := shaPartsRow.holds Try.pinned (OpenSpec.ofChange shaPartsWrong)

/-- 'anchoritelaw02.ShaBlocks': WHATEVER THE INPUT: true; the input reads as it did. -/
def shaBlocksSpec : ChangeSpec := { name := "shaBlocks", fn := fun _ => fun
  | [d] => { results := [.lit (.bool true)], args := [d] }
  | _ => none }
def shaBlocksRow : OpenClaim := { program := "ytelkjcigdhgcoaa", sum := "da9a7d6cefa25e6eb0fff7dbd51f13cb6dd59a9ddd31a1a583352e856dd13696", func := "anchorite/anchoritelaw02.ShaBlocks", spec := "shaBlocks", inPlace := ["math/bits.Add64"], unfollowed := true, recurses := true, apart := false }
def ShaBlocksSaid : Prop := shaBlocksRow.holds Try.pinned (OpenSpec.ofChange shaBlocksSpec)

/-- ITS FALSE NEIGHBOUR: 'it returns false'. Refute it at one input. -/
def shaBlocksWrong : ChangeSpec := { name := "shaBlocks", fn := fun _ => fun
  | [d] => { results := [.lit (.bool false)], args := [d] }
  | _ => none }
def ShaBlocksWrongFalsely : Prop := shaBlocksRow.holds Try.pinned (OpenSpec.ofChange shaBlocksWrong)

/-- 'anchoritelaw02.ShaNil': WHATEVER THE INPUT: true; the input reads as it did. -/
def shaNilSpec : ChangeSpec := { name := "shaNil", fn := fun _ => fun
  | [] => { results := [.lit (.bool true)], args := [] }
  | _ => none }
def shaNilRow : OpenClaim := { program := "ytelkjcigdhgcoaa", sum := "da9a7d6cefa25e6eb0fff7dbd51f13cb6dd59a9ddd31a1a583352e856dd13696", func := "anchorite/anchoritelaw02.ShaNil", spec := "shaNil", inPlace := ["math/bits.Add64"], unfollowed := true, recurses := true, apart := false }
def ShaNilSaid : Prop := shaNilRow.holds Try.pinned (OpenSpec.ofChange shaNilSpec)

/-- ITS FALSE NEIGHBOUR: 'it returns false'. Refute it at one input. -/
def shaNilWrong : ChangeSpec := { name := "shaNil", fn := fun _ => fun
  | [] => { results := [.lit (.bool false)], args := [] }
  | _ => none }
def ShaNilWrongFalsely : Prop := shaNilRow.holds Try.pinned (OpenSpec.ofChange shaNilWrong)

/-- 'anchoritelaw03.MacTags': WHATEVER THE INPUT: true; the input reads as it did. -/
def macTagsSpec : ChangeSpec := { name := "macTags", fn := fun _ => fun
  | [d1, d2, d3] => { results := [.lit (.bool true)], args := [d1, d2, d3] }
  | _ => none }
def macTagsRow : OpenClaim := { program := "ytelkjcigdhgcoaa", sum := "da9a7d6cefa25e6eb0fff7dbd51f13cb6dd59a9ddd31a1a583352e856dd13696", func := "anchorite/anchoritelaw03.MacTags", spec := "macTags", inPlace := ["math/bits.Add64"], unfollowed := true, recurses := true, apart := false }
def MacTagsSaid : Prop := macTagsRow.holds Try.pinned (OpenSpec.ofChange macTagsSpec)

/-- ITS FALSE NEIGHBOUR: 'it returns false'. Refute it at one input. -/
def macTagsWrong : ChangeSpec := { name := "macTags", fn := fun _ => fun
  | [d1, d2, d3] => { results := [.lit (.bool false)], args := [d1, d2, d3] }
  | _ => none }
def MacTagsWrongFalsely : Prop := macTagsRow.holds Try.pinned (OpenSpec.ofChange macTagsWrong)

/-- 'anchoritelaw03.MacDerives': WHATEVER THE INPUT: true; the input reads as it did. -/
def macDerivesSpec : ChangeSpec := { name := "macDerives", fn := fun _ => fun
  | [d1, d2, d3] => { results := [.lit (.bool true)], args := [d1, d2, d3] }
  | _ => none }
def macDerivesRow : OpenClaim := { program := "ytelkjcigdhgcoaa", sum := "da9a7d6cefa25e6eb0fff7dbd51f13cb6dd59a9ddd31a1a583352e856dd13696", func := "anchorite/anchoritelaw03.MacDerives", spec := "macDerives", inPlace := ["math/bits.Add64"], unfollowed := true, recurses := true, apart := false }
def MacDerivesSaid : Prop := macDerivesRow.holds Try.pinned (OpenSpec.ofChange macDerivesSpec)

/-- ITS FALSE NEIGHBOUR: 'it returns false'. Refute it at one input. -/
def macDerivesWrong : ChangeSpec := { name := "macDerives", fn := fun _ => fun
  | [d1, d2, d3] => { results := [.lit (.bool false)], args := [d1, d2, d3] }
  | _ => none }
def MacDerivesWrongFalsely : Prop := macDerivesRow.holds Try.pinned (OpenSpec.ofChange macDerivesWrong)

/-- 'anchoritelaw03.MacKeys': WHATEVER THE INPUT: true; the input reads as it did. -/
def macKeysSpec : ChangeSpec := { name := "macKeys", fn := fun _ => fun
  | [d1, d2, d3] => { results := [.lit (.bool true)], args := [d1, d2, d3] }
  | _ => none }
def macKeysRow : OpenClaim := { program := "ytelkjcigdhgcoaa", sum := "da9a7d6cefa25e6eb0fff7dbd51f13cb6dd59a9ddd31a1a583352e856dd13696", func := "anchorite/anchoritelaw03.MacKeys", spec := "macKeys", inPlace := ["math/bits.Add64"], unfollowed := true, recurses := true, apart := false }
def MacKeysSaid : Prop := macKeysRow.holds Try.pinned (OpenSpec.ofChange macKeysSpec)

/-- ITS FALSE NEIGHBOUR: 'it returns false'. Refute it at one input. -/
def macKeysWrong : ChangeSpec := { name := "macKeys", fn := fun _ => fun
  | [d1, d2, d3] => { results := [.lit (.bool false)], args := [d1, d2, d3] }
  | _ => none }
def MacKeysWrongFalsely : Prop := macKeysRow.holds Try.pinned (OpenSpec.ofChange macKeysWrong)

/-- 'anchoritelaw03.MacBounds': WHATEVER THE INPUT: true; the input reads as it did. -/
def macBoundsSpec : ChangeSpec := { name := "macBounds", fn := fun _ => fun
  | [] => { results := [.lit (.bool true)], args := [] }
  | _ => none }
def macBoundsRow : OpenClaim := { program := "ytelkjcigdhgcoaa", sum := "da9a7d6cefa25e6eb0fff7dbd51f13cb6dd59a9ddd31a1a583352e856dd13696", func := "anchorite/anchoritelaw03.MacBounds", spec := "macBounds", inPlace := ["math/bits.Add64"], unfollowed := true, recurses := true, apart := false }
def MacBoundsSaid : Prop := macBoundsRow.holds Try.pinned (OpenSpec.ofChange macBoundsSpec)

/-- ITS FALSE NEIGHBOUR: 'it returns false'. Refute it at one input. -/
def macBoundsWrong : ChangeSpec := { name := "macBounds", fn := fun _ => fun
  | [] => { results := [.lit (.bool false)], args := [] }
  | _ => none }
def MacBoundsWrongFalsely : Prop := macBoundsRow.holds Try.pinned (OpenSpec.ofChange macBoundsWrong)

/-- 'anchoritelaw03.MacEquals': WHATEVER THE INPUT: true; the input reads as it did. -/
def macEqualsSpec : ChangeSpec := { name := "macEquals", fn := fun _ => fun
  | [d1, d2] => { results := [.lit (.bool true)], args := [d1, d2] }
  | _ => none }
def macEqualsRow : OpenClaim := { program := "ytelkjcigdhgcoaa", sum := "da9a7d6cefa25e6eb0fff7dbd51f13cb6dd59a9ddd31a1a583352e856dd13696", func := "anchorite/anchoritelaw03.MacEquals", spec := "macEquals", inPlace := ["math/bits.Add64"], unfollowed := true, recurses := true, apart := false }
def MacEqualsSaid : Prop := macEqualsRow.holds Try.pinned (OpenSpec.ofChange macEqualsSpec)

/-- ITS FALSE NEIGHBOUR: 'it returns false'. Refute it at one input. -/
def macEqualsWrong : ChangeSpec := { name := "macEquals", fn := fun _ => fun
  | [d1, d2] => { results := [.lit (.bool false)], args := [d1, d2] }
  | _ => none }
def MacEqualsWrongFalsely : Prop := macEqualsRow.holds Try.pinned (OpenSpec.ofChange macEqualsWrong)

/- THE SECOND FORM. 'bulk': how many values and letters a reading holds, each counted each time it is reached (what is shared counts as often as it is met; a slice's spare places count too). A statement '..UptoSaid' is the law's where the arguments, and the package variables that the reading takes, are together of bulk at most 1048576: NARROWER than '..Said'. Prove '..Said' where nothing that the law and all that it calls make is longer than what came in: it says more and counts as full. Else prove '..UptoSaid'. A law counts once. -/
mutual
def uptoBulk {H : Type} : DataW H → Nat
  | .lit (.string bytes) => bytes.length + 1
  | .lit _ => 1
  | .nil => 1
  | .ptr d => uptoBulk d + 1
  | .slice elems spare => uptoBulkAll elems + uptoBulkAll spare + 1
  | .agg parts => uptoBulkAll parts + 1
  | .iface _ d => uptoBulk d + 1
  | .map entries => uptoBulkEntries entries + 1
  | .held _ => 1
def uptoBulkAll {H : Type} : List (DataW H) → Nat
  | [] => 0
  | d :: r => uptoBulk d + uptoBulkAll r
def uptoBulkEntries {H : Type} : List (Lit × DataW H) → Nat
  | [] => 0
  | x :: r => uptoBulkEntry x + uptoBulkEntries r
def uptoBulkEntry {H : Type} : Lit × DataW H → Nat
  | (.string bytes, d) => bytes.length + uptoBulk d + 1
  | (_, d) => uptoBulk d + 1
 end
def uptoSmall : (H : Type) → List (DataW H) → Bool := fun _ ds => decide (uptoBulkAll ds ≤ 1048576)
def OpenSpec.upto (s : _root_.Go.ChangeSpec) : _root_.Go.OpenSpec := { _root_.Go.OpenSpec.ofChange s with cond := some uptoSmall }

/-- 'anchoritelaw02.ShaConstants', WHERE WHAT IT READS IS OF BULK AT MOST 1048576: true; the input reads as it did. -/
def shaConstantsUptoRow : OpenClaim := { program := "ytelkjcigdhgcoaa", sum := "da9a7d6cefa25e6eb0fff7dbd51f13cb6dd59a9ddd31a1a583352e856dd13696", func := "anchorite/anchoritelaw02.ShaConstants", spec := "shaConstants", inPlace := ["math/bits.Add64"], unfollowed := true, recurses := true, apart := false, narrowed := true }
def ShaConstantsUptoSaid : Prop := shaConstantsUptoRow.holds Try.pinned (OpenSpec.upto shaConstantsSpec)

/-- 'anchoritelaw02.ShaSums', WHERE WHAT IT READS IS OF BULK AT MOST 1048576: true; the input reads as it did. -/
def shaSumsUptoRow : OpenClaim := { program := "ytelkjcigdhgcoaa", sum := "da9a7d6cefa25e6eb0fff7dbd51f13cb6dd59a9ddd31a1a583352e856dd13696", func := "anchorite/anchoritelaw02.ShaSums", spec := "shaSums", inPlace := ["math/bits.Add64"], unfollowed := true, recurses := true, apart := false, narrowed := true }
def ShaSumsUptoSaid : Prop := shaSumsUptoRow.holds Try.pinned (OpenSpec.upto shaSumsSpec)

/-- 'anchoritelaw02.ShaPresses', WHERE WHAT IT READS IS OF BULK AT MOST 1048576: true; the input reads as it did. -/
def shaPressesUptoRow : OpenClaim := { program := "ytelkjcigdhgcoaa", sum := "da9a7d6cefa25e6eb0fff7dbd51f13cb6dd59a9ddd31a1a583352e856dd13696", func := "anchorite/anchoritelaw02.ShaPresses", spec := "shaPresses", inPlace := ["math/bits.Add64"], unfollowed := true, recurses := true, apart := false, narrowed := true }
def ShaPressesUptoSaid : Prop := shaPressesUptoRow.holds Try.pinned (OpenSpec.upto shaPressesSpec)

/-- 'anchoritelaw02.ShaParts', WHERE WHAT IT READS IS OF BULK AT MOST 1048576: true; the input reads as it did. -/
def shaPartsUptoRow : OpenClaim := { program := "ytelkjcigdhgcoaa", sum := "da9a7d6cefa25e6eb0fff7dbd51f13cb6dd59a9ddd31a1a583352e856dd13696", func := "anchorite/anchoritelaw02.ShaParts", spec := "shaParts", inPlace := ["math/bits.Add64"], unfollowed := true, recurses := true, apart := false, narrowed := true }
def ShaPartsUptoSaid : Prop := shaPartsUptoRow.holds Try.pinned (OpenSpec.upto shaPartsSpec)

/-- 'anchoritelaw02.ShaBlocks', WHERE WHAT IT READS IS OF BULK AT MOST 1048576: true; the input reads as it did. -/
def shaBlocksUptoRow : OpenClaim := { program := "ytelkjcigdhgcoaa", sum := "da9a7d6cefa25e6eb0fff7dbd51f13cb6dd59a9ddd31a1a583352e856dd13696", func := "anchorite/anchoritelaw02.ShaBlocks", spec := "shaBlocks", inPlace := ["math/bits.Add64"], unfollowed := true, recurses := true, apart := false, narrowed := true }
def ShaBlocksUptoSaid : Prop := shaBlocksUptoRow.holds Try.pinned (OpenSpec.upto shaBlocksSpec)

/-- 'anchoritelaw02.ShaNil', WHERE WHAT IT READS IS OF BULK AT MOST 1048576: true; the input reads as it did. -/
def shaNilUptoRow : OpenClaim := { program := "ytelkjcigdhgcoaa", sum := "da9a7d6cefa25e6eb0fff7dbd51f13cb6dd59a9ddd31a1a583352e856dd13696", func := "anchorite/anchoritelaw02.ShaNil", spec := "shaNil", inPlace := ["math/bits.Add64"], unfollowed := true, recurses := true, apart := false, narrowed := true }
def ShaNilUptoSaid : Prop := shaNilUptoRow.holds Try.pinned (OpenSpec.upto shaNilSpec)

/-- 'anchoritelaw03.MacTags', WHERE WHAT IT READS IS OF BULK AT MOST 1048576: true; the input reads as it did. -/
def macTagsUptoRow : OpenClaim := { program := "ytelkjcigdhgcoaa", sum := "da9a7d6cefa25e6eb0fff7dbd51f13cb6dd59a9ddd31a1a583352e856dd13696", func := "anchorite/anchoritelaw03.MacTags", spec := "macTags", inPlace := ["math/bits.Add64"], unfollowed := true, recurses := true, apart := false, narrowed := true }
def MacTagsUptoSaid : Prop := macTagsUptoRow.holds Try.pinned (OpenSpec.upto macTagsSpec)

/-- 'anchoritelaw03.MacDerives', WHERE WHAT IT READS IS OF BULK AT MOST 1048576: true; the input reads as it did. -/
def macDerivesUptoRow : OpenClaim := { program := "ytelkjcigdhgcoaa", sum := "da9a7d6cefa25e6eb0fff7dbd51f13cb6dd59a9ddd31a1a583352e856dd13696", func := "anchorite/anchoritelaw03.MacDerives", spec := "macDerives", inPlace := ["math/bits.Add64"], unfollowed := true, recurses := true, apart := false, narrowed := true }
def MacDerivesUptoSaid : Prop := macDerivesUptoRow.holds Try.pinned (OpenSpec.upto macDerivesSpec)

/-- 'anchoritelaw03.MacKeys', WHERE WHAT IT READS IS OF BULK AT MOST 1048576: true; the input reads as it did. -/
def macKeysUptoRow : OpenClaim := { program := "ytelkjcigdhgcoaa", sum := "da9a7d6cefa25e6eb0fff7dbd51f13cb6dd59a9ddd31a1a583352e856dd13696", func := "anchorite/anchoritelaw03.MacKeys", spec := "macKeys", inPlace := ["math/bits.Add64"], unfollowed := true, recurses := true, apart := false, narrowed := true }
def MacKeysUptoSaid : Prop := macKeysUptoRow.holds Try.pinned (OpenSpec.upto macKeysSpec)

/-- 'anchoritelaw03.MacBounds', WHERE WHAT IT READS IS OF BULK AT MOST 1048576: true; the input reads as it did. -/
def macBoundsUptoRow : OpenClaim := { program := "ytelkjcigdhgcoaa", sum := "da9a7d6cefa25e6eb0fff7dbd51f13cb6dd59a9ddd31a1a583352e856dd13696", func := "anchorite/anchoritelaw03.MacBounds", spec := "macBounds", inPlace := ["math/bits.Add64"], unfollowed := true, recurses := true, apart := false, narrowed := true }
def MacBoundsUptoSaid : Prop := macBoundsUptoRow.holds Try.pinned (OpenSpec.upto macBoundsSpec)

/-- 'anchoritelaw03.MacEquals', WHERE WHAT IT READS IS OF BULK AT MOST 1048576: true; the input reads as it did. -/
def macEqualsUptoRow : OpenClaim := { program := "ytelkjcigdhgcoaa", sum := "da9a7d6cefa25e6eb0fff7dbd51f13cb6dd59a9ddd31a1a583352e856dd13696", func := "anchorite/anchoritelaw03.MacEquals", spec := "macEquals", inPlace := ["math/bits.Add64"], unfollowed := true, recurses := true, apart := false, narrowed := true }
def MacEqualsUptoSaid : Prop := macEqualsUptoRow.holds Try.pinned (OpenSpec.upto macEqualsSpec)

end Rows
end Go.Proofs.Ytelkjcigdhgcoaa
