/-
  No cell of these rows narrows 'for every input' (looked for: loops, veiled, ifaces, maps, wideKeys, modest, calm, conditions, laid).
  DERIVED. THE GIVEN ROWS OF THIS SEAT. 6 by the template 'for every input the law returns true; each argument reads behind the call as it read before'; 0 by the template 'total and deterministic' (their statements: YtjhfbmhblpjigaaTotals.lean).
  GIVEN WITH THE SEED: the statements are not yours to turn. If you find one false, say at which input.
  Laid BY PROGRAM, IN A SANDBOX (cutbox-rows.mjs): the forced cells as the released guide's own fill.sh prints them over the translation a5888d47e0eeba73… (all of the seat's roots in one cut). By AI agents, Wed Nov 11 2026. No macro, syntax, notation, axiom, sorry.
-/
import Derived.Test.YtjhfbmhblpjigaaChecked
import GoSem.Claim
import GoSem.ClaimJoined
import GoSem.ClaimMapViews
import Derived.JoinedTies
import Derived.KernelRfl
namespace Go.Proofs.Ytjhfbmhblpjigaa
/- THE CELL 'sum', in the pinned program and in every row, IS THE sha256 OF THE DUMP (.gsa) THAT YtjhfbmhblpjigaaProg.lean LOADS. Nothing in Lean hashes anything: it is a label: what it is worth is what the hold of that sum in a sandbox is worth. -/
noncomputable def Try.pinned : Pinned := { name := "ytjhfbmhblpjigaa", sum := "a5888d47e0eeba736fc923c01c8bfb9fefcfca4781b0b13efe286de0879b9bd0", checked := Try.checked }
namespace Rows
def none {H : Type} : Left H := { results := [], args := [] }

/-- 'flashlaw2.PacketsWritten': WHATEVER THE INPUT: true; the input reads as it did. -/
def packetsWrittenSpec : ChangeSpec := { name := "packetsWritten", fn := fun _ => fun
  | [d] => { results := [.lit (.bool true)], args := [d] }
  | _ => none }
def packetsWrittenRow : OpenClaim := { program := "ytjhfbmhblpjigaa", sum := "a5888d47e0eeba736fc923c01c8bfb9fefcfca4781b0b13efe286de0879b9bd0", func := "hookflash/flashlaw2.PacketsWritten", spec := "packetsWritten", unfollowed := true, recurses := true, apart := false }
def PacketsWrittenSaid : Prop := packetsWrittenRow.holds Try.pinned (OpenSpec.ofChange packetsWrittenSpec)

/-- ITS FALSE NEIGHBOUR: 'it returns false'. Refute it at one input. -/
def packetsWrittenWrong : ChangeSpec := { name := "packetsWritten", fn := fun _ => fun
  | [d] => { results := [.lit (.bool false)], args := [d] }
  | _ => none }
def PacketsWrittenWrongFalsely : Prop := packetsWrittenRow.holds Try.pinned (OpenSpec.ofChange packetsWrittenWrong)

/-- 'flashlaw2.SamplesCompress': WHATEVER THE INPUT: true; the input reads as it did. -/
def samplesCompressSpec : ChangeSpec := { name := "samplesCompress", fn := fun _ => fun
  | [d] => { results := [.lit (.bool true)], args := [d] }
  | _ => none }
def samplesCompressRow : OpenClaim := { program := "ytjhfbmhblpjigaa", sum := "a5888d47e0eeba736fc923c01c8bfb9fefcfca4781b0b13efe286de0879b9bd0", func := "hookflash/flashlaw2.SamplesCompress", spec := "samplesCompress", unfollowed := true, recurses := true, apart := false }
def SamplesCompressSaid : Prop := samplesCompressRow.holds Try.pinned (OpenSpec.ofChange samplesCompressSpec)

/-- ITS FALSE NEIGHBOUR: 'it returns false'. Refute it at one input. -/
def samplesCompressWrong : ChangeSpec := { name := "samplesCompress", fn := fun _ => fun
  | [d] => { results := [.lit (.bool false)], args := [d] }
  | _ => none }
def SamplesCompressWrongFalsely : Prop := samplesCompressRow.holds Try.pinned (OpenSpec.ofChange samplesCompressWrong)

/-- 'flashlaw2.PacketsPlayed': WHATEVER THE INPUT: true; the input reads as it did. -/
def packetsPlayedSpec : ChangeSpec := { name := "packetsPlayed", fn := fun _ => fun
  | [d] => { results := [.lit (.bool true)], args := [d] }
  | _ => none }
def packetsPlayedRow : OpenClaim := { program := "ytjhfbmhblpjigaa", sum := "a5888d47e0eeba736fc923c01c8bfb9fefcfca4781b0b13efe286de0879b9bd0", func := "hookflash/flashlaw2.PacketsPlayed", spec := "packetsPlayed", apart := false }
def PacketsPlayedSaid : Prop := packetsPlayedRow.holds Try.pinned (OpenSpec.ofChange packetsPlayedSpec)

/-- ITS FALSE NEIGHBOUR: 'it returns false'. Refute it at one input. -/
def packetsPlayedWrong : ChangeSpec := { name := "packetsPlayed", fn := fun _ => fun
  | [d] => { results := [.lit (.bool false)], args := [d] }
  | _ => none }
def PacketsPlayedWrongFalsely : Prop := packetsPlayedRow.holds Try.pinned (OpenSpec.ofChange packetsPlayedWrong)

/-- 'flashlaw2.SoundsMixed': WHATEVER THE INPUT: true; the input reads as it did. -/
def soundsMixedSpec : ChangeSpec := { name := "soundsMixed", fn := fun _ => fun
  | [d] => { results := [.lit (.bool true)], args := [d] }
  | _ => none }
def soundsMixedRow : OpenClaim := { program := "ytjhfbmhblpjigaa", sum := "a5888d47e0eeba736fc923c01c8bfb9fefcfca4781b0b13efe286de0879b9bd0", func := "hookflash/flashlaw2.SoundsMixed", spec := "soundsMixed", unfollowed := true, recurses := true, apart := false }
def SoundsMixedSaid : Prop := soundsMixedRow.holds Try.pinned (OpenSpec.ofChange soundsMixedSpec)

/-- ITS FALSE NEIGHBOUR: 'it returns false'. Refute it at one input. -/
def soundsMixedWrong : ChangeSpec := { name := "soundsMixed", fn := fun _ => fun
  | [d] => { results := [.lit (.bool false)], args := [d] }
  | _ => none }
def SoundsMixedWrongFalsely : Prop := soundsMixedRow.holds Try.pinned (OpenSpec.ofChange soundsMixedWrong)

/-- 'flashlaw2.PacketsCounted': WHATEVER THE INPUT: true; the input reads as it did. -/
def packetsCountedSpec : ChangeSpec := { name := "packetsCounted", fn := fun _ => fun
  | [d] => { results := [.lit (.bool true)], args := [d] }
  | _ => none }
def packetsCountedRow : OpenClaim := { program := "ytjhfbmhblpjigaa", sum := "a5888d47e0eeba736fc923c01c8bfb9fefcfca4781b0b13efe286de0879b9bd0", func := "hookflash/flashlaw2.PacketsCounted", spec := "packetsCounted", apart := false }
def PacketsCountedSaid : Prop := packetsCountedRow.holds Try.pinned (OpenSpec.ofChange packetsCountedSpec)

/-- ITS FALSE NEIGHBOUR: 'it returns false'. Refute it at one input. -/
def packetsCountedWrong : ChangeSpec := { name := "packetsCounted", fn := fun _ => fun
  | [d] => { results := [.lit (.bool false)], args := [d] }
  | _ => none }
def PacketsCountedWrongFalsely : Prop := packetsCountedRow.holds Try.pinned (OpenSpec.ofChange packetsCountedWrong)

/-- 'flashlaw2.TonesMade': WHATEVER THE INPUT: true; the input reads as it did. -/
def tonesMadeSpec : ChangeSpec := { name := "tonesMade", fn := fun _ => fun
  | [d] => { results := [.lit (.bool true)], args := [d] }
  | _ => none }
def tonesMadeRow : OpenClaim := { program := "ytjhfbmhblpjigaa", sum := "a5888d47e0eeba736fc923c01c8bfb9fefcfca4781b0b13efe286de0879b9bd0", func := "hookflash/flashlaw2.TonesMade", spec := "tonesMade", inPlace := ["internal/bytealg.IndexByteString"], unfollowed := true, recurses := true, apart := false }
def TonesMadeSaid : Prop := tonesMadeRow.holds Try.pinned (OpenSpec.ofChange tonesMadeSpec)

/-- ITS FALSE NEIGHBOUR: 'it returns false'. Refute it at one input. -/
def tonesMadeWrong : ChangeSpec := { name := "tonesMade", fn := fun _ => fun
  | [d] => { results := [.lit (.bool false)], args := [d] }
  | _ => none }
def TonesMadeWrongFalsely : Prop := tonesMadeRow.holds Try.pinned (OpenSpec.ofChange tonesMadeWrong)

/- THE SECOND FORM. 'bulk': how many values and letters a reading holds, each counted each time it is reached (what is shared counts as often as it is met; a slice's spare places count too). A statement '..UptoSaid' is the law's where the arguments, and the package variables that the reading takes, are together of bulk at most 1048576: NARROWER than '..Said'. Prove '..Said' where nothing that the law and all that it calls make is longer than what came in: it says more and counts as full. Else prove '..UptoSaid'. A law counts once. -/
mutual
def uptoBulk {H : Type} : DataW H → Nat
  | .lit (.string bytes) => bytes.length + 1
  | .lit _ => 1
  | .nil => 1
  | .ptr d => uptoBulk d + 1
  | .slice elems spare => uptoBulkAll elems + uptoBulkAll spare + 1
  | .agg parts => uptoBulkAll parts + 1
  | .iface _ d => uptoBulk d + 1
  | .map entries => uptoBulkEntries entries + 1
  | .held _ => 1
def uptoBulkAll {H : Type} : List (DataW H) → Nat
  | [] => 0
  | d :: r => uptoBulk d + uptoBulkAll r
def uptoBulkEntries {H : Type} : List (Lit × DataW H) → Nat
  | [] => 0
  | x :: r => uptoBulkEntry x + uptoBulkEntries r
def uptoBulkEntry {H : Type} : Lit × DataW H → Nat
  | (.string bytes, d) => bytes.length + uptoBulk d + 1
  | (_, d) => uptoBulk d + 1
 end
def uptoSmall : (H : Type) → List (DataW H) → Bool := fun _ ds => decide (uptoBulkAll ds ≤ 1048576)
def OpenSpec.upto (s : _root_.Go.ChangeSpec) : _root_.Go.OpenSpec := { _root_.Go.OpenSpec.ofChange s with cond := some uptoSmall }

/-- 'flashlaw2.PacketsWritten', WHERE WHAT IT READS IS OF BULK AT MOST 1048576: true; the input reads as it did. -/
def packetsWrittenUptoRow : OpenClaim := { program := "ytjhfbmhblpjigaa", sum := "a5888d47e0eeba736fc923c01c8bfb9fefcfca4781b0b13efe286de0879b9bd0", func := "hookflash/flashlaw2.PacketsWritten", spec := "packetsWritten", unfollowed := true, recurses := true, apart := false, narrowed := true }
def PacketsWrittenUptoSaid : Prop := packetsWrittenUptoRow.holds Try.pinned (OpenSpec.upto packetsWrittenSpec)

/-- 'flashlaw2.SamplesCompress', WHERE WHAT IT READS IS OF BULK AT MOST 1048576: true; the input reads as it did. -/
def samplesCompressUptoRow : OpenClaim := { program := "ytjhfbmhblpjigaa", sum := "a5888d47e0eeba736fc923c01c8bfb9fefcfca4781b0b13efe286de0879b9bd0", func := "hookflash/flashlaw2.SamplesCompress", spec := "samplesCompress", unfollowed := true, recurses := true, apart := false, narrowed := true }
def SamplesCompressUptoSaid : Prop := samplesCompressUptoRow.holds Try.pinned (OpenSpec.upto samplesCompressSpec)

/-- 'flashlaw2.PacketsPlayed', WHERE WHAT IT READS IS OF BULK AT MOST 1048576: true; the input reads as it did. -/
def packetsPlayedUptoRow : OpenClaim := { program := "ytjhfbmhblpjigaa", sum := "a5888d47e0eeba736fc923c01c8bfb9fefcfca4781b0b13efe286de0879b9bd0", func := "hookflash/flashlaw2.PacketsPlayed", spec := "packetsPlayed", apart := false, narrowed := true }
def PacketsPlayedUptoSaid : Prop := packetsPlayedUptoRow.holds Try.pinned (OpenSpec.upto packetsPlayedSpec)

/-- 'flashlaw2.SoundsMixed', WHERE WHAT IT READS IS OF BULK AT MOST 1048576: true; the input reads as it did. -/
def soundsMixedUptoRow : OpenClaim := { program := "ytjhfbmhblpjigaa", sum := "a5888d47e0eeba736fc923c01c8bfb9fefcfca4781b0b13efe286de0879b9bd0", func := "hookflash/flashlaw2.SoundsMixed", spec := "soundsMixed", unfollowed := true, recurses := true, apart := false, narrowed := true }
def SoundsMixedUptoSaid : Prop := soundsMixedUptoRow.holds Try.pinned (OpenSpec.upto soundsMixedSpec)

/-- 'flashlaw2.PacketsCounted', WHERE WHAT IT READS IS OF BULK AT MOST 1048576: true; the input reads as it did. -/
def packetsCountedUptoRow : OpenClaim := { program := "ytjhfbmhblpjigaa", sum := "a5888d47e0eeba736fc923c01c8bfb9fefcfca4781b0b13efe286de0879b9bd0", func := "hookflash/flashlaw2.PacketsCounted", spec := "packetsCounted", apart := false, narrowed := true }
def PacketsCountedUptoSaid : Prop := packetsCountedUptoRow.holds Try.pinned (OpenSpec.upto packetsCountedSpec)

/-- 'flashlaw2.TonesMade', WHERE WHAT IT READS IS OF BULK AT MOST 1048576: true; the input reads as it did. -/
def tonesMadeUptoRow : OpenClaim := { program := "ytjhfbmhblpjigaa", sum := "a5888d47e0eeba736fc923c01c8bfb9fefcfca4781b0b13efe286de0879b9bd0", func := "hookflash/flashlaw2.TonesMade", spec := "tonesMade", inPlace := ["internal/bytealg.IndexByteString"], unfollowed := true, recurses := true, apart := false, narrowed := true }
def TonesMadeUptoSaid : Prop := tonesMadeUptoRow.holds Try.pinned (OpenSpec.upto tonesMadeSpec)

end Rows
end Go.Proofs.Ytjhfbmhblpjigaa
