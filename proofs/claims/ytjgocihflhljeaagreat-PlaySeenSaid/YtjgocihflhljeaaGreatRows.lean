/-
  No cell of these rows narrows 'for every input' (looked for: loops, veiled, ifaces, maps, wideKeys, modest, calm, conditions, laid).
  DERIVED. THE GIVEN ROWS OF THIS SEAT. 11 by the template 'for every input the law returns true; each argument reads behind the call as it read before'; 0 by the template 'total and deterministic' (their statements: YtjgocihflhljeaaGreatTotals.lean).
  GIVEN WITH THE SEED: the statements are not yours to turn. If you find one false, say at which input.
  Laid BY PROGRAM, IN A SANDBOX (cutbox-rows.mjs): the forced cells as the released guide's own fill.sh prints them over the translation f3988b8c1b425c4e… (all of the seat's roots in one cut). By AI agents, Wed Nov 11 2026. No macro, syntax, notation, axiom, sorry.
-/
import Derived.Test.YtjgocihflhljeaaGreatChecked
import GoSem.Claim
import GoSem.ClaimJoined
import GoSem.ClaimMapViews
import Derived.JoinedTies
import Derived.KernelRfl
namespace Go.Proofs.YtjgocihflhljeaaGreat
/- THE CELL 'sum', in the pinned program and in every row, IS THE sha256 OF THE DUMP (.gsa) THAT YtjgocihflhljeaaGreatProg.lean LOADS. Nothing in Lean hashes anything: it is a label: what it is worth is what the hold of that sum in a sandbox is worth. -/
noncomputable def Tryz.pinned : Pinned := { name := "ytjgocihflhljeaagreat", sum := "f3988b8c1b425c4ea8383afb6d823128e2634a4228d29fe41e705a5703777ab9", checked := Tryz.checked }
namespace Rows
def none {H : Type} : Left H := { results := [], args := [] }

/-- 'ripostelaw05.PlayChecks': WHATEVER THE INPUT: true; the input reads as it did. -/
def playChecksSpec : ChangeSpec := { name := "playChecks", fn := fun _ => fun
  | [d1, d2] => { results := [.lit (.bool true)], args := [d1, d2] }
  | _ => none }
def playChecksRow : OpenClaim := { program := "ytjgocihflhljeaagreat", sum := "f3988b8c1b425c4ea8383afb6d823128e2634a4228d29fe41e705a5703777ab9", func := "riposte/ripostelaw05.PlayChecks", spec := "playChecks", unfollowed := true, recurses := true, apart := false }
def PlayChecksSaid : Prop := playChecksRow.holds Tryz.pinned (OpenSpec.ofChange playChecksSpec)

/-- ITS FALSE NEIGHBOUR: 'it returns false'. Refute it at one input. -/
def playChecksWrong : ChangeSpec := { name := "playChecks", fn := fun _ => fun
  | [d1, d2] => { results := [.lit (.bool false)], args := [d1, d2] }
  | _ => none }
def PlayChecksWrongFalsely : Prop := playChecksRow.holds Tryz.pinned (OpenSpec.ofChange playChecksWrong)

/-- 'ripostelaw05.PlayViews': WHATEVER THE INPUT: true; the input reads as it did. -/
def playViewsSpec : ChangeSpec := { name := "playViews", fn := fun _ => fun
  | [d1, d2] => { results := [.lit (.bool true)], args := [d1, d2] }
  | _ => none }
def playViewsRow : OpenClaim := { program := "ytjgocihflhljeaagreat", sum := "f3988b8c1b425c4ea8383afb6d823128e2634a4228d29fe41e705a5703777ab9", func := "riposte/ripostelaw05.PlayViews", spec := "playViews", unfollowed := true, recurses := true, apart := false }
def PlayViewsSaid : Prop := playViewsRow.holds Tryz.pinned (OpenSpec.ofChange playViewsSpec)

/-- ITS FALSE NEIGHBOUR: 'it returns false'. Refute it at one input. -/
def playViewsWrong : ChangeSpec := { name := "playViews", fn := fun _ => fun
  | [d1, d2] => { results := [.lit (.bool false)], args := [d1, d2] }
  | _ => none }
def PlayViewsWrongFalsely : Prop := playViewsRow.holds Tryz.pinned (OpenSpec.ofChange playViewsWrong)

/-- 'ripostelaw05.PlayTurns': WHATEVER THE INPUT: true; the input reads as it did. -/
def playTurnsSpec : ChangeSpec := { name := "playTurns", fn := fun _ => fun
  | [d1, d2] => { results := [.lit (.bool true)], args := [d1, d2] }
  | _ => none }
def playTurnsRow : OpenClaim := { program := "ytjgocihflhljeaagreat", sum := "f3988b8c1b425c4ea8383afb6d823128e2634a4228d29fe41e705a5703777ab9", func := "riposte/ripostelaw05.PlayTurns", spec := "playTurns", unfollowed := true, recurses := true, apart := false }
def PlayTurnsSaid : Prop := playTurnsRow.holds Tryz.pinned (OpenSpec.ofChange playTurnsSpec)

/-- ITS FALSE NEIGHBOUR: 'it returns false'. Refute it at one input. -/
def playTurnsWrong : ChangeSpec := { name := "playTurns", fn := fun _ => fun
  | [d1, d2] => { results := [.lit (.bool false)], args := [d1, d2] }
  | _ => none }
def PlayTurnsWrongFalsely : Prop := playTurnsRow.holds Tryz.pinned (OpenSpec.ofChange playTurnsWrong)

/-- 'ripostelaw05.PlayLegal': WHATEVER THE INPUT: true; the input reads as it did. -/
def playLegalSpec : ChangeSpec := { name := "playLegal", fn := fun _ => fun
  | [d1, d2, d3] => { results := [.lit (.bool true)], args := [d1, d2, d3] }
  | _ => none }
def playLegalRow : OpenClaim := { program := "ytjgocihflhljeaagreat", sum := "f3988b8c1b425c4ea8383afb6d823128e2634a4228d29fe41e705a5703777ab9", func := "riposte/ripostelaw05.PlayLegal", spec := "playLegal", unfollowed := true, recurses := true, apart := false }
def PlayLegalSaid : Prop := playLegalRow.holds Tryz.pinned (OpenSpec.ofChange playLegalSpec)

/-- ITS FALSE NEIGHBOUR: 'it returns false'. Refute it at one input. -/
def playLegalWrong : ChangeSpec := { name := "playLegal", fn := fun _ => fun
  | [d1, d2, d3] => { results := [.lit (.bool false)], args := [d1, d2, d3] }
  | _ => none }
def PlayLegalWrongFalsely : Prop := playLegalRow.holds Tryz.pinned (OpenSpec.ofChange playLegalWrong)

/-- 'ripostelaw05.PlayBrackets': WHATEVER THE INPUT: true; the input reads as it did. -/
def playBracketsSpec : ChangeSpec := { name := "playBrackets", fn := fun _ => fun
  | [d1, d2] => { results := [.lit (.bool true)], args := [d1, d2] }
  | _ => none }
def playBracketsRow : OpenClaim := { program := "ytjgocihflhljeaagreat", sum := "f3988b8c1b425c4ea8383afb6d823128e2634a4228d29fe41e705a5703777ab9", func := "riposte/ripostelaw05.PlayBrackets", spec := "playBrackets", unfollowed := true, recurses := true, apart := false }
def PlayBracketsSaid : Prop := playBracketsRow.holds Tryz.pinned (OpenSpec.ofChange playBracketsSpec)

/-- ITS FALSE NEIGHBOUR: 'it returns false'. Refute it at one input. -/
def playBracketsWrong : ChangeSpec := { name := "playBrackets", fn := fun _ => fun
  | [d1, d2] => { results := [.lit (.bool false)], args := [d1, d2] }
  | _ => none }
def PlayBracketsWrongFalsely : Prop := playBracketsRow.holds Tryz.pinned (OpenSpec.ofChange playBracketsWrong)

/-- 'ripostelaw05.PlayLost': WHATEVER THE INPUT: true; the input reads as it did. -/
def playLostSpec : ChangeSpec := { name := "playLost", fn := fun _ => fun
  | [d1, d2] => { results := [.lit (.bool true)], args := [d1, d2] }
  | _ => none }
def playLostRow : OpenClaim := { program := "ytjgocihflhljeaagreat", sum := "f3988b8c1b425c4ea8383afb6d823128e2634a4228d29fe41e705a5703777ab9", func := "riposte/ripostelaw05.PlayLost", spec := "playLost", unfollowed := true, recurses := true, apart := false }
def PlayLostSaid : Prop := playLostRow.holds Tryz.pinned (OpenSpec.ofChange playLostSpec)

/-- ITS FALSE NEIGHBOUR: 'it returns false'. Refute it at one input. -/
def playLostWrong : ChangeSpec := { name := "playLost", fn := fun _ => fun
  | [d1, d2] => { results := [.lit (.bool false)], args := [d1, d2] }
  | _ => none }
def PlayLostWrongFalsely : Prop := playLostRow.holds Tryz.pinned (OpenSpec.ofChange playLostWrong)

/-- 'ripostelaw05.PlayClosed': WHATEVER THE INPUT: true; the input reads as it did. -/
def playClosedSpec : ChangeSpec := { name := "playClosed", fn := fun _ => fun
  | [d1, d2] => { results := [.lit (.bool true)], args := [d1, d2] }
  | _ => none }
def playClosedRow : OpenClaim := { program := "ytjgocihflhljeaagreat", sum := "f3988b8c1b425c4ea8383afb6d823128e2634a4228d29fe41e705a5703777ab9", func := "riposte/ripostelaw05.PlayClosed", spec := "playClosed", unfollowed := true, recurses := true, apart := false }
def PlayClosedSaid : Prop := playClosedRow.holds Tryz.pinned (OpenSpec.ofChange playClosedSpec)

/-- ITS FALSE NEIGHBOUR: 'it returns false'. Refute it at one input. -/
def playClosedWrong : ChangeSpec := { name := "playClosed", fn := fun _ => fun
  | [d1, d2] => { results := [.lit (.bool false)], args := [d1, d2] }
  | _ => none }
def PlayClosedWrongFalsely : Prop := playClosedRow.holds Tryz.pinned (OpenSpec.ofChange playClosedWrong)

/-- 'ripostelaw05.PlaySeen': WHATEVER THE INPUT: true; the input reads as it did. -/
def playSeenSpec : ChangeSpec := { name := "playSeen", fn := fun _ => fun
  | [d1, d2] => { results := [.lit (.bool true)], args := [d1, d2] }
  | _ => none }
def playSeenRow : OpenClaim := { program := "ytjgocihflhljeaagreat", sum := "f3988b8c1b425c4ea8383afb6d823128e2634a4228d29fe41e705a5703777ab9", func := "riposte/ripostelaw05.PlaySeen", spec := "playSeen", unfollowed := true, recurses := true, apart := false }
def PlaySeenSaid : Prop := playSeenRow.holds Tryz.pinned (OpenSpec.ofChange playSeenSpec)

/-- ITS FALSE NEIGHBOUR: 'it returns false'. Refute it at one input. -/
def playSeenWrong : ChangeSpec := { name := "playSeen", fn := fun _ => fun
  | [d1, d2] => { results := [.lit (.bool false)], args := [d1, d2] }
  | _ => none }
def PlaySeenWrongFalsely : Prop := playSeenRow.holds Tryz.pinned (OpenSpec.ofChange playSeenWrong)

/-- 'ripostelaw05.PlayPairs': WHATEVER THE INPUT: true; the input reads as it did. -/
def playPairsSpec : ChangeSpec := { name := "playPairs", fn := fun _ => fun
  | [d1, d2] => { results := [.lit (.bool true)], args := [d1, d2] }
  | _ => none }
def playPairsRow : OpenClaim := { program := "ytjgocihflhljeaagreat", sum := "f3988b8c1b425c4ea8383afb6d823128e2634a4228d29fe41e705a5703777ab9", func := "riposte/ripostelaw05.PlayPairs", spec := "playPairs", unfollowed := true, recurses := true, apart := false }
def PlayPairsSaid : Prop := playPairsRow.holds Tryz.pinned (OpenSpec.ofChange playPairsSpec)

/-- ITS FALSE NEIGHBOUR: 'it returns false'. Refute it at one input. -/
def playPairsWrong : ChangeSpec := { name := "playPairs", fn := fun _ => fun
  | [d1, d2] => { results := [.lit (.bool false)], args := [d1, d2] }
  | _ => none }
def PlayPairsWrongFalsely : Prop := playPairsRow.holds Tryz.pinned (OpenSpec.ofChange playPairsWrong)

/-- 'ripostelaw05.PlayGoes': WHATEVER THE INPUT: true; the input reads as it did. -/
def playGoesSpec : ChangeSpec := { name := "playGoes", fn := fun _ => fun
  | [d1, d2] => { results := [.lit (.bool true)], args := [d1, d2] }
  | _ => none }
def playGoesRow : OpenClaim := { program := "ytjgocihflhljeaagreat", sum := "f3988b8c1b425c4ea8383afb6d823128e2634a4228d29fe41e705a5703777ab9", func := "riposte/ripostelaw05.PlayGoes", spec := "playGoes", unfollowed := true, recurses := true, apart := false }
def PlayGoesSaid : Prop := playGoesRow.holds Tryz.pinned (OpenSpec.ofChange playGoesSpec)

/-- ITS FALSE NEIGHBOUR: 'it returns false'. Refute it at one input. -/
def playGoesWrong : ChangeSpec := { name := "playGoes", fn := fun _ => fun
  | [d1, d2] => { results := [.lit (.bool false)], args := [d1, d2] }
  | _ => none }
def PlayGoesWrongFalsely : Prop := playGoesRow.holds Tryz.pinned (OpenSpec.ofChange playGoesWrong)

/-- 'ripostelaw05.PlayParts': WHATEVER THE INPUT: true; the input reads as it did. -/
def playPartsSpec : ChangeSpec := { name := "playParts", fn := fun _ => fun
  | [d1, d2, d3] => { results := [.lit (.bool true)], args := [d1, d2, d3] }
  | _ => none }
def playPartsRow : OpenClaim := { program := "ytjgocihflhljeaagreat", sum := "f3988b8c1b425c4ea8383afb6d823128e2634a4228d29fe41e705a5703777ab9", func := "riposte/ripostelaw05.PlayParts", spec := "playParts", unfollowed := true, recurses := true, apart := false }
def PlayPartsSaid : Prop := playPartsRow.holds Tryz.pinned (OpenSpec.ofChange playPartsSpec)

/-- ITS FALSE NEIGHBOUR: 'it returns false'. Refute it at one input. -/
def playPartsWrong : ChangeSpec := { name := "playParts", fn := fun _ => fun
  | [d1, d2, d3] => { results := [.lit (.bool false)], args := [d1, d2, d3] }
  | _ => none }
def PlayPartsWrongFalsely : Prop := playPartsRow.holds Tryz.pinned (OpenSpec.ofChange playPartsWrong)

/- THE SECOND FORM. 'bulk': how many values and letters a reading holds, each counted each time it is reached (what is shared counts as often as it is met; a slice's spare places count too). A statement '..UptoSaid' is the law's where the arguments, and the package variables that the reading takes, are together of bulk at most 1048576: NARROWER than '..Said'. Prove '..Said' where nothing that the law and all that it calls make is longer than what came in: it says more and counts as full. Else prove '..UptoSaid'. A law counts once. -/
mutual
def uptoBulk {H : Type} : DataW H → Nat
  | .lit (.string bytes) => bytes.length + 1
  | .lit _ => 1
  | .nil => 1
  | .ptr d => uptoBulk d + 1
  | .slice elems spare => uptoBulkAll elems + uptoBulkAll spare + 1
  | .agg parts => uptoBulkAll parts + 1
  | .iface _ d => uptoBulk d + 1
  | .map entries => uptoBulkEntries entries + 1
  | .held _ => 1
def uptoBulkAll {H : Type} : List (DataW H) → Nat
  | [] => 0
  | d :: r => uptoBulk d + uptoBulkAll r
def uptoBulkEntries {H : Type} : List (Lit × DataW H) → Nat
  | [] => 0
  | x :: r => uptoBulkEntry x + uptoBulkEntries r
def uptoBulkEntry {H : Type} : Lit × DataW H → Nat
  | (.string bytes, d) => bytes.length + uptoBulk d + 1
  | (_, d) => uptoBulk d + 1
 end
def uptoSmall : (H : Type) → List (DataW H) → Bool := fun _ ds => decide (uptoBulkAll ds ≤ 1048576)
def OpenSpec.upto (s : _root_.Go.ChangeSpec) : _root_.Go.OpenSpec := { _root_.Go.OpenSpec.ofChange s with cond := some uptoSmall }

/-- 'ripostelaw05.PlayChecks', WHERE WHAT IT READS IS OF BULK AT MOST 1048576: true; the input reads as it did. -/
def playChecksUptoRow : OpenClaim := { program := "ytjgocihflhljeaagreat", sum := "f3988b8c1b425c4ea8383afb6d823128e2634a4228d29fe41e705a5703777ab9", func := "riposte/ripostelaw05.PlayChecks", spec := "playChecks", unfollowed := true, recurses := true, apart := false, narrowed := true }
def PlayChecksUptoSaid : Prop := playChecksUptoRow.holds Tryz.pinned (OpenSpec.upto playChecksSpec)

/-- 'ripostelaw05.PlayViews', WHERE WHAT IT READS IS OF BULK AT MOST 1048576: true; the input reads as it did. -/
def playViewsUptoRow : OpenClaim := { program := "ytjgocihflhljeaagreat", sum := "f3988b8c1b425c4ea8383afb6d823128e2634a4228d29fe41e705a5703777ab9", func := "riposte/ripostelaw05.PlayViews", spec := "playViews", unfollowed := true, recurses := true, apart := false, narrowed := true }
def PlayViewsUptoSaid : Prop := playViewsUptoRow.holds Tryz.pinned (OpenSpec.upto playViewsSpec)

/-- 'ripostelaw05.PlayTurns', WHERE WHAT IT READS IS OF BULK AT MOST 1048576: true; the input reads as it did. -/
def playTurnsUptoRow : OpenClaim := { program := "ytjgocihflhljeaagreat", sum := "f3988b8c1b425c4ea8383afb6d823128e2634a4228d29fe41e705a5703777ab9", func := "riposte/ripostelaw05.PlayTurns", spec := "playTurns", unfollowed := true, recurses := true, apart := false, narrowed := true }
def PlayTurnsUptoSaid : Prop := playTurnsUptoRow.holds Tryz.pinned (OpenSpec.upto playTurnsSpec)

/-- 'ripostelaw05.PlayLegal', WHERE WHAT IT READS IS OF BULK AT MOST 1048576: true; the input reads as it did. -/
def playLegalUptoRow : OpenClaim := { program := "ytjgocihflhljeaagreat", sum := "f3988b8c1b425c4ea8383afb6d823128e2634a4228d29fe41e705a5703777ab9", func := "riposte/ripostelaw05.PlayLegal", spec := "playLegal", unfollowed := true, recurses := true, apart := false, narrowed := true }
def PlayLegalUptoSaid : Prop := playLegalUptoRow.holds Tryz.pinned (OpenSpec.upto playLegalSpec)

/-- 'ripostelaw05.PlayBrackets', WHERE WHAT IT READS IS OF BULK AT MOST 1048576: true; the input reads as it did. -/
def playBracketsUptoRow : OpenClaim := { program := "ytjgocihflhljeaagreat", sum := "f3988b8c1b425c4ea8383afb6d823128e2634a4228d29fe41e705a5703777ab9", func := "riposte/ripostelaw05.PlayBrackets", spec := "playBrackets", unfollowed := true, recurses := true, apart := false, narrowed := true }
def PlayBracketsUptoSaid : Prop := playBracketsUptoRow.holds Tryz.pinned (OpenSpec.upto playBracketsSpec)

/-- 'ripostelaw05.PlayLost', WHERE WHAT IT READS IS OF BULK AT MOST 1048576: true; the input reads as it did. -/
def playLostUptoRow : OpenClaim := { program := "ytjgocihflhljeaagreat", sum := "f3988b8c1b425c4ea8383afb6d823128e2634a4228d29fe41e705a5703777ab9", func := "riposte/ripostelaw05.PlayLost", spec := "playLost", unfollowed := true, recurses := true, apart := false, narrowed := true }
def PlayLostUptoSaid : Prop := playLostUptoRow.holds Tryz.pinned (OpenSpec.upto playLostSpec)

/-- 'ripostelaw05.PlayClosed', WHERE WHAT IT READS IS OF BULK AT MOST 1048576: true; the input reads as it did. -/
def playClosedUptoRow : OpenClaim := { program := "ytjgocihflhljeaagreat", sum := "f3988b8c1b425c4ea8383afb6d823128e2634a4228d29fe41e705a5703777ab9", func := "riposte/ripostelaw05.PlayClosed", spec := "playClosed", unfollowed := true, recurses := true, apart := false, narrowed := true }
def PlayClosedUptoSaid : Prop := playClosedUptoRow.holds Tryz.pinned (OpenSpec.upto playClosedSpec)

/-- 'ripostelaw05.PlaySeen', WHERE WHAT IT READS IS OF BULK AT MOST 1048576: true; the input reads as it did. -/
def playSeenUptoRow : OpenClaim := { program := "ytjgocihflhljeaagreat", sum := "f3988b8c1b425c4ea8383afb6d823128e2634a4228d29fe41e705a5703777ab9", func := "riposte/ripostelaw05.PlaySeen", spec := "playSeen", unfollowed := true, recurses := true, apart := false, narrowed := true }
def PlaySeenUptoSaid : Prop := playSeenUptoRow.holds Tryz.pinned (OpenSpec.upto playSeenSpec)

/-- 'ripostelaw05.PlayPairs', WHERE WHAT IT READS IS OF BULK AT MOST 1048576: true; the input reads as it did. -/
def playPairsUptoRow : OpenClaim := { program := "ytjgocihflhljeaagreat", sum := "f3988b8c1b425c4ea8383afb6d823128e2634a4228d29fe41e705a5703777ab9", func := "riposte/ripostelaw05.PlayPairs", spec := "playPairs", unfollowed := true, recurses := true, apart := false, narrowed := true }
def PlayPairsUptoSaid : Prop := playPairsUptoRow.holds Tryz.pinned (OpenSpec.upto playPairsSpec)

/-- 'ripostelaw05.PlayGoes', WHERE WHAT IT READS IS OF BULK AT MOST 1048576: true; the input reads as it did. -/
def playGoesUptoRow : OpenClaim := { program := "ytjgocihflhljeaagreat", sum := "f3988b8c1b425c4ea8383afb6d823128e2634a4228d29fe41e705a5703777ab9", func := "riposte/ripostelaw05.PlayGoes", spec := "playGoes", unfollowed := true, recurses := true, apart := false, narrowed := true }
def PlayGoesUptoSaid : Prop := playGoesUptoRow.holds Tryz.pinned (OpenSpec.upto playGoesSpec)

/-- 'ripostelaw05.PlayParts', WHERE WHAT IT READS IS OF BULK AT MOST 1048576: true; the input reads as it did. -/
def playPartsUptoRow : OpenClaim := { program := "ytjgocihflhljeaagreat", sum := "f3988b8c1b425c4ea8383afb6d823128e2634a4228d29fe41e705a5703777ab9", func := "riposte/ripostelaw05.PlayParts", spec := "playParts", unfollowed := true, recurses := true, apart := false, narrowed := true }
def PlayPartsUptoSaid : Prop := playPartsUptoRow.holds Tryz.pinned (OpenSpec.upto playPartsSpec)

end Rows
end Go.Proofs.YtjgocihflhljeaaGreat
