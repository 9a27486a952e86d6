/-
  No cell of these rows narrows 'for every input' (looked for: loops, veiled, ifaces, maps, wideKeys, modest, calm, conditions, laid).
  DERIVED. THE GIVEN ROWS OF THIS SEAT. 4 by the template 'for every input the law returns true; each argument reads behind the call as it read before'; 0 by the template 'total and deterministic' (their statements: YtknoiciabjockaaGreatTotals.lean).
  GIVEN WITH THE SEED: the statements are not yours to turn. If you find one false, say at which input.
  Laid BY PROGRAM, IN A SANDBOX (cutbox-rows.mjs): the forced cells as the released guide's own fill.sh prints them over the translation 1aaba86f6f2634e5… (all of the seat's roots in one cut). By AI agents, Wed Nov 11 2026. No macro, syntax, notation, axiom, sorry.
-/
import Derived.Test.YtknoiciabjockaaGreatChecked
import GoSem.Claim
import GoSem.ClaimJoined
import GoSem.ClaimMapViews
import Derived.JoinedTies
import Derived.KernelRfl
namespace Go.Proofs.YtknoiciabjockaaGreat
/- THE CELL 'sum', in the pinned program and in every row, IS THE sha256 OF THE DUMP (.gsa) THAT YtknoiciabjockaaGreatProg.lean LOADS. Nothing in Lean hashes anything: it is a label: what it is worth is what the hold of that sum in a sandbox is worth. -/
noncomputable def Tryz.pinned : Pinned := { name := "ytknoiciabjockaagreat", sum := "1aaba86f6f2634e59ae111142cd041181716a86d82511266c3fad1e1ee4ee38c", checked := Tryz.checked }
namespace Rows
def none {H : Type} : Left H := { results := [], args := [] }

/-- 'ephemeristtop.TopFound': WHATEVER THE INPUT: true; the input reads as it did. -/
def topFoundSpec : ChangeSpec := { name := "topFound", fn := fun _ => fun
  | [d1, d2, d3, d4] => { results := [.lit (.bool true)], args := [d1, d2, d3, d4] }
  | _ => none }
def topFoundRow : OpenClaim := { program := "ytknoiciabjockaagreat", sum := "1aaba86f6f2634e59ae111142cd041181716a86d82511266c3fad1e1ee4ee38c", func := "ephemerist/ephemeristtop.TopFound", spec := "topFound", unfollowed := true, recurses := true, plainKeys := false, apart := false }
def TopFoundSaid : Prop := topFoundRow.holds Tryz.pinned (OpenSpec.ofChange topFoundSpec)

/-- ITS FALSE NEIGHBOUR: 'it returns false'. Refute it at one input. -/
def topFoundWrong : ChangeSpec := { name := "topFound", fn := fun _ => fun
  | [d1, d2, d3, d4] => { results := [.lit (.bool false)], args := [d1, d2, d3, d4] }
  | _ => none }
def TopFoundWrongFalsely : Prop := topFoundRow.holds Tryz.pinned (OpenSpec.ofChange topFoundWrong)

/-- 'ephemeristtop.TopTwice': WHATEVER THE INPUT: true; the input reads as it did. -/
def topTwiceSpec : ChangeSpec := { name := "topTwice", fn := fun _ => fun
  | [d1, d2, d3, d4] => { results := [.lit (.bool true)], args := [d1, d2, d3, d4] }
  | _ => none }
def topTwiceRow : OpenClaim := { program := "ytknoiciabjockaagreat", sum := "1aaba86f6f2634e59ae111142cd041181716a86d82511266c3fad1e1ee4ee38c", func := "ephemerist/ephemeristtop.TopTwice", spec := "topTwice", unfollowed := true, recurses := true, plainKeys := false, apart := false }
def TopTwiceSaid : Prop := topTwiceRow.holds Tryz.pinned (OpenSpec.ofChange topTwiceSpec)

/-- ITS FALSE NEIGHBOUR: 'it returns false'. Refute it at one input. -/
def topTwiceWrong : ChangeSpec := { name := "topTwice", fn := fun _ => fun
  | [d1, d2, d3, d4] => { results := [.lit (.bool false)], args := [d1, d2, d3, d4] }
  | _ => none }
def TopTwiceWrongFalsely : Prop := topTwiceRow.holds Tryz.pinned (OpenSpec.ofChange topTwiceWrong)

/-- 'ephemeristtop.TopDays': WHATEVER THE INPUT: true; the input reads as it did. -/
def topDaysSpec : ChangeSpec := { name := "topDays", fn := fun _ => fun
  | [d1, d2, d3] => { results := [.lit (.bool true)], args := [d1, d2, d3] }
  | _ => none }
def topDaysRow : OpenClaim := { program := "ytknoiciabjockaagreat", sum := "1aaba86f6f2634e59ae111142cd041181716a86d82511266c3fad1e1ee4ee38c", func := "ephemerist/ephemeristtop.TopDays", spec := "topDays", unfollowed := true, recurses := true, plainKeys := false, apart := false }
def TopDaysSaid : Prop := topDaysRow.holds Tryz.pinned (OpenSpec.ofChange topDaysSpec)

/-- ITS FALSE NEIGHBOUR: 'it returns false'. Refute it at one input. -/
def topDaysWrong : ChangeSpec := { name := "topDays", fn := fun _ => fun
  | [d1, d2, d3] => { results := [.lit (.bool false)], args := [d1, d2, d3] }
  | _ => none }
def TopDaysWrongFalsely : Prop := topDaysRow.holds Tryz.pinned (OpenSpec.ofChange topDaysWrong)

/-- 'ephemeristtop.TopMonth': WHATEVER THE INPUT: true; the input reads as it did. -/
def topMonthSpec : ChangeSpec := { name := "topMonth", fn := fun _ => fun
  | [d1, d2, d3] => { results := [.lit (.bool true)], args := [d1, d2, d3] }
  | _ => none }
def topMonthRow : OpenClaim := { program := "ytknoiciabjockaagreat", sum := "1aaba86f6f2634e59ae111142cd041181716a86d82511266c3fad1e1ee4ee38c", func := "ephemerist/ephemeristtop.TopMonth", spec := "topMonth", unfollowed := true, recurses := true, plainKeys := false, apart := false }
def TopMonthSaid : Prop := topMonthRow.holds Tryz.pinned (OpenSpec.ofChange topMonthSpec)

/-- ITS FALSE NEIGHBOUR: 'it returns false'. Refute it at one input. -/
def topMonthWrong : ChangeSpec := { name := "topMonth", fn := fun _ => fun
  | [d1, d2, d3] => { results := [.lit (.bool false)], args := [d1, d2, d3] }
  | _ => none }
def TopMonthWrongFalsely : Prop := topMonthRow.holds Tryz.pinned (OpenSpec.ofChange topMonthWrong)

/- THE SECOND FORM. 'bulk': how many values and letters a reading holds, each counted each time it is reached (what is shared counts as often as it is met; a slice's spare places count too). A statement '..UptoSaid' is the law's where the arguments, and the package variables that the reading takes, are together of bulk at most 1048576: NARROWER than '..Said'. Prove '..Said' where nothing that the law and all that it calls make is longer than what came in: it says more and counts as full. Else prove '..UptoSaid'. A law counts once. -/
mutual
def uptoBulk {H : Type} : DataW H → Nat
  | .lit (.string bytes) => bytes.length + 1
  | .lit _ => 1
  | .nil => 1
  | .ptr d => uptoBulk d + 1
  | .slice elems spare => uptoBulkAll elems + uptoBulkAll spare + 1
  | .agg parts => uptoBulkAll parts + 1
  | .iface _ d => uptoBulk d + 1
  | .map entries => uptoBulkEntries entries + 1
  | .held _ => 1
def uptoBulkAll {H : Type} : List (DataW H) → Nat
  | [] => 0
  | d :: r => uptoBulk d + uptoBulkAll r
def uptoBulkEntries {H : Type} : List (Lit × DataW H) → Nat
  | [] => 0
  | x :: r => uptoBulkEntry x + uptoBulkEntries r
def uptoBulkEntry {H : Type} : Lit × DataW H → Nat
  | (.string bytes, d) => bytes.length + uptoBulk d + 1
  | (_, d) => uptoBulk d + 1
 end
def uptoSmall : (H : Type) → List (DataW H) → Bool := fun _ ds => decide (uptoBulkAll ds ≤ 1048576)
def OpenSpec.upto (s : _root_.Go.ChangeSpec) : _root_.Go.OpenSpec := { _root_.Go.OpenSpec.ofChange s with cond := some uptoSmall }

/-- 'ephemeristtop.TopFound', WHERE WHAT IT READS IS OF BULK AT MOST 1048576: true; the input reads as it did. -/
def topFoundUptoRow : OpenClaim := { program := "ytknoiciabjockaagreat", sum := "1aaba86f6f2634e59ae111142cd041181716a86d82511266c3fad1e1ee4ee38c", func := "ephemerist/ephemeristtop.TopFound", spec := "topFound", unfollowed := true, recurses := true, plainKeys := false, apart := false, narrowed := true }
def TopFoundUptoSaid : Prop := topFoundUptoRow.holds Tryz.pinned (OpenSpec.upto topFoundSpec)

/-- 'ephemeristtop.TopTwice', WHERE WHAT IT READS IS OF BULK AT MOST 1048576: true; the input reads as it did. -/
def topTwiceUptoRow : OpenClaim := { program := "ytknoiciabjockaagreat", sum := "1aaba86f6f2634e59ae111142cd041181716a86d82511266c3fad1e1ee4ee38c", func := "ephemerist/ephemeristtop.TopTwice", spec := "topTwice", unfollowed := true, recurses := true, plainKeys := false, apart := false, narrowed := true }
def TopTwiceUptoSaid : Prop := topTwiceUptoRow.holds Tryz.pinned (OpenSpec.upto topTwiceSpec)

/-- 'ephemeristtop.TopDays', WHERE WHAT IT READS IS OF BULK AT MOST 1048576: true; the input reads as it did. -/
def topDaysUptoRow : OpenClaim := { program := "ytknoiciabjockaagreat", sum := "1aaba86f6f2634e59ae111142cd041181716a86d82511266c3fad1e1ee4ee38c", func := "ephemerist/ephemeristtop.TopDays", spec := "topDays", unfollowed := true, recurses := true, plainKeys := false, apart := false, narrowed := true }
def TopDaysUptoSaid : Prop := topDaysUptoRow.holds Tryz.pinned (OpenSpec.upto topDaysSpec)

/-- 'ephemeristtop.TopMonth', WHERE WHAT IT READS IS OF BULK AT MOST 1048576: true; the input reads as it did. -/
def topMonthUptoRow : OpenClaim := { program := "ytknoiciabjockaagreat", sum := "1aaba86f6f2634e59ae111142cd041181716a86d82511266c3fad1e1ee4ee38c", func := "ephemerist/ephemeristtop.TopMonth", spec := "topMonth", unfollowed := true, recurses := true, plainKeys := false, apart := false, narrowed := true }
def TopMonthUptoSaid : Prop := topMonthUptoRow.holds Tryz.pinned (OpenSpec.upto topMonthSpec)

end Rows
end Go.Proofs.YtknoiciabjockaaGreat
