/-
  No cell of these rows narrows 'for every input' (looked for: loops, veiled, ifaces, maps, wideKeys, modest, calm, conditions, laid).
  DERIVED. THE GIVEN ROWS OF THIS SEAT. 6 by the template 'for every input the law returns true; each argument reads behind the call as it read before'; 0 by the template 'total and deterministic' (their statements: YtpabbbmfcgnhdaaGreatTotals.lean).
  GIVEN WITH THE SEED: the statements are not yours to turn. If you find one false, say at which input.
  Laid BY PROGRAM, IN A SANDBOX (cutbox-rows.mjs): the forced cells as the released guide's own fill.sh prints them over the translation c73b91a42cb48187… (all of the seat's roots in one cut). By AI agents, Wed Nov 11 2026. No macro, syntax, notation, axiom, sorry.
-/
import Derived.Test.YtpabbbmfcgnhdaaGreatChecked
import GoSem.Claim
import GoSem.ClaimJoined
import GoSem.ClaimMapViews
import Derived.JoinedTies
import Derived.KernelRfl
namespace Go.Proofs.YtpabbbmfcgnhdaaGreat
/- THE CELL 'sum', in the pinned program and in every row, IS THE sha256 OF THE DUMP (.gsa) THAT YtpabbbmfcgnhdaaGreatProg.lean LOADS. Nothing in Lean hashes anything: it is a label: what it is worth is what the hold of that sum in a sandbox is worth. -/
noncomputable def Tryz.pinned : Pinned := { name := "ytpabbbmfcgnhdaagreat", sum := "c73b91a42cb481873cacc7079c4ca1236360bec2f089ac8fb0ca080ea0572e52", checked := Tryz.checked }
namespace Rows
def none {H : Type} : Left H := { results := [], args := [] }

/-- 'laws.FnExactResend': WHATEVER THE INPUT: true; the input reads as it did. -/
def fnExactResendSpec : ChangeSpec := { name := "fnExactResend", fn := fun _ => fun
  | [d] => { results := [.lit (.bool true)], args := [d] }
  | _ => none }
def fnExactResendRow : OpenClaim := { program := "ytpabbbmfcgnhdaagreat", sum := "c73b91a42cb481873cacc7079c4ca1236360bec2f089ac8fb0ca080ea0572e52", func := "loop.example/g00097/laws.FnExactResend", spec := "fnExactResend", unfollowed := true, recurses := true, apart := false }
def FnExactResendSaid : Prop := fnExactResendRow.holds Tryz.pinned (OpenSpec.ofChange fnExactResendSpec)

/-- ITS FALSE NEIGHBOUR: 'it returns false'. Refute it at one input. -/
def fnExactResendWrong : ChangeSpec := { name := "fnExactResend", fn := fun _ => fun
  | [d] => { results := [.lit (.bool false)], args := [d] }
  | _ => none }
def FnExactResendWrongFalsely : Prop := fnExactResendRow.holds Tryz.pinned (OpenSpec.ofChange fnExactResendWrong)

/-- 'laws.FnExactShardThaw': WHATEVER THE INPUT: true; the input reads as it did. -/
def fnExactShardThawSpec : ChangeSpec := { name := "fnExactShardThaw", fn := fun _ => fun
  | [d1, d2, d3] => { results := [.lit (.bool true)], args := [d1, d2, d3] }
  | _ => none }
def fnExactShardThawRow : OpenClaim := { program := "ytpabbbmfcgnhdaagreat", sum := "c73b91a42cb481873cacc7079c4ca1236360bec2f089ac8fb0ca080ea0572e52", func := "loop.example/g00097/laws.FnExactShardThaw", spec := "fnExactShardThaw", unfollowed := true, recurses := true, apart := false }
def FnExactShardThawSaid : Prop := fnExactShardThawRow.holds Tryz.pinned (OpenSpec.ofChange fnExactShardThawSpec)

/-- ITS FALSE NEIGHBOUR: 'it returns false'. Refute it at one input. -/
def fnExactShardThawWrong : ChangeSpec := { name := "fnExactShardThaw", fn := fun _ => fun
  | [d1, d2, d3] => { results := [.lit (.bool false)], args := [d1, d2, d3] }
  | _ => none }
def FnExactShardThawWrongFalsely : Prop := fnExactShardThawRow.holds Tryz.pinned (OpenSpec.ofChange fnExactShardThawWrong)

/-- 'laws.FnExactShardDrop': WHATEVER THE INPUT: true; the input reads as it did. -/
def fnExactShardDropSpec : ChangeSpec := { name := "fnExactShardDrop", fn := fun _ => fun
  | [d1, d2, d3] => { results := [.lit (.bool true)], args := [d1, d2, d3] }
  | _ => none }
def fnExactShardDropRow : OpenClaim := { program := "ytpabbbmfcgnhdaagreat", sum := "c73b91a42cb481873cacc7079c4ca1236360bec2f089ac8fb0ca080ea0572e52", func := "loop.example/g00097/laws.FnExactShardDrop", spec := "fnExactShardDrop", unfollowed := true, recurses := true, apart := false }
def FnExactShardDropSaid : Prop := fnExactShardDropRow.holds Tryz.pinned (OpenSpec.ofChange fnExactShardDropSpec)

/-- ITS FALSE NEIGHBOUR: 'it returns false'. Refute it at one input. -/
def fnExactShardDropWrong : ChangeSpec := { name := "fnExactShardDrop", fn := fun _ => fun
  | [d1, d2, d3] => { results := [.lit (.bool false)], args := [d1, d2, d3] }
  | _ => none }
def FnExactShardDropWrongFalsely : Prop := fnExactShardDropRow.holds Tryz.pinned (OpenSpec.ofChange fnExactShardDropWrong)

/-- 'laws.FnExactShardDecide': WHATEVER THE INPUT: true; the input reads as it did. -/
def fnExactShardDecideSpec : ChangeSpec := { name := "fnExactShardDecide", fn := fun _ => fun
  | [d1, d2, d3] => { results := [.lit (.bool true)], args := [d1, d2, d3] }
  | _ => none }
def fnExactShardDecideRow : OpenClaim := { program := "ytpabbbmfcgnhdaagreat", sum := "c73b91a42cb481873cacc7079c4ca1236360bec2f089ac8fb0ca080ea0572e52", func := "loop.example/g00097/laws.FnExactShardDecide", spec := "fnExactShardDecide", inPlace := ["slices.overlaps[loop.example/g00097/impl.Cell]", "slices.overlaps[int]"], unfollowed := true, recurses := true, apart := false }
def FnExactShardDecideSaid : Prop := fnExactShardDecideRow.holds Tryz.pinned (OpenSpec.ofChange fnExactShardDecideSpec)

/-- ITS FALSE NEIGHBOUR: 'it returns false'. Refute it at one input. -/
def fnExactShardDecideWrong : ChangeSpec := { name := "fnExactShardDecide", fn := fun _ => fun
  | [d1, d2, d3] => { results := [.lit (.bool false)], args := [d1, d2, d3] }
  | _ => none }
def FnExactShardDecideWrongFalsely : Prop := fnExactShardDecideRow.holds Tryz.pinned (OpenSpec.ofChange fnExactShardDecideWrong)

/-- 'laws.FnExactShardRead': WHATEVER THE INPUT: true; the input reads as it did. -/
def fnExactShardReadSpec : ChangeSpec := { name := "fnExactShardRead", fn := fun _ => fun
  | [d1, d2, d3] => { results := [.lit (.bool true)], args := [d1, d2, d3] }
  | _ => none }
def fnExactShardReadRow : OpenClaim := { program := "ytpabbbmfcgnhdaagreat", sum := "c73b91a42cb481873cacc7079c4ca1236360bec2f089ac8fb0ca080ea0572e52", func := "loop.example/g00097/laws.FnExactShardRead", spec := "fnExactShardRead", inPlace := ["slices.overlaps[int]"], unfollowed := true, recurses := true, apart := false }
def FnExactShardReadSaid : Prop := fnExactShardReadRow.holds Tryz.pinned (OpenSpec.ofChange fnExactShardReadSpec)

/-- ITS FALSE NEIGHBOUR: 'it returns false'. Refute it at one input. -/
def fnExactShardReadWrong : ChangeSpec := { name := "fnExactShardRead", fn := fun _ => fun
  | [d1, d2, d3] => { results := [.lit (.bool false)], args := [d1, d2, d3] }
  | _ => none }
def FnExactShardReadWrongFalsely : Prop := fnExactShardReadRow.holds Tryz.pinned (OpenSpec.ofChange fnExactShardReadWrong)

/-- 'laws.FnAnswered': WHATEVER THE INPUT: true; the input reads as it did. -/
def fnAnsweredSpec : ChangeSpec := { name := "fnAnswered", fn := fun _ => fun
  | [d] => { results := [.lit (.bool true)], args := [d] }
  | _ => none }
def fnAnsweredRow : OpenClaim := { program := "ytpabbbmfcgnhdaagreat", sum := "c73b91a42cb481873cacc7079c4ca1236360bec2f089ac8fb0ca080ea0572e52", func := "loop.example/g00097/laws.FnAnswered", spec := "fnAnswered", inPlace := ["slices.overlaps[loop.example/g00097/impl.Cell]", "slices.overlaps[loop.example/g00097/impl.Seat]", "slices.overlaps[loop.example/g00097/impl.Flight]"], unfollowed := true, recurses := true, apart := false }
def FnAnsweredSaid : Prop := fnAnsweredRow.holds Tryz.pinned (OpenSpec.ofChange fnAnsweredSpec)

/-- ITS FALSE NEIGHBOUR: 'it returns false'. Refute it at one input. -/
def fnAnsweredWrong : ChangeSpec := { name := "fnAnswered", fn := fun _ => fun
  | [d] => { results := [.lit (.bool false)], args := [d] }
  | _ => none }
def FnAnsweredWrongFalsely : Prop := fnAnsweredRow.holds Tryz.pinned (OpenSpec.ofChange fnAnsweredWrong)

/- THE SECOND FORM. 'bulk': how many values and letters a reading holds, each counted each time it is reached (what is shared counts as often as it is met; a slice's spare places count too). A statement '..UptoSaid' is the law's where the arguments, and the package variables that the reading takes, are together of bulk at most 1048576: NARROWER than '..Said'. Prove '..Said' where nothing that the law and all that it calls make is longer than what came in: it says more and counts as full. Else prove '..UptoSaid'. A law counts once. -/
mutual
def uptoBulk {H : Type} : DataW H → Nat
  | .lit (.string bytes) => bytes.length + 1
  | .lit _ => 1
  | .nil => 1
  | .ptr d => uptoBulk d + 1
  | .slice elems spare => uptoBulkAll elems + uptoBulkAll spare + 1
  | .agg parts => uptoBulkAll parts + 1
  | .iface _ d => uptoBulk d + 1
  | .map entries => uptoBulkEntries entries + 1
  | .held _ => 1
def uptoBulkAll {H : Type} : List (DataW H) → Nat
  | [] => 0
  | d :: r => uptoBulk d + uptoBulkAll r
def uptoBulkEntries {H : Type} : List (Lit × DataW H) → Nat
  | [] => 0
  | x :: r => uptoBulkEntry x + uptoBulkEntries r
def uptoBulkEntry {H : Type} : Lit × DataW H → Nat
  | (.string bytes, d) => bytes.length + uptoBulk d + 1
  | (_, d) => uptoBulk d + 1
 end
def uptoSmall : (H : Type) → List (DataW H) → Bool := fun _ ds => decide (uptoBulkAll ds ≤ 1048576)
def OpenSpec.upto (s : _root_.Go.ChangeSpec) : _root_.Go.OpenSpec := { _root_.Go.OpenSpec.ofChange s with cond := some uptoSmall }

/-- 'laws.FnExactResend', WHERE WHAT IT READS IS OF BULK AT MOST 1048576: true; the input reads as it did. -/
def fnExactResendUptoRow : OpenClaim := { program := "ytpabbbmfcgnhdaagreat", sum := "c73b91a42cb481873cacc7079c4ca1236360bec2f089ac8fb0ca080ea0572e52", func := "loop.example/g00097/laws.FnExactResend", spec := "fnExactResend", unfollowed := true, recurses := true, apart := false, narrowed := true }
def FnExactResendUptoSaid : Prop := fnExactResendUptoRow.holds Tryz.pinned (OpenSpec.upto fnExactResendSpec)

/-- 'laws.FnExactShardThaw', WHERE WHAT IT READS IS OF BULK AT MOST 1048576: true; the input reads as it did. -/
def fnExactShardThawUptoRow : OpenClaim := { program := "ytpabbbmfcgnhdaagreat", sum := "c73b91a42cb481873cacc7079c4ca1236360bec2f089ac8fb0ca080ea0572e52", func := "loop.example/g00097/laws.FnExactShardThaw", spec := "fnExactShardThaw", unfollowed := true, recurses := true, apart := false, narrowed := true }
def FnExactShardThawUptoSaid : Prop := fnExactShardThawUptoRow.holds Tryz.pinned (OpenSpec.upto fnExactShardThawSpec)

/-- 'laws.FnExactShardDrop', WHERE WHAT IT READS IS OF BULK AT MOST 1048576: true; the input reads as it did. -/
def fnExactShardDropUptoRow : OpenClaim := { program := "ytpabbbmfcgnhdaagreat", sum := "c73b91a42cb481873cacc7079c4ca1236360bec2f089ac8fb0ca080ea0572e52", func := "loop.example/g00097/laws.FnExactShardDrop", spec := "fnExactShardDrop", unfollowed := true, recurses := true, apart := false, narrowed := true }
def FnExactShardDropUptoSaid : Prop := fnExactShardDropUptoRow.holds Tryz.pinned (OpenSpec.upto fnExactShardDropSpec)

/-- 'laws.FnExactShardDecide', WHERE WHAT IT READS IS OF BULK AT MOST 1048576: true; the input reads as it did. -/
def fnExactShardDecideUptoRow : OpenClaim := { program := "ytpabbbmfcgnhdaagreat", sum := "c73b91a42cb481873cacc7079c4ca1236360bec2f089ac8fb0ca080ea0572e52", func := "loop.example/g00097/laws.FnExactShardDecide", spec := "fnExactShardDecide", inPlace := ["slices.overlaps[loop.example/g00097/impl.Cell]", "slices.overlaps[int]"], unfollowed := true, recurses := true, apart := false, narrowed := true }
def FnExactShardDecideUptoSaid : Prop := fnExactShardDecideUptoRow.holds Tryz.pinned (OpenSpec.upto fnExactShardDecideSpec)

/-- 'laws.FnExactShardRead', WHERE WHAT IT READS IS OF BULK AT MOST 1048576: true; the input reads as it did. -/
def fnExactShardReadUptoRow : OpenClaim := { program := "ytpabbbmfcgnhdaagreat", sum := "c73b91a42cb481873cacc7079c4ca1236360bec2f089ac8fb0ca080ea0572e52", func := "loop.example/g00097/laws.FnExactShardRead", spec := "fnExactShardRead", inPlace := ["slices.overlaps[int]"], unfollowed := true, recurses := true, apart := false, narrowed := true }
def FnExactShardReadUptoSaid : Prop := fnExactShardReadUptoRow.holds Tryz.pinned (OpenSpec.upto fnExactShardReadSpec)

/-- 'laws.FnAnswered', WHERE WHAT IT READS IS OF BULK AT MOST 1048576: true; the input reads as it did. -/
def fnAnsweredUptoRow : OpenClaim := { program := "ytpabbbmfcgnhdaagreat", sum := "c73b91a42cb481873cacc7079c4ca1236360bec2f089ac8fb0ca080ea0572e52", func := "loop.example/g00097/laws.FnAnswered", spec := "fnAnswered", inPlace := ["slices.overlaps[loop.example/g00097/impl.Cell]", "slices.overlaps[loop.example/g00097/impl.Seat]", "slices.overlaps[loop.example/g00097/impl.Flight]"], unfollowed := true, recurses := true, apart := false, narrowed := true }
def FnAnsweredUptoSaid : Prop := fnAnsweredUptoRow.holds Tryz.pinned (OpenSpec.upto fnAnsweredSpec)

end Rows
end Go.Proofs.YtpabbbmfcgnhdaaGreat
