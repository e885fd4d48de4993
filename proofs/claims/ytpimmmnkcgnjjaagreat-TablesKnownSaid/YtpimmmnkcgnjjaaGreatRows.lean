/-
  No cell of these rows narrows 'for every input' (looked for: loops, veiled, ifaces, maps, wideKeys, modest, calm, conditions, laid).
  DERIVED. THE GIVEN ROWS OF THIS SEAT. 9 by the template 'for every input the law returns true; each argument reads behind the call as it read before'; 0 by the template 'total and deterministic' (their statements: YtpimmmnkcgnjjaaGreatTotals.lean).
  GIVEN WITH THE SEED: the statements are not yours to turn. If you find one false, say at which input.
  Laid BY PROGRAM, IN A SANDBOX (cutbox-rows.mjs): the forced cells as the released guide's own fill.sh prints them over the translation 67999975e4e6b2cb… (all of the seat's roots in one cut). By AI agents, Wed Nov 11 2026. No macro, syntax, notation, axiom, sorry.
-/
import Derived.Test.YtpimmmnkcgnjjaaGreatChecked
import GoSem.Claim
import GoSem.ClaimJoined
import GoSem.ClaimMapViews
import Derived.JoinedTies
import Derived.KernelRfl
namespace Go.Proofs.YtpimmmnkcgnjjaaGreat
/- THE CELL 'sum', in the pinned program and in every row, IS THE sha256 OF THE DUMP (.gsa) THAT YtpimmmnkcgnjjaaGreatProg.lean LOADS. Nothing in Lean hashes anything: it is a label: what it is worth is what the hold of that sum in a sandbox is worth. -/
noncomputable def Tryz.pinned : Pinned := { name := "ytpimmmnkcgnjjaagreat", sum := "67999975e4e6b2cb121ce30ea839bea4ebe2c60173c214148bdae5e1271befc0", checked := Tryz.checked }
namespace Rows
def none {H : Type} : Left H := { results := [], args := [] }

/-- 'gauntletlaw36.TablesNew': WHATEVER THE INPUT: true; the input reads as it did. -/
def tablesNewSpec : ChangeSpec := { name := "tablesNew", fn := fun _ => fun
  | [d1, d2] => { results := [.lit (.bool true)], args := [d1, d2] }
  | _ => none }
def tablesNewRow : OpenClaim := { program := "ytpimmmnkcgnjjaagreat", sum := "67999975e4e6b2cb121ce30ea839bea4ebe2c60173c214148bdae5e1271befc0", func := "gauntlet/gauntletlaw36.TablesNew", spec := "tablesNew", unfollowed := true, recurses := true, apart := false }
def TablesNewSaid : Prop := tablesNewRow.holds Tryz.pinned (OpenSpec.ofChange tablesNewSpec)

/-- ITS FALSE NEIGHBOUR: 'it returns false'. Refute it at one input. -/
def tablesNewWrong : ChangeSpec := { name := "tablesNew", fn := fun _ => fun
  | [d1, d2] => { results := [.lit (.bool false)], args := [d1, d2] }
  | _ => none }
def TablesNewWrongFalsely : Prop := tablesNewRow.holds Tryz.pinned (OpenSpec.ofChange tablesNewWrong)

/-- 'gauntletlaw36.TablesAsks': WHATEVER THE INPUT: true; the input reads as it did. -/
def tablesAsksSpec : ChangeSpec := { name := "tablesAsks", fn := fun _ => fun
  | [d] => { results := [.lit (.bool true)], args := [d] }
  | _ => none }
def tablesAsksRow : OpenClaim := { program := "ytpimmmnkcgnjjaagreat", sum := "67999975e4e6b2cb121ce30ea839bea4ebe2c60173c214148bdae5e1271befc0", func := "gauntlet/gauntletlaw36.TablesAsks", spec := "tablesAsks", unfollowed := true, recurses := true, apart := false }
def TablesAsksSaid : Prop := tablesAsksRow.holds Tryz.pinned (OpenSpec.ofChange tablesAsksSpec)

/-- ITS FALSE NEIGHBOUR: 'it returns false'. Refute it at one input. -/
def tablesAsksWrong : ChangeSpec := { name := "tablesAsks", fn := fun _ => fun
  | [d] => { results := [.lit (.bool false)], args := [d] }
  | _ => none }
def TablesAsksWrongFalsely : Prop := tablesAsksRow.holds Tryz.pinned (OpenSpec.ofChange tablesAsksWrong)

/-- 'gauntletlaw36.TablesTell': WHATEVER THE INPUT: true; the input reads as it did. -/
def tablesTellSpec : ChangeSpec := { name := "tablesTell", fn := fun _ => fun
  | [d1, d2, d3] => { results := [.lit (.bool true)], args := [d1, d2, d3] }
  | _ => none }
def tablesTellRow : OpenClaim := { program := "ytpimmmnkcgnjjaagreat", sum := "67999975e4e6b2cb121ce30ea839bea4ebe2c60173c214148bdae5e1271befc0", func := "gauntlet/gauntletlaw36.TablesTell", spec := "tablesTell", unfollowed := true, recurses := true, apart := false }
def TablesTellSaid : Prop := tablesTellRow.holds Tryz.pinned (OpenSpec.ofChange tablesTellSpec)

/-- ITS FALSE NEIGHBOUR: 'it returns false'. Refute it at one input. -/
def tablesTellWrong : ChangeSpec := { name := "tablesTell", fn := fun _ => fun
  | [d1, d2, d3] => { results := [.lit (.bool false)], args := [d1, d2, d3] }
  | _ => none }
def TablesTellWrongFalsely : Prop := tablesTellRow.holds Tryz.pinned (OpenSpec.ofChange tablesTellWrong)

/-- 'gauntletlaw36.TablesRow': WHATEVER THE INPUT: true; the input reads as it did. -/
def tablesRowSpec : ChangeSpec := { name := "tablesRow", fn := fun _ => fun
  | [d1, d2] => { results := [.lit (.bool true)], args := [d1, d2] }
  | _ => none }
def tablesRowRow : OpenClaim := { program := "ytpimmmnkcgnjjaagreat", sum := "67999975e4e6b2cb121ce30ea839bea4ebe2c60173c214148bdae5e1271befc0", func := "gauntlet/gauntletlaw36.TablesRow", spec := "tablesRow", unfollowed := true, recurses := true, apart := false }
def TablesRowSaid : Prop := tablesRowRow.holds Tryz.pinned (OpenSpec.ofChange tablesRowSpec)

/-- ITS FALSE NEIGHBOUR: 'it returns false'. Refute it at one input. -/
def tablesRowWrong : ChangeSpec := { name := "tablesRow", fn := fun _ => fun
  | [d1, d2] => { results := [.lit (.bool false)], args := [d1, d2] }
  | _ => none }
def TablesRowWrongFalsely : Prop := tablesRowRow.holds Tryz.pinned (OpenSpec.ofChange tablesRowWrong)

/-- 'gauntletlaw36.TablesOpen': WHATEVER THE INPUT: true; the input reads as it did. -/
def tablesOpenSpec : ChangeSpec := { name := "tablesOpen", fn := fun _ => fun
  | [d] => { results := [.lit (.bool true)], args := [d] }
  | _ => none }
def tablesOpenRow : OpenClaim := { program := "ytpimmmnkcgnjjaagreat", sum := "67999975e4e6b2cb121ce30ea839bea4ebe2c60173c214148bdae5e1271befc0", func := "gauntlet/gauntletlaw36.TablesOpen", spec := "tablesOpen", unfollowed := true, recurses := true, apart := false }
def TablesOpenSaid : Prop := tablesOpenRow.holds Tryz.pinned (OpenSpec.ofChange tablesOpenSpec)

/-- ITS FALSE NEIGHBOUR: 'it returns false'. Refute it at one input. -/
def tablesOpenWrong : ChangeSpec := { name := "tablesOpen", fn := fun _ => fun
  | [d] => { results := [.lit (.bool false)], args := [d] }
  | _ => none }
def TablesOpenWrongFalsely : Prop := tablesOpenRow.holds Tryz.pinned (OpenSpec.ofChange tablesOpenWrong)

/-- 'gauntletlaw36.TablesCheck': WHATEVER THE INPUT: true; the input reads as it did. -/
def tablesCheckSpec : ChangeSpec := { name := "tablesCheck", fn := fun _ => fun
  | [d] => { results := [.lit (.bool true)], args := [d] }
  | _ => none }
def tablesCheckRow : OpenClaim := { program := "ytpimmmnkcgnjjaagreat", sum := "67999975e4e6b2cb121ce30ea839bea4ebe2c60173c214148bdae5e1271befc0", func := "gauntlet/gauntletlaw36.TablesCheck", spec := "tablesCheck", unfollowed := true, recurses := true, apart := false }
def TablesCheckSaid : Prop := tablesCheckRow.holds Tryz.pinned (OpenSpec.ofChange tablesCheckSpec)

/-- ITS FALSE NEIGHBOUR: 'it returns false'. Refute it at one input. -/
def tablesCheckWrong : ChangeSpec := { name := "tablesCheck", fn := fun _ => fun
  | [d] => { results := [.lit (.bool false)], args := [d] }
  | _ => none }
def TablesCheckWrongFalsely : Prop := tablesCheckRow.holds Tryz.pinned (OpenSpec.ofChange tablesCheckWrong)

/-- 'gauntletlaw36.TablesPut': WHATEVER THE INPUT: true; the input reads as it did. -/
def tablesPutSpec : ChangeSpec := { name := "tablesPut", fn := fun _ => fun
  | [d1, d2] => { results := [.lit (.bool true)], args := [d1, d2] }
  | _ => none }
def tablesPutRow : OpenClaim := { program := "ytpimmmnkcgnjjaagreat", sum := "67999975e4e6b2cb121ce30ea839bea4ebe2c60173c214148bdae5e1271befc0", func := "gauntlet/gauntletlaw36.TablesPut", spec := "tablesPut", unfollowed := true, recurses := true, apart := false }
def TablesPutSaid : Prop := tablesPutRow.holds Tryz.pinned (OpenSpec.ofChange tablesPutSpec)

/-- ITS FALSE NEIGHBOUR: 'it returns false'. Refute it at one input. -/
def tablesPutWrong : ChangeSpec := { name := "tablesPut", fn := fun _ => fun
  | [d1, d2] => { results := [.lit (.bool false)], args := [d1, d2] }
  | _ => none }
def TablesPutWrongFalsely : Prop := tablesPutRow.holds Tryz.pinned (OpenSpec.ofChange tablesPutWrong)

/-- 'gauntletlaw36.TablesSuffix': WHATEVER THE INPUT: true; the input reads as it did. -/
def tablesSuffixSpec : ChangeSpec := { name := "tablesSuffix", fn := fun _ => fun
  | [d1, d2, d3] => { results := [.lit (.bool true)], args := [d1, d2, d3] }
  | _ => none }
def tablesSuffixRow : OpenClaim := { program := "ytpimmmnkcgnjjaagreat", sum := "67999975e4e6b2cb121ce30ea839bea4ebe2c60173c214148bdae5e1271befc0", func := "gauntlet/gauntletlaw36.TablesSuffix", spec := "tablesSuffix", unfollowed := true, recurses := true, apart := false }
def TablesSuffixSaid : Prop := tablesSuffixRow.holds Tryz.pinned (OpenSpec.ofChange tablesSuffixSpec)

/-- ITS FALSE NEIGHBOUR: 'it returns false'. Refute it at one input. -/
def tablesSuffixWrong : ChangeSpec := { name := "tablesSuffix", fn := fun _ => fun
  | [d1, d2, d3] => { results := [.lit (.bool false)], args := [d1, d2, d3] }
  | _ => none }
def TablesSuffixWrongFalsely : Prop := tablesSuffixRow.holds Tryz.pinned (OpenSpec.ofChange tablesSuffixWrong)

/-- 'gauntletlaw36.TablesKnown': WHATEVER THE INPUT: true; the input reads as it did. -/
def tablesKnownSpec : ChangeSpec := { name := "tablesKnown", fn := fun _ => fun
  | [] => { results := [.lit (.bool true)], args := [] }
  | _ => none }
def tablesKnownRow : OpenClaim := { program := "ytpimmmnkcgnjjaagreat", sum := "67999975e4e6b2cb121ce30ea839bea4ebe2c60173c214148bdae5e1271befc0", func := "gauntlet/gauntletlaw36.TablesKnown", spec := "tablesKnown", unfollowed := true, recurses := true, apart := false }
def TablesKnownSaid : Prop := tablesKnownRow.holds Tryz.pinned (OpenSpec.ofChange tablesKnownSpec)

/-- ITS FALSE NEIGHBOUR: 'it returns false'. Refute it at one input. -/
def tablesKnownWrong : ChangeSpec := { name := "tablesKnown", fn := fun _ => fun
  | [] => { results := [.lit (.bool false)], args := [] }
  | _ => none }
def TablesKnownWrongFalsely : Prop := tablesKnownRow.holds Tryz.pinned (OpenSpec.ofChange tablesKnownWrong)

/- THE SECOND FORM. 'bulk': how many values and letters a reading holds, each counted each time it is reached (what is shared counts as often as it is met; a slice's spare places count too). A statement '..UptoSaid' is the law's where the arguments, and the package variables that the reading takes, are together of bulk at most 1048576: NARROWER than '..Said'. Prove '..Said' where nothing that the law and all that it calls make is longer than what came in: it says more and counts as full. Else prove '..UptoSaid'. A law counts once. -/
mutual
def uptoBulk {H : Type} : DataW H → Nat
  | .lit (.string bytes) => bytes.length + 1
  | .lit _ => 1
  | .nil => 1
  | .ptr d => uptoBulk d + 1
  | .slice elems spare => uptoBulkAll elems + uptoBulkAll spare + 1
  | .agg parts => uptoBulkAll parts + 1
  | .iface _ d => uptoBulk d + 1
  | .map entries => uptoBulkEntries entries + 1
  | .held _ => 1
def uptoBulkAll {H : Type} : List (DataW H) → Nat
  | [] => 0
  | d :: r => uptoBulk d + uptoBulkAll r
def uptoBulkEntries {H : Type} : List (Lit × DataW H) → Nat
  | [] => 0
  | x :: r => uptoBulkEntry x + uptoBulkEntries r
def uptoBulkEntry {H : Type} : Lit × DataW H → Nat
  | (.string bytes, d) => bytes.length + uptoBulk d + 1
  | (_, d) => uptoBulk d + 1
 end
def uptoSmall : (H : Type) → List (DataW H) → Bool := fun _ ds => decide (uptoBulkAll ds ≤ 1048576)
def OpenSpec.upto (s : _root_.Go.ChangeSpec) : _root_.Go.OpenSpec := { _root_.Go.OpenSpec.ofChange s with cond := some uptoSmall }

/-- 'gauntletlaw36.TablesNew', WHERE WHAT IT READS IS OF BULK AT MOST 1048576: true; the input reads as it did. -/
def tablesNewUptoRow : OpenClaim := { program := "ytpimmmnkcgnjjaagreat", sum := "67999975e4e6b2cb121ce30ea839bea4ebe2c60173c214148bdae5e1271befc0", func := "gauntlet/gauntletlaw36.TablesNew", spec := "tablesNew", unfollowed := true, recurses := true, apart := false, narrowed := true }
def TablesNewUptoSaid : Prop := tablesNewUptoRow.holds Tryz.pinned (OpenSpec.upto tablesNewSpec)

/-- 'gauntletlaw36.TablesAsks', WHERE WHAT IT READS IS OF BULK AT MOST 1048576: true; the input reads as it did. -/
def tablesAsksUptoRow : OpenClaim := { program := "ytpimmmnkcgnjjaagreat", sum := "67999975e4e6b2cb121ce30ea839bea4ebe2c60173c214148bdae5e1271befc0", func := "gauntlet/gauntletlaw36.TablesAsks", spec := "tablesAsks", unfollowed := true, recurses := true, apart := false, narrowed := true }
def TablesAsksUptoSaid : Prop := tablesAsksUptoRow.holds Tryz.pinned (OpenSpec.upto tablesAsksSpec)

/-- 'gauntletlaw36.TablesTell', WHERE WHAT IT READS IS OF BULK AT MOST 1048576: true; the input reads as it did. -/
def tablesTellUptoRow : OpenClaim := { program := "ytpimmmnkcgnjjaagreat", sum := "67999975e4e6b2cb121ce30ea839bea4ebe2c60173c214148bdae5e1271befc0", func := "gauntlet/gauntletlaw36.TablesTell", spec := "tablesTell", unfollowed := true, recurses := true, apart := false, narrowed := true }
def TablesTellUptoSaid : Prop := tablesTellUptoRow.holds Tryz.pinned (OpenSpec.upto tablesTellSpec)

/-- 'gauntletlaw36.TablesRow', WHERE WHAT IT READS IS OF BULK AT MOST 1048576: true; the input reads as it did. -/
def tablesRowUptoRow : OpenClaim := { program := "ytpimmmnkcgnjjaagreat", sum := "67999975e4e6b2cb121ce30ea839bea4ebe2c60173c214148bdae5e1271befc0", func := "gauntlet/gauntletlaw36.TablesRow", spec := "tablesRow", unfollowed := true, recurses := true, apart := false, narrowed := true }
def TablesRowUptoSaid : Prop := tablesRowUptoRow.holds Tryz.pinned (OpenSpec.upto tablesRowSpec)

/-- 'gauntletlaw36.TablesOpen', WHERE WHAT IT READS IS OF BULK AT MOST 1048576: true; the input reads as it did. -/
def tablesOpenUptoRow : OpenClaim := { program := "ytpimmmnkcgnjjaagreat", sum := "67999975e4e6b2cb121ce30ea839bea4ebe2c60173c214148bdae5e1271befc0", func := "gauntlet/gauntletlaw36.TablesOpen", spec := "tablesOpen", unfollowed := true, recurses := true, apart := false, narrowed := true }
def TablesOpenUptoSaid : Prop := tablesOpenUptoRow.holds Tryz.pinned (OpenSpec.upto tablesOpenSpec)

/-- 'gauntletlaw36.TablesCheck', WHERE WHAT IT READS IS OF BULK AT MOST 1048576: true; the input reads as it did. -/
def tablesCheckUptoRow : OpenClaim := { program := "ytpimmmnkcgnjjaagreat", sum := "67999975e4e6b2cb121ce30ea839bea4ebe2c60173c214148bdae5e1271befc0", func := "gauntlet/gauntletlaw36.TablesCheck", spec := "tablesCheck", unfollowed := true, recurses := true, apart := false, narrowed := true }
def TablesCheckUptoSaid : Prop := tablesCheckUptoRow.holds Tryz.pinned (OpenSpec.upto tablesCheckSpec)

/-- 'gauntletlaw36.TablesPut', WHERE WHAT IT READS IS OF BULK AT MOST 1048576: true; the input reads as it did. -/
def tablesPutUptoRow : OpenClaim := { program := "ytpimmmnkcgnjjaagreat", sum := "67999975e4e6b2cb121ce30ea839bea4ebe2c60173c214148bdae5e1271befc0", func := "gauntlet/gauntletlaw36.TablesPut", spec := "tablesPut", unfollowed := true, recurses := true, apart := false, narrowed := true }
def TablesPutUptoSaid : Prop := tablesPutUptoRow.holds Tryz.pinned (OpenSpec.upto tablesPutSpec)

/-- 'gauntletlaw36.TablesSuffix', WHERE WHAT IT READS IS OF BULK AT MOST 1048576: true; the input reads as it did. -/
def tablesSuffixUptoRow : OpenClaim := { program := "ytpimmmnkcgnjjaagreat", sum := "67999975e4e6b2cb121ce30ea839bea4ebe2c60173c214148bdae5e1271befc0", func := "gauntlet/gauntletlaw36.TablesSuffix", spec := "tablesSuffix", unfollowed := true, recurses := true, apart := false, narrowed := true }
def TablesSuffixUptoSaid : Prop := tablesSuffixUptoRow.holds Tryz.pinned (OpenSpec.upto tablesSuffixSpec)

/-- 'gauntletlaw36.TablesKnown', WHERE WHAT IT READS IS OF BULK AT MOST 1048576: true; the input reads as it did. -/
def tablesKnownUptoRow : OpenClaim := { program := "ytpimmmnkcgnjjaagreat", sum := "67999975e4e6b2cb121ce30ea839bea4ebe2c60173c214148bdae5e1271befc0", func := "gauntlet/gauntletlaw36.TablesKnown", spec := "tablesKnown", unfollowed := true, recurses := true, apart := false, narrowed := true }
def TablesKnownUptoSaid : Prop := tablesKnownUptoRow.holds Tryz.pinned (OpenSpec.upto tablesKnownSpec)

end Rows
end Go.Proofs.YtpimmmnkcgnjjaaGreat
