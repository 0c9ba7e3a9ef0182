/-
  No cell of these rows narrows 'for every input' (looked for: loops, veiled, ifaces, maps, wideKeys, modest, calm, conditions, laid).
  DERIVED. THE GIVEN ROWS OF THIS SEAT. 6 by the template 'for every input the law returns true; each argument reads behind the call as it read before'; 0 by the template 'total and deterministic' (their statements: YtgoooilgmabkmaaTotals.lean).
  GIVEN WITH THE SEED: the statements are not yours to turn. If you find one false, say at which input.
  Laid BY PROGRAM, IN A SANDBOX (cutbox-rows.mjs): the forced cells as the released guide's own fill.sh prints them over the translation f1b2d0847aa2056f… (all of the seat's roots in one cut). By AI agents, Wed Nov 11 2026. No macro, syntax, notation, axiom, sorry.
-/
import Derived.Test.YtgoooilgmabkmaaChecked
import GoSem.Claim
import GoSem.ClaimJoined
import GoSem.ClaimMapViews
import Derived.JoinedTies
import Derived.KernelRfl
namespace Go.Proofs.Ytgoooilgmabkmaa
/- THE CELL 'sum', in the pinned program and in every row, IS THE sha256 OF THE DUMP (.gsa) THAT YtgoooilgmabkmaaProg.lean LOADS. Nothing in Lean hashes anything: it is a label: what it is worth is what the hold of that sum in a sandbox is worth. -/
noncomputable def Try.pinned : Pinned := { name := "ytgoooilgmabkmaa", sum := "f1b2d0847aa2056f3283aa71945f95c370607db972431b937b16dd8e3584f298", checked := Try.checked }
namespace Rows
def none {H : Type} : Left H := { results := [], args := [] }

/-- 'pleachlaw11.PastNames': WHATEVER THE INPUT: true; the input reads as it did. -/
def pastNamesSpec : ChangeSpec := { name := "pastNames", fn := fun _ => fun
  | [] => { results := [.lit (.bool true)], args := [] }
  | _ => none }
def pastNamesRow : OpenClaim := { program := "ytgoooilgmabkmaa", sum := "f1b2d0847aa2056f3283aa71945f95c370607db972431b937b16dd8e3584f298", func := "pleach/pleachlaw11.PastNames", spec := "pastNames", inPlace := ["internal/bytealg.Compare"], unfollowed := true, recurses := true, plainKeys := false, apart := false }
def PastNamesSaid : Prop := pastNamesRow.holds Try.pinned (OpenSpec.ofChange pastNamesSpec)

/-- ITS FALSE NEIGHBOUR: 'it returns false'. Refute it at one input. -/
def pastNamesWrong : ChangeSpec := { name := "pastNames", fn := fun _ => fun
  | [] => { results := [.lit (.bool false)], args := [] }
  | _ => none }
def PastNamesWrongFalsely : Prop := pastNamesRow.holds Try.pinned (OpenSpec.ofChange pastNamesWrong)

/-- 'pleachlaw11.PastOrders': WHATEVER THE INPUT: true; the input reads as it did. -/
def pastOrdersSpec : ChangeSpec := { name := "pastOrders", fn := fun _ => fun
  | [d1, d2] => { results := [.lit (.bool true)], args := [d1, d2] }
  | _ => none }
def pastOrdersRow : OpenClaim := { program := "ytgoooilgmabkmaa", sum := "f1b2d0847aa2056f3283aa71945f95c370607db972431b937b16dd8e3584f298", func := "pleach/pleachlaw11.PastOrders", spec := "pastOrders", inPlace := ["internal/bytealg.Compare"], unfollowed := true, recurses := true, plainKeys := false, apart := false }
def PastOrdersSaid : Prop := pastOrdersRow.holds Try.pinned (OpenSpec.ofChange pastOrdersSpec)

/-- ITS FALSE NEIGHBOUR: 'it returns false'. Refute it at one input. -/
def pastOrdersWrong : ChangeSpec := { name := "pastOrders", fn := fun _ => fun
  | [d1, d2] => { results := [.lit (.bool false)], args := [d1, d2] }
  | _ => none }
def PastOrdersWrongFalsely : Prop := pastOrdersRow.holds Try.pinned (OpenSpec.ofChange pastOrdersWrong)

/-- 'pleachlaw14.RegParts': WHATEVER THE INPUT: true; the input reads as it did. -/
def regPartsSpec : ChangeSpec := { name := "regParts", fn := fun _ => fun
  | [d1, d2, d3] => { results := [.lit (.bool true)], args := [d1, d2, d3] }
  | _ => none }
def regPartsRow : OpenClaim := { program := "ytgoooilgmabkmaa", sum := "f1b2d0847aa2056f3283aa71945f95c370607db972431b937b16dd8e3584f298", func := "pleach/pleachlaw14.RegParts", spec := "regParts", inPlace := ["internal/bytealg.Compare"], unfollowed := true, recurses := true, plainKeys := false, apart := false }
def RegPartsSaid : Prop := regPartsRow.holds Try.pinned (OpenSpec.ofChange regPartsSpec)

/-- ITS FALSE NEIGHBOUR: 'it returns false'. Refute it at one input. -/
def regPartsWrong : ChangeSpec := { name := "regParts", fn := fun _ => fun
  | [d1, d2, d3] => { results := [.lit (.bool false)], args := [d1, d2, d3] }
  | _ => none }
def RegPartsWrongFalsely : Prop := regPartsRow.holds Try.pinned (OpenSpec.ofChange regPartsWrong)

/-- 'pleachlaw11.PastGrows': WHATEVER THE INPUT: true; the input reads as it did. -/
def pastGrowsSpec : ChangeSpec := { name := "pastGrows", fn := fun _ => fun
  | [d1, d2, d3] => { results := [.lit (.bool true)], args := [d1, d2, d3] }
  | _ => none }
def pastGrowsRow : OpenClaim := { program := "ytgoooilgmabkmaa", sum := "f1b2d0847aa2056f3283aa71945f95c370607db972431b937b16dd8e3584f298", func := "pleach/pleachlaw11.PastGrows", spec := "pastGrows", inPlace := ["internal/bytealg.Compare"], unfollowed := true, recurses := true, plainKeys := false, apart := false }
def PastGrowsSaid : Prop := pastGrowsRow.holds Try.pinned (OpenSpec.ofChange pastGrowsSpec)

/-- ITS FALSE NEIGHBOUR: 'it returns false'. Refute it at one input. -/
def pastGrowsWrong : ChangeSpec := { name := "pastGrows", fn := fun _ => fun
  | [d1, d2, d3] => { results := [.lit (.bool false)], args := [d1, d2, d3] }
  | _ => none }
def PastGrowsWrongFalsely : Prop := pastGrowsRow.holds Try.pinned (OpenSpec.ofChange pastGrowsWrong)

/-- 'pleachlaw11.PastFollows': WHATEVER THE INPUT: true; the input reads as it did. -/
def pastFollowsSpec : ChangeSpec := { name := "pastFollows", fn := fun _ => fun
  | [d1, d2] => { results := [.lit (.bool true)], args := [d1, d2] }
  | _ => none }
def pastFollowsRow : OpenClaim := { program := "ytgoooilgmabkmaa", sum := "f1b2d0847aa2056f3283aa71945f95c370607db972431b937b16dd8e3584f298", func := "pleach/pleachlaw11.PastFollows", spec := "pastFollows", inPlace := ["internal/bytealg.Compare"], unfollowed := true, recurses := true, plainKeys := false, apart := false }
def PastFollowsSaid : Prop := pastFollowsRow.holds Try.pinned (OpenSpec.ofChange pastFollowsSpec)

/-- ITS FALSE NEIGHBOUR: 'it returns false'. Refute it at one input. -/
def pastFollowsWrong : ChangeSpec := { name := "pastFollows", fn := fun _ => fun
  | [d1, d2] => { results := [.lit (.bool false)], args := [d1, d2] }
  | _ => none }
def PastFollowsWrongFalsely : Prop := pastFollowsRow.holds Try.pinned (OpenSpec.ofChange pastFollowsWrong)

/-- 'pleachlaw17.SeqStands': WHATEVER THE INPUT: true; the input reads as it did. -/
def seqStandsSpec : ChangeSpec := { name := "seqStands", fn := fun _ => fun
  | [d1, d2, d3] => { results := [.lit (.bool true)], args := [d1, d2, d3] }
  | _ => none }
def seqStandsRow : OpenClaim := { program := "ytgoooilgmabkmaa", sum := "f1b2d0847aa2056f3283aa71945f95c370607db972431b937b16dd8e3584f298", func := "pleach/pleachlaw17.SeqStands", spec := "seqStands", inPlace := ["internal/bytealg.Compare"], unfollowed := true, recurses := true, plainKeys := false, apart := false }
def SeqStandsSaid : Prop := seqStandsRow.holds Try.pinned (OpenSpec.ofChange seqStandsSpec)

/-- ITS FALSE NEIGHBOUR: 'it returns false'. Refute it at one input. -/
def seqStandsWrong : ChangeSpec := { name := "seqStands", fn := fun _ => fun
  | [d1, d2, d3] => { results := [.lit (.bool false)], args := [d1, d2, d3] }
  | _ => none }
def SeqStandsWrongFalsely : Prop := seqStandsRow.holds Try.pinned (OpenSpec.ofChange seqStandsWrong)

/- THE SECOND FORM. 'bulk': how many values and letters a reading holds, each counted each time it is reached (what is shared counts as often as it is met; a slice's spare places count too). A statement '..UptoSaid' is the law's where the arguments, and the package variables that the reading takes, are together of bulk at most 1048576: NARROWER than '..Said'. Prove '..Said' where nothing that the law and all that it calls make is longer than what came in: it says more and counts as full. Else prove '..UptoSaid'. A law counts once. -/
mutual
def uptoBulk {H : Type} : DataW H → Nat
  | .lit (.string bytes) => bytes.length + 1
  | .lit _ => 1
  | .nil => 1
  | .ptr d => uptoBulk d + 1
  | .slice elems spare => uptoBulkAll elems + uptoBulkAll spare + 1
  | .agg parts => uptoBulkAll parts + 1
  | .iface _ d => uptoBulk d + 1
  | .map entries => uptoBulkEntries entries + 1
  | .held _ => 1
def uptoBulkAll {H : Type} : List (DataW H) → Nat
  | [] => 0
  | d :: r => uptoBulk d + uptoBulkAll r
def uptoBulkEntries {H : Type} : List (Lit × DataW H) → Nat
  | [] => 0
  | x :: r => uptoBulkEntry x + uptoBulkEntries r
def uptoBulkEntry {H : Type} : Lit × DataW H → Nat
  | (.string bytes, d) => bytes.length + uptoBulk d + 1
  | (_, d) => uptoBulk d + 1
 end
def uptoSmall : (H : Type) → List (DataW H) → Bool := fun _ ds => decide (uptoBulkAll ds ≤ 1048576)
def OpenSpec.upto (s : _root_.Go.ChangeSpec) : _root_.Go.OpenSpec := { _root_.Go.OpenSpec.ofChange s with cond := some uptoSmall }

/-- 'pleachlaw11.PastNames', WHERE WHAT IT READS IS OF BULK AT MOST 1048576: true; the input reads as it did. -/
def pastNamesUptoRow : OpenClaim := { program := "ytgoooilgmabkmaa", sum := "f1b2d0847aa2056f3283aa71945f95c370607db972431b937b16dd8e3584f298", func := "pleach/pleachlaw11.PastNames", spec := "pastNames", inPlace := ["internal/bytealg.Compare"], unfollowed := true, recurses := true, plainKeys := false, apart := false, narrowed := true }
def PastNamesUptoSaid : Prop := pastNamesUptoRow.holds Try.pinned (OpenSpec.upto pastNamesSpec)

/-- 'pleachlaw11.PastOrders', WHERE WHAT IT READS IS OF BULK AT MOST 1048576: true; the input reads as it did. -/
def pastOrdersUptoRow : OpenClaim := { program := "ytgoooilgmabkmaa", sum := "f1b2d0847aa2056f3283aa71945f95c370607db972431b937b16dd8e3584f298", func := "pleach/pleachlaw11.PastOrders", spec := "pastOrders", inPlace := ["internal/bytealg.Compare"], unfollowed := true, recurses := true, plainKeys := false, apart := false, narrowed := true }
def PastOrdersUptoSaid : Prop := pastOrdersUptoRow.holds Try.pinned (OpenSpec.upto pastOrdersSpec)

/-- 'pleachlaw14.RegParts', WHERE WHAT IT READS IS OF BULK AT MOST 1048576: true; the input reads as it did. -/
def regPartsUptoRow : OpenClaim := { program := "ytgoooilgmabkmaa", sum := "f1b2d0847aa2056f3283aa71945f95c370607db972431b937b16dd8e3584f298", func := "pleach/pleachlaw14.RegParts", spec := "regParts", inPlace := ["internal/bytealg.Compare"], unfollowed := true, recurses := true, plainKeys := false, apart := false, narrowed := true }
def RegPartsUptoSaid : Prop := regPartsUptoRow.holds Try.pinned (OpenSpec.upto regPartsSpec)

/-- 'pleachlaw11.PastGrows', WHERE WHAT IT READS IS OF BULK AT MOST 1048576: true; the input reads as it did. -/
def pastGrowsUptoRow : OpenClaim := { program := "ytgoooilgmabkmaa", sum := "f1b2d0847aa2056f3283aa71945f95c370607db972431b937b16dd8e3584f298", func := "pleach/pleachlaw11.PastGrows", spec := "pastGrows", inPlace := ["internal/bytealg.Compare"], unfollowed := true, recurses := true, plainKeys := false, apart := false, narrowed := true }
def PastGrowsUptoSaid : Prop := pastGrowsUptoRow.holds Try.pinned (OpenSpec.upto pastGrowsSpec)

/-- 'pleachlaw11.PastFollows', WHERE WHAT IT READS IS OF BULK AT MOST 1048576: true; the input reads as it did. -/
def pastFollowsUptoRow : OpenClaim := { program := "ytgoooilgmabkmaa", sum := "f1b2d0847aa2056f3283aa71945f95c370607db972431b937b16dd8e3584f298", func := "pleach/pleachlaw11.PastFollows", spec := "pastFollows", inPlace := ["internal/bytealg.Compare"], unfollowed := true, recurses := true, plainKeys := false, apart := false, narrowed := true }
def PastFollowsUptoSaid : Prop := pastFollowsUptoRow.holds Try.pinned (OpenSpec.upto pastFollowsSpec)

/-- 'pleachlaw17.SeqStands', WHERE WHAT IT READS IS OF BULK AT MOST 1048576: true; the input reads as it did. -/
def seqStandsUptoRow : OpenClaim := { program := "ytgoooilgmabkmaa", sum := "f1b2d0847aa2056f3283aa71945f95c370607db972431b937b16dd8e3584f298", func := "pleach/pleachlaw17.SeqStands", spec := "seqStands", inPlace := ["internal/bytealg.Compare"], unfollowed := true, recurses := true, plainKeys := false, apart := false, narrowed := true }
def SeqStandsUptoSaid : Prop := seqStandsUptoRow.holds Try.pinned (OpenSpec.upto seqStandsSpec)

end Rows
end Go.Proofs.Ytgoooilgmabkmaa
