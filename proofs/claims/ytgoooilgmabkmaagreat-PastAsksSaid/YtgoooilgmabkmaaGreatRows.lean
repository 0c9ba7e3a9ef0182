/-
  No cell of these rows narrows 'for every input' (looked for: loops, veiled, ifaces, maps, wideKeys, modest, calm, conditions, laid).
  DERIVED. THE GIVEN ROWS OF THIS SEAT. 19 by the template 'for every input the law returns true; each argument reads behind the call as it read before'; 0 by the template 'total and deterministic' (their statements: YtgoooilgmabkmaaGreatTotals.lean).
  GIVEN WITH THE SEED: the statements are not yours to turn. If you find one false, say at which input.
  Laid BY PROGRAM, IN A SANDBOX (cutbox-rows.mjs): the forced cells as the released guide's own fill.sh prints them over the translation 566492eedc39e5f2… (all of the seat's roots in one cut). By AI agents, Wed Nov 11 2026. No macro, syntax, notation, axiom, sorry.
-/
import Derived.Test.YtgoooilgmabkmaaGreatChecked
import GoSem.Claim
import GoSem.ClaimJoined
import GoSem.ClaimMapViews
import Derived.JoinedTies
import Derived.KernelRfl
namespace Go.Proofs.YtgoooilgmabkmaaGreat
/- THE CELL 'sum', in the pinned program and in every row, IS THE sha256 OF THE DUMP (.gsa) THAT YtgoooilgmabkmaaGreatProg.lean LOADS. Nothing in Lean hashes anything: it is a label: what it is worth is what the hold of that sum in a sandbox is worth. -/
noncomputable def Tryz.pinned : Pinned := { name := "ytgoooilgmabkmaagreat", sum := "566492eedc39e5f260a2d0dc42393cd539f3823332e7d4c364d3dcf1ee871a8f", checked := Tryz.checked }
namespace Rows
def none {H : Type} : Left H := { results := [], args := [] }

/-- 'pleachlaw14.RegReads': WHATEVER THE INPUT: true; the input reads as it did. -/
def regReadsSpec : ChangeSpec := { name := "regReads", fn := fun _ => fun
  | [d1, d2] => { results := [.lit (.bool true)], args := [d1, d2] }
  | _ => none }
def regReadsRow : OpenClaim := { program := "ytgoooilgmabkmaagreat", sum := "566492eedc39e5f260a2d0dc42393cd539f3823332e7d4c364d3dcf1ee871a8f", func := "pleach/pleachlaw14.RegReads", spec := "regReads", inPlace := ["internal/bytealg.Compare"], unfollowed := true, recurses := true, plainKeys := false, apart := false }
def RegReadsSaid : Prop := regReadsRow.holds Tryz.pinned (OpenSpec.ofChange regReadsSpec)

/-- ITS FALSE NEIGHBOUR: 'it returns false'. Refute it at one input. -/
def regReadsWrong : ChangeSpec := { name := "regReads", fn := fun _ => fun
  | [d1, d2] => { results := [.lit (.bool false)], args := [d1, d2] }
  | _ => none }
def RegReadsWrongFalsely : Prop := regReadsRow.holds Tryz.pinned (OpenSpec.ofChange regReadsWrong)

/-- 'pleachlaw14.RegFollows': WHATEVER THE INPUT: true; the input reads as it did. -/
def regFollowsSpec : ChangeSpec := { name := "regFollows", fn := fun _ => fun
  | [d1, d2, d3] => { results := [.lit (.bool true)], args := [d1, d2, d3] }
  | _ => none }
def regFollowsRow : OpenClaim := { program := "ytgoooilgmabkmaagreat", sum := "566492eedc39e5f260a2d0dc42393cd539f3823332e7d4c364d3dcf1ee871a8f", func := "pleach/pleachlaw14.RegFollows", spec := "regFollows", inPlace := ["internal/bytealg.Compare"], unfollowed := true, recurses := true, plainKeys := false, apart := false }
def RegFollowsSaid : Prop := regFollowsRow.holds Tryz.pinned (OpenSpec.ofChange regFollowsSpec)

/-- ITS FALSE NEIGHBOUR: 'it returns false'. Refute it at one input. -/
def regFollowsWrong : ChangeSpec := { name := "regFollows", fn := fun _ => fun
  | [d1, d2, d3] => { results := [.lit (.bool false)], args := [d1, d2, d3] }
  | _ => none }
def RegFollowsWrongFalsely : Prop := regFollowsRow.holds Tryz.pinned (OpenSpec.ofChange regFollowsWrong)

/-- 'pleachlaw14.RegKeeps': WHATEVER THE INPUT: true; the input reads as it did. -/
def regKeepsSpec : ChangeSpec := { name := "regKeeps", fn := fun _ => fun
  | [d1, d2] => { results := [.lit (.bool true)], args := [d1, d2] }
  | _ => none }
def regKeepsRow : OpenClaim := { program := "ytgoooilgmabkmaagreat", sum := "566492eedc39e5f260a2d0dc42393cd539f3823332e7d4c364d3dcf1ee871a8f", func := "pleach/pleachlaw14.RegKeeps", spec := "regKeeps", inPlace := ["internal/bytealg.Compare"], unfollowed := true, recurses := true, plainKeys := false, apart := false }
def RegKeepsSaid : Prop := regKeepsRow.holds Tryz.pinned (OpenSpec.ofChange regKeepsSpec)

/-- ITS FALSE NEIGHBOUR: 'it returns false'. Refute it at one input. -/
def regKeepsWrong : ChangeSpec := { name := "regKeeps", fn := fun _ => fun
  | [d1, d2] => { results := [.lit (.bool false)], args := [d1, d2] }
  | _ => none }
def RegKeepsWrongFalsely : Prop := regKeepsRow.holds Tryz.pinned (OpenSpec.ofChange regKeepsWrong)

/-- 'pleachlaw16.CountsFollows': WHATEVER THE INPUT: true; the input reads as it did. -/
def countsFollowsSpec : ChangeSpec := { name := "countsFollows", fn := fun _ => fun
  | [d1, d2] => { results := [.lit (.bool true)], args := [d1, d2] }
  | _ => none }
def countsFollowsRow : OpenClaim := { program := "ytgoooilgmabkmaagreat", sum := "566492eedc39e5f260a2d0dc42393cd539f3823332e7d4c364d3dcf1ee871a8f", func := "pleach/pleachlaw16.CountsFollows", spec := "countsFollows", inPlace := ["internal/bytealg.Compare"], unfollowed := true, recurses := true, plainKeys := false, apart := false }
def CountsFollowsSaid : Prop := countsFollowsRow.holds Tryz.pinned (OpenSpec.ofChange countsFollowsSpec)

/-- ITS FALSE NEIGHBOUR: 'it returns false'. Refute it at one input. -/
def countsFollowsWrong : ChangeSpec := { name := "countsFollows", fn := fun _ => fun
  | [d1, d2] => { results := [.lit (.bool false)], args := [d1, d2] }
  | _ => none }
def CountsFollowsWrongFalsely : Prop := countsFollowsRow.holds Tryz.pinned (OpenSpec.ofChange countsFollowsWrong)

/-- 'pleachlaw11.PastOf': WHATEVER THE INPUT: true; the input reads as it did. -/
def pastOfSpec : ChangeSpec := { name := "pastOf", fn := fun _ => fun
  | [d1, d2] => { results := [.lit (.bool true)], args := [d1, d2] }
  | _ => none }
def pastOfRow : OpenClaim := { program := "ytgoooilgmabkmaagreat", sum := "566492eedc39e5f260a2d0dc42393cd539f3823332e7d4c364d3dcf1ee871a8f", func := "pleach/pleachlaw11.PastOf", spec := "pastOf", inPlace := ["internal/bytealg.Compare"], unfollowed := true, recurses := true, plainKeys := false, apart := false }
def PastOfSaid : Prop := pastOfRow.holds Tryz.pinned (OpenSpec.ofChange pastOfSpec)

/-- ITS FALSE NEIGHBOUR: 'it returns false'. Refute it at one input. -/
def pastOfWrong : ChangeSpec := { name := "pastOf", fn := fun _ => fun
  | [d1, d2] => { results := [.lit (.bool false)], args := [d1, d2] }
  | _ => none }
def PastOfWrongFalsely : Prop := pastOfRow.holds Tryz.pinned (OpenSpec.ofChange pastOfWrong)

/-- 'pleachlaw16.CountsKeeps': WHATEVER THE INPUT: true; the input reads as it did. -/
def countsKeepsSpec : ChangeSpec := { name := "countsKeeps", fn := fun _ => fun
  | [d1, d2] => { results := [.lit (.bool true)], args := [d1, d2] }
  | _ => none }
def countsKeepsRow : OpenClaim := { program := "ytgoooilgmabkmaagreat", sum := "566492eedc39e5f260a2d0dc42393cd539f3823332e7d4c364d3dcf1ee871a8f", func := "pleach/pleachlaw16.CountsKeeps", spec := "countsKeeps", inPlace := ["internal/bytealg.Compare"], unfollowed := true, recurses := true, plainKeys := false, apart := false }
def CountsKeepsSaid : Prop := countsKeepsRow.holds Tryz.pinned (OpenSpec.ofChange countsKeepsSpec)

/-- ITS FALSE NEIGHBOUR: 'it returns false'. Refute it at one input. -/
def countsKeepsWrong : ChangeSpec := { name := "countsKeeps", fn := fun _ => fun
  | [d1, d2] => { results := [.lit (.bool false)], args := [d1, d2] }
  | _ => none }
def CountsKeepsWrongFalsely : Prop := countsKeepsRow.holds Tryz.pinned (OpenSpec.ofChange countsKeepsWrong)

/-- 'pleachlaw15.OrsetReads': WHATEVER THE INPUT: true; the input reads as it did. -/
def orsetReadsSpec : ChangeSpec := { name := "orsetReads", fn := fun _ => fun
  | [d1, d2, d3] => { results := [.lit (.bool true)], args := [d1, d2, d3] }
  | _ => none }
def orsetReadsRow : OpenClaim := { program := "ytgoooilgmabkmaagreat", sum := "566492eedc39e5f260a2d0dc42393cd539f3823332e7d4c364d3dcf1ee871a8f", func := "pleach/pleachlaw15.OrsetReads", spec := "orsetReads", inPlace := ["internal/bytealg.Compare"], unfollowed := true, recurses := true, plainKeys := false, apart := false }
def OrsetReadsSaid : Prop := orsetReadsRow.holds Tryz.pinned (OpenSpec.ofChange orsetReadsSpec)

/-- ITS FALSE NEIGHBOUR: 'it returns false'. Refute it at one input. -/
def orsetReadsWrong : ChangeSpec := { name := "orsetReads", fn := fun _ => fun
  | [d1, d2, d3] => { results := [.lit (.bool false)], args := [d1, d2, d3] }
  | _ => none }
def OrsetReadsWrongFalsely : Prop := orsetReadsRow.holds Tryz.pinned (OpenSpec.ofChange orsetReadsWrong)

/-- 'pleachlaw16.CountsValues': WHATEVER THE INPUT: true; the input reads as it did. -/
def countsValuesSpec : ChangeSpec := { name := "countsValues", fn := fun _ => fun
  | [d1, d2, d3] => { results := [.lit (.bool true)], args := [d1, d2, d3] }
  | _ => none }
def countsValuesRow : OpenClaim := { program := "ytgoooilgmabkmaagreat", sum := "566492eedc39e5f260a2d0dc42393cd539f3823332e7d4c364d3dcf1ee871a8f", func := "pleach/pleachlaw16.CountsValues", spec := "countsValues", inPlace := ["internal/bytealg.Compare"], unfollowed := true, recurses := true, plainKeys := false, apart := false }
def CountsValuesSaid : Prop := countsValuesRow.holds Tryz.pinned (OpenSpec.ofChange countsValuesSpec)

/-- ITS FALSE NEIGHBOUR: 'it returns false'. Refute it at one input. -/
def countsValuesWrong : ChangeSpec := { name := "countsValues", fn := fun _ => fun
  | [d1, d2, d3] => { results := [.lit (.bool false)], args := [d1, d2, d3] }
  | _ => none }
def CountsValuesWrongFalsely : Prop := countsValuesRow.holds Tryz.pinned (OpenSpec.ofChange countsValuesWrong)

/-- 'pleachlaw17.SeqLists': WHATEVER THE INPUT: true; the input reads as it did. -/
def seqListsSpec : ChangeSpec := { name := "seqLists", fn := fun _ => fun
  | [d1, d2, d3] => { results := [.lit (.bool true)], args := [d1, d2, d3] }
  | _ => none }
def seqListsRow : OpenClaim := { program := "ytgoooilgmabkmaagreat", sum := "566492eedc39e5f260a2d0dc42393cd539f3823332e7d4c364d3dcf1ee871a8f", func := "pleach/pleachlaw17.SeqLists", spec := "seqLists", inPlace := ["internal/bytealg.Compare"], unfollowed := true, recurses := true, plainKeys := false, apart := false }
def SeqListsSaid : Prop := seqListsRow.holds Tryz.pinned (OpenSpec.ofChange seqListsSpec)

/-- ITS FALSE NEIGHBOUR: 'it returns false'. Refute it at one input. -/
def seqListsWrong : ChangeSpec := { name := "seqLists", fn := fun _ => fun
  | [d1, d2, d3] => { results := [.lit (.bool false)], args := [d1, d2, d3] }
  | _ => none }
def SeqListsWrongFalsely : Prop := seqListsRow.holds Tryz.pinned (OpenSpec.ofChange seqListsWrong)

/-- 'pleachlaw17.SeqInserts': WHATEVER THE INPUT: true; the input reads as it did. -/
def seqInsertsSpec : ChangeSpec := { name := "seqInserts", fn := fun _ => fun
  | [d1, d2, d3, d4] => { results := [.lit (.bool true)], args := [d1, d2, d3, d4] }
  | _ => none }
def seqInsertsRow : OpenClaim := { program := "ytgoooilgmabkmaagreat", sum := "566492eedc39e5f260a2d0dc42393cd539f3823332e7d4c364d3dcf1ee871a8f", func := "pleach/pleachlaw17.SeqInserts", spec := "seqInserts", inPlace := ["internal/bytealg.Compare"], unfollowed := true, recurses := true, plainKeys := false, apart := false }
def SeqInsertsSaid : Prop := seqInsertsRow.holds Tryz.pinned (OpenSpec.ofChange seqInsertsSpec)

/-- ITS FALSE NEIGHBOUR: 'it returns false'. Refute it at one input. -/
def seqInsertsWrong : ChangeSpec := { name := "seqInserts", fn := fun _ => fun
  | [d1, d2, d3, d4] => { results := [.lit (.bool false)], args := [d1, d2, d3, d4] }
  | _ => none }
def SeqInsertsWrongFalsely : Prop := seqInsertsRow.holds Tryz.pinned (OpenSpec.ofChange seqInsertsWrong)

/-- 'pleachlaw17.SeqKeeps': WHATEVER THE INPUT: true; the input reads as it did. -/
def seqKeepsSpec : ChangeSpec := { name := "seqKeeps", fn := fun _ => fun
  | [d1, d2] => { results := [.lit (.bool true)], args := [d1, d2] }
  | _ => none }
def seqKeepsRow : OpenClaim := { program := "ytgoooilgmabkmaagreat", sum := "566492eedc39e5f260a2d0dc42393cd539f3823332e7d4c364d3dcf1ee871a8f", func := "pleach/pleachlaw17.SeqKeeps", spec := "seqKeeps", inPlace := ["internal/bytealg.Compare"], unfollowed := true, recurses := true, plainKeys := false, apart := false }
def SeqKeepsSaid : Prop := seqKeepsRow.holds Tryz.pinned (OpenSpec.ofChange seqKeepsSpec)

/-- ITS FALSE NEIGHBOUR: 'it returns false'. Refute it at one input. -/
def seqKeepsWrong : ChangeSpec := { name := "seqKeeps", fn := fun _ => fun
  | [d1, d2] => { results := [.lit (.bool false)], args := [d1, d2] }
  | _ => none }
def SeqKeepsWrongFalsely : Prop := seqKeepsRow.holds Tryz.pinned (OpenSpec.ofChange seqKeepsWrong)

/-- 'pleachlaw11.PastAsks': WHATEVER THE INPUT: true; the input reads as it did. -/
def pastAsksSpec : ChangeSpec := { name := "pastAsks", fn := fun _ => fun
  | [d1, d2] => { results := [.lit (.bool true)], args := [d1, d2] }
  | _ => none }
def pastAsksRow : OpenClaim := { program := "ytgoooilgmabkmaagreat", sum := "566492eedc39e5f260a2d0dc42393cd539f3823332e7d4c364d3dcf1ee871a8f", func := "pleach/pleachlaw11.PastAsks", spec := "pastAsks", inPlace := ["internal/bytealg.Compare"], unfollowed := true, recurses := true, plainKeys := false, apart := false }
def PastAsksSaid : Prop := pastAsksRow.holds Tryz.pinned (OpenSpec.ofChange pastAsksSpec)

/-- ITS FALSE NEIGHBOUR: 'it returns false'. Refute it at one input. -/
def pastAsksWrong : ChangeSpec := { name := "pastAsks", fn := fun _ => fun
  | [d1, d2] => { results := [.lit (.bool false)], args := [d1, d2] }
  | _ => none }
def PastAsksWrongFalsely : Prop := pastAsksRow.holds Tryz.pinned (OpenSpec.ofChange pastAsksWrong)

/-- 'pleachlaw11.PastKeeps': WHATEVER THE INPUT: true; the input reads as it did. -/
def pastKeepsSpec : ChangeSpec := { name := "pastKeeps", fn := fun _ => fun
  | [d1, d2] => { results := [.lit (.bool true)], args := [d1, d2] }
  | _ => none }
def pastKeepsRow : OpenClaim := { program := "ytgoooilgmabkmaagreat", sum := "566492eedc39e5f260a2d0dc42393cd539f3823332e7d4c364d3dcf1ee871a8f", func := "pleach/pleachlaw11.PastKeeps", spec := "pastKeeps", inPlace := ["internal/bytealg.Compare"], unfollowed := true, recurses := true, plainKeys := false, apart := false }
def PastKeepsSaid : Prop := pastKeepsRow.holds Tryz.pinned (OpenSpec.ofChange pastKeepsSpec)

/-- ITS FALSE NEIGHBOUR: 'it returns false'. Refute it at one input. -/
def pastKeepsWrong : ChangeSpec := { name := "pastKeeps", fn := fun _ => fun
  | [d1, d2] => { results := [.lit (.bool false)], args := [d1, d2] }
  | _ => none }
def PastKeepsWrongFalsely : Prop := pastKeepsRow.holds Tryz.pinned (OpenSpec.ofChange pastKeepsWrong)

/-- 'pleachlaw25.WhyUndone': WHATEVER THE INPUT: true; the input reads as it did. -/
def whyUndoneSpec : ChangeSpec := { name := "whyUndone", fn := fun _ => fun
  | [d1, d2, d3, d4] => { results := [.lit (.bool true)], args := [d1, d2, d3, d4] }
  | _ => none }
def whyUndoneRow : OpenClaim := { program := "ytgoooilgmabkmaagreat", sum := "566492eedc39e5f260a2d0dc42393cd539f3823332e7d4c364d3dcf1ee871a8f", func := "pleach/pleachlaw25.WhyUndone", spec := "whyUndone", inPlace := ["internal/bytealg.Compare"], unfollowed := true, recurses := true, plainKeys := false, apart := false }
def WhyUndoneSaid : Prop := whyUndoneRow.holds Tryz.pinned (OpenSpec.ofChange whyUndoneSpec)

/-- ITS FALSE NEIGHBOUR: 'it returns false'. Refute it at one input. -/
def whyUndoneWrong : ChangeSpec := { name := "whyUndone", fn := fun _ => fun
  | [d1, d2, d3, d4] => { results := [.lit (.bool false)], args := [d1, d2, d3, d4] }
  | _ => none }
def WhyUndoneWrongFalsely : Prop := whyUndoneRow.holds Tryz.pinned (OpenSpec.ofChange whyUndoneWrong)

/-- 'pleachlaw25.WhyLacks': WHATEVER THE INPUT: true; the input reads as it did. -/
def whyLacksSpec : ChangeSpec := { name := "whyLacks", fn := fun _ => fun
  | [d1, d2, d3, d4] => { results := [.lit (.bool true)], args := [d1, d2, d3, d4] }
  | _ => none }
def whyLacksRow : OpenClaim := { program := "ytgoooilgmabkmaagreat", sum := "566492eedc39e5f260a2d0dc42393cd539f3823332e7d4c364d3dcf1ee871a8f", func := "pleach/pleachlaw25.WhyLacks", spec := "whyLacks", inPlace := ["internal/bytealg.Compare"], unfollowed := true, recurses := true, plainKeys := false, apart := false }
def WhyLacksSaid : Prop := whyLacksRow.holds Tryz.pinned (OpenSpec.ofChange whyLacksSpec)

/-- ITS FALSE NEIGHBOUR: 'it returns false'. Refute it at one input. -/
def whyLacksWrong : ChangeSpec := { name := "whyLacks", fn := fun _ => fun
  | [d1, d2, d3, d4] => { results := [.lit (.bool false)], args := [d1, d2, d3, d4] }
  | _ => none }
def WhyLacksWrongFalsely : Prop := whyLacksRow.holds Tryz.pinned (OpenSpec.ofChange whyLacksWrong)

/-- 'pleachlaw25.WhyTells': WHATEVER THE INPUT: true; the input reads as it did. -/
def whyTellsSpec : ChangeSpec := { name := "whyTells", fn := fun _ => fun
  | [d1, d2, d3] => { results := [.lit (.bool true)], args := [d1, d2, d3] }
  | _ => none }
def whyTellsRow : OpenClaim := { program := "ytgoooilgmabkmaagreat", sum := "566492eedc39e5f260a2d0dc42393cd539f3823332e7d4c364d3dcf1ee871a8f", func := "pleach/pleachlaw25.WhyTells", spec := "whyTells", inPlace := ["internal/bytealg.Compare"], unfollowed := true, recurses := true, plainKeys := false, apart := false }
def WhyTellsSaid : Prop := whyTellsRow.holds Tryz.pinned (OpenSpec.ofChange whyTellsSpec)

/-- ITS FALSE NEIGHBOUR: 'it returns false'. Refute it at one input. -/
def whyTellsWrong : ChangeSpec := { name := "whyTells", fn := fun _ => fun
  | [d1, d2, d3] => { results := [.lit (.bool false)], args := [d1, d2, d3] }
  | _ => none }
def WhyTellsWrongFalsely : Prop := whyTellsRow.holds Tryz.pinned (OpenSpec.ofChange whyTellsWrong)

/-- 'pleachlaw25.WhyKeeps': WHATEVER THE INPUT: true; the input reads as it did. -/
def whyKeepsSpec : ChangeSpec := { name := "whyKeeps", fn := fun _ => fun
  | [d1, d2, d3] => { results := [.lit (.bool true)], args := [d1, d2, d3] }
  | _ => none }
def whyKeepsRow : OpenClaim := { program := "ytgoooilgmabkmaagreat", sum := "566492eedc39e5f260a2d0dc42393cd539f3823332e7d4c364d3dcf1ee871a8f", func := "pleach/pleachlaw25.WhyKeeps", spec := "whyKeeps", inPlace := ["internal/bytealg.Compare"], unfollowed := true, recurses := true, plainKeys := false, apart := false }
def WhyKeepsSaid : Prop := whyKeepsRow.holds Tryz.pinned (OpenSpec.ofChange whyKeepsSpec)

/-- ITS FALSE NEIGHBOUR: 'it returns false'. Refute it at one input. -/
def whyKeepsWrong : ChangeSpec := { name := "whyKeeps", fn := fun _ => fun
  | [d1, d2, d3] => { results := [.lit (.bool false)], args := [d1, d2, d3] }
  | _ => none }
def WhyKeepsWrongFalsely : Prop := whyKeepsRow.holds Tryz.pinned (OpenSpec.ofChange whyKeepsWrong)

/-- 'pleachlaw15.OrsetWins': WHATEVER THE INPUT: true; the input reads as it did. -/
def orsetWinsSpec : ChangeSpec := { name := "orsetWins", fn := fun _ => fun
  | [d1, d2, d3, d4, d5, d6, d7] => { results := [.lit (.bool true)], args := [d1, d2, d3, d4, d5, d6, d7] }
  | _ => none }
def orsetWinsRow : OpenClaim := { program := "ytgoooilgmabkmaagreat", sum := "566492eedc39e5f260a2d0dc42393cd539f3823332e7d4c364d3dcf1ee871a8f", func := "pleach/pleachlaw15.OrsetWins", spec := "orsetWins", inPlace := ["internal/bytealg.Compare"], unfollowed := true, recurses := true, plainKeys := false, apart := false }
def OrsetWinsSaid : Prop := orsetWinsRow.holds Tryz.pinned (OpenSpec.ofChange orsetWinsSpec)

/-- ITS FALSE NEIGHBOUR: 'it returns false'. Refute it at one input. -/
def orsetWinsWrong : ChangeSpec := { name := "orsetWins", fn := fun _ => fun
  | [d1, d2, d3, d4, d5, d6, d7] => { results := [.lit (.bool false)], args := [d1, d2, d3, d4, d5, d6, d7] }
  | _ => none }
def OrsetWinsWrongFalsely : Prop := orsetWinsRow.holds Tryz.pinned (OpenSpec.ofChange orsetWinsWrong)

/-- 'pleachlaw25.WhyMakes': WHATEVER THE INPUT: true; the input reads as it did. -/
def whyMakesSpec : ChangeSpec := { name := "whyMakes", fn := fun _ => fun
  | [d1, d2] => { results := [.lit (.bool true)], args := [d1, d2] }
  | _ => none }
def whyMakesRow : OpenClaim := { program := "ytgoooilgmabkmaagreat", sum := "566492eedc39e5f260a2d0dc42393cd539f3823332e7d4c364d3dcf1ee871a8f", func := "pleach/pleachlaw25.WhyMakes", spec := "whyMakes", inPlace := ["internal/bytealg.Compare"], unfollowed := true, recurses := true, plainKeys := false, apart := false }
def WhyMakesSaid : Prop := whyMakesRow.holds Tryz.pinned (OpenSpec.ofChange whyMakesSpec)

/-- ITS FALSE NEIGHBOUR: 'it returns false'. Refute it at one input. -/
def whyMakesWrong : ChangeSpec := { name := "whyMakes", fn := fun _ => fun
  | [d1, d2] => { results := [.lit (.bool false)], args := [d1, d2] }
  | _ => none }
def WhyMakesWrongFalsely : Prop := whyMakesRow.holds Tryz.pinned (OpenSpec.ofChange whyMakesWrong)

/- THE SECOND FORM. 'bulk': how many values and letters a reading holds, each counted each time it is reached (what is shared counts as often as it is met; a slice's spare places count too). A statement '..UptoSaid' is the law's where the arguments, and the package variables that the reading takes, are together of bulk at most 1048576: NARROWER than '..Said'. Prove '..Said' where nothing that the law and all that it calls make is longer than what came in: it says more and counts as full. Else prove '..UptoSaid'. A law counts once. -/
mutual
def uptoBulk {H : Type} : DataW H → Nat
  | .lit (.string bytes) => bytes.length + 1
  | .lit _ => 1
  | .nil => 1
  | .ptr d => uptoBulk d + 1
  | .slice elems spare => uptoBulkAll elems + uptoBulkAll spare + 1
  | .agg parts => uptoBulkAll parts + 1
  | .iface _ d => uptoBulk d + 1
  | .map entries => uptoBulkEntries entries + 1
  | .held _ => 1
def uptoBulkAll {H : Type} : List (DataW H) → Nat
  | [] => 0
  | d :: r => uptoBulk d + uptoBulkAll r
def uptoBulkEntries {H : Type} : List (Lit × DataW H) → Nat
  | [] => 0
  | x :: r => uptoBulkEntry x + uptoBulkEntries r
def uptoBulkEntry {H : Type} : Lit × DataW H → Nat
  | (.string bytes, d) => bytes.length + uptoBulk d + 1
  | (_, d) => uptoBulk d + 1
 end
def uptoSmall : (H : Type) → List (DataW H) → Bool := fun _ ds => decide (uptoBulkAll ds ≤ 1048576)
def OpenSpec.upto (s : _root_.Go.ChangeSpec) : _root_.Go.OpenSpec := { _root_.Go.OpenSpec.ofChange s with cond := some uptoSmall }

/-- 'pleachlaw14.RegReads', WHERE WHAT IT READS IS OF BULK AT MOST 1048576: true; the input reads as it did. -/
def regReadsUptoRow : OpenClaim := { program := "ytgoooilgmabkmaagreat", sum := "566492eedc39e5f260a2d0dc42393cd539f3823332e7d4c364d3dcf1ee871a8f", func := "pleach/pleachlaw14.RegReads", spec := "regReads", inPlace := ["internal/bytealg.Compare"], unfollowed := true, recurses := true, plainKeys := false, apart := false, narrowed := true }
def RegReadsUptoSaid : Prop := regReadsUptoRow.holds Tryz.pinned (OpenSpec.upto regReadsSpec)

/-- 'pleachlaw14.RegFollows', WHERE WHAT IT READS IS OF BULK AT MOST 1048576: true; the input reads as it did. -/
def regFollowsUptoRow : OpenClaim := { program := "ytgoooilgmabkmaagreat", sum := "566492eedc39e5f260a2d0dc42393cd539f3823332e7d4c364d3dcf1ee871a8f", func := "pleach/pleachlaw14.RegFollows", spec := "regFollows", inPlace := ["internal/bytealg.Compare"], unfollowed := true, recurses := true, plainKeys := false, apart := false, narrowed := true }
def RegFollowsUptoSaid : Prop := regFollowsUptoRow.holds Tryz.pinned (OpenSpec.upto regFollowsSpec)

/-- 'pleachlaw14.RegKeeps', WHERE WHAT IT READS IS OF BULK AT MOST 1048576: true; the input reads as it did. -/
def regKeepsUptoRow : OpenClaim := { program := "ytgoooilgmabkmaagreat", sum := "566492eedc39e5f260a2d0dc42393cd539f3823332e7d4c364d3dcf1ee871a8f", func := "pleach/pleachlaw14.RegKeeps", spec := "regKeeps", inPlace := ["internal/bytealg.Compare"], unfollowed := true, recurses := true, plainKeys := false, apart := false, narrowed := true }
def RegKeepsUptoSaid : Prop := regKeepsUptoRow.holds Tryz.pinned (OpenSpec.upto regKeepsSpec)

/-- 'pleachlaw16.CountsFollows', WHERE WHAT IT READS IS OF BULK AT MOST 1048576: true; the input reads as it did. -/
def countsFollowsUptoRow : OpenClaim := { program := "ytgoooilgmabkmaagreat", sum := "566492eedc39e5f260a2d0dc42393cd539f3823332e7d4c364d3dcf1ee871a8f", func := "pleach/pleachlaw16.CountsFollows", spec := "countsFollows", inPlace := ["internal/bytealg.Compare"], unfollowed := true, recurses := true, plainKeys := false, apart := false, narrowed := true }
def CountsFollowsUptoSaid : Prop := countsFollowsUptoRow.holds Tryz.pinned (OpenSpec.upto countsFollowsSpec)

/-- 'pleachlaw11.PastOf', WHERE WHAT IT READS IS OF BULK AT MOST 1048576: true; the input reads as it did. -/
def pastOfUptoRow : OpenClaim := { program := "ytgoooilgmabkmaagreat", sum := "566492eedc39e5f260a2d0dc42393cd539f3823332e7d4c364d3dcf1ee871a8f", func := "pleach/pleachlaw11.PastOf", spec := "pastOf", inPlace := ["internal/bytealg.Compare"], unfollowed := true, recurses := true, plainKeys := false, apart := false, narrowed := true }
def PastOfUptoSaid : Prop := pastOfUptoRow.holds Tryz.pinned (OpenSpec.upto pastOfSpec)

/-- 'pleachlaw16.CountsKeeps', WHERE WHAT IT READS IS OF BULK AT MOST 1048576: true; the input reads as it did. -/
def countsKeepsUptoRow : OpenClaim := { program := "ytgoooilgmabkmaagreat", sum := "566492eedc39e5f260a2d0dc42393cd539f3823332e7d4c364d3dcf1ee871a8f", func := "pleach/pleachlaw16.CountsKeeps", spec := "countsKeeps", inPlace := ["internal/bytealg.Compare"], unfollowed := true, recurses := true, plainKeys := false, apart := false, narrowed := true }
def CountsKeepsUptoSaid : Prop := countsKeepsUptoRow.holds Tryz.pinned (OpenSpec.upto countsKeepsSpec)

/-- 'pleachlaw15.OrsetReads', WHERE WHAT IT READS IS OF BULK AT MOST 1048576: true; the input reads as it did. -/
def orsetReadsUptoRow : OpenClaim := { program := "ytgoooilgmabkmaagreat", sum := "566492eedc39e5f260a2d0dc42393cd539f3823332e7d4c364d3dcf1ee871a8f", func := "pleach/pleachlaw15.OrsetReads", spec := "orsetReads", inPlace := ["internal/bytealg.Compare"], unfollowed := true, recurses := true, plainKeys := false, apart := false, narrowed := true }
def OrsetReadsUptoSaid : Prop := orsetReadsUptoRow.holds Tryz.pinned (OpenSpec.upto orsetReadsSpec)

/-- 'pleachlaw16.CountsValues', WHERE WHAT IT READS IS OF BULK AT MOST 1048576: true; the input reads as it did. -/
def countsValuesUptoRow : OpenClaim := { program := "ytgoooilgmabkmaagreat", sum := "566492eedc39e5f260a2d0dc42393cd539f3823332e7d4c364d3dcf1ee871a8f", func := "pleach/pleachlaw16.CountsValues", spec := "countsValues", inPlace := ["internal/bytealg.Compare"], unfollowed := true, recurses := true, plainKeys := false, apart := false, narrowed := true }
def CountsValuesUptoSaid : Prop := countsValuesUptoRow.holds Tryz.pinned (OpenSpec.upto countsValuesSpec)

/-- 'pleachlaw17.SeqLists', WHERE WHAT IT READS IS OF BULK AT MOST 1048576: true; the input reads as it did. -/
def seqListsUptoRow : OpenClaim := { program := "ytgoooilgmabkmaagreat", sum := "566492eedc39e5f260a2d0dc42393cd539f3823332e7d4c364d3dcf1ee871a8f", func := "pleach/pleachlaw17.SeqLists", spec := "seqLists", inPlace := ["internal/bytealg.Compare"], unfollowed := true, recurses := true, plainKeys := false, apart := false, narrowed := true }
def SeqListsUptoSaid : Prop := seqListsUptoRow.holds Tryz.pinned (OpenSpec.upto seqListsSpec)

/-- 'pleachlaw17.SeqInserts', WHERE WHAT IT READS IS OF BULK AT MOST 1048576: true; the input reads as it did. -/
def seqInsertsUptoRow : OpenClaim := { program := "ytgoooilgmabkmaagreat", sum := "566492eedc39e5f260a2d0dc42393cd539f3823332e7d4c364d3dcf1ee871a8f", func := "pleach/pleachlaw17.SeqInserts", spec := "seqInserts", inPlace := ["internal/bytealg.Compare"], unfollowed := true, recurses := true, plainKeys := false, apart := false, narrowed := true }
def SeqInsertsUptoSaid : Prop := seqInsertsUptoRow.holds Tryz.pinned (OpenSpec.upto seqInsertsSpec)

/-- 'pleachlaw17.SeqKeeps', WHERE WHAT IT READS IS OF BULK AT MOST 1048576: true; the input reads as it did. -/
def seqKeepsUptoRow : OpenClaim := { program := "ytgoooilgmabkmaagreat", sum := "566492eedc39e5f260a2d0dc42393cd539f3823332e7d4c364d3dcf1ee871a8f", func := "pleach/pleachlaw17.SeqKeeps", spec := "seqKeeps", inPlace := ["internal/bytealg.Compare"], unfollowed := true, recurses := true, plainKeys := false, apart := false, narrowed := true }
def SeqKeepsUptoSaid : Prop := seqKeepsUptoRow.holds Tryz.pinned (OpenSpec.upto seqKeepsSpec)

/-- 'pleachlaw11.PastAsks', WHERE WHAT IT READS IS OF BULK AT MOST 1048576: true; the input reads as it did. -/
def pastAsksUptoRow : OpenClaim := { program := "ytgoooilgmabkmaagreat", sum := "566492eedc39e5f260a2d0dc42393cd539f3823332e7d4c364d3dcf1ee871a8f", func := "pleach/pleachlaw11.PastAsks", spec := "pastAsks", inPlace := ["internal/bytealg.Compare"], unfollowed := true, recurses := true, plainKeys := false, apart := false, narrowed := true }
def PastAsksUptoSaid : Prop := pastAsksUptoRow.holds Tryz.pinned (OpenSpec.upto pastAsksSpec)

/-- 'pleachlaw11.PastKeeps', WHERE WHAT IT READS IS OF BULK AT MOST 1048576: true; the input reads as it did. -/
def pastKeepsUptoRow : OpenClaim := { program := "ytgoooilgmabkmaagreat", sum := "566492eedc39e5f260a2d0dc42393cd539f3823332e7d4c364d3dcf1ee871a8f", func := "pleach/pleachlaw11.PastKeeps", spec := "pastKeeps", inPlace := ["internal/bytealg.Compare"], unfollowed := true, recurses := true, plainKeys := false, apart := false, narrowed := true }
def PastKeepsUptoSaid : Prop := pastKeepsUptoRow.holds Tryz.pinned (OpenSpec.upto pastKeepsSpec)

/-- 'pleachlaw25.WhyUndone', WHERE WHAT IT READS IS OF BULK AT MOST 1048576: true; the input reads as it did. -/
def whyUndoneUptoRow : OpenClaim := { program := "ytgoooilgmabkmaagreat", sum := "566492eedc39e5f260a2d0dc42393cd539f3823332e7d4c364d3dcf1ee871a8f", func := "pleach/pleachlaw25.WhyUndone", spec := "whyUndone", inPlace := ["internal/bytealg.Compare"], unfollowed := true, recurses := true, plainKeys := false, apart := false, narrowed := true }
def WhyUndoneUptoSaid : Prop := whyUndoneUptoRow.holds Tryz.pinned (OpenSpec.upto whyUndoneSpec)

/-- 'pleachlaw25.WhyLacks', WHERE WHAT IT READS IS OF BULK AT MOST 1048576: true; the input reads as it did. -/
def whyLacksUptoRow : OpenClaim := { program := "ytgoooilgmabkmaagreat", sum := "566492eedc39e5f260a2d0dc42393cd539f3823332e7d4c364d3dcf1ee871a8f", func := "pleach/pleachlaw25.WhyLacks", spec := "whyLacks", inPlace := ["internal/bytealg.Compare"], unfollowed := true, recurses := true, plainKeys := false, apart := false, narrowed := true }
def WhyLacksUptoSaid : Prop := whyLacksUptoRow.holds Tryz.pinned (OpenSpec.upto whyLacksSpec)

/-- 'pleachlaw25.WhyTells', WHERE WHAT IT READS IS OF BULK AT MOST 1048576: true; the input reads as it did. -/
def whyTellsUptoRow : OpenClaim := { program := "ytgoooilgmabkmaagreat", sum := "566492eedc39e5f260a2d0dc42393cd539f3823332e7d4c364d3dcf1ee871a8f", func := "pleach/pleachlaw25.WhyTells", spec := "whyTells", inPlace := ["internal/bytealg.Compare"], unfollowed := true, recurses := true, plainKeys := false, apart := false, narrowed := true }
def WhyTellsUptoSaid : Prop := whyTellsUptoRow.holds Tryz.pinned (OpenSpec.upto whyTellsSpec)

/-- 'pleachlaw25.WhyKeeps', WHERE WHAT IT READS IS OF BULK AT MOST 1048576: true; the input reads as it did. -/
def whyKeepsUptoRow : OpenClaim := { program := "ytgoooilgmabkmaagreat", sum := "566492eedc39e5f260a2d0dc42393cd539f3823332e7d4c364d3dcf1ee871a8f", func := "pleach/pleachlaw25.WhyKeeps", spec := "whyKeeps", inPlace := ["internal/bytealg.Compare"], unfollowed := true, recurses := true, plainKeys := false, apart := false, narrowed := true }
def WhyKeepsUptoSaid : Prop := whyKeepsUptoRow.holds Tryz.pinned (OpenSpec.upto whyKeepsSpec)

/-- 'pleachlaw15.OrsetWins', WHERE WHAT IT READS IS OF BULK AT MOST 1048576: true; the input reads as it did. -/
def orsetWinsUptoRow : OpenClaim := { program := "ytgoooilgmabkmaagreat", sum := "566492eedc39e5f260a2d0dc42393cd539f3823332e7d4c364d3dcf1ee871a8f", func := "pleach/pleachlaw15.OrsetWins", spec := "orsetWins", inPlace := ["internal/bytealg.Compare"], unfollowed := true, recurses := true, plainKeys := false, apart := false, narrowed := true }
def OrsetWinsUptoSaid : Prop := orsetWinsUptoRow.holds Tryz.pinned (OpenSpec.upto orsetWinsSpec)

/-- 'pleachlaw25.WhyMakes', WHERE WHAT IT READS IS OF BULK AT MOST 1048576: true; the input reads as it did. -/
def whyMakesUptoRow : OpenClaim := { program := "ytgoooilgmabkmaagreat", sum := "566492eedc39e5f260a2d0dc42393cd539f3823332e7d4c364d3dcf1ee871a8f", func := "pleach/pleachlaw25.WhyMakes", spec := "whyMakes", inPlace := ["internal/bytealg.Compare"], unfollowed := true, recurses := true, plainKeys := false, apart := false, narrowed := true }
def WhyMakesUptoSaid : Prop := whyMakesUptoRow.holds Tryz.pinned (OpenSpec.upto whyMakesSpec)

end Rows
end Go.Proofs.YtgoooilgmabkmaaGreat
