/-
  No cell of these rows narrows 'for every input' (looked for: loops, veiled, ifaces, maps, wideKeys, modest, calm, conditions, laid).
  DERIVED. THE GIVEN ROWS OF THIS SEAT. 27 by the template 'for every input the law returns true; each argument reads behind the call as it read before'; 0 by the template 'total and deterministic' (their statements: YtjlohdbkjoofcaaTotals.lean).
  GIVEN WITH THE SEED: the statements are not yours to turn. If you find one false, say at which input.
  Laid BY PROGRAM, IN A SANDBOX (cutbox-rows.mjs): the forced cells as the released guide's own fill.sh prints them over the translation 36d52fc7a6111e47… (all of the seat's roots in one cut). By AI agents, Wed Nov 11 2026. No macro, syntax, notation, axiom, sorry.
-/
import Derived.Test.YtjlohdbkjoofcaaChecked
import GoSem.Claim
import GoSem.ClaimJoined
import GoSem.ClaimMapViews
import Derived.JoinedTies
import Derived.KernelRfl
namespace Go.Proofs.Ytjlohdbkjoofcaa
/- THE CELL 'sum', in the pinned program and in every row, IS THE sha256 OF THE DUMP (.gsa) THAT YtjlohdbkjoofcaaProg.lean LOADS. Nothing in Lean hashes anything: it is a label: what it is worth is what the hold of that sum in a sandbox is worth. -/
noncomputable def Try.pinned : Pinned := { name := "ytjlohdbkjoofcaa", sum := "36d52fc7a6111e470580693b0ffa71f4c046bdc5bdfc88cf6659de2a409e4d9d", checked := Try.checked }
namespace Rows
def none {H : Type} : Left H := { results := [], args := [] }

/-- 'catamaranlaw05.DiskDoes': WHATEVER THE INPUT: true; the input reads as it did. -/
def diskDoesSpec : ChangeSpec := { name := "diskDoes", fn := fun _ => fun
  | [d1, d2, d3] => { results := [.lit (.bool true)], args := [d1, d2, d3] }
  | _ => none }
def diskDoesRow : OpenClaim := { program := "ytjlohdbkjoofcaa", sum := "36d52fc7a6111e470580693b0ffa71f4c046bdc5bdfc88cf6659de2a409e4d9d", func := "catamaran/catamaranlaw05.DiskDoes", spec := "diskDoes", unfollowed := true, recurses := true, apart := false }
def DiskDoesSaid : Prop := diskDoesRow.holds Try.pinned (OpenSpec.ofChange diskDoesSpec)

/-- ITS FALSE NEIGHBOUR: 'it returns false'. Refute it at one input. -/
def diskDoesWrong : ChangeSpec := { name := "diskDoes", fn := fun _ => fun
  | [d1, d2, d3] => { results := [.lit (.bool false)], args := [d1, d2, d3] }
  | _ => none }
def DiskDoesWrongFalsely : Prop := diskDoesRow.holds Try.pinned (OpenSpec.ofChange diskDoesWrong)

/-- 'catamaranlaw05.DiskNames': WHATEVER THE INPUT: true; the input reads as it did. -/
def diskNamesSpec : ChangeSpec := { name := "diskNames", fn := fun _ => fun
  | [] => { results := [.lit (.bool true)], args := [] }
  | _ => none }
def diskNamesRow : OpenClaim := { program := "ytjlohdbkjoofcaa", sum := "36d52fc7a6111e470580693b0ffa71f4c046bdc5bdfc88cf6659de2a409e4d9d", func := "catamaran/catamaranlaw05.DiskNames", spec := "diskNames", unfollowed := true, recurses := true, apart := false }
def DiskNamesSaid : Prop := diskNamesRow.holds Try.pinned (OpenSpec.ofChange diskNamesSpec)

/-- ITS FALSE NEIGHBOUR: 'it returns false'. Refute it at one input. -/
def diskNamesWrong : ChangeSpec := { name := "diskNames", fn := fun _ => fun
  | [] => { results := [.lit (.bool false)], args := [] }
  | _ => none }
def DiskNamesWrongFalsely : Prop := diskNamesRow.holds Try.pinned (OpenSpec.ofChange diskNamesWrong)

/-- 'catamaranlaw05.DiskEnds': WHATEVER THE INPUT: true; the input reads as it did. -/
def diskEndsSpec : ChangeSpec := { name := "diskEnds", fn := fun _ => fun
  | [d1, d2, d3, d4] => { results := [.lit (.bool true)], args := [d1, d2, d3, d4] }
  | _ => none }
def diskEndsRow : OpenClaim := { program := "ytjlohdbkjoofcaa", sum := "36d52fc7a6111e470580693b0ffa71f4c046bdc5bdfc88cf6659de2a409e4d9d", func := "catamaran/catamaranlaw05.DiskEnds", spec := "diskEnds", unfollowed := true, recurses := true, apart := false }
def DiskEndsSaid : Prop := diskEndsRow.holds Try.pinned (OpenSpec.ofChange diskEndsSpec)

/-- ITS FALSE NEIGHBOUR: 'it returns false'. Refute it at one input. -/
def diskEndsWrong : ChangeSpec := { name := "diskEnds", fn := fun _ => fun
  | [d1, d2, d3, d4] => { results := [.lit (.bool false)], args := [d1, d2, d3, d4] }
  | _ => none }
def DiskEndsWrongFalsely : Prop := diskEndsRow.holds Try.pinned (OpenSpec.ofChange diskEndsWrong)

/-- 'catamaranlaw10.JournalPlans': WHATEVER THE INPUT: true; the input reads as it did. -/
def journalPlansSpec : ChangeSpec := { name := "journalPlans", fn := fun _ => fun
  | [d1, d2, d3, d4, d5, d6] => { results := [.lit (.bool true)], args := [d1, d2, d3, d4, d5, d6] }
  | _ => none }
def journalPlansRow : OpenClaim := { program := "ytjlohdbkjoofcaa", sum := "36d52fc7a6111e470580693b0ffa71f4c046bdc5bdfc88cf6659de2a409e4d9d", func := "catamaran/catamaranlaw10.JournalPlans", spec := "journalPlans", unfollowed := true, recurses := true, apart := false }
def JournalPlansSaid : Prop := journalPlansRow.holds Try.pinned (OpenSpec.ofChange journalPlansSpec)

/-- ITS FALSE NEIGHBOUR: 'it returns false'. Refute it at one input. -/
def journalPlansWrong : ChangeSpec := { name := "journalPlans", fn := fun _ => fun
  | [d1, d2, d3, d4, d5, d6] => { results := [.lit (.bool false)], args := [d1, d2, d3, d4, d5, d6] }
  | _ => none }
def JournalPlansWrongFalsely : Prop := journalPlansRow.holds Try.pinned (OpenSpec.ofChange journalPlansWrong)

/-- 'catamaranlaw06.CellReads': WHATEVER THE INPUT: true; the input reads as it did. -/
def cellReadsSpec : ChangeSpec := { name := "cellReads", fn := fun _ => fun
  | [d1, d2, d3] => { results := [.lit (.bool true)], args := [d1, d2, d3] }
  | _ => none }
def cellReadsRow : OpenClaim := { program := "ytjlohdbkjoofcaa", sum := "36d52fc7a6111e470580693b0ffa71f4c046bdc5bdfc88cf6659de2a409e4d9d", func := "catamaran/catamaranlaw06.CellReads", spec := "cellReads", unfollowed := true, recurses := true, apart := false }
def CellReadsSaid : Prop := cellReadsRow.holds Try.pinned (OpenSpec.ofChange cellReadsSpec)

/-- ITS FALSE NEIGHBOUR: 'it returns false'. Refute it at one input. -/
def cellReadsWrong : ChangeSpec := { name := "cellReads", fn := fun _ => fun
  | [d1, d2, d3] => { results := [.lit (.bool false)], args := [d1, d2, d3] }
  | _ => none }
def CellReadsWrongFalsely : Prop := cellReadsRow.holds Try.pinned (OpenSpec.ofChange cellReadsWrong)

/-- 'catamaranlaw05.DiskReads': WHATEVER THE INPUT: true; the input reads as it did. -/
def diskReadsSpec : ChangeSpec := { name := "diskReads", fn := fun _ => fun
  | [d1, d2, d3, d4] => { results := [.lit (.bool true)], args := [d1, d2, d3, d4] }
  | _ => none }
def diskReadsRow : OpenClaim := { program := "ytjlohdbkjoofcaa", sum := "36d52fc7a6111e470580693b0ffa71f4c046bdc5bdfc88cf6659de2a409e4d9d", func := "catamaran/catamaranlaw05.DiskReads", spec := "diskReads", unfollowed := true, recurses := true, apart := false }
def DiskReadsSaid : Prop := diskReadsRow.holds Try.pinned (OpenSpec.ofChange diskReadsSpec)

/-- ITS FALSE NEIGHBOUR: 'it returns false'. Refute it at one input. -/
def diskReadsWrong : ChangeSpec := { name := "diskReads", fn := fun _ => fun
  | [d1, d2, d3, d4] => { results := [.lit (.bool false)], args := [d1, d2, d3, d4] }
  | _ => none }
def DiskReadsWrongFalsely : Prop := diskReadsRow.holds Try.pinned (OpenSpec.ofChange diskReadsWrong)

/-- 'catamaranlaw08.TrackNames': WHATEVER THE INPUT: true; the input reads as it did. -/
def trackNamesSpec : ChangeSpec := { name := "trackNames", fn := fun _ => fun
  | [] => { results := [.lit (.bool true)], args := [] }
  | _ => none }
def trackNamesRow : OpenClaim := { program := "ytjlohdbkjoofcaa", sum := "36d52fc7a6111e470580693b0ffa71f4c046bdc5bdfc88cf6659de2a409e4d9d", func := "catamaran/catamaranlaw08.TrackNames", spec := "trackNames", unfollowed := true, recurses := true, apart := false }
def TrackNamesSaid : Prop := trackNamesRow.holds Try.pinned (OpenSpec.ofChange trackNamesSpec)

/-- ITS FALSE NEIGHBOUR: 'it returns false'. Refute it at one input. -/
def trackNamesWrong : ChangeSpec := { name := "trackNames", fn := fun _ => fun
  | [] => { results := [.lit (.bool false)], args := [] }
  | _ => none }
def TrackNamesWrongFalsely : Prop := trackNamesRow.holds Try.pinned (OpenSpec.ofChange trackNamesWrong)

/-- 'catamaranlaw05.DiskCrash': WHATEVER THE INPUT: true; the input reads as it did. -/
def diskCrashSpec : ChangeSpec := { name := "diskCrash", fn := fun _ => fun
  | [d1, d2, d3] => { results := [.lit (.bool true)], args := [d1, d2, d3] }
  | _ => none }
def diskCrashRow : OpenClaim := { program := "ytjlohdbkjoofcaa", sum := "36d52fc7a6111e470580693b0ffa71f4c046bdc5bdfc88cf6659de2a409e4d9d", func := "catamaran/catamaranlaw05.DiskCrash", spec := "diskCrash", unfollowed := true, recurses := true, apart := false }
def DiskCrashSaid : Prop := diskCrashRow.holds Try.pinned (OpenSpec.ofChange diskCrashSpec)

/-- ITS FALSE NEIGHBOUR: 'it returns false'. Refute it at one input. -/
def diskCrashWrong : ChangeSpec := { name := "diskCrash", fn := fun _ => fun
  | [d1, d2, d3] => { results := [.lit (.bool false)], args := [d1, d2, d3] }
  | _ => none }
def DiskCrashWrongFalsely : Prop := diskCrashRow.holds Try.pinned (OpenSpec.ofChange diskCrashWrong)

/-- 'catamaranlaw10.JournalTells': WHATEVER THE INPUT: true; the input reads as it did. -/
def journalTellsSpec : ChangeSpec := { name := "journalTells", fn := fun _ => fun
  | [d1, d2, d3, d4] => { results := [.lit (.bool true)], args := [d1, d2, d3, d4] }
  | _ => none }
def journalTellsRow : OpenClaim := { program := "ytjlohdbkjoofcaa", sum := "36d52fc7a6111e470580693b0ffa71f4c046bdc5bdfc88cf6659de2a409e4d9d", func := "catamaran/catamaranlaw10.JournalTells", spec := "journalTells", unfollowed := true, recurses := true, apart := false }
def JournalTellsSaid : Prop := journalTellsRow.holds Try.pinned (OpenSpec.ofChange journalTellsSpec)

/-- ITS FALSE NEIGHBOUR: 'it returns false'. Refute it at one input. -/
def journalTellsWrong : ChangeSpec := { name := "journalTells", fn := fun _ => fun
  | [d1, d2, d3, d4] => { results := [.lit (.bool false)], args := [d1, d2, d3, d4] }
  | _ => none }
def JournalTellsWrongFalsely : Prop := journalTellsRow.holds Try.pinned (OpenSpec.ofChange journalTellsWrong)

/-- 'catamaranlaw08.TrackCrash': WHATEVER THE INPUT: true; the input reads as it did. -/
def trackCrashSpec : ChangeSpec := { name := "trackCrash", fn := fun _ => fun
  | [d1, d2, d3, d4, d5, d6] => { results := [.lit (.bool true)], args := [d1, d2, d3, d4, d5, d6] }
  | _ => none }
def trackCrashRow : OpenClaim := { program := "ytjlohdbkjoofcaa", sum := "36d52fc7a6111e470580693b0ffa71f4c046bdc5bdfc88cf6659de2a409e4d9d", func := "catamaran/catamaranlaw08.TrackCrash", spec := "trackCrash", unfollowed := true, recurses := true, apart := false }
def TrackCrashSaid : Prop := trackCrashRow.holds Try.pinned (OpenSpec.ofChange trackCrashSpec)

/-- ITS FALSE NEIGHBOUR: 'it returns false'. Refute it at one input. -/
def trackCrashWrong : ChangeSpec := { name := "trackCrash", fn := fun _ => fun
  | [d1, d2, d3, d4, d5, d6] => { results := [.lit (.bool false)], args := [d1, d2, d3, d4, d5, d6] }
  | _ => none }
def TrackCrashWrongFalsely : Prop := trackCrashRow.holds Try.pinned (OpenSpec.ofChange trackCrashWrong)

/-- 'catamaranlaw13.PageReads': WHATEVER THE INPUT: true; the input reads as it did. -/
def pageReadsSpec : ChangeSpec := { name := "pageReads", fn := fun _ => fun
  | [d1, d2, d3] => { results := [.lit (.bool true)], args := [d1, d2, d3] }
  | _ => none }
def pageReadsRow : OpenClaim := { program := "ytjlohdbkjoofcaa", sum := "36d52fc7a6111e470580693b0ffa71f4c046bdc5bdfc88cf6659de2a409e4d9d", func := "catamaran/catamaranlaw13.PageReads", spec := "pageReads", unfollowed := true, recurses := true, apart := false }
def PageReadsSaid : Prop := pageReadsRow.holds Try.pinned (OpenSpec.ofChange pageReadsSpec)

/-- ITS FALSE NEIGHBOUR: 'it returns false'. Refute it at one input. -/
def pageReadsWrong : ChangeSpec := { name := "pageReads", fn := fun _ => fun
  | [d1, d2, d3] => { results := [.lit (.bool false)], args := [d1, d2, d3] }
  | _ => none }
def PageReadsWrongFalsely : Prop := pageReadsRow.holds Try.pinned (OpenSpec.ofChange pageReadsWrong)

/-- 'catamaranlaw06.CellWrites': WHATEVER THE INPUT: true; the input reads as it did. -/
def cellWritesSpec : ChangeSpec := { name := "cellWrites", fn := fun _ => fun
  | [d1, d2, d3, d4] => { results := [.lit (.bool true)], args := [d1, d2, d3, d4] }
  | _ => none }
def cellWritesRow : OpenClaim := { program := "ytjlohdbkjoofcaa", sum := "36d52fc7a6111e470580693b0ffa71f4c046bdc5bdfc88cf6659de2a409e4d9d", func := "catamaran/catamaranlaw06.CellWrites", spec := "cellWrites", unfollowed := true, recurses := true, apart := false }
def CellWritesSaid : Prop := cellWritesRow.holds Try.pinned (OpenSpec.ofChange cellWritesSpec)

/-- ITS FALSE NEIGHBOUR: 'it returns false'. Refute it at one input. -/
def cellWritesWrong : ChangeSpec := { name := "cellWrites", fn := fun _ => fun
  | [d1, d2, d3, d4] => { results := [.lit (.bool false)], args := [d1, d2, d3, d4] }
  | _ => none }
def CellWritesWrongFalsely : Prop := cellWritesRow.holds Try.pinned (OpenSpec.ofChange cellWritesWrong)

/-- 'catamaranlaw10.JournalNames': WHATEVER THE INPUT: true; the input reads as it did. -/
def journalNamesSpec : ChangeSpec := { name := "journalNames", fn := fun _ => fun
  | [] => { results := [.lit (.bool true)], args := [] }
  | _ => none }
def journalNamesRow : OpenClaim := { program := "ytjlohdbkjoofcaa", sum := "36d52fc7a6111e470580693b0ffa71f4c046bdc5bdfc88cf6659de2a409e4d9d", func := "catamaran/catamaranlaw10.JournalNames", spec := "journalNames", unfollowed := true, recurses := true, apart := false }
def JournalNamesSaid : Prop := journalNamesRow.holds Try.pinned (OpenSpec.ofChange journalNamesSpec)

/-- ITS FALSE NEIGHBOUR: 'it returns false'. Refute it at one input. -/
def journalNamesWrong : ChangeSpec := { name := "journalNames", fn := fun _ => fun
  | [] => { results := [.lit (.bool false)], args := [] }
  | _ => none }
def JournalNamesWrongFalsely : Prop := journalNamesRow.holds Try.pinned (OpenSpec.ofChange journalNamesWrong)

/-- 'catamaranlaw10.JournalApart': WHATEVER THE INPUT: true; the input reads as it did. -/
def journalApartSpec : ChangeSpec := { name := "journalApart", fn := fun _ => fun
  | [d1, d2, d3, d4, d5, d6] => { results := [.lit (.bool true)], args := [d1, d2, d3, d4, d5, d6] }
  | _ => none }
def journalApartRow : OpenClaim := { program := "ytjlohdbkjoofcaa", sum := "36d52fc7a6111e470580693b0ffa71f4c046bdc5bdfc88cf6659de2a409e4d9d", func := "catamaran/catamaranlaw10.JournalApart", spec := "journalApart", unfollowed := true, recurses := true, apart := false }
def JournalApartSaid : Prop := journalApartRow.holds Try.pinned (OpenSpec.ofChange journalApartSpec)

/-- ITS FALSE NEIGHBOUR: 'it returns false'. Refute it at one input. -/
def journalApartWrong : ChangeSpec := { name := "journalApart", fn := fun _ => fun
  | [d1, d2, d3, d4, d5, d6] => { results := [.lit (.bool false)], args := [d1, d2, d3, d4, d5, d6] }
  | _ => none }
def JournalApartWrongFalsely : Prop := journalApartRow.holds Try.pinned (OpenSpec.ofChange journalApartWrong)

/-- 'catamaranlaw09.SuperTells': WHATEVER THE INPUT: true; the input reads as it did. -/
def superTellsSpec : ChangeSpec := { name := "superTells", fn := fun _ => fun
  | [d1, d2, d3] => { results := [.lit (.bool true)], args := [d1, d2, d3] }
  | _ => none }
def superTellsRow : OpenClaim := { program := "ytjlohdbkjoofcaa", sum := "36d52fc7a6111e470580693b0ffa71f4c046bdc5bdfc88cf6659de2a409e4d9d", func := "catamaran/catamaranlaw09.SuperTells", spec := "superTells", unfollowed := true, recurses := true, apart := false }
def SuperTellsSaid : Prop := superTellsRow.holds Try.pinned (OpenSpec.ofChange superTellsSpec)

/-- ITS FALSE NEIGHBOUR: 'it returns false'. Refute it at one input. -/
def superTellsWrong : ChangeSpec := { name := "superTells", fn := fun _ => fun
  | [d1, d2, d3] => { results := [.lit (.bool false)], args := [d1, d2, d3] }
  | _ => none }
def SuperTellsWrongFalsely : Prop := superTellsRow.holds Try.pinned (OpenSpec.ofChange superTellsWrong)

/-- 'catamaranlaw13.PageNames': WHATEVER THE INPUT: true; the input reads as it did. -/
def pageNamesSpec : ChangeSpec := { name := "pageNames", fn := fun _ => fun
  | [] => { results := [.lit (.bool true)], args := [] }
  | _ => none }
def pageNamesRow : OpenClaim := { program := "ytjlohdbkjoofcaa", sum := "36d52fc7a6111e470580693b0ffa71f4c046bdc5bdfc88cf6659de2a409e4d9d", func := "catamaran/catamaranlaw13.PageNames", spec := "pageNames", unfollowed := true, recurses := true, apart := false }
def PageNamesSaid : Prop := pageNamesRow.holds Try.pinned (OpenSpec.ofChange pageNamesSpec)

/-- ITS FALSE NEIGHBOUR: 'it returns false'. Refute it at one input. -/
def pageNamesWrong : ChangeSpec := { name := "pageNames", fn := fun _ => fun
  | [] => { results := [.lit (.bool false)], args := [] }
  | _ => none }
def PageNamesWrongFalsely : Prop := pageNamesRow.holds Try.pinned (OpenSpec.ofChange pageNamesWrong)

/-- 'catamaranlaw08.TrackReads': WHATEVER THE INPUT: true; the input reads as it did. -/
def trackReadsSpec : ChangeSpec := { name := "trackReads", fn := fun _ => fun
  | [d1, d2, d3, d4] => { results := [.lit (.bool true)], args := [d1, d2, d3, d4] }
  | _ => none }
def trackReadsRow : OpenClaim := { program := "ytjlohdbkjoofcaa", sum := "36d52fc7a6111e470580693b0ffa71f4c046bdc5bdfc88cf6659de2a409e4d9d", func := "catamaran/catamaranlaw08.TrackReads", spec := "trackReads", unfollowed := true, recurses := true, apart := false }
def TrackReadsSaid : Prop := trackReadsRow.holds Try.pinned (OpenSpec.ofChange trackReadsSpec)

/-- ITS FALSE NEIGHBOUR: 'it returns false'. Refute it at one input. -/
def trackReadsWrong : ChangeSpec := { name := "trackReads", fn := fun _ => fun
  | [d1, d2, d3, d4] => { results := [.lit (.bool false)], args := [d1, d2, d3, d4] }
  | _ => none }
def TrackReadsWrongFalsely : Prop := trackReadsRow.holds Try.pinned (OpenSpec.ofChange trackReadsWrong)

/-- 'catamaranlaw09.SuperNames': WHATEVER THE INPUT: true; the input reads as it did. -/
def superNamesSpec : ChangeSpec := { name := "superNames", fn := fun _ => fun
  | [] => { results := [.lit (.bool true)], args := [] }
  | _ => none }
def superNamesRow : OpenClaim := { program := "ytjlohdbkjoofcaa", sum := "36d52fc7a6111e470580693b0ffa71f4c046bdc5bdfc88cf6659de2a409e4d9d", func := "catamaran/catamaranlaw09.SuperNames", spec := "superNames", unfollowed := true, recurses := true, apart := false }
def SuperNamesSaid : Prop := superNamesRow.holds Try.pinned (OpenSpec.ofChange superNamesSpec)

/-- ITS FALSE NEIGHBOUR: 'it returns false'. Refute it at one input. -/
def superNamesWrong : ChangeSpec := { name := "superNames", fn := fun _ => fun
  | [] => { results := [.lit (.bool false)], args := [] }
  | _ => none }
def SuperNamesWrongFalsely : Prop := superNamesRow.holds Try.pinned (OpenSpec.ofChange superNamesWrong)

/-- 'catamaranlaw13.PageCrash': WHATEVER THE INPUT: true; the input reads as it did. -/
def pageCrashSpec : ChangeSpec := { name := "pageCrash", fn := fun _ => fun
  | [d1, d2, d3, d4, d5, d6, d7] => { results := [.lit (.bool true)], args := [d1, d2, d3, d4, d5, d6, d7] }
  | _ => none }
def pageCrashRow : OpenClaim := { program := "ytjlohdbkjoofcaa", sum := "36d52fc7a6111e470580693b0ffa71f4c046bdc5bdfc88cf6659de2a409e4d9d", func := "catamaran/catamaranlaw13.PageCrash", spec := "pageCrash", unfollowed := true, recurses := true, apart := false }
def PageCrashSaid : Prop := pageCrashRow.holds Try.pinned (OpenSpec.ofChange pageCrashSpec)

/-- ITS FALSE NEIGHBOUR: 'it returns false'. Refute it at one input. -/
def pageCrashWrong : ChangeSpec := { name := "pageCrash", fn := fun _ => fun
  | [d1, d2, d3, d4, d5, d6, d7] => { results := [.lit (.bool false)], args := [d1, d2, d3, d4, d5, d6, d7] }
  | _ => none }
def PageCrashWrongFalsely : Prop := pageCrashRow.holds Try.pinned (OpenSpec.ofChange pageCrashWrong)

/-- 'catamaranlaw06.CellNames': WHATEVER THE INPUT: true; the input reads as it did. -/
def cellNamesSpec : ChangeSpec := { name := "cellNames", fn := fun _ => fun
  | [] => { results := [.lit (.bool true)], args := [] }
  | _ => none }
def cellNamesRow : OpenClaim := { program := "ytjlohdbkjoofcaa", sum := "36d52fc7a6111e470580693b0ffa71f4c046bdc5bdfc88cf6659de2a409e4d9d", func := "catamaran/catamaranlaw06.CellNames", spec := "cellNames", unfollowed := true, recurses := true, apart := false }
def CellNamesSaid : Prop := cellNamesRow.holds Try.pinned (OpenSpec.ofChange cellNamesSpec)

/-- ITS FALSE NEIGHBOUR: 'it returns false'. Refute it at one input. -/
def cellNamesWrong : ChangeSpec := { name := "cellNames", fn := fun _ => fun
  | [] => { results := [.lit (.bool false)], args := [] }
  | _ => none }
def CellNamesWrongFalsely : Prop := cellNamesRow.holds Try.pinned (OpenSpec.ofChange cellNamesWrong)

/-- 'catamaranlaw06.CellBack': WHATEVER THE INPUT: true; the input reads as it did. -/
def cellBackSpec : ChangeSpec := { name := "cellBack", fn := fun _ => fun
  | [d1, d2, d3, d4] => { results := [.lit (.bool true)], args := [d1, d2, d3, d4] }
  | _ => none }
def cellBackRow : OpenClaim := { program := "ytjlohdbkjoofcaa", sum := "36d52fc7a6111e470580693b0ffa71f4c046bdc5bdfc88cf6659de2a409e4d9d", func := "catamaran/catamaranlaw06.CellBack", spec := "cellBack", unfollowed := true, recurses := true, apart := false }
def CellBackSaid : Prop := cellBackRow.holds Try.pinned (OpenSpec.ofChange cellBackSpec)

/-- ITS FALSE NEIGHBOUR: 'it returns false'. Refute it at one input. -/
def cellBackWrong : ChangeSpec := { name := "cellBack", fn := fun _ => fun
  | [d1, d2, d3, d4] => { results := [.lit (.bool false)], args := [d1, d2, d3, d4] }
  | _ => none }
def CellBackWrongFalsely : Prop := cellBackRow.holds Try.pinned (OpenSpec.ofChange cellBackWrong)

/-- 'catamaranlaw06.CellCrash': WHATEVER THE INPUT: true; the input reads as it did. -/
def cellCrashSpec : ChangeSpec := { name := "cellCrash", fn := fun _ => fun
  | [d1, d2, d3, d4, d5, d6] => { results := [.lit (.bool true)], args := [d1, d2, d3, d4, d5, d6] }
  | _ => none }
def cellCrashRow : OpenClaim := { program := "ytjlohdbkjoofcaa", sum := "36d52fc7a6111e470580693b0ffa71f4c046bdc5bdfc88cf6659de2a409e4d9d", func := "catamaran/catamaranlaw06.CellCrash", spec := "cellCrash", unfollowed := true, recurses := true, apart := false }
def CellCrashSaid : Prop := cellCrashRow.holds Try.pinned (OpenSpec.ofChange cellCrashSpec)

/-- ITS FALSE NEIGHBOUR: 'it returns false'. Refute it at one input. -/
def cellCrashWrong : ChangeSpec := { name := "cellCrash", fn := fun _ => fun
  | [d1, d2, d3, d4, d5, d6] => { results := [.lit (.bool false)], args := [d1, d2, d3, d4, d5, d6] }
  | _ => none }
def CellCrashWrongFalsely : Prop := cellCrashRow.holds Try.pinned (OpenSpec.ofChange cellCrashWrong)

/-- 'catamaranlaw10.JournalCrash': WHATEVER THE INPUT: true; the input reads as it did. -/
def journalCrashSpec : ChangeSpec := { name := "journalCrash", fn := fun _ => fun
  | [d1, d2, d3, d4, d5, d6, d7] => { results := [.lit (.bool true)], args := [d1, d2, d3, d4, d5, d6, d7] }
  | _ => none }
def journalCrashRow : OpenClaim := { program := "ytjlohdbkjoofcaa", sum := "36d52fc7a6111e470580693b0ffa71f4c046bdc5bdfc88cf6659de2a409e4d9d", func := "catamaran/catamaranlaw10.JournalCrash", spec := "journalCrash", unfollowed := true, recurses := true, apart := false }
def JournalCrashSaid : Prop := journalCrashRow.holds Try.pinned (OpenSpec.ofChange journalCrashSpec)

/-- ITS FALSE NEIGHBOUR: 'it returns false'. Refute it at one input. -/
def journalCrashWrong : ChangeSpec := { name := "journalCrash", fn := fun _ => fun
  | [d1, d2, d3, d4, d5, d6, d7] => { results := [.lit (.bool false)], args := [d1, d2, d3, d4, d5, d6, d7] }
  | _ => none }
def JournalCrashWrongFalsely : Prop := journalCrashRow.holds Try.pinned (OpenSpec.ofChange journalCrashWrong)

/-- 'catamaranlaw08.TrackWrites': WHATEVER THE INPUT: true; the input reads as it did. -/
def trackWritesSpec : ChangeSpec := { name := "trackWrites", fn := fun _ => fun
  | [d1, d2, d3, d4, d5] => { results := [.lit (.bool true)], args := [d1, d2, d3, d4, d5] }
  | _ => none }
def trackWritesRow : OpenClaim := { program := "ytjlohdbkjoofcaa", sum := "36d52fc7a6111e470580693b0ffa71f4c046bdc5bdfc88cf6659de2a409e4d9d", func := "catamaran/catamaranlaw08.TrackWrites", spec := "trackWrites", unfollowed := true, recurses := true, apart := false }
def TrackWritesSaid : Prop := trackWritesRow.holds Try.pinned (OpenSpec.ofChange trackWritesSpec)

/-- ITS FALSE NEIGHBOUR: 'it returns false'. Refute it at one input. -/
def trackWritesWrong : ChangeSpec := { name := "trackWrites", fn := fun _ => fun
  | [d1, d2, d3, d4, d5] => { results := [.lit (.bool false)], args := [d1, d2, d3, d4, d5] }
  | _ => none }
def TrackWritesWrongFalsely : Prop := trackWritesRow.holds Try.pinned (OpenSpec.ofChange trackWritesWrong)

/-- 'catamaranlaw09.SuperCrash': WHATEVER THE INPUT: true; the input reads as it did. -/
def superCrashSpec : ChangeSpec := { name := "superCrash", fn := fun _ => fun
  | [d1, d2, d3, d4] => { results := [.lit (.bool true)], args := [d1, d2, d3, d4] }
  | _ => none }
def superCrashRow : OpenClaim := { program := "ytjlohdbkjoofcaa", sum := "36d52fc7a6111e470580693b0ffa71f4c046bdc5bdfc88cf6659de2a409e4d9d", func := "catamaran/catamaranlaw09.SuperCrash", spec := "superCrash", unfollowed := true, recurses := true, apart := false }
def SuperCrashSaid : Prop := superCrashRow.holds Try.pinned (OpenSpec.ofChange superCrashSpec)

/-- ITS FALSE NEIGHBOUR: 'it returns false'. Refute it at one input. -/
def superCrashWrong : ChangeSpec := { name := "superCrash", fn := fun _ => fun
  | [d1, d2, d3, d4] => { results := [.lit (.bool false)], args := [d1, d2, d3, d4] }
  | _ => none }
def SuperCrashWrongFalsely : Prop := superCrashRow.holds Try.pinned (OpenSpec.ofChange superCrashWrong)

/-- 'catamaranlaw08.TrackBack': WHATEVER THE INPUT: true; the input reads as it did. -/
def trackBackSpec : ChangeSpec := { name := "trackBack", fn := fun _ => fun
  | [d1, d2, d3, d4] => { results := [.lit (.bool true)], args := [d1, d2, d3, d4] }
  | _ => none }
def trackBackRow : OpenClaim := { program := "ytjlohdbkjoofcaa", sum := "36d52fc7a6111e470580693b0ffa71f4c046bdc5bdfc88cf6659de2a409e4d9d", func := "catamaran/catamaranlaw08.TrackBack", spec := "trackBack", unfollowed := true, recurses := true, apart := false }
def TrackBackSaid : Prop := trackBackRow.holds Try.pinned (OpenSpec.ofChange trackBackSpec)

/-- ITS FALSE NEIGHBOUR: 'it returns false'. Refute it at one input. -/
def trackBackWrong : ChangeSpec := { name := "trackBack", fn := fun _ => fun
  | [d1, d2, d3, d4] => { results := [.lit (.bool false)], args := [d1, d2, d3, d4] }
  | _ => none }
def TrackBackWrongFalsely : Prop := trackBackRow.holds Try.pinned (OpenSpec.ofChange trackBackWrong)

/-- 'catamaranlaw14.DiffCrash': WHATEVER THE INPUT: true; the input reads as it did. -/
def diffCrashSpec : ChangeSpec := { name := "diffCrash", fn := fun _ => fun
  | [d1, d2, d3, d4, d5, d6, d7, d8] => { results := [.lit (.bool true)], args := [d1, d2, d3, d4, d5, d6, d7, d8] }
  | _ => none }
def diffCrashRow : OpenClaim := { program := "ytjlohdbkjoofcaa", sum := "36d52fc7a6111e470580693b0ffa71f4c046bdc5bdfc88cf6659de2a409e4d9d", func := "catamaran/catamaranlaw14.DiffCrash", spec := "diffCrash", unfollowed := true, recurses := true, apart := false }
def DiffCrashSaid : Prop := diffCrashRow.holds Try.pinned (OpenSpec.ofChange diffCrashSpec)

/-- ITS FALSE NEIGHBOUR: 'it returns false'. Refute it at one input. -/
def diffCrashWrong : ChangeSpec := { name := "diffCrash", fn := fun _ => fun
  | [d1, d2, d3, d4, d5, d6, d7, d8] => { results := [.lit (.bool false)], args := [d1, d2, d3, d4, d5, d6, d7, d8] }
  | _ => none }
def DiffCrashWrongFalsely : Prop := diffCrashRow.holds Try.pinned (OpenSpec.ofChange diffCrashWrong)

/- THE SECOND FORM. 'bulk': how many values and letters a reading holds, each counted each time it is reached (what is shared counts as often as it is met; a slice's spare places count too). A statement '..UptoSaid' is the law's where the arguments, and the package variables that the reading takes, are together of bulk at most 1048576: NARROWER than '..Said'. Prove '..Said' where nothing that the law and all that it calls make is longer than what came in: it says more and counts as full. Else prove '..UptoSaid'. A law counts once. -/
mutual
def uptoBulk {H : Type} : DataW H → Nat
  | .lit (.string bytes) => bytes.length + 1
  | .lit _ => 1
  | .nil => 1
  | .ptr d => uptoBulk d + 1
  | .slice elems spare => uptoBulkAll elems + uptoBulkAll spare + 1
  | .agg parts => uptoBulkAll parts + 1
  | .iface _ d => uptoBulk d + 1
  | .map entries => uptoBulkEntries entries + 1
  | .held _ => 1
def uptoBulkAll {H : Type} : List (DataW H) → Nat
  | [] => 0
  | d :: r => uptoBulk d + uptoBulkAll r
def uptoBulkEntries {H : Type} : List (Lit × DataW H) → Nat
  | [] => 0
  | x :: r => uptoBulkEntry x + uptoBulkEntries r
def uptoBulkEntry {H : Type} : Lit × DataW H → Nat
  | (.string bytes, d) => bytes.length + uptoBulk d + 1
  | (_, d) => uptoBulk d + 1
 end
def uptoSmall : (H : Type) → List (DataW H) → Bool := fun _ ds => decide (uptoBulkAll ds ≤ 1048576)
def OpenSpec.upto (s : _root_.Go.ChangeSpec) : _root_.Go.OpenSpec := { _root_.Go.OpenSpec.ofChange s with cond := some uptoSmall }

/-- 'catamaranlaw05.DiskDoes', WHERE WHAT IT READS IS OF BULK AT MOST 1048576: true; the input reads as it did. -/
def diskDoesUptoRow : OpenClaim := { program := "ytjlohdbkjoofcaa", sum := "36d52fc7a6111e470580693b0ffa71f4c046bdc5bdfc88cf6659de2a409e4d9d", func := "catamaran/catamaranlaw05.DiskDoes", spec := "diskDoes", unfollowed := true, recurses := true, apart := false, narrowed := true }
def DiskDoesUptoSaid : Prop := diskDoesUptoRow.holds Try.pinned (OpenSpec.upto diskDoesSpec)

/-- 'catamaranlaw05.DiskNames', WHERE WHAT IT READS IS OF BULK AT MOST 1048576: true; the input reads as it did. -/
def diskNamesUptoRow : OpenClaim := { program := "ytjlohdbkjoofcaa", sum := "36d52fc7a6111e470580693b0ffa71f4c046bdc5bdfc88cf6659de2a409e4d9d", func := "catamaran/catamaranlaw05.DiskNames", spec := "diskNames", unfollowed := true, recurses := true, apart := false, narrowed := true }
def DiskNamesUptoSaid : Prop := diskNamesUptoRow.holds Try.pinned (OpenSpec.upto diskNamesSpec)

/-- 'catamaranlaw05.DiskEnds', WHERE WHAT IT READS IS OF BULK AT MOST 1048576: true; the input reads as it did. -/
def diskEndsUptoRow : OpenClaim := { program := "ytjlohdbkjoofcaa", sum := "36d52fc7a6111e470580693b0ffa71f4c046bdc5bdfc88cf6659de2a409e4d9d", func := "catamaran/catamaranlaw05.DiskEnds", spec := "diskEnds", unfollowed := true, recurses := true, apart := false, narrowed := true }
def DiskEndsUptoSaid : Prop := diskEndsUptoRow.holds Try.pinned (OpenSpec.upto diskEndsSpec)

/-- 'catamaranlaw10.JournalPlans', WHERE WHAT IT READS IS OF BULK AT MOST 1048576: true; the input reads as it did. -/
def journalPlansUptoRow : OpenClaim := { program := "ytjlohdbkjoofcaa", sum := "36d52fc7a6111e470580693b0ffa71f4c046bdc5bdfc88cf6659de2a409e4d9d", func := "catamaran/catamaranlaw10.JournalPlans", spec := "journalPlans", unfollowed := true, recurses := true, apart := false, narrowed := true }
def JournalPlansUptoSaid : Prop := journalPlansUptoRow.holds Try.pinned (OpenSpec.upto journalPlansSpec)

/-- 'catamaranlaw06.CellReads', WHERE WHAT IT READS IS OF BULK AT MOST 1048576: true; the input reads as it did. -/
def cellReadsUptoRow : OpenClaim := { program := "ytjlohdbkjoofcaa", sum := "36d52fc7a6111e470580693b0ffa71f4c046bdc5bdfc88cf6659de2a409e4d9d", func := "catamaran/catamaranlaw06.CellReads", spec := "cellReads", unfollowed := true, recurses := true, apart := false, narrowed := true }
def CellReadsUptoSaid : Prop := cellReadsUptoRow.holds Try.pinned (OpenSpec.upto cellReadsSpec)

/-- 'catamaranlaw05.DiskReads', WHERE WHAT IT READS IS OF BULK AT MOST 1048576: true; the input reads as it did. -/
def diskReadsUptoRow : OpenClaim := { program := "ytjlohdbkjoofcaa", sum := "36d52fc7a6111e470580693b0ffa71f4c046bdc5bdfc88cf6659de2a409e4d9d", func := "catamaran/catamaranlaw05.DiskReads", spec := "diskReads", unfollowed := true, recurses := true, apart := false, narrowed := true }
def DiskReadsUptoSaid : Prop := diskReadsUptoRow.holds Try.pinned (OpenSpec.upto diskReadsSpec)

/-- 'catamaranlaw08.TrackNames', WHERE WHAT IT READS IS OF BULK AT MOST 1048576: true; the input reads as it did. -/
def trackNamesUptoRow : OpenClaim := { program := "ytjlohdbkjoofcaa", sum := "36d52fc7a6111e470580693b0ffa71f4c046bdc5bdfc88cf6659de2a409e4d9d", func := "catamaran/catamaranlaw08.TrackNames", spec := "trackNames", unfollowed := true, recurses := true, apart := false, narrowed := true }
def TrackNamesUptoSaid : Prop := trackNamesUptoRow.holds Try.pinned (OpenSpec.upto trackNamesSpec)

/-- 'catamaranlaw05.DiskCrash', WHERE WHAT IT READS IS OF BULK AT MOST 1048576: true; the input reads as it did. -/
def diskCrashUptoRow : OpenClaim := { program := "ytjlohdbkjoofcaa", sum := "36d52fc7a6111e470580693b0ffa71f4c046bdc5bdfc88cf6659de2a409e4d9d", func := "catamaran/catamaranlaw05.DiskCrash", spec := "diskCrash", unfollowed := true, recurses := true, apart := false, narrowed := true }
def DiskCrashUptoSaid : Prop := diskCrashUptoRow.holds Try.pinned (OpenSpec.upto diskCrashSpec)

/-- 'catamaranlaw10.JournalTells', WHERE WHAT IT READS IS OF BULK AT MOST 1048576: true; the input reads as it did. -/
def journalTellsUptoRow : OpenClaim := { program := "ytjlohdbkjoofcaa", sum := "36d52fc7a6111e470580693b0ffa71f4c046bdc5bdfc88cf6659de2a409e4d9d", func := "catamaran/catamaranlaw10.JournalTells", spec := "journalTells", unfollowed := true, recurses := true, apart := false, narrowed := true }
def JournalTellsUptoSaid : Prop := journalTellsUptoRow.holds Try.pinned (OpenSpec.upto journalTellsSpec)

/-- 'catamaranlaw08.TrackCrash', WHERE WHAT IT READS IS OF BULK AT MOST 1048576: true; the input reads as it did. -/
def trackCrashUptoRow : OpenClaim := { program := "ytjlohdbkjoofcaa", sum := "36d52fc7a6111e470580693b0ffa71f4c046bdc5bdfc88cf6659de2a409e4d9d", func := "catamaran/catamaranlaw08.TrackCrash", spec := "trackCrash", unfollowed := true, recurses := true, apart := false, narrowed := true }
def TrackCrashUptoSaid : Prop := trackCrashUptoRow.holds Try.pinned (OpenSpec.upto trackCrashSpec)

/-- 'catamaranlaw13.PageReads', WHERE WHAT IT READS IS OF BULK AT MOST 1048576: true; the input reads as it did. -/
def pageReadsUptoRow : OpenClaim := { program := "ytjlohdbkjoofcaa", sum := "36d52fc7a6111e470580693b0ffa71f4c046bdc5bdfc88cf6659de2a409e4d9d", func := "catamaran/catamaranlaw13.PageReads", spec := "pageReads", unfollowed := true, recurses := true, apart := false, narrowed := true }
def PageReadsUptoSaid : Prop := pageReadsUptoRow.holds Try.pinned (OpenSpec.upto pageReadsSpec)

/-- 'catamaranlaw06.CellWrites', WHERE WHAT IT READS IS OF BULK AT MOST 1048576: true; the input reads as it did. -/
def cellWritesUptoRow : OpenClaim := { program := "ytjlohdbkjoofcaa", sum := "36d52fc7a6111e470580693b0ffa71f4c046bdc5bdfc88cf6659de2a409e4d9d", func := "catamaran/catamaranlaw06.CellWrites", spec := "cellWrites", unfollowed := true, recurses := true, apart := false, narrowed := true }
def CellWritesUptoSaid : Prop := cellWritesUptoRow.holds Try.pinned (OpenSpec.upto cellWritesSpec)

/-- 'catamaranlaw10.JournalNames', WHERE WHAT IT READS IS OF BULK AT MOST 1048576: true; the input reads as it did. -/
def journalNamesUptoRow : OpenClaim := { program := "ytjlohdbkjoofcaa", sum := "36d52fc7a6111e470580693b0ffa71f4c046bdc5bdfc88cf6659de2a409e4d9d", func := "catamaran/catamaranlaw10.JournalNames", spec := "journalNames", unfollowed := true, recurses := true, apart := false, narrowed := true }
def JournalNamesUptoSaid : Prop := journalNamesUptoRow.holds Try.pinned (OpenSpec.upto journalNamesSpec)

/-- 'catamaranlaw10.JournalApart', WHERE WHAT IT READS IS OF BULK AT MOST 1048576: true; the input reads as it did. -/
def journalApartUptoRow : OpenClaim := { program := "ytjlohdbkjoofcaa", sum := "36d52fc7a6111e470580693b0ffa71f4c046bdc5bdfc88cf6659de2a409e4d9d", func := "catamaran/catamaranlaw10.JournalApart", spec := "journalApart", unfollowed := true, recurses := true, apart := false, narrowed := true }
def JournalApartUptoSaid : Prop := journalApartUptoRow.holds Try.pinned (OpenSpec.upto journalApartSpec)

/-- 'catamaranlaw09.SuperTells', WHERE WHAT IT READS IS OF BULK AT MOST 1048576: true; the input reads as it did. -/
def superTellsUptoRow : OpenClaim := { program := "ytjlohdbkjoofcaa", sum := "36d52fc7a6111e470580693b0ffa71f4c046bdc5bdfc88cf6659de2a409e4d9d", func := "catamaran/catamaranlaw09.SuperTells", spec := "superTells", unfollowed := true, recurses := true, apart := false, narrowed := true }
def SuperTellsUptoSaid : Prop := superTellsUptoRow.holds Try.pinned (OpenSpec.upto superTellsSpec)

/-- 'catamaranlaw13.PageNames', WHERE WHAT IT READS IS OF BULK AT MOST 1048576: true; the input reads as it did. -/
def pageNamesUptoRow : OpenClaim := { program := "ytjlohdbkjoofcaa", sum := "36d52fc7a6111e470580693b0ffa71f4c046bdc5bdfc88cf6659de2a409e4d9d", func := "catamaran/catamaranlaw13.PageNames", spec := "pageNames", unfollowed := true, recurses := true, apart := false, narrowed := true }
def PageNamesUptoSaid : Prop := pageNamesUptoRow.holds Try.pinned (OpenSpec.upto pageNamesSpec)

/-- 'catamaranlaw08.TrackReads', WHERE WHAT IT READS IS OF BULK AT MOST 1048576: true; the input reads as it did. -/
def trackReadsUptoRow : OpenClaim := { program := "ytjlohdbkjoofcaa", sum := "36d52fc7a6111e470580693b0ffa71f4c046bdc5bdfc88cf6659de2a409e4d9d", func := "catamaran/catamaranlaw08.TrackReads", spec := "trackReads", unfollowed := true, recurses := true, apart := false, narrowed := true }
def TrackReadsUptoSaid : Prop := trackReadsUptoRow.holds Try.pinned (OpenSpec.upto trackReadsSpec)

/-- 'catamaranlaw09.SuperNames', WHERE WHAT IT READS IS OF BULK AT MOST 1048576: true; the input reads as it did. -/
def superNamesUptoRow : OpenClaim := { program := "ytjlohdbkjoofcaa", sum := "36d52fc7a6111e470580693b0ffa71f4c046bdc5bdfc88cf6659de2a409e4d9d", func := "catamaran/catamaranlaw09.SuperNames", spec := "superNames", unfollowed := true, recurses := true, apart := false, narrowed := true }
def SuperNamesUptoSaid : Prop := superNamesUptoRow.holds Try.pinned (OpenSpec.upto superNamesSpec)

/-- 'catamaranlaw13.PageCrash', WHERE WHAT IT READS IS OF BULK AT MOST 1048576: true; the input reads as it did. -/
def pageCrashUptoRow : OpenClaim := { program := "ytjlohdbkjoofcaa", sum := "36d52fc7a6111e470580693b0ffa71f4c046bdc5bdfc88cf6659de2a409e4d9d", func := "catamaran/catamaranlaw13.PageCrash", spec := "pageCrash", unfollowed := true, recurses := true, apart := false, narrowed := true }
def PageCrashUptoSaid : Prop := pageCrashUptoRow.holds Try.pinned (OpenSpec.upto pageCrashSpec)

/-- 'catamaranlaw06.CellNames', WHERE WHAT IT READS IS OF BULK AT MOST 1048576: true; the input reads as it did. -/
def cellNamesUptoRow : OpenClaim := { program := "ytjlohdbkjoofcaa", sum := "36d52fc7a6111e470580693b0ffa71f4c046bdc5bdfc88cf6659de2a409e4d9d", func := "catamaran/catamaranlaw06.CellNames", spec := "cellNames", unfollowed := true, recurses := true, apart := false, narrowed := true }
def CellNamesUptoSaid : Prop := cellNamesUptoRow.holds Try.pinned (OpenSpec.upto cellNamesSpec)

/-- 'catamaranlaw06.CellBack', WHERE WHAT IT READS IS OF BULK AT MOST 1048576: true; the input reads as it did. -/
def cellBackUptoRow : OpenClaim := { program := "ytjlohdbkjoofcaa", sum := "36d52fc7a6111e470580693b0ffa71f4c046bdc5bdfc88cf6659de2a409e4d9d", func := "catamaran/catamaranlaw06.CellBack", spec := "cellBack", unfollowed := true, recurses := true, apart := false, narrowed := true }
def CellBackUptoSaid : Prop := cellBackUptoRow.holds Try.pinned (OpenSpec.upto cellBackSpec)

/-- 'catamaranlaw06.CellCrash', WHERE WHAT IT READS IS OF BULK AT MOST 1048576: true; the input reads as it did. -/
def cellCrashUptoRow : OpenClaim := { program := "ytjlohdbkjoofcaa", sum := "36d52fc7a6111e470580693b0ffa71f4c046bdc5bdfc88cf6659de2a409e4d9d", func := "catamaran/catamaranlaw06.CellCrash", spec := "cellCrash", unfollowed := true, recurses := true, apart := false, narrowed := true }
def CellCrashUptoSaid : Prop := cellCrashUptoRow.holds Try.pinned (OpenSpec.upto cellCrashSpec)

/-- 'catamaranlaw10.JournalCrash', WHERE WHAT IT READS IS OF BULK AT MOST 1048576: true; the input reads as it did. -/
def journalCrashUptoRow : OpenClaim := { program := "ytjlohdbkjoofcaa", sum := "36d52fc7a6111e470580693b0ffa71f4c046bdc5bdfc88cf6659de2a409e4d9d", func := "catamaran/catamaranlaw10.JournalCrash", spec := "journalCrash", unfollowed := true, recurses := true, apart := false, narrowed := true }
def JournalCrashUptoSaid : Prop := journalCrashUptoRow.holds Try.pinned (OpenSpec.upto journalCrashSpec)

/-- 'catamaranlaw08.TrackWrites', WHERE WHAT IT READS IS OF BULK AT MOST 1048576: true; the input reads as it did. -/
def trackWritesUptoRow : OpenClaim := { program := "ytjlohdbkjoofcaa", sum := "36d52fc7a6111e470580693b0ffa71f4c046bdc5bdfc88cf6659de2a409e4d9d", func := "catamaran/catamaranlaw08.TrackWrites", spec := "trackWrites", unfollowed := true, recurses := true, apart := false, narrowed := true }
def TrackWritesUptoSaid : Prop := trackWritesUptoRow.holds Try.pinned (OpenSpec.upto trackWritesSpec)

/-- 'catamaranlaw09.SuperCrash', WHERE WHAT IT READS IS OF BULK AT MOST 1048576: true; the input reads as it did. -/
def superCrashUptoRow : OpenClaim := { program := "ytjlohdbkjoofcaa", sum := "36d52fc7a6111e470580693b0ffa71f4c046bdc5bdfc88cf6659de2a409e4d9d", func := "catamaran/catamaranlaw09.SuperCrash", spec := "superCrash", unfollowed := true, recurses := true, apart := false, narrowed := true }
def SuperCrashUptoSaid : Prop := superCrashUptoRow.holds Try.pinned (OpenSpec.upto superCrashSpec)

/-- 'catamaranlaw08.TrackBack', WHERE WHAT IT READS IS OF BULK AT MOST 1048576: true; the input reads as it did. -/
def trackBackUptoRow : OpenClaim := { program := "ytjlohdbkjoofcaa", sum := "36d52fc7a6111e470580693b0ffa71f4c046bdc5bdfc88cf6659de2a409e4d9d", func := "catamaran/catamaranlaw08.TrackBack", spec := "trackBack", unfollowed := true, recurses := true, apart := false, narrowed := true }
def TrackBackUptoSaid : Prop := trackBackUptoRow.holds Try.pinned (OpenSpec.upto trackBackSpec)

/-- 'catamaranlaw14.DiffCrash', WHERE WHAT IT READS IS OF BULK AT MOST 1048576: true; the input reads as it did. -/
def diffCrashUptoRow : OpenClaim := { program := "ytjlohdbkjoofcaa", sum := "36d52fc7a6111e470580693b0ffa71f4c046bdc5bdfc88cf6659de2a409e4d9d", func := "catamaran/catamaranlaw14.DiffCrash", spec := "diffCrash", unfollowed := true, recurses := true, apart := false, narrowed := true }
def DiffCrashUptoSaid : Prop := diffCrashUptoRow.holds Try.pinned (OpenSpec.upto diffCrashSpec)

end Rows
end Go.Proofs.Ytjlohdbkjoofcaa
