/-
  No cell of these rows narrows 'for every input' (looked for: loops, veiled, ifaces, maps, wideKeys, modest, calm, conditions, laid).
  DERIVED. THE GIVEN ROWS OF THIS SEAT. 12 by the template 'for every input the law returns true; each argument reads behind the call as it read before'; 0 by the template 'total and deterministic' (their statements: YtdkjhcdniepbhaaTotals.lean).
  GIVEN WITH THE SEED: the statements are not yours to turn. If you find one false, say at which input.
  Laid BY PROGRAM, IN A SANDBOX (cutbox-rows.mjs): the forced cells as the released guide's own fill.sh prints them over the translation 1c457987b120fdec… (all of the seat's roots in one cut). By AI agents, Wed Nov 11 2026. No macro, syntax, notation, axiom, sorry.
-/
import Derived.Test.YtdkjhcdniepbhaaChecked
import GoSem.Claim
import GoSem.ClaimJoined
import GoSem.ClaimMapViews
import Derived.JoinedTies
import Derived.KernelRfl
namespace Go.Proofs.Ytdkjhcdniepbhaa
/- THE CELL 'sum', in the pinned program and in every row, IS THE sha256 OF THE DUMP (.gsa) THAT YtdkjhcdniepbhaaProg.lean LOADS. Nothing in Lean hashes anything: it is a label: what it is worth is what the hold of that sum in a sandbox is worth. -/
noncomputable def Try.pinned : Pinned := { name := "ytdkjhcdniepbhaa", sum := "1c457987b120fdecfa6bd7dcc4023162091c0793c4e0b3efe2fb63355ac8bb64", checked := Try.checked }
namespace Rows
def none {H : Type} : Left H := { results := [], args := [] }

/-- 'catamaranlaw05.DiskNames': WHATEVER THE INPUT: true; the input reads as it did. -/
def diskNamesSpec : ChangeSpec := { name := "diskNames", fn := fun _ => fun
  | [] => { results := [.lit (.bool true)], args := [] }
  | _ => none }
def diskNamesRow : OpenClaim := { program := "ytdkjhcdniepbhaa", sum := "1c457987b120fdecfa6bd7dcc4023162091c0793c4e0b3efe2fb63355ac8bb64", func := "catamaran/catamaranlaw05.DiskNames", spec := "diskNames", unfollowed := true, recurses := true, apart := false }
def DiskNamesSaid : Prop := diskNamesRow.holds Try.pinned (OpenSpec.ofChange diskNamesSpec)

/-- ITS FALSE NEIGHBOUR: 'it returns false'. Refute it at one input. -/
def diskNamesWrong : ChangeSpec := { name := "diskNames", fn := fun _ => fun
  | [] => { results := [.lit (.bool false)], args := [] }
  | _ => none }
def DiskNamesWrongFalsely : Prop := diskNamesRow.holds Try.pinned (OpenSpec.ofChange diskNamesWrong)

/-- 'catamaranlaw10.JournalPlans': WHATEVER THE INPUT: true; the input reads as it did. -/
def journalPlansSpec : ChangeSpec := { name := "journalPlans", fn := fun _ => fun
  | [d1, d2, d3, d4, d5, d6] => { results := [.lit (.bool true)], args := [d1, d2, d3, d4, d5, d6] }
  | _ => none }
def journalPlansRow : OpenClaim := { program := "ytdkjhcdniepbhaa", sum := "1c457987b120fdecfa6bd7dcc4023162091c0793c4e0b3efe2fb63355ac8bb64", func := "catamaran/catamaranlaw10.JournalPlans", spec := "journalPlans", unfollowed := true, recurses := true, apart := false }
def JournalPlansSaid : Prop := journalPlansRow.holds Try.pinned (OpenSpec.ofChange journalPlansSpec)

/-- ITS FALSE NEIGHBOUR: 'it returns false'. Refute it at one input. -/
def journalPlansWrong : ChangeSpec := { name := "journalPlans", fn := fun _ => fun
  | [d1, d2, d3, d4, d5, d6] => { results := [.lit (.bool false)], args := [d1, d2, d3, d4, d5, d6] }
  | _ => none }
def JournalPlansWrongFalsely : Prop := journalPlansRow.holds Try.pinned (OpenSpec.ofChange journalPlansWrong)

/-- 'catamaranlaw06.CellReads': WHATEVER THE INPUT: true; the input reads as it did. -/
def cellReadsSpec : ChangeSpec := { name := "cellReads", fn := fun _ => fun
  | [d1, d2, d3] => { results := [.lit (.bool true)], args := [d1, d2, d3] }
  | _ => none }
def cellReadsRow : OpenClaim := { program := "ytdkjhcdniepbhaa", sum := "1c457987b120fdecfa6bd7dcc4023162091c0793c4e0b3efe2fb63355ac8bb64", func := "catamaran/catamaranlaw06.CellReads", spec := "cellReads", unfollowed := true, recurses := true, apart := false }
def CellReadsSaid : Prop := cellReadsRow.holds Try.pinned (OpenSpec.ofChange cellReadsSpec)

/-- ITS FALSE NEIGHBOUR: 'it returns false'. Refute it at one input. -/
def cellReadsWrong : ChangeSpec := { name := "cellReads", fn := fun _ => fun
  | [d1, d2, d3] => { results := [.lit (.bool false)], args := [d1, d2, d3] }
  | _ => none }
def CellReadsWrongFalsely : Prop := cellReadsRow.holds Try.pinned (OpenSpec.ofChange cellReadsWrong)

/-- 'catamaranlaw10.JournalTells': WHATEVER THE INPUT: true; the input reads as it did. -/
def journalTellsSpec : ChangeSpec := { name := "journalTells", fn := fun _ => fun
  | [d1, d2, d3, d4] => { results := [.lit (.bool true)], args := [d1, d2, d3, d4] }
  | _ => none }
def journalTellsRow : OpenClaim := { program := "ytdkjhcdniepbhaa", sum := "1c457987b120fdecfa6bd7dcc4023162091c0793c4e0b3efe2fb63355ac8bb64", func := "catamaran/catamaranlaw10.JournalTells", spec := "journalTells", unfollowed := true, recurses := true, apart := false }
def JournalTellsSaid : Prop := journalTellsRow.holds Try.pinned (OpenSpec.ofChange journalTellsSpec)

/-- ITS FALSE NEIGHBOUR: 'it returns false'. Refute it at one input. -/
def journalTellsWrong : ChangeSpec := { name := "journalTells", fn := fun _ => fun
  | [d1, d2, d3, d4] => { results := [.lit (.bool false)], args := [d1, d2, d3, d4] }
  | _ => none }
def JournalTellsWrongFalsely : Prop := journalTellsRow.holds Try.pinned (OpenSpec.ofChange journalTellsWrong)

/-- 'catamaranlaw13.PageReads': WHATEVER THE INPUT: true; the input reads as it did. -/
def pageReadsSpec : ChangeSpec := { name := "pageReads", fn := fun _ => fun
  | [d1, d2, d3] => { results := [.lit (.bool true)], args := [d1, d2, d3] }
  | _ => none }
def pageReadsRow : OpenClaim := { program := "ytdkjhcdniepbhaa", sum := "1c457987b120fdecfa6bd7dcc4023162091c0793c4e0b3efe2fb63355ac8bb64", func := "catamaran/catamaranlaw13.PageReads", spec := "pageReads", unfollowed := true, recurses := true, apart := false }
def PageReadsSaid : Prop := pageReadsRow.holds Try.pinned (OpenSpec.ofChange pageReadsSpec)

/-- ITS FALSE NEIGHBOUR: 'it returns false'. Refute it at one input. -/
def pageReadsWrong : ChangeSpec := { name := "pageReads", fn := fun _ => fun
  | [d1, d2, d3] => { results := [.lit (.bool false)], args := [d1, d2, d3] }
  | _ => none }
def PageReadsWrongFalsely : Prop := pageReadsRow.holds Try.pinned (OpenSpec.ofChange pageReadsWrong)

/-- 'catamaranlaw06.CellWrites': WHATEVER THE INPUT: true; the input reads as it did. -/
def cellWritesSpec : ChangeSpec := { name := "cellWrites", fn := fun _ => fun
  | [d1, d2, d3, d4] => { results := [.lit (.bool true)], args := [d1, d2, d3, d4] }
  | _ => none }
def cellWritesRow : OpenClaim := { program := "ytdkjhcdniepbhaa", sum := "1c457987b120fdecfa6bd7dcc4023162091c0793c4e0b3efe2fb63355ac8bb64", func := "catamaran/catamaranlaw06.CellWrites", spec := "cellWrites", unfollowed := true, recurses := true, apart := false }
def CellWritesSaid : Prop := cellWritesRow.holds Try.pinned (OpenSpec.ofChange cellWritesSpec)

/-- ITS FALSE NEIGHBOUR: 'it returns false'. Refute it at one input. -/
def cellWritesWrong : ChangeSpec := { name := "cellWrites", fn := fun _ => fun
  | [d1, d2, d3, d4] => { results := [.lit (.bool false)], args := [d1, d2, d3, d4] }
  | _ => none }
def CellWritesWrongFalsely : Prop := cellWritesRow.holds Try.pinned (OpenSpec.ofChange cellWritesWrong)

/-- 'catamaranlaw10.JournalNames': WHATEVER THE INPUT: true; the input reads as it did. -/
def journalNamesSpec : ChangeSpec := { name := "journalNames", fn := fun _ => fun
  | [] => { results := [.lit (.bool true)], args := [] }
  | _ => none }
def journalNamesRow : OpenClaim := { program := "ytdkjhcdniepbhaa", sum := "1c457987b120fdecfa6bd7dcc4023162091c0793c4e0b3efe2fb63355ac8bb64", func := "catamaran/catamaranlaw10.JournalNames", spec := "journalNames", unfollowed := true, recurses := true, apart := false }
def JournalNamesSaid : Prop := journalNamesRow.holds Try.pinned (OpenSpec.ofChange journalNamesSpec)

/-- ITS FALSE NEIGHBOUR: 'it returns false'. Refute it at one input. -/
def journalNamesWrong : ChangeSpec := { name := "journalNames", fn := fun _ => fun
  | [] => { results := [.lit (.bool false)], args := [] }
  | _ => none }
def JournalNamesWrongFalsely : Prop := journalNamesRow.holds Try.pinned (OpenSpec.ofChange journalNamesWrong)

/-- 'catamaranlaw10.JournalApart': WHATEVER THE INPUT: true; the input reads as it did. -/
def journalApartSpec : ChangeSpec := { name := "journalApart", fn := fun _ => fun
  | [d1, d2, d3, d4, d5, d6] => { results := [.lit (.bool true)], args := [d1, d2, d3, d4, d5, d6] }
  | _ => none }
def journalApartRow : OpenClaim := { program := "ytdkjhcdniepbhaa", sum := "1c457987b120fdecfa6bd7dcc4023162091c0793c4e0b3efe2fb63355ac8bb64", func := "catamaran/catamaranlaw10.JournalApart", spec := "journalApart", unfollowed := true, recurses := true, apart := false }
def JournalApartSaid : Prop := journalApartRow.holds Try.pinned (OpenSpec.ofChange journalApartSpec)

/-- ITS FALSE NEIGHBOUR: 'it returns false'. Refute it at one input. -/
def journalApartWrong : ChangeSpec := { name := "journalApart", fn := fun _ => fun
  | [d1, d2, d3, d4, d5, d6] => { results := [.lit (.bool false)], args := [d1, d2, d3, d4, d5, d6] }
  | _ => none }
def JournalApartWrongFalsely : Prop := journalApartRow.holds Try.pinned (OpenSpec.ofChange journalApartWrong)

/-- 'catamaranlaw09.SuperTells': WHATEVER THE INPUT: true; the input reads as it did. -/
def superTellsSpec : ChangeSpec := { name := "superTells", fn := fun _ => fun
  | [d1, d2, d3] => { results := [.lit (.bool true)], args := [d1, d2, d3] }
  | _ => none }
def superTellsRow : OpenClaim := { program := "ytdkjhcdniepbhaa", sum := "1c457987b120fdecfa6bd7dcc4023162091c0793c4e0b3efe2fb63355ac8bb64", func := "catamaran/catamaranlaw09.SuperTells", spec := "superTells", unfollowed := true, recurses := true, apart := false }
def SuperTellsSaid : Prop := superTellsRow.holds Try.pinned (OpenSpec.ofChange superTellsSpec)

/-- ITS FALSE NEIGHBOUR: 'it returns false'. Refute it at one input. -/
def superTellsWrong : ChangeSpec := { name := "superTells", fn := fun _ => fun
  | [d1, d2, d3] => { results := [.lit (.bool false)], args := [d1, d2, d3] }
  | _ => none }
def SuperTellsWrongFalsely : Prop := superTellsRow.holds Try.pinned (OpenSpec.ofChange superTellsWrong)

/-- 'catamaranlaw06.CellNames': WHATEVER THE INPUT: true; the input reads as it did. -/
def cellNamesSpec : ChangeSpec := { name := "cellNames", fn := fun _ => fun
  | [] => { results := [.lit (.bool true)], args := [] }
  | _ => none }
def cellNamesRow : OpenClaim := { program := "ytdkjhcdniepbhaa", sum := "1c457987b120fdecfa6bd7dcc4023162091c0793c4e0b3efe2fb63355ac8bb64", func := "catamaran/catamaranlaw06.CellNames", spec := "cellNames", unfollowed := true, recurses := true, apart := false }
def CellNamesSaid : Prop := cellNamesRow.holds Try.pinned (OpenSpec.ofChange cellNamesSpec)

/-- ITS FALSE NEIGHBOUR: 'it returns false'. Refute it at one input. -/
def cellNamesWrong : ChangeSpec := { name := "cellNames", fn := fun _ => fun
  | [] => { results := [.lit (.bool false)], args := [] }
  | _ => none }
def CellNamesWrongFalsely : Prop := cellNamesRow.holds Try.pinned (OpenSpec.ofChange cellNamesWrong)

/-- 'catamaranlaw06.CellBack': WHATEVER THE INPUT: true; the input reads as it did. -/
def cellBackSpec : ChangeSpec := { name := "cellBack", fn := fun _ => fun
  | [d1, d2, d3, d4] => { results := [.lit (.bool true)], args := [d1, d2, d3, d4] }
  | _ => none }
def cellBackRow : OpenClaim := { program := "ytdkjhcdniepbhaa", sum := "1c457987b120fdecfa6bd7dcc4023162091c0793c4e0b3efe2fb63355ac8bb64", func := "catamaran/catamaranlaw06.CellBack", spec := "cellBack", unfollowed := true, recurses := true, apart := false }
def CellBackSaid : Prop := cellBackRow.holds Try.pinned (OpenSpec.ofChange cellBackSpec)

/-- ITS FALSE NEIGHBOUR: 'it returns false'. Refute it at one input. -/
def cellBackWrong : ChangeSpec := { name := "cellBack", fn := fun _ => fun
  | [d1, d2, d3, d4] => { results := [.lit (.bool false)], args := [d1, d2, d3, d4] }
  | _ => none }
def CellBackWrongFalsely : Prop := cellBackRow.holds Try.pinned (OpenSpec.ofChange cellBackWrong)

/-- 'catamaranlaw06.CellCrash': WHATEVER THE INPUT: true; the input reads as it did. -/
def cellCrashSpec : ChangeSpec := { name := "cellCrash", fn := fun _ => fun
  | [d1, d2, d3, d4, d5, d6] => { results := [.lit (.bool true)], args := [d1, d2, d3, d4, d5, d6] }
  | _ => none }
def cellCrashRow : OpenClaim := { program := "ytdkjhcdniepbhaa", sum := "1c457987b120fdecfa6bd7dcc4023162091c0793c4e0b3efe2fb63355ac8bb64", func := "catamaran/catamaranlaw06.CellCrash", spec := "cellCrash", unfollowed := true, recurses := true, apart := false }
def CellCrashSaid : Prop := cellCrashRow.holds Try.pinned (OpenSpec.ofChange cellCrashSpec)

/-- ITS FALSE NEIGHBOUR: 'it returns false'. Refute it at one input. -/
def cellCrashWrong : ChangeSpec := { name := "cellCrash", fn := fun _ => fun
  | [d1, d2, d3, d4, d5, d6] => { results := [.lit (.bool false)], args := [d1, d2, d3, d4, d5, d6] }
  | _ => none }
def CellCrashWrongFalsely : Prop := cellCrashRow.holds Try.pinned (OpenSpec.ofChange cellCrashWrong)

/- THE SECOND FORM. 'bulk': how many values and letters a reading holds, each counted each time it is reached (what is shared counts as often as it is met; a slice's spare places count too). A statement '..UptoSaid' is the law's where the arguments, and the package variables that the reading takes, are together of bulk at most 1048576: NARROWER than '..Said'. Prove '..Said' where nothing that the law and all that it calls make is longer than what came in: it says more and counts as full. Else prove '..UptoSaid'. A law counts once. -/
mutual
def uptoBulk {H : Type} : DataW H → Nat
  | .lit (.string bytes) => bytes.length + 1
  | .lit _ => 1
  | .nil => 1
  | .ptr d => uptoBulk d + 1
  | .slice elems spare => uptoBulkAll elems + uptoBulkAll spare + 1
  | .agg parts => uptoBulkAll parts + 1
  | .iface _ d => uptoBulk d + 1
  | .map entries => uptoBulkEntries entries + 1
  | .held _ => 1
def uptoBulkAll {H : Type} : List (DataW H) → Nat
  | [] => 0
  | d :: r => uptoBulk d + uptoBulkAll r
def uptoBulkEntries {H : Type} : List (Lit × DataW H) → Nat
  | [] => 0
  | x :: r => uptoBulkEntry x + uptoBulkEntries r
def uptoBulkEntry {H : Type} : Lit × DataW H → Nat
  | (.string bytes, d) => bytes.length + uptoBulk d + 1
  | (_, d) => uptoBulk d + 1
 end
def uptoSmall : (H : Type) → List (DataW H) → Bool := fun _ ds => decide (uptoBulkAll ds ≤ 1048576)
def OpenSpec.upto (s : _root_.Go.ChangeSpec) : _root_.Go.OpenSpec := { _root_.Go.OpenSpec.ofChange s with cond := some uptoSmall }

/-- 'catamaranlaw05.DiskNames', WHERE WHAT IT READS IS OF BULK AT MOST 1048576: true; the input reads as it did. -/
def diskNamesUptoRow : OpenClaim := { program := "ytdkjhcdniepbhaa", sum := "1c457987b120fdecfa6bd7dcc4023162091c0793c4e0b3efe2fb63355ac8bb64", func := "catamaran/catamaranlaw05.DiskNames", spec := "diskNames", unfollowed := true, recurses := true, apart := false, narrowed := true }
def DiskNamesUptoSaid : Prop := diskNamesUptoRow.holds Try.pinned (OpenSpec.upto diskNamesSpec)

/-- 'catamaranlaw10.JournalPlans', WHERE WHAT IT READS IS OF BULK AT MOST 1048576: true; the input reads as it did. -/
def journalPlansUptoRow : OpenClaim := { program := "ytdkjhcdniepbhaa", sum := "1c457987b120fdecfa6bd7dcc4023162091c0793c4e0b3efe2fb63355ac8bb64", func := "catamaran/catamaranlaw10.JournalPlans", spec := "journalPlans", unfollowed := true, recurses := true, apart := false, narrowed := true }
def JournalPlansUptoSaid : Prop := journalPlansUptoRow.holds Try.pinned (OpenSpec.upto journalPlansSpec)

/-- 'catamaranlaw06.CellReads', WHERE WHAT IT READS IS OF BULK AT MOST 1048576: true; the input reads as it did. -/
def cellReadsUptoRow : OpenClaim := { program := "ytdkjhcdniepbhaa", sum := "1c457987b120fdecfa6bd7dcc4023162091c0793c4e0b3efe2fb63355ac8bb64", func := "catamaran/catamaranlaw06.CellReads", spec := "cellReads", unfollowed := true, recurses := true, apart := false, narrowed := true }
def CellReadsUptoSaid : Prop := cellReadsUptoRow.holds Try.pinned (OpenSpec.upto cellReadsSpec)

/-- 'catamaranlaw10.JournalTells', WHERE WHAT IT READS IS OF BULK AT MOST 1048576: true; the input reads as it did. -/
def journalTellsUptoRow : OpenClaim := { program := "ytdkjhcdniepbhaa", sum := "1c457987b120fdecfa6bd7dcc4023162091c0793c4e0b3efe2fb63355ac8bb64", func := "catamaran/catamaranlaw10.JournalTells", spec := "journalTells", unfollowed := true, recurses := true, apart := false, narrowed := true }
def JournalTellsUptoSaid : Prop := journalTellsUptoRow.holds Try.pinned (OpenSpec.upto journalTellsSpec)

/-- 'catamaranlaw13.PageReads', WHERE WHAT IT READS IS OF BULK AT MOST 1048576: true; the input reads as it did. -/
def pageReadsUptoRow : OpenClaim := { program := "ytdkjhcdniepbhaa", sum := "1c457987b120fdecfa6bd7dcc4023162091c0793c4e0b3efe2fb63355ac8bb64", func := "catamaran/catamaranlaw13.PageReads", spec := "pageReads", unfollowed := true, recurses := true, apart := false, narrowed := true }
def PageReadsUptoSaid : Prop := pageReadsUptoRow.holds Try.pinned (OpenSpec.upto pageReadsSpec)

/-- 'catamaranlaw06.CellWrites', WHERE WHAT IT READS IS OF BULK AT MOST 1048576: true; the input reads as it did. -/
def cellWritesUptoRow : OpenClaim := { program := "ytdkjhcdniepbhaa", sum := "1c457987b120fdecfa6bd7dcc4023162091c0793c4e0b3efe2fb63355ac8bb64", func := "catamaran/catamaranlaw06.CellWrites", spec := "cellWrites", unfollowed := true, recurses := true, apart := false, narrowed := true }
def CellWritesUptoSaid : Prop := cellWritesUptoRow.holds Try.pinned (OpenSpec.upto cellWritesSpec)

/-- 'catamaranlaw10.JournalNames', WHERE WHAT IT READS IS OF BULK AT MOST 1048576: true; the input reads as it did. -/
def journalNamesUptoRow : OpenClaim := { program := "ytdkjhcdniepbhaa", sum := "1c457987b120fdecfa6bd7dcc4023162091c0793c4e0b3efe2fb63355ac8bb64", func := "catamaran/catamaranlaw10.JournalNames", spec := "journalNames", unfollowed := true, recurses := true, apart := false, narrowed := true }
def JournalNamesUptoSaid : Prop := journalNamesUptoRow.holds Try.pinned (OpenSpec.upto journalNamesSpec)

/-- 'catamaranlaw10.JournalApart', WHERE WHAT IT READS IS OF BULK AT MOST 1048576: true; the input reads as it did. -/
def journalApartUptoRow : OpenClaim := { program := "ytdkjhcdniepbhaa", sum := "1c457987b120fdecfa6bd7dcc4023162091c0793c4e0b3efe2fb63355ac8bb64", func := "catamaran/catamaranlaw10.JournalApart", spec := "journalApart", unfollowed := true, recurses := true, apart := false, narrowed := true }
def JournalApartUptoSaid : Prop := journalApartUptoRow.holds Try.pinned (OpenSpec.upto journalApartSpec)

/-- 'catamaranlaw09.SuperTells', WHERE WHAT IT READS IS OF BULK AT MOST 1048576: true; the input reads as it did. -/
def superTellsUptoRow : OpenClaim := { program := "ytdkjhcdniepbhaa", sum := "1c457987b120fdecfa6bd7dcc4023162091c0793c4e0b3efe2fb63355ac8bb64", func := "catamaran/catamaranlaw09.SuperTells", spec := "superTells", unfollowed := true, recurses := true, apart := false, narrowed := true }
def SuperTellsUptoSaid : Prop := superTellsUptoRow.holds Try.pinned (OpenSpec.upto superTellsSpec)

/-- 'catamaranlaw06.CellNames', WHERE WHAT IT READS IS OF BULK AT MOST 1048576: true; the input reads as it did. -/
def cellNamesUptoRow : OpenClaim := { program := "ytdkjhcdniepbhaa", sum := "1c457987b120fdecfa6bd7dcc4023162091c0793c4e0b3efe2fb63355ac8bb64", func := "catamaran/catamaranlaw06.CellNames", spec := "cellNames", unfollowed := true, recurses := true, apart := false, narrowed := true }
def CellNamesUptoSaid : Prop := cellNamesUptoRow.holds Try.pinned (OpenSpec.upto cellNamesSpec)

/-- 'catamaranlaw06.CellBack', WHERE WHAT IT READS IS OF BULK AT MOST 1048576: true; the input reads as it did. -/
def cellBackUptoRow : OpenClaim := { program := "ytdkjhcdniepbhaa", sum := "1c457987b120fdecfa6bd7dcc4023162091c0793c4e0b3efe2fb63355ac8bb64", func := "catamaran/catamaranlaw06.CellBack", spec := "cellBack", unfollowed := true, recurses := true, apart := false, narrowed := true }
def CellBackUptoSaid : Prop := cellBackUptoRow.holds Try.pinned (OpenSpec.upto cellBackSpec)

/-- 'catamaranlaw06.CellCrash', WHERE WHAT IT READS IS OF BULK AT MOST 1048576: true; the input reads as it did. -/
def cellCrashUptoRow : OpenClaim := { program := "ytdkjhcdniepbhaa", sum := "1c457987b120fdecfa6bd7dcc4023162091c0793c4e0b3efe2fb63355ac8bb64", func := "catamaran/catamaranlaw06.CellCrash", spec := "cellCrash", unfollowed := true, recurses := true, apart := false, narrowed := true }
def CellCrashUptoSaid : Prop := cellCrashUptoRow.holds Try.pinned (OpenSpec.upto cellCrashSpec)

end Rows
end Go.Proofs.Ytdkjhcdniepbhaa
