/- Part 8 of the proof: JournalPlans: for every config, disk, area, generation, number and bytes the program's note text and its write are the document's, and the arguments stay; no condition. -/
import Derived.WalkKit
import Derived.ProofKit
import Derived.OpenShut
import Derived.Lib.SmallJoins
import Derived.Deep.Slices
import Derived.Deep.Fields
import Derived.ChangeSame
import Derived.Test.YtdkjhcdniepbhaaJournalPlans07
section
set_option linter.unusedVariables false
set_option linter.unusedSimpArgs false
namespace Go.Proofs.Ytdkjhcdniepbhaa.P
open Go.RowKit Go.Proofs.PrintWords Go.Proofs.PrintLast Go.Proofs.PrintMore
attribute [local go_sem] max2_int min2_int max_two min_two max_three min_three max_four min_four
mutual
def catamaranlaw10_JournalPlans.j0 : Nat → Int → Int → Int → List Int → Bool → Int → Int → Int → Int → Int → Int → List (S39) → List (S49) → Option (Bool)
  | 0, _, _, _, _, _, _, _, _, _, _, _, _, _ => none
  | k + 1, x2, x3, x4, x5, x31, x365000, x365001, x365002, x365003, x365004, x365005, x366000, x366001 => if x31 = true then (some true) else ((catamaranref05_Twin.f k x366000 x366001).bind fun bt367 => ((some (([] : List Int) : List Int)).bind fun y373 => (if y373.length + x5.length < 140737488355328 then ((some (y373 ++ x5 : List Int)).bind fun y376 => ((journal_Plan.f k x365000 x365001 x365002 x365003 x365004 x365005 bt367.1 bt367.2 x2 x3 x4 y376).bind fun bt380 => ((catamaranref10_Plan.f k x365000 x365001 x365002 x365003 x365004 x365005 x366000 x366001 x2 x3 x4 x5).bind fun bt386 => ((journal_Text.f k x3 x4 y376).bind fun bt392 => ((catamaranref10_Text.f k x3 x4 x5).bind fun bt396 => (if bt380.1 = bt386.1 then (if (strOfNums bt380.2.1).toList = (strOfNums bt386.2.1).toList then (if bt380.2.2 = bt386.2.2 then (if (strOfNums bt392.1).toList = (strOfNums bt396.1).toList then (catamaranlaw10_JournalPlans.j1 k x5 y376 (bt392.2 == bt396.2) x366000 x366001 bt367.1 bt367.2 bt380.1 bt380.2.1) else (catamaranlaw10_JournalPlans.j1 k x5 y376 false x366000 x366001 bt367.1 bt367.2 bt380.1 bt380.2.1)) else (catamaranlaw10_JournalPlans.j1 k x5 y376 false x366000 x366001 bt367.1 bt367.2 bt380.1 bt380.2.1)) else (catamaranlaw10_JournalPlans.j1 k x5 y376 false x366000 x366001 bt367.1 bt367.2 bt380.1 bt380.2.1)) else (catamaranlaw10_JournalPlans.j1 k x5 y376 false x366000 x366001 bt367.1 bt367.2 bt380.1 bt380.2.1))))))) else (none))))
def catamaranlaw10_JournalPlans.j1 : Nat → List Int → List Int → Bool → List (S39) → List (S49) → List (S39) → List (S49) → Int → List Int → Option (Bool)
  | 0, _, _, _, _, _, _, _, _, _ => none
  | k + 1, x5, x14, x23, x366000, x366001, x380000, x380001, x386000, x386001 => catamaranlaw10_JournalPlans.l0 k x5 x14 x23 0 x366000 x366001 x380000 x380001 x386000 x386001
def catamaranlaw10_JournalPlans.l0 : Nat → List Int → List Int → Bool → Int → List (S39) → List (S49) → List (S39) → List (S49) → Int → List Int → Option (Bool)
  | 0, _, _, _, _, _, _, _, _, _, _ => none
  | k + 1, x5, x14, x23, x24, x366000, x366001, x380000, x380001, x386000, x386001 => if x24 < (x386001.length : Int) then (if 0 ≤ x24 then (catamaranlaw10_JournalPlans.l0 k x5 x14 x23 (wrap64 (x24 + 1)) x366000 x366001 x380000 x380001 x386000 (x386001.set (x24 : Int).toNat (((rd x386001 x24) + 1) % 256))) else (none)) else (if x23 = true then ((hSame.f x380000 x380001 x366000 x366001).bind fun t402 => (if t402 = true then (some ((strOfNums x14).toList == (strOfNums x5).toList)) else (some false))) else (some false))
end
def catamaranlaw10_JournalPlans.f (k : Nat) (a0_0 : Int) (a0_1 : Int) (a0_2 : Int) (a0_3 : Int) (a0_4 : Int) (a0_5 : Int) (l1_0 : List (S39)) (l1_1 : List (S49)) (a2 : Int) (a3 : Int) (a4 : Int) (l5 : List Int) : Option (Bool) := (catamaranref05_Great.f k l1_0 l1_1 300).bind fun t366 => (if t366 = true then (catamaranlaw10_JournalPlans.j0 k a2 a3 a4 l5 true a0_0 a0_1 a0_2 a0_3 a0_4 a0_5 l1_0 l1_1) else (catamaranlaw10_JournalPlans.j0 k a2 a3 a4 l5 (decide ((l5.length : Int) > 100)) a0_0 a0_1 a0_2 a0_3 a0_4 a0_5 l1_0 l1_1))
theorem catamaranlaw10_JournalPlans.mono_l : ∀ k, (∀ y0 y1 y2 y3 y4 y5 y6 y7 y8 y9 y10 y11 y12, LeO (catamaranlaw10_JournalPlans.j0 k y0 y1 y2 y3 y4 y5 y6 y7 y8 y9 y10 y11 y12) (catamaranlaw10_JournalPlans.j0 (k + 1) y0 y1 y2 y3 y4 y5 y6 y7 y8 y9 y10 y11 y12)) ∧ (∀ y0 y1 y2 y3 y4 y5 y6 y7 y8, LeO (catamaranlaw10_JournalPlans.j1 k y0 y1 y2 y3 y4 y5 y6 y7 y8) (catamaranlaw10_JournalPlans.j1 (k + 1) y0 y1 y2 y3 y4 y5 y6 y7 y8)) ∧ (∀ y0 y1 y2 y3 y4 y5 y6 y7 y8 y9, LeO (catamaranlaw10_JournalPlans.l0 k y0 y1 y2 y3 y4 y5 y6 y7 y8 y9) (catamaranlaw10_JournalPlans.l0 (k + 1) y0 y1 y2 y3 y4 y5 y6 y7 y8 y9))
  | 0 => ⟨fun _ _ _ _ _ _ _ _ _ _ _ _ _ r h => by simp [catamaranlaw10_JournalPlans.j0] at h, fun _ _ _ _ _ _ _ _ _ r h => by simp [catamaranlaw10_JournalPlans.j1] at h, fun _ _ _ _ _ _ _ _ _ _ r h => by simp [catamaranlaw10_JournalPlans.l0] at h⟩
  | k + 1 => by
    obtain ⟨ih0, ih1, ih2⟩ := catamaranlaw10_JournalPlans.mono_l k
    refine ⟨?_, ?_, ?_⟩
    · intro y0 y1 y2 y3 y4 y5 y6 y7 y8 y9 y10 y11 y12
      unfold catamaranlaw10_JournalPlans.j0
      repeat' first
      | (with_reducible exact ih0 _ _ _ _ _ _ _ _ _ _ _ _ _)
      | (with_reducible exact ih1 _ _ _ _ _ _ _ _ _)
      | (with_reducible exact ih2 _ _ _ _ _ _ _ _ _ _)
      | (with_reducible exact catamaranref05_Great.mono _ _ _ _)
      | (with_reducible exact catamaranref05_Twin.mono _ _ _)
      | (with_reducible exact catamaranref10_Plan.mono _ _ _ _ _ _ _ _ _ _ _ _ _)
      | (with_reducible exact catamaranref10_Text.mono _ _ _ _)
      | (with_reducible exact journal_Plan.mono _ _ _ _ _ _ _ _ _ _ _ _ _)
      | (with_reducible exact journal_Text.mono _ _ _ _)
      | (with_reducible exact LeO.refl _)
      | (with_reducible exact LeO.none _)
      | (with_reducible refine LeO.ite ?_ ?_)
      | (with_reducible refine LeO.bind ?_ (fun _ => ?_))
      | exact ih0 _ _ _ _ _ _ _ _ _ _ _ _ _
      | exact ih1 _ _ _ _ _ _ _ _ _
      | exact ih2 _ _ _ _ _ _ _ _ _ _
      | exact catamaranref05_Great.mono _ _ _ _
      | exact catamaranref05_Twin.mono _ _ _
      | exact catamaranref10_Plan.mono _ _ _ _ _ _ _ _ _ _ _ _ _
      | exact catamaranref10_Text.mono _ _ _ _
      | exact journal_Plan.mono _ _ _ _ _ _ _ _ _ _ _ _ _
      | exact journal_Text.mono _ _ _ _
      | exact LeO.none _
      | refine LeO.ite ?_ ?_
      | refine LeO.bind ?_ (fun _ => ?_)
    · intro y0 y1 y2 y3 y4 y5 y6 y7 y8
      unfold catamaranlaw10_JournalPlans.j1
      repeat' first
      | (with_reducible exact ih0 _ _ _ _ _ _ _ _ _ _ _ _ _)
      | (with_reducible exact ih1 _ _ _ _ _ _ _ _ _)
      | (with_reducible exact ih2 _ _ _ _ _ _ _ _ _ _)
      | (with_reducible exact catamaranref05_Great.mono _ _ _ _)
      | (with_reducible exact catamaranref05_Twin.mono _ _ _)
      | (with_reducible exact catamaranref10_Plan.mono _ _ _ _ _ _ _ _ _ _ _ _ _)
      | (with_reducible exact catamaranref10_Text.mono _ _ _ _)
      | (with_reducible exact journal_Plan.mono _ _ _ _ _ _ _ _ _ _ _ _ _)
      | (with_reducible exact journal_Text.mono _ _ _ _)
      | (with_reducible exact LeO.refl _)
      | (with_reducible exact LeO.none _)
      | (with_reducible refine LeO.ite ?_ ?_)
      | (with_reducible refine LeO.bind ?_ (fun _ => ?_))
      | exact ih0 _ _ _ _ _ _ _ _ _ _ _ _ _
      | exact ih1 _ _ _ _ _ _ _ _ _
      | exact ih2 _ _ _ _ _ _ _ _ _ _
      | exact catamaranref05_Great.mono _ _ _ _
      | exact catamaranref05_Twin.mono _ _ _
      | exact catamaranref10_Plan.mono _ _ _ _ _ _ _ _ _ _ _ _ _
      | exact catamaranref10_Text.mono _ _ _ _
      | exact journal_Plan.mono _ _ _ _ _ _ _ _ _ _ _ _ _
      | exact journal_Text.mono _ _ _ _
      | exact LeO.none _
      | refine LeO.ite ?_ ?_
      | refine LeO.bind ?_ (fun _ => ?_)
    · intro y0 y1 y2 y3 y4 y5 y6 y7 y8 y9
      unfold catamaranlaw10_JournalPlans.l0
      repeat' first
      | (with_reducible exact ih0 _ _ _ _ _ _ _ _ _ _ _ _ _)
      | (with_reducible exact ih1 _ _ _ _ _ _ _ _ _)
      | (with_reducible exact ih2 _ _ _ _ _ _ _ _ _ _)
      | (with_reducible exact catamaranref05_Great.mono _ _ _ _)
      | (with_reducible exact catamaranref05_Twin.mono _ _ _)
      | (with_reducible exact catamaranref10_Plan.mono _ _ _ _ _ _ _ _ _ _ _ _ _)
      | (with_reducible exact catamaranref10_Text.mono _ _ _ _)
      | (with_reducible exact journal_Plan.mono _ _ _ _ _ _ _ _ _ _ _ _ _)
      | (with_reducible exact journal_Text.mono _ _ _ _)
      | (with_reducible exact LeO.refl _)
      | (with_reducible exact LeO.none _)
      | (with_reducible refine LeO.ite ?_ ?_)
      | (with_reducible refine LeO.bind ?_ (fun _ => ?_))
      | exact ih0 _ _ _ _ _ _ _ _ _ _ _ _ _
      | exact ih1 _ _ _ _ _ _ _ _ _
      | exact ih2 _ _ _ _ _ _ _ _ _ _
      | exact catamaranref05_Great.mono _ _ _ _
      | exact catamaranref05_Twin.mono _ _ _
      | exact catamaranref10_Plan.mono _ _ _ _ _ _ _ _ _ _ _ _ _
      | exact catamaranref10_Text.mono _ _ _ _
      | exact journal_Plan.mono _ _ _ _ _ _ _ _ _ _ _ _ _
      | exact journal_Text.mono _ _ _ _
      | exact LeO.none _
      | refine LeO.ite ?_ ?_
      | refine LeO.bind ?_ (fun _ => ?_)
theorem catamaranlaw10_JournalPlans.mono : ∀ a0 a1 a2 a3 a4 a5 a6 a7 a8 a9 a10 a11 k, LeO (catamaranlaw10_JournalPlans.f k a0 a1 a2 a3 a4 a5 a6 a7 a8 a9 a10 a11) (catamaranlaw10_JournalPlans.f (k + 1) a0 a1 a2 a3 a4 a5 a6 a7 a8 a9 a10 a11) := by
  intro a0 a1 a2 a3 a4 a5 a6 a7 a8 a9 a10 a11 k
  obtain ⟨ih0, ih1, ih2⟩ := catamaranlaw10_JournalPlans.mono_l k
  unfold catamaranlaw10_JournalPlans.f
  repeat' first
      | (with_reducible exact ih0 _ _ _ _ _ _ _ _ _ _ _ _ _)
      | (with_reducible exact ih1 _ _ _ _ _ _ _ _ _)
      | (with_reducible exact ih2 _ _ _ _ _ _ _ _ _ _)
      | (with_reducible exact catamaranref05_Great.mono _ _ _ _)
      | (with_reducible exact catamaranref05_Twin.mono _ _ _)
      | (with_reducible exact catamaranref10_Plan.mono _ _ _ _ _ _ _ _ _ _ _ _ _)
      | (with_reducible exact catamaranref10_Text.mono _ _ _ _)
      | (with_reducible exact journal_Plan.mono _ _ _ _ _ _ _ _ _ _ _ _ _)
      | (with_reducible exact journal_Text.mono _ _ _ _)
      | (with_reducible exact LeO.refl _)
      | (with_reducible exact LeO.none _)
      | (with_reducible refine LeO.ite ?_ ?_)
      | (with_reducible refine LeO.bind ?_ (fun _ => ?_))
      | exact ih0 _ _ _ _ _ _ _ _ _ _ _ _ _
      | exact ih1 _ _ _ _ _ _ _ _ _
      | exact ih2 _ _ _ _ _ _ _ _ _ _
      | exact catamaranref05_Great.mono _ _ _ _
      | exact catamaranref05_Twin.mono _ _ _
      | exact catamaranref10_Plan.mono _ _ _ _ _ _ _ _ _ _ _ _ _
      | exact catamaranref10_Text.mono _ _ _ _
      | exact journal_Plan.mono _ _ _ _ _ _ _ _ _ _ _ _ _
      | exact journal_Text.mono _ _ _ _
      | exact LeO.none _
      | refine LeO.ite ?_ ?_
      | refine LeO.bind ?_ (fun _ => ?_)
def catamaranlaw10_JournalPlans.T12 : Bool × List (List Nat × List Nat) := (true, [([], []), ([0], [0]), ([], []), ([], []), ([3], [3]), ([], []), ([4, 5], [4, 5]), ([6], [6]), ([7], [7]), ([1, 2, 0, 1, 2, 3, 4, 5, 6, 7, 8], [1, 2]), ([9, 8, 0, 1, 2, 3, 4, 5, 6, 7, 8], [8, 9])])
def catamaranlaw10_JournalPlans.B12 : List Nat := [0, 1, 0, 0, 8, 0, 56, 120, 248, 511, 1023]
theorem catamaranlaw10_JournalPlans.tab12 : rtab .any (opsOf Try.f4 12) = catamaranlaw10_JournalPlans.T12 := by kernel_rfl
theorem catamaranlaw10_JournalPlans.bits12 : waitsOk catamaranlaw10_JournalPlans.T12.2 catamaranlaw10_JournalPlans.B12 = true := by kernel_rfl
set_option maxHeartbeats 8000000 in
set_option maxRecDepth 100000 in
theorem catamaranlaw10_JournalPlans.calls (k : Nat) (a0_0 : Int) (a0_1 : Int) (a0_2 : Int) (a0_3 : Int) (a0_4 : Int) (a0_5 : Int) (A1_0 : Option Addr) (c1_0 : Nat) (l1_0 : List (S39)) (A1_1 : Option Addr) (c1_1 : Nat) (l1_1 : List (S49)) (a2 : Int) (a3 : Int) (a4 : Int) (A5 : Option Addr) (c5 : Nat) (l5 : List Int) (r : Bool) (w : World) (hr1_0 : Kd.C k39 w A1_0 l1_0.length l1_0) (hc1_0 : l1_0.length ≤ c1_0) (hr1_1 : Kd.C k49 w A1_1 l1_1.length l1_1) (hc1_1 : l1_1.length ≤ c1_1) (hr5 : Kd.C (Kd.int .u8) w A5 l5.length l5) (hc5 : l5.length ≤ c5) (h : catamaranlaw10_JournalPlans.f k a0_0 a0_1 a0_2 a0_3 a0_4 a0_5 l1_0 l1_1 a2 a3 a4 l5 = some r) :
    Calls Try.prog 4 #[.agg #[.int .i64 a0_0, .int .i64 a0_1, .int .i64 a0_2, .int .i64 a0_3, .int .i64 a0_4, .int .i64 a0_5], .agg #[.slice A1_0 l1_0.length c1_0, .slice A1_1 l1_1.length c1_1], .int .i64 a2, .int .u64 a3, .int .i64 a4, .slice A5 l5.length c5] w fun e w' => e = .returned (.bool r) ∧ Below w.heap.size w w' := by
  have hu44 := Try.underlying44
  have hu25 := Try.underlying25
  have hu49 := Try.underlying49
  have HR1_0 := Aside0.mk hr1_0
  have HC1_0 := Aside0.mk hc1_0
  clear hr1_0 hc1_0
  have HR1_1 := Aside0.mk hr1_1
  have HC1_1 := Aside0.mk hc1_1
  clear hr1_1 hc1_1
  have HR5 := Aside0.mk hr5
  have HC5 := Aside0.mk hc5
  clear hr5 hc5
  have HB := Aside0.mk (Below.refl w.heap.size w)
  have H : ((catamaranref05_Great.f k l1_0 l1_1 300).bind fun t366 => (if t366 = true then (catamaranlaw10_JournalPlans.j0 k a2 a3 a4 l5 true a0_0 a0_1 a0_2 a0_3 a0_4 a0_5 l1_0 l1_1) else (catamaranlaw10_JournalPlans.j0 k a2 a3 a4 l5 (decide ((l5.length : Int) > 100)) a0_0 a0_1 a0_2 a0_3 a0_4 a0_5 l1_0 l1_1))) = some r := h
  clear h
  have HC7 := Aside0.mk H
  clear H
  go_enter Try.func4, Try.ntmps4
  go_upto_region 1 with (first | ((with_reducible refine gate_dst (N := 6) rfl ?_); refine box_event ?hg (N := 6) ?hd (cs := #[.int .i64 a0_0, .int .i64 a0_1, .int .i64 a0_2, .int .i64 a0_3, .int .i64 a0_4, .int .i64 a0_5]) (t := 44) ?hr ?_; (case hd => rfl); (case hg => rfl); (case hr => first | (go_simp; done) | (go_simp; rfl)); intro gb364 hg w8 hbox hb; have n0_ := Aside0.mk (below_step (by repeat (first | (with_reducible first | exact HB.out | apply below_alloc | apply pw_below_drewN | apply below_drew1) | exact HB.out)) hb); have n1_ := Aside0.mk (hbox); have n2_ := Aside0.mk ((by rw [hg]; exact (below_size (by repeat (first | (with_reducible first | exact HB.out | apply below_alloc | apply pw_below_drewN | apply below_drew1) | exact HB.out))) : w.heap.size ≤ gb364)); have n3_ := Aside0.mk ((by rw [hg]; exact (below_size (by repeat (first | (with_reducible first | exact HB.out | apply below_alloc | apply pw_below_drewN | apply below_drew1) | exact HB.out))) : w.heap.size ≤ gb364)); clear HB; have HB := n0_; have BK364 := n1_; have GW364 := n2_; have GE364 := n3_; clear n0_ n1_ n2_ n3_; clear hb hbox hg) | ((with_reducible refine gate_dst (N := 7) rfl ?_); refine box_event ?hg (N := 7) ?hd (cs := #[.slice A1_0 l1_0.length c1_0, .slice A1_1 l1_1.length c1_1]) (t := 25) ?hr ?_; (case hd => rfl); (case hg => rfl); (case hr => first | (go_simp; done) | (go_simp; rfl)); intro gb365 hg w9 hbox hb; have n0_ := Aside0.mk (blk_below (g := gb364) (o := .cells #[.int .i64 a0_0, .int .i64 a0_1, .int .i64 a0_2, .int .i64 a0_3, .int .i64 a0_4, .int .i64 a0_5] 44 (0, 0)) (by (with_reducible repeat (first | refine blk_drewN ?_ _ | refine blk_drew ?_ | refine blk_alloc ?_ _)); exact BK364.out) hb); have n1_ := Aside0.mk (below_step (by repeat (first | (with_reducible first | exact HB.out | apply below_alloc | apply pw_below_drewN | apply below_drew1 | refine below_set ?_ GE364.out) | exact HB.out)) hb); have n2_ := Aside0.mk (hbox); have n3_ := Aside0.mk ((by rw [hg]; exact (below_size (by repeat (first | (with_reducible first | exact HB.out | apply below_alloc | apply pw_below_drewN | apply below_drew1 | refine below_set ?_ GE364.out) | exact HB.out))) : w.heap.size ≤ gb365)); have n4_ := Aside0.mk ((by rw [hg]; exact (below_size (by repeat (first | (with_reducible first | exact HB.out | apply below_alloc | apply pw_below_drewN | apply below_drew1 | refine below_set ?_ GE364.out) | exact HB.out))) : w.heap.size ≤ gb365)); have n5_ := Aside0.mk ((by rw [hg]; exact Nat.ne_of_lt (blk_lt (g := gb364) (o := .cells #[.int .i64 a0_0, .int .i64 a0_1, .int .i64 a0_2, .int .i64 a0_3, .int .i64 a0_4, .int .i64 a0_5] 44 (0, 0)) (by (with_reducible repeat (first | refine blk_drewN ?_ _ | refine blk_drew ?_ | refine blk_alloc ?_ _)); exact BK364.out)) : gb364 ≠ gb365)); have n6_ := Aside0.mk ((by rw [hg]; exact Nat.ne_of_gt (blk_lt (g := gb364) (o := .cells #[.int .i64 a0_0, .int .i64 a0_1, .int .i64 a0_2, .int .i64 a0_3, .int .i64 a0_4, .int .i64 a0_5] 44 (0, 0)) (by (with_reducible repeat (first | refine blk_drewN ?_ _ | refine blk_drew ?_ | refine blk_alloc ?_ _)); exact BK364.out)) : gb365 ≠ gb364)); clear BK364; clear HB; have BK364 := n0_; have HB := n1_; have BK365 := n2_; have GW365 := n3_; have GE365 := n4_; have NB364_365 := n5_; have NB365_364 := n6_; clear n0_ n1_ n2_ n3_ n4_ n5_ n6_; clear hb hbox hg))
  (try simp only [Act.put, List.setIfInBounds_toArray, List.set_cons_zero, List.set_cons_succ])
  go_cut [31] (fun v31 wc => ∃ (kq : Nat) (x31_6 : Bool), v31 = .bool x31_6 ∧ Aside0 (catamaranlaw10_JournalPlans.j0 kq a2 a3 a4 l5 x31_6 a0_0 a0_1 a0_2 a0_3 a0_4 a0_5 l1_0 l1_1 = some r) ∧ Aside0 (kq ≤ k) ∧ Aside0 (wc.heap[gb364]? = some (.cells #[.int .i64 a0_0, .int .i64 a0_1, .int .i64 a0_2, .int .i64 a0_3, .int .i64 a0_4, .int .i64 a0_5] 44 (0, 0))) ∧ Aside0 (wc.heap[gb365]? = some (.cells #[(.slice A1_0 l1_0.length c1_0), (.slice A1_1 l1_1.length c1_1)] 25 (0, 0))) ∧ Aside0 (Below w.heap.size w wc))
  case first =>
    have H := HC7.out
    clear HC7
    replace H := Option.bind_eq_some_iff.mp H
    obtain ⟨t366, A100, H⟩ := H
    replace H : (if t366 = true then (catamaranlaw10_JournalPlans.j0 k a2 a3 a4 l5 true a0_0 a0_1 a0_2 a0_3 a0_4 a0_5 l1_0 l1_1) else (catamaranlaw10_JournalPlans.j0 k a2 a3 a4 l5 (decide ((l5.length : Int) > 100)) a0_0 a0_1 a0_2 a0_3 a0_4 a0_5 l1_0 l1_1)) = some r := H
    have A10 := Aside0.mk A100
    clear A100
    by_cases c11 : t366 = true
    · subst c11
      have H1 : (catamaranlaw10_JournalPlans.j0 k a2 a3 a4 l5 true a0_0 a0_1 a0_2 a0_3 a0_4 a0_5 l1_0 l1_1) = some r := by rw [if_pos rfl] at H; exact H
      clear H
      have H := H1
      clear H1
      have H' := Aside0.mk H
      clear H
      have hnb12 := NB365_364.out
      have hnc12 := NB364_365.out
      have hcz13_0 : w9.cell? ⟨gb365, 0, none⟩ = some (.slice A1_0 l1_0.length c1_0) := (blk_cell BK365.out 0).trans rfl
      have hcz13_1 : w9.cell? ⟨gb365, 1, none⟩ = some (.slice A1_1 l1_1.length c1_1) := (blk_cell BK365.out 1).trans rfl
      have hfz13_0 := blk_frozen BK365.out 0
      have hfz13_1 := blk_frozen BK365.out 1
      go_wp2_with (first | ((with_reducible refine gate_callee (f := 24) rfl ?_); refine goesL_ (some 26) rfl rfl Try.func24 (by kernel_rfl) rfl #[.agg #[.slice A1_0 l1_0.length c1_0, .slice A1_1 l1_1.length c1_1], .int .i64 300] rfl (by (try simp only [List.map_toArray, List.map_cons, List.map_nil]); first | done | rfl | (simp only [List.length_drop, List.length_take]; rfl)) ?_; (with_reducible refine (catamaranref05_Great.calls k _ _ l1_0 _ _ l1_1 300 true _ ?side1 ?side2 ?side3 ?side4 A10.out).mono ?_); (case side1 => repeat (first | exact (Kd.C_below HR1_0.out HB.out) | (with_reducible refine Kd.C_alloc ?_ _) | (with_reducible refine Kd.C_drewN ?_ _) | (with_reducible refine Kd.C_drew ?_))); (case side2 => exact HC1_0.out); (case side3 => repeat (first | exact (Kd.C_below HR1_1.out HB.out) | (with_reducible refine Kd.C_alloc ?_ _) | (with_reducible refine Kd.C_drewN ?_ _) | (with_reducible refine Kd.C_drew ?_))); (case side4 => exact HC1_1.out); rintro e w14 ⟨rfl, hb⟩; refine ⟨_, rfl, ?_⟩; have n0_ := Aside0.mk (blk_below (g := gb364) (o := .cells #[.int .i64 a0_0, .int .i64 a0_1, .int .i64 a0_2, .int .i64 a0_3, .int .i64 a0_4, .int .i64 a0_5] 44 (0, 0)) (by (with_reducible repeat (first | refine blk_drewN ?_ _ | refine blk_drew ?_ | refine blk_alloc ?_ _)); exact BK364.out) hb); have n1_ := Aside0.mk (blk_below (g := gb365) (o := .cells #[.slice A1_0 l1_0.length c1_0, .slice A1_1 l1_1.length c1_1] 25 (0, 0)) (by (with_reducible repeat (first | refine blk_drewN ?_ _ | refine blk_drew ?_ | refine blk_alloc ?_ _)); exact BK365.out) hb); have n2_ := Aside0.mk (below_step (by repeat (first | (with_reducible first | exact HB.out | apply below_alloc | apply pw_below_drewN | apply below_drew1 | refine below_set ?_ GE364.out | refine below_set ?_ GE365.out) | exact HB.out)) hb); clear BK364; clear BK365; clear HB; have BK364 := n0_; have BK365 := n1_; have HB := n2_; clear n0_ n1_ n2_; (try clear hb); (try clear hb2); (try clear hk); (try clear hi)))
      go_meet
      case rel => exact ⟨_, (true), (by first | rfl | (simp; done) | (simp [*]; done)), H', ⟨by first | omega | exact Nat.le_refl _⟩, ⟨by (with_reducible repeat (first | refine blk_drewN ?_ _ | refine blk_drew ?_ | refine blk_alloc ?_ _)); exact BK364.out⟩, ⟨by (with_reducible repeat (first | refine blk_drewN ?_ _ | refine blk_drew ?_ | refine blk_alloc ?_ _)); exact BK365.out⟩, ⟨by repeat (first | (with_reducible first | exact HB.out | apply below_alloc | apply pw_below_drewN | apply below_drew1 | refine below_set ?_ GE364.out | refine below_set ?_ GE365.out) | exact HB.out)⟩⟩
    · replace c11 := Bool.eq_false_iff.mpr c11
      subst c11
      have H1 : (catamaranlaw10_JournalPlans.j0 k a2 a3 a4 l5 (decide ((l5.length : Int) > 100)) a0_0 a0_1 a0_2 a0_3 a0_4 a0_5 l1_0 l1_1) = some r := by rw [if_neg (show ¬ (false = true) by decide)] at H; exact H
      clear H
      have H := H1
      clear H1
      have H' := Aside0.mk H
      clear H
      have hnb15 := NB365_364.out
      have hnc15 := NB364_365.out
      have hcz16_0 : w9.cell? ⟨gb365, 0, none⟩ = some (.slice A1_0 l1_0.length c1_0) := (blk_cell BK365.out 0).trans rfl
      have hcz16_1 : w9.cell? ⟨gb365, 1, none⟩ = some (.slice A1_1 l1_1.length c1_1) := (blk_cell BK365.out 1).trans rfl
      have hfz16_0 := blk_frozen BK365.out 0
      have hfz16_1 := blk_frozen BK365.out 1
      go_wp2_with (first | ((with_reducible refine gate_callee (f := 24) rfl ?_); refine goesL_ (some 26) rfl rfl Try.func24 (by kernel_rfl) rfl #[.agg #[.slice A1_0 l1_0.length c1_0, .slice A1_1 l1_1.length c1_1], .int .i64 300] rfl (by (try simp only [List.map_toArray, List.map_cons, List.map_nil]); first | done | rfl | (simp only [List.length_drop, List.length_take]; rfl)) ?_; (with_reducible refine (catamaranref05_Great.calls k _ _ l1_0 _ _ l1_1 300 false _ ?side1 ?side2 ?side3 ?side4 A10.out).mono ?_); (case side1 => repeat (first | exact (Kd.C_below HR1_0.out HB.out) | (with_reducible refine Kd.C_alloc ?_ _) | (with_reducible refine Kd.C_drewN ?_ _) | (with_reducible refine Kd.C_drew ?_))); (case side2 => exact HC1_0.out); (case side3 => repeat (first | exact (Kd.C_below HR1_1.out HB.out) | (with_reducible refine Kd.C_alloc ?_ _) | (with_reducible refine Kd.C_drewN ?_ _) | (with_reducible refine Kd.C_drew ?_))); (case side4 => exact HC1_1.out); rintro e w17 ⟨rfl, hb⟩; refine ⟨_, rfl, ?_⟩; have n0_ := Aside0.mk (blk_below (g := gb364) (o := .cells #[.int .i64 a0_0, .int .i64 a0_1, .int .i64 a0_2, .int .i64 a0_3, .int .i64 a0_4, .int .i64 a0_5] 44 (0, 0)) (by (with_reducible repeat (first | refine blk_drewN ?_ _ | refine blk_drew ?_ | refine blk_alloc ?_ _)); exact BK364.out) hb); have n1_ := Aside0.mk (blk_below (g := gb365) (o := .cells #[.slice A1_0 l1_0.length c1_0, .slice A1_1 l1_1.length c1_1] 25 (0, 0)) (by (with_reducible repeat (first | refine blk_drewN ?_ _ | refine blk_drew ?_ | refine blk_alloc ?_ _)); exact BK365.out) hb); have n2_ := Aside0.mk (below_step (by repeat (first | (with_reducible first | exact HB.out | apply below_alloc | apply pw_below_drewN | apply below_drew1 | refine below_set ?_ GE364.out | refine below_set ?_ GE365.out) | exact HB.out)) hb); clear BK364; clear BK365; clear HB; have BK364 := n0_; have BK365 := n1_; have HB := n2_; clear n0_ n1_ n2_; (try clear hb); (try clear hb2); (try clear hk); (try clear hi)))
      go_meet
      case rel => exact ⟨_, (decide ((l5.length : Int) > 100)), (by first | rfl | (simp; done) | (simp [*]; done)), H', ⟨by first | omega | exact Nat.le_refl _⟩, ⟨by (with_reducible repeat (first | refine blk_drewN ?_ _ | refine blk_drew ?_ | refine blk_alloc ?_ _)); exact BK364.out⟩, ⟨by (with_reducible repeat (first | refine blk_drewN ?_ _ | refine blk_drew ?_ | refine blk_alloc ?_ _)); exact BK365.out⟩, ⟨by repeat (first | (with_reducible first | exact HB.out | apply below_alloc | apply pw_below_drewN | apply below_drew1 | refine below_set ?_ GE364.out | refine below_set ?_ GE365.out) | exact HB.out)⟩⟩
  case rest =>
    clear HC7
    try clear c1
    try clear c2
    try clear p2
    try clear c4
    try clear c5
    try clear c11
    try clear c12
    try clear c15
    try clear hcz13_0
    try clear hcz13_1
    try clear hcz16_0
    try clear hcz16_1
    try clear hfz13_0
    try clear hfz13_1
    try clear hfz16_0
    try clear hfz16_1
    obtain ⟨kq, x31_6, rfl, HA, HJ6, BK364, BK365, HB⟩ := hcut
    cases kq with
    | zero => exact absurd HA.out (by simp [catamaranlaw10_JournalPlans.j0])
    | succ kj6 =>
      have H := HA.out
      clear HA
      simp only [catamaranlaw10_JournalPlans.j0] at H
      by_cases c18 : x31_6 = true
      · subst c18
        have H1 : (some true) = some r := by rw [if_pos rfl] at H; exact H
        clear H
        have H := H1
        clear H1
        obtain rfl := Option.some.inj H
        go_wp2
        go_ret
        exact ⟨by first | rfl | (simp [errW_none, errW_some] <;> rfl) | (simp [*, errW_none, errW_some] <;> rfl), by repeat (first | (with_reducible first | exact HB.out | apply below_alloc | apply pw_below_drewN | apply below_drew1 | refine below_set ?_ GE364.out | refine below_set ?_ GE365.out) | exact HB.out)⟩
      · replace c18 := Bool.eq_false_iff.mpr c18
        subst c18
        have H1 : ((catamaranref05_Twin.f kj6 l1_0 l1_1).bind fun bt367 => ((some (([] : List Int) : List Int)).bind fun y373 => (if y373.length + l5.length < 140737488355328 then ((some (y373 ++ l5 : List Int)).bind fun y376 => ((journal_Plan.f kj6 a0_0 a0_1 a0_2 a0_3 a0_4 a0_5 bt367.1 bt367.2 a2 a3 a4 y376).bind fun bt380 => ((catamaranref10_Plan.f kj6 a0_0 a0_1 a0_2 a0_3 a0_4 a0_5 l1_0 l1_1 a2 a3 a4 l5).bind fun bt386 => ((journal_Text.f kj6 a3 a4 y376).bind fun bt392 => ((catamaranref10_Text.f kj6 a3 a4 l5).bind fun bt396 => (if bt380.1 = bt386.1 then (if (strOfNums bt380.2.1).toList = (strOfNums bt386.2.1).toList then (if bt380.2.2 = bt386.2.2 then (if (strOfNums bt392.1).toList = (strOfNums bt396.1).toList then (catamaranlaw10_JournalPlans.j1 kj6 l5 y376 (bt392.2 == bt396.2) l1_0 l1_1 bt367.1 bt367.2 bt380.1 bt380.2.1) else (catamaranlaw10_JournalPlans.j1 kj6 l5 y376 false l1_0 l1_1 bt367.1 bt367.2 bt380.1 bt380.2.1)) else (catamaranlaw10_JournalPlans.j1 kj6 l5 y376 false l1_0 l1_1 bt367.1 bt367.2 bt380.1 bt380.2.1)) else (catamaranlaw10_JournalPlans.j1 kj6 l5 y376 false l1_0 l1_1 bt367.1 bt367.2 bt380.1 bt380.2.1)) else (catamaranlaw10_JournalPlans.j1 kj6 l5 y376 false l1_0 l1_1 bt367.1 bt367.2 bt380.1 bt380.2.1))))))) else (none)))) = some r := by rw [if_neg (show ¬ (false = true) by decide)] at H; exact H
        clear H
        have H := H1
        clear H1
        replace H := Option.bind_eq_some_iff.mp H
        obtain ⟨⟨t367, t370⟩, A190, H⟩ := H
        replace H : ((some (([] : List Int) : List Int)).bind fun y373 => (if y373.length + l5.length < 140737488355328 then ((some (y373 ++ l5 : List Int)).bind fun y376 => ((journal_Plan.f kj6 a0_0 a0_1 a0_2 a0_3 a0_4 a0_5 t367 t370 a2 a3 a4 y376).bind fun bt380 => ((catamaranref10_Plan.f kj6 a0_0 a0_1 a0_2 a0_3 a0_4 a0_5 l1_0 l1_1 a2 a3 a4 l5).bind fun bt386 => ((journal_Text.f kj6 a3 a4 y376).bind fun bt392 => ((catamaranref10_Text.f kj6 a3 a4 l5).bind fun bt396 => (if bt380.1 = bt386.1 then (if (strOfNums bt380.2.1).toList = (strOfNums bt386.2.1).toList then (if bt380.2.2 = bt386.2.2 then (if (strOfNums bt392.1).toList = (strOfNums bt396.1).toList then (catamaranlaw10_JournalPlans.j1 kj6 l5 y376 (bt392.2 == bt396.2) l1_0 l1_1 t367 t370 bt380.1 bt380.2.1) else (catamaranlaw10_JournalPlans.j1 kj6 l5 y376 false l1_0 l1_1 t367 t370 bt380.1 bt380.2.1)) else (catamaranlaw10_JournalPlans.j1 kj6 l5 y376 false l1_0 l1_1 t367 t370 bt380.1 bt380.2.1)) else (catamaranlaw10_JournalPlans.j1 kj6 l5 y376 false l1_0 l1_1 t367 t370 bt380.1 bt380.2.1)) else (catamaranlaw10_JournalPlans.j1 kj6 l5 y376 false l1_0 l1_1 t367 t370 bt380.1 bt380.2.1))))))) else (none))) = some r := H
        have A19 := Aside0.mk A190
        clear A190
        obtain ⟨y373, hy373⟩ : ∃ y_ : List Int, y_ = (([] : List Int)) := ⟨_, rfl⟩
        replace H : (if y373.length + l5.length < 140737488355328 then ((some (y373 ++ l5 : List Int)).bind fun y376 => ((journal_Plan.f kj6 a0_0 a0_1 a0_2 a0_3 a0_4 a0_5 t367 t370 a2 a3 a4 y376).bind fun bt380 => ((catamaranref10_Plan.f kj6 a0_0 a0_1 a0_2 a0_3 a0_4 a0_5 l1_0 l1_1 a2 a3 a4 l5).bind fun bt386 => ((journal_Text.f kj6 a3 a4 y376).bind fun bt392 => ((catamaranref10_Text.f kj6 a3 a4 l5).bind fun bt396 => (if bt380.1 = bt386.1 then (if (strOfNums bt380.2.1).toList = (strOfNums bt386.2.1).toList then (if bt380.2.2 = bt386.2.2 then (if (strOfNums bt392.1).toList = (strOfNums bt396.1).toList then (catamaranlaw10_JournalPlans.j1 kj6 l5 y376 (bt392.2 == bt396.2) l1_0 l1_1 t367 t370 bt380.1 bt380.2.1) else (catamaranlaw10_JournalPlans.j1 kj6 l5 y376 false l1_0 l1_1 t367 t370 bt380.1 bt380.2.1)) else (catamaranlaw10_JournalPlans.j1 kj6 l5 y376 false l1_0 l1_1 t367 t370 bt380.1 bt380.2.1)) else (catamaranlaw10_JournalPlans.j1 kj6 l5 y376 false l1_0 l1_1 t367 t370 bt380.1 bt380.2.1)) else (catamaranlaw10_JournalPlans.j1 kj6 l5 y376 false l1_0 l1_1 t367 t370 bt380.1 bt380.2.1))))))) else (none)) = some r := by first | (rw [hy373]; with_reducible exact H) | (have H2_ := (Option.bind_some _ _).symm.trans H; rw [hy373]; with_reducible exact H2_) | (have H2_ := (Option.bind_some _ _).symm.trans H; with_reducible exact H2_) | with_reducible exact H | (rw [hy373]; exact H) | exact H
        have Ny373 := Aside0.mk hy373
        clear hy373
        by_cases c20 : y373.length + l5.length < 140737488355328
        · rw [if_pos c20] at H
          have LMc20 := Aside0.mk c20
          clear c20
          obtain ⟨y376, hy376⟩ : ∃ y_ : List Int, y_ = (y373 ++ l5) := ⟨_, rfl⟩
          replace H : ((journal_Plan.f kj6 a0_0 a0_1 a0_2 a0_3 a0_4 a0_5 t367 t370 a2 a3 a4 y376).bind fun bt380 => ((catamaranref10_Plan.f kj6 a0_0 a0_1 a0_2 a0_3 a0_4 a0_5 l1_0 l1_1 a2 a3 a4 l5).bind fun bt386 => ((journal_Text.f kj6 a3 a4 y376).bind fun bt392 => ((catamaranref10_Text.f kj6 a3 a4 l5).bind fun bt396 => (if bt380.1 = bt386.1 then (if (strOfNums bt380.2.1).toList = (strOfNums bt386.2.1).toList then (if bt380.2.2 = bt386.2.2 then (if (strOfNums bt392.1).toList = (strOfNums bt396.1).toList then (catamaranlaw10_JournalPlans.j1 kj6 l5 y376 (bt392.2 == bt396.2) l1_0 l1_1 t367 t370 bt380.1 bt380.2.1) else (catamaranlaw10_JournalPlans.j1 kj6 l5 y376 false l1_0 l1_1 t367 t370 bt380.1 bt380.2.1)) else (catamaranlaw10_JournalPlans.j1 kj6 l5 y376 false l1_0 l1_1 t367 t370 bt380.1 bt380.2.1)) else (catamaranlaw10_JournalPlans.j1 kj6 l5 y376 false l1_0 l1_1 t367 t370 bt380.1 bt380.2.1)) else (catamaranlaw10_JournalPlans.j1 kj6 l5 y376 false l1_0 l1_1 t367 t370 bt380.1 bt380.2.1)))))) = some r := by first | (rw [hy376]; with_reducible exact H) | (have H2_ := (Option.bind_some _ _).symm.trans H; rw [hy376]; with_reducible exact H2_) | (have H2_ := (Option.bind_some _ _).symm.trans H; with_reducible exact H2_) | with_reducible exact H | (rw [hy376]; exact H) | exact H
          have Ny376 := Aside0.mk hy376
          clear hy376
          replace H := Option.bind_eq_some_iff.mp H
          obtain ⟨⟨t380, t381, t384⟩, A210, H⟩ := H
          replace H : ((catamaranref10_Plan.f kj6 a0_0 a0_1 a0_2 a0_3 a0_4 a0_5 l1_0 l1_1 a2 a3 a4 l5).bind fun bt386 => ((journal_Text.f kj6 a3 a4 y376).bind fun bt392 => ((catamaranref10_Text.f kj6 a3 a4 l5).bind fun bt396 => (if t380 = bt386.1 then (if (strOfNums t381).toList = (strOfNums bt386.2.1).toList then (if t384 = bt386.2.2 then (if (strOfNums bt392.1).toList = (strOfNums bt396.1).toList then (catamaranlaw10_JournalPlans.j1 kj6 l5 y376 (bt392.2 == bt396.2) l1_0 l1_1 t367 t370 t380 t381) else (catamaranlaw10_JournalPlans.j1 kj6 l5 y376 false l1_0 l1_1 t367 t370 t380 t381)) else (catamaranlaw10_JournalPlans.j1 kj6 l5 y376 false l1_0 l1_1 t367 t370 t380 t381)) else (catamaranlaw10_JournalPlans.j1 kj6 l5 y376 false l1_0 l1_1 t367 t370 t380 t381)) else (catamaranlaw10_JournalPlans.j1 kj6 l5 y376 false l1_0 l1_1 t367 t370 t380 t381))))) = some r := H
          have A21 := Aside0.mk A210
          clear A210
          replace H := Option.bind_eq_some_iff.mp H
          obtain ⟨⟨t386, t387, t390⟩, A220, H⟩ := H
          replace H : ((journal_Text.f kj6 a3 a4 y376).bind fun bt392 => ((catamaranref10_Text.f kj6 a3 a4 l5).bind fun bt396 => (if t380 = t386 then (if (strOfNums t381).toList = (strOfNums t387).toList then (if t384 = t390 then (if (strOfNums bt392.1).toList = (strOfNums bt396.1).toList then (catamaranlaw10_JournalPlans.j1 kj6 l5 y376 (bt392.2 == bt396.2) l1_0 l1_1 t367 t370 t380 t381) else (catamaranlaw10_JournalPlans.j1 kj6 l5 y376 false l1_0 l1_1 t367 t370 t380 t381)) else (catamaranlaw10_JournalPlans.j1 kj6 l5 y376 false l1_0 l1_1 t367 t370 t380 t381)) else (catamaranlaw10_JournalPlans.j1 kj6 l5 y376 false l1_0 l1_1 t367 t370 t380 t381)) else (catamaranlaw10_JournalPlans.j1 kj6 l5 y376 false l1_0 l1_1 t367 t370 t380 t381)))) = some r := H
          have A22 := Aside0.mk A220
          clear A220
          replace H := Option.bind_eq_some_iff.mp H
          obtain ⟨⟨t392, t393⟩, A230, H⟩ := H
          replace H : ((catamaranref10_Text.f kj6 a3 a4 l5).bind fun bt396 => (if t380 = t386 then (if (strOfNums t381).toList = (strOfNums t387).toList then (if t384 = t390 then (if (strOfNums t392).toList = (strOfNums bt396.1).toList then (catamaranlaw10_JournalPlans.j1 kj6 l5 y376 (t393 == bt396.2) l1_0 l1_1 t367 t370 t380 t381) else (catamaranlaw10_JournalPlans.j1 kj6 l5 y376 false l1_0 l1_1 t367 t370 t380 t381)) else (catamaranlaw10_JournalPlans.j1 kj6 l5 y376 false l1_0 l1_1 t367 t370 t380 t381)) else (catamaranlaw10_JournalPlans.j1 kj6 l5 y376 false l1_0 l1_1 t367 t370 t380 t381)) else (catamaranlaw10_JournalPlans.j1 kj6 l5 y376 false l1_0 l1_1 t367 t370 t380 t381))) = some r := H
          have A23 := Aside0.mk A230
          clear A230
          replace H := Option.bind_eq_some_iff.mp H
          obtain ⟨⟨t396, t397⟩, A240, H⟩ := H
          replace H : (if t380 = t386 then (if (strOfNums t381).toList = (strOfNums t387).toList then (if t384 = t390 then (if (strOfNums t392).toList = (strOfNums t396).toList then (catamaranlaw10_JournalPlans.j1 kj6 l5 y376 (t393 == t397) l1_0 l1_1 t367 t370 t380 t381) else (catamaranlaw10_JournalPlans.j1 kj6 l5 y376 false l1_0 l1_1 t367 t370 t380 t381)) else (catamaranlaw10_JournalPlans.j1 kj6 l5 y376 false l1_0 l1_1 t367 t370 t380 t381)) else (catamaranlaw10_JournalPlans.j1 kj6 l5 y376 false l1_0 l1_1 t367 t370 t380 t381)) else (catamaranlaw10_JournalPlans.j1 kj6 l5 y376 false l1_0 l1_1 t367 t370 t380 t381)) = some r := H
          have A24 := Aside0.mk A240
          clear A240
          have HC25 := Aside0.mk H
          clear H
          have hnb26 := NB365_364.out
          have hnc26 := NB364_365.out
          have hcz27_0 : wc.cell? ⟨gb365, 0, none⟩ = some (.slice A1_0 l1_0.length c1_0) := (blk_cell BK365.out 0).trans rfl
          have hcz27_1 : wc.cell? ⟨gb365, 1, none⟩ = some (.slice A1_1 l1_1.length c1_1) := (blk_cell BK365.out 1).trans rfl
          have hfz27_0 := blk_frozen BK365.out 0
          have hfz27_1 := blk_frozen BK365.out 1
          go_upto_region 8 with (first | ((with_reducible refine gate_callee (f := 25) rfl ?_); refine goesL_ (some 33) rfl rfl Try.func25 (by kernel_rfl) rfl #[.agg #[.slice A1_0 l1_0.length c1_0, .slice A1_1 l1_1.length c1_1]] rfl (by (try simp only [List.map_toArray, List.map_cons, List.map_nil]); first | done | rfl | (simp only [List.length_drop, List.length_take]; rfl)) ?_; (with_reducible refine (catamaranref05_Twin.calls kj6 _ _ l1_0 _ _ l1_1 t367 t370 _ ?side1 ?side2 ?side3 ?side4 A19.out).mono ?_); (case side1 => repeat (first | exact (Kd.C_below HR1_0.out HB.out) | (with_reducible refine Kd.C_alloc ?_ _) | (with_reducible refine Kd.C_drewN ?_ _) | (with_reducible refine Kd.C_drew ?_))); (case side2 => exact HC1_0.out); (case side3 => repeat (first | exact (Kd.C_below HR1_1.out HB.out) | (with_reducible refine Kd.C_alloc ?_ _) | (with_reducible refine Kd.C_drewN ?_ _) | (with_reducible refine Kd.C_drew ?_))); (case side4 => exact HC1_1.out); rintro e w28 ⟨v368, v371, rfl, ho0, ho1, hb⟩; refine ⟨_, rfl, ?_⟩; have n0_ := Aside0.mk (Kd.S_lower ho0 (below_size (by repeat (first | (with_reducible first | exact HB.out | apply below_alloc | apply pw_below_drewN | apply below_drew1 | refine below_set ?_ GE364.out | refine below_set ?_ GE365.out) | exact HB.out)))); have n1_ := Aside0.mk (Kd.S_lower ho1 (below_size (by repeat (first | (with_reducible first | exact HB.out | apply below_alloc | apply pw_below_drewN | apply below_drew1 | refine below_set ?_ GE364.out | refine below_set ?_ GE365.out) | exact HB.out)))); have n2_ := Aside0.mk (blk_below (g := gb364) (o := .cells #[.int .i64 a0_0, .int .i64 a0_1, .int .i64 a0_2, .int .i64 a0_3, .int .i64 a0_4, .int .i64 a0_5] 44 (0, 0)) (by (with_reducible repeat (first | refine blk_drewN ?_ _ | refine blk_drew ?_ | refine blk_alloc ?_ _)); exact BK364.out) hb); have n3_ := Aside0.mk (blk_below (g := gb365) (o := .cells #[.slice A1_0 l1_0.length c1_0, .slice A1_1 l1_1.length c1_1] 25 (0, 0)) (by (with_reducible repeat (first | refine blk_drewN ?_ _ | refine blk_drew ?_ | refine blk_alloc ?_ _)); exact BK365.out) hb); have n4_ := Aside0.mk (below_step (by repeat (first | (with_reducible first | exact HB.out | apply below_alloc | apply pw_below_drewN | apply below_drew1 | refine below_set ?_ GE364.out | refine below_set ?_ GE365.out) | exact HB.out)) hb); clear BK364; clear BK365; clear HB; have HO369 := n0_; have HO372 := n1_; have BK364 := n2_; have BK365 := n3_; have HB := n4_; clear n0_ n1_ n2_ n3_ n4_; (try clear hb); (try clear hb2); (try clear hk); (try clear hi); (try clear ho0); (try clear ho1)) | ((with_reducible refine gate_dst (N := 34) rfl ?_); refine Kd.R_lit (Kd.int .u8) _ 5 ?hg (N := 34) ?hd (xs := ([] : List Int)) (inner := []) (ok := fun _ => True) (okp := fun _ => True) ?hr ?hp (fun _ hk => hk) trivial (Below.refl _ _) (Nat.le_refl _) (by simp) ?_; (case hd => rfl); (case hg => rfl); (case hr => first | (go_simp; done) | (go_simp; rfl)); (case hp => exact (Reps.none _ _)); intro v374 w29 ho30 hb hg_ hnew_; clear hg_ hnew_; (first | rw [← Ny373.out] at ho30 | (simp only [Int.reduceToNat] at ho30; rw [← Ny373.out] at ho30)); have n0_ := Aside0.mk (Kd.S_elder' (by (with_reducible repeat (first | apply Kd.S_alloc | apply Kd.S_drewN | apply Kd.S_drew)); exact HO369.out) (Kd.R_base ho30) hb); have n1_ := Aside0.mk (Kd.S_elder' (by (with_reducible repeat (first | apply Kd.S_alloc | apply Kd.S_drewN | apply Kd.S_drew)); exact HO372.out) (Kd.R_base ho30) hb); have n2_ := Aside0.mk (Kd.R_lower ho30 (below_size (by repeat (first | (with_reducible first | exact HB.out | apply below_alloc | apply pw_below_drewN | apply below_drew1 | refine below_set ?_ GE364.out | refine below_set ?_ GE365.out) | exact HB.out)))); have n3_ := Aside0.mk (blk_below (g := gb364) (o := .cells #[.int .i64 a0_0, .int .i64 a0_1, .int .i64 a0_2, .int .i64 a0_3, .int .i64 a0_4, .int .i64 a0_5] 44 (0, 0)) (by (with_reducible repeat (first | refine blk_drewN ?_ _ | refine blk_drew ?_ | refine blk_alloc ?_ _)); exact BK364.out) hb); have n4_ := Aside0.mk (blk_below (g := gb365) (o := .cells #[.slice A1_0 l1_0.length c1_0, .slice A1_1 l1_1.length c1_1] 25 (0, 0)) (by (with_reducible repeat (first | refine blk_drewN ?_ _ | refine blk_drew ?_ | refine blk_alloc ?_ _)); exact BK365.out) hb); have n5_ := Aside0.mk (below_step (by repeat (first | (with_reducible first | exact HB.out | apply below_alloc | apply pw_below_drewN | apply below_drew1 | refine below_set ?_ GE364.out | refine below_set ?_ GE365.out) | exact HB.out)) hb); clear HO369; clear HO372; clear BK364; clear BK365; clear HB; have HO369 := n0_; have HO372 := n1_; have HO375 := n2_; have BK364 := n3_; have BK365 := n4_; have HB := n5_; clear n0_ n1_ n2_ n3_ n4_ n5_; clear hb ho30) | ((with_reducible refine gate_builtin (b := .append) (xs := #[.tmp 34, .tmp 35]) rfl ?_); at_builtin; refine Kd.R_append_rows (Kd.int .u8) (w0 := w) w.heap.size rfl (.tmp 34) (.tmp 35) 31 5 (.int .u8 0) 1 rfl Try.underlying31 info5 rfl (by decide) (by omega) v374 y373 l5 _ _ _ (fun _ => True) (fun _ => False) rfl rfl ?aO ?aR (fun _ _ h => h) (fun _ h => h.elim) ?aF ?aB ?aS ?aL ?_; (case aR => repeat (first | exact (Kd.C_below HR5.out HB.out) | (with_reducible refine Kd.C_alloc ?_ _) | (with_reducible refine Kd.C_drewN ?_ _) | (with_reducible refine Kd.C_drew ?_))); (case aB => exact (by repeat (first | (with_reducible first | exact HB.out | apply below_alloc | apply pw_below_drewN | apply below_drew1 | refine below_set ?_ GE364.out | refine below_set ?_ GE365.out) | exact HB.out))); (case aF => exact (fun _ _ => trivial)); (case aO => exact (by (with_reducible repeat (first | apply Kd.R_alloc | apply Kd.R_drewN | apply Kd.R_drew)); exact HO375.out)); (case aS => exact (below_size (by repeat (first | (with_reducible first | exact HB.out | apply below_alloc | apply pw_below_drewN | apply below_drew1 | refine below_set ?_ GE364.out | refine below_set ?_ GE365.out) | exact HB.out)))); (case aL => have := LMc20.out; omega); intro v377 w31 ho hb hg hat; rw [← Ny376.out] at ho; have n0_ := Aside0.mk (blk_grown (g := gb364) (o := .cells #[.int .i64 a0_0, .int .i64 a0_1, .int .i64 a0_2, .int .i64 a0_3, .int .i64 a0_4, .int .i64 a0_5] 44 (0, 0)) (by (with_reducible repeat (first | refine blk_drewN ?_ _ | refine blk_drew ?_ | refine blk_alloc ?_ _)); exact BK364.out) hg (Kd.R_ne HO375.out BK364.out (by decide))); have n1_ := Aside0.mk (blk_grown (g := gb365) (o := .cells #[.slice A1_0 l1_0.length c1_0, .slice A1_1 l1_1.length c1_1] 25 (0, 0)) (by (with_reducible repeat (first | refine blk_drewN ?_ _ | refine blk_drew ?_ | refine blk_alloc ?_ _)); exact BK365.out) hg (Kd.R_ne HO375.out BK365.out (by decide))); have n2_ := Aside0.mk (Kd.S_after (ok := (fun _ => True)) (by (with_reducible repeat (first | apply Kd.S_alloc | apply Kd.S_drewN | apply Kd.S_drew)); exact HO369.out) hg hat); have n3_ := Aside0.mk (Kd.S_after (ok := (fun _ => True)) (by (with_reducible repeat (first | apply Kd.S_alloc | apply Kd.S_drewN | apply Kd.S_drew)); exact HO372.out) hg hat); have n4_ := Aside0.mk (hb); have n5_ := Aside0.mk (ho); clear BK364; clear BK365; clear HO369; clear HO372; clear HB; clear HO375; have BK364 := n0_; have BK365 := n1_; have HO369 := n2_; have HO372 := n3_; have HB := n4_; have HO378 := n5_; clear n0_ n1_ n2_ n3_ n4_ n5_; clear ho hb hg hat) | ((with_reducible refine gate_dst (N := 13) rfl ?_); refine box_event ?hg (N := 13) ?hd (cs := #[.slice none 0 0, .slice none 0 0]) (t := 25) ?hr ?_; (case hd => rfl); (case hg => rfl); (case hr => first | (go_simp; done) | (go_simp; rfl)); intro gb379 hg w32 hbox hb; have n0_ := Aside0.mk (Kd.S_below (by (with_reducible repeat (first | apply Kd.S_alloc | apply Kd.S_drewN | apply Kd.S_drew)); exact HO369.out) hb); have n1_ := Aside0.mk (Kd.S_below (by (with_reducible repeat (first | apply Kd.S_alloc | apply Kd.S_drewN | apply Kd.S_drew)); exact HO372.out) hb); have n2_ := Aside0.mk (Kd.R_below (by (with_reducible repeat (first | apply Kd.R_alloc | apply Kd.R_drewN | apply Kd.R_drew)); exact HO378.out) hb); have n3_ := Aside0.mk (blk_below (g := gb364) (o := .cells #[.int .i64 a0_0, .int .i64 a0_1, .int .i64 a0_2, .int .i64 a0_3, .int .i64 a0_4, .int .i64 a0_5] 44 (0, 0)) (by (with_reducible repeat (first | refine blk_drewN ?_ _ | refine blk_drew ?_ | refine blk_alloc ?_ _)); exact BK364.out) hb); have n4_ := Aside0.mk (blk_below (g := gb365) (o := .cells #[.slice A1_0 l1_0.length c1_0, .slice A1_1 l1_1.length c1_1] 25 (0, 0)) (by (with_reducible repeat (first | refine blk_drewN ?_ _ | refine blk_drew ?_ | refine blk_alloc ?_ _)); exact BK365.out) hb); have n5_ := Aside0.mk (below_step (by repeat (first | (with_reducible first | exact HB.out | apply below_alloc | apply pw_below_drewN | apply below_drew1 | refine below_set ?_ GE364.out | refine below_set ?_ GE365.out) | exact HB.out)) hb); have n6_ := Aside0.mk (hbox); have n7_ := Aside0.mk ((by rw [hg]; exact (below_size (by repeat (first | (with_reducible first | exact HB.out | apply below_alloc | apply pw_below_drewN | apply below_drew1 | refine below_set ?_ GE364.out | refine below_set ?_ GE365.out) | exact HB.out))) : w.heap.size ≤ gb379)); have n8_ := Aside0.mk ((by rw [hg]; exact (below_size (by repeat (first | (with_reducible first | exact HB.out | apply below_alloc | apply pw_below_drewN | apply below_drew1 | refine below_set ?_ GE364.out | refine below_set ?_ GE365.out) | exact HB.out))) : w.heap.size ≤ gb379)); have n9_ := Aside0.mk ((by rw [hg]; exact Nat.ne_of_lt (blk_lt (g := gb364) (o := .cells #[.int .i64 a0_0, .int .i64 a0_1, .int .i64 a0_2, .int .i64 a0_3, .int .i64 a0_4, .int .i64 a0_5] 44 (0, 0)) (by (with_reducible repeat (first | refine blk_drewN ?_ _ | refine blk_drew ?_ | refine blk_alloc ?_ _)); exact BK364.out)) : gb364 ≠ gb379)); have n10_ := Aside0.mk ((by rw [hg]; exact Nat.ne_of_gt (blk_lt (g := gb364) (o := .cells #[.int .i64 a0_0, .int .i64 a0_1, .int .i64 a0_2, .int .i64 a0_3, .int .i64 a0_4, .int .i64 a0_5] 44 (0, 0)) (by (with_reducible repeat (first | refine blk_drewN ?_ _ | refine blk_drew ?_ | refine blk_alloc ?_ _)); exact BK364.out)) : gb379 ≠ gb364)); have n11_ := Aside0.mk ((by rw [hg]; exact Nat.ne_of_lt (blk_lt (g := gb365) (o := .cells #[.slice A1_0 l1_0.length c1_0, .slice A1_1 l1_1.length c1_1] 25 (0, 0)) (by (with_reducible repeat (first | refine blk_drewN ?_ _ | refine blk_drew ?_ | refine blk_alloc ?_ _)); exact BK365.out)) : gb365 ≠ gb379)); have n12_ := Aside0.mk ((by rw [hg]; exact Nat.ne_of_gt (blk_lt (g := gb365) (o := .cells #[.slice A1_0 l1_0.length c1_0, .slice A1_1 l1_1.length c1_1] 25 (0, 0)) (by (with_reducible repeat (first | refine blk_drewN ?_ _ | refine blk_drew ?_ | refine blk_alloc ?_ _)); exact BK365.out)) : gb379 ≠ gb365)); clear HO369; clear HO372; clear HO378; clear BK364; clear BK365; clear HB; have HO369 := n0_; have HO372 := n1_; have HO378 := n2_; have BK364 := n3_; have BK365 := n4_; have HB := n5_; have BK379 := n6_; have GW379 := n7_; have GE379 := n8_; have NB364_379 := n9_; have NB379_364 := n10_; have NB365_379 := n11_; have NB379_365 := n12_; clear n0_ n1_ n2_ n3_ n4_ n5_ n6_ n7_ n8_ n9_ n10_ n11_ n12_; clear hb hbox hg; obtain ⟨Ao33, co33, eo33⟩ := Kd.S_slice HO369.out; subst eo33; have hnb34 := NB379_364.out; have hnc34 := NB364_379.out; have hnb35 := NB379_365.out; have hnc35 := NB365_379.out; have hcz36_0 : w32.cell? ⟨gb379, 0, none⟩ = some (.slice none 0 0) := (blk_cell BK379.out 0).trans rfl; have hcz36_1 : w32.cell? ⟨gb379, 1, none⟩ = some (.slice none 0 0) := (blk_cell BK379.out 1).trans rfl; have hfz36_0 := blk_frozen BK379.out 0; have hfz36_1 := blk_frozen BK379.out 1; obtain ⟨Ao37, co37, eo37⟩ := Kd.S_slice HO372.out; subst eo37; have hcz38_0 : w32.cell? ⟨gb364, 0, none⟩ = some (.int .i64 a0_0) := (blk_cell BK364.out 0).trans rfl; have hcz38_1 : w32.cell? ⟨gb364, 1, none⟩ = some (.int .i64 a0_1) := (blk_cell BK364.out 1).trans rfl; have hcz38_2 : w32.cell? ⟨gb364, 2, none⟩ = some (.int .i64 a0_2) := (blk_cell BK364.out 2).trans rfl; have hcz38_3 : w32.cell? ⟨gb364, 3, none⟩ = some (.int .i64 a0_3) := (blk_cell BK364.out 3).trans rfl; have hcz38_4 : w32.cell? ⟨gb364, 4, none⟩ = some (.int .i64 a0_4) := (blk_cell BK364.out 4).trans rfl; have hcz38_5 : w32.cell? ⟨gb364, 5, none⟩ = some (.int .i64 a0_5) := (blk_cell BK364.out 5).trans rfl; have hfz38_0 := blk_frozen BK364.out 0; have hfz38_1 := blk_frozen BK364.out 1; have hfz38_2 := blk_frozen BK364.out 2; have hfz38_3 := blk_frozen BK364.out 3; have hfz38_4 := blk_frozen BK364.out 4; have hfz38_5 := blk_frozen BK364.out 5; obtain ⟨Ao39, co39, eo39⟩ := Kd.R_slice HO378.out; subst eo39) | ((with_reducible refine gate_callee (f := 26) rfl ?_); refine goesL_ (some 44) rfl rfl Try.func26 (by kernel_rfl) rfl #[.agg #[.int .i64 a0_0, .int .i64 a0_1, .int .i64 a0_2, .int .i64 a0_3, .int .i64 a0_4, .int .i64 a0_5], .agg #[.slice Ao33 t367.length co33, .slice Ao37 t370.length co37], .int .i64 a2, .int .u64 a3, .int .i64 a4, .slice Ao39 y376.length co39] rfl (by (try simp only [List.map_toArray, List.map_cons, List.map_nil]); first | done | rfl | (simp only [List.length_drop, List.length_take]; rfl)) ?_; (with_reducible refine (journal_Plan.calls kj6 a0_0 a0_1 a0_2 a0_3 a0_4 a0_5 _ _ t367 _ _ t370 a2 a3 a4 _ _ y376 t380 t381 t384 _ ?side1 ?side2 ?side3 ?side4 ?side5 ?side6 A21.out).mono ?_); (case side1 => refine (Kd.S_reads' (e := 39) (base := w.heap.size) (ok := fun k_ => (True ∧ some k_ ≠ (.slice Ao39 y376.length co39 : Value).ownBlock)) (n := t367.length) (c := co33) ?_).2.2; exact (by (with_reducible repeat (first | apply Kd.S_alloc | apply Kd.S_drewN | apply Kd.S_drew)); exact (Kd.S_mono (Kd.S_far (p := ⟨gb379, 1, none⟩) (Kd.S_far (p := ⟨gb379, 0, none⟩) (Kd.S_types HO369.out BK379.out (by decide)) (fun _ hk => hk.2) (.slice Ao33 t367.length co33)) (fun _ hk => hk.2) (.slice Ao37 t370.length co37)) (fun _ h_ => h_.1)))); (case side2 => exact (Kd.S_reads' HO369.out).2.1); (case side3 => refine (Kd.S_reads' (e := 49) (base := w.heap.size) (ok := fun k_ => (True ∧ some k_ ≠ (.slice Ao39 y376.length co39 : Value).ownBlock)) (n := t370.length) (c := co37) ?_).2.2; exact (by (with_reducible repeat (first | apply Kd.S_alloc | apply Kd.S_drewN | apply Kd.S_drew)); exact (Kd.S_mono (Kd.S_far (p := ⟨gb379, 1, none⟩) (Kd.S_far (p := ⟨gb379, 0, none⟩) (Kd.S_types HO372.out BK379.out (by decide)) (fun _ hk => hk.2) (.slice Ao33 t367.length co33)) (fun _ hk => hk.2) (.slice Ao37 t370.length co37)) (fun _ h_ => h_.1)))); (case side4 => exact (Kd.S_reads' HO372.out).2.1); (case side5 => refine (Kd.R_reads' (e := 5) (base := w.heap.size) (ok := fun k_ => True) (n := y376.length) (c := co39) ?_).2.2; exact (by (with_reducible repeat (first | apply Kd.R_alloc | apply Kd.R_drewN | apply Kd.R_drew)); exact (Kd.R_mono (Kd.R_far (p := ⟨gb379, 1, none⟩) (Kd.R_far (p := ⟨gb379, 0, none⟩) (Kd.R_types HO378.out BK379.out (by decide)) (fun _ hk => hk.2) (.slice Ao33 t367.length co33)) (fun _ hk => hk.2) (.slice Ao37 t370.length co37)) (fun _ h_ => h_.1)))); (case side6 => exact (Kd.R_reads' HO378.out).2.1); rintro e w40 ⟨v382, rfl, ho0, hb⟩; refine ⟨_, rfl, ?_⟩; have n0_ := Aside0.mk (Kd.S_elder' (by (with_reducible repeat (first | apply Kd.S_alloc | apply Kd.S_drewN | apply Kd.S_drew)); exact (Kd.S_mono (Kd.S_far (p := ⟨gb379, 1, none⟩) (Kd.S_far (p := ⟨gb379, 0, none⟩) (Kd.S_types HO369.out BK379.out (by decide)) (fun _ hk => hk.2) (.slice Ao33 t367.length co33)) (fun _ hk => hk.2) (.slice Ao37 t370.length co37)) (fun _ h_ => h_.1))) (Kd.R_base ho0) hb); have n1_ := Aside0.mk (Kd.S_elder' (by (with_reducible repeat (first | apply Kd.S_alloc | apply Kd.S_drewN | apply Kd.S_drew)); exact (Kd.S_mono (Kd.S_far (p := ⟨gb379, 1, none⟩) (Kd.S_far (p := ⟨gb379, 0, none⟩) (Kd.S_types HO372.out BK379.out (by decide)) (fun _ hk => hk.2) (.slice Ao33 t367.length co33)) (fun _ hk => hk.2) (.slice Ao37 t370.length co37)) (fun _ h_ => h_.1))) (Kd.R_base ho0) hb); have n2_ := Aside0.mk (Kd.R_elder' (by (with_reducible repeat (first | apply Kd.R_alloc | apply Kd.R_drewN | apply Kd.R_drew)); exact (Kd.R_mono (Kd.R_far (p := ⟨gb379, 1, none⟩) (Kd.R_far (p := ⟨gb379, 0, none⟩) (Kd.R_types HO378.out BK379.out (by decide)) (fun _ hk => hk.2) (.slice Ao33 t367.length co33)) (fun _ hk => hk.2) (.slice Ao37 t370.length co37)) (fun _ h_ => h_.1))) (Kd.R_base ho0) hb); have n3_ := Aside0.mk (Kd.R_lower (Kd.R_new' ho0 (Kd.R_lt (by (with_reducible repeat (first | apply Kd.R_alloc | apply Kd.R_drewN | apply Kd.R_drew)); exact (Kd.R_mono (Kd.R_far (p := ⟨gb379, 1, none⟩) (Kd.R_far (p := ⟨gb379, 0, none⟩) (Kd.R_types HO378.out BK379.out (by decide)) (fun _ hk => hk.2) (.slice Ao33 t367.length co33)) (fun _ hk => hk.2) (.slice Ao37 t370.length co37)) (fun _ h_ => h_.1))))) (below_size (by repeat (first | (with_reducible first | exact HB.out | apply below_alloc | apply pw_below_drewN | apply below_drew1 | refine below_set ?_ GE364.out | refine below_set ?_ GE365.out | refine below_set ?_ GE379.out) | exact HB.out)))); have n4_ := Aside0.mk (blk_below (g := gb364) (o := .cells #[.int .i64 a0_0, .int .i64 a0_1, .int .i64 a0_2, .int .i64 a0_3, .int .i64 a0_4, .int .i64 a0_5] 44 (0, 0)) (by (with_reducible repeat (first | refine blk_drewN ?_ _ | refine blk_drew ?_ | refine blk_alloc ?_ _)); refine blk_far ?_ NB364_379.out _; (with_reducible repeat (first | refine blk_drewN ?_ _ | refine blk_drew ?_ | refine blk_alloc ?_ _)); refine blk_far ?_ NB364_379.out _; (with_reducible repeat (first | refine blk_drewN ?_ _ | refine blk_drew ?_ | refine blk_alloc ?_ _)); exact BK364.out) hb); have n5_ := Aside0.mk (blk_below (g := gb365) (o := .cells #[.slice A1_0 l1_0.length c1_0, .slice A1_1 l1_1.length c1_1] 25 (0, 0)) (by (with_reducible repeat (first | refine blk_drewN ?_ _ | refine blk_drew ?_ | refine blk_alloc ?_ _)); refine blk_far ?_ NB365_379.out _; (with_reducible repeat (first | refine blk_drewN ?_ _ | refine blk_drew ?_ | refine blk_alloc ?_ _)); refine blk_far ?_ NB365_379.out _; (with_reducible repeat (first | refine blk_drewN ?_ _ | refine blk_drew ?_ | refine blk_alloc ?_ _)); exact BK365.out) hb); have n6_ := Aside0.mk (blk_below (g := gb379) (o := .cells #[.slice Ao33 t367.length co33, .slice Ao37 t370.length co37] 25 (0, 0)) (by (with_reducible repeat (first | refine blk_drewN ?_ _ | refine blk_drew ?_ | refine blk_alloc ?_ _)); refine blk_put (cs := #[.slice Ao33 t367.length co33, .slice none 0 0]) ?_ 1 _ rfl; (with_reducible repeat (first | refine blk_drewN ?_ _ | refine blk_drew ?_ | refine blk_alloc ?_ _)); refine blk_put (cs := #[.slice none 0 0, .slice none 0 0]) ?_ 0 _ rfl; (with_reducible repeat (first | refine blk_drewN ?_ _ | refine blk_drew ?_ | refine blk_alloc ?_ _)); exact BK379.out) hb); have n7_ := Aside0.mk (below_step (by repeat (first | (with_reducible first | exact HB.out | apply below_alloc | apply pw_below_drewN | apply below_drew1 | refine below_set ?_ GE364.out | refine below_set ?_ GE365.out | refine below_set ?_ GE379.out) | exact HB.out)) hb); clear HO369; clear HO372; clear HO378; clear BK364; clear BK365; clear BK379; clear HB; have HO369 := n0_; have HO372 := n1_; have HO378 := n2_; have HO383 := n3_; have BK364 := n4_; have BK365 := n5_; have BK379 := n6_; have HB := n7_; clear n0_ n1_ n2_ n3_ n4_ n5_ n6_ n7_; (try clear hb); (try clear hb2); (try clear hk); (try clear hi); (try clear ho0)) | ((with_reducible refine gate_dst (N := 15) rfl ?_); refine box_event ?hg (N := 15) ?hd (cs := #[.int .i64 0, .slice none 0 0]) (t := 49) ?hr ?_; (case hd => rfl); (case hg => rfl); (case hr => first | (go_simp; done) | (go_simp; rfl)); intro gb385 hg w41 hbox hb; have n0_ := Aside0.mk (Kd.S_below (by (with_reducible repeat (first | apply Kd.S_alloc | apply Kd.S_drewN | apply Kd.S_drew)); exact HO369.out) hb); have n1_ := Aside0.mk (Kd.S_below (Kd.S_elderB (by (with_reducible repeat (first | apply Kd.S_alloc | apply Kd.S_drewN | apply Kd.S_drew)); exact HO372.out) gb385 (Nat.le_of_eq hg.symm)) hb); have n2_ := Aside0.mk (Kd.R_below (by (with_reducible repeat (first | apply Kd.R_alloc | apply Kd.R_drewN | apply Kd.R_drew)); exact HO378.out) hb); have n3_ := Aside0.mk (Kd.R_below (by (with_reducible repeat (first | apply Kd.R_alloc | apply Kd.R_drewN | apply Kd.R_drew)); exact HO383.out) hb); have n4_ := Aside0.mk (blk_below (g := gb364) (o := .cells #[.int .i64 a0_0, .int .i64 a0_1, .int .i64 a0_2, .int .i64 a0_3, .int .i64 a0_4, .int .i64 a0_5] 44 (0, 0)) (by (with_reducible repeat (first | refine blk_drewN ?_ _ | refine blk_drew ?_ | refine blk_alloc ?_ _)); exact BK364.out) hb); have n5_ := Aside0.mk (blk_below (g := gb365) (o := .cells #[.slice A1_0 l1_0.length c1_0, .slice A1_1 l1_1.length c1_1] 25 (0, 0)) (by (with_reducible repeat (first | refine blk_drewN ?_ _ | refine blk_drew ?_ | refine blk_alloc ?_ _)); exact BK365.out) hb); have n6_ := Aside0.mk (blk_below (g := gb379) (o := .cells #[.slice Ao33 t367.length co33, .slice Ao37 t370.length co37] 25 (0, 0)) (by (with_reducible repeat (first | refine blk_drewN ?_ _ | refine blk_drew ?_ | refine blk_alloc ?_ _)); exact BK379.out) hb); have n7_ := Aside0.mk (below_step (by repeat (first | (with_reducible first | exact HB.out | apply below_alloc | apply pw_below_drewN | apply below_drew1 | refine below_set ?_ GE364.out | refine below_set ?_ GE365.out | refine below_set ?_ GE379.out) | exact HB.out)) hb); have n8_ := Aside0.mk (hbox); have n9_ := Aside0.mk ((by rw [hg]; exact (below_size (by repeat (first | (with_reducible first | exact HB.out | apply below_alloc | apply pw_below_drewN | apply below_drew1 | refine below_set ?_ GE364.out | refine below_set ?_ GE365.out | refine below_set ?_ GE379.out) | exact HB.out))) : w.heap.size ≤ gb385)); have n10_ := Aside0.mk ((by rw [hg]; exact (below_size (by repeat (first | (with_reducible first | exact HB.out | apply below_alloc | apply pw_below_drewN | apply below_drew1 | refine below_set ?_ GE364.out | refine below_set ?_ GE365.out | refine below_set ?_ GE379.out) | exact HB.out))) : w.heap.size ≤ gb385)); have n11_ := Aside0.mk ((by rw [hg]; exact Nat.ne_of_lt (blk_lt (g := gb364) (o := .cells #[.int .i64 a0_0, .int .i64 a0_1, .int .i64 a0_2, .int .i64 a0_3, .int .i64 a0_4, .int .i64 a0_5] 44 (0, 0)) (by (with_reducible repeat (first | refine blk_drewN ?_ _ | refine blk_drew ?_ | refine blk_alloc ?_ _)); exact BK364.out)) : gb364 ≠ gb385)); have n12_ := Aside0.mk ((by rw [hg]; exact Nat.ne_of_gt (blk_lt (g := gb364) (o := .cells #[.int .i64 a0_0, .int .i64 a0_1, .int .i64 a0_2, .int .i64 a0_3, .int .i64 a0_4, .int .i64 a0_5] 44 (0, 0)) (by (with_reducible repeat (first | refine blk_drewN ?_ _ | refine blk_drew ?_ | refine blk_alloc ?_ _)); exact BK364.out)) : gb385 ≠ gb364)); have n13_ := Aside0.mk ((by rw [hg]; exact Nat.ne_of_lt (blk_lt (g := gb365) (o := .cells #[.slice A1_0 l1_0.length c1_0, .slice A1_1 l1_1.length c1_1] 25 (0, 0)) (by (with_reducible repeat (first | refine blk_drewN ?_ _ | refine blk_drew ?_ | refine blk_alloc ?_ _)); exact BK365.out)) : gb365 ≠ gb385)); have n14_ := Aside0.mk ((by rw [hg]; exact Nat.ne_of_gt (blk_lt (g := gb365) (o := .cells #[.slice A1_0 l1_0.length c1_0, .slice A1_1 l1_1.length c1_1] 25 (0, 0)) (by (with_reducible repeat (first | refine blk_drewN ?_ _ | refine blk_drew ?_ | refine blk_alloc ?_ _)); exact BK365.out)) : gb385 ≠ gb365)); have n15_ := Aside0.mk ((by rw [hg]; exact Nat.ne_of_lt (blk_lt (g := gb379) (o := .cells #[.slice Ao33 t367.length co33, .slice Ao37 t370.length co37] 25 (0, 0)) (by (with_reducible repeat (first | refine blk_drewN ?_ _ | refine blk_drew ?_ | refine blk_alloc ?_ _)); exact BK379.out)) : gb379 ≠ gb385)); have n16_ := Aside0.mk ((by rw [hg]; exact Nat.ne_of_gt (blk_lt (g := gb379) (o := .cells #[.slice Ao33 t367.length co33, .slice Ao37 t370.length co37] 25 (0, 0)) (by (with_reducible repeat (first | refine blk_drewN ?_ _ | refine blk_drew ?_ | refine blk_alloc ?_ _)); exact BK379.out)) : gb385 ≠ gb379)); clear HO369; clear HO372; clear HO378; clear HO383; clear BK364; clear BK365; clear BK379; clear HB; have HO369 := n0_; have HO372 := n1_; have HO378 := n2_; have HO383 := n3_; have BK364 := n4_; have BK365 := n5_; have BK379 := n6_; have HB := n7_; have BK385 := n8_; have GW385 := n9_; have GE385 := n10_; have NB364_385 := n11_; have NB385_364 := n12_; have NB365_385 := n13_; have NB385_365 := n14_; have NB379_385 := n15_; have NB385_379 := n16_; clear n0_ n1_ n2_ n3_ n4_ n5_ n6_ n7_ n8_ n9_ n10_ n11_ n12_ n13_ n14_ n15_ n16_; clear hb hbox hg; have hnb42 := NB385_364.out; have hnc42 := NB364_385.out; have hnb43 := NB385_365.out; have hnc43 := NB365_385.out; have hnb44 := NB385_379.out; have hnc44 := NB379_385.out; have hcz45_0 : w41.cell? ⟨gb385, 0, none⟩ = some (.int .i64 0) := (blk_cell BK385.out 0).trans rfl; have hcz45_1 : w41.cell? ⟨gb385, 1, none⟩ = some (.slice none 0 0) := (blk_cell BK385.out 1).trans rfl; have hfz45_0 := blk_frozen BK385.out 0; have hfz45_1 := blk_frozen BK385.out 1; obtain ⟨Ao46, co46, eo46⟩ := Kd.R_slice HO383.out; subst eo46; have hcz47_0 : w41.cell? ⟨gb364, 0, none⟩ = some (.int .i64 a0_0) := (blk_cell BK364.out 0).trans rfl; have hcz47_1 : w41.cell? ⟨gb364, 1, none⟩ = some (.int .i64 a0_1) := (blk_cell BK364.out 1).trans rfl; have hcz47_2 : w41.cell? ⟨gb364, 2, none⟩ = some (.int .i64 a0_2) := (blk_cell BK364.out 2).trans rfl; have hcz47_3 : w41.cell? ⟨gb364, 3, none⟩ = some (.int .i64 a0_3) := (blk_cell BK364.out 3).trans rfl; have hcz47_4 : w41.cell? ⟨gb364, 4, none⟩ = some (.int .i64 a0_4) := (blk_cell BK364.out 4).trans rfl; have hcz47_5 : w41.cell? ⟨gb364, 5, none⟩ = some (.int .i64 a0_5) := (blk_cell BK364.out 5).trans rfl; have hfz47_0 := blk_frozen BK364.out 0; have hfz47_1 := blk_frozen BK364.out 1; have hfz47_2 := blk_frozen BK364.out 2; have hfz47_3 := blk_frozen BK364.out 3; have hfz47_4 := blk_frozen BK364.out 4; have hfz47_5 := blk_frozen BK364.out 5; have hcz48_0 : w41.cell? ⟨gb365, 0, none⟩ = some (.slice A1_0 l1_0.length c1_0) := (blk_cell BK365.out 0).trans rfl; have hcz48_1 : w41.cell? ⟨gb365, 1, none⟩ = some (.slice A1_1 l1_1.length c1_1) := (blk_cell BK365.out 1).trans rfl; have hfz48_0 := blk_frozen BK365.out 0; have hfz48_1 := blk_frozen BK365.out 1) | ((with_reducible refine gate_callee (f := 27) rfl ?_); refine goesL_ (some 54) rfl rfl Try.func27 (by kernel_rfl) rfl #[.agg #[.int .i64 a0_0, .int .i64 a0_1, .int .i64 a0_2, .int .i64 a0_3, .int .i64 a0_4, .int .i64 a0_5], .agg #[.slice A1_0 l1_0.length c1_0, .slice A1_1 l1_1.length c1_1], .int .i64 a2, .int .u64 a3, .int .i64 a4, .slice A5 l5.length c5] rfl (by (try simp only [List.map_toArray, List.map_cons, List.map_nil]); first | done | rfl | (simp only [List.length_drop, List.length_take]; rfl)) ?_; (with_reducible refine (catamaranref10_Plan.calls kj6 a0_0 a0_1 a0_2 a0_3 a0_4 a0_5 _ _ l1_0 _ _ l1_1 a2 a3 a4 _ _ l5 t386 t387 t390 _ ?side1 ?side2 ?side3 ?side4 ?side5 ?side6 A22.out).mono ?_); (case side1 => exact Kd.C_below HR1_0.out (by repeat (first | (with_reducible first | exact HB.out | apply below_alloc | apply pw_below_drewN | apply below_drew1 | refine below_set ?_ GE364.out | refine below_set ?_ GE365.out | refine below_set ?_ GE379.out | refine below_set ?_ GE385.out) | exact HB.out))); (case side2 => exact HC1_0.out); (case side3 => exact Kd.C_below HR1_1.out (by repeat (first | (with_reducible first | exact HB.out | apply below_alloc | apply pw_below_drewN | apply below_drew1 | refine below_set ?_ GE364.out | refine below_set ?_ GE365.out | refine below_set ?_ GE379.out | refine below_set ?_ GE385.out) | exact HB.out))); (case side4 => exact HC1_1.out); (case side5 => exact Kd.C_below HR5.out (by repeat (first | (with_reducible first | exact HB.out | apply below_alloc | apply pw_below_drewN | apply below_drew1 | refine below_set ?_ GE364.out | refine below_set ?_ GE365.out | refine below_set ?_ GE379.out | refine below_set ?_ GE385.out) | exact HB.out))); (case side6 => exact HC5.out); rintro e w49 ⟨v388, rfl, ho0, hb⟩; refine ⟨_, rfl, ?_⟩; have n0_ := Aside0.mk (Kd.S_elder' (by (with_reducible repeat (first | apply Kd.S_alloc | apply Kd.S_drewN | apply Kd.S_drew)); exact (Kd.S_mono (Kd.S_far (p := ⟨gb385, 1, none⟩) (Kd.S_far (p := ⟨gb385, 0, none⟩) (Kd.S_types HO369.out BK385.out (by decide)) (fun _ hk => hk.2) (.int .i64 t380)) (fun _ hk => hk.2) (.slice Ao46 t381.length co46)) (fun _ h_ => h_.1))) (Kd.R_base ho0) hb); have n1_ := Aside0.mk (Kd.S_elder' (by (with_reducible repeat (first | apply Kd.S_alloc | apply Kd.S_drewN | apply Kd.S_drew)); exact (Kd.S_mono (Kd.S_far (p := ⟨gb385, 1, none⟩) (Kd.S_far (p := ⟨gb385, 0, none⟩) (Kd.S_mono HO372.out (fun k_ hk => (⟨hk, hk.2⟩ : _ ∧ k_ ≠ gb385))) (fun _ hk => hk.2) (.int .i64 t380)) (fun _ hk => hk.2) (.slice Ao46 t381.length co46)) (fun _ h_ => h_.1))) (Kd.R_base ho0) hb); have n2_ := Aside0.mk (Kd.R_elder' (by (with_reducible repeat (first | apply Kd.R_alloc | apply Kd.R_drewN | apply Kd.R_drew)); exact (Kd.R_mono (Kd.R_far (p := ⟨gb385, 1, none⟩) (Kd.R_far (p := ⟨gb385, 0, none⟩) (Kd.R_types HO378.out BK385.out (by decide)) (fun _ hk => hk.2) (.int .i64 t380)) (fun _ hk => hk.2) (.slice Ao46 t381.length co46)) (fun _ h_ => h_.1))) (Kd.R_base ho0) hb); have n3_ := Aside0.mk (Kd.R_elder' (by (with_reducible repeat (first | apply Kd.R_alloc | apply Kd.R_drewN | apply Kd.R_drew)); exact (Kd.R_mono (Kd.R_far (p := ⟨gb385, 1, none⟩) (Kd.R_far (p := ⟨gb385, 0, none⟩) (Kd.R_types HO383.out BK385.out (by decide)) (fun _ hk => hk.2) (.int .i64 t380)) (fun _ hk => hk.2) (.slice Ao46 t381.length co46)) (fun _ h_ => h_.1))) (Kd.R_base ho0) hb); have n4_ := Aside0.mk (Kd.R_lower (Kd.R_new' (Kd.R_new' ho0 (Kd.R_lt (by (with_reducible repeat (first | apply Kd.R_alloc | apply Kd.R_drewN | apply Kd.R_drew)); exact (Kd.R_mono (Kd.R_far (p := ⟨gb385, 1, none⟩) (Kd.R_far (p := ⟨gb385, 0, none⟩) (Kd.R_types HO378.out BK385.out (by decide)) (fun _ hk => hk.2) (.int .i64 t380)) (fun _ hk => hk.2) (.slice Ao46 t381.length co46)) (fun _ h_ => h_.1))))) (Kd.R_lt (by (with_reducible repeat (first | apply Kd.R_alloc | apply Kd.R_drewN | apply Kd.R_drew)); exact (Kd.R_mono (Kd.R_far (p := ⟨gb385, 1, none⟩) (Kd.R_far (p := ⟨gb385, 0, none⟩) (Kd.R_types HO383.out BK385.out (by decide)) (fun _ hk => hk.2) (.int .i64 t380)) (fun _ hk => hk.2) (.slice Ao46 t381.length co46)) (fun _ h_ => h_.1))))) (below_size (by repeat (first | (with_reducible first | exact HB.out | apply below_alloc | apply pw_below_drewN | apply below_drew1 | refine below_set ?_ GE364.out | refine below_set ?_ GE365.out | refine below_set ?_ GE379.out | refine below_set ?_ GE385.out) | exact HB.out)))); have n5_ := Aside0.mk (blk_below (g := gb364) (o := .cells #[.int .i64 a0_0, .int .i64 a0_1, .int .i64 a0_2, .int .i64 a0_3, .int .i64 a0_4, .int .i64 a0_5] 44 (0, 0)) (by (with_reducible repeat (first | refine blk_drewN ?_ _ | refine blk_drew ?_ | refine blk_alloc ?_ _)); refine blk_far ?_ NB364_385.out _; (with_reducible repeat (first | refine blk_drewN ?_ _ | refine blk_drew ?_ | refine blk_alloc ?_ _)); refine blk_far ?_ NB364_385.out _; (with_reducible repeat (first | refine blk_drewN ?_ _ | refine blk_drew ?_ | refine blk_alloc ?_ _)); exact BK364.out) hb); have n6_ := Aside0.mk (blk_below (g := gb365) (o := .cells #[.slice A1_0 l1_0.length c1_0, .slice A1_1 l1_1.length c1_1] 25 (0, 0)) (by (with_reducible repeat (first | refine blk_drewN ?_ _ | refine blk_drew ?_ | refine blk_alloc ?_ _)); refine blk_far ?_ NB365_385.out _; (with_reducible repeat (first | refine blk_drewN ?_ _ | refine blk_drew ?_ | refine blk_alloc ?_ _)); refine blk_far ?_ NB365_385.out _; (with_reducible repeat (first | refine blk_drewN ?_ _ | refine blk_drew ?_ | refine blk_alloc ?_ _)); exact BK365.out) hb); have n7_ := Aside0.mk (blk_below (g := gb379) (o := .cells #[.slice Ao33 t367.length co33, .slice Ao37 t370.length co37] 25 (0, 0)) (by (with_reducible repeat (first | refine blk_drewN ?_ _ | refine blk_drew ?_ | refine blk_alloc ?_ _)); refine blk_far ?_ NB379_385.out _; (with_reducible repeat (first | refine blk_drewN ?_ _ | refine blk_drew ?_ | refine blk_alloc ?_ _)); refine blk_far ?_ NB379_385.out _; (with_reducible repeat (first | refine blk_drewN ?_ _ | refine blk_drew ?_ | refine blk_alloc ?_ _)); exact BK379.out) hb); have n8_ := Aside0.mk (blk_below (g := gb385) (o := .cells #[.int .i64 t380, .slice Ao46 t381.length co46] 49 (0, 0)) (by (with_reducible repeat (first | refine blk_drewN ?_ _ | refine blk_drew ?_ | refine blk_alloc ?_ _)); refine blk_put (cs := #[.int .i64 t380, .slice none 0 0]) ?_ 1 _ rfl; (with_reducible repeat (first | refine blk_drewN ?_ _ | refine blk_drew ?_ | refine blk_alloc ?_ _)); refine blk_put (cs := #[.int .i64 0, .slice none 0 0]) ?_ 0 _ rfl; (with_reducible repeat (first | refine blk_drewN ?_ _ | refine blk_drew ?_ | refine blk_alloc ?_ _)); exact BK385.out) hb); have n9_ := Aside0.mk (below_step (by repeat (first | (with_reducible first | exact HB.out | apply below_alloc | apply pw_below_drewN | apply below_drew1 | refine below_set ?_ GE364.out | refine below_set ?_ GE365.out | refine below_set ?_ GE379.out | refine below_set ?_ GE385.out) | exact HB.out)) hb); clear HO369; clear HO372; clear HO378; clear HO383; clear BK364; clear BK365; clear BK379; clear BK385; clear HB; have HO369 := n0_; have HO372 := n1_; have HO378 := n2_; have HO383 := n3_; have HO389 := n4_; have BK364 := n5_; have BK365 := n6_; have BK379 := n7_; have BK385 := n8_; have HB := n9_; clear n0_ n1_ n2_ n3_ n4_ n5_ n6_ n7_ n8_ n9_; (try clear hb); (try clear hb2); (try clear hk); (try clear hi); (try clear ho0)) | ((with_reducible refine gate_dst (N := 17) rfl ?_); refine box_event ?hg (N := 17) ?hd (cs := #[.int .i64 0, .slice none 0 0]) (t := 49) ?hr ?_; (case hd => rfl); (case hg => rfl); (case hr => first | (go_simp; done) | (go_simp; rfl)); intro gb391 hg w50 hbox hb; have n0_ := Aside0.mk (Kd.S_below (by (with_reducible repeat (first | apply Kd.S_alloc | apply Kd.S_drewN | apply Kd.S_drew)); exact HO369.out) hb); have n1_ := Aside0.mk (Kd.S_below (Kd.S_elderB (by (with_reducible repeat (first | apply Kd.S_alloc | apply Kd.S_drewN | apply Kd.S_drew)); exact HO372.out) gb391 (Nat.le_of_eq hg.symm)) hb); have n2_ := Aside0.mk (Kd.R_below (by (with_reducible repeat (first | apply Kd.R_alloc | apply Kd.R_drewN | apply Kd.R_drew)); exact HO378.out) hb); have n3_ := Aside0.mk (Kd.R_below (by (with_reducible repeat (first | apply Kd.R_alloc | apply Kd.R_drewN | apply Kd.R_drew)); exact HO383.out) hb); have n4_ := Aside0.mk (Kd.R_below (by (with_reducible repeat (first | apply Kd.R_alloc | apply Kd.R_drewN | apply Kd.R_drew)); exact HO389.out) hb); have n5_ := Aside0.mk (blk_below (g := gb364) (o := .cells #[.int .i64 a0_0, .int .i64 a0_1, .int .i64 a0_2, .int .i64 a0_3, .int .i64 a0_4, .int .i64 a0_5] 44 (0, 0)) (by (with_reducible repeat (first | refine blk_drewN ?_ _ | refine blk_drew ?_ | refine blk_alloc ?_ _)); exact BK364.out) hb); have n6_ := Aside0.mk (blk_below (g := gb365) (o := .cells #[.slice A1_0 l1_0.length c1_0, .slice A1_1 l1_1.length c1_1] 25 (0, 0)) (by (with_reducible repeat (first | refine blk_drewN ?_ _ | refine blk_drew ?_ | refine blk_alloc ?_ _)); exact BK365.out) hb); have n7_ := Aside0.mk (blk_below (g := gb379) (o := .cells #[.slice Ao33 t367.length co33, .slice Ao37 t370.length co37] 25 (0, 0)) (by (with_reducible repeat (first | refine blk_drewN ?_ _ | refine blk_drew ?_ | refine blk_alloc ?_ _)); exact BK379.out) hb); have n8_ := Aside0.mk (blk_below (g := gb385) (o := .cells #[.int .i64 t380, .slice Ao46 t381.length co46] 49 (0, 0)) (by (with_reducible repeat (first | refine blk_drewN ?_ _ | refine blk_drew ?_ | refine blk_alloc ?_ _)); exact BK385.out) hb); have n9_ := Aside0.mk (below_step (by repeat (first | (with_reducible first | exact HB.out | apply below_alloc | apply pw_below_drewN | apply below_drew1 | refine below_set ?_ GE364.out | refine below_set ?_ GE365.out | refine below_set ?_ GE379.out | refine below_set ?_ GE385.out) | exact HB.out)) hb); have n10_ := Aside0.mk (hbox); have n11_ := Aside0.mk ((by rw [hg]; exact (below_size (by repeat (first | (with_reducible first | exact HB.out | apply below_alloc | apply pw_below_drewN | apply below_drew1 | refine below_set ?_ GE364.out | refine below_set ?_ GE365.out | refine below_set ?_ GE379.out | refine below_set ?_ GE385.out) | exact HB.out))) : w.heap.size ≤ gb391)); have n12_ := Aside0.mk ((by rw [hg]; exact (below_size (by repeat (first | (with_reducible first | exact HB.out | apply below_alloc | apply pw_below_drewN | apply below_drew1 | refine below_set ?_ GE364.out | refine below_set ?_ GE365.out | refine below_set ?_ GE379.out | refine below_set ?_ GE385.out) | exact HB.out))) : w.heap.size ≤ gb391)); have n13_ := Aside0.mk ((by rw [hg]; exact Nat.ne_of_lt (blk_lt (g := gb364) (o := .cells #[.int .i64 a0_0, .int .i64 a0_1, .int .i64 a0_2, .int .i64 a0_3, .int .i64 a0_4, .int .i64 a0_5] 44 (0, 0)) (by (with_reducible repeat (first | refine blk_drewN ?_ _ | refine blk_drew ?_ | refine blk_alloc ?_ _)); exact BK364.out)) : gb364 ≠ gb391)); have n14_ := Aside0.mk ((by rw [hg]; exact Nat.ne_of_gt (blk_lt (g := gb364) (o := .cells #[.int .i64 a0_0, .int .i64 a0_1, .int .i64 a0_2, .int .i64 a0_3, .int .i64 a0_4, .int .i64 a0_5] 44 (0, 0)) (by (with_reducible repeat (first | refine blk_drewN ?_ _ | refine blk_drew ?_ | refine blk_alloc ?_ _)); exact BK364.out)) : gb391 ≠ gb364)); have n15_ := Aside0.mk ((by rw [hg]; exact Nat.ne_of_lt (blk_lt (g := gb365) (o := .cells #[.slice A1_0 l1_0.length c1_0, .slice A1_1 l1_1.length c1_1] 25 (0, 0)) (by (with_reducible repeat (first | refine blk_drewN ?_ _ | refine blk_drew ?_ | refine blk_alloc ?_ _)); exact BK365.out)) : gb365 ≠ gb391)); have n16_ := Aside0.mk ((by rw [hg]; exact Nat.ne_of_gt (blk_lt (g := gb365) (o := .cells #[.slice A1_0 l1_0.length c1_0, .slice A1_1 l1_1.length c1_1] 25 (0, 0)) (by (with_reducible repeat (first | refine blk_drewN ?_ _ | refine blk_drew ?_ | refine blk_alloc ?_ _)); exact BK365.out)) : gb391 ≠ gb365)); have n17_ := Aside0.mk ((by rw [hg]; exact Nat.ne_of_lt (blk_lt (g := gb379) (o := .cells #[.slice Ao33 t367.length co33, .slice Ao37 t370.length co37] 25 (0, 0)) (by (with_reducible repeat (first | refine blk_drewN ?_ _ | refine blk_drew ?_ | refine blk_alloc ?_ _)); exact BK379.out)) : gb379 ≠ gb391)); have n18_ := Aside0.mk ((by rw [hg]; exact Nat.ne_of_gt (blk_lt (g := gb379) (o := .cells #[.slice Ao33 t367.length co33, .slice Ao37 t370.length co37] 25 (0, 0)) (by (with_reducible repeat (first | refine blk_drewN ?_ _ | refine blk_drew ?_ | refine blk_alloc ?_ _)); exact BK379.out)) : gb391 ≠ gb379)); have n19_ := Aside0.mk ((by rw [hg]; exact Nat.ne_of_lt (blk_lt (g := gb385) (o := .cells #[.int .i64 t380, .slice Ao46 t381.length co46] 49 (0, 0)) (by (with_reducible repeat (first | refine blk_drewN ?_ _ | refine blk_drew ?_ | refine blk_alloc ?_ _)); exact BK385.out)) : gb385 ≠ gb391)); have n20_ := Aside0.mk ((by rw [hg]; exact Nat.ne_of_gt (blk_lt (g := gb385) (o := .cells #[.int .i64 t380, .slice Ao46 t381.length co46] 49 (0, 0)) (by (with_reducible repeat (first | refine blk_drewN ?_ _ | refine blk_drew ?_ | refine blk_alloc ?_ _)); exact BK385.out)) : gb391 ≠ gb385)); clear HO369; clear HO372; clear HO378; clear HO383; clear HO389; clear BK364; clear BK365; clear BK379; clear BK385; clear HB; have HO369 := n0_; have HO372 := n1_; have HO378 := n2_; have HO383 := n3_; have HO389 := n4_; have BK364 := n5_; have BK365 := n6_; have BK379 := n7_; have BK385 := n8_; have HB := n9_; have BK391 := n10_; have GW391 := n11_; have GE391 := n12_; have NB364_391 := n13_; have NB391_364 := n14_; have NB365_391 := n15_; have NB391_365 := n16_; have NB379_391 := n17_; have NB391_379 := n18_; have NB385_391 := n19_; have NB391_385 := n20_; clear n0_ n1_ n2_ n3_ n4_ n5_ n6_ n7_ n8_ n9_ n10_ n11_ n12_ n13_ n14_ n15_ n16_ n17_ n18_ n19_ n20_; clear hb hbox hg; have hnb51 := NB391_364.out; have hnc51 := NB364_391.out; have hnb52 := NB391_365.out; have hnc52 := NB365_391.out; have hnb53 := NB391_379.out; have hnc53 := NB379_391.out; have hnb54 := NB391_385.out; have hnc54 := NB385_391.out; have hcz55_0 : w50.cell? ⟨gb391, 0, none⟩ = some (.int .i64 0) := (blk_cell BK391.out 0).trans rfl; have hcz55_1 : w50.cell? ⟨gb391, 1, none⟩ = some (.slice none 0 0) := (blk_cell BK391.out 1).trans rfl; have hfz55_0 := blk_frozen BK391.out 0; have hfz55_1 := blk_frozen BK391.out 1; obtain ⟨Ao56, co56, eo56⟩ := Kd.R_slice HO389.out; subst eo56) | ((with_reducible refine gate_callee (f := 28) rfl ?_); refine goesL_ (some 61) rfl rfl Try.func28 (by kernel_rfl) rfl #[.int .u64 a3, .int .i64 a4, .slice Ao39 y376.length co39] rfl (by (try simp only [List.map_toArray, List.map_cons, List.map_nil]); first | done | rfl | (simp only [List.length_drop, List.length_take]; rfl)) ?_; (with_reducible refine (journal_Text.calls kj6 a3 a4 _ _ y376 t392 t393 _ ?side1 ?side2 A23.out).mono ?_); (case side1 => refine (Kd.R_reads' (e := 5) (base := w.heap.size) (ok := fun k_ => ((True ∧ some k_ ≠ (.slice Ao46 t381.length co46 : Value).ownBlock) ∧ some k_ ≠ (.slice Ao56 t387.length co56 : Value).ownBlock)) (n := y376.length) (c := co39) ?_).2.2; exact (by (with_reducible repeat (first | apply Kd.R_alloc | apply Kd.R_drewN | apply Kd.R_drew)); exact (Kd.R_mono (Kd.R_far (p := ⟨gb391, 1, none⟩) (Kd.R_far (p := ⟨gb391, 0, none⟩) (Kd.R_types HO378.out BK391.out (by decide)) (fun _ hk => hk.2) (.int .i64 t386)) (fun _ hk => hk.2) (.slice Ao56 t387.length co56)) (fun _ h_ => h_.1)))); (case side2 => exact (Kd.R_reads' HO378.out).2.1); rintro e w57 ⟨v394, rfl, ho0, hb⟩; refine ⟨_, rfl, ?_⟩; have n0_ := Aside0.mk (Kd.S_elder' (by (with_reducible repeat (first | apply Kd.S_alloc | apply Kd.S_drewN | apply Kd.S_drew)); exact (Kd.S_mono (Kd.S_far (p := ⟨gb391, 1, none⟩) (Kd.S_far (p := ⟨gb391, 0, none⟩) (Kd.S_types HO369.out BK391.out (by decide)) (fun _ hk => hk.2) (.int .i64 t386)) (fun _ hk => hk.2) (.slice Ao56 t387.length co56)) (fun _ h_ => h_.1))) (Kd.R_base ho0) hb); have n1_ := Aside0.mk (Kd.S_elder' (by (with_reducible repeat (first | apply Kd.S_alloc | apply Kd.S_drewN | apply Kd.S_drew)); exact (Kd.S_mono (Kd.S_far (p := ⟨gb391, 1, none⟩) (Kd.S_far (p := ⟨gb391, 0, none⟩) (Kd.S_mono HO372.out (fun k_ hk => (⟨hk, hk.2⟩ : _ ∧ k_ ≠ gb391))) (fun _ hk => hk.2) (.int .i64 t386)) (fun _ hk => hk.2) (.slice Ao56 t387.length co56)) (fun _ h_ => h_.1))) (Kd.R_base ho0) hb); have n2_ := Aside0.mk (Kd.R_elder' (by (with_reducible repeat (first | apply Kd.R_alloc | apply Kd.R_drewN | apply Kd.R_drew)); exact (Kd.R_mono (Kd.R_far (p := ⟨gb391, 1, none⟩) (Kd.R_far (p := ⟨gb391, 0, none⟩) (Kd.R_types HO378.out BK391.out (by decide)) (fun _ hk => hk.2) (.int .i64 t386)) (fun _ hk => hk.2) (.slice Ao56 t387.length co56)) (fun _ h_ => h_.1))) (Kd.R_base ho0) hb); have n3_ := Aside0.mk (Kd.R_elder' (by (with_reducible repeat (first | apply Kd.R_alloc | apply Kd.R_drewN | apply Kd.R_drew)); exact (Kd.R_mono (Kd.R_far (p := ⟨gb391, 1, none⟩) (Kd.R_far (p := ⟨gb391, 0, none⟩) (Kd.R_types HO383.out BK391.out (by decide)) (fun _ hk => hk.2) (.int .i64 t386)) (fun _ hk => hk.2) (.slice Ao56 t387.length co56)) (fun _ h_ => h_.1))) (Kd.R_base ho0) hb); have n4_ := Aside0.mk (Kd.R_elder' (by (with_reducible repeat (first | apply Kd.R_alloc | apply Kd.R_drewN | apply Kd.R_drew)); exact (Kd.R_mono (Kd.R_far (p := ⟨gb391, 1, none⟩) (Kd.R_far (p := ⟨gb391, 0, none⟩) (Kd.R_types HO389.out BK391.out (by decide)) (fun _ hk => hk.2) (.int .i64 t386)) (fun _ hk => hk.2) (.slice Ao56 t387.length co56)) (fun _ h_ => h_.1))) (Kd.R_base ho0) hb); have n5_ := Aside0.mk (Kd.R_lower (Kd.R_new' (Kd.R_new' (Kd.R_new' ho0 (Kd.R_lt (by (with_reducible repeat (first | apply Kd.R_alloc | apply Kd.R_drewN | apply Kd.R_drew)); exact (Kd.R_mono (Kd.R_far (p := ⟨gb391, 1, none⟩) (Kd.R_far (p := ⟨gb391, 0, none⟩) (Kd.R_types HO378.out BK391.out (by decide)) (fun _ hk => hk.2) (.int .i64 t386)) (fun _ hk => hk.2) (.slice Ao56 t387.length co56)) (fun _ h_ => h_.1))))) (Kd.R_lt (by (with_reducible repeat (first | apply Kd.R_alloc | apply Kd.R_drewN | apply Kd.R_drew)); exact (Kd.R_mono (Kd.R_far (p := ⟨gb391, 1, none⟩) (Kd.R_far (p := ⟨gb391, 0, none⟩) (Kd.R_types HO383.out BK391.out (by decide)) (fun _ hk => hk.2) (.int .i64 t386)) (fun _ hk => hk.2) (.slice Ao56 t387.length co56)) (fun _ h_ => h_.1))))) (Kd.R_lt (by (with_reducible repeat (first | apply Kd.R_alloc | apply Kd.R_drewN | apply Kd.R_drew)); exact (Kd.R_mono (Kd.R_far (p := ⟨gb391, 1, none⟩) (Kd.R_far (p := ⟨gb391, 0, none⟩) (Kd.R_types HO389.out BK391.out (by decide)) (fun _ hk => hk.2) (.int .i64 t386)) (fun _ hk => hk.2) (.slice Ao56 t387.length co56)) (fun _ h_ => h_.1))))) (below_size (by repeat (first | (with_reducible first | exact HB.out | apply below_alloc | apply pw_below_drewN | apply below_drew1 | refine below_set ?_ GE364.out | refine below_set ?_ GE365.out | refine below_set ?_ GE379.out | refine below_set ?_ GE385.out | refine below_set ?_ GE391.out) | exact HB.out)))); have n6_ := Aside0.mk (blk_below (g := gb364) (o := .cells #[.int .i64 a0_0, .int .i64 a0_1, .int .i64 a0_2, .int .i64 a0_3, .int .i64 a0_4, .int .i64 a0_5] 44 (0, 0)) (by (with_reducible repeat (first | refine blk_drewN ?_ _ | refine blk_drew ?_ | refine blk_alloc ?_ _)); refine blk_far ?_ NB364_391.out _; (with_reducible repeat (first | refine blk_drewN ?_ _ | refine blk_drew ?_ | refine blk_alloc ?_ _)); refine blk_far ?_ NB364_391.out _; (with_reducible repeat (first | refine blk_drewN ?_ _ | refine blk_drew ?_ | refine blk_alloc ?_ _)); exact BK364.out) hb); have n7_ := Aside0.mk (blk_below (g := gb365) (o := .cells #[.slice A1_0 l1_0.length c1_0, .slice A1_1 l1_1.length c1_1] 25 (0, 0)) (by (with_reducible repeat (first | refine blk_drewN ?_ _ | refine blk_drew ?_ | refine blk_alloc ?_ _)); refine blk_far ?_ NB365_391.out _; (with_reducible repeat (first | refine blk_drewN ?_ _ | refine blk_drew ?_ | refine blk_alloc ?_ _)); refine blk_far ?_ NB365_391.out _; (with_reducible repeat (first | refine blk_drewN ?_ _ | refine blk_drew ?_ | refine blk_alloc ?_ _)); exact BK365.out) hb); have n8_ := Aside0.mk (blk_below (g := gb379) (o := .cells #[.slice Ao33 t367.length co33, .slice Ao37 t370.length co37] 25 (0, 0)) (by (with_reducible repeat (first | refine blk_drewN ?_ _ | refine blk_drew ?_ | refine blk_alloc ?_ _)); refine blk_far ?_ NB379_391.out _; (with_reducible repeat (first | refine blk_drewN ?_ _ | refine blk_drew ?_ | refine blk_alloc ?_ _)); refine blk_far ?_ NB379_391.out _; (with_reducible repeat (first | refine blk_drewN ?_ _ | refine blk_drew ?_ | refine blk_alloc ?_ _)); exact BK379.out) hb); have n9_ := Aside0.mk (blk_below (g := gb385) (o := .cells #[.int .i64 t380, .slice Ao46 t381.length co46] 49 (0, 0)) (by (with_reducible repeat (first | refine blk_drewN ?_ _ | refine blk_drew ?_ | refine blk_alloc ?_ _)); refine blk_far ?_ NB385_391.out _; (with_reducible repeat (first | refine blk_drewN ?_ _ | refine blk_drew ?_ | refine blk_alloc ?_ _)); refine blk_far ?_ NB385_391.out _; (with_reducible repeat (first | refine blk_drewN ?_ _ | refine blk_drew ?_ | refine blk_alloc ?_ _)); exact BK385.out) hb); have n10_ := Aside0.mk (blk_below (g := gb391) (o := .cells #[.int .i64 t386, .slice Ao56 t387.length co56] 49 (0, 0)) (by (with_reducible repeat (first | refine blk_drewN ?_ _ | refine blk_drew ?_ | refine blk_alloc ?_ _)); refine blk_put (cs := #[.int .i64 t386, .slice none 0 0]) ?_ 1 _ rfl; (with_reducible repeat (first | refine blk_drewN ?_ _ | refine blk_drew ?_ | refine blk_alloc ?_ _)); refine blk_put (cs := #[.int .i64 0, .slice none 0 0]) ?_ 0 _ rfl; (with_reducible repeat (first | refine blk_drewN ?_ _ | refine blk_drew ?_ | refine blk_alloc ?_ _)); exact BK391.out) hb); have n11_ := Aside0.mk (below_step (by repeat (first | (with_reducible first | exact HB.out | apply below_alloc | apply pw_below_drewN | apply below_drew1 | refine below_set ?_ GE364.out | refine below_set ?_ GE365.out | refine below_set ?_ GE379.out | refine below_set ?_ GE385.out | refine below_set ?_ GE391.out) | exact HB.out)) hb); clear HO369; clear HO372; clear HO378; clear HO383; clear HO389; clear BK364; clear BK365; clear BK379; clear BK385; clear BK391; clear HB; have HO369 := n0_; have HO372 := n1_; have HO378 := n2_; have HO383 := n3_; have HO389 := n4_; have HO395 := n5_; have BK364 := n6_; have BK365 := n7_; have BK379 := n8_; have BK385 := n9_; have BK391 := n10_; have HB := n11_; clear n0_ n1_ n2_ n3_ n4_ n5_ n6_ n7_ n8_ n9_ n10_ n11_; (try clear hb); (try clear hb2); (try clear hk); (try clear hi); (try clear ho0)) | ((with_reducible refine gate_callee (f := 29) rfl ?_); refine goesL_ (some 68) rfl rfl Try.func29 (by kernel_rfl) rfl #[.int .u64 a3, .int .i64 a4, .slice A5 l5.length c5] rfl (by (try simp only [List.map_toArray, List.map_cons, List.map_nil]); first | done | rfl | (simp only [List.length_drop, List.length_take]; rfl)) ?_; (with_reducible refine (catamaranref10_Text.calls kj6 a3 a4 _ _ l5 t396 t397 _ ?side1 ?side2 A24.out).mono ?_); (case side1 => repeat (first | exact (Kd.C_below HR5.out HB.out) | (with_reducible refine Kd.C_alloc ?_ _) | (with_reducible refine Kd.C_drewN ?_ _) | (with_reducible refine Kd.C_drew ?_))); (case side2 => exact HC5.out); rintro e w58 ⟨v398, rfl, ho0, hb⟩; refine ⟨_, rfl, ?_⟩; have n0_ := Aside0.mk (Kd.S_elder' (by (with_reducible repeat (first | apply Kd.S_alloc | apply Kd.S_drewN | apply Kd.S_drew)); exact HO369.out) (Kd.R_base ho0) hb); have n1_ := Aside0.mk (Kd.S_elder' (by (with_reducible repeat (first | apply Kd.S_alloc | apply Kd.S_drewN | apply Kd.S_drew)); exact HO372.out) (Kd.R_base ho0) hb); have n2_ := Aside0.mk (Kd.R_elder' (by (with_reducible repeat (first | apply Kd.R_alloc | apply Kd.R_drewN | apply Kd.R_drew)); exact HO378.out) (Kd.R_base ho0) hb); have n3_ := Aside0.mk (Kd.R_elder' (by (with_reducible repeat (first | apply Kd.R_alloc | apply Kd.R_drewN | apply Kd.R_drew)); exact HO383.out) (Kd.R_base ho0) hb); have n4_ := Aside0.mk (Kd.R_elder' (by (with_reducible repeat (first | apply Kd.R_alloc | apply Kd.R_drewN | apply Kd.R_drew)); exact HO389.out) (Kd.R_base ho0) hb); have n5_ := Aside0.mk (Kd.R_elder' (by (with_reducible repeat (first | apply Kd.R_alloc | apply Kd.R_drewN | apply Kd.R_drew)); exact HO395.out) (Kd.R_base ho0) hb); have n6_ := Aside0.mk (Kd.R_lower (Kd.R_new' (Kd.R_new' (Kd.R_new' (Kd.R_new' ho0 (Kd.R_lt (by (with_reducible repeat (first | apply Kd.R_alloc | apply Kd.R_drewN | apply Kd.R_drew)); exact HO378.out))) (Kd.R_lt (by (with_reducible repeat (first | apply Kd.R_alloc | apply Kd.R_drewN | apply Kd.R_drew)); exact HO383.out))) (Kd.R_lt (by (with_reducible repeat (first | apply Kd.R_alloc | apply Kd.R_drewN | apply Kd.R_drew)); exact HO389.out))) (Kd.R_lt (by (with_reducible repeat (first | apply Kd.R_alloc | apply Kd.R_drewN | apply Kd.R_drew)); exact HO395.out))) (below_size (by repeat (first | (with_reducible first | exact HB.out | apply below_alloc | apply pw_below_drewN | apply below_drew1 | refine below_set ?_ GE364.out | refine below_set ?_ GE365.out | refine below_set ?_ GE379.out | refine below_set ?_ GE385.out | refine below_set ?_ GE391.out) | exact HB.out)))); have n7_ := Aside0.mk (blk_below (g := gb364) (o := .cells #[.int .i64 a0_0, .int .i64 a0_1, .int .i64 a0_2, .int .i64 a0_3, .int .i64 a0_4, .int .i64 a0_5] 44 (0, 0)) (by (with_reducible repeat (first | refine blk_drewN ?_ _ | refine blk_drew ?_ | refine blk_alloc ?_ _)); exact BK364.out) hb); have n8_ := Aside0.mk (blk_below (g := gb365) (o := .cells #[.slice A1_0 l1_0.length c1_0, .slice A1_1 l1_1.length c1_1] 25 (0, 0)) (by (with_reducible repeat (first | refine blk_drewN ?_ _ | refine blk_drew ?_ | refine blk_alloc ?_ _)); exact BK365.out) hb); have n9_ := Aside0.mk (blk_below (g := gb379) (o := .cells #[.slice Ao33 t367.length co33, .slice Ao37 t370.length co37] 25 (0, 0)) (by (with_reducible repeat (first | refine blk_drewN ?_ _ | refine blk_drew ?_ | refine blk_alloc ?_ _)); exact BK379.out) hb); have n10_ := Aside0.mk (blk_below (g := gb385) (o := .cells #[.int .i64 t380, .slice Ao46 t381.length co46] 49 (0, 0)) (by (with_reducible repeat (first | refine blk_drewN ?_ _ | refine blk_drew ?_ | refine blk_alloc ?_ _)); exact BK385.out) hb); have n11_ := Aside0.mk (blk_below (g := gb391) (o := .cells #[.int .i64 t386, .slice Ao56 t387.length co56] 49 (0, 0)) (by (with_reducible repeat (first | refine blk_drewN ?_ _ | refine blk_drew ?_ | refine blk_alloc ?_ _)); exact BK391.out) hb); have n12_ := Aside0.mk (below_step (by repeat (first | (with_reducible first | exact HB.out | apply below_alloc | apply pw_below_drewN | apply below_drew1 | refine below_set ?_ GE364.out | refine below_set ?_ GE365.out | refine below_set ?_ GE379.out | refine below_set ?_ GE385.out | refine below_set ?_ GE391.out) | exact HB.out)) hb); clear HO369; clear HO372; clear HO378; clear HO383; clear HO389; clear HO395; clear BK364; clear BK365; clear BK379; clear BK385; clear BK391; clear HB; have HO369 := n0_; have HO372 := n1_; have HO378 := n2_; have HO383 := n3_; have HO389 := n4_; have HO395 := n5_; have HO399 := n6_; have BK364 := n7_; have BK365 := n8_; have BK379 := n9_; have BK385 := n10_; have BK391 := n11_; have HB := n12_; clear n0_ n1_ n2_ n3_ n4_ n5_ n6_ n7_ n8_ n9_ n10_ n11_ n12_; (try clear hb); (try clear hb2); (try clear hk); (try clear hi); (try clear ho0)))
          (try simp only [Act.put, List.setIfInBounds_toArray, List.set_cons_zero, List.set_cons_succ])
          go_cut [23] (fun v23 wc => ∃ (kq : Nat) (x23_24 : Bool), v23 = .bool x23_24 ∧ Aside0 (catamaranlaw10_JournalPlans.j1 kq l5 y376 x23_24 l1_0 l1_1 t367 t370 t380 t381 = some r) ∧ Aside0 (kq ≤ kj6) ∧ Aside0 (Kd.R (Kd.int .u8) 5 wc w.heap.size (fun k_ => some k_ ≠ ((.slice Ao46 t381.length co46) : Value).ownBlock ∧ some k_ ≠ ((.slice Ao56 t387.length co56) : Value).ownBlock) (.slice Ao39 y376.length co39) y376) ∧ Aside0 (Kd.S k39 39 wc w.heap.size (fun k_ => some k_ ≠ ((.slice Ao39 y376.length co39) : Value).ownBlock ∧ some k_ ≠ ((.slice Ao46 t381.length co46) : Value).ownBlock ∧ some k_ ≠ ((.slice Ao56 t387.length co56) : Value).ownBlock) (.slice Ao33 t367.length co33) t367) ∧ Aside0 (Kd.S k49 49 wc w.heap.size (fun k_ => some k_ ≠ ((.slice Ao39 y376.length co39) : Value).ownBlock ∧ some k_ ≠ ((.slice Ao46 t381.length co46) : Value).ownBlock ∧ some k_ ≠ ((.slice Ao56 t387.length co56) : Value).ownBlock ∧ k_ ≠ gb385 ∧ k_ ≠ gb391) (.slice Ao37 t370.length co37) t370) ∧ Aside0 (Kd.R (Kd.int .u8) 5 wc w.heap.size (fun k_ => some k_ ≠ ((.slice Ao39 y376.length co39) : Value).ownBlock ∧ some k_ ≠ ((.slice Ao56 t387.length co56) : Value).ownBlock) (.slice Ao46 t381.length co46) t381) ∧ Aside0 (Kd.R (Kd.int .u8) 5 wc w.heap.size (fun k_ => some k_ ≠ ((.slice Ao39 y376.length co39) : Value).ownBlock ∧ some k_ ≠ ((.slice Ao46 t381.length co46) : Value).ownBlock) (.slice Ao56 t387.length co56) t387) ∧ Aside0 (wc.heap[gb364]? = some (.cells #[.int .i64 a0_0, .int .i64 a0_1, .int .i64 a0_2, .int .i64 a0_3, .int .i64 a0_4, .int .i64 a0_5] 44 (0, 0))) ∧ Aside0 (wc.heap[gb365]? = some (.cells #[(.slice A1_0 l1_0.length c1_0), (.slice A1_1 l1_1.length c1_1)] 25 (0, 0))) ∧ Aside0 (wc.heap[gb379]? = some (.cells #[(.slice Ao33 t367.length co33), (.slice Ao37 t370.length co37)] 25 (0, 0))) ∧ Aside0 (wc.heap[gb385]? = some (.cells #[.int .i64 t380, (.slice Ao46 t381.length co46)] 49 (0, 0))) ∧ Aside0 (wc.heap[gb391]? = some (.cells #[.int .i64 t386, (.slice Ao56 t387.length co56)] 49 (0, 0))) ∧ Aside0 (Below w.heap.size w wc))
          case first =>
            have H := HC25.out
            clear HC25
            by_cases c59 : t380 = t386
            · rw [if_pos c59] at H
              have c59b0 : (t380 == t386) = true := beq_iff_eq.mpr c59
              have c59b1 : (t380 != t386) = false := bne_eq_false_iff_eq.mpr c59
              clear c59
              (first | rw [c59b0] | (simp only [i64_w, i32_w]; rw [c59b0]) | skip)
              by_cases c60 : (strOfNums t381).toList = (strOfNums t387).toList
              · rw [if_pos c60] at H
                have c60b0 : ((strOfNums t381).toList == (strOfNums t387).toList) = true := beq_iff_eq.mpr c60
                have c60b1 : ((strOfNums t381).toList != (strOfNums t387).toList) = false := bne_eq_false_iff_eq.mpr c60
                clear c60
                by_cases c61 : t384 = t390
                · rw [if_pos c61] at H
                  have c61b0 : (t384 == t390) = true := beq_iff_eq.mpr c61
                  have c61b1 : (t384 != t390) = false := bne_eq_false_iff_eq.mpr c61
                  clear c61
                  by_cases c62 : (strOfNums t392).toList = (strOfNums t396).toList
                  · rw [if_pos c62] at H
                    have c62b0 : ((strOfNums t392).toList == (strOfNums t396).toList) = true := beq_iff_eq.mpr c62
                    have c62b1 : ((strOfNums t392).toList != (strOfNums t396).toList) = false := bne_eq_false_iff_eq.mpr c62
                    clear c62
                    have H' := Aside0.mk H
                    clear H
                    have hnb63 := NB385_364.out
                    have hnc63 := NB364_385.out
                    have hnb64 := NB385_365.out
                    have hnc64 := NB365_385.out
                    have hnb65 := NB385_379.out
                    have hnc65 := NB379_385.out
                    have hnb66 := NB385_391.out
                    have hnc66 := NB391_385.out
                    have hcz67_0 : w58.cell? ⟨gb385, 0, none⟩ = some (.int .i64 t380) := (blk_cell BK385.out 0).trans rfl
                    have hcz67_1 : w58.cell? ⟨gb385, 1, none⟩ = some (.slice Ao46 t381.length co46) := (blk_cell BK385.out 1).trans rfl
                    have hfz67_0 := blk_frozen BK385.out 0
                    have hfz67_1 := blk_frozen BK385.out 1
                    have hnb68 := NB391_364.out
                    have hnc68 := NB364_391.out
                    have hnb69 := NB391_365.out
                    have hnc69 := NB365_391.out
                    have hnb70 := NB391_379.out
                    have hnc70 := NB379_391.out
                    have hcz71_0 : w58.cell? ⟨gb391, 0, none⟩ = some (.int .i64 t386) := (blk_cell BK391.out 0).trans rfl
                    have hcz71_1 : w58.cell? ⟨gb391, 1, none⟩ = some (.slice Ao56 t387.length co56) := (blk_cell BK391.out 1).trans rfl
                    have hfz71_0 := blk_frozen BK391.out 0
                    have hfz71_1 := blk_frozen BK391.out 1
                    have hcv72 := own_string (P := Try.prog) Try.underlying31 Try.underlying5 Try.underlying9 (Kd.own_of_R HO383.out)
                    have hcv73 := own_string (P := Try.prog) Try.underlying31 Try.underlying5 Try.underlying9 (Kd.own_of_R HO389.out)
                    have hcv74 := own_string (P := Try.prog) Try.underlying31 Try.underlying5 Try.underlying9 (Kd.own_of_R HO395.out)
                    have hcv75 := own_string (P := Try.prog) Try.underlying31 Try.underlying5 Try.underlying9 (Kd.own_of_R HO399.out)
                    go_wp2
                    go_meet
                    case rel => exact ⟨_, ((t393 == t397)), (by first | rfl | (simp; done) | (simp [*]; done)), H', ⟨by have := HJ6.out; first | omega | exact Nat.le_refl _⟩, ⟨by (with_reducible repeat (first | apply Kd.R_alloc | apply Kd.R_drewN | apply Kd.R_drew)); exact Kd.R_mono HO378.out (fun _ hk => ⟨hk.1.1.1.2, hk.1.1.2⟩)⟩, ⟨by (with_reducible repeat (first | apply Kd.S_alloc | apply Kd.S_drewN | apply Kd.S_drew)); exact Kd.S_mono HO369.out (fun _ hk => ⟨hk.1.1.1.1.2, ⟨hk.1.1.1.2, hk.1.1.2⟩⟩)⟩, ⟨by (with_reducible repeat (first | apply Kd.S_alloc | apply Kd.S_drewN | apply Kd.S_drew)); exact Kd.S_mono HO372.out (fun _ hk => ⟨hk.1.1.1.1.1.1.2, ⟨hk.1.1.1.1.1.2, ⟨hk.1.1.1.2, ⟨hk.1.1.1.1.2, hk.1.1.2⟩⟩⟩⟩)⟩, ⟨by (with_reducible repeat (first | apply Kd.R_alloc | apply Kd.R_drewN | apply Kd.R_drew)); exact Kd.R_mono HO383.out (fun _ hk => ⟨hk.1.1.1.2, hk.1.1.2⟩)⟩, ⟨by (with_reducible repeat (first | apply Kd.R_alloc | apply Kd.R_drewN | apply Kd.R_drew)); exact Kd.R_mono HO389.out (fun _ hk => ⟨hk.1.1.1.2, hk.1.1.2⟩)⟩, ⟨by (with_reducible repeat (first | refine blk_drewN ?_ _ | refine blk_drew ?_ | refine blk_alloc ?_ _)); exact BK364.out⟩, ⟨by (with_reducible repeat (first | refine blk_drewN ?_ _ | refine blk_drew ?_ | refine blk_alloc ?_ _)); exact BK365.out⟩, ⟨by (with_reducible repeat (first | refine blk_drewN ?_ _ | refine blk_drew ?_ | refine blk_alloc ?_ _)); exact BK379.out⟩, ⟨by (with_reducible repeat (first | refine blk_drewN ?_ _ | refine blk_drew ?_ | refine blk_alloc ?_ _)); exact BK385.out⟩, ⟨by (with_reducible repeat (first | refine blk_drewN ?_ _ | refine blk_drew ?_ | refine blk_alloc ?_ _)); exact BK391.out⟩, ⟨by repeat (first | (with_reducible first | exact HB.out | apply below_alloc | apply pw_below_drewN | apply below_drew1 | refine below_set ?_ GE364.out | refine below_set ?_ GE365.out | refine below_set ?_ GE379.out | refine below_set ?_ GE385.out | refine below_set ?_ GE391.out) | exact HB.out)⟩⟩
                  · rw [if_neg c62] at H
                    have c62b0 : ((strOfNums t392).toList == (strOfNums t396).toList) = false := beq_eq_false_iff_ne.mpr c62
                    have c62b1 : ((strOfNums t392).toList != (strOfNums t396).toList) = true := bne_iff_ne.mpr c62
                    have H' := Aside0.mk H
                    clear H
                    have hnb76 := NB385_364.out
                    have hnc76 := NB364_385.out
                    have hnb77 := NB385_365.out
                    have hnc77 := NB365_385.out
                    have hnb78 := NB385_379.out
                    have hnc78 := NB379_385.out
                    have hnb79 := NB385_391.out
                    have hnc79 := NB391_385.out
                    have hcz80_0 : w58.cell? ⟨gb385, 0, none⟩ = some (.int .i64 t380) := (blk_cell BK385.out 0).trans rfl
                    have hcz80_1 : w58.cell? ⟨gb385, 1, none⟩ = some (.slice Ao46 t381.length co46) := (blk_cell BK385.out 1).trans rfl
                    have hfz80_0 := blk_frozen BK385.out 0
                    have hfz80_1 := blk_frozen BK385.out 1
                    have hnb81 := NB391_364.out
                    have hnc81 := NB364_391.out
                    have hnb82 := NB391_365.out
                    have hnc82 := NB365_391.out
                    have hnb83 := NB391_379.out
                    have hnc83 := NB379_391.out
                    have hcz84_0 : w58.cell? ⟨gb391, 0, none⟩ = some (.int .i64 t386) := (blk_cell BK391.out 0).trans rfl
                    have hcz84_1 : w58.cell? ⟨gb391, 1, none⟩ = some (.slice Ao56 t387.length co56) := (blk_cell BK391.out 1).trans rfl
                    have hfz84_0 := blk_frozen BK391.out 0
                    have hfz84_1 := blk_frozen BK391.out 1
                    have hcv85 := own_string (P := Try.prog) Try.underlying31 Try.underlying5 Try.underlying9 (Kd.own_of_R HO383.out)
                    have hcv86 := own_string (P := Try.prog) Try.underlying31 Try.underlying5 Try.underlying9 (Kd.own_of_R HO389.out)
                    have hcv87 := own_string (P := Try.prog) Try.underlying31 Try.underlying5 Try.underlying9 (Kd.own_of_R HO395.out)
                    have hcv88 := own_string (P := Try.prog) Try.underlying31 Try.underlying5 Try.underlying9 (Kd.own_of_R HO399.out)
                    go_wp2
                    go_meet
                    case rel => exact ⟨_, (false), (by first | rfl | (simp; done) | (simp [*]; done)), H', ⟨by have := HJ6.out; first | omega | exact Nat.le_refl _⟩, ⟨by (with_reducible repeat (first | apply Kd.R_alloc | apply Kd.R_drewN | apply Kd.R_drew)); exact Kd.R_mono HO378.out (fun _ hk => ⟨hk.1.1.1.2, hk.1.1.2⟩)⟩, ⟨by (with_reducible repeat (first | apply Kd.S_alloc | apply Kd.S_drewN | apply Kd.S_drew)); exact Kd.S_mono HO369.out (fun _ hk => ⟨hk.1.1.1.1.2, ⟨hk.1.1.1.2, hk.1.1.2⟩⟩)⟩, ⟨by (with_reducible repeat (first | apply Kd.S_alloc | apply Kd.S_drewN | apply Kd.S_drew)); exact Kd.S_mono HO372.out (fun _ hk => ⟨hk.1.1.1.1.1.1.2, ⟨hk.1.1.1.1.1.2, ⟨hk.1.1.1.2, ⟨hk.1.1.1.1.2, hk.1.1.2⟩⟩⟩⟩)⟩, ⟨by (with_reducible repeat (first | apply Kd.R_alloc | apply Kd.R_drewN | apply Kd.R_drew)); exact Kd.R_mono HO383.out (fun _ hk => ⟨hk.1.1.1.2, hk.1.1.2⟩)⟩, ⟨by (with_reducible repeat (first | apply Kd.R_alloc | apply Kd.R_drewN | apply Kd.R_drew)); exact Kd.R_mono HO389.out (fun _ hk => ⟨hk.1.1.1.2, hk.1.1.2⟩)⟩, ⟨by (with_reducible repeat (first | refine blk_drewN ?_ _ | refine blk_drew ?_ | refine blk_alloc ?_ _)); exact BK364.out⟩, ⟨by (with_reducible repeat (first | refine blk_drewN ?_ _ | refine blk_drew ?_ | refine blk_alloc ?_ _)); exact BK365.out⟩, ⟨by (with_reducible repeat (first | refine blk_drewN ?_ _ | refine blk_drew ?_ | refine blk_alloc ?_ _)); exact BK379.out⟩, ⟨by (with_reducible repeat (first | refine blk_drewN ?_ _ | refine blk_drew ?_ | refine blk_alloc ?_ _)); exact BK385.out⟩, ⟨by (with_reducible repeat (first | refine blk_drewN ?_ _ | refine blk_drew ?_ | refine blk_alloc ?_ _)); exact BK391.out⟩, ⟨by repeat (first | (with_reducible first | exact HB.out | apply below_alloc | apply pw_below_drewN | apply below_drew1 | refine below_set ?_ GE364.out | refine below_set ?_ GE365.out | refine below_set ?_ GE379.out | refine below_set ?_ GE385.out | refine below_set ?_ GE391.out) | exact HB.out)⟩⟩
                · rw [if_neg c61] at H
                  have c61b0 : (t384 == t390) = false := beq_eq_false_iff_ne.mpr c61
                  have c61b1 : (t384 != t390) = true := bne_iff_ne.mpr c61
                  have H' := Aside0.mk H
                  clear H
                  have hnb89 := NB385_364.out
                  have hnc89 := NB364_385.out
                  have hnb90 := NB385_365.out
                  have hnc90 := NB365_385.out
                  have hnb91 := NB385_379.out
                  have hnc91 := NB379_385.out
                  have hnb92 := NB385_391.out
                  have hnc92 := NB391_385.out
                  have hcz93_0 : w58.cell? ⟨gb385, 0, none⟩ = some (.int .i64 t380) := (blk_cell BK385.out 0).trans rfl
                  have hcz93_1 : w58.cell? ⟨gb385, 1, none⟩ = some (.slice Ao46 t381.length co46) := (blk_cell BK385.out 1).trans rfl
                  have hfz93_0 := blk_frozen BK385.out 0
                  have hfz93_1 := blk_frozen BK385.out 1
                  have hnb94 := NB391_364.out
                  have hnc94 := NB364_391.out
                  have hnb95 := NB391_365.out
                  have hnc95 := NB365_391.out
                  have hnb96 := NB391_379.out
                  have hnc96 := NB379_391.out
                  have hcz97_0 : w58.cell? ⟨gb391, 0, none⟩ = some (.int .i64 t386) := (blk_cell BK391.out 0).trans rfl
                  have hcz97_1 : w58.cell? ⟨gb391, 1, none⟩ = some (.slice Ao56 t387.length co56) := (blk_cell BK391.out 1).trans rfl
                  have hfz97_0 := blk_frozen BK391.out 0
                  have hfz97_1 := blk_frozen BK391.out 1
                  have hcv98 := own_string (P := Try.prog) Try.underlying31 Try.underlying5 Try.underlying9 (Kd.own_of_R HO383.out)
                  have hcv99 := own_string (P := Try.prog) Try.underlying31 Try.underlying5 Try.underlying9 (Kd.own_of_R HO389.out)
                  go_wp2
                  go_meet
                  case rel => exact ⟨_, (false), (by first | rfl | (simp; done) | (simp [*]; done)), H', ⟨by have := HJ6.out; first | omega | exact Nat.le_refl _⟩, ⟨by (with_reducible repeat (first | apply Kd.R_alloc | apply Kd.R_drewN | apply Kd.R_drew)); exact Kd.R_mono HO378.out (fun _ hk => ⟨hk.1.1.1.2, hk.1.1.2⟩)⟩, ⟨by (with_reducible repeat (first | apply Kd.S_alloc | apply Kd.S_drewN | apply Kd.S_drew)); exact Kd.S_mono HO369.out (fun _ hk => ⟨hk.1.1.1.1.2, ⟨hk.1.1.1.2, hk.1.1.2⟩⟩)⟩, ⟨by (with_reducible repeat (first | apply Kd.S_alloc | apply Kd.S_drewN | apply Kd.S_drew)); exact Kd.S_mono HO372.out (fun _ hk => ⟨hk.1.1.1.1.1.1.2, ⟨hk.1.1.1.1.1.2, ⟨hk.1.1.1.2, ⟨hk.1.1.1.1.2, hk.1.1.2⟩⟩⟩⟩)⟩, ⟨by (with_reducible repeat (first | apply Kd.R_alloc | apply Kd.R_drewN | apply Kd.R_drew)); exact Kd.R_mono HO383.out (fun _ hk => ⟨hk.1.1.1.2, hk.1.1.2⟩)⟩, ⟨by (with_reducible repeat (first | apply Kd.R_alloc | apply Kd.R_drewN | apply Kd.R_drew)); exact Kd.R_mono HO389.out (fun _ hk => ⟨hk.1.1.1.2, hk.1.1.2⟩)⟩, ⟨by (with_reducible repeat (first | refine blk_drewN ?_ _ | refine blk_drew ?_ | refine blk_alloc ?_ _)); exact BK364.out⟩, ⟨by (with_reducible repeat (first | refine blk_drewN ?_ _ | refine blk_drew ?_ | refine blk_alloc ?_ _)); exact BK365.out⟩, ⟨by (with_reducible repeat (first | refine blk_drewN ?_ _ | refine blk_drew ?_ | refine blk_alloc ?_ _)); exact BK379.out⟩, ⟨by (with_reducible repeat (first | refine blk_drewN ?_ _ | refine blk_drew ?_ | refine blk_alloc ?_ _)); exact BK385.out⟩, ⟨by (with_reducible repeat (first | refine blk_drewN ?_ _ | refine blk_drew ?_ | refine blk_alloc ?_ _)); exact BK391.out⟩, ⟨by repeat (first | (with_reducible first | exact HB.out | apply below_alloc | apply pw_below_drewN | apply below_drew1 | refine below_set ?_ GE364.out | refine below_set ?_ GE365.out | refine below_set ?_ GE379.out | refine below_set ?_ GE385.out | refine below_set ?_ GE391.out) | exact HB.out)⟩⟩
              · rw [if_neg c60] at H
                have c60b0 : ((strOfNums t381).toList == (strOfNums t387).toList) = false := beq_eq_false_iff_ne.mpr c60
                have c60b1 : ((strOfNums t381).toList != (strOfNums t387).toList) = true := bne_iff_ne.mpr c60
                have H' := Aside0.mk H
                clear H
                have hnb100 := NB385_364.out
                have hnc100 := NB364_385.out
                have hnb101 := NB385_365.out
                have hnc101 := NB365_385.out
                have hnb102 := NB385_379.out
                have hnc102 := NB379_385.out
                have hnb103 := NB385_391.out
                have hnc103 := NB391_385.out
                have hcz104_0 : w58.cell? ⟨gb385, 0, none⟩ = some (.int .i64 t380) := (blk_cell BK385.out 0).trans rfl
                have hcz104_1 : w58.cell? ⟨gb385, 1, none⟩ = some (.slice Ao46 t381.length co46) := (blk_cell BK385.out 1).trans rfl
                have hfz104_0 := blk_frozen BK385.out 0
                have hfz104_1 := blk_frozen BK385.out 1
                have hnb105 := NB391_364.out
                have hnc105 := NB364_391.out
                have hnb106 := NB391_365.out
                have hnc106 := NB365_391.out
                have hnb107 := NB391_379.out
                have hnc107 := NB379_391.out
                have hcz108_0 : w58.cell? ⟨gb391, 0, none⟩ = some (.int .i64 t386) := (blk_cell BK391.out 0).trans rfl
                have hcz108_1 : w58.cell? ⟨gb391, 1, none⟩ = some (.slice Ao56 t387.length co56) := (blk_cell BK391.out 1).trans rfl
                have hfz108_0 := blk_frozen BK391.out 0
                have hfz108_1 := blk_frozen BK391.out 1
                have hcv109 := own_string (P := Try.prog) Try.underlying31 Try.underlying5 Try.underlying9 (Kd.own_of_R HO383.out)
                have hcv110 := own_string (P := Try.prog) Try.underlying31 Try.underlying5 Try.underlying9 (Kd.own_of_R HO389.out)
                go_wp2
                go_meet
                case rel => exact ⟨_, (false), (by first | rfl | (simp; done) | (simp [*]; done)), H', ⟨by have := HJ6.out; first | omega | exact Nat.le_refl _⟩, ⟨by (with_reducible repeat (first | apply Kd.R_alloc | apply Kd.R_drewN | apply Kd.R_drew)); exact Kd.R_mono HO378.out (fun _ hk => ⟨hk.1.1.1.2, hk.1.1.2⟩)⟩, ⟨by (with_reducible repeat (first | apply Kd.S_alloc | apply Kd.S_drewN | apply Kd.S_drew)); exact Kd.S_mono HO369.out (fun _ hk => ⟨hk.1.1.1.1.2, ⟨hk.1.1.1.2, hk.1.1.2⟩⟩)⟩, ⟨by (with_reducible repeat (first | apply Kd.S_alloc | apply Kd.S_drewN | apply Kd.S_drew)); exact Kd.S_mono HO372.out (fun _ hk => ⟨hk.1.1.1.1.1.1.2, ⟨hk.1.1.1.1.1.2, ⟨hk.1.1.1.2, ⟨hk.1.1.1.1.2, hk.1.1.2⟩⟩⟩⟩)⟩, ⟨by (with_reducible repeat (first | apply Kd.R_alloc | apply Kd.R_drewN | apply Kd.R_drew)); exact Kd.R_mono HO383.out (fun _ hk => ⟨hk.1.1.1.2, hk.1.1.2⟩)⟩, ⟨by (with_reducible repeat (first | apply Kd.R_alloc | apply Kd.R_drewN | apply Kd.R_drew)); exact Kd.R_mono HO389.out (fun _ hk => ⟨hk.1.1.1.2, hk.1.1.2⟩)⟩, ⟨by (with_reducible repeat (first | refine blk_drewN ?_ _ | refine blk_drew ?_ | refine blk_alloc ?_ _)); exact BK364.out⟩, ⟨by (with_reducible repeat (first | refine blk_drewN ?_ _ | refine blk_drew ?_ | refine blk_alloc ?_ _)); exact BK365.out⟩, ⟨by (with_reducible repeat (first | refine blk_drewN ?_ _ | refine blk_drew ?_ | refine blk_alloc ?_ _)); exact BK379.out⟩, ⟨by (with_reducible repeat (first | refine blk_drewN ?_ _ | refine blk_drew ?_ | refine blk_alloc ?_ _)); exact BK385.out⟩, ⟨by (with_reducible repeat (first | refine blk_drewN ?_ _ | refine blk_drew ?_ | refine blk_alloc ?_ _)); exact BK391.out⟩, ⟨by repeat (first | (with_reducible first | exact HB.out | apply below_alloc | apply pw_below_drewN | apply below_drew1 | refine below_set ?_ GE364.out | refine below_set ?_ GE365.out | refine below_set ?_ GE379.out | refine below_set ?_ GE385.out | refine below_set ?_ GE391.out) | exact HB.out)⟩⟩
            · rw [if_neg c59] at H
              have c59b0 : (t380 == t386) = false := beq_eq_false_iff_ne.mpr c59
              have c59b1 : (t380 != t386) = true := bne_iff_ne.mpr c59
              (first | rw [c59b0] | (simp only [i64_w, i32_w]; rw [c59b0]) | skip)
              have H' := Aside0.mk H
              clear H
              have hnb111 := NB385_364.out
              have hnc111 := NB364_385.out
              have hnb112 := NB385_365.out
              have hnc112 := NB365_385.out
              have hnb113 := NB385_379.out
              have hnc113 := NB379_385.out
              have hnb114 := NB385_391.out
              have hnc114 := NB391_385.out
              have hcz115_0 : w58.cell? ⟨gb385, 0, none⟩ = some (.int .i64 t380) := (blk_cell BK385.out 0).trans rfl
              have hcz115_1 : w58.cell? ⟨gb385, 1, none⟩ = some (.slice Ao46 t381.length co46) := (blk_cell BK385.out 1).trans rfl
              have hfz115_0 := blk_frozen BK385.out 0
              have hfz115_1 := blk_frozen BK385.out 1
              have hnb116 := NB391_364.out
              have hnc116 := NB364_391.out
              have hnb117 := NB391_365.out
              have hnc117 := NB365_391.out
              have hnb118 := NB391_379.out
              have hnc118 := NB379_391.out
              have hcz119_0 : w58.cell? ⟨gb391, 0, none⟩ = some (.int .i64 t386) := (blk_cell BK391.out 0).trans rfl
              have hcz119_1 : w58.cell? ⟨gb391, 1, none⟩ = some (.slice Ao56 t387.length co56) := (blk_cell BK391.out 1).trans rfl
              have hfz119_0 := blk_frozen BK391.out 0
              have hfz119_1 := blk_frozen BK391.out 1
              go_wp2
              go_meet
              case rel => exact ⟨_, (false), (by first | rfl | (simp; done) | (simp [*]; done)), H', ⟨by have := HJ6.out; first | omega | exact Nat.le_refl _⟩, ⟨by (with_reducible repeat (first | apply Kd.R_alloc | apply Kd.R_drewN | apply Kd.R_drew)); exact Kd.R_mono HO378.out (fun _ hk => ⟨hk.1.1.1.2, hk.1.1.2⟩)⟩, ⟨by (with_reducible repeat (first | apply Kd.S_alloc | apply Kd.S_drewN | apply Kd.S_drew)); exact Kd.S_mono HO369.out (fun _ hk => ⟨hk.1.1.1.1.2, ⟨hk.1.1.1.2, hk.1.1.2⟩⟩)⟩, ⟨by (with_reducible repeat (first | apply Kd.S_alloc | apply Kd.S_drewN | apply Kd.S_drew)); exact Kd.S_mono HO372.out (fun _ hk => ⟨hk.1.1.1.1.1.1.2, ⟨hk.1.1.1.1.1.2, ⟨hk.1.1.1.2, ⟨hk.1.1.1.1.2, hk.1.1.2⟩⟩⟩⟩)⟩, ⟨by (with_reducible repeat (first | apply Kd.R_alloc | apply Kd.R_drewN | apply Kd.R_drew)); exact Kd.R_mono HO383.out (fun _ hk => ⟨hk.1.1.1.2, hk.1.1.2⟩)⟩, ⟨by (with_reducible repeat (first | apply Kd.R_alloc | apply Kd.R_drewN | apply Kd.R_drew)); exact Kd.R_mono HO389.out (fun _ hk => ⟨hk.1.1.1.2, hk.1.1.2⟩)⟩, ⟨by (with_reducible repeat (first | refine blk_drewN ?_ _ | refine blk_drew ?_ | refine blk_alloc ?_ _)); exact BK364.out⟩, ⟨by (with_reducible repeat (first | refine blk_drewN ?_ _ | refine blk_drew ?_ | refine blk_alloc ?_ _)); exact BK365.out⟩, ⟨by (with_reducible repeat (first | refine blk_drewN ?_ _ | refine blk_drew ?_ | refine blk_alloc ?_ _)); exact BK379.out⟩, ⟨by (with_reducible repeat (first | refine blk_drewN ?_ _ | refine blk_drew ?_ | refine blk_alloc ?_ _)); exact BK385.out⟩, ⟨by (with_reducible repeat (first | refine blk_drewN ?_ _ | refine blk_drew ?_ | refine blk_alloc ?_ _)); exact BK391.out⟩, ⟨by repeat (first | (with_reducible first | exact HB.out | apply below_alloc | apply pw_below_drewN | apply below_drew1 | refine below_set ?_ GE364.out | refine below_set ?_ GE365.out | refine below_set ?_ GE379.out | refine below_set ?_ GE385.out | refine below_set ?_ GE391.out) | exact HB.out)⟩⟩
          case rest =>
            clear HC25
            try clear c1
            try clear hcv1
            try clear c2
            try clear p2
            try clear c3
            try clear c4
            try clear c5
            try clear c6
            try clear c7
            try clear hcv7
            try clear c8
            try clear hcv8
            try clear c9
            try clear hcv9
            try clear c10
            try clear hcv10
            try clear c11
            try clear hcv11
            try clear c12
            try clear c15
            try clear c18
            try clear c20
            try clear c24
            try clear c25
            try clear c26
            try clear c27
            try clear c28
            try clear c29
            try clear c34
            try clear c35
            try clear c42
            try clear c43
            try clear c44
            try clear c51
            try clear c52
            try clear c53
            try clear c54
            try clear c59
            try clear c59b0
            try clear c59b1
            try clear c60
            try clear c60b0
            try clear c60b1
            try clear c61
            try clear c61b0
            try clear c61b1
            try clear c62
            try clear c62b0
            try clear c62b1
            try clear c63
            try clear c64
            try clear c65
            try clear c66
            try clear c68
            try clear c69
            try clear c70
            try clear hcv72
            try clear hcv73
            try clear hcv74
            try clear hcv75
            try clear c76
            try clear c77
            try clear c78
            try clear c79
            try clear c81
            try clear c82
            try clear c83
            try clear hcv85
            try clear hcv86
            try clear hcv87
            try clear hcv88
            try clear c89
            try clear c90
            try clear c91
            try clear c92
            try clear c94
            try clear c95
            try clear c96
            try clear hcv98
            try clear hcv99
            try clear c100
            try clear c101
            try clear c102
            try clear c103
            try clear c105
            try clear c106
            try clear c107
            try clear hcv109
            try clear hcv110
            try clear c111
            try clear c112
            try clear c113
            try clear c114
            try clear c116
            try clear c117
            try clear c118
            try clear hcz104_0
            try clear hcz104_1
            try clear hcz108_0
            try clear hcz108_1
            try clear hcz115_0
            try clear hcz115_1
            try clear hcz119_0
            try clear hcz119_1
            try clear hcz13_0
            try clear hcz13_1
            try clear hcz16_0
            try clear hcz16_1
            try clear hcz27_0
            try clear hcz27_1
            try clear hcz36_0
            try clear hcz36_1
            try clear hcz38_0
            try clear hcz38_1
            try clear hcz38_2
            try clear hcz38_3
            try clear hcz38_4
            try clear hcz38_5
            try clear hcz45_0
            try clear hcz45_1
            try clear hcz47_0
            try clear hcz47_1
            try clear hcz47_2
            try clear hcz47_3
            try clear hcz47_4
            try clear hcz47_5
            try clear hcz48_0
            try clear hcz48_1
            try clear hcz55_0
            try clear hcz55_1
            try clear hcz67_0
            try clear hcz67_1
            try clear hcz71_0
            try clear hcz71_1
            try clear hcz80_0
            try clear hcz80_1
            try clear hcz84_0
            try clear hcz84_1
            try clear hcz93_0
            try clear hcz93_1
            try clear hcz97_0
            try clear hcz97_1
            try clear hfz104_0
            try clear hfz104_1
            try clear hfz108_0
            try clear hfz108_1
            try clear hfz115_0
            try clear hfz115_1
            try clear hfz119_0
            try clear hfz119_1
            try clear hfz13_0
            try clear hfz13_1
            try clear hfz16_0
            try clear hfz16_1
            try clear hfz27_0
            try clear hfz27_1
            try clear hfz36_0
            try clear hfz36_1
            try clear hfz38_0
            try clear hfz38_1
            try clear hfz38_2
            try clear hfz38_3
            try clear hfz38_4
            try clear hfz38_5
            try clear hfz45_0
            try clear hfz45_1
            try clear hfz47_0
            try clear hfz47_1
            try clear hfz47_2
            try clear hfz47_3
            try clear hfz47_4
            try clear hfz47_5
            try clear hfz48_0
            try clear hfz48_1
            try clear hfz55_0
            try clear hfz55_1
            try clear hfz67_0
            try clear hfz67_1
            try clear hfz71_0
            try clear hfz71_1
            try clear hfz80_0
            try clear hfz80_1
            try clear hfz84_0
            try clear hfz84_1
            try clear hfz93_0
            try clear hfz93_1
            try clear hfz97_0
            try clear hfz97_1
            try clear p2
            obtain ⟨kq, x23_24, rfl, HA, HJ24, HO_14, HO_380000, HO_380001, HO_386001, HO_392001, BK364, BK365, BK379, BK385, BK391, HB⟩ := hcut
            cases kq with
            | zero => exact absurd HA.out (by simp [catamaranlaw10_JournalPlans.j1])
            | succ kj24 =>
              have H := HA.out
              clear HA
              simp only [catamaranlaw10_JournalPlans.j1] at H
              have H' := Aside0.mk H
              clear H
              go_wp2
              go_loopg [24] kj24 (fun kq v24 w' => ∃ (x14_3 : List Int) (x24_3 : Int) (x386001_3 : List Int) (x392001_3 : List Int) (u386001 : Value) (u392001 : Value), v24 = .int .i64 x24_3 ∧ Aside0 (catamaranlaw10_JournalPlans.l0 kq l5 x14_3 x23_24 x24_3 l1_0 l1_1 t367 t370 t380 x386001_3 = some r) ∧ Aside0 (kq ≤ kj24) ∧ Aside0 (Kd.R (Kd.int .u8) 5 w' w.heap.size (fun k_ => some k_ ≠ (u386001 : Value).ownBlock ∧ some k_ ≠ (u392001 : Value).ownBlock) (.slice Ao39 y376.length co39) x14_3) ∧ Aside0 (Kd.S k39 39 w' w.heap.size (fun k_ => some k_ ≠ ((.slice Ao39 y376.length co39) : Value).ownBlock ∧ some k_ ≠ (u386001 : Value).ownBlock ∧ some k_ ≠ (u392001 : Value).ownBlock) (.slice Ao33 t367.length co33) t367) ∧ Aside0 (Kd.S k49 49 w' w.heap.size (fun k_ => some k_ ≠ ((.slice Ao39 y376.length co39) : Value).ownBlock ∧ some k_ ≠ (u386001 : Value).ownBlock ∧ some k_ ≠ (u392001 : Value).ownBlock ∧ k_ ≠ gb385 ∧ k_ ≠ gb391) (.slice Ao37 t370.length co37) t370) ∧ Aside0 (Kd.R (Kd.int .u8) 5 w' w.heap.size (fun k_ => some k_ ≠ ((.slice Ao39 y376.length co39) : Value).ownBlock ∧ some k_ ≠ (u392001 : Value).ownBlock) u386001 x386001_3) ∧ Aside0 (Kd.R (Kd.int .u8) 5 w' w.heap.size (fun k_ => some k_ ≠ ((.slice Ao39 y376.length co39) : Value).ownBlock ∧ some k_ ≠ (u386001 : Value).ownBlock) u392001 x392001_3) ∧ Aside0 (w'.heap[gb364]? = some (.cells #[.int .i64 a0_0, .int .i64 a0_1, .int .i64 a0_2, .int .i64 a0_3, .int .i64 a0_4, .int .i64 a0_5] 44 (0, 0))) ∧ Aside0 (w'.heap[gb365]? = some (.cells #[(.slice A1_0 l1_0.length c1_0), (.slice A1_1 l1_1.length c1_1)] 25 (0, 0))) ∧ Aside0 (w'.heap[gb379]? = some (.cells #[(.slice Ao33 t367.length co33), (.slice Ao37 t370.length co37)] 25 (0, 0))) ∧ Aside0 (w'.heap[gb385]? = some (.cells #[.int .i64 t380, u386001] 49 (0, 0))) ∧ Aside0 (w'.heap[gb391]? = some (.cells #[.int .i64 t386, u392001] 49 (0, 0))) ∧ Aside0 (Below w.heap.size w w'))
              case atStart => exact ⟨(y376), (0), (t381), (t387), (.slice Ao46 t381.length co46), (.slice Ao56 t387.length co56), (by first | rfl | (simp; done) | (simp [*]; done)), H', ⟨Nat.le_refl _⟩, ⟨by (with_reducible repeat (first | apply Kd.R_alloc | apply Kd.R_drewN | apply Kd.R_drew)); exact HO_14.out⟩, ⟨by (with_reducible repeat (first | apply Kd.S_alloc | apply Kd.S_drewN | apply Kd.S_drew)); exact HO_380000.out⟩, ⟨by (with_reducible repeat (first | apply Kd.S_alloc | apply Kd.S_drewN | apply Kd.S_drew)); exact HO_380001.out⟩, ⟨by (with_reducible repeat (first | apply Kd.R_alloc | apply Kd.R_drewN | apply Kd.R_drew)); exact HO_386001.out⟩, ⟨by (with_reducible repeat (first | apply Kd.R_alloc | apply Kd.R_drewN | apply Kd.R_drew)); exact HO_392001.out⟩, ⟨by (with_reducible repeat (first | refine blk_drewN ?_ _ | refine blk_drew ?_ | refine blk_alloc ?_ _)); exact BK364.out⟩, ⟨by (with_reducible repeat (first | refine blk_drewN ?_ _ | refine blk_drew ?_ | refine blk_alloc ?_ _)); exact BK365.out⟩, ⟨by (with_reducible repeat (first | refine blk_drewN ?_ _ | refine blk_drew ?_ | refine blk_alloc ?_ _)); exact BK379.out⟩, ⟨by (with_reducible repeat (first | refine blk_drewN ?_ _ | refine blk_drew ?_ | refine blk_alloc ?_ _)); exact BK385.out⟩, ⟨by (with_reducible repeat (first | refine blk_drewN ?_ _ | refine blk_drew ?_ | refine blk_alloc ?_ _)); exact BK391.out⟩, ⟨by repeat (first | (with_reducible first | exact HB.out | apply below_alloc | apply pw_below_drewN | apply below_drew1 | refine below_set ?_ GE364.out | refine below_set ?_ GE365.out | refine below_set ?_ GE379.out | refine below_set ?_ GE385.out | refine below_set ?_ GE391.out) | exact HB.out)⟩⟩
              case round =>
                clear H'
                try clear c1
                try clear hcv1
                try clear c2
                try clear p2
                try clear c3
                try clear c4
                try clear c5
                try clear c6
                try clear c7
                try clear hcv7
                try clear c8
                try clear hcv8
                try clear c9
                try clear hcv9
                try clear c10
                try clear hcv10
                try clear c11
                try clear hcv11
                try clear c12
                try clear c15
                try clear c18
                try clear c20
                try clear c24
                try clear c25
                try clear c26
                try clear c27
                try clear c28
                try clear c29
                try clear c34
                try clear c35
                try clear c42
                try clear c43
                try clear c44
                try clear c51
                try clear c52
                try clear c53
                try clear c54
                try clear c59
                try clear c59b0
                try clear c59b1
                try clear c60
                try clear c60b0
                try clear c60b1
                try clear c61
                try clear c61b0
                try clear c61b1
                try clear c62
                try clear c62b0
                try clear c62b1
                try clear c63
                try clear c64
                try clear c65
                try clear c66
                try clear c68
                try clear c69
                try clear c70
                try clear hcv72
                try clear hcv73
                try clear hcv74
                try clear hcv75
                try clear c76
                try clear c77
                try clear c78
                try clear c79
                try clear c81
                try clear c82
                try clear c83
                try clear hcv85
                try clear hcv86
                try clear hcv87
                try clear hcv88
                try clear c89
                try clear c90
                try clear c91
                try clear c92
                try clear c94
                try clear c95
                try clear c96
                try clear hcv98
                try clear hcv99
                try clear c100
                try clear c101
                try clear c102
                try clear c103
                try clear c105
                try clear c106
                try clear c107
                try clear hcv109
                try clear hcv110
                try clear c111
                try clear c112
                try clear c113
                try clear c114
                try clear c116
                try clear c117
                try clear c118
                try clear hcz104_0
                try clear hcz104_1
                try clear hcz108_0
                try clear hcz108_1
                try clear hcz115_0
                try clear hcz115_1
                try clear hcz119_0
                try clear hcz119_1
                try clear hcz13_0
                try clear hcz13_1
                try clear hcz16_0
                try clear hcz16_1
                try clear hcz27_0
                try clear hcz27_1
                try clear hcz36_0
                try clear hcz36_1
                try clear hcz38_0
                try clear hcz38_1
                try clear hcz38_2
                try clear hcz38_3
                try clear hcz38_4
                try clear hcz38_5
                try clear hcz45_0
                try clear hcz45_1
                try clear hcz47_0
                try clear hcz47_1
                try clear hcz47_2
                try clear hcz47_3
                try clear hcz47_4
                try clear hcz47_5
                try clear hcz48_0
                try clear hcz48_1
                try clear hcz55_0
                try clear hcz55_1
                try clear hcz67_0
                try clear hcz67_1
                try clear hcz71_0
                try clear hcz71_1
                try clear hcz80_0
                try clear hcz80_1
                try clear hcz84_0
                try clear hcz84_1
                try clear hcz93_0
                try clear hcz93_1
                try clear hcz97_0
                try clear hcz97_1
                try clear hfz104_0
                try clear hfz104_1
                try clear hfz108_0
                try clear hfz108_1
                try clear hfz115_0
                try clear hfz115_1
                try clear hfz119_0
                try clear hfz119_1
                try clear hfz13_0
                try clear hfz13_1
                try clear hfz16_0
                try clear hfz16_1
                try clear hfz27_0
                try clear hfz27_1
                try clear hfz36_0
                try clear hfz36_1
                try clear hfz38_0
                try clear hfz38_1
                try clear hfz38_2
                try clear hfz38_3
                try clear hfz38_4
                try clear hfz38_5
                try clear hfz45_0
                try clear hfz45_1
                try clear hfz47_0
                try clear hfz47_1
                try clear hfz47_2
                try clear hfz47_3
                try clear hfz47_4
                try clear hfz47_5
                try clear hfz48_0
                try clear hfz48_1
                try clear hfz55_0
                try clear hfz55_1
                try clear hfz67_0
                try clear hfz67_1
                try clear hfz71_0
                try clear hfz71_1
                try clear hfz80_0
                try clear hfz80_1
                try clear hfz84_0
                try clear hfz84_1
                try clear hfz93_0
                try clear hfz93_1
                try clear hfz97_0
                try clear hfz97_1
                try clear p2
                obtain ⟨x14_3, x24_3, x386001_3, x392001_3, u386001, u392001, rfl, HA, HK3, HO_14, HO_380000, HO_380001, HO_386001, HO_392001, BK364, BK365, BK379, BK385, BK391, HB⟩ := hrel
                have hl14_3 := (Kd.R_reads' HO_14.out).1
                rw [hl14_3] at HO_14
                (try simp only [hl14_3])
                (try simp only [hl14_3] at BK364)
                (try simp only [hl14_3] at BK365)
                (try simp only [hl14_3] at BK379)
                (try simp only [hl14_3] at BK385)
                (try simp only [hl14_3] at BK391)
                (try simp only [hl14_3] at HO_380000)
                (try simp only [hl14_3] at HO_380001)
                (try simp only [hl14_3] at HO_386001)
                (try simp only [hl14_3] at HO_392001)
                cases gk with
                | zero => exact absurd HA.out (by simp [catamaranlaw10_JournalPlans.l0])
                | succ k3 =>
                  have H := HA.out
                  clear HA
                  simp only [catamaranlaw10_JournalPlans.l0] at H
                  by_cases c120 : x24_3 < (x386001_3.length : Int)
                  · rw [if_pos c120] at H
                    have c120b0 : decide (x24_3 < (x386001_3.length : Int)) = true := decide_eq_true c120
                    clear c120
                    by_cases c121 : 0 ≤ x24_3
                    · rw [if_pos c121] at H
                      have c121b0 : decide (0 ≤ x24_3) = true := decide_eq_true c121
                      clear c121
                      obtain ⟨y401, hy401⟩ : ∃ y_ : List Int, y_ = (x386001_3.set (x24_3 : Int).toNat (((rd x386001_3 x24_3) + 1) % 256)) := ⟨_, rfl⟩
                      replace H : (catamaranlaw10_JournalPlans.l0 k3 l5 x14_3 x23_24 (wrap64 (x24_3 + 1)) l1_0 l1_1 t367 t370 t380 y401) = some r := by first | (rw [hy401]; with_reducible exact H) | (have H2_ := (Option.bind_some _ _).symm.trans H; rw [hy401]; with_reducible exact H2_) | (have H2_ := (Option.bind_some _ _).symm.trans H; with_reducible exact H2_) | with_reducible exact H | (rw [hy401]; exact H) | exact H
                      have Ny401 := Aside0.mk hy401
                      clear hy401
                      have H' := Aside0.mk H
                      clear H
                      have hnb123 := NB385_364.out
                      have hnc123 := NB364_385.out
                      have hnb124 := NB385_365.out
                      have hnc124 := NB365_385.out
                      have hnb125 := NB385_379.out
                      have hnc125 := NB379_385.out
                      have hnb126 := NB385_391.out
                      have hnc126 := NB391_385.out
                      have hcz127_0 : wr.cell? ⟨gb385, 0, none⟩ = some (.int .i64 t380) := (blk_cell BK385.out 0).trans rfl
                      have hcz127_1 : wr.cell? ⟨gb385, 1, none⟩ = some (u386001) := (blk_cell BK385.out 1).trans rfl
                      have hfz127_0 := blk_frozen BK385.out 0
                      have hfz127_1 := blk_frozen BK385.out 1
                      obtain ⟨Ao128, co128, eo128⟩ := Kd.R_slice HO_386001.out
                      subst eo128
                      try go_wp2
                      have n0_ := Aside0.mk (Kd.R_drew HO_14.out)
                      have n1_ := Aside0.mk (Kd.S_drew HO_380000.out)
                      have n2_ := Aside0.mk (Kd.S_drew HO_380001.out)
                      have n3_ := Aside0.mk (Kd.R_drew HO_386001.out)
                      have n4_ := Aside0.mk (Kd.R_drew HO_392001.out)
                      have n5_ := Aside0.mk (blk_drew BK364.out)
                      have n6_ := Aside0.mk (blk_drew BK365.out)
                      have n7_ := Aside0.mk (blk_drew BK379.out)
                      have n8_ := Aside0.mk (blk_drew BK385.out)
                      have n9_ := Aside0.mk (blk_drew BK391.out)
                      have n10_ := Aside0.mk (below_drew1 HB.out)
                      clear HO_14
                      clear HO_380000
                      clear HO_380001
                      clear HO_386001
                      clear HO_392001
                      clear BK364
                      clear BK365
                      clear BK379
                      clear BK385
                      clear BK391
                      clear HB
                      have HO_14 := n0_
                      have HO_380000 := n1_
                      have HO_380001 := n2_
                      have HO_386001 := n3_
                      have HO_392001 := n4_
                      have BK364 := n5_
                      have BK365 := n6_
                      have BK379 := n7_
                      have BK385 := n8_
                      have BK391 := n9_
                      have HB := n10_
                      clear n0_ n1_ n2_ n3_ n4_ n5_ n6_ n7_ n8_ n9_ n10_
                      have p400 : 0 ≤ (x24_3 : Int) := of_decide_eq_true (by first | (with_reducible assumption) | assumption)
                      have q400 : x24_3 < (x386001_3.length : Int) := of_decide_eq_true (by first | (with_reducible assumption) | assumption)
                      obtain ⟨ad400, e400, hx400_0⟩ := Kd.at_int (Kd.R_reads' HO_386001.out).2.2 x24_3 p400 q400
                      cases e400
                      replace p400 := eq_true p400
                      replace q400 := eq_true q400
                      have p122 : 0 ≤ (x24_3 : Int) := of_decide_eq_true (by first | (with_reducible assumption) | assumption)
                      have q122 : (x24_3 : Int) < ((x386001_3.length : Int) : Int) := of_decide_eq_true (by first | (with_reducible assumption) | assumption)
                      obtain ⟨go122, co122, eo122, gb122, gl122, cl122, HG122⟩ := Kd.R_form HO_386001.out (by omega)
                      (first | cases eo122 | (injection eo122 with ea_ en_ ec_; (first | subst ea_ | (injection ea_ with ea_; subst ea_)); subst ec_; clear en_))
                      have GB122 := Aside0.mk gb122
                      have GG122 := Aside0.mk HG122
                      clear gb122 gl122 HG122
                      (first | simp only [add_plain] at hx400_0 | skip)
                      obtain ⟨hx122_0, hf122_0⟩ := Kd.R_celln 0 HO_386001.out (x24_3 : Int) p122 q122
                      replace p122 := eq_true p122
                      replace q122 := eq_true q122
                      have HP130 := Kd.R_putn HO_386001.out (x24_3 : Int) (((rd x386001_3 x24_3) + 1) % 256)
                      rw [← Ny401.out] at HP130
                      have HQ130 := Aside0.mk HP130
                      clear HP130
                      refine start_ (n := 11) (S := fun w' => w'.cell? ⟨gb385, 0, none⟩ = some (.int .i64 t380) ∧ w'.cell? ⟨gb385, 1, none⟩ = some (.slice (some ⟨go122, 0, none⟩) x386001_3.length co128) ∧ w'.cell? ⟨go122, (x24_3).toNat, none⟩ = some (.int .u8 (rd x386001_3 x24_3))) (ds := [10]) #[false, false, false, false, false, false, false, false, false, false, false] (by kernel_rfl) rfl rfl ⟨(blk_cell BK385.out 0).trans rfl, (blk_cell BK385.out 1).trans rfl, hx400_0⟩ (fun hHeld => ?_); refine with_tabW catamaranlaw10_JournalPlans.tab12 catamaranlaw10_JournalPlans.bits12 (fun HT_ HW_ => ?_)
                      generalize wr.drew = w129 at HO_14 HO_380000 HO_380001 HO_386001 HO_392001 BK364 BK365 BK379 BK385 BK391 HB GG122 HQ130 hf122_0 hx122_0 hx400_0 hHeld ⊢
                      refine pure_ (i := 0) (N := some 109) (v := ?_) (a' := ?_) #[true, false, false, false, false, false, false, false, false, false, false] rfl rfl (any_of HT_.out (by kernel_rfl)) (fun _ _ _ h => h) (Or.inl ⟨by rfl, ?_⟩) ?_ ?_
                      rotate_left
                      · intro w'
                        go_simp
                        with_reducible rfl
                      rotate_left
                      · simp only [Act.put, List.setIfInBounds_toArray, List.set_cons_zero, List.set_cons_succ, i64_w, i32_w]
                        rfl
                      refine pure_ (i := 2) (N := some 111) (v := ?_) (a' := ?_) #[true, false, true, false, false, false, false, false, false, false, false] rfl rfl (any_of HT_.out (by kernel_rfl)) (fun _ _ _ h => h) (Or.inl ⟨by rfl, ?_⟩) ?_ ?_
                      rotate_left
                      · intro w'
                        go_simp
                        with_reducible rfl
                      rotate_left
                      · simp only [Act.put, List.setIfInBounds_toArray, List.set_cons_zero, List.set_cons_succ, i64_w, i32_w]
                        rfl
                      refine pure_ (i := 3) (N := some 112) (v := ?_) (a' := ?_) #[true, false, true, true, false, false, false, false, false, false, false] rfl rfl (any_of HT_.out (by kernel_rfl)) (fun _ _ _ h => h) (Or.inl ⟨by rfl, ?_⟩) ?_ ?_
                      rotate_left
                      · intro w'
                        go_simp
                        with_reducible rfl
                      rotate_left
                      · simp only [Act.put, List.setIfInBounds_toArray, List.set_cons_zero, List.set_cons_succ, i64_w, i32_w]
                        rfl
                      refine pure_ (i := 5) (N := some 114) (v := ?_) (a' := ?_) #[true, false, true, true, false, true, false, false, false, false, false] rfl rfl (any_of HT_.out (by kernel_rfl)) (fun _ _ _ h => h) (Or.inl ⟨by rfl, ?_⟩) ?_ ?_
                      rotate_left
                      · intro w'
                        go_simp
                        with_reducible rfl
                      rotate_left
                      · simp only [Act.put, List.setIfInBounds_toArray, List.set_cons_zero, List.set_cons_succ, i64_w, i32_w]
                        rfl
                      refine take_ (i := 1) (N := some 110) (v := ?_) (a' := ?_) #[true, true, true, true, false, true, false, false, false, false, false] rfl rfl (take_ofW HT_.out HW_.out (by kernel_rfl)) (fun _ _ _ h => h) (Or.inl ⟨by rfl, ?_⟩) hHeld ?_ ?_
                      rotate_left
                      · rintro w' ⟨s0, s1, s2⟩
                        go_simp
                        with_reducible rfl
                      rotate_left
                      · simp only [Act.put, List.setIfInBounds_toArray, List.set_cons_zero, List.set_cons_succ, i64_w, i32_w]
                        rfl
                      refine take_ (i := 4) (N := some 113) (v := ?_) (a' := ?_) #[true, true, true, true, true, true, false, false, false, false, false] rfl rfl (take_ofW HT_.out HW_.out (by kernel_rfl)) (fun _ _ _ h => h) (Or.inl ⟨by rfl, ?_⟩) hHeld ?_ ?_
                      rotate_left
                      · rintro w' ⟨s0, s1, s2⟩
                        go_simp
                        with_reducible rfl
                      rotate_left
                      · simp only [Act.put, List.setIfInBounds_toArray, List.set_cons_zero, List.set_cons_succ, i64_w, i32_w]
                        rfl
                      refine pure_ (i := 6) (N := some 115) (v := ?_) (a' := ?_) #[true, true, true, true, true, true, true, false, false, false, false] rfl rfl (any_of HT_.out (by kernel_rfl)) (fun _ _ _ h => h) (Or.inl ⟨by rfl, ?_⟩) ?_ ?_
                      rotate_left
                      · intro w'
                        go_simp
                        with_reducible rfl
                      rotate_left
                      · simp only [Act.put, List.setIfInBounds_toArray, List.set_cons_zero, List.set_cons_succ, i64_w, i32_w]
                        rfl
                      refine take_ (i := 7) (N := some 116) (v := ?_) (a' := ?_) #[true, true, true, true, true, true, true, true, false, false, false] rfl rfl (take_ofW HT_.out HW_.out (by kernel_rfl)) (fun _ _ _ h => h) (Or.inl ⟨by rfl, ?_⟩) hHeld ?_ ?_
                      rotate_left
                      · rintro w' ⟨s0, s1, s2⟩
                        go_simp
                        with_reducible rfl
                      rotate_left
                      · simp only [Act.put, List.setIfInBounds_toArray, List.set_cons_zero, List.set_cons_succ, i64_w, i32_w]
                        rfl
                      refine pure_ (i := 8) (N := some 117) (v := ?_) (a' := ?_) #[true, true, true, true, true, true, true, true, true, false, false] rfl rfl (any_of HT_.out (by kernel_rfl)) (fun _ _ _ h => h) (Or.inl ⟨by rfl, ?_⟩) ?_ ?_
                      rotate_left
                      · intro w'
                        go_simp
                        with_reducible rfl
                      rotate_left
                      · simp only [Act.put, List.setIfInBounds_toArray, List.set_cons_zero, List.set_cons_succ, i64_w, i32_w]
                        rfl
                      refine pure_ (i := 9) (N := some 118) (v := ?_) (a' := ?_) #[true, true, true, true, true, true, true, true, true, true, false] rfl rfl (any_of HT_.out (by kernel_rfl)) (fun _ _ _ h => h) (Or.inl ⟨by rfl, ?_⟩) ?_ ?_
                      rotate_left
                      · intro w'
                        go_simp
                        with_reducible rfl
                      rotate_left
                      · simp only [Act.put, List.setIfInBounds_toArray, List.set_cons_zero, List.set_cons_succ, i64_w, i32_w]
                        rfl
                      refine last_ (i := 10) (N := none) #[true, true, true, true, true, true, true, true, true, true, true] rfl rfl (one_of HT_.out (by kernel_rfl)) (by decide) (fun K hK => ?_)
                      refine skip_ (w1 := ?_) (by rfl) rfl ?_ ?_
                      rotate_left
                      · go_simp
                        rfl
                      refine hK.out _ _ ?_
                      clear hK K
                      refine done_ (done_of HT_.out (by kernel_rfl)) ?_
                      try go_wp2
                      (try simp only [← hl14_3])
                      go_roundg k3
                      case measure => have := HJ6.out; have := HJ24.out; have := HK3.out; omega
                      case rel => exact ⟨(x14_3), (wrap64 (x24_3 + 1)), (y401), (x392001_3), (.slice (some ⟨go122, 0, none⟩) x386001_3.length co128), (u392001), (by first | rfl | (simp; done) | (simp [*]; done)), H', ⟨by have := HJ6.out; have := HJ24.out; have := HK3.out; omega⟩, ⟨by (try simp only [hl14_3]); (with_reducible repeat (first | apply Kd.R_alloc | apply Kd.R_drewN | apply Kd.R_drew)); exact Kd.R_mono (Kd.R_far (p := ⟨go122, (x24_3 : Int).toNat, none⟩) (Kd.R_mono HO_14.out (fun k_ hk => (⟨hk, fun e_ => hk.1 (by rw [e_]; rfl)⟩ : _ ∧ k_ ≠ go122))) (fun _ hk => hk.2) (.int .u8 (((rd x386001_3 x24_3) + 1) % 256))) (fun _ hk => ⟨hk.1.1, hk.1.2⟩)⟩, ⟨by (try simp only [hl14_3]); (with_reducible repeat (first | apply Kd.S_alloc | apply Kd.S_drewN | apply Kd.S_drew)); exact Kd.S_mono (Kd.S_far (p := ⟨go122, (x24_3 : Int).toNat, none⟩) (Kd.S_mono HO_380000.out (fun k_ hk => (⟨hk, fun e_ => hk.2.1 (by rw [e_]; rfl)⟩ : _ ∧ k_ ≠ go122))) (fun _ hk => hk.2) (.int .u8 (((rd x386001_3 x24_3) + 1) % 256))) (fun _ hk => ⟨hk.1.1, ⟨hk.1.2.1, hk.1.2.2⟩⟩)⟩, ⟨by (try simp only [hl14_3]); (with_reducible repeat (first | apply Kd.S_alloc | apply Kd.S_drewN | apply Kd.S_drew)); exact Kd.S_mono (Kd.S_far (p := ⟨go122, (x24_3 : Int).toNat, none⟩) (Kd.S_mono HO_380001.out (fun k_ hk => (⟨hk, fun e_ => hk.2.1 (by rw [e_]; rfl)⟩ : _ ∧ k_ ≠ go122))) (fun _ hk => hk.2) (.int .u8 (((rd x386001_3 x24_3) + 1) % 256))) (fun _ hk => ⟨hk.1.1, ⟨hk.1.2.1, ⟨hk.1.2.2.1, ⟨hk.1.2.2.2.1, hk.1.2.2.2.2⟩⟩⟩⟩)⟩, ⟨by (try simp only [hl14_3]); (with_reducible repeat (first | apply Kd.R_alloc | apply Kd.R_drewN | apply Kd.R_drew)); exact HQ130.out⟩, ⟨by (try simp only [hl14_3]); (with_reducible repeat (first | apply Kd.R_alloc | apply Kd.R_drewN | apply Kd.R_drew)); exact Kd.R_mono (Kd.R_far (p := ⟨go122, (x24_3 : Int).toNat, none⟩) (Kd.R_mono HO_392001.out (fun k_ hk => (⟨hk, fun e_ => hk.2 (by rw [e_]; rfl)⟩ : _ ∧ k_ ≠ go122))) (fun _ hk => hk.2) (.int .u8 (((rd x386001_3 x24_3) + 1) % 256))) (fun _ hk => ⟨hk.1.1, hk.1.2⟩)⟩, ⟨by (try simp only [hl14_3]); (with_reducible repeat (first | refine blk_drewN ?_ _ | refine blk_drew ?_ | refine blk_alloc ?_ _)); refine blk_far ?_ (by have h_ := Kd.R_ne HO_386001.out BK364.out (by decide); intro e_; exact h_ (by rw [e_]; rfl)) _; (with_reducible repeat (first | refine blk_drewN ?_ _ | refine blk_drew ?_ | refine blk_alloc ?_ _)); exact BK364.out⟩, ⟨by (try simp only [hl14_3]); (with_reducible repeat (first | refine blk_drewN ?_ _ | refine blk_drew ?_ | refine blk_alloc ?_ _)); refine blk_far ?_ (by have h_ := Kd.R_ne HO_386001.out BK365.out (by decide); intro e_; exact h_ (by rw [e_]; rfl)) _; (with_reducible repeat (first | refine blk_drewN ?_ _ | refine blk_drew ?_ | refine blk_alloc ?_ _)); exact BK365.out⟩, ⟨by (try simp only [hl14_3]); (with_reducible repeat (first | refine blk_drewN ?_ _ | refine blk_drew ?_ | refine blk_alloc ?_ _)); refine blk_far ?_ (by have h_ := Kd.R_ne HO_386001.out BK379.out (by decide); intro e_; exact h_ (by rw [e_]; rfl)) _; (with_reducible repeat (first | refine blk_drewN ?_ _ | refine blk_drew ?_ | refine blk_alloc ?_ _)); exact BK379.out⟩, ⟨by (try simp only [hl14_3]); (with_reducible repeat (first | refine blk_drewN ?_ _ | refine blk_drew ?_ | refine blk_alloc ?_ _)); refine blk_far ?_ (by have h_ := Kd.R_ne HO_386001.out BK385.out (by decide); intro e_; exact h_ (by rw [e_]; rfl)) _; (with_reducible repeat (first | refine blk_drewN ?_ _ | refine blk_drew ?_ | refine blk_alloc ?_ _)); exact BK385.out⟩, ⟨by (try simp only [hl14_3]); (with_reducible repeat (first | refine blk_drewN ?_ _ | refine blk_drew ?_ | refine blk_alloc ?_ _)); refine blk_far ?_ (by have h_ := Kd.R_ne HO_386001.out BK391.out (by decide); intro e_; exact h_ (by rw [e_]; rfl)) _; (with_reducible repeat (first | refine blk_drewN ?_ _ | refine blk_drew ?_ | refine blk_alloc ?_ _)); exact BK391.out⟩, ⟨by repeat (first | (with_reducible first | exact HB.out | apply below_alloc | apply pw_below_drewN | apply below_drew1 | refine below_set ?_ GB122.out | refine below_set ?_ GE364.out | refine below_set ?_ GE365.out | refine below_set ?_ GE379.out | refine below_set ?_ GE385.out | refine below_set ?_ GE391.out) | exact HB.out)⟩⟩
                    · rw [if_neg c121] at H
                      exact absurd H (by simp)
                  · rw [if_neg c120] at H
                    have c120b0 : decide (x24_3 < (x386001_3.length : Int)) = false := decide_eq_false c120
                    clear c120
                    by_cases c131 : x23_24 = true
                    · subst c131
                      have H1 : ((hSame.f t367 t370 l1_0 l1_1).bind fun t402 => (if t402 = true then (some ((strOfNums x14_3).toList == (strOfNums l5).toList)) else (some false))) = some r := by rw [if_pos rfl] at H; exact H
                      clear H
                      have H := H1
                      clear H1
                      replace H := Option.bind_eq_some_iff.mp H
                      obtain ⟨t402, A1320, H⟩ := H
                      replace H : (if t402 = true then (some ((strOfNums x14_3).toList == (strOfNums l5).toList)) else (some false)) = some r := H
                      have A132 := Aside0.mk A1320
                      clear A1320
                      by_cases c133 : t402 = true
                      · subst c133
                        have H1 : (some ((strOfNums x14_3).toList == (strOfNums l5).toList)) = some r := by rw [if_pos rfl] at H; exact H
                        clear H
                        have H := H1
                        clear H1
                        obtain rfl := Option.some.inj H
                        have hnb134 := NB385_364.out
                        have hnc134 := NB364_385.out
                        have hnb135 := NB385_365.out
                        have hnc135 := NB365_385.out
                        have hnb136 := NB385_379.out
                        have hnc136 := NB379_385.out
                        have hnb137 := NB385_391.out
                        have hnc137 := NB391_385.out
                        have hcz138_0 : wr.cell? ⟨gb385, 0, none⟩ = some (.int .i64 t380) := (blk_cell BK385.out 0).trans rfl
                        have hcz138_1 : wr.cell? ⟨gb385, 1, none⟩ = some (u386001) := (blk_cell BK385.out 1).trans rfl
                        have hfz138_0 := blk_frozen BK385.out 0
                        have hfz138_1 := blk_frozen BK385.out 1
                        obtain ⟨Ao139, co139, eo139⟩ := Kd.R_slice HO_386001.out
                        subst eo139
                        have hnb140 := NB379_364.out
                        have hnc140 := NB364_379.out
                        have hnb141 := NB379_365.out
                        have hnc141 := NB365_379.out
                        have hnb142 := NB379_391.out
                        have hnc142 := NB391_379.out
                        have hcz143_0 : wr.cell? ⟨gb379, 0, none⟩ = some (.slice Ao33 t367.length co33) := (blk_cell BK379.out 0).trans rfl
                        have hcz143_1 : wr.cell? ⟨gb379, 1, none⟩ = some (.slice Ao37 t370.length co37) := (blk_cell BK379.out 1).trans rfl
                        have hfz143_0 := blk_frozen BK379.out 0
                        have hfz143_1 := blk_frozen BK379.out 1
                        have hnb144 := NB365_364.out
                        have hnc144 := NB364_365.out
                        have hnb145 := NB365_391.out
                        have hnc145 := NB391_365.out
                        have hcz146_0 : wr.cell? ⟨gb365, 0, none⟩ = some (.slice A1_0 l1_0.length c1_0) := (blk_cell BK365.out 0).trans rfl
                        have hcz146_1 : wr.cell? ⟨gb365, 1, none⟩ = some (.slice A1_1 l1_1.length c1_1) := (blk_cell BK365.out 1).trans rfl
                        have hfz146_0 := blk_frozen BK365.out 0
                        have hfz146_1 := blk_frozen BK365.out 1
                        go_wp2_with (first | (go_at_call 30; (with_reducible refine (hSame.calls _ _ t367 _ _ t370 _ _ l1_0 _ _ l1_1 true _ ?side1 ?side2 ?side3 ?side4 ?side5 ?side6 ?side7 ?side8 A132.out).mono ?_); (case side1 => repeat (first | exact (Kd.S_reads' HO_380000.out).2.2 | (with_reducible refine Kd.C_alloc ?_ _) | (with_reducible refine Kd.C_drewN ?_ _) | (with_reducible refine Kd.C_drew ?_))); (case side2 => exact (Kd.S_reads' HO_380000.out).2.1); (case side3 => repeat (first | exact (Kd.S_reads' HO_380001.out).2.2 | (with_reducible refine Kd.C_alloc ?_ _) | (with_reducible refine Kd.C_drewN ?_ _) | (with_reducible refine Kd.C_drew ?_))); (case side4 => exact (Kd.S_reads' HO_380001.out).2.1); (case side5 => repeat (first | exact (Kd.C_below HR1_0.out HB.out) | (with_reducible refine Kd.C_alloc ?_ _) | (with_reducible refine Kd.C_drewN ?_ _) | (with_reducible refine Kd.C_drew ?_))); (case side6 => exact HC1_0.out); (case side7 => repeat (first | exact (Kd.C_below HR1_1.out HB.out) | (with_reducible refine Kd.C_alloc ?_ _) | (with_reducible refine Kd.C_drewN ?_ _) | (with_reducible refine Kd.C_drew ?_))); (case side8 => exact HC1_1.out); rintro e w147 ⟨rfl, hb⟩; have n0_ := Aside0.mk (Kd.R_below (by (with_reducible repeat (first | apply Kd.R_alloc | apply Kd.R_drewN | apply Kd.R_drew)); exact HO_14.out) hb); have n1_ := Aside0.mk (Kd.S_below (by (with_reducible repeat (first | apply Kd.S_alloc | apply Kd.S_drewN | apply Kd.S_drew)); exact HO_380000.out) hb); have n2_ := Aside0.mk (Kd.S_below (by (with_reducible repeat (first | apply Kd.S_alloc | apply Kd.S_drewN | apply Kd.S_drew)); exact HO_380001.out) hb); have n3_ := Aside0.mk (Kd.R_below (by (with_reducible repeat (first | apply Kd.R_alloc | apply Kd.R_drewN | apply Kd.R_drew)); exact HO_386001.out) hb); have n4_ := Aside0.mk (Kd.R_below (by (with_reducible repeat (first | apply Kd.R_alloc | apply Kd.R_drewN | apply Kd.R_drew)); exact HO_392001.out) hb); have n5_ := Aside0.mk (blk_below (g := gb364) (o := .cells #[.int .i64 a0_0, .int .i64 a0_1, .int .i64 a0_2, .int .i64 a0_3, .int .i64 a0_4, .int .i64 a0_5] 44 (0, 0)) (by (with_reducible repeat (first | refine blk_drewN ?_ _ | refine blk_drew ?_ | refine blk_alloc ?_ _)); exact BK364.out) hb); have n6_ := Aside0.mk (blk_below (g := gb365) (o := .cells #[.slice A1_0 l1_0.length c1_0, .slice A1_1 l1_1.length c1_1] 25 (0, 0)) (by (with_reducible repeat (first | refine blk_drewN ?_ _ | refine blk_drew ?_ | refine blk_alloc ?_ _)); exact BK365.out) hb); have n7_ := Aside0.mk (blk_below (g := gb379) (o := .cells #[.slice Ao33 t367.length co33, .slice Ao37 t370.length co37] 25 (0, 0)) (by (with_reducible repeat (first | refine blk_drewN ?_ _ | refine blk_drew ?_ | refine blk_alloc ?_ _)); exact BK379.out) hb); have n8_ := Aside0.mk (blk_below (g := gb385) (o := .cells #[.int .i64 t380, .slice Ao139 x386001_3.length co139] 49 (0, 0)) (by (with_reducible repeat (first | refine blk_drewN ?_ _ | refine blk_drew ?_ | refine blk_alloc ?_ _)); exact BK385.out) hb); have n9_ := Aside0.mk (blk_below (g := gb391) (o := .cells #[.int .i64 t386, u392001] 49 (0, 0)) (by (with_reducible repeat (first | refine blk_drewN ?_ _ | refine blk_drew ?_ | refine blk_alloc ?_ _)); exact BK391.out) hb); have n10_ := Aside0.mk (below_step (by repeat (first | (with_reducible first | exact HB.out | apply below_alloc | apply pw_below_drewN | apply below_drew1 | refine below_set ?_ GE364.out | refine below_set ?_ GE365.out | refine below_set ?_ GE379.out | refine below_set ?_ GE385.out | refine below_set ?_ GE391.out) | exact HB.out)) hb); clear HO_14; clear HO_380000; clear HO_380001; clear HO_386001; clear HO_392001; clear BK364; clear BK365; clear BK379; clear BK385; clear BK391; clear HB; have HO_14 := n0_; have HO_380000 := n1_; have HO_380001 := n2_; have HO_386001 := n3_; have HO_392001 := n4_; have BK364 := n5_; have BK365 := n6_; have BK379 := n7_; have BK385 := n8_; have BK391 := n9_; have HB := n10_; clear n0_ n1_ n2_ n3_ n4_ n5_ n6_ n7_ n8_ n9_ n10_; (try clear hb); (try clear hb2); (try clear hk); (try clear hi); have hcv148 := own_string (P := Try.prog) Try.underlying31 Try.underlying5 Try.underlying9 (Kd.own_of_R HO_14.out); have hcv149 := Kd.C_string (P := Try.prog) (A := A5) (c := c5) Try.underlying31 Try.underlying5 Try.underlying9 (Kd.C_below HR5.out HB.out)))
                        go_ret
                        exact ⟨by first | rfl | (simp [errW_none, errW_some] <;> rfl) | (simp [*, errW_none, errW_some] <;> rfl), by repeat (first | (with_reducible first | exact HB.out | apply below_alloc | apply pw_below_drewN | apply below_drew1 | refine below_set ?_ GE364.out | refine below_set ?_ GE365.out | refine below_set ?_ GE379.out | refine below_set ?_ GE385.out | refine below_set ?_ GE391.out) | exact HB.out)⟩
                      · replace c133 := Bool.eq_false_iff.mpr c133
                        subst c133
                        have H1 : (some false) = some r := by rw [if_neg (show ¬ (false = true) by decide)] at H; exact H
                        clear H
                        have H := H1
                        clear H1
                        obtain rfl := Option.some.inj H
                        have hnb150 := NB385_364.out
                        have hnc150 := NB364_385.out
                        have hnb151 := NB385_365.out
                        have hnc151 := NB365_385.out
                        have hnb152 := NB385_379.out
                        have hnc152 := NB379_385.out
                        have hnb153 := NB385_391.out
                        have hnc153 := NB391_385.out
                        have hcz154_0 : wr.cell? ⟨gb385, 0, none⟩ = some (.int .i64 t380) := (blk_cell BK385.out 0).trans rfl
                        have hcz154_1 : wr.cell? ⟨gb385, 1, none⟩ = some (u386001) := (blk_cell BK385.out 1).trans rfl
                        have hfz154_0 := blk_frozen BK385.out 0
                        have hfz154_1 := blk_frozen BK385.out 1
                        obtain ⟨Ao155, co155, eo155⟩ := Kd.R_slice HO_386001.out
                        subst eo155
                        have hnb156 := NB379_364.out
                        have hnc156 := NB364_379.out
                        have hnb157 := NB379_365.out
                        have hnc157 := NB365_379.out
                        have hnb158 := NB379_391.out
                        have hnc158 := NB391_379.out
                        have hcz159_0 : wr.cell? ⟨gb379, 0, none⟩ = some (.slice Ao33 t367.length co33) := (blk_cell BK379.out 0).trans rfl
                        have hcz159_1 : wr.cell? ⟨gb379, 1, none⟩ = some (.slice Ao37 t370.length co37) := (blk_cell BK379.out 1).trans rfl
                        have hfz159_0 := blk_frozen BK379.out 0
                        have hfz159_1 := blk_frozen BK379.out 1
                        have hnb160 := NB365_364.out
                        have hnc160 := NB364_365.out
                        have hnb161 := NB365_391.out
                        have hnc161 := NB391_365.out
                        have hcz162_0 : wr.cell? ⟨gb365, 0, none⟩ = some (.slice A1_0 l1_0.length c1_0) := (blk_cell BK365.out 0).trans rfl
                        have hcz162_1 : wr.cell? ⟨gb365, 1, none⟩ = some (.slice A1_1 l1_1.length c1_1) := (blk_cell BK365.out 1).trans rfl
                        have hfz162_0 := blk_frozen BK365.out 0
                        have hfz162_1 := blk_frozen BK365.out 1
                        go_wp2_with (first | (go_at_call 30; (with_reducible refine (hSame.calls _ _ t367 _ _ t370 _ _ l1_0 _ _ l1_1 false _ ?side1 ?side2 ?side3 ?side4 ?side5 ?side6 ?side7 ?side8 A132.out).mono ?_); (case side1 => repeat (first | exact (Kd.S_reads' HO_380000.out).2.2 | (with_reducible refine Kd.C_alloc ?_ _) | (with_reducible refine Kd.C_drewN ?_ _) | (with_reducible refine Kd.C_drew ?_))); (case side2 => exact (Kd.S_reads' HO_380000.out).2.1); (case side3 => repeat (first | exact (Kd.S_reads' HO_380001.out).2.2 | (with_reducible refine Kd.C_alloc ?_ _) | (with_reducible refine Kd.C_drewN ?_ _) | (with_reducible refine Kd.C_drew ?_))); (case side4 => exact (Kd.S_reads' HO_380001.out).2.1); (case side5 => repeat (first | exact (Kd.C_below HR1_0.out HB.out) | (with_reducible refine Kd.C_alloc ?_ _) | (with_reducible refine Kd.C_drewN ?_ _) | (with_reducible refine Kd.C_drew ?_))); (case side6 => exact HC1_0.out); (case side7 => repeat (first | exact (Kd.C_below HR1_1.out HB.out) | (with_reducible refine Kd.C_alloc ?_ _) | (with_reducible refine Kd.C_drewN ?_ _) | (with_reducible refine Kd.C_drew ?_))); (case side8 => exact HC1_1.out); rintro e w163 ⟨rfl, hb⟩; have n0_ := Aside0.mk (Kd.R_below (by (with_reducible repeat (first | apply Kd.R_alloc | apply Kd.R_drewN | apply Kd.R_drew)); exact HO_14.out) hb); have n1_ := Aside0.mk (Kd.S_below (by (with_reducible repeat (first | apply Kd.S_alloc | apply Kd.S_drewN | apply Kd.S_drew)); exact HO_380000.out) hb); have n2_ := Aside0.mk (Kd.S_below (by (with_reducible repeat (first | apply Kd.S_alloc | apply Kd.S_drewN | apply Kd.S_drew)); exact HO_380001.out) hb); have n3_ := Aside0.mk (Kd.R_below (by (with_reducible repeat (first | apply Kd.R_alloc | apply Kd.R_drewN | apply Kd.R_drew)); exact HO_386001.out) hb); have n4_ := Aside0.mk (Kd.R_below (by (with_reducible repeat (first | apply Kd.R_alloc | apply Kd.R_drewN | apply Kd.R_drew)); exact HO_392001.out) hb); have n5_ := Aside0.mk (blk_below (g := gb364) (o := .cells #[.int .i64 a0_0, .int .i64 a0_1, .int .i64 a0_2, .int .i64 a0_3, .int .i64 a0_4, .int .i64 a0_5] 44 (0, 0)) (by (with_reducible repeat (first | refine blk_drewN ?_ _ | refine blk_drew ?_ | refine blk_alloc ?_ _)); exact BK364.out) hb); have n6_ := Aside0.mk (blk_below (g := gb365) (o := .cells #[.slice A1_0 l1_0.length c1_0, .slice A1_1 l1_1.length c1_1] 25 (0, 0)) (by (with_reducible repeat (first | refine blk_drewN ?_ _ | refine blk_drew ?_ | refine blk_alloc ?_ _)); exact BK365.out) hb); have n7_ := Aside0.mk (blk_below (g := gb379) (o := .cells #[.slice Ao33 t367.length co33, .slice Ao37 t370.length co37] 25 (0, 0)) (by (with_reducible repeat (first | refine blk_drewN ?_ _ | refine blk_drew ?_ | refine blk_alloc ?_ _)); exact BK379.out) hb); have n8_ := Aside0.mk (blk_below (g := gb385) (o := .cells #[.int .i64 t380, .slice Ao155 x386001_3.length co155] 49 (0, 0)) (by (with_reducible repeat (first | refine blk_drewN ?_ _ | refine blk_drew ?_ | refine blk_alloc ?_ _)); exact BK385.out) hb); have n9_ := Aside0.mk (blk_below (g := gb391) (o := .cells #[.int .i64 t386, u392001] 49 (0, 0)) (by (with_reducible repeat (first | refine blk_drewN ?_ _ | refine blk_drew ?_ | refine blk_alloc ?_ _)); exact BK391.out) hb); have n10_ := Aside0.mk (below_step (by repeat (first | (with_reducible first | exact HB.out | apply below_alloc | apply pw_below_drewN | apply below_drew1 | refine below_set ?_ GE364.out | refine below_set ?_ GE365.out | refine below_set ?_ GE379.out | refine below_set ?_ GE385.out | refine below_set ?_ GE391.out) | exact HB.out)) hb); clear HO_14; clear HO_380000; clear HO_380001; clear HO_386001; clear HO_392001; clear BK364; clear BK365; clear BK379; clear BK385; clear BK391; clear HB; have HO_14 := n0_; have HO_380000 := n1_; have HO_380001 := n2_; have HO_386001 := n3_; have HO_392001 := n4_; have BK364 := n5_; have BK365 := n6_; have BK379 := n7_; have BK385 := n8_; have BK391 := n9_; have HB := n10_; clear n0_ n1_ n2_ n3_ n4_ n5_ n6_ n7_ n8_ n9_ n10_; (try clear hb); (try clear hb2); (try clear hk); (try clear hi)))
                        go_ret
                        exact ⟨by first | rfl | (simp [errW_none, errW_some] <;> rfl) | (simp [*, errW_none, errW_some] <;> rfl), by repeat (first | (with_reducible first | exact HB.out | apply below_alloc | apply pw_below_drewN | apply below_drew1 | refine below_set ?_ GE364.out | refine below_set ?_ GE365.out | refine below_set ?_ GE379.out | refine below_set ?_ GE385.out | refine below_set ?_ GE391.out) | exact HB.out)⟩
                    · replace c131 := Bool.eq_false_iff.mpr c131
                      subst c131
                      have H1 : (some false) = some r := by rw [if_neg (show ¬ (false = true) by decide)] at H; exact H
                      clear H
                      have H := H1
                      clear H1
                      obtain rfl := Option.some.inj H
                      have hnb164 := NB385_364.out
                      have hnc164 := NB364_385.out
                      have hnb165 := NB385_365.out
                      have hnc165 := NB365_385.out
                      have hnb166 := NB385_379.out
                      have hnc166 := NB379_385.out
                      have hnb167 := NB385_391.out
                      have hnc167 := NB391_385.out
                      have hcz168_0 : wr.cell? ⟨gb385, 0, none⟩ = some (.int .i64 t380) := (blk_cell BK385.out 0).trans rfl
                      have hcz168_1 : wr.cell? ⟨gb385, 1, none⟩ = some (u386001) := (blk_cell BK385.out 1).trans rfl
                      have hfz168_0 := blk_frozen BK385.out 0
                      have hfz168_1 := blk_frozen BK385.out 1
                      obtain ⟨Ao169, co169, eo169⟩ := Kd.R_slice HO_386001.out
                      subst eo169
                      go_wp2
                      go_ret
                      exact ⟨by first | rfl | (simp [errW_none, errW_some] <;> rfl) | (simp [*, errW_none, errW_some] <;> rfl), by repeat (first | (with_reducible first | exact HB.out | apply below_alloc | apply pw_below_drewN | apply below_drew1 | refine below_set ?_ GE364.out | refine below_set ?_ GE365.out | refine below_set ?_ GE379.out | refine below_set ?_ GE385.out | refine below_set ?_ GE391.out) | exact HB.out)⟩
        · rw [if_neg c20] at H
          exact absurd H (by simp)
end Go.Proofs.Ytdkjhcdniepbhaa.P
end
section
set_option linter.unusedVariables false
set_option linter.unusedSimpArgs false
namespace Go.Proofs.Ytdkjhcdniepbhaa.P
open Go.RowKit Go.Proofs.PrintWords Go.Proofs.PrintLast Go.Proofs.PrintMore
attribute [local go_sem] max2_int min2_int max_two min_two max_three min_three max_four min_four
theorem jp_l0 (l0 : List S39) (l1 : List S49) (b : List Int) (y : Int) : ∀ (d k n : Nat) (x : List Int), x.length = n + d → d < k → x.length ≤ 100000 → catamaranlaw10_JournalPlans.l0 k b b true (n : Int) l0 l1 l0 l1 y x = some true
  | 0, k, n, x, hn, hk, hx => by
    obtain ⟨k, rfl⟩ : ∃ m, k = m + 1 := ⟨k - 1, by omega⟩
    simp only [catamaranlaw10_JournalPlans.l0]
    rw [if_neg (by omega), if_pos trivial]
    unfold hSame.f
    rw [dSame_refl, Option.bind_some, if_pos rfl]
    simp
  | d + 1, k, n, x, hn, hk, hx => by
    obtain ⟨k, rfl⟩ : ∃ m, k = m + 1 := ⟨k - 1, by omega⟩
    simp only [catamaranlaw10_JournalPlans.l0]
    rw [if_pos (by omega), if_pos (by omega), wrap_succ (by omega)]
    exact jp_l0 l0 l1 b y d k (n + 1) _ (by rw [List.length_set]; omega) (by omega) (by rw [List.length_set]; exact hx)
theorem jPlan_len (p t a m w q : Int) (l0 : List S39) (l1 : List S49) (x gen n : Int) (b : List Int) : (jPlan p t a m w q l0 l1 x gen n b).2.1.length ≤ 32 := by
  unfold jPlan
  split
  · split
    · simp
    · split
      · simp
      · split
        · unfold jText
          split
          · simp
          · split
            · simp
            · rename_i h _
              have := row5_length gen n b.length
              simp only [jSector, List.length_append, List.length_replicate, this]
              omega
        · simp
  · simp
theorem lawJP_pure (p t a m w q : Int) (l0 : List S39) (l1 : List S49) (hby : bytesD l0 l1) (x gen n : Int) (b : List Int) (hg : 0 ≤ gen ∧ gen < 18446744073709551616) : catamaranlaw10_JournalPlans.f 3000 p t a m w q l0 l1 x gen n b = some true := by
  unfold catamaranlaw10_JournalPlans.f
  obtain ⟨gb, hgr, hn⟩ := great_is l0 l1 300 (by omega) 3000 (by omega)
  rw [show ((300 : Nat) : Int) = 300 from rfl] at hgr
  rw [hgr, Option.bind_some]
  have key : ∀ c : Bool, (c = false → gb = false ∧ b.length ≤ 100) → catamaranlaw10_JournalPlans.j0 3000 x gen n b c p t a m w q l0 l1 = some true := by
    intro c hc
    rw [show (3000 : Nat) = 2999 + 1 from rfl]
    simp only [catamaranlaw10_JournalPlans.j0]
    cases c with
    | true => simp
    | false =>
      obtain ⟨rfl, hb⟩ := hc rfl
      obtain ⟨n0, n1, n2, n3⟩ := hn rfl
      rw [if_neg (by simp), rTwin_is 2999 l0 l1 (by omega) (by omega) (by omega) (fun s hs => by have := n2 s hs; omega) (fun s hs => by have := n3 s hs; omega), Option.bind_some, Option.bind_some, if_pos (by simp; omega), Option.bind_some, List.nil_append]
      simp only []
      rw [jPlan_is 2999 (by omega) p t a m w q l0 l1 x hg, Option.bind_some, rjPlan_is 2999 (by omega) p t a m w q l0 l1 hby x hg, Option.bind_some, jText_is 2999 (by omega) hg, Option.bind_some, rText_is 2999 (by omega) hg, Option.bind_some]
      rw [if_pos rfl, if_pos rfl, if_pos rfl, if_pos rfl, show ((jText gen n b).2 == (jText gen n b).2) = true from beq_self_eq_true _, show (2999 : Nat) = 2998 + 1 from rfl]
      simp only [catamaranlaw10_JournalPlans.j1]
      have hl := jPlan_len p t a m w q l0 l1 x gen n b
      exact jp_l0 l0 l1 b _ (jPlan p t a m w q l0 l1 x gen n b).2.1.length 2998 0 _ (by omega) (by omega) (by omega)
  by_cases h : gb = true
  · rw [if_pos h]
    exact key true (fun h => by cases h)
  · rw [if_neg h]
    exact key _ (fun hc => ⟨by simpa using h, by have := of_decide_eq_false hc; omega⟩)
end Go.Proofs.Ytdkjhcdniepbhaa.P
end
section
set_option linter.unusedVariables false
set_option linter.unusedSimpArgs false
namespace Go.Proofs.Ytdkjhcdniepbhaa.P
open Go.RowKit Go.Proofs.PrintWords Go.Proofs.PrintLast Go.Proofs.PrintMore
attribute [local go_sem] max2_int min2_int max_two min_two max_three min_three max_four min_four
open Go.ChangeShapes Go.WideShapes Go.Deep Go.Joins
section
variable {H : Type} {enc : TypeId × Value → H} {w : World} {base : Nat}
theorem list_of {α : Type} (n : Nat) (p : Nat → α → Prop) (h : ∀ i, i < n → ∃ x, p i x) : ∃ l : List α, l.length = n ∧ ∀ i x, l[i]? = some x → p i x := by
  induction n with
  | zero => exact ⟨[], rfl, fun i x hx => by simp at hx⟩
  | succ n ih =>
    obtain ⟨l, hl, hp⟩ := ih fun i hi => h i (by omega)
    obtain ⟨x, hx⟩ := h n (by omega)
    refine ⟨l ++ [x], by simp [hl], fun i y hy => ?_⟩
    by_cases hi : i < l.length
    · rw [List.getElem?_append_left hi] at hy
      exact hp i y hy
    · rw [List.getElem?_append_right (by omega)] at hy
      have : i - l.length = 0 := by
        have := (List.getElem?_eq_some_iff.1 hy).1
        simp at this
        omega
      rw [this] at hy
      simp at hy
      subst hy
      rw [show i = n by omega]
      exact hx
theorem byte_of_wf {n : Int} (h : (Lit.int .u8 n).wf = true) : 0 ≤ n ∧ n ≤ 255 := by
  have h : (decide ((0 : Int) ≤ n) && decide (n ≤ 255)) = true := h
  simpa using h
theorem open_text {n : Nat} {v : Value} {y : DataW H × List MemPlace} (h : DataW.trod enc Try.prog w base (fun _ => true) true n 31 [v] = some y) :
    ∃ (A : Option Addr) (c : Nat) (l : List Int), v = .slice A l.length c ∧ l.length ≤ c ∧ Kd.C (Kd.int .u8) w A l.length l ∧ byteL l := by
  have fin : ∀ (a : Option Addr) (len cap : Nat) (zs : List Int), ((a = none ∧ len = 0 ∧ cap = 0 ∧ zs = []) ∨ ∃ x, a = some x ∧ len ≤ cap ∧ cap ≤ maxLen ∧ zs.length = cap ∧ (∀ i, i < zs.length → w.cell? (x.add i) = some (.int .u8 (zs.getD i 0))) ∧ ∀ n ∈ zs, (Lit.int .u8 n).wf = true) → [v] = [.slice a len cap] →
      ∃ (A : Option Addr) (c : Nat) (l : List Int), v = .slice A l.length c ∧ l.length ≤ c ∧ Kd.C (Kd.int .u8) w A l.length l ∧ byteL l := by
    intro a len cap zs hr hv
    obtain ⟨l, rfl, hr, hm, hw, hc⟩ := ReadsInt.ofRowC hr
    exact ⟨a, cap, l, by simpa using hv, hc, Kd.C_of_reads (d := (0 : Int)) (h1 := fun _ => rfl) hr, fun n hn => byte_of_wf (hw n hn)⟩
  rcases open_ints Try.underlying31 Try.underlying5 (by kernel_rfl) h with ⟨hcs, _⟩ | ⟨x, l, c, zs, hcs, _, hl, hm, hz, _, hcell, hwz⟩
  · exact fin none 0 0 [] (.inl ⟨rfl, rfl, rfl, rfl⟩) hcs
  · exact fin (some x) l c zs (.inr ⟨x, rfl, hl, hm, by simpa using hz, hcell, hwz⟩) hcs
theorem cells2 {w : World} {base : Nat} {a : Addr} {cs : List Value} (h : w.cells? base a 2 = some cs) : ∃ u v, cs = [u, v] ∧ w.cell? (a.add 0) = some u ∧ w.cell? (a.add 1) = some v := by
  obtain ⟨_, hl, hat⟩ := World.cells?_some h
  match cs, hl with
  | [u, v], _ => exact ⟨u, v, rfl, by have := hat 0 (by omega); simpa using this, by have := hat 1 (by omega); simpa using this⟩
theorem open_secs {n : Nat} {v : Value} {y : DataW H × List MemPlace} (h : DataW.trod enc Try.prog w base (fun _ => true) true n 22 [v] = some y) :
    ∃ (A : Option Addr) (c : Nat) (l : List S39), v = .slice A l.length c ∧ l.length ≤ c ∧ Kd.C k39 w A l.length l ∧ ∀ s ∈ l, byteL s.f0 := by
  have hC : Try.prog.cellsOf 39 = 2 := by kernel_rfl
  rcases Go.Deep.open_slice Try.underlying22 h with ⟨hcs, _⟩ | ⟨a, len, cap, m, n', D, Pl, hcs, hb, hl, hm, hmm, hx, hi⟩
  · obtain rfl : v = .slice none 0 0 := by simpa using hcs
    exact ⟨none, 0, [], rfl, Nat.le_refl _, ⟨rfl, by simp, fun h => absurd h (by simp)⟩, by simp⟩
  · obtain rfl : v = .slice (some a) len cap := by simpa using hcs
    have hm2 : cap ≤ 9223372036854775807 := by have : maxLen ≤ 9223372036854775807 := by decide +kernel
                                               omega
    obtain ⟨l, hll, hp⟩ := list_of len (fun i (s : S39) => ∃ cs, cs.length = 2 ∧ k39.K w s cs ∧ (∀ j u, cs[j]? = some u → w.cell? (a.add (i * 2 + j)) = some u) ∧ byteL s.f0) fun i hil => by
      obtain ⟨cs', hc, ht⟩ := hi i (by rw [hmm]; simp; omega)
      rw [hC] at hc
      obtain ⟨u, x, rfl, h0, h1⟩ := cells2 hc
      obtain ⟨y0, y1, n2, _, _, q0, q1⟩ := trod_struct2 Try.underlying39 ht
      have e0 : Try.prog.cellsOf 31 = 1 := by kernel_rfl
      have e1 : Try.prog.cellsOf 4 = 1 := by kernel_rfl
      simp only [e0, e1, List.drop_zero, List.drop_succ_cons, List.take_succ_cons, List.take_zero] at q0 q1
      obtain ⟨A1, c1, b, rfl, hbc, hbC, hby⟩ := open_text q0
      obtain ⟨bb, hbb, _⟩ := DataW.trod_bool Try.underlying4 q1
      obtain rfl : x = .bool bb := by simpa using hbb
      refine ⟨⟨b, bb⟩, [.slice A1 b.length c1, .bool bb], rfl, k39_mk w ⟨b, bb⟩ hbc hbC, fun j u hj => ?_, hby⟩
      rw [← Go.Deep.add_add]
      match j, hj with
      | 0, hj => rw [h0]; simpa using hj
      | 1, hj => rw [h1]; simpa using hj
      | j + 2, hj => simp at hj
    subst hll
    refine ⟨some a, cap, l, rfl, hl, ⟨rfl, by omega, fun _ => ⟨a, rfl, fun j s hs => ?_⟩⟩, fun s hs => ?_⟩
    · obtain ⟨cs, h1, h2, h3, _⟩ := hp j s hs
      exact ⟨cs, h1, h2, h3⟩
    · obtain ⟨j, hj, rfl⟩ := List.mem_iff_getElem.1 hs
      exact (hp j _ (List.getElem?_eq_getElem hj)).choose_spec.2.2.2
theorem open_pends {n : Nat} {v : Value} {y : DataW H × List MemPlace} (h : DataW.trod enc Try.prog w base (fun _ => true) true n 23 [v] = some y) :
    ∃ (A : Option Addr) (c : Nat) (l : List S49), v = .slice A l.length c ∧ l.length ≤ c ∧ Kd.C k49 w A l.length l ∧ ∀ s ∈ l, byteL s.f1 := by
  have hC : Try.prog.cellsOf 49 = 2 := by kernel_rfl
  rcases Go.Deep.open_slice Try.underlying23 h with ⟨hcs, _⟩ | ⟨a, len, cap, m, n', D, Pl, hcs, hb, hl, hm, hmm, hx, hi⟩
  · obtain rfl : v = .slice none 0 0 := by simpa using hcs
    exact ⟨none, 0, [], rfl, Nat.le_refl _, ⟨rfl, by simp, fun h => absurd h (by simp)⟩, by simp⟩
  · obtain rfl : v = .slice (some a) len cap := by simpa using hcs
    have hm2 : cap ≤ 9223372036854775807 := by have : maxLen ≤ 9223372036854775807 := by decide +kernel
                                               omega
    obtain ⟨l, hll, hp⟩ := list_of len (fun i (s : S49) => ∃ cs, cs.length = 2 ∧ k49.K w s cs ∧ (∀ j u, cs[j]? = some u → w.cell? (a.add (i * 2 + j)) = some u) ∧ byteL s.f1) fun i hil => by
      obtain ⟨cs', hc, ht⟩ := hi i (by rw [hmm]; simp; omega)
      rw [hC] at hc
      obtain ⟨u, x, rfl, h0, h1⟩ := cells2 hc
      obtain ⟨y0, y1, n2, _, _, q0, q1⟩ := trod_struct2 Try.underlying49 ht
      have e0 : Try.prog.cellsOf 31 = 1 := by kernel_rfl
      have e1 : Try.prog.cellsOf 3 = 1 := by kernel_rfl
      simp only [e0, e1, List.drop_zero, List.drop_succ_cons, List.take_succ_cons, List.take_zero] at q0 q1
      obtain ⟨A1, c1, b, rfl, hbc, hbC, hby⟩ := open_text q1
      obtain ⟨bb, hbb, _⟩ := DataW.trod_int Try.underlying3 q0
      obtain rfl : u = .int .i64 bb := by simpa using hbb
      refine ⟨⟨bb, b⟩, [.int .i64 bb, .slice A1 b.length c1], rfl, k49_mk w ⟨bb, b⟩ hbc hbC, fun j u hj => ?_, hby⟩
      rw [← Go.Deep.add_add]
      match j, hj with
      | 0, hj => rw [h0]; simpa using hj
      | 1, hj => rw [h1]; simpa using hj
      | j + 2, hj => simp at hj
    subst hll
    refine ⟨some a, cap, l, rfl, hl, ⟨rfl, by omega, fun _ => ⟨a, rfl, fun j s hs => ?_⟩⟩, fun s hs => ?_⟩
    · obtain ⟨cs, h1, h2, h3, _⟩ := hp j s hs
      exact ⟨cs, h1, h2, h3⟩
    · obtain ⟨j, hj, rfl⟩ := List.mem_iff_getElem.1 hs
      exact (hp j _ (List.getElem?_eq_getElem hj)).choose_spec.2.2.2
set_option maxRecDepth 100000 in
theorem open_disk {r : Reach} {b0 : Nat} {v : Value} {d : DataW H} {p : List MemPlace} (hv : Value.okWide Try.prog w r b0 25 v) (h : DataW.Trod enc Try.prog w base (fun _ => true) true 25 v d p) :
    ∃ (A0 : Option Addr) (c0 : Nat) (l0 : List S39) (A1 : Option Addr) (c1 : Nat) (l1 : List S49), v = .agg #[.slice A0 l0.length c0, .slice A1 l1.length c1] ∧ l0.length ≤ c0 ∧ Kd.C k39 w A0 l0.length l0 ∧ l1.length ≤ c1 ∧ Kd.C k49 w A1 l1.length l1 ∧ bytesD l0 l1 := by
  obtain ⟨v0, v1, y0, y1, n, rfl, _, _, h0, h1⟩ := open_agg2 Try.underlying25 (by kernel_rfl) (by kernel_rfl) hv h
  obtain ⟨A0, c0, l0, rfl, a1, a2, a3⟩ := open_secs h0
  obtain ⟨A1, c1, l1, rfl, b1, b2, b3⟩ := open_pends h1
  exact ⟨A0, c0, l0, A1, c1, l1, rfl, a1, a2, b1, b2, a3, b3⟩
end
section
variable {H : Type} {enc : TypeId × Value → H} {w : World} {base : Nat}
set_option maxRecDepth 100000 in
theorem open_bytes {r : Reach} {b0 : Nat} {v : Value} {d : DataW H} {p : List MemPlace} (hv : Value.okWide Try.prog w r b0 31 v) (h : DataW.Trod enc Try.prog w base (fun _ => true) true 31 v d p) :
    ∃ (A : Option Addr) (c : Nat) (l : List Int), v = .slice A l.length c ∧ l.length ≤ c ∧ Kd.C (Kd.int .u8) w A l.length l ∧ byteL l := by
  obtain ⟨a, len, cap, rfl⟩ := okWide_slice Try.underlying31 hv
  obtain ⟨fuel, hf⟩ := h
  exact open_text hf
end
end Go.Proofs.Ytdkjhcdniepbhaa.P
end
