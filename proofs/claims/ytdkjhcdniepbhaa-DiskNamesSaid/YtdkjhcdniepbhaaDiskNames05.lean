/- Part 5 of the proof: DiskNames: the examples of the chapter on disks and the limits', fates' and errors' numbers hold of the program; no arguments, no condition. -/
import Derived.Test.YtdkjhcdniepbhaaDiskNames04
section
set_option linter.unusedVariables false
set_option linter.unusedSimpArgs false
namespace Go.Proofs.Ytdkjhcdniepbhaa.P
open Go.RowKit Go.Proofs.PrintWords Go.Proofs.PrintLast Go.Proofs.PrintMore
attribute [local go_sem] max2_int min2_int max_two min_two max_three min_three max_four min_four
mutual
def catamaranref05_Twin.l0 : Nat → Int → List (S39) → List (S49) → List (S39) → Option ((List (S39)) × (List (S49)))
  | 0, _, _, _, _ => none
  | k + 1, x4, x1000, x1001, x1002 => if x4 < (x1000.length : Int) then ((some (([] : List Int) : List Int)).bind fun y1003 => (if 0 ≤ x4 then (if y1003.length + ((rd_T39 x1000 x4).f0).length < 140737488355328 then (if x1002.length < 4398046511104 then (catamaranref05_Twin.l0 k (wrap64 (x4 + 1)) x1000 x1001 (x1002 ++ [(⟨(y1003 ++ ((rd_T39 x1000 x4).f0)), (rd_T39 x1000 x4).f1⟩ : S39)])) else (none)) else (none)) else (none))) else (catamaranref05_Twin.l1 k 0 x1000 x1001 x1002 ([] : List (S49)))
def catamaranref05_Twin.l1 : Nat → Int → List (S39) → List (S49) → List (S39) → List (S49) → Option ((List (S39)) × (List (S49)))
  | 0, _, _, _, _, _ => none
  | k + 1, x5, x1000, x1001, x1002, x1004 => if x5 < (x1001.length : Int) then (if 0 ≤ x5 then ((some (([] : List Int) : List Int)).bind fun y1005 => (if y1005.length + ((rd_T49 x1001 x5).f1).length < 140737488355328 then (if x1004.length < 4398046511104 then (catamaranref05_Twin.l1 k (wrap64 (x5 + 1)) x1000 x1001 x1002 (x1004 ++ [(⟨(rd_T49 x1001 x5).f0, (y1005 ++ ((rd_T49 x1001 x5).f1))⟩ : S49)])) else (none)) else (none))) else (none)) else (some (x1002, x1004))
end
def catamaranref05_Twin.f (k : Nat) (l0_0 : List (S39)) (l0_1 : List (S49)) : Option ((List (S39)) × (List (S49))) := catamaranref05_Twin.l0 k 0 l0_0 l0_1 ([] : List (S39))
theorem catamaranref05_Twin.mono_l : ∀ k, (∀ y0 y1 y2 y3, LeO (catamaranref05_Twin.l0 k y0 y1 y2 y3) (catamaranref05_Twin.l0 (k + 1) y0 y1 y2 y3)) ∧ (∀ y0 y1 y2 y3 y4, LeO (catamaranref05_Twin.l1 k y0 y1 y2 y3 y4) (catamaranref05_Twin.l1 (k + 1) y0 y1 y2 y3 y4))
  | 0 => ⟨fun _ _ _ _ r h => by simp [catamaranref05_Twin.l0] at h, fun _ _ _ _ _ r h => by simp [catamaranref05_Twin.l1] at h⟩
  | k + 1 => by
    obtain ⟨ih0, ih1⟩ := catamaranref05_Twin.mono_l k
    refine ⟨?_, ?_⟩
    · intro y0 y1 y2 y3
      unfold catamaranref05_Twin.l0
      repeat' first
      | (with_reducible exact ih0 _ _ _ _)
      | (with_reducible exact ih1 _ _ _ _ _)
      | (with_reducible exact LeO.refl _)
      | (with_reducible exact LeO.none _)
      | (with_reducible refine LeO.ite ?_ ?_)
      | (with_reducible refine LeO.bind ?_ (fun _ => ?_))
      | exact ih0 _ _ _ _
      | exact ih1 _ _ _ _ _
      | exact LeO.none _
      | refine LeO.ite ?_ ?_
      | refine LeO.bind ?_ (fun _ => ?_)
    · intro y0 y1 y2 y3 y4
      unfold catamaranref05_Twin.l1
      repeat' first
      | (with_reducible exact ih0 _ _ _ _)
      | (with_reducible exact ih1 _ _ _ _ _)
      | (with_reducible exact LeO.refl _)
      | (with_reducible exact LeO.none _)
      | (with_reducible refine LeO.ite ?_ ?_)
      | (with_reducible refine LeO.bind ?_ (fun _ => ?_))
      | exact ih0 _ _ _ _
      | exact ih1 _ _ _ _ _
      | exact LeO.none _
      | refine LeO.ite ?_ ?_
      | refine LeO.bind ?_ (fun _ => ?_)
theorem catamaranref05_Twin.mono : ∀ a0 a1 k, LeO (catamaranref05_Twin.f k a0 a1) (catamaranref05_Twin.f (k + 1) a0 a1) := by
  intro a0 a1 k
  obtain ⟨ih0, ih1⟩ := catamaranref05_Twin.mono_l k
  unfold catamaranref05_Twin.f
  repeat' first
      | (with_reducible exact ih0 _ _ _ _)
      | (with_reducible exact ih1 _ _ _ _ _)
      | (with_reducible exact LeO.refl _)
      | (with_reducible exact LeO.none _)
      | (with_reducible refine LeO.ite ?_ ?_)
      | (with_reducible refine LeO.bind ?_ (fun _ => ?_))
      | exact ih0 _ _ _ _
      | exact ih1 _ _ _ _ _
      | exact LeO.none _
      | refine LeO.ite ?_ ?_
      | refine LeO.bind ?_ (fun _ => ?_)
def catamaranref05_Twin.T5 : Bool × List (List Nat × List Nat) := (true, [([], []), ([0], [0]), ([], []), ([], []), ([3], [3]), ([], []), ([4, 5], [4, 5]), ([6], [6]), ([7], [7]), ([2, 8], [2, 8]), ([], []), ([10], [10]), ([], []), ([11, 12], [11, 12]), ([13], [13]), ([14], [14]), ([9, 15], [9, 15]), ([16], [16]), ([1, 17, 9], [1, 17]), ([0, 1, 2, 3, 4, 5, 6, 7, 8, 9, 10, 11, 12, 13, 14, 15, 16, 17, 18], []), ([19, 18, 18, 0, 1, 2, 3, 4, 5, 6, 7, 8, 9, 10, 11, 12, 13, 14, 15, 16, 17, 18], [18, 19])])
def catamaranref05_Twin.B5 : List Nat := [0, 1, 0, 0, 8, 0, 56, 120, 248, 508, 0, 1024, 0, 7168, 15360, 31744, 65532, 131068, 262143, 524287, 1048575]
theorem catamaranref05_Twin.tab5 : rtab .any (opsOf Try.f25 5) = catamaranref05_Twin.T5 := by kernel_rfl
theorem catamaranref05_Twin.bits5 : waitsOk catamaranref05_Twin.T5.2 catamaranref05_Twin.B5 = true := by kernel_rfl
def catamaranref05_Twin.T9 : Bool × List (List Nat × List Nat) := (true, [([], []), ([0], [0]), ([], []), ([2], [2]), ([], []), ([3, 4], [3, 4]), ([5], [5]), ([6], [6]), ([], []), ([], []), ([9], [9]), ([], []), ([10, 11], [10, 11]), ([12], [12]), ([13], [13]), ([8, 14], [8, 14]), ([7, 15], [7, 15]), ([16], [16]), ([1, 17, 15], [1, 17]), ([0, 1, 2, 3, 4, 5, 6, 7, 8, 9, 10, 11, 12, 13, 14, 15, 16, 17, 18], []), ([19, 18, 18, 0, 1, 2, 3, 4, 5, 6, 7, 8, 9, 10, 11, 12, 13, 14, 15, 16, 17, 18], [18, 19])])
def catamaranref05_Twin.B9 : List Nat := [0, 1, 0, 4, 0, 28, 60, 124, 0, 0, 512, 0, 3584, 7680, 15872, 32512, 65532, 131068, 262143, 524287, 1048575]
theorem catamaranref05_Twin.tab9 : rtab .any (opsOf Try.f25 9) = catamaranref05_Twin.T9 := by kernel_rfl
theorem catamaranref05_Twin.bits9 : waitsOk catamaranref05_Twin.T9.2 catamaranref05_Twin.B9 = true := by kernel_rfl
set_option maxHeartbeats 8000000 in
set_option maxRecDepth 100000 in
theorem catamaranref05_Twin.calls (k : Nat) (A0_0 : Option Addr) (c0_0 : Nat) (l0_0 : List (S39)) (A0_1 : Option Addr) (c0_1 : Nat) (l0_1 : List (S49)) (r1 : List (S39)) (r2 : List (S49)) (w : World) (hr0_0 : Kd.C k39 w A0_0 l0_0.length l0_0) (hc0_0 : l0_0.length ≤ c0_0) (hr0_1 : Kd.C k49 w A0_1 l0_1.length l0_1) (hc0_1 : l0_1.length ≤ c0_1) (h : catamaranref05_Twin.f k l0_0 l0_1 = some (r1, r2)) :
    Calls Try.prog 25 #[.agg #[.slice A0_0 l0_0.length c0_0, .slice A0_1 l0_1.length c0_1]] w fun e w' => ∃ v0_ v1_ : Value, e = .returned (.agg #[v0_, v1_]) ∧ Kd.S k39 39 w' w.heap.size (fun _ => True) v0_ r1 ∧ Kd.S k49 49 w' w.heap.size (fun _ => True) v1_ r2 ∧ Below w.heap.size w w' := by
  have hu25 := Try.underlying25
  have hu39 := Try.underlying39
  have hu49 := Try.underlying49
  have HR0_0 := Aside0.mk hr0_0
  have HC0_0 := Aside0.mk hc0_0
  clear hr0_0 hc0_0
  have HR0_1 := Aside0.mk hr0_1
  have HC0_1 := Aside0.mk hc0_1
  clear hr0_1 hc0_1
  have HB := Aside0.mk (Below.refl w.heap.size w)
  have H : (catamaranref05_Twin.l0 k 0 l0_0 l0_1 ([] : List (S39))) = some (r1, r2) := h
  clear h
  have H' := Aside0.mk H
  clear H
  go_enter Try.func25, Try.ntmps25
  go_wp2_with (first | ((with_reducible refine gate_dst (N := 1) rfl ?_); refine box_event ?hg (N := 1) ?hd (cs := #[.slice A0_0 l0_0.length c0_0, .slice A0_1 l0_1.length c0_1]) (t := 25) ?hr ?_; (case hd => rfl); (case hg => rfl); (case hr => first | (go_simp; done) | (go_simp; rfl)); intro gb1006 hg w2 hbox hb; have n0_ := Aside0.mk (below_step (by repeat (first | (with_reducible first | exact HB.out | apply below_alloc | apply pbdN | apply bdr1) | exact HB.out)) hb); have n1_ := Aside0.mk (hbox); have n2_ := Aside0.mk ((by rw [hg]; exact (below_size (by repeat (first | (with_reducible first | exact HB.out | apply below_alloc | apply pbdN | apply bdr1) | exact HB.out))) : w.heap.size ≤ gb1006)); have n3_ := Aside0.mk ((by rw [hg]; exact (below_size (by repeat (first | (with_reducible first | exact HB.out | apply below_alloc | apply pbdN | apply bdr1) | exact HB.out))) : w.heap.size ≤ gb1006)); clear HB; have HB := n0_; have BK1006 := n1_; have GW1006 := n2_; have GE1006 := n3_; clear n0_ n1_ n2_ n3_; clear hb hbox hg) | ((with_reducible refine gate_dst (N := 2) rfl ?_); refine box_event ?hg (N := 2) ?hd (cs := #[.slice none 0 0, .slice none 0 0]) (t := 25) ?hr ?_; (case hd => rfl); (case hg => rfl); (case hr => first | (go_simp; done) | (go_simp; rfl)); intro gb1007 hg w3 hbox hb; have n0_ := Aside0.mk (blk_below (g := gb1006) (o := .cells #[.slice A0_0 l0_0.length c0_0, .slice A0_1 l0_1.length c0_1] 25 (0, 0)) (by (with_reducible repeat (first | refine blk_drewN ?_ _ | refine blk_drew ?_ | refine blk_alloc ?_ _)); exact BK1006.out) hb); have n1_ := Aside0.mk (below_step (by repeat (first | (with_reducible first | exact HB.out | apply below_alloc | apply pbdN | apply bdr1 | refine below_set ?_ GE1006.out) | exact HB.out)) hb); have n2_ := Aside0.mk (hbox); have n3_ := Aside0.mk ((by rw [hg]; exact (below_size (by repeat (first | (with_reducible first | exact HB.out | apply below_alloc | apply pbdN | apply bdr1 | refine below_set ?_ GE1006.out) | exact HB.out))) : w.heap.size ≤ gb1007)); have n4_ := Aside0.mk ((by rw [hg]; exact (below_size (by repeat (first | (with_reducible first | exact HB.out | apply below_alloc | apply pbdN | apply bdr1 | refine below_set ?_ GE1006.out) | exact HB.out))) : w.heap.size ≤ gb1007)); have n5_ := Aside0.mk ((by rw [hg]; exact Nat.ne_of_lt (blk_lt (g := gb1006) (o := .cells #[.slice A0_0 l0_0.length c0_0, .slice A0_1 l0_1.length c0_1] 25 (0, 0)) (by (with_reducible repeat (first | refine blk_drewN ?_ _ | refine blk_drew ?_ | refine blk_alloc ?_ _)); exact BK1006.out)) : gb1006 ≠ gb1007)); have n6_ := Aside0.mk ((by rw [hg]; exact Nat.ne_of_gt (blk_lt (g := gb1006) (o := .cells #[.slice A0_0 l0_0.length c0_0, .slice A0_1 l0_1.length c0_1] 25 (0, 0)) (by (with_reducible repeat (first | refine blk_drewN ?_ _ | refine blk_drew ?_ | refine blk_alloc ?_ _)); exact BK1006.out)) : gb1007 ≠ gb1006)); clear BK1006; clear HB; have BK1006 := n0_; have HB := n1_; have BK1007 := n2_; have GW1007 := n3_; have GE1007 := n4_; have NB1006_215 := n5_; have NB1007_214 := n6_; clear n0_ n1_ n2_ n3_ n4_ n5_ n6_; clear hb hbox hg) | ((with_reducible refine gate_dst (N := 3) rfl ?_); refine box_event ?hg (N := 3) ?hd (cs := #[.slice none 0 0, .slice none 0 0]) (t := 25) ?hr ?_; (case hd => rfl); (case hg => rfl); (case hr => first | (go_simp; done) | (go_simp; rfl)); intro gb1008 hg w4 hbox hb; have n0_ := Aside0.mk (blk_below (g := gb1006) (o := .cells #[.slice A0_0 l0_0.length c0_0, .slice A0_1 l0_1.length c0_1] 25 (0, 0)) (by (with_reducible repeat (first | refine blk_drewN ?_ _ | refine blk_drew ?_ | refine blk_alloc ?_ _)); exact BK1006.out) hb); have n1_ := Aside0.mk (blk_below (g := gb1007) (o := .cells #[.slice none 0 0, .slice none 0 0] 25 (0, 0)) (by (with_reducible repeat (first | refine blk_drewN ?_ _ | refine blk_drew ?_ | refine blk_alloc ?_ _)); exact BK1007.out) hb); have n2_ := Aside0.mk (below_step (by repeat (first | (with_reducible first | exact HB.out | apply below_alloc | apply pbdN | apply bdr1 | refine below_set ?_ GE1006.out | refine below_set ?_ GE1007.out) | exact HB.out)) hb); have n3_ := Aside0.mk (hbox); have n4_ := Aside0.mk ((by rw [hg]; exact (below_size (by repeat (first | (with_reducible first | exact HB.out | apply below_alloc | apply pbdN | apply bdr1 | refine below_set ?_ GE1006.out | refine below_set ?_ GE1007.out) | exact HB.out))) : w.heap.size ≤ gb1008)); have n5_ := Aside0.mk ((by rw [hg]; exact (below_size (by repeat (first | (with_reducible first | exact HB.out | apply below_alloc | apply pbdN | apply bdr1 | refine below_set ?_ GE1006.out | refine below_set ?_ GE1007.out) | exact HB.out))) : w.heap.size ≤ gb1008)); have n6_ := Aside0.mk ((by rw [hg]; exact Nat.ne_of_lt (blk_lt (g := gb1006) (o := .cells #[.slice A0_0 l0_0.length c0_0, .slice A0_1 l0_1.length c0_1] 25 (0, 0)) (by (with_reducible repeat (first | refine blk_drewN ?_ _ | refine blk_drew ?_ | refine blk_alloc ?_ _)); exact BK1006.out)) : gb1006 ≠ gb1008)); have n7_ := Aside0.mk ((by rw [hg]; exact Nat.ne_of_gt (blk_lt (g := gb1006) (o := .cells #[.slice A0_0 l0_0.length c0_0, .slice A0_1 l0_1.length c0_1] 25 (0, 0)) (by (with_reducible repeat (first | refine blk_drewN ?_ _ | refine blk_drew ?_ | refine blk_alloc ?_ _)); exact BK1006.out)) : gb1008 ≠ gb1006)); have n8_ := Aside0.mk ((by rw [hg]; exact Nat.ne_of_lt (blk_lt (g := gb1007) (o := .cells #[.slice none 0 0, .slice none 0 0] 25 (0, 0)) (by (with_reducible repeat (first | refine blk_drewN ?_ _ | refine blk_drew ?_ | refine blk_alloc ?_ _)); exact BK1007.out)) : gb1007 ≠ gb1008)); have n9_ := Aside0.mk ((by rw [hg]; exact Nat.ne_of_gt (blk_lt (g := gb1007) (o := .cells #[.slice none 0 0, .slice none 0 0] 25 (0, 0)) (by (with_reducible repeat (first | refine blk_drewN ?_ _ | refine blk_drew ?_ | refine blk_alloc ?_ _)); exact BK1007.out)) : gb1008 ≠ gb1007)); clear BK1006; clear BK1007; clear HB; have BK1006 := n0_; have BK1007 := n1_; have HB := n2_; have BK1008 := n3_; have GW1008 := n4_; have GE1008 := n5_; have NB1006_216 := n6_; have NB1008_214 := n7_; have NB1007_216 := n8_; have NB1008_215 := n9_; clear n0_ n1_ n2_ n3_ n4_ n5_ n6_ n7_ n8_ n9_; clear hb hbox hg))
  go_loopg [4] k (fun kq v4 w' => ∃ (x4_1 : Int) (x1002_1 : List (S39)) (u217000 : Value), v4 = .int .i64 x4_1 ∧ Aside0 (catamaranref05_Twin.l0 kq x4_1 l0_0 l0_1 x1002_1 = some (r1, r2)) ∧ Aside0 (kq ≤ k) ∧ Aside0 (Kd.S k39 39 w' w.heap.size (fun _ => True) u217000 x1002_1) ∧ Aside0 (w'.heap[gb1006]? = some (.cells #[(.slice A0_0 l0_0.length c0_0), (.slice A0_1 l0_1.length c0_1)] 25 (0, 0))) ∧ Aside0 (w'.heap[gb1007]? = some (.cells #[(.slice none 0 0), (.slice none 0 0)] 25 (0, 0))) ∧ Aside0 (w'.heap[gb1008]? = some (.cells #[u217000, (.slice none 0 0)] 25 (0, 0))) ∧ Aside0 (Below w.heap.size w w'))
  case atStart => exact ⟨(0), (([] : List (S39))), (.slice none 0 0), (by first | rfl | (simp; done) | (simp [*]; done)), H', ⟨Nat.le_refl _⟩, ⟨by first | exact Kd.S_nil _ _ _ _ _ | exact Kd.N_nil _ _ _ _ _ | exact Kd.V_nil _ _ _ _ _ | exact Kd.Q_nil _ _ _ _ _ | exact Kd.R_nil _ _ _ _ _⟩, ⟨by (with_reducible repeat (first | refine blk_drewN ?_ _ | refine blk_drew ?_ | refine blk_alloc ?_ _)); exact BK1006.out⟩, ⟨by (with_reducible repeat (first | refine blk_drewN ?_ _ | refine blk_drew ?_ | refine blk_alloc ?_ _)); exact BK1007.out⟩, ⟨by (with_reducible repeat (first | refine blk_drewN ?_ _ | refine blk_drew ?_ | refine blk_alloc ?_ _)); exact BK1008.out⟩, ⟨by repeat (first | (with_reducible first | exact HB.out | apply below_alloc | apply pbdN | apply bdr1 | refine below_set ?_ GE1006.out | refine below_set ?_ GE1007.out | refine below_set ?_ GE1008.out) | exact HB.out)⟩⟩
  case round =>
    clear H'
    try clear c2
    try clear p2
    obtain ⟨x4_1, x1002_1, u217000, rfl, HA, HK1, HO_1002, BK1006, BK1007, BK1008, HB⟩ := hrel
    cases gk with
    | zero => exact absurd HA.out (by simp [catamaranref05_Twin.l0])
    | succ k1 =>
      have H := HA.out
      clear HA
      simp only [catamaranref05_Twin.l0] at H
      by_cases c5 : x4_1 < (l0_0.length : Int)
      · rw [if_pos c5] at H
        have c5b0 : decide (x4_1 < (l0_0.length : Int)) = true := decide_eq_true c5
        clear c5
        obtain ⟨y1003, hy1003⟩ : ∃ y_ : List Int, y_ = (([] : List Int)) := ⟨_, rfl⟩
        replace H : (if 0 ≤ x4_1 then (if y1003.length + ((rd_T39 l0_0 x4_1).f0).length < 140737488355328 then (if x1002_1.length < 4398046511104 then (catamaranref05_Twin.l0 k1 (wrap64 (x4_1 + 1)) l0_0 l0_1 (x1002_1 ++ [(⟨(y1003 ++ ((rd_T39 l0_0 x4_1).f0)), (rd_T39 l0_0 x4_1).f1⟩ : S39)])) else (none)) else (none)) else (none)) = some (r1, r2) := by first | (rw [hy1003]; with_reducible exact H) | (have H2_ := (Option.bind_some _ _).symm.trans H; rw [hy1003]; with_reducible exact H2_) | (have H2_ := (Option.bind_some _ _).symm.trans H; with_reducible exact H2_) | with_reducible exact H | (rw [hy1003]; exact H) | exact H
        have Ny1003 := Aside0.mk hy1003
        clear hy1003
        by_cases c6 : 0 ≤ x4_1
        · rw [if_pos c6] at H
          have c6b0 : decide (0 ≤ x4_1) = true := decide_eq_true c6
          clear c6
          by_cases c7 : y1003.length + ((rd_T39 l0_0 x4_1).f0).length < 140737488355328
          · rw [if_pos c7] at H
            have LMc7 := Aside0.mk c7
            clear c7
            obtain ⟨y1009, hy1009⟩ : ∃ y_ : List Int, y_ = (y1003 ++ ((rd_T39 l0_0 x4_1).f0)) := ⟨_, rfl⟩
            replace H : (if x1002_1.length < 4398046511104 then (catamaranref05_Twin.l0 k1 (wrap64 (x4_1 + 1)) l0_0 l0_1 (x1002_1 ++ [(⟨y1009, (rd_T39 l0_0 x4_1).f1⟩ : S39)])) else (none)) = some (r1, r2) := by first | (rw [hy1009]; with_reducible exact H) | (have H2_ := (Option.bind_some _ _).symm.trans H; rw [hy1009]; with_reducible exact H2_) | (have H2_ := (Option.bind_some _ _).symm.trans H; with_reducible exact H2_) | with_reducible exact H | (rw [hy1009]; exact H) | exact H
            have Ny1009 := Aside0.mk hy1009
            clear hy1009
            by_cases c8 : x1002_1.length < 4398046511104
            · rw [if_pos c8] at H
              have LMc8 := Aside0.mk c8
              clear c8
              obtain ⟨y1010, hy1010⟩ : ∃ y_ : List (S39), y_ = (x1002_1 ++ [(⟨y1009, (rd_T39 l0_0 x4_1).f1⟩ : S39)]) := ⟨_, rfl⟩
              replace H : (catamaranref05_Twin.l0 k1 (wrap64 (x4_1 + 1)) l0_0 l0_1 y1010) = some (r1, r2) := by first | (rw [hy1010]; with_reducible exact H) | (have H2_ := (Option.bind_some _ _).symm.trans H; rw [hy1010]; with_reducible exact H2_) | (have H2_ := (Option.bind_some _ _).symm.trans H; with_reducible exact H2_) | with_reducible exact H | (rw [hy1010]; exact H) | exact H
              have Ny1010 := Aside0.mk hy1010
              clear hy1010
              have H' := Aside0.mk H
              clear H
              have hnb9 := NB1006_215.out
              have hnc9 := NB1007_214.out
              have hnb10 := NB1006_216.out
              have hnc10 := NB1008_214.out
              have hcz11_0 : wr.cell? ⟨gb1006, 0, none⟩ = some (.slice A0_0 l0_0.length c0_0) := (blk_cell BK1006.out 0).trans rfl
              have hcz11_1 : wr.cell? ⟨gb1006, 1, none⟩ = some (.slice A0_1 l0_1.length c0_1) := (blk_cell BK1006.out 1).trans rfl
              have hfz11_0 := blk_frozen BK1006.out 0
              have hfz11_1 := blk_frozen BK1006.out 1
              try go_wp2
              have n0_ := Aside0.mk (Kd.S_drew HO_1002.out)
              have n1_ := Aside0.mk (blk_drew BK1006.out)
              have n2_ := Aside0.mk (blk_drew BK1007.out)
              have n3_ := Aside0.mk (blk_drew BK1008.out)
              have n4_ := Aside0.mk (bdr1 HB.out)
              clear HO_1002
              clear BK1006
              clear BK1007
              clear BK1008
              clear HB
              have HO_1002 := n0_
              have BK1006 := n1_
              have BK1007 := n2_
              have BK1008 := n3_
              have HB := n4_
              clear n0_ n1_ n2_ n3_ n4_
              have p1011 : 0 ≤ (x4_1 : Int) := of_decide_eq_true (by first | (with_reducible assumption) | assumption)
              have q1011 : x4_1 < (l0_0.length : Int) := of_decide_eq_true (by first | (with_reducible assumption) | assumption)
              obtain ⟨ad1011, A1011_0, c1011_0, e1011, hx1011_0, hx1011_1, hl1011_0, hi1011_0⟩ := at_T39 HR0_0.out x4_1 p1011 q1011
              have hw1011_1 := hx1011_1
              have hw1011_0 := hx1011_0
              cases e1011
              replace hx1011_0 := (HB.out.cell (World.block_lt_of_cell? w _ hx1011_0)).trans hx1011_0
              replace hx1011_1 := (HB.out.cell (World.block_lt_of_cell? w _ hx1011_1)).trans hx1011_1
              have HR1011_0 := Aside0.mk hi1011_0
              have HC1011_0 := Aside0.mk hl1011_0
              clear hi1011_0 hl1011_0
              replace p1011 := eq_true p1011
              replace q1011 := eq_true q1011
              have p1012 : 0 ≤ (x4_1 : Int) := of_decide_eq_true (by first | (with_reducible assumption) | assumption)
              have q1012 : x4_1 < (l0_0.length : Int) := of_decide_eq_true (by first | (with_reducible assumption) | assumption)
              obtain ⟨ad1012, A1012_0, c1012_0, e1012, hx1012_0, hx1012_1, hl1012_0, hi1012_0⟩ := at_T39 HR0_0.out x4_1 p1012 q1012
              have hw1012_1 := hx1012_1
              have hw1012_0 := hx1012_0
              obtain rfl : ad1011 = ad1012 := (by injection e1012)
              replace hx1012_0 := (HB.out.cell (World.block_lt_of_cell? w _ hx1012_0)).trans hx1012_0
              replace hx1012_1 := (HB.out.cell (World.block_lt_of_cell? w _ hx1012_1)).trans hx1012_1
              have HR1012_0 := Aside0.mk hi1012_0
              have HC1012_0 := Aside0.mk hl1012_0
              clear hi1012_0 hl1012_0
              replace p1012 := eq_true p1012
              replace q1012 := eq_true q1012
              have ea_ := Option.some.inj (hx1011_0.symm.trans hx1012_0)
              injection ea_ with ea_ en_ ec_
              subst ea_
              subst ec_
              clear en_
              refine start_ (n := 21) (S := fun w' => w'.cell? ⟨gb1008, 0, none⟩ = some (u217000) ∧ w'.cell? ⟨gb1008, 1, none⟩ = some (.slice none 0 0) ∧ w'.cell? ⟨gb1006, 0, none⟩ = some (.slice (some ad1011) l0_0.length c0_0) ∧ w'.cell? ⟨gb1006, 1, none⟩ = some (.slice A0_1 l0_1.length c0_1) ∧ w'.cell? (ad1011.add ((x4_1).toNat * 2)) = some (.slice A1011_0 ((rd_T39 l0_0 x4_1).f0).length c1011_0) ∧ w'.cell? ⟨(ad1011.add ((x4_1).toNat * 2)).block, (ad1011.add ((x4_1).toNat * 2)).off + 1, none⟩ = some (.bool ((rd_T39 l0_0 x4_1).f1)) ∧ w'.cell? (ad1011.add ((x4_1).toNat * 2)) = some (.slice A1011_0 ((rd_T39 l0_0 x4_1).f0).length c1011_0) ∧ w'.cell? ⟨(ad1011.add ((x4_1).toNat * 2)).block, (ad1011.add ((x4_1).toNat * 2)).off + 1, none⟩ = some (.bool ((rd_T39 l0_0 x4_1).f1))) (ds := [20]) #[false, false, false, false, false, false, false, false, false, false, false, false, false, false, false, false, false, false, false, false, false] (by kernel_rfl) rfl rfl ⟨(blk_cell BK1008.out 0).trans rfl, (blk_cell BK1008.out 1).trans rfl, (blk_cell BK1006.out 0).trans rfl, (blk_cell BK1006.out 1).trans rfl, ((HB.out.cell (World.block_lt_of_cell? w _ hw1011_0)).trans hw1011_0), ((HB.out.cell (World.block_lt_of_cell? w _ hw1011_1)).trans hw1011_1), ((HB.out.cell (World.block_lt_of_cell? w _ hw1012_0)).trans hw1012_0), ((HB.out.cell (World.block_lt_of_cell? w _ hw1012_1)).trans hw1012_1)⟩ (fun hHeld => ?_); refine wtW catamaranref05_Twin.tab5 catamaranref05_Twin.bits5 (fun HT_ HW_ => ?_)
              generalize wr.drew = w12 at HO_1002 BK1006 BK1007 BK1008 HB HR1011_0 HR1012_0 hx1011_0 hx1011_1 hx1012_0 hx1012_1 hHeld ⊢
              refine pure_ (i := 0) (N := some 13) (v := ?_) (a' := ?_) #[true, false, false, false, false, false, false, false, false, false, false, false, false, false, false, false, false, false, false, false, false] rfl rfl (any_of HT_.out (by kernel_rfl)) (fun _ _ _ h => h) (Or.inl ⟨by rfl, ?_⟩) ?_ ?_
              rotate_left
              · intro w'
                go_simp
                with_reducible rfl
              rotate_left
              · simp only [Act.put, List.setIfInBounds_toArray, List.set_cons_zero, List.set_cons_succ, i64_w, i32_w]
                rfl
              refine pure_ (i := 3) (N := some 16) (v := ?_) (a' := ?_) #[true, false, false, true, false, false, false, false, false, false, false, false, false, false, false, false, false, false, false, false, false] rfl rfl (any_of HT_.out (by kernel_rfl)) (fun _ _ _ h => h) (Or.inl ⟨by rfl, ?_⟩) ?_ ?_
              rotate_left
              · intro w'
                go_simp
                with_reducible rfl
              rotate_left
              · simp only [Act.put, List.setIfInBounds_toArray, List.set_cons_zero, List.set_cons_succ, i64_w, i32_w]
                rfl
              refine pure_ (i := 5) (N := some 18) (v := ?_) (a' := ?_) #[true, false, false, true, false, true, false, false, false, false, false, false, false, false, false, false, false, false, false, false, false] rfl rfl (any_of HT_.out (by kernel_rfl)) (fun _ _ _ h => h) (Or.inl ⟨by rfl, ?_⟩) ?_ ?_
              rotate_left
              · intro w'
                go_simp
                with_reducible rfl
              rotate_left
              · simp only [Act.put, List.setIfInBounds_toArray, List.set_cons_zero, List.set_cons_succ, i64_w, i32_w]
                rfl
              refine pure_ (i := 10) (N := some 23) (v := ?_) (a' := ?_) #[true, false, false, true, false, true, false, false, false, false, true, false, false, false, false, false, false, false, false, false, false] rfl rfl (any_of HT_.out (by kernel_rfl)) (fun _ _ _ h => h) (Or.inl ⟨by rfl, ?_⟩) ?_ ?_
              rotate_left
              · intro w'
                go_simp
                with_reducible rfl
              rotate_left
              · simp only [Act.put, List.setIfInBounds_toArray, List.set_cons_zero, List.set_cons_succ, i64_w, i32_w]
                rfl
              refine pure_ (i := 12) (N := some 25) (v := ?_) (a' := ?_) #[true, false, false, true, false, true, false, false, false, false, true, false, true, false, false, false, false, false, false, false, false] rfl rfl (any_of HT_.out (by kernel_rfl)) (fun _ _ _ h => h) (Or.inl ⟨by rfl, ?_⟩) ?_ ?_
              rotate_left
              · intro w'
                go_simp
                with_reducible rfl
              rotate_left
              · simp only [Act.put, List.setIfInBounds_toArray, List.set_cons_zero, List.set_cons_succ, i64_w, i32_w]
                rfl
              refine take_ (i := 1) (N := some 14) (v := ?_) (a' := ?_) #[true, true, false, true, false, true, false, false, false, false, true, false, true, false, false, false, false, false, false, false, false] rfl rfl (take_ofW HT_.out HW_.out (by kernel_rfl)) (fun _ _ _ h => h) (Or.inl ⟨by rfl, ?_⟩) hHeld ?_ ?_
              rotate_left
              · rintro w' ⟨s0, s1, s2, s3, s4, s5, s6, s7⟩
                go_simp
                with_reducible rfl
              rotate_left
              · simp only [Act.put, List.setIfInBounds_toArray, List.set_cons_zero, List.set_cons_succ, i64_w, i32_w]
                rfl
              refine take_ (i := 4) (N := some 17) (v := ?_) (a' := ?_) #[true, true, false, true, true, true, false, false, false, false, true, false, true, false, false, false, false, false, false, false, false] rfl rfl (take_ofW HT_.out HW_.out (by kernel_rfl)) (fun _ _ _ h => h) (Or.inl ⟨by rfl, ?_⟩) hHeld ?_ ?_
              rotate_left
              · rintro w' ⟨s0, s1, s2, s3, s4, s5, s6, s7⟩
                go_simp
                with_reducible rfl
              rotate_left
              · simp only [Act.put, List.setIfInBounds_toArray, List.set_cons_zero, List.set_cons_succ, i64_w, i32_w]
                rfl
              refine pure_ (i := 6) (N := some 19) (v := ?_) (a' := ?_) #[true, true, false, true, true, true, true, false, false, false, true, false, true, false, false, false, false, false, false, false, false] rfl rfl (any_of HT_.out (by kernel_rfl)) (fun _ _ _ h => h) (Or.inl ⟨by rfl, ?_⟩) ?_ ?_
              rotate_left
              · intro w'
                go_simp
                with_reducible rfl
              rotate_left
              · simp only [Act.put, List.setIfInBounds_toArray, List.set_cons_zero, List.set_cons_succ, i64_w, i32_w]
                rfl
              refine pure_ (i := 7) (N := some 20) (v := ?_) (a' := ?_) #[true, true, false, true, true, true, true, true, false, false, true, false, true, false, false, false, false, false, false, false, false] rfl rfl (any_of HT_.out (by kernel_rfl)) (fun _ _ _ h => h) (Or.inl ⟨by rfl, ?_⟩) ?_ ?_
              rotate_left
              · intro w'
                go_simp
                with_reducible rfl
              rotate_left
              · simp only [Act.put, List.setIfInBounds_toArray, List.set_cons_zero, List.set_cons_succ, i64_w, i32_w]
                rfl
              refine take_ (i := 8) (N := some 21) (v := ?_) (a' := ?_) #[true, true, false, true, true, true, true, true, true, false, true, false, true, false, false, false, false, false, false, false, false] rfl rfl (take_ofW HT_.out HW_.out (by kernel_rfl)) (fun _ _ _ h => h) (Or.inl ⟨by rfl, ?_⟩) hHeld ?_ ?_
              rotate_left
              · rintro w' ⟨s0, s1, s2, s3, s4, s5, s6, s7⟩
                go_simp
                with_reducible rfl
              rotate_left
              · simp only [Act.put, List.setIfInBounds_toArray, List.set_cons_zero, List.set_cons_succ, i64_w, i32_w]
                rfl
              refine take_ (i := 11) (N := some 24) (v := ?_) (a' := ?_) #[true, true, false, true, true, true, true, true, true, false, true, true, true, false, false, false, false, false, false, false, false] rfl rfl (take_ofW HT_.out HW_.out (by kernel_rfl)) (fun _ _ _ h => h) (Or.inl ⟨by rfl, ?_⟩) hHeld ?_ ?_
              rotate_left
              · rintro w' ⟨s0, s1, s2, s3, s4, s5, s6, s7⟩
                go_simp
                with_reducible rfl
              rotate_left
              · simp only [Act.put, List.setIfInBounds_toArray, List.set_cons_zero, List.set_cons_succ, i64_w, i32_w]
                rfl
              refine pure_ (i := 13) (N := some 26) (v := ?_) (a' := ?_) #[true, true, false, true, true, true, true, true, true, false, true, true, true, true, false, false, false, false, false, false, false] rfl rfl (any_of HT_.out (by kernel_rfl)) (fun _ _ _ h => h) (Or.inl ⟨by rfl, ?_⟩) ?_ ?_
              rotate_left
              · intro w'
                go_simp
                with_reducible rfl
              rotate_left
              · simp only [Act.put, List.setIfInBounds_toArray, List.set_cons_zero, List.set_cons_succ, i64_w, i32_w]
                rfl
              refine pure_ (i := 14) (N := some 27) (v := ?_) (a' := ?_) #[true, true, false, true, true, true, true, true, true, false, true, true, true, true, true, false, false, false, false, false, false] rfl rfl (any_of HT_.out (by kernel_rfl)) (fun _ _ _ h => h) (Or.inl ⟨by rfl, ?_⟩) ?_ ?_
              rotate_left
              · intro w'
                go_simp
                with_reducible rfl
              rotate_left
              · simp only [Act.put, List.setIfInBounds_toArray, List.set_cons_zero, List.set_cons_succ, i64_w, i32_w]
                rfl
              refine take_ (i := 15) (N := some 28) (v := ?_) (a' := ?_) #[true, true, false, true, true, true, true, true, true, false, true, true, true, true, true, true, false, false, false, false, false] rfl rfl (take_ofW HT_.out HW_.out (by kernel_rfl)) (fun _ _ _ h => h) (Or.inl ⟨by rfl, ?_⟩) hHeld ?_ ?_
              rotate_left
              · rintro w' ⟨s0, s1, s2, s3, s4, s5, s6, s7⟩
                go_simp
                with_reducible rfl
              rotate_left
              · simp only [Act.put, List.setIfInBounds_toArray, List.set_cons_zero, List.set_cons_succ, i64_w, i32_w]
                rfl
              refine one_ (i := 2) (N := some 15) #[true, true, true, true, true, true, true, true, true, false, true, true, true, true, true, true, false, false, false, false, false] rfl rfl (one_of HT_.out (by kernel_rfl)) (by decide) (fun K hK => ?_)
              refine Kd.R_lit_step (Kd.int .u8) _ 5 ?hg (N := 15) ?hd (xs := ([] : List Int)) (inner := []) (ok := fun _ => True) (okp := fun _ => True) ?hr ?hp (fun _ hk => hk) trivial (Below.refl _ _) (Nat.le_refl _) (by simp) ?_; (case hd => rfl); (case hg => rfl); (case hr => first | (go_simp; done) | (go_simp; rfl)); (case hp => exact (Reps.none _ _))
              intro v1013 w13 ho14 hb hg_ hnew_
              clear hg_ hnew_
              (first | rw [← Ny1003.out] at ho14 | (simp only [Int.reduceToNat] at ho14; rw [← Ny1003.out] at ho14))
              have n0_ := Aside0.mk (Kd.S_elder' (by (with_reducible repeat (first | apply Kd.S_alloc | apply Kd.S_drewN | apply Kd.S_drew)); exact HO_1002.out) (Kd.R_base ho14) hb)
              have n1_ := Aside0.mk (Kd.R_lower ho14 (below_size (by repeat (first | (with_reducible first | exact HB.out | apply below_alloc | apply pbdN | apply bdr1 | refine below_set ?_ GE1006.out | refine below_set ?_ GE1007.out | refine below_set ?_ GE1008.out) | exact HB.out))))
              have n2_ := Aside0.mk (blk_below (g := gb1006) (o := .cells #[.slice (some ad1011) l0_0.length c0_0, .slice A0_1 l0_1.length c0_1] 25 (0, 0)) (by (with_reducible repeat (first | refine blk_drewN ?_ _ | refine blk_drew ?_ | refine blk_alloc ?_ _)); exact BK1006.out) hb)
              have n3_ := Aside0.mk (blk_below (g := gb1007) (o := .cells #[.slice none 0 0, .slice none 0 0] 25 (0, 0)) (by (with_reducible repeat (first | refine blk_drewN ?_ _ | refine blk_drew ?_ | refine blk_alloc ?_ _)); exact BK1007.out) hb)
              have n4_ := Aside0.mk (blk_below (g := gb1008) (o := .cells #[u217000, .slice none 0 0] 25 (0, 0)) (by (with_reducible repeat (first | refine blk_drewN ?_ _ | refine blk_drew ?_ | refine blk_alloc ?_ _)); exact BK1008.out) hb)
              have n5_ := Aside0.mk (below_step (by repeat (first | (with_reducible first | exact HB.out | apply below_alloc | apply pbdN | apply bdr1 | refine below_set ?_ GE1006.out | refine below_set ?_ GE1007.out | refine below_set ?_ GE1008.out) | exact HB.out)) hb)
              clear HO_1002
              clear BK1006
              clear BK1007
              clear BK1008
              clear HB
              have HO_1002 := n0_
              have HO1014 := n1_
              have BK1006 := n2_
              have BK1007 := n3_
              have BK1008 := n4_
              have HB := n5_
              clear n0_ n1_ n2_ n3_ n4_ n5_
              clear hb ho14
              refine hK.out _ _ ⟨(blk_cell BK1008.out 0).trans rfl, (blk_cell BK1008.out 1).trans rfl, (blk_cell BK1006.out 0).trans rfl, (blk_cell BK1006.out 1).trans rfl, ((HB.out.cell (World.block_lt_of_cell? w _ hw1011_0)).trans hw1011_0), ((HB.out.cell (World.block_lt_of_cell? w _ hw1011_1)).trans hw1011_1), ((HB.out.cell (World.block_lt_of_cell? w _ hw1012_0)).trans hw1012_0), ((HB.out.cell (World.block_lt_of_cell? w _ hw1012_1)).trans hw1012_1)⟩ (fun hHeld => ?_)
              clear hK K
              refine norm_ (a' := ?_) ?_ ?_
              rotate_left
              · show Act.put _ (some 15) _ = _
                simp only [Act.put, List.setIfInBounds_toArray, List.set_cons_zero, List.set_cons_succ, i64_w, i32_w]
                rfl
              refine one_ (i := 9) (N := some 22) #[true, true, true, true, true, true, true, true, true, true, true, true, true, true, true, true, false, false, false, false, false] rfl rfl (one_of HT_.out (by kernel_rfl)) (by decide) (fun K hK => ?_)
              refine Kd.R_append_rows_step (Kd.int .u8) (w0 := w) w.heap.size (by rfl) (.tmp 15) (.tmp 21) 31 5 (.int .u8 0) 1 rfl Try.underlying31 info5 rfl (by decide) (by omega) v1013 y1003 ((rd_T39 l0_0 x4_1).f0) _ _ _ (fun _ => True) (fun _ => False) rfl rfl ?aO ?aR (fun _ _ h => h) (fun _ h => h.elim) ?aF ?aB ?aS ?aL ?_
              (case aR => repeat (first | exact (Kd.C_below HR1011_0.out HB.out) | (with_reducible refine Kd.C_alloc ?_ _) | (with_reducible refine Kd.C_drewN ?_ _) | (with_reducible refine Kd.C_drew ?_)))
              (case aB => exact (by repeat (first | (with_reducible first | exact HB.out | apply below_alloc | apply pbdN | apply bdr1 | refine below_set ?_ GE1006.out | refine below_set ?_ GE1007.out | refine below_set ?_ GE1008.out) | exact HB.out)))
              (case aF => exact (fun _ _ => trivial))
              (case aO => exact (by (with_reducible repeat (first | apply Kd.R_alloc | apply Kd.R_drewN | apply Kd.R_drew)); exact HO1014.out))
              (case aS => exact (below_size (by repeat (first | (with_reducible first | exact HB.out | apply below_alloc | apply pbdN | apply bdr1 | refine below_set ?_ GE1006.out | refine below_set ?_ GE1007.out | refine below_set ?_ GE1008.out) | exact HB.out))))
              (case aL => have := LMc7.out; omega)
              intro v1015 w15 ho hb hg hat
              rw [← Ny1009.out] at ho
              have n0_ := Aside0.mk (Kd.S_after (ok := (fun _ => True)) (by (with_reducible repeat (first | apply Kd.S_alloc | apply Kd.S_drewN | apply Kd.S_drew)); exact HO_1002.out) hg hat)
              have n1_ := Aside0.mk (blk_grown (g := gb1006) (o := .cells #[.slice (some ad1011) l0_0.length c0_0, .slice A0_1 l0_1.length c0_1] 25 (0, 0)) (by (with_reducible repeat (first | refine blk_drewN ?_ _ | refine blk_drew ?_ | refine blk_alloc ?_ _)); exact BK1006.out) hg (Kd.R_ne HO1014.out BK1006.out (by decide)))
              have n2_ := Aside0.mk (blk_grown (g := gb1007) (o := .cells #[.slice none 0 0, .slice none 0 0] 25 (0, 0)) (by (with_reducible repeat (first | refine blk_drewN ?_ _ | refine blk_drew ?_ | refine blk_alloc ?_ _)); exact BK1007.out) hg (Kd.R_ne HO1014.out BK1007.out (by decide)))
              have n3_ := Aside0.mk (blk_grown (g := gb1008) (o := .cells #[u217000, .slice none 0 0] 25 (0, 0)) (by (with_reducible repeat (first | refine blk_drewN ?_ _ | refine blk_drew ?_ | refine blk_alloc ?_ _)); exact BK1008.out) hg (Kd.R_ne HO1014.out BK1008.out (by decide)))
              have n4_ := Aside0.mk (hb)
              have n5_ := Aside0.mk (ho)
              clear HO_1002
              clear BK1006
              clear BK1007
              clear BK1008
              clear HB
              clear HO1014
              have HO_1002 := n0_
              have BK1006 := n1_
              have BK1007 := n2_
              have BK1008 := n3_
              have HB := n4_
              have HO1016 := n5_
              clear n0_ n1_ n2_ n3_ n4_ n5_
              clear ho hb hg hat
              obtain ⟨Ao16, co16, eo16⟩ := Kd.R_slice HO1016.out
              (first | subst eo16 | (injection eo16 with f1_ f2_ f3_; have f4_ := f1_.symm; have f5_ := f3_.symm; clear f1_ f2_ f3_; subst f4_; subst f5_))
              refine hK.out _ _ ⟨(blk_cell BK1008.out 0).trans rfl, (blk_cell BK1008.out 1).trans rfl, (blk_cell BK1006.out 0).trans rfl, (blk_cell BK1006.out 1).trans rfl, ((HB.out.cell (World.block_lt_of_cell? w _ hw1011_0)).trans hw1011_0), ((HB.out.cell (World.block_lt_of_cell? w _ hw1011_1)).trans hw1011_1), ((HB.out.cell (World.block_lt_of_cell? w _ hw1012_0)).trans hw1012_0), ((HB.out.cell (World.block_lt_of_cell? w _ hw1012_1)).trans hw1012_1)⟩ (fun hHeld => ?_)
              clear hK K
              refine norm_ (a' := ?_) ?_ ?_
              rotate_left
              · show Act.put _ (some 22) _ = _
                simp only [Act.put, List.setIfInBounds_toArray, List.set_cons_zero, List.set_cons_succ, i64_w, i32_w]
                rfl
              refine pure_ (i := 16) (N := some 29) (v := ?_) (a' := ?_) #[true, true, true, true, true, true, true, true, true, true, true, true, true, true, true, true, true, false, false, false, false] rfl rfl (any_of HT_.out (by kernel_rfl)) (fun _ _ _ h => h) (Or.inl ⟨by rfl, ?_⟩) ?_ ?_
              rotate_left
              · intro w'
                go_simp
                with_reducible rfl
              rotate_left
              · simp only [Act.put, List.setIfInBounds_toArray, List.set_cons_zero, List.set_cons_succ, i64_w, i32_w]
                rfl
              refine one_ (i := 17) (N := some 30) #[true, true, true, true, true, true, true, true, true, true, true, true, true, true, true, true, true, true, false, false, false] rfl rfl (one_of HT_.out (by kernel_rfl)) (by decide) (fun K hK => ?_)
              refine value_ (w1 := ?_) (v := ?_) (by rfl) rfl ?_ ?_
              rotate_left 2
              · go_simp
                constructor
                · rfl
                · rfl
              refine hK.out _ _ ⟨(blk_cell (blk_alloc BK1008.out _) 0).trans rfl, (blk_cell (blk_alloc BK1008.out _) 1).trans rfl, (blk_cell (blk_alloc BK1006.out _) 0).trans rfl, (blk_cell (blk_alloc BK1006.out _) 1).trans rfl, (World.cell?_alloc_lt _ _ _ (World.block_lt_of_cell? _ _ (((HB.out.cell (World.block_lt_of_cell? w _ hw1011_0)).trans hw1011_0)))).trans (((HB.out.cell (World.block_lt_of_cell? w _ hw1011_0)).trans hw1011_0)), (World.cell?_alloc_lt _ _ _ (World.block_lt_of_cell? _ _ (((HB.out.cell (World.block_lt_of_cell? w _ hw1011_1)).trans hw1011_1)))).trans (((HB.out.cell (World.block_lt_of_cell? w _ hw1011_1)).trans hw1011_1)), (World.cell?_alloc_lt _ _ _ (World.block_lt_of_cell? _ _ (((HB.out.cell (World.block_lt_of_cell? w _ hw1012_0)).trans hw1012_0)))).trans (((HB.out.cell (World.block_lt_of_cell? w _ hw1012_0)).trans hw1012_0)), (World.cell?_alloc_lt _ _ _ (World.block_lt_of_cell? _ _ (((HB.out.cell (World.block_lt_of_cell? w _ hw1012_1)).trans hw1012_1)))).trans (((HB.out.cell (World.block_lt_of_cell? w _ hw1012_1)).trans hw1012_1))⟩ (fun hHeld => ?_)
              clear hK K
              refine norm_ (a' := ?_) ?_ ?_
              rotate_left
              · show Act.put _ (some 30) _ = _
                simp only [Act.put, List.setIfInBounds_toArray, List.set_cons_zero, List.set_cons_succ, i64_w, i32_w]
                rfl
              refine one_ (i := 18) (N := some 31) #[true, true, true, true, true, true, true, true, true, true, true, true, true, true, true, true, true, true, true, false, false] rfl rfl (one_of HT_.out (by kernel_rfl)) (by decide) (fun K hK => ?_)
              refine Kd.S_append_step k39 (w0 := w) w.heap.size (by rfl) (.tmp 14) (.tmp 30) 22 39 (.agg #[(.slice none 0 0), (.bool false)]) 32 rfl Try.underlying22 info39 rfl (by decide) (by omega) u217000 x1002_1 (⟨y1009, (rd_T39 l0_0 x4_1).f1⟩ : S39) [.slice Ao16 y1009.length co16, .bool ((rd_T39 l0_0 x4_1).f1)] (fun _ => True) (fun k_ => some k_ = (.slice Ao16 y1009.length co16 : Value).ownBlock) rfl rfl ?aP (fun k_ hk_ => ((Kd.R_mono (ok' := fun k_ => ((fun _ => True)) k_ ∧ some k_ ≠ (u217000 : Value).ownBlock) (Kd.R_apart' (HO1016.out) (Kd.S_typed HO_1002.out) (by decide)) (fun k_ hk => ⟨trivial, hk.2⟩))).1 k_ hk_.symm) ?aF ?aO ?aB ?aS ?aL ?_
              (case aP => exact k39_mkM _ _ _ (⟨y1009, (rd_T39 l0_0 x4_1).f1⟩ : S39) (Kd.R_mono (Kd.R_tight rfl (Kd.R_mono (ok' := fun k_ => ((fun _ => True)) k_ ∧ some k_ ≠ (u217000 : Value).ownBlock) (Kd.R_apart' (HO1016.out) (Kd.S_typed HO_1002.out) (by decide)) (fun k_ hk => ⟨trivial, hk.2⟩))) (fun _ h_ => h_)))
              (case aB => exact (by repeat (first | (with_reducible first | exact HB.out | apply below_alloc | apply pbdN | apply bdr1 | refine below_set ?_ GE1006.out | refine below_set ?_ GE1007.out | refine below_set ?_ GE1008.out) | exact HB.out)))
              (case aF => exact (fun _ _ => trivial))
              (case aO => exact (by (with_reducible repeat (first | apply Kd.S_alloc | apply Kd.S_drewN | apply Kd.S_drew)); exact Kd.S_mono HO_1002.out (fun k_ hk => ⟨trivial, fun e_ => hk.2 e_⟩)))
              (case aS => exact (below_size (by repeat (first | (with_reducible first | exact HB.out | apply below_alloc | apply pbdN | apply bdr1 | refine below_set ?_ GE1006.out | refine below_set ?_ GE1007.out | refine below_set ?_ GE1008.out) | exact HB.out))))
              (case aL => have := LMc8.out; omega)
              intro v1017 w17 ho hb hg hat
              rw [← Ny1010.out] at ho
              have n0_ := Aside0.mk (blk_grown (g := gb1006) (o := .cells #[.slice (some ad1011) l0_0.length c0_0, .slice A0_1 l0_1.length c0_1] 25 (0, 0)) (by (with_reducible repeat (first | refine blk_drewN ?_ _ | refine blk_drew ?_ | refine blk_alloc ?_ _)); exact BK1006.out) hg (Kd.S_ne HO_1002.out BK1006.out (by decide)))
              have n1_ := Aside0.mk (blk_grown (g := gb1007) (o := .cells #[.slice none 0 0, .slice none 0 0] 25 (0, 0)) (by (with_reducible repeat (first | refine blk_drewN ?_ _ | refine blk_drew ?_ | refine blk_alloc ?_ _)); exact BK1007.out) hg (Kd.S_ne HO_1002.out BK1007.out (by decide)))
              have n2_ := Aside0.mk (blk_grown (g := gb1008) (o := .cells #[u217000, .slice none 0 0] 25 (0, 0)) (by (with_reducible repeat (first | refine blk_drewN ?_ _ | refine blk_drew ?_ | refine blk_alloc ?_ _)); exact BK1008.out) hg (Kd.S_ne HO_1002.out BK1008.out (by decide)))
              have n3_ := Aside0.mk (hb)
              have n4_ := Aside0.mk (ho)
              clear BK1006
              clear BK1007
              clear BK1008
              clear HB
              clear HO_1002
              clear HO1016
              have BK1006 := n0_
              have BK1007 := n1_
              have BK1008 := n2_
              have HB := n3_
              have HO1018 := n4_
              clear n0_ n1_ n2_ n3_ n4_
              clear ho hb hg hat
              obtain ⟨Ao18, co18, eo18⟩ := Kd.S_slice HO1018.out
              (first | subst eo18 | (injection eo18 with f1_ f2_ f3_; have f4_ := f1_.symm; have f5_ := f3_.symm; clear f1_ f2_ f3_; subst f4_; subst f5_))
              refine hK.out _ _ ⟨(blk_cell BK1008.out 0).trans rfl, (blk_cell BK1008.out 1).trans rfl, (blk_cell BK1006.out 0).trans rfl, (blk_cell BK1006.out 1).trans rfl, ((HB.out.cell (World.block_lt_of_cell? w _ hw1011_0)).trans hw1011_0), ((HB.out.cell (World.block_lt_of_cell? w _ hw1011_1)).trans hw1011_1), ((HB.out.cell (World.block_lt_of_cell? w _ hw1012_0)).trans hw1012_0), ((HB.out.cell (World.block_lt_of_cell? w _ hw1012_1)).trans hw1012_1)⟩ (fun hHeld => ?_)
              clear hK K
              refine norm_ (a' := ?_) ?_ ?_
              rotate_left
              · show Act.put _ (some 31) _ = _
                simp only [Act.put, List.setIfInBounds_toArray, List.set_cons_zero, List.set_cons_succ, i64_w, i32_w]
                rfl
              refine pure_ (i := 19) (N := some 32) (v := ?_) (a' := ?_) #[true, true, true, true, true, true, true, true, true, true, true, true, true, true, true, true, true, true, true, true, false] rfl rfl (any_of HT_.out (by kernel_rfl)) (fun _ _ _ h => h) (Or.inl ⟨by rfl, ?_⟩) ?_ ?_
              rotate_left
              · intro w'
                go_simp
                with_reducible rfl
              rotate_left
              · simp only [Act.put, List.setIfInBounds_toArray, List.set_cons_zero, List.set_cons_succ, i64_w, i32_w]
                rfl
              refine last_ (i := 20) (N := none) #[true, true, true, true, true, true, true, true, true, true, true, true, true, true, true, true, true, true, true, true, true] rfl rfl (one_of HT_.out (by kernel_rfl)) (by decide) (fun K hK => ?_)
              have hs19 : w17.cell? ⟨gb1008, 0, none⟩ = some (u217000) := (blk_cell BK1008.out 0).trans rfl
              have hfs19 := blk_frozen BK1008.out 0
              have hns19_0 := NB1006_216.out
              have hns19_1 := NB1007_216.out
              have hms19_0 := NB1008_214.out
              have hms19_1 := NB1008_215.out
              refine skip_ (w1 := ?_) (by rfl) rfl ?_ ?_
              rotate_left
              · go_simp
                rfl
              refine hK.out _ _ ?_
              clear hK K
              refine done_ (done_of HT_.out (by kernel_rfl)) ?_
              try go_wp2
              go_roundg k1
              case measure => have := HK1.out; omega
              case rel => exact ⟨(wrap64 (x4_1 + 1)), (y1010), (.slice Ao18 y1010.length co18), (by first | rfl | (simp; done) | (simp [*]; done)), H', ⟨by have := HK1.out; omega⟩, ⟨by (with_reducible repeat (first | apply Kd.S_alloc | apply Kd.S_drewN | apply Kd.S_drew)); exact Kd.S_mono (Kd.S_far (p := ⟨gb1008, 0, none⟩) (Kd.S_types HO1018.out BK1008.out (by decide)) (fun _ hk => hk.2) (.slice Ao18 y1010.length co18)) (fun _ hk => trivial)⟩, ⟨by (with_reducible repeat (first | refine blk_drewN ?_ _ | refine blk_drew ?_ | refine blk_alloc ?_ _)); refine blk_far ?_ NB1006_216.out _; (with_reducible repeat (first | refine blk_drewN ?_ _ | refine blk_drew ?_ | refine blk_alloc ?_ _)); exact BK1006.out⟩, ⟨by (with_reducible repeat (first | refine blk_drewN ?_ _ | refine blk_drew ?_ | refine blk_alloc ?_ _)); refine blk_far ?_ NB1007_216.out _; (with_reducible repeat (first | refine blk_drewN ?_ _ | refine blk_drew ?_ | refine blk_alloc ?_ _)); exact BK1007.out⟩, ⟨by (with_reducible repeat (first | refine blk_drewN ?_ _ | refine blk_drew ?_ | refine blk_alloc ?_ _)); refine blk_put (cs := #[u217000, .slice none 0 0]) ?_ 0 _ rfl; (with_reducible repeat (first | refine blk_drewN ?_ _ | refine blk_drew ?_ | refine blk_alloc ?_ _)); exact BK1008.out⟩, ⟨by repeat (first | (with_reducible first | exact HB.out | apply below_alloc | apply pbdN | apply bdr1 | refine below_set ?_ GE1006.out | refine below_set ?_ GE1007.out | refine below_set ?_ GE1008.out) | exact HB.out)⟩⟩
            · rw [if_neg c8] at H
              exact absurd H (by simp)
          · rw [if_neg c7] at H
            exact absurd H (by simp)
        · rw [if_neg c6] at H
          exact absurd H (by simp)
      · rw [if_neg c5] at H
        have c5b0 : decide (x4_1 < (l0_0.length : Int)) = false := decide_eq_false c5
        clear c5
        have H' := Aside0.mk H
        clear H
        have hnb20 := NB1006_215.out
        have hnc20 := NB1007_214.out
        have hnb21 := NB1006_216.out
        have hnc21 := NB1008_214.out
        have hcz22_0 : wr.cell? ⟨gb1006, 0, none⟩ = some (.slice A0_0 l0_0.length c0_0) := (blk_cell BK1006.out 0).trans rfl
        have hcz22_1 : wr.cell? ⟨gb1006, 1, none⟩ = some (.slice A0_1 l0_1.length c0_1) := (blk_cell BK1006.out 1).trans rfl
        have hfz22_0 := blk_frozen BK1006.out 0
        have hfz22_1 := blk_frozen BK1006.out 1
        go_wp2
        go_loopg [5] k1 (fun kq v5 w' => ∃ (x5_2 : Int) (x1004_2 : List (S49)) (u217001 : Value), v5 = .int .i64 x5_2 ∧ Aside0 (catamaranref05_Twin.l1 kq x5_2 l0_0 l0_1 x1002_1 x1004_2 = some (r1, r2)) ∧ Aside0 (kq ≤ k1) ∧ Aside0 (Kd.S k39 39 w' w.heap.size (fun _ => True) u217000 x1002_1) ∧ Aside0 (Kd.S k49 49 w' w.heap.size (fun _ => True) u217001 x1004_2) ∧ Aside0 (w'.heap[gb1006]? = some (.cells #[(.slice A0_0 l0_0.length c0_0), (.slice A0_1 l0_1.length c0_1)] 25 (0, 0))) ∧ Aside0 (w'.heap[gb1007]? = some (.cells #[(.slice none 0 0), (.slice none 0 0)] 25 (0, 0))) ∧ Aside0 (w'.heap[gb1008]? = some (.cells #[u217000, u217001] 25 (0, 0))) ∧ Aside0 (Below w.heap.size w w'))
        case atStart => exact ⟨(0), (([] : List (S49))), (.slice none 0 0), (by first | rfl | (simp; done) | (simp [*]; done)), H', ⟨Nat.le_refl _⟩, ⟨by (with_reducible repeat (first | apply Kd.S_alloc | apply Kd.S_drewN | apply Kd.S_drew)); exact HO_1002.out⟩, ⟨by first | exact Kd.S_nil _ _ _ _ _ | exact Kd.N_nil _ _ _ _ _ | exact Kd.V_nil _ _ _ _ _ | exact Kd.Q_nil _ _ _ _ _ | exact Kd.R_nil _ _ _ _ _⟩, ⟨by (with_reducible repeat (first | refine blk_drewN ?_ _ | refine blk_drew ?_ | refine blk_alloc ?_ _)); exact BK1006.out⟩, ⟨by (with_reducible repeat (first | refine blk_drewN ?_ _ | refine blk_drew ?_ | refine blk_alloc ?_ _)); exact BK1007.out⟩, ⟨by (with_reducible repeat (first | refine blk_drewN ?_ _ | refine blk_drew ?_ | refine blk_alloc ?_ _)); exact BK1008.out⟩, ⟨by repeat (first | (with_reducible first | exact HB.out | apply below_alloc | apply pbdN | apply bdr1 | refine below_set ?_ GE1006.out | refine below_set ?_ GE1007.out | refine below_set ?_ GE1008.out) | exact HB.out)⟩⟩
        case round =>
          clear H'
          try clear c1
          try clear c2
          try clear p2
          try clear q2
          try clear hx2
          try clear c5
          try clear c5b0
          try clear c6
          try clear c6b0
          try clear p6
          try clear c7
          try clear c8
          try clear c9
          try clear c10
          try clear c20
          try clear c21
          try clear c22
          try clear p22
          try clear q22
          try clear hx22
          try clear hcz11_0
          try clear hcz11_1
          try clear hcz22_0
          try clear hcz22_1
          try clear hfz11_0
          try clear hfz11_1
          try clear hfz22_0
          try clear hfz22_1
          try clear hx1011_0
          try clear hx1011_1
          try clear hx1012_0
          try clear hx1012_1
          try clear p2
          try clear p1011
          try clear p1012
          try clear q1011
          try clear q1012
          obtain ⟨x5_2, x1004_2, u217001, rfl, HA, HK2, HO_1002, HO_1004, BK1006, BK1007, BK1008, HB⟩ := hrel
          cases gk with
          | zero => exact absurd HA.out (by simp [catamaranref05_Twin.l1])
          | succ k2 =>
            have H := HA.out
            clear HA
            simp only [catamaranref05_Twin.l1] at H
            by_cases c23 : x5_2 < (l0_1.length : Int)
            · rw [if_pos c23] at H
              have c23b0 : decide (x5_2 < (l0_1.length : Int)) = true := decide_eq_true c23
              clear c23
              by_cases c24 : 0 ≤ x5_2
              · rw [if_pos c24] at H
                have c24b0 : decide (0 ≤ x5_2) = true := decide_eq_true c24
                clear c24
                obtain ⟨y1005, hy1005⟩ : ∃ y_ : List Int, y_ = (([] : List Int)) := ⟨_, rfl⟩
                replace H : (if y1005.length + ((rd_T49 l0_1 x5_2).f1).length < 140737488355328 then (if x1004_2.length < 4398046511104 then (catamaranref05_Twin.l1 k2 (wrap64 (x5_2 + 1)) l0_0 l0_1 x1002_1 (x1004_2 ++ [(⟨(rd_T49 l0_1 x5_2).f0, (y1005 ++ ((rd_T49 l0_1 x5_2).f1))⟩ : S49)])) else (none)) else (none)) = some (r1, r2) := by first | (rw [hy1005]; with_reducible exact H) | (have H2_ := (Option.bind_some _ _).symm.trans H; rw [hy1005]; with_reducible exact H2_) | (have H2_ := (Option.bind_some _ _).symm.trans H; with_reducible exact H2_) | with_reducible exact H | (rw [hy1005]; exact H) | exact H
                have Ny1005 := Aside0.mk hy1005
                clear hy1005
                by_cases c25 : y1005.length + ((rd_T49 l0_1 x5_2).f1).length < 140737488355328
                · rw [if_pos c25] at H
                  have LMc25 := Aside0.mk c25
                  clear c25
                  obtain ⟨y1019, hy1019⟩ : ∃ y_ : List Int, y_ = (y1005 ++ ((rd_T49 l0_1 x5_2).f1)) := ⟨_, rfl⟩
                  replace H : (if x1004_2.length < 4398046511104 then (catamaranref05_Twin.l1 k2 (wrap64 (x5_2 + 1)) l0_0 l0_1 x1002_1 (x1004_2 ++ [(⟨(rd_T49 l0_1 x5_2).f0, y1019⟩ : S49)])) else (none)) = some (r1, r2) := by first | (rw [hy1019]; with_reducible exact H) | (have H2_ := (Option.bind_some _ _).symm.trans H; rw [hy1019]; with_reducible exact H2_) | (have H2_ := (Option.bind_some _ _).symm.trans H; with_reducible exact H2_) | with_reducible exact H | (rw [hy1019]; exact H) | exact H
                  have Ny1019 := Aside0.mk hy1019
                  clear hy1019
                  by_cases c26 : x1004_2.length < 4398046511104
                  · rw [if_pos c26] at H
                    have LMc26 := Aside0.mk c26
                    clear c26
                    obtain ⟨y1020, hy1020⟩ : ∃ y_ : List (S49), y_ = (x1004_2 ++ [(⟨(rd_T49 l0_1 x5_2).f0, y1019⟩ : S49)]) := ⟨_, rfl⟩
                    replace H : (catamaranref05_Twin.l1 k2 (wrap64 (x5_2 + 1)) l0_0 l0_1 x1002_1 y1020) = some (r1, r2) := by first | (rw [hy1020]; with_reducible exact H) | (have H2_ := (Option.bind_some _ _).symm.trans H; rw [hy1020]; with_reducible exact H2_) | (have H2_ := (Option.bind_some _ _).symm.trans H; with_reducible exact H2_) | with_reducible exact H | (rw [hy1020]; exact H) | exact H
                    have Ny1020 := Aside0.mk hy1020
                    clear hy1020
                    have H' := Aside0.mk H
                    clear H
                    have hnb27 := NB1006_215.out
                    have hnc27 := NB1007_214.out
                    have hnb28 := NB1006_216.out
                    have hnc28 := NB1008_214.out
                    have hcz29_0 : wr.cell? ⟨gb1006, 0, none⟩ = some (.slice A0_0 l0_0.length c0_0) := (blk_cell BK1006.out 0).trans rfl
                    have hcz29_1 : wr.cell? ⟨gb1006, 1, none⟩ = some (.slice A0_1 l0_1.length c0_1) := (blk_cell BK1006.out 1).trans rfl
                    have hfz29_0 := blk_frozen BK1006.out 0
                    have hfz29_1 := blk_frozen BK1006.out 1
                    try go_wp2
                    have n0_ := Aside0.mk (Kd.S_drew HO_1002.out)
                    have n1_ := Aside0.mk (Kd.S_drew HO_1004.out)
                    have n2_ := Aside0.mk (blk_drew BK1006.out)
                    have n3_ := Aside0.mk (blk_drew BK1007.out)
                    have n4_ := Aside0.mk (blk_drew BK1008.out)
                    have n5_ := Aside0.mk (bdr1 HB.out)
                    clear HO_1002
                    clear HO_1004
                    clear BK1006
                    clear BK1007
                    clear BK1008
                    clear HB
                    have HO_1002 := n0_
                    have HO_1004 := n1_
                    have BK1006 := n2_
                    have BK1007 := n3_
                    have BK1008 := n4_
                    have HB := n5_
                    clear n0_ n1_ n2_ n3_ n4_ n5_
                    have p1021 : 0 ≤ (x5_2 : Int) := of_decide_eq_true (by first | (with_reducible assumption) | assumption)
                    have q1021 : x5_2 < (l0_1.length : Int) := of_decide_eq_true (by first | (with_reducible assumption) | assumption)
                    obtain ⟨ad1021, A1021_1, c1021_1, e1021, hx1021_0, hx1021_1, hl1021_1, hi1021_1⟩ := at_T49 HR0_1.out x5_2 p1021 q1021
                    have hw1021_1 := hx1021_1
                    have hw1021_0 := hx1021_0
                    cases e1021
                    replace hx1021_0 := (HB.out.cell (World.block_lt_of_cell? w _ hx1021_0)).trans hx1021_0
                    replace hx1021_1 := (HB.out.cell (World.block_lt_of_cell? w _ hx1021_1)).trans hx1021_1
                    have HR1021_1 := Aside0.mk hi1021_1
                    have HC1021_1 := Aside0.mk hl1021_1
                    clear hi1021_1 hl1021_1
                    replace p1021 := eq_true p1021
                    replace q1021 := eq_true q1021
                    have p1022 : 0 ≤ (x5_2 : Int) := of_decide_eq_true (by first | (with_reducible assumption) | assumption)
                    have q1022 : x5_2 < (l0_1.length : Int) := of_decide_eq_true (by first | (with_reducible assumption) | assumption)
                    obtain ⟨ad1022, A1022_1, c1022_1, e1022, hx1022_0, hx1022_1, hl1022_1, hi1022_1⟩ := at_T49 HR0_1.out x5_2 p1022 q1022
                    have hw1022_1 := hx1022_1
                    have hw1022_0 := hx1022_0
                    obtain rfl : ad1021 = ad1022 := (by injection e1022)
                    replace hx1022_0 := (HB.out.cell (World.block_lt_of_cell? w _ hx1022_0)).trans hx1022_0
                    replace hx1022_1 := (HB.out.cell (World.block_lt_of_cell? w _ hx1022_1)).trans hx1022_1
                    have HR1022_1 := Aside0.mk hi1022_1
                    have HC1022_1 := Aside0.mk hl1022_1
                    clear hi1022_1 hl1022_1
                    replace p1022 := eq_true p1022
                    replace q1022 := eq_true q1022
                    have ea_ := Option.some.inj (hx1021_1.symm.trans hx1022_1)
                    injection ea_ with ea_ en_ ec_
                    subst ea_
                    subst ec_
                    clear en_
                    refine start_ (n := 21) (S := fun w' => w'.cell? ⟨gb1008, 0, none⟩ = some (u217000) ∧ w'.cell? ⟨gb1008, 1, none⟩ = some (u217001) ∧ w'.cell? ⟨gb1006, 0, none⟩ = some (.slice A0_0 l0_0.length c0_0) ∧ w'.cell? ⟨gb1006, 1, none⟩ = some (.slice (some ad1021) l0_1.length c0_1) ∧ w'.cell? (ad1021.add ((x5_2).toNat * 2)) = some (.int .i64 ((rd_T49 l0_1 x5_2).f0)) ∧ w'.cell? ⟨(ad1021.add ((x5_2).toNat * 2)).block, (ad1021.add ((x5_2).toNat * 2)).off + 1, none⟩ = some (.slice A1021_1 ((rd_T49 l0_1 x5_2).f1).length c1021_1) ∧ w'.cell? (ad1021.add ((x5_2).toNat * 2)) = some (.int .i64 ((rd_T49 l0_1 x5_2).f0)) ∧ w'.cell? ⟨(ad1021.add ((x5_2).toNat * 2)).block, (ad1021.add ((x5_2).toNat * 2)).off + 1, none⟩ = some (.slice A1021_1 ((rd_T49 l0_1 x5_2).f1).length c1021_1)) (ds := [20]) #[false, false, false, false, false, false, false, false, false, false, false, false, false, false, false, false, false, false, false, false, false] (by kernel_rfl) rfl rfl ⟨(blk_cell BK1008.out 0).trans rfl, (blk_cell BK1008.out 1).trans rfl, (blk_cell BK1006.out 0).trans rfl, (blk_cell BK1006.out 1).trans rfl, ((HB.out.cell (World.block_lt_of_cell? w _ hw1021_0)).trans hw1021_0), ((HB.out.cell (World.block_lt_of_cell? w _ hw1021_1)).trans hw1021_1), ((HB.out.cell (World.block_lt_of_cell? w _ hw1022_0)).trans hw1022_0), ((HB.out.cell (World.block_lt_of_cell? w _ hw1022_1)).trans hw1022_1)⟩ (fun hHeld => ?_); refine wtW catamaranref05_Twin.tab9 catamaranref05_Twin.bits9 (fun HT_ HW_ => ?_)
                    generalize wr.drew = w30 at HO_1002 HO_1004 BK1006 BK1007 BK1008 HB HR1021_1 HR1022_1 hx1021_0 hx1021_1 hx1022_0 hx1022_1 hHeld ⊢
                    refine pure_ (i := 0) (N := some 40) (v := ?_) (a' := ?_) #[true, false, false, false, false, false, false, false, false, false, false, false, false, false, false, false, false, false, false, false, false] rfl rfl (any_of HT_.out (by kernel_rfl)) (fun _ _ _ h => h) (Or.inl ⟨by rfl, ?_⟩) ?_ ?_
                    rotate_left
                    · intro w'
                      go_simp
                      with_reducible rfl
                    rotate_left
                    · simp only [Act.put, List.setIfInBounds_toArray, List.set_cons_zero, List.set_cons_succ, i64_w, i32_w]
                      rfl
                    refine pure_ (i := 2) (N := some 42) (v := ?_) (a' := ?_) #[true, false, true, false, false, false, false, false, false, false, false, false, false, false, false, false, false, false, false, false, false] rfl rfl (any_of HT_.out (by kernel_rfl)) (fun _ _ _ h => h) (Or.inl ⟨by rfl, ?_⟩) ?_ ?_
                    rotate_left
                    · intro w'
                      go_simp
                      with_reducible rfl
                    rotate_left
                    · simp only [Act.put, List.setIfInBounds_toArray, List.set_cons_zero, List.set_cons_succ, i64_w, i32_w]
                      rfl
                    refine pure_ (i := 4) (N := some 44) (v := ?_) (a' := ?_) #[true, false, true, false, true, false, false, false, false, false, false, false, false, false, false, false, false, false, false, false, false] rfl rfl (any_of HT_.out (by kernel_rfl)) (fun _ _ _ h => h) (Or.inl ⟨by rfl, ?_⟩) ?_ ?_
                    rotate_left
                    · intro w'
                      go_simp
                      with_reducible rfl
                    rotate_left
                    · simp only [Act.put, List.setIfInBounds_toArray, List.set_cons_zero, List.set_cons_succ, i64_w, i32_w]
                      rfl
                    refine pure_ (i := 9) (N := some 49) (v := ?_) (a' := ?_) #[true, false, true, false, true, false, false, false, false, true, false, false, false, false, false, false, false, false, false, false, false] rfl rfl (any_of HT_.out (by kernel_rfl)) (fun _ _ _ h => h) (Or.inl ⟨by rfl, ?_⟩) ?_ ?_
                    rotate_left
                    · intro w'
                      go_simp
                      with_reducible rfl
                    rotate_left
                    · simp only [Act.put, List.setIfInBounds_toArray, List.set_cons_zero, List.set_cons_succ, i64_w, i32_w]
                      rfl
                    refine pure_ (i := 11) (N := some 51) (v := ?_) (a' := ?_) #[true, false, true, false, true, false, false, false, false, true, false, true, false, false, false, false, false, false, false, false, false] rfl rfl (any_of HT_.out (by kernel_rfl)) (fun _ _ _ h => h) (Or.inl ⟨by rfl, ?_⟩) ?_ ?_
                    rotate_left
                    · intro w'
                      go_simp
                      with_reducible rfl
                    rotate_left
                    · simp only [Act.put, List.setIfInBounds_toArray, List.set_cons_zero, List.set_cons_succ, i64_w, i32_w]
                      rfl
                    refine take_ (i := 1) (N := some 41) (v := ?_) (a' := ?_) #[true, true, true, false, true, false, false, false, false, true, false, true, false, false, false, false, false, false, false, false, false] rfl rfl (take_ofW HT_.out HW_.out (by kernel_rfl)) (fun _ _ _ h => h) (Or.inl ⟨by rfl, ?_⟩) hHeld ?_ ?_
                    rotate_left
                    · rintro w' ⟨s0, s1, s2, s3, s4, s5, s6, s7⟩
                      go_simp
                      with_reducible rfl
                    rotate_left
                    · simp only [Act.put, List.setIfInBounds_toArray, List.set_cons_zero, List.set_cons_succ, i64_w, i32_w]
                      rfl
                    refine take_ (i := 3) (N := some 43) (v := ?_) (a' := ?_) #[true, true, true, true, true, false, false, false, false, true, false, true, false, false, false, false, false, false, false, false, false] rfl rfl (take_ofW HT_.out HW_.out (by kernel_rfl)) (fun _ _ _ h => h) (Or.inl ⟨by rfl, ?_⟩) hHeld ?_ ?_
                    rotate_left
                    · rintro w' ⟨s0, s1, s2, s3, s4, s5, s6, s7⟩
                      go_simp
                      with_reducible rfl
                    rotate_left
                    · simp only [Act.put, List.setIfInBounds_toArray, List.set_cons_zero, List.set_cons_succ, i64_w, i32_w]
                      rfl
                    refine pure_ (i := 5) (N := some 45) (v := ?_) (a' := ?_) #[true, true, true, true, true, true, false, false, false, true, false, true, false, false, false, false, false, false, false, false, false] rfl rfl (any_of HT_.out (by kernel_rfl)) (fun _ _ _ h => h) (Or.inl ⟨by rfl, ?_⟩) ?_ ?_
                    rotate_left
                    · intro w'
                      go_simp
                      with_reducible rfl
                    rotate_left
                    · simp only [Act.put, List.setIfInBounds_toArray, List.set_cons_zero, List.set_cons_succ, i64_w, i32_w]
                      rfl
                    refine pure_ (i := 6) (N := some 46) (v := ?_) (a' := ?_) #[true, true, true, true, true, true, true, false, false, true, false, true, false, false, false, false, false, false, false, false, false] rfl rfl (any_of HT_.out (by kernel_rfl)) (fun _ _ _ h => h) (Or.inl ⟨by rfl, ?_⟩) ?_ ?_
                    rotate_left
                    · intro w'
                      go_simp
                      with_reducible rfl
                    rotate_left
                    · simp only [Act.put, List.setIfInBounds_toArray, List.set_cons_zero, List.set_cons_succ, i64_w, i32_w]
                      rfl
                    refine take_ (i := 7) (N := some 47) (v := ?_) (a' := ?_) #[true, true, true, true, true, true, true, true, false, true, false, true, false, false, false, false, false, false, false, false, false] rfl rfl (take_ofW HT_.out HW_.out (by kernel_rfl)) (fun _ _ _ h => h) (Or.inl ⟨by rfl, ?_⟩) hHeld ?_ ?_
                    rotate_left
                    · rintro w' ⟨s0, s1, s2, s3, s4, s5, s6, s7⟩
                      go_simp
                      with_reducible rfl
                    rotate_left
                    · simp only [Act.put, List.setIfInBounds_toArray, List.set_cons_zero, List.set_cons_succ, i64_w, i32_w]
                      rfl
                    refine take_ (i := 10) (N := some 50) (v := ?_) (a' := ?_) #[true, true, true, true, true, true, true, true, false, true, true, true, false, false, false, false, false, false, false, false, false] rfl rfl (take_ofW HT_.out HW_.out (by kernel_rfl)) (fun _ _ _ h => h) (Or.inl ⟨by rfl, ?_⟩) hHeld ?_ ?_
                    rotate_left
                    · rintro w' ⟨s0, s1, s2, s3, s4, s5, s6, s7⟩
                      go_simp
                      with_reducible rfl
                    rotate_left
                    · simp only [Act.put, List.setIfInBounds_toArray, List.set_cons_zero, List.set_cons_succ, i64_w, i32_w]
                      rfl
                    refine pure_ (i := 12) (N := some 52) (v := ?_) (a' := ?_) #[true, true, true, true, true, true, true, true, false, true, true, true, true, false, false, false, false, false, false, false, false] rfl rfl (any_of HT_.out (by kernel_rfl)) (fun _ _ _ h => h) (Or.inl ⟨by rfl, ?_⟩) ?_ ?_
                    rotate_left
                    · intro w'
                      go_simp
                      with_reducible rfl
                    rotate_left
                    · simp only [Act.put, List.setIfInBounds_toArray, List.set_cons_zero, List.set_cons_succ, i64_w, i32_w]
                      rfl
                    refine pure_ (i := 13) (N := some 53) (v := ?_) (a' := ?_) #[true, true, true, true, true, true, true, true, false, true, true, true, true, true, false, false, false, false, false, false, false] rfl rfl (any_of HT_.out (by kernel_rfl)) (fun _ _ _ h => h) (Or.inl ⟨by rfl, ?_⟩) ?_ ?_
                    rotate_left
                    · intro w'
                      go_simp
                      with_reducible rfl
                    rotate_left
                    · simp only [Act.put, List.setIfInBounds_toArray, List.set_cons_zero, List.set_cons_succ, i64_w, i32_w]
                      rfl
                    refine take_ (i := 14) (N := some 54) (v := ?_) (a' := ?_) #[true, true, true, true, true, true, true, true, false, true, true, true, true, true, true, false, false, false, false, false, false] rfl rfl (take_ofW HT_.out HW_.out (by kernel_rfl)) (fun _ _ _ h => h) (Or.inl ⟨by rfl, ?_⟩) hHeld ?_ ?_
                    rotate_left
                    · rintro w' ⟨s0, s1, s2, s3, s4, s5, s6, s7⟩
                      go_simp
                      with_reducible rfl
                    rotate_left
                    · simp only [Act.put, List.setIfInBounds_toArray, List.set_cons_zero, List.set_cons_succ, i64_w, i32_w]
                      rfl
                    refine one_ (i := 8) (N := some 48) #[true, true, true, true, true, true, true, true, true, true, true, true, true, true, true, false, false, false, false, false, false] rfl rfl (one_of HT_.out (by kernel_rfl)) (by decide) (fun K hK => ?_)
                    refine Kd.R_lit_step (Kd.int .u8) _ 5 ?hg (N := 48) ?hd (xs := ([] : List Int)) (inner := []) (ok := fun _ => True) (okp := fun _ => True) ?hr ?hp (fun _ hk => hk) trivial (Below.refl _ _) (Nat.le_refl _) (by simp) ?_; (case hd => rfl); (case hg => rfl); (case hr => first | (go_simp; done) | (go_simp; rfl)); (case hp => exact (Reps.none _ _))
                    intro v1023 w31 ho32 hb hg_ hnew_
                    clear hg_ hnew_
                    (first | rw [← Ny1005.out] at ho32 | (simp only [Int.reduceToNat] at ho32; rw [← Ny1005.out] at ho32))
                    have n0_ := Aside0.mk (Kd.S_elder' (by (with_reducible repeat (first | apply Kd.S_alloc | apply Kd.S_drewN | apply Kd.S_drew)); exact HO_1002.out) (Kd.R_base ho32) hb)
                    have n1_ := Aside0.mk (Kd.S_elder' (by (with_reducible repeat (first | apply Kd.S_alloc | apply Kd.S_drewN | apply Kd.S_drew)); exact HO_1004.out) (Kd.R_base ho32) hb)
                    have n2_ := Aside0.mk (Kd.R_lower ho32 (below_size (by repeat (first | (with_reducible first | exact HB.out | apply below_alloc | apply pbdN | apply bdr1 | refine below_set ?_ GE1006.out | refine below_set ?_ GE1007.out | refine below_set ?_ GE1008.out) | exact HB.out))))
                    have n3_ := Aside0.mk (blk_below (g := gb1006) (o := .cells #[.slice A0_0 l0_0.length c0_0, .slice (some ad1021) l0_1.length c0_1] 25 (0, 0)) (by (with_reducible repeat (first | refine blk_drewN ?_ _ | refine blk_drew ?_ | refine blk_alloc ?_ _)); exact BK1006.out) hb)
                    have n4_ := Aside0.mk (blk_below (g := gb1007) (o := .cells #[.slice none 0 0, .slice none 0 0] 25 (0, 0)) (by (with_reducible repeat (first | refine blk_drewN ?_ _ | refine blk_drew ?_ | refine blk_alloc ?_ _)); exact BK1007.out) hb)
                    have n5_ := Aside0.mk (blk_below (g := gb1008) (o := .cells #[u217000, u217001] 25 (0, 0)) (by (with_reducible repeat (first | refine blk_drewN ?_ _ | refine blk_drew ?_ | refine blk_alloc ?_ _)); exact BK1008.out) hb)
                    have n6_ := Aside0.mk (below_step (by repeat (first | (with_reducible first | exact HB.out | apply below_alloc | apply pbdN | apply bdr1 | refine below_set ?_ GE1006.out | refine below_set ?_ GE1007.out | refine below_set ?_ GE1008.out) | exact HB.out)) hb)
                    clear HO_1002
                    clear HO_1004
                    clear BK1006
                    clear BK1007
                    clear BK1008
                    clear HB
                    have HO_1002 := n0_
                    have HO_1004 := n1_
                    have HO1024 := n2_
                    have BK1006 := n3_
                    have BK1007 := n4_
                    have BK1008 := n5_
                    have HB := n6_
                    clear n0_ n1_ n2_ n3_ n4_ n5_ n6_
                    clear hb ho32
                    refine hK.out _ _ ⟨(blk_cell BK1008.out 0).trans rfl, (blk_cell BK1008.out 1).trans rfl, (blk_cell BK1006.out 0).trans rfl, (blk_cell BK1006.out 1).trans rfl, ((HB.out.cell (World.block_lt_of_cell? w _ hw1021_0)).trans hw1021_0), ((HB.out.cell (World.block_lt_of_cell? w _ hw1021_1)).trans hw1021_1), ((HB.out.cell (World.block_lt_of_cell? w _ hw1022_0)).trans hw1022_0), ((HB.out.cell (World.block_lt_of_cell? w _ hw1022_1)).trans hw1022_1)⟩ (fun hHeld => ?_)
                    clear hK K
                    refine norm_ (a' := ?_) ?_ ?_
                    rotate_left
                    · show Act.put _ (some 48) _ = _
                      simp only [Act.put, List.setIfInBounds_toArray, List.set_cons_zero, List.set_cons_succ, i64_w, i32_w]
                      rfl
                    refine one_ (i := 15) (N := some 55) #[true, true, true, true, true, true, true, true, true, true, true, true, true, true, true, true, false, false, false, false, false] rfl rfl (one_of HT_.out (by kernel_rfl)) (by decide) (fun K hK => ?_)
                    refine Kd.R_append_rows_step (Kd.int .u8) (w0 := w) w.heap.size (by rfl) (.tmp 48) (.tmp 54) 31 5 (.int .u8 0) 1 rfl Try.underlying31 info5 rfl (by decide) (by omega) v1023 y1005 ((rd_T49 l0_1 x5_2).f1) _ _ _ (fun _ => True) (fun _ => False) rfl rfl ?aO ?aR (fun _ _ h => h) (fun _ h => h.elim) ?aF ?aB ?aS ?aL ?_
                    (case aR => repeat (first | exact (Kd.C_below HR1022_1.out HB.out) | (with_reducible refine Kd.C_alloc ?_ _) | (with_reducible refine Kd.C_drewN ?_ _) | (with_reducible refine Kd.C_drew ?_)))
                    (case aB => exact (by repeat (first | (with_reducible first | exact HB.out | apply below_alloc | apply pbdN | apply bdr1 | refine below_set ?_ GE1006.out | refine below_set ?_ GE1007.out | refine below_set ?_ GE1008.out) | exact HB.out)))
                    (case aF => exact (fun _ _ => trivial))
                    (case aO => exact (by (with_reducible repeat (first | apply Kd.R_alloc | apply Kd.R_drewN | apply Kd.R_drew)); exact HO1024.out))
                    (case aS => exact (below_size (by repeat (first | (with_reducible first | exact HB.out | apply below_alloc | apply pbdN | apply bdr1 | refine below_set ?_ GE1006.out | refine below_set ?_ GE1007.out | refine below_set ?_ GE1008.out) | exact HB.out))))
                    (case aL => have := LMc25.out; omega)
                    intro v1025 w33 ho hb hg hat
                    rw [← Ny1019.out] at ho
                    have n0_ := Aside0.mk (Kd.S_after (ok := (fun _ => True)) (by (with_reducible repeat (first | apply Kd.S_alloc | apply Kd.S_drewN | apply Kd.S_drew)); exact HO_1002.out) hg hat)
                    have n1_ := Aside0.mk (Kd.S_after (ok := (fun _ => True)) (by (with_reducible repeat (first | apply Kd.S_alloc | apply Kd.S_drewN | apply Kd.S_drew)); exact HO_1004.out) hg hat)
                    have n2_ := Aside0.mk (blk_grown (g := gb1006) (o := .cells #[.slice A0_0 l0_0.length c0_0, .slice (some ad1021) l0_1.length c0_1] 25 (0, 0)) (by (with_reducible repeat (first | refine blk_drewN ?_ _ | refine blk_drew ?_ | refine blk_alloc ?_ _)); exact BK1006.out) hg (Kd.R_ne HO1024.out BK1006.out (by decide)))
                    have n3_ := Aside0.mk (blk_grown (g := gb1007) (o := .cells #[.slice none 0 0, .slice none 0 0] 25 (0, 0)) (by (with_reducible repeat (first | refine blk_drewN ?_ _ | refine blk_drew ?_ | refine blk_alloc ?_ _)); exact BK1007.out) hg (Kd.R_ne HO1024.out BK1007.out (by decide)))
                    have n4_ := Aside0.mk (blk_grown (g := gb1008) (o := .cells #[u217000, u217001] 25 (0, 0)) (by (with_reducible repeat (first | refine blk_drewN ?_ _ | refine blk_drew ?_ | refine blk_alloc ?_ _)); exact BK1008.out) hg (Kd.R_ne HO1024.out BK1008.out (by decide)))
                    have n5_ := Aside0.mk (hb)
                    have n6_ := Aside0.mk (ho)
                    clear HO_1002
                    clear HO_1004
                    clear BK1006
                    clear BK1007
                    clear BK1008
                    clear HB
                    clear HO1024
                    have HO_1002 := n0_
                    have HO_1004 := n1_
                    have BK1006 := n2_
                    have BK1007 := n3_
                    have BK1008 := n4_
                    have HB := n5_
                    have HO1026 := n6_
                    clear n0_ n1_ n2_ n3_ n4_ n5_ n6_
                    clear ho hb hg hat
                    obtain ⟨Ao34, co34, eo34⟩ := Kd.R_slice HO1026.out
                    (first | subst eo34 | (injection eo34 with f1_ f2_ f3_; have f4_ := f1_.symm; have f5_ := f3_.symm; clear f1_ f2_ f3_; subst f4_; subst f5_))
                    refine hK.out _ _ ⟨(blk_cell BK1008.out 0).trans rfl, (blk_cell BK1008.out 1).trans rfl, (blk_cell BK1006.out 0).trans rfl, (blk_cell BK1006.out 1).trans rfl, ((HB.out.cell (World.block_lt_of_cell? w _ hw1021_0)).trans hw1021_0), ((HB.out.cell (World.block_lt_of_cell? w _ hw1021_1)).trans hw1021_1), ((HB.out.cell (World.block_lt_of_cell? w _ hw1022_0)).trans hw1022_0), ((HB.out.cell (World.block_lt_of_cell? w _ hw1022_1)).trans hw1022_1)⟩ (fun hHeld => ?_)
                    clear hK K
                    refine norm_ (a' := ?_) ?_ ?_
                    rotate_left
                    · show Act.put _ (some 55) _ = _
                      simp only [Act.put, List.setIfInBounds_toArray, List.set_cons_zero, List.set_cons_succ, i64_w, i32_w]
                      rfl
                    refine pure_ (i := 16) (N := some 56) (v := ?_) (a' := ?_) #[true, true, true, true, true, true, true, true, true, true, true, true, true, true, true, true, true, false, false, false, false] rfl rfl (any_of HT_.out (by kernel_rfl)) (fun _ _ _ h => h) (Or.inl ⟨by rfl, ?_⟩) ?_ ?_
                    rotate_left
                    · intro w'
                      go_simp
                      with_reducible rfl
                    rotate_left
                    · simp only [Act.put, List.setIfInBounds_toArray, List.set_cons_zero, List.set_cons_succ, i64_w, i32_w]
                      rfl
                    refine one_ (i := 17) (N := some 57) #[true, true, true, true, true, true, true, true, true, true, true, true, true, true, true, true, true, true, false, false, false] rfl rfl (one_of HT_.out (by kernel_rfl)) (by decide) (fun K hK => ?_)
                    refine value_ (w1 := ?_) (v := ?_) (by rfl) rfl ?_ ?_
                    rotate_left 2
                    · go_simp
                      constructor
                      · rfl
                      · rfl
                    refine hK.out _ _ ⟨(blk_cell (blk_alloc BK1008.out _) 0).trans rfl, (blk_cell (blk_alloc BK1008.out _) 1).trans rfl, (blk_cell (blk_alloc BK1006.out _) 0).trans rfl, (blk_cell (blk_alloc BK1006.out _) 1).trans rfl, (World.cell?_alloc_lt _ _ _ (World.block_lt_of_cell? _ _ (((HB.out.cell (World.block_lt_of_cell? w _ hw1021_0)).trans hw1021_0)))).trans (((HB.out.cell (World.block_lt_of_cell? w _ hw1021_0)).trans hw1021_0)), (World.cell?_alloc_lt _ _ _ (World.block_lt_of_cell? _ _ (((HB.out.cell (World.block_lt_of_cell? w _ hw1021_1)).trans hw1021_1)))).trans (((HB.out.cell (World.block_lt_of_cell? w _ hw1021_1)).trans hw1021_1)), (World.cell?_alloc_lt _ _ _ (World.block_lt_of_cell? _ _ (((HB.out.cell (World.block_lt_of_cell? w _ hw1022_0)).trans hw1022_0)))).trans (((HB.out.cell (World.block_lt_of_cell? w _ hw1022_0)).trans hw1022_0)), (World.cell?_alloc_lt _ _ _ (World.block_lt_of_cell? _ _ (((HB.out.cell (World.block_lt_of_cell? w _ hw1022_1)).trans hw1022_1)))).trans (((HB.out.cell (World.block_lt_of_cell? w _ hw1022_1)).trans hw1022_1))⟩ (fun hHeld => ?_)
                    clear hK K
                    refine norm_ (a' := ?_) ?_ ?_
                    rotate_left
                    · show Act.put _ (some 57) _ = _
                      simp only [Act.put, List.setIfInBounds_toArray, List.set_cons_zero, List.set_cons_succ, i64_w, i32_w]
                      rfl
                    refine one_ (i := 18) (N := some 58) #[true, true, true, true, true, true, true, true, true, true, true, true, true, true, true, true, true, true, true, false, false] rfl rfl (one_of HT_.out (by kernel_rfl)) (by decide) (fun K hK => ?_)
                    refine Kd.S_append_step k49 (w0 := w) w.heap.size (by rfl) (.tmp 41) (.tmp 57) 23 49 (.agg #[(.int .i64 0), (.slice none 0 0)]) 32 rfl Try.underlying23 info49 rfl (by decide) (by omega) u217001 x1004_2 (⟨(rd_T49 l0_1 x5_2).f0, y1019⟩ : S49) [.int .i64 ((rd_T49 l0_1 x5_2).f0), .slice Ao34 y1019.length co34] (fun _ => True) (fun k_ => some k_ = (.slice Ao34 y1019.length co34 : Value).ownBlock) rfl rfl ?aP (fun k_ hk_ => ((Kd.R_mono (ok' := fun k_ => ((fun _ => True)) k_ ∧ some k_ ≠ (u217001 : Value).ownBlock) (Kd.R_apart' (HO1026.out) (Kd.S_typed HO_1004.out) (by decide)) (fun k_ hk => ⟨trivial, hk.2⟩))).1 k_ hk_.symm) ?aF ?aO ?aB ?aS ?aL ?_
                    (case aP => exact k49_mkM _ _ _ (⟨(rd_T49 l0_1 x5_2).f0, y1019⟩ : S49) (Kd.R_mono (Kd.R_tight rfl (Kd.R_mono (ok' := fun k_ => ((fun _ => True)) k_ ∧ some k_ ≠ (u217001 : Value).ownBlock) (Kd.R_apart' (HO1026.out) (Kd.S_typed HO_1004.out) (by decide)) (fun k_ hk => ⟨trivial, hk.2⟩))) (fun _ h_ => h_)))
                    (case aB => exact (by repeat (first | (with_reducible first | exact HB.out | apply below_alloc | apply pbdN | apply bdr1 | refine below_set ?_ GE1006.out | refine below_set ?_ GE1007.out | refine below_set ?_ GE1008.out) | exact HB.out)))
                    (case aF => exact (fun _ _ => trivial))
                    (case aO => exact (by (with_reducible repeat (first | apply Kd.S_alloc | apply Kd.S_drewN | apply Kd.S_drew)); exact Kd.S_mono HO_1004.out (fun k_ hk => ⟨trivial, fun e_ => hk.2 e_⟩)))
                    (case aS => exact (below_size (by repeat (first | (with_reducible first | exact HB.out | apply below_alloc | apply pbdN | apply bdr1 | refine below_set ?_ GE1006.out | refine below_set ?_ GE1007.out | refine below_set ?_ GE1008.out) | exact HB.out))))
                    (case aL => have := LMc26.out; omega)
                    intro v1027 w35 ho hb hg hat
                    rw [← Ny1020.out] at ho
                    have n0_ := Aside0.mk (Kd.S_over' (by (with_reducible repeat (first | apply Kd.S_alloc | apply Kd.S_drewN | apply Kd.S_drew)); exact HO_1002.out) (Kd.S_typed (by (with_reducible repeat (first | apply Kd.S_alloc | apply Kd.S_drewN | apply Kd.S_drew)); exact HO_1004.out)) (by decide) hg)
                    have n1_ := Aside0.mk (blk_grown (g := gb1006) (o := .cells #[.slice A0_0 l0_0.length c0_0, .slice (some ad1021) l0_1.length c0_1] 25 (0, 0)) (by (with_reducible repeat (first | refine blk_drewN ?_ _ | refine blk_drew ?_ | refine blk_alloc ?_ _)); exact BK1006.out) hg (Kd.S_ne HO_1004.out BK1006.out (by decide)))
                    have n2_ := Aside0.mk (blk_grown (g := gb1007) (o := .cells #[.slice none 0 0, .slice none 0 0] 25 (0, 0)) (by (with_reducible repeat (first | refine blk_drewN ?_ _ | refine blk_drew ?_ | refine blk_alloc ?_ _)); exact BK1007.out) hg (Kd.S_ne HO_1004.out BK1007.out (by decide)))
                    have n3_ := Aside0.mk (blk_grown (g := gb1008) (o := .cells #[u217000, u217001] 25 (0, 0)) (by (with_reducible repeat (first | refine blk_drewN ?_ _ | refine blk_drew ?_ | refine blk_alloc ?_ _)); exact BK1008.out) hg (Kd.S_ne HO_1004.out BK1008.out (by decide)))
                    have n4_ := Aside0.mk (hb)
                    have n5_ := Aside0.mk (ho)
                    clear HO_1002
                    clear BK1006
                    clear BK1007
                    clear BK1008
                    clear HB
                    clear HO_1004
                    clear HO1026
                    have HO_1002 := n0_
                    have BK1006 := n1_
                    have BK1007 := n2_
                    have BK1008 := n3_
                    have HB := n4_
                    have HO1028 := n5_
                    clear n0_ n1_ n2_ n3_ n4_ n5_
                    clear ho hb hg hat
                    obtain ⟨Ao36, co36, eo36⟩ := Kd.S_slice HO1028.out
                    (first | subst eo36 | (injection eo36 with f1_ f2_ f3_; have f4_ := f1_.symm; have f5_ := f3_.symm; clear f1_ f2_ f3_; subst f4_; subst f5_))
                    refine hK.out _ _ ⟨(blk_cell BK1008.out 0).trans rfl, (blk_cell BK1008.out 1).trans rfl, (blk_cell BK1006.out 0).trans rfl, (blk_cell BK1006.out 1).trans rfl, ((HB.out.cell (World.block_lt_of_cell? w _ hw1021_0)).trans hw1021_0), ((HB.out.cell (World.block_lt_of_cell? w _ hw1021_1)).trans hw1021_1), ((HB.out.cell (World.block_lt_of_cell? w _ hw1022_0)).trans hw1022_0), ((HB.out.cell (World.block_lt_of_cell? w _ hw1022_1)).trans hw1022_1)⟩ (fun hHeld => ?_)
                    clear hK K
                    refine norm_ (a' := ?_) ?_ ?_
                    rotate_left
                    · show Act.put _ (some 58) _ = _
                      simp only [Act.put, List.setIfInBounds_toArray, List.set_cons_zero, List.set_cons_succ, i64_w, i32_w]
                      rfl
                    refine pure_ (i := 19) (N := some 59) (v := ?_) (a' := ?_) #[true, true, true, true, true, true, true, true, true, true, true, true, true, true, true, true, true, true, true, true, false] rfl rfl (any_of HT_.out (by kernel_rfl)) (fun _ _ _ h => h) (Or.inl ⟨by rfl, ?_⟩) ?_ ?_
                    rotate_left
                    · intro w'
                      go_simp
                      with_reducible rfl
                    rotate_left
                    · simp only [Act.put, List.setIfInBounds_toArray, List.set_cons_zero, List.set_cons_succ, i64_w, i32_w]
                      rfl
                    refine last_ (i := 20) (N := none) #[true, true, true, true, true, true, true, true, true, true, true, true, true, true, true, true, true, true, true, true, true] rfl rfl (one_of HT_.out (by kernel_rfl)) (by decide) (fun K hK => ?_)
                    have hs37 : w35.cell? ⟨gb1008, 1, none⟩ = some (u217001) := (blk_cell BK1008.out 1).trans rfl
                    have hfs37 := blk_frozen BK1008.out 1
                    have hns37_0 := NB1006_216.out
                    have hns37_1 := NB1007_216.out
                    have hms37_0 := NB1008_214.out
                    have hms37_1 := NB1008_215.out
                    refine skip_ (w1 := ?_) (by rfl) rfl ?_ ?_
                    rotate_left
                    · go_simp
                      rfl
                    refine hK.out _ _ ?_
                    clear hK K
                    refine done_ (done_of HT_.out (by kernel_rfl)) ?_
                    try go_wp2
                    go_roundg k2
                    case measure => have := HK1.out; have := HK2.out; omega
                    case rel => exact ⟨(wrap64 (x5_2 + 1)), (y1020), (.slice Ao36 y1020.length co36), (by first | rfl | (simp; done) | (simp [*]; done)), H', ⟨by have := HK1.out; have := HK2.out; omega⟩, ⟨by (with_reducible repeat (first | apply Kd.S_alloc | apply Kd.S_drewN | apply Kd.S_drew)); exact Kd.S_mono (Kd.S_far (p := ⟨gb1008, 1, none⟩) (Kd.S_types HO_1002.out BK1008.out (by decide)) (fun _ hk => hk.2) (.slice Ao36 y1020.length co36)) (fun _ hk => trivial)⟩, ⟨by (with_reducible repeat (first | apply Kd.S_alloc | apply Kd.S_drewN | apply Kd.S_drew)); exact Kd.S_mono (Kd.S_far (p := ⟨gb1008, 1, none⟩) (Kd.S_types HO1028.out BK1008.out (by decide)) (fun _ hk => hk.2) (.slice Ao36 y1020.length co36)) (fun _ hk => trivial)⟩, ⟨by (with_reducible repeat (first | refine blk_drewN ?_ _ | refine blk_drew ?_ | refine blk_alloc ?_ _)); refine blk_far ?_ NB1006_216.out _; (with_reducible repeat (first | refine blk_drewN ?_ _ | refine blk_drew ?_ | refine blk_alloc ?_ _)); exact BK1006.out⟩, ⟨by (with_reducible repeat (first | refine blk_drewN ?_ _ | refine blk_drew ?_ | refine blk_alloc ?_ _)); refine blk_far ?_ NB1007_216.out _; (with_reducible repeat (first | refine blk_drewN ?_ _ | refine blk_drew ?_ | refine blk_alloc ?_ _)); exact BK1007.out⟩, ⟨by (with_reducible repeat (first | refine blk_drewN ?_ _ | refine blk_drew ?_ | refine blk_alloc ?_ _)); refine blk_put (cs := #[u217000, u217001]) ?_ 1 _ rfl; (with_reducible repeat (first | refine blk_drewN ?_ _ | refine blk_drew ?_ | refine blk_alloc ?_ _)); exact BK1008.out⟩, ⟨by repeat (first | (with_reducible first | exact HB.out | apply below_alloc | apply pbdN | apply bdr1 | refine below_set ?_ GE1006.out | refine below_set ?_ GE1007.out | refine below_set ?_ GE1008.out) | exact HB.out)⟩⟩
                  · rw [if_neg c26] at H
                    exact absurd H (by simp)
                · rw [if_neg c25] at H
                  exact absurd H (by simp)
              · rw [if_neg c24] at H
                exact absurd H (by simp)
            · rw [if_neg c23] at H
              have c23b0 : decide (x5_2 < (l0_1.length : Int)) = false := decide_eq_false c23
              clear c23
              simp only [Option.some.injEq, Prod.mk.injEq] at H
              obtain ⟨rfl, rfl⟩ := H
              have hnb38 := NB1006_215.out
              have hnc38 := NB1007_214.out
              have hnb39 := NB1006_216.out
              have hnc39 := NB1008_214.out
              have hcz40_0 : wr.cell? ⟨gb1006, 0, none⟩ = some (.slice A0_0 l0_0.length c0_0) := (blk_cell BK1006.out 0).trans rfl
              have hcz40_1 : wr.cell? ⟨gb1006, 1, none⟩ = some (.slice A0_1 l0_1.length c0_1) := (blk_cell BK1006.out 1).trans rfl
              have hfz40_0 := blk_frozen BK1006.out 0
              have hfz40_1 := blk_frozen BK1006.out 1
              have hnb41 := NB1008_215.out
              have hnc41 := NB1007_216.out
              have hcz42_0 : wr.cell? ⟨gb1008, 0, none⟩ = some (u217000) := (blk_cell BK1008.out 0).trans rfl
              have hcz42_1 : wr.cell? ⟨gb1008, 1, none⟩ = some (u217001) := (blk_cell BK1008.out 1).trans rfl
              have hfz42_0 := blk_frozen BK1008.out 0
              have hfz42_1 := blk_frozen BK1008.out 1
              obtain ⟨Ao43, co43, eo43⟩ := Kd.S_slice HO_1002.out
              subst eo43
              have hcz44_0 : wr.cell? ⟨gb1007, 0, none⟩ = some (.slice none 0 0) := (blk_cell BK1007.out 0).trans rfl
              have hcz44_1 : wr.cell? ⟨gb1007, 1, none⟩ = some (.slice none 0 0) := (blk_cell BK1007.out 1).trans rfl
              have hfz44_0 := blk_frozen BK1007.out 0
              have hfz44_1 := blk_frozen BK1007.out 1
              obtain ⟨Ao45, co45, eo45⟩ := Kd.S_slice HO_1004.out
              subst eo45
              go_wp2
              refine bodyPost_ret (results_cell_row rfl _ _ gb1007 25 #[.slice Ao43 x1002_1.length co43, .slice Ao45 x1004_2.length co45] (0, 0) _ rfl (by (with_reducible repeat (first | refine blk_drewN ?_ _ | refine blk_drew ?_ | refine blk_alloc ?_ _)); refine blk_put (cs := #[.slice Ao43 x1002_1.length co43, .slice none 0 0]) ?_ 1 _ rfl; (with_reducible repeat (first | refine blk_drewN ?_ _ | refine blk_drew ?_ | refine blk_alloc ?_ _)); refine blk_put (cs := #[.slice none 0 0, .slice none 0 0]) ?_ 0 _ rfl; (with_reducible repeat (first | refine blk_drewN ?_ _ | refine blk_drew ?_ | refine blk_alloc ?_ _)); exact BK1007.out) Try.underlying25 rfl (by kernel_rfl)) rfl ?_
              exact ⟨_, _, by first | rfl | (simp [errW_none, errW_some] <;> rfl) | (simp [*, errW_none, errW_some] <;> rfl), by (with_reducible repeat (first | apply Kd.S_alloc | apply Kd.S_drewN | apply Kd.S_drew)); exact Kd.S_mono (Kd.S_far (p := ⟨gb1007, 1, none⟩) (Kd.S_far (p := ⟨gb1007, 0, none⟩) (Kd.S_types HO_1002.out BK1007.out (by decide)) (fun _ hk => hk.2) (.slice Ao43 x1002_1.length co43)) (fun _ hk => hk.2) (.slice Ao45 x1004_2.length co45)) (fun _ hk => trivial), by (with_reducible repeat (first | apply Kd.S_alloc | apply Kd.S_drewN | apply Kd.S_drew)); exact Kd.S_mono (Kd.S_far (p := ⟨gb1007, 1, none⟩) (Kd.S_far (p := ⟨gb1007, 0, none⟩) (Kd.S_types HO_1004.out BK1007.out (by decide)) (fun _ hk => hk.2) (.slice Ao43 x1002_1.length co43)) (fun _ hk => hk.2) (.slice Ao45 x1004_2.length co45)) (fun _ hk => trivial), by repeat (first | (with_reducible first | exact HB.out | apply below_alloc | apply pbdN | apply bdr1 | refine below_set ?_ GE1006.out | refine below_set ?_ GE1007.out | refine below_set ?_ GE1008.out) | exact HB.out)⟩
end Go.Proofs.Ytdkjhcdniepbhaa.P
end
section
set_option linter.unusedVariables false
set_option linter.unusedSimpArgs false
namespace Go.Proofs.Ytdkjhcdniepbhaa.P
open Go.RowKit Go.Proofs.PrintWords Go.Proofs.PrintLast Go.Proofs.PrintMore
attribute [local go_sem] max2_int min2_int max_two min_two max_three min_three max_four min_four
mutual
def disk_Twin.l0 : Nat → List (S39) → Int → Int → List (S39) → List (S49) → List (S39) → Option ((List (S39)) × (List (S49)))
  | 0, _, _, _, _, _, _ => none
  | k + 1, x8, x9, x10, x1000, x1001, x1002 => if x10 < x9 then (if 0 ≤ x10 then (if x10 < (x8.length : Int) then ((hClone.f ((rd_T39 x8 x10).f0)).bind fun t1003 => (if x1002.length < 4398046511104 then (disk_Twin.l0 k x8 x9 (wrap64 (x10 + 1)) x1000 x1001 (x1002 ++ [(⟨t1003, (rd_T39 x8 x10).f1⟩ : S39)])) else (none))) else (none)) else (none)) else (disk_Twin.l1 k x1001 (x1001.length : Int) 0 x1002 ([] : List (S49)))
def disk_Twin.l1 : Nat → List (S49) → Int → Int → List (S39) → List (S49) → Option ((List (S39)) × (List (S49)))
  | 0, _, _, _, _, _ => none
  | k + 1, x26, x27, x28, x1002, x1004 => if x28 < x27 then (if 0 ≤ x28 then (if x28 < (x26.length : Int) then ((hClone.f ((rd_T49 x26 x28).f1)).bind fun t1005 => (if x1004.length < 4398046511104 then (disk_Twin.l1 k x26 x27 (wrap64 (x28 + 1)) x1002 (x1004 ++ [(⟨(rd_T49 x26 x28).f0, t1005⟩ : S49)])) else (none))) else (none)) else (none)) else (some (x1002, x1004))
end
def disk_Twin.f (k : Nat) (l0_0 : List (S39)) (l0_1 : List (S49)) : Option ((List (S39)) × (List (S49))) := disk_Twin.l0 k l0_0 (l0_0.length : Int) 0 l0_0 l0_1 ([] : List (S39))
theorem disk_Twin.mono_l : ∀ k, (∀ y0 y1 y2 y3 y4 y5, LeO (disk_Twin.l0 k y0 y1 y2 y3 y4 y5) (disk_Twin.l0 (k + 1) y0 y1 y2 y3 y4 y5)) ∧ (∀ y0 y1 y2 y3 y4, LeO (disk_Twin.l1 k y0 y1 y2 y3 y4) (disk_Twin.l1 (k + 1) y0 y1 y2 y3 y4))
  | 0 => ⟨fun _ _ _ _ _ _ r h => by simp [disk_Twin.l0] at h, fun _ _ _ _ _ r h => by simp [disk_Twin.l1] at h⟩
  | k + 1 => by
    obtain ⟨ih0, ih1⟩ := disk_Twin.mono_l k
    refine ⟨?_, ?_⟩
    · intro y0 y1 y2 y3 y4 y5
      unfold disk_Twin.l0
      repeat' first
      | (with_reducible exact ih0 _ _ _ _ _ _)
      | (with_reducible exact ih1 _ _ _ _ _)
      | (with_reducible exact LeO.refl _)
      | (with_reducible exact LeO.none _)
      | (with_reducible refine LeO.ite ?_ ?_)
      | (with_reducible refine LeO.bind ?_ (fun _ => ?_))
      | exact ih0 _ _ _ _ _ _
      | exact ih1 _ _ _ _ _
      | exact LeO.none _
      | refine LeO.ite ?_ ?_
      | refine LeO.bind ?_ (fun _ => ?_)
    · intro y0 y1 y2 y3 y4
      unfold disk_Twin.l1
      repeat' first
      | (with_reducible exact ih0 _ _ _ _ _ _)
      | (with_reducible exact ih1 _ _ _ _ _)
      | (with_reducible exact LeO.refl _)
      | (with_reducible exact LeO.none _)
      | (with_reducible refine LeO.ite ?_ ?_)
      | (with_reducible refine LeO.bind ?_ (fun _ => ?_))
      | exact ih0 _ _ _ _ _ _
      | exact ih1 _ _ _ _ _
      | exact LeO.none _
      | refine LeO.ite ?_ ?_
      | refine LeO.bind ?_ (fun _ => ?_)
theorem disk_Twin.mono : ∀ a0 a1 k, LeO (disk_Twin.f k a0 a1) (disk_Twin.f (k + 1) a0 a1) := by
  intro a0 a1 k
  obtain ⟨ih0, ih1⟩ := disk_Twin.mono_l k
  unfold disk_Twin.f
  repeat' first
      | (with_reducible exact ih0 _ _ _ _ _ _)
      | (with_reducible exact ih1 _ _ _ _ _)
      | (with_reducible exact LeO.refl _)
      | (with_reducible exact LeO.none _)
      | (with_reducible refine LeO.ite ?_ ?_)
      | (with_reducible refine LeO.bind ?_ (fun _ => ?_))
      | exact ih0 _ _ _ _ _ _
      | exact ih1 _ _ _ _ _
      | exact LeO.none _
      | refine LeO.ite ?_ ?_
      | refine LeO.bind ?_ (fun _ => ?_)
set_option maxHeartbeats 8000000 in
set_option maxRecDepth 100000 in
theorem disk_Twin.calls (k : Nat) (A0_0 : Option Addr) (c0_0 : Nat) (l0_0 : List (S39)) (A0_1 : Option Addr) (c0_1 : Nat) (l0_1 : List (S49)) (r1 : List (S39)) (r2 : List (S49)) (w : World) (hr0_0 : Kd.C k39 w A0_0 l0_0.length l0_0) (hc0_0 : l0_0.length ≤ c0_0) (hr0_1 : Kd.C k49 w A0_1 l0_1.length l0_1) (hc0_1 : l0_1.length ≤ c0_1) (h : disk_Twin.f k l0_0 l0_1 = some (r1, r2)) :
    Calls Try.prog 61 #[.agg #[.slice A0_0 l0_0.length c0_0, .slice A0_1 l0_1.length c0_1]] w fun e w' => ∃ v0_ v1_ : Value, e = .returned (.agg #[v0_, v1_]) ∧ Kd.S k39 39 w' w.heap.size (fun _ => True) v0_ r1 ∧ Kd.S k49 49 w' w.heap.size (fun _ => True) v1_ r2 ∧ Below w.heap.size w w' := by
  have hu25 := Try.underlying25
  have hu39 := Try.underlying39
  have hu49 := Try.underlying49
  have HR0_0 := Aside0.mk hr0_0
  have HC0_0 := Aside0.mk hc0_0
  clear hr0_0 hc0_0
  have HR0_1 := Aside0.mk hr0_1
  have HC0_1 := Aside0.mk hc0_1
  clear hr0_1 hc0_1
  have HB := Aside0.mk (Below.refl w.heap.size w)
  have H : (disk_Twin.l0 k l0_0 (l0_0.length : Int) 0 l0_0 l0_1 ([] : List (S39))) = some (r1, r2) := h
  clear h
  have H' := Aside0.mk H
  clear H
  go_enter Try.func61, Try.ntmps61
  go_wp2_with (first | ((with_reducible refine gate_dst (N := 1) rfl ?_); refine box_event ?hg (N := 1) ?hd (cs := #[.slice A0_0 l0_0.length c0_0, .slice A0_1 l0_1.length c0_1]) (t := 25) ?hr ?_; (case hd => rfl); (case hg => rfl); (case hr => first | (go_simp; done) | (go_simp; rfl)); intro gb1006 hg w2 hbox hb; have n0_ := Aside0.mk (below_step (by repeat (first | (with_reducible first | exact HB.out | apply below_alloc | apply pbdN | apply bdr1) | exact HB.out)) hb); have n1_ := Aside0.mk (hbox); have n2_ := Aside0.mk ((by rw [hg]; exact (below_size (by repeat (first | (with_reducible first | exact HB.out | apply below_alloc | apply pbdN | apply bdr1) | exact HB.out))) : w.heap.size ≤ gb1006)); have n3_ := Aside0.mk ((by rw [hg]; exact (below_size (by repeat (first | (with_reducible first | exact HB.out | apply below_alloc | apply pbdN | apply bdr1) | exact HB.out))) : w.heap.size ≤ gb1006)); clear HB; have HB := n0_; have BK1006 := n1_; have GW1006 := n2_; have GE1006 := n3_; clear n0_ n1_ n2_ n3_; clear hb hbox hg) | ((with_reducible refine gate_dst (N := 2) rfl ?_); refine box_event ?hg (N := 2) ?hd (cs := #[.slice none 0 0, .slice none 0 0]) (t := 25) ?hr ?_; (case hd => rfl); (case hg => rfl); (case hr => first | (go_simp; done) | (go_simp; rfl)); intro gb1007 hg w3 hbox hb; have n0_ := Aside0.mk (blk_below (g := gb1006) (o := .cells #[.slice A0_0 l0_0.length c0_0, .slice A0_1 l0_1.length c0_1] 25 (0, 0)) (by (with_reducible repeat (first | refine blk_drewN ?_ _ | refine blk_drew ?_ | refine blk_alloc ?_ _)); exact BK1006.out) hb); have n1_ := Aside0.mk (below_step (by repeat (first | (with_reducible first | exact HB.out | apply below_alloc | apply pbdN | apply bdr1 | refine below_set ?_ GE1006.out) | exact HB.out)) hb); have n2_ := Aside0.mk (hbox); have n3_ := Aside0.mk ((by rw [hg]; exact (below_size (by repeat (first | (with_reducible first | exact HB.out | apply below_alloc | apply pbdN | apply bdr1 | refine below_set ?_ GE1006.out) | exact HB.out))) : w.heap.size ≤ gb1007)); have n4_ := Aside0.mk ((by rw [hg]; exact (below_size (by repeat (first | (with_reducible first | exact HB.out | apply below_alloc | apply pbdN | apply bdr1 | refine below_set ?_ GE1006.out) | exact HB.out))) : w.heap.size ≤ gb1007)); have n5_ := Aside0.mk ((by rw [hg]; exact Nat.ne_of_lt (blk_lt (g := gb1006) (o := .cells #[.slice A0_0 l0_0.length c0_0, .slice A0_1 l0_1.length c0_1] 25 (0, 0)) (by (with_reducible repeat (first | refine blk_drewN ?_ _ | refine blk_drew ?_ | refine blk_alloc ?_ _)); exact BK1006.out)) : gb1006 ≠ gb1007)); have n6_ := Aside0.mk ((by rw [hg]; exact Nat.ne_of_gt (blk_lt (g := gb1006) (o := .cells #[.slice A0_0 l0_0.length c0_0, .slice A0_1 l0_1.length c0_1] 25 (0, 0)) (by (with_reducible repeat (first | refine blk_drewN ?_ _ | refine blk_drew ?_ | refine blk_alloc ?_ _)); exact BK1006.out)) : gb1007 ≠ gb1006)); clear BK1006; clear HB; have BK1006 := n0_; have HB := n1_; have BK1007 := n2_; have GW1007 := n3_; have GE1007 := n4_; have NB1006_107 := n5_; have NB1007_106 := n6_; clear n0_ n1_ n2_ n3_ n4_ n5_ n6_; clear hb hbox hg; have hnb4 := NB1006_107.out; have hnc4 := NB1007_106.out; have hcz5_0 : w3.cell? ⟨gb1006, 0, none⟩ = some (.slice A0_0 l0_0.length c0_0) := (blk_cell BK1006.out 0).trans rfl; have hcz5_1 : w3.cell? ⟨gb1006, 1, none⟩ = some (.slice A0_1 l0_1.length c0_1) := (blk_cell BK1006.out 1).trans rfl; have hfz5_0 := blk_frozen BK1006.out 0; have hfz5_1 := blk_frozen BK1006.out 1))
  go_loopg [10] k (fun kq v10 w' => ∃ (x10_1 : Int) (x1002_1 : List (S39)) (u108000 : Value), v10 = .int .i64 x10_1 ∧ Aside0 (disk_Twin.l0 kq l0_0 (l0_0.length : Int) x10_1 l0_0 l0_1 x1002_1 = some (r1, r2)) ∧ Aside0 (kq ≤ k) ∧ Aside0 (Kd.S k39 39 w' w.heap.size (fun _ => True) u108000 x1002_1) ∧ Aside0 (w'.heap[gb1006]? = some (.cells #[(.slice A0_0 l0_0.length c0_0), (.slice A0_1 l0_1.length c0_1)] 25 (0, 0))) ∧ Aside0 (w'.heap[gb1007]? = some (.cells #[u108000, (.slice none 0 0)] 25 (0, 0))) ∧ Aside0 (Below w.heap.size w w'))
  case atStart => exact ⟨(0), (([] : List (S39))), (.slice none 0 0), (by first | rfl | (simp; done) | (simp [*]; done)), H', ⟨Nat.le_refl _⟩, ⟨by first | exact Kd.S_nil _ _ _ _ _ | exact Kd.N_nil _ _ _ _ _ | exact Kd.V_nil _ _ _ _ _ | exact Kd.Q_nil _ _ _ _ _ | exact Kd.R_nil _ _ _ _ _⟩, ⟨by (with_reducible repeat (first | refine blk_drewN ?_ _ | refine blk_drew ?_ | refine blk_alloc ?_ _)); exact BK1006.out⟩, ⟨by (with_reducible repeat (first | refine blk_drewN ?_ _ | refine blk_drew ?_ | refine blk_alloc ?_ _)); exact BK1007.out⟩, ⟨by repeat (first | (with_reducible first | exact HB.out | apply below_alloc | apply pbdN | apply bdr1 | refine below_set ?_ GE1006.out | refine below_set ?_ GE1007.out) | exact HB.out)⟩⟩
  case round =>
    clear H'
    try clear p2
    try clear c4
    try clear hcz5_0
    try clear hcz5_1
    try clear hfz5_0
    try clear hfz5_1
    obtain ⟨x10_1, x1002_1, u108000, rfl, HA, HK1, HO_1002, BK1006, BK1007, HB⟩ := hrel
    cases gk with
    | zero => exact absurd HA.out (by simp [disk_Twin.l0])
    | succ k1 =>
      have H := HA.out
      clear HA
      simp only [disk_Twin.l0] at H
      by_cases c6 : x10_1 < (l0_0.length : Int)
      · rw [if_pos c6] at H
        have c6b0 : decide (x10_1 < (l0_0.length : Int)) = true := decide_eq_true c6
        clear c6
        by_cases c7 : 0 ≤ x10_1
        · rw [if_pos c7] at H
          have c7b0 : decide (0 ≤ x10_1) = true := decide_eq_true c7
          clear c7
          by_cases c8 : x10_1 < (l0_0.length : Int)
          · rw [if_pos c8] at H
            have c8b0 : decide (x10_1 < (l0_0.length : Int)) = true := decide_eq_true c8
            clear c8
            replace H := Option.bind_eq_some_iff.mp H
            obtain ⟨t1003, A90, H⟩ := H
            replace H : (if x1002_1.length < 4398046511104 then (disk_Twin.l0 k1 l0_0 (l0_0.length : Int) (wrap64 (x10_1 + 1)) l0_0 l0_1 (x1002_1 ++ [(⟨t1003, (rd_T39 l0_0 x10_1).f1⟩ : S39)])) else (none)) = some (r1, r2) := H
            have A9 := Aside0.mk A90
            clear A90
            by_cases c10 : x1002_1.length < 4398046511104
            · rw [if_pos c10] at H
              have LMc10 := Aside0.mk c10
              clear c10
              obtain ⟨y1008, hy1008⟩ : ∃ y_ : List (S39), y_ = (x1002_1 ++ [(⟨t1003, (rd_T39 l0_0 x10_1).f1⟩ : S39)]) := ⟨_, rfl⟩
              replace H : (disk_Twin.l0 k1 l0_0 (l0_0.length : Int) (wrap64 (x10_1 + 1)) l0_0 l0_1 y1008) = some (r1, r2) := by first | (rw [hy1008]; with_reducible exact H) | (have H2_ := (Option.bind_some _ _).symm.trans H; rw [hy1008]; with_reducible exact H2_) | (have H2_ := (Option.bind_some _ _).symm.trans H; with_reducible exact H2_) | with_reducible exact H | (rw [hy1008]; exact H) | exact H
              have Ny1008 := Aside0.mk hy1008
              clear hy1008
              have H' := Aside0.mk H
              clear H
              have p1009 : 0 ≤ (x10_1 : Int) := of_decide_eq_true (by first | (with_reducible assumption) | assumption)
              have q1009 : x10_1 < (l0_0.length : Int) := of_decide_eq_true (by first | (with_reducible assumption) | assumption)
              obtain ⟨ad1009, A1009_0, c1009_0, e1009, hx1009_0, hx1009_1, hl1009_0, hi1009_0⟩ := at_T39 HR0_0.out x10_1 p1009 q1009
              cases e1009
              replace hx1009_0 := (HB.out.cell (World.block_lt_of_cell? w _ hx1009_0)).trans hx1009_0
              replace hx1009_1 := (HB.out.cell (World.block_lt_of_cell? w _ hx1009_1)).trans hx1009_1
              have HR1009_0 := Aside0.mk hi1009_0
              have HC1009_0 := Aside0.mk hl1009_0
              clear hi1009_0 hl1009_0
              replace p1009 := eq_true p1009
              replace q1009 := eq_true q1009
              go_wp2_with (first | ((with_reducible refine gate_dst (N := 4) rfl ?_); refine box_event ?hg (N := 4) ?hd (cs := #[.slice none 0 0, .bool false]) (t := 39) ?hr ?_; (case hd => rfl); (case hg => rfl); (case hr => first | (go_simp; done) | (go_simp; rfl)); intro gb1010 hg w11 hbox hb; have n0_ := Aside0.mk (Kd.S_below (Kd.S_elderB (by (with_reducible repeat (first | apply Kd.S_alloc | apply Kd.S_drewN | apply Kd.S_drew)); exact HO_1002.out) gb1010 (Nat.le_of_eq hg.symm)) hb); have n1_ := Aside0.mk (blk_below (g := gb1006) (o := .cells #[.slice (some ad1009) l0_0.length c0_0, .slice A0_1 l0_1.length c0_1] 25 (0, 0)) (by (with_reducible repeat (first | refine blk_drewN ?_ _ | refine blk_drew ?_ | refine blk_alloc ?_ _)); exact BK1006.out) hb); have n2_ := Aside0.mk (blk_below (g := gb1007) (o := .cells #[u108000, .slice none 0 0] 25 (0, 0)) (by (with_reducible repeat (first | refine blk_drewN ?_ _ | refine blk_drew ?_ | refine blk_alloc ?_ _)); exact BK1007.out) hb); have n3_ := Aside0.mk (below_step (by repeat (first | (with_reducible first | exact HB.out | apply below_alloc | apply pbdN | apply bdr1 | refine below_set ?_ GE1006.out | refine below_set ?_ GE1007.out) | exact HB.out)) hb); have n4_ := Aside0.mk (hbox); have n5_ := Aside0.mk ((by rw [hg]; exact (below_size (by repeat (first | (with_reducible first | exact HB.out | apply below_alloc | apply pbdN | apply bdr1 | refine below_set ?_ GE1006.out | refine below_set ?_ GE1007.out) | exact HB.out))) : w.heap.size ≤ gb1010)); have n6_ := Aside0.mk ((by rw [hg]; exact (below_size (by repeat (first | (with_reducible first | exact HB.out | apply below_alloc | apply pbdN | apply bdr1 | refine below_set ?_ GE1006.out | refine below_set ?_ GE1007.out) | exact HB.out))) : w.heap.size ≤ gb1010)); have n7_ := Aside0.mk ((by rw [hg]; exact Nat.ne_of_lt (blk_lt (g := gb1006) (o := .cells #[.slice (some ad1009) l0_0.length c0_0, .slice A0_1 l0_1.length c0_1] 25 (0, 0)) (by (with_reducible repeat (first | refine blk_drewN ?_ _ | refine blk_drew ?_ | refine blk_alloc ?_ _)); exact BK1006.out)) : gb1006 ≠ gb1010)); have n8_ := Aside0.mk ((by rw [hg]; exact Nat.ne_of_gt (blk_lt (g := gb1006) (o := .cells #[.slice (some ad1009) l0_0.length c0_0, .slice A0_1 l0_1.length c0_1] 25 (0, 0)) (by (with_reducible repeat (first | refine blk_drewN ?_ _ | refine blk_drew ?_ | refine blk_alloc ?_ _)); exact BK1006.out)) : gb1010 ≠ gb1006)); have n9_ := Aside0.mk ((by rw [hg]; exact Nat.ne_of_lt (blk_lt (g := gb1007) (o := .cells #[u108000, .slice none 0 0] 25 (0, 0)) (by (with_reducible repeat (first | refine blk_drewN ?_ _ | refine blk_drew ?_ | refine blk_alloc ?_ _)); exact BK1007.out)) : gb1007 ≠ gb1010)); have n10_ := Aside0.mk ((by rw [hg]; exact Nat.ne_of_gt (blk_lt (g := gb1007) (o := .cells #[u108000, .slice none 0 0] 25 (0, 0)) (by (with_reducible repeat (first | refine blk_drewN ?_ _ | refine blk_drew ?_ | refine blk_alloc ?_ _)); exact BK1007.out)) : gb1010 ≠ gb1007)); clear HO_1002; clear BK1006; clear BK1007; clear HB; have HO_1002 := n0_; have BK1006 := n1_; have BK1007 := n2_; have HB := n3_; have BK1010 := n4_; have GW1010 := n5_; have GE1010 := n6_; have NB1006_109 := n7_; have NB1010_106 := n8_; have NB1007_109 := n9_; have NB1010_107 := n10_; clear n0_ n1_ n2_ n3_ n4_ n5_ n6_ n7_ n8_ n9_ n10_; clear hb hbox hg; have hnb12 := NB1010_106.out; have hnc12 := NB1006_109.out; have hnb13 := NB1010_107.out; have hnc13 := NB1007_109.out; have hcz14_0 : w11.cell? ⟨gb1010, 0, none⟩ = some (.slice none 0 0) := (blk_cell BK1010.out 0).trans rfl; have hcz14_1 : w11.cell? ⟨gb1010, 1, none⟩ = some (.bool false) := (blk_cell BK1010.out 1).trans rfl; have hfz14_0 := blk_frozen BK1010.out 0; have hfz14_1 := blk_frozen BK1010.out 1) | ((with_reducible refine gate_callee (f := 59) rfl ?_); refine goesL_ (some 16) rfl rfl Try.func59 (by kernel_rfl) rfl #[.slice A1009_0 ((rd_T39 l0_0 x10_1).f0).length c1009_0] rfl (by (try simp only [List.map_toArray, List.map_cons, List.map_nil]); first | done | rfl | (simp only [List.length_drop, List.length_take]; rfl)) ?_; (with_reducible refine (hClone.calls _ _ ((rd_T39 l0_0 x10_1).f0) t1003 _ ?side1 ?side2 A9.out).mono ?_); (case side1 => exact Kd.C_below HR1009_0.out (by repeat (first | (with_reducible first | exact HB.out | apply below_alloc | apply pbdN | apply bdr1 | refine below_set ?_ GE1006.out | refine below_set ?_ GE1007.out | refine below_set ?_ GE1010.out) | exact HB.out))); (case side2 => exact HC1009_0.out); rintro e w15 ⟨v1011, rfl, ho0, hb⟩; refine ⟨_, rfl, ?_⟩; have n0_ := Aside0.mk (Kd.S_elder' (by (with_reducible repeat (first | apply Kd.S_alloc | apply Kd.S_drewN | apply Kd.S_drew)); exact (Kd.S_mono (Kd.S_far (p := ⟨gb1010, 1, none⟩) (Kd.S_far (p := ⟨gb1010, 0, none⟩) (Kd.S_mono HO_1002.out (fun k_ hk => (⟨hk, hk.2⟩ : _ ∧ k_ ≠ gb1010))) (fun _ hk => hk.2) (.slice A1009_0 ((rd_T39 l0_0 x10_1).f0).length c1009_0)) (fun _ hk => hk.2) (.bool ((rd_T39 l0_0 x10_1).f1))) (fun _ h_ => h_.1))) (Kd.R_base ho0) hb); have n1_ := Aside0.mk (Kd.R_lower ho0 (below_size (by repeat (first | (with_reducible first | exact HB.out | apply below_alloc | apply pbdN | apply bdr1 | refine below_set ?_ GE1006.out | refine below_set ?_ GE1007.out | refine below_set ?_ GE1010.out) | exact HB.out)))); have n2_ := Aside0.mk (blk_below (g := gb1006) (o := .cells #[.slice (some ad1009) l0_0.length c0_0, .slice A0_1 l0_1.length c0_1] 25 (0, 0)) (by (with_reducible repeat (first | refine blk_drewN ?_ _ | refine blk_drew ?_ | refine blk_alloc ?_ _)); refine blk_far ?_ NB1006_109.out _; (with_reducible repeat (first | refine blk_drewN ?_ _ | refine blk_drew ?_ | refine blk_alloc ?_ _)); refine blk_far ?_ NB1006_109.out _; (with_reducible repeat (first | refine blk_drewN ?_ _ | refine blk_drew ?_ | refine blk_alloc ?_ _)); exact BK1006.out) hb); have n3_ := Aside0.mk (blk_below (g := gb1007) (o := .cells #[u108000, .slice none 0 0] 25 (0, 0)) (by (with_reducible repeat (first | refine blk_drewN ?_ _ | refine blk_drew ?_ | refine blk_alloc ?_ _)); refine blk_far ?_ NB1007_109.out _; (with_reducible repeat (first | refine blk_drewN ?_ _ | refine blk_drew ?_ | refine blk_alloc ?_ _)); refine blk_far ?_ NB1007_109.out _; (with_reducible repeat (first | refine blk_drewN ?_ _ | refine blk_drew ?_ | refine blk_alloc ?_ _)); exact BK1007.out) hb); have n4_ := Aside0.mk (blk_below (g := gb1010) (o := .cells #[.slice A1009_0 ((rd_T39 l0_0 x10_1).f0).length c1009_0, .bool ((rd_T39 l0_0 x10_1).f1)] 39 (0, 0)) (by (with_reducible repeat (first | refine blk_drewN ?_ _ | refine blk_drew ?_ | refine blk_alloc ?_ _)); refine blk_put (cs := #[.slice A1009_0 ((rd_T39 l0_0 x10_1).f0).length c1009_0, .bool false]) ?_ 1 _ rfl; (with_reducible repeat (first | refine blk_drewN ?_ _ | refine blk_drew ?_ | refine blk_alloc ?_ _)); refine blk_put (cs := #[.slice none 0 0, .bool false]) ?_ 0 _ rfl; (with_reducible repeat (first | refine blk_drewN ?_ _ | refine blk_drew ?_ | refine blk_alloc ?_ _)); exact BK1010.out) hb); have n5_ := Aside0.mk (below_step (by repeat (first | (with_reducible first | exact HB.out | apply below_alloc | apply pbdN | apply bdr1 | refine below_set ?_ GE1006.out | refine below_set ?_ GE1007.out | refine below_set ?_ GE1010.out) | exact HB.out)) hb); clear HO_1002; clear BK1006; clear BK1007; clear BK1010; clear HB; have HO_1002 := n0_; have HO1012 := n1_; have BK1006 := n2_; have BK1007 := n3_; have BK1010 := n4_; have HB := n5_; clear n0_ n1_ n2_ n3_ n4_ n5_; (try clear hb); (try clear hb2); (try clear hk); (try clear hi); (try clear ho0); obtain ⟨Ao16, co16, eo16⟩ := Kd.R_slice HO1012.out; subst eo16; have hcz17_0 : w15.cell? ⟨gb1010, 0, none⟩ = some (.slice A1009_0 ((rd_T39 l0_0 x10_1).f0).length c1009_0) := (blk_cell BK1010.out 0).trans rfl; have hcz17_1 : w15.cell? ⟨gb1010, 1, none⟩ = some (.bool ((rd_T39 l0_0 x10_1).f1)) := (blk_cell BK1010.out 1).trans rfl; have hfz17_0 := blk_frozen BK1010.out 0; have hfz17_1 := blk_frozen BK1010.out 1) | ((with_reducible refine gate_store (t := 31) (p := 17) rfl ?_); refine store_event (t := 31) (p := 17) (v := ?vo_w18) (w1 := (w15.setCell ⟨gb1010, 0, none⟩ (.slice Ao16 t1003.length co16))) ?hg ?ho ?hn ?hr ?_; (case ho => rfl); (case hg => rfl); (case hn => rfl); (case hr => first | (go_simp; done) | (go_simp; rfl)); intro w18 hw; have n0_ : Aside0 (Kd.S k39 39 w18 w.heap.size (fun k_ => some k_ ≠ (.slice Ao16 t1003.length co16 : Value).ownBlock ∧ k_ ≠ gb1010) u108000 x1002_1) := ⟨(by rw [hw]; exact (by (with_reducible repeat (first | apply Kd.S_alloc | apply Kd.S_drewN | apply Kd.S_drew)); exact Kd.S_mono (Kd.S_far (p := ⟨gb1010, 0, none⟩) (Kd.S_mono HO_1002.out (fun k_ hk => (⟨hk, hk.1.2⟩ : _ ∧ k_ ≠ gb1010))) (fun _ hk => hk.2) (.slice Ao16 t1003.length co16)) (fun _ hk => ⟨hk.1.2, hk.1.1.2⟩)))⟩; have n1_ : Aside0 (Kd.R (Kd.int .u8) 5 w18 w.heap.size (fun _ => True) (.slice Ao16 t1003.length co16) t1003) := ⟨(by rw [hw]; exact (by (with_reducible repeat (first | apply Kd.R_alloc | apply Kd.R_drewN | apply Kd.R_drew)); exact Kd.R_mono (Kd.R_far (p := ⟨gb1010, 0, none⟩) (Kd.R_types HO1012.out BK1010.out (by decide)) (fun _ hk => hk.2) (.slice Ao16 t1003.length co16)) (fun _ hk => trivial)))⟩; have n2_ : Aside0 (w18.heap[gb1006]? = some (.cells #[.slice (some ad1009) l0_0.length c0_0, .slice A0_1 l0_1.length c0_1] 25 (0, 0))) := ⟨(by rw [hw]; exact (by (with_reducible repeat (first | refine blk_drewN ?_ _ | refine blk_drew ?_ | refine blk_alloc ?_ _)); refine blk_far ?_ NB1006_109.out _; (with_reducible repeat (first | refine blk_drewN ?_ _ | refine blk_drew ?_ | refine blk_alloc ?_ _)); exact BK1006.out))⟩; have n3_ : Aside0 (w18.heap[gb1007]? = some (.cells #[u108000, .slice none 0 0] 25 (0, 0))) := ⟨(by rw [hw]; exact (by (with_reducible repeat (first | refine blk_drewN ?_ _ | refine blk_drew ?_ | refine blk_alloc ?_ _)); refine blk_far ?_ NB1007_109.out _; (with_reducible repeat (first | refine blk_drewN ?_ _ | refine blk_drew ?_ | refine blk_alloc ?_ _)); exact BK1007.out))⟩; have n4_ : Aside0 (w18.heap[gb1010]? = some (.cells #[.slice Ao16 t1003.length co16, .bool ((rd_T39 l0_0 x10_1).f1)] 39 (0, 0))) := ⟨(by rw [hw]; exact (by (with_reducible repeat (first | refine blk_drewN ?_ _ | refine blk_drew ?_ | refine blk_alloc ?_ _)); refine blk_put (cs := #[.slice A1009_0 ((rd_T39 l0_0 x10_1).f0).length c1009_0, .bool ((rd_T39 l0_0 x10_1).f1)]) ?_ 0 _ rfl; (with_reducible repeat (first | refine blk_drewN ?_ _ | refine blk_drew ?_ | refine blk_alloc ?_ _)); exact BK1010.out))⟩; have n5_ : Aside0 (Below w.heap.size w w18) := ⟨(by rw [hw]; exact (by repeat (first | (with_reducible first | exact HB.out | apply below_alloc | apply pbdN | apply bdr1 | refine below_set ?_ GE1006.out | refine below_set ?_ GE1007.out | refine below_set ?_ GE1010.out) | exact HB.out)))⟩; clear hw; clear HO_1002; clear HO1012; clear BK1006; clear BK1007; clear BK1010; clear HB; have HO_1002 := n0_; have HO1012 := n1_; have BK1006 := n2_; have BK1007 := n3_; have BK1010 := n4_; have HB := n5_; clear n0_ n1_ n2_ n3_ n4_ n5_; have hnb19 := NB1007_106.out; have hnc19 := NB1006_107.out; have hcz20_0 : w18.cell? ⟨gb1007, 0, none⟩ = some (u108000) := (blk_cell BK1007.out 0).trans rfl; have hcz20_1 : w18.cell? ⟨gb1007, 1, none⟩ = some (.slice none 0 0) := (blk_cell BK1007.out 1).trans rfl; have hfz20_0 := blk_frozen BK1007.out 0; have hfz20_1 := blk_frozen BK1007.out 1; have hcz21_0 : w18.cell? ⟨gb1010, 0, none⟩ = some (.slice Ao16 t1003.length co16) := (blk_cell BK1010.out 0).trans rfl; have hcz21_1 : w18.cell? ⟨gb1010, 1, none⟩ = some (.bool ((rd_T39 l0_0 x10_1).f1)) := (blk_cell BK1010.out 1).trans rfl; have hfz21_0 := blk_frozen BK1010.out 0; have hfz21_1 := blk_frozen BK1010.out 1) | ((with_reducible refine gate_builtin (b := .append) (xs := #[.tmp 19, .tmp 21]) rfl ?_); at_builtin; refine Kd.S_append k39 (w0 := w) w.heap.size rfl (.tmp 19) (.tmp 21) 22 39 (.agg #[(.slice none 0 0), (.bool false)]) 32 rfl Try.underlying22 info39 rfl (by decide) (by omega) u108000 x1002_1 (⟨t1003, (rd_T39 l0_0 x10_1).f1⟩ : S39) [.slice Ao16 t1003.length co16, .bool ((rd_T39 l0_0 x10_1).f1)] (fun k_ => k_ ≠ gb1010) (fun k_ => some k_ = (.slice Ao16 t1003.length co16 : Value).ownBlock) rfl rfl ?aP (fun k_ hk_ => ((Kd.R_mono (ok' := fun k_ => ((fun k_ => k_ ≠ gb1010)) k_ ∧ some k_ ≠ (u108000 : Value).ownBlock) (Kd.R_types (Kd.R_apart' (HO1012.out) (Kd.S_typed HO_1002.out) (by decide)) BK1010.out (by decide)) (fun k_ hk => ⟨hk.2, hk.1.2⟩))).1 k_ hk_.symm) ?aF ?aO ?aB ?aS ?aL ?_; (case aP => exact k39_mkM _ _ _ (⟨t1003, (rd_T39 l0_0 x10_1).f1⟩ : S39) (Kd.R_mono (Kd.R_tight rfl (Kd.R_mono (ok' := fun k_ => ((fun k_ => k_ ≠ gb1010)) k_ ∧ some k_ ≠ (u108000 : Value).ownBlock) (Kd.R_types (Kd.R_apart' (HO1012.out) (Kd.S_typed HO_1002.out) (by decide)) BK1010.out (by decide)) (fun k_ hk => ⟨hk.2, hk.1.2⟩))) (fun _ h_ => h_))); (case aB => exact (by repeat (first | (with_reducible first | exact HB.out | apply below_alloc | apply pbdN | apply bdr1 | refine below_set ?_ GE1006.out | refine below_set ?_ GE1007.out | refine below_set ?_ GE1010.out) | exact HB.out))); (case aF => exact (fun k_ hk => Kd.freshB (g := gb1010) (o := .cells #[.slice Ao16 t1003.length co16, .bool ((rd_T39 l0_0 x10_1).f1)] 39 (0, 0)) (by (with_reducible repeat (first | refine blk_drewN ?_ _ | refine blk_drew ?_ | refine blk_alloc ?_ _)); exact BK1010.out) k_ hk)); (case aO => exact (by (with_reducible repeat (first | apply Kd.S_alloc | apply Kd.S_drewN | apply Kd.S_drew)); exact Kd.S_mono HO_1002.out (fun k_ hk => ⟨hk.2, fun e_ => hk.1 e_⟩))); (case aS => exact (below_size (by repeat (first | (with_reducible first | exact HB.out | apply below_alloc | apply pbdN | apply bdr1 | refine below_set ?_ GE1006.out | refine below_set ?_ GE1007.out | refine below_set ?_ GE1010.out) | exact HB.out)))); (case aL => have := LMc10.out; omega); intro v1013 w22 ho hb hg hat; (first | (simp only [Int.reduceToNat] at ho; rw [← Ny1008.out] at ho) | rw [← Ny1008.out] at ho); have n0_ := Aside0.mk (blk_grown (g := gb1006) (o := .cells #[.slice (some ad1009) l0_0.length c0_0, .slice A0_1 l0_1.length c0_1] 25 (0, 0)) (by (with_reducible repeat (first | refine blk_drewN ?_ _ | refine blk_drew ?_ | refine blk_alloc ?_ _)); exact BK1006.out) hg (Kd.S_ne HO_1002.out BK1006.out (by decide))); have n1_ := Aside0.mk (blk_grown (g := gb1007) (o := .cells #[u108000, .slice none 0 0] 25 (0, 0)) (by (with_reducible repeat (first | refine blk_drewN ?_ _ | refine blk_drew ?_ | refine blk_alloc ?_ _)); exact BK1007.out) hg (Kd.S_ne HO_1002.out BK1007.out (by decide))); have n2_ := Aside0.mk (blk_grown (g := gb1010) (o := .cells #[.slice Ao16 t1003.length co16, .bool ((rd_T39 l0_0 x10_1).f1)] 39 (0, 0)) (by (with_reducible repeat (first | refine blk_drewN ?_ _ | refine blk_drew ?_ | refine blk_alloc ?_ _)); exact BK1010.out) hg (Kd.S_away HO_1002.out (fun _ hk => hk.2))); have n3_ := Aside0.mk (hb); have n4_ := Aside0.mk (ho); clear BK1006; clear BK1007; clear BK1010; clear HB; clear HO_1002; clear HO1012; have BK1006 := n0_; have BK1007 := n1_; have BK1010 := n2_; have HB := n3_; have HO1014 := n4_; clear n0_ n1_ n2_ n3_ n4_; clear ho hb hg hat; obtain ⟨Ao23, co23, eo23⟩ := Kd.S_slice HO1014.out; subst eo23; have hcz24_0 : w22.cell? ⟨gb1007, 0, none⟩ = some (u108000) := (blk_cell BK1007.out 0).trans rfl; have hcz24_1 : w22.cell? ⟨gb1007, 1, none⟩ = some (.slice none 0 0) := (blk_cell BK1007.out 1).trans rfl; have hfz24_0 := blk_frozen BK1007.out 0; have hfz24_1 := blk_frozen BK1007.out 1))
              go_roundg k1
              case measure => have := HK1.out; omega
              case rel => exact ⟨(wrap64 (x10_1 + 1)), (y1008), (.slice Ao23 y1008.length co23), (by first | rfl | (simp; done) | (simp [*]; done)), H', ⟨by have := HK1.out; omega⟩, ⟨by (with_reducible repeat (first | apply Kd.S_alloc | apply Kd.S_drewN | apply Kd.S_drew)); exact Kd.S_mono (Kd.S_far (p := ⟨gb1007, 0, none⟩) (Kd.S_types HO1014.out BK1007.out (by decide)) (fun _ hk => hk.2) (.slice Ao23 y1008.length co23)) (fun _ hk => trivial)⟩, ⟨by (with_reducible repeat (first | refine blk_drewN ?_ _ | refine blk_drew ?_ | refine blk_alloc ?_ _)); refine blk_far ?_ NB1006_107.out _; (with_reducible repeat (first | refine blk_drewN ?_ _ | refine blk_drew ?_ | refine blk_alloc ?_ _)); exact BK1006.out⟩, ⟨by (with_reducible repeat (first | refine blk_drewN ?_ _ | refine blk_drew ?_ | refine blk_alloc ?_ _)); refine blk_put (cs := #[u108000, .slice none 0 0]) ?_ 0 _ rfl; (with_reducible repeat (first | refine blk_drewN ?_ _ | refine blk_drew ?_ | refine blk_alloc ?_ _)); exact BK1007.out⟩, ⟨by repeat (first | (with_reducible first | exact HB.out | apply below_alloc | apply pbdN | apply bdr1 | refine below_set ?_ GE1006.out | refine below_set ?_ GE1007.out | refine below_set ?_ GE1010.out) | exact HB.out)⟩⟩
            · rw [if_neg c10] at H
              exact absurd H (by simp)
          · rw [if_neg c8] at H
            exact absurd H (by simp)
        · rw [if_neg c7] at H
          exact absurd H (by simp)
      · rw [if_neg c6] at H
        have c6b0 : decide (x10_1 < (l0_0.length : Int)) = false := decide_eq_false c6
        clear c6
        have H' := Aside0.mk H
        clear H
        have hnb25 := NB1006_107.out
        have hnc25 := NB1007_106.out
        have hcz26_0 : wr.cell? ⟨gb1006, 0, none⟩ = some (.slice A0_0 l0_0.length c0_0) := (blk_cell BK1006.out 0).trans rfl
        have hcz26_1 : wr.cell? ⟨gb1006, 1, none⟩ = some (.slice A0_1 l0_1.length c0_1) := (blk_cell BK1006.out 1).trans rfl
        have hfz26_0 := blk_frozen BK1006.out 0
        have hfz26_1 := blk_frozen BK1006.out 1
        go_wp2
        go_loopg [28] k1 (fun kq v28 w' => ∃ (x28_2 : Int) (x1004_2 : List (S49)) (u108001 : Value), v28 = .int .i64 x28_2 ∧ Aside0 (disk_Twin.l1 kq l0_1 (l0_1.length : Int) x28_2 x1002_1 x1004_2 = some (r1, r2)) ∧ Aside0 (kq ≤ k1) ∧ Aside0 (Kd.S k39 39 w' w.heap.size (fun _ => True) u108000 x1002_1) ∧ Aside0 (Kd.S k49 49 w' w.heap.size (fun _ => True) u108001 x1004_2) ∧ Aside0 (w'.heap[gb1006]? = some (.cells #[(.slice A0_0 l0_0.length c0_0), (.slice A0_1 l0_1.length c0_1)] 25 (0, 0))) ∧ Aside0 (w'.heap[gb1007]? = some (.cells #[u108000, u108001] 25 (0, 0))) ∧ Aside0 (Below w.heap.size w w'))
        case atStart => exact ⟨(0), (([] : List (S49))), (.slice none 0 0), (by first | rfl | (simp; done) | (simp [*]; done)), H', ⟨Nat.le_refl _⟩, ⟨by (with_reducible repeat (first | apply Kd.S_alloc | apply Kd.S_drewN | apply Kd.S_drew)); exact HO_1002.out⟩, ⟨by first | exact Kd.S_nil _ _ _ _ _ | exact Kd.N_nil _ _ _ _ _ | exact Kd.V_nil _ _ _ _ _ | exact Kd.Q_nil _ _ _ _ _ | exact Kd.R_nil _ _ _ _ _⟩, ⟨by (with_reducible repeat (first | refine blk_drewN ?_ _ | refine blk_drew ?_ | refine blk_alloc ?_ _)); exact BK1006.out⟩, ⟨by (with_reducible repeat (first | refine blk_drewN ?_ _ | refine blk_drew ?_ | refine blk_alloc ?_ _)); exact BK1007.out⟩, ⟨by repeat (first | (with_reducible first | exact HB.out | apply below_alloc | apply pbdN | apply bdr1 | refine below_set ?_ GE1006.out | refine below_set ?_ GE1007.out) | exact HB.out)⟩⟩
        case round =>
          clear H'
          try clear c1
          try clear p1
          try clear q1
          try clear hx1
          try clear c2
          try clear p2
          try clear c4
          try clear c5
          try clear c6
          try clear c6b0
          try clear p6
          try clear c7
          try clear c7b0
          try clear c8
          try clear c8b0
          try clear c10
          try clear p10
          try clear q10
          try clear hx10
          try clear c12
          try clear c13
          try clear c19
          try clear c25
          try clear hcz14_0
          try clear hcz14_1
          try clear hcz17_0
          try clear hcz17_1
          try clear hcz20_0
          try clear hcz20_1
          try clear hcz21_0
          try clear hcz21_1
          try clear hcz24_0
          try clear hcz24_1
          try clear hcz26_0
          try clear hcz26_1
          try clear hcz5_0
          try clear hcz5_1
          try clear hfz14_0
          try clear hfz14_1
          try clear hfz17_0
          try clear hfz17_1
          try clear hfz20_0
          try clear hfz20_1
          try clear hfz21_0
          try clear hfz21_1
          try clear hfz24_0
          try clear hfz24_1
          try clear hfz26_0
          try clear hfz26_1
          try clear hfz5_0
          try clear hfz5_1
          try clear hx1009_0
          try clear hx1009_1
          try clear p1009
          try clear p2
          try clear q1009
          obtain ⟨x28_2, x1004_2, u108001, rfl, HA, HK2, HO_1002, HO_1004, BK1006, BK1007, HB⟩ := hrel
          cases gk with
          | zero => exact absurd HA.out (by simp [disk_Twin.l1])
          | succ k2 =>
            have H := HA.out
            clear HA
            simp only [disk_Twin.l1] at H
            by_cases c27 : x28_2 < (l0_1.length : Int)
            · rw [if_pos c27] at H
              have c27b0 : decide (x28_2 < (l0_1.length : Int)) = true := decide_eq_true c27
              clear c27
              by_cases c28 : 0 ≤ x28_2
              · rw [if_pos c28] at H
                have c28b0 : decide (0 ≤ x28_2) = true := decide_eq_true c28
                clear c28
                by_cases c29 : x28_2 < (l0_1.length : Int)
                · rw [if_pos c29] at H
                  have c29b0 : decide (x28_2 < (l0_1.length : Int)) = true := decide_eq_true c29
                  clear c29
                  replace H := Option.bind_eq_some_iff.mp H
                  obtain ⟨t1005, A1015, H⟩ := H
                  replace H : (if x1004_2.length < 4398046511104 then (disk_Twin.l1 k2 l0_1 (l0_1.length : Int) (wrap64 (x28_2 + 1)) x1002_1 (x1004_2 ++ [(⟨(rd_T49 l0_1 x28_2).f0, t1005⟩ : S49)])) else (none)) = some (r1, r2) := H
                  have A30 := Aside0.mk A1015
                  clear A1015
                  by_cases c31 : x1004_2.length < 4398046511104
                  · rw [if_pos c31] at H
                    have LMc31 := Aside0.mk c31
                    clear c31
                    obtain ⟨y1016, hy1016⟩ : ∃ y_ : List (S49), y_ = (x1004_2 ++ [(⟨(rd_T49 l0_1 x28_2).f0, t1005⟩ : S49)]) := ⟨_, rfl⟩
                    replace H : (disk_Twin.l1 k2 l0_1 (l0_1.length : Int) (wrap64 (x28_2 + 1)) x1002_1 y1016) = some (r1, r2) := by first | (rw [hy1016]; with_reducible exact H) | (have H2_ := (Option.bind_some _ _).symm.trans H; rw [hy1016]; with_reducible exact H2_) | (have H2_ := (Option.bind_some _ _).symm.trans H; with_reducible exact H2_) | with_reducible exact H | (rw [hy1016]; exact H) | exact H
                    have Ny1016 := Aside0.mk hy1016
                    clear hy1016
                    have H' := Aside0.mk H
                    clear H
                    have p1017 : 0 ≤ (x28_2 : Int) := of_decide_eq_true (by first | (with_reducible assumption) | assumption)
                    have q1017 : x28_2 < (l0_1.length : Int) := of_decide_eq_true (by first | (with_reducible assumption) | assumption)
                    obtain ⟨ad1017, A1017_1, c1017_1, e1017, hx1017_0, hx1017_1, hl1017_1, hi1017_1⟩ := at_T49 HR0_1.out x28_2 p1017 q1017
                    cases e1017
                    replace hx1017_0 := (HB.out.cell (World.block_lt_of_cell? w _ hx1017_0)).trans hx1017_0
                    replace hx1017_1 := (HB.out.cell (World.block_lt_of_cell? w _ hx1017_1)).trans hx1017_1
                    have HR1017_1 := Aside0.mk hi1017_1
                    have HC1017_1 := Aside0.mk hl1017_1
                    clear hi1017_1 hl1017_1
                    replace p1017 := eq_true p1017
                    replace q1017 := eq_true q1017
                    go_wp2_with (first | ((with_reducible refine gate_dst (N := 6) rfl ?_); refine box_event ?hg (N := 6) ?hd (cs := #[.int .i64 0, .slice none 0 0]) (t := 49) ?hr ?_; (case hd => rfl); (case hg => rfl); (case hr => first | (go_simp; done) | (go_simp; rfl)); intro gb1018 hg w32 hbox hb; have n0_ := Aside0.mk (Kd.S_below (by (with_reducible repeat (first | apply Kd.S_alloc | apply Kd.S_drewN | apply Kd.S_drew)); exact HO_1002.out) hb); have n1_ := Aside0.mk (Kd.S_below (Kd.S_elderB (by (with_reducible repeat (first | apply Kd.S_alloc | apply Kd.S_drewN | apply Kd.S_drew)); exact HO_1004.out) gb1018 (Nat.le_of_eq hg.symm)) hb); have n2_ := Aside0.mk (blk_below (g := gb1006) (o := .cells #[.slice A0_0 l0_0.length c0_0, .slice (some ad1017) l0_1.length c0_1] 25 (0, 0)) (by (with_reducible repeat (first | refine blk_drewN ?_ _ | refine blk_drew ?_ | refine blk_alloc ?_ _)); exact BK1006.out) hb); have n3_ := Aside0.mk (blk_below (g := gb1007) (o := .cells #[u108000, u108001] 25 (0, 0)) (by (with_reducible repeat (first | refine blk_drewN ?_ _ | refine blk_drew ?_ | refine blk_alloc ?_ _)); exact BK1007.out) hb); have n4_ := Aside0.mk (below_step (by repeat (first | (with_reducible first | exact HB.out | apply below_alloc | apply pbdN | apply bdr1 | refine below_set ?_ GE1006.out | refine below_set ?_ GE1007.out) | exact HB.out)) hb); have n5_ := Aside0.mk (hbox); have n6_ := Aside0.mk ((by rw [hg]; exact (below_size (by repeat (first | (with_reducible first | exact HB.out | apply below_alloc | apply pbdN | apply bdr1 | refine below_set ?_ GE1006.out | refine below_set ?_ GE1007.out) | exact HB.out))) : w.heap.size ≤ gb1018)); have n7_ := Aside0.mk ((by rw [hg]; exact (below_size (by repeat (first | (with_reducible first | exact HB.out | apply below_alloc | apply pbdN | apply bdr1 | refine below_set ?_ GE1006.out | refine below_set ?_ GE1007.out) | exact HB.out))) : w.heap.size ≤ gb1018)); have n8_ := Aside0.mk ((by rw [hg]; exact Nat.ne_of_lt (blk_lt (g := gb1006) (o := .cells #[.slice A0_0 l0_0.length c0_0, .slice (some ad1017) l0_1.length c0_1] 25 (0, 0)) (by (with_reducible repeat (first | refine blk_drewN ?_ _ | refine blk_drew ?_ | refine blk_alloc ?_ _)); exact BK1006.out)) : gb1006 ≠ gb1018)); have n9_ := Aside0.mk ((by rw [hg]; exact Nat.ne_of_gt (blk_lt (g := gb1006) (o := .cells #[.slice A0_0 l0_0.length c0_0, .slice (some ad1017) l0_1.length c0_1] 25 (0, 0)) (by (with_reducible repeat (first | refine blk_drewN ?_ _ | refine blk_drew ?_ | refine blk_alloc ?_ _)); exact BK1006.out)) : gb1018 ≠ gb1006)); have n10_ := Aside0.mk ((by rw [hg]; exact Nat.ne_of_lt (blk_lt (g := gb1007) (o := .cells #[u108000, u108001] 25 (0, 0)) (by (with_reducible repeat (first | refine blk_drewN ?_ _ | refine blk_drew ?_ | refine blk_alloc ?_ _)); exact BK1007.out)) : gb1007 ≠ gb1018)); have n11_ := Aside0.mk ((by rw [hg]; exact Nat.ne_of_gt (blk_lt (g := gb1007) (o := .cells #[u108000, u108001] 25 (0, 0)) (by (with_reducible repeat (first | refine blk_drewN ?_ _ | refine blk_drew ?_ | refine blk_alloc ?_ _)); exact BK1007.out)) : gb1018 ≠ gb1007)); clear HO_1002; clear HO_1004; clear BK1006; clear BK1007; clear HB; have HO_1002 := n0_; have HO_1004 := n1_; have BK1006 := n2_; have BK1007 := n3_; have HB := n4_; have BK1018 := n5_; have GW1018 := n6_; have GE1018 := n7_; have NB1006_117 := n8_; have NB1018_106 := n9_; have NB1007_117 := n10_; have NB1018_107 := n11_; clear n0_ n1_ n2_ n3_ n4_ n5_ n6_ n7_ n8_ n9_ n10_ n11_; clear hb hbox hg; have hnb33 := NB1018_106.out; have hnc33 := NB1006_117.out; have hnb34 := NB1018_107.out; have hnc34 := NB1007_117.out; have hcz35_0 : w32.cell? ⟨gb1018, 0, none⟩ = some (.int .i64 0) := (blk_cell BK1018.out 0).trans rfl; have hcz35_1 : w32.cell? ⟨gb1018, 1, none⟩ = some (.slice none 0 0) := (blk_cell BK1018.out 1).trans rfl; have hfz35_0 := blk_frozen BK1018.out 0; have hfz35_1 := blk_frozen BK1018.out 1) | ((with_reducible refine gate_callee (f := 59) rfl ?_); refine goesL_ (some 34) rfl rfl Try.func59 (by kernel_rfl) rfl #[.slice A1017_1 ((rd_T49 l0_1 x28_2).f1).length c1017_1] rfl (by (try simp only [List.map_toArray, List.map_cons, List.map_nil]); first | done | rfl | (simp only [List.length_drop, List.length_take]; rfl)) ?_; (with_reducible refine (hClone.calls _ _ ((rd_T49 l0_1 x28_2).f1) t1005 _ ?side1 ?side2 A30.out).mono ?_); (case side1 => exact Kd.C_below HR1017_1.out (by repeat (first | (with_reducible first | exact HB.out | apply below_alloc | apply pbdN | apply bdr1 | refine below_set ?_ GE1006.out | refine below_set ?_ GE1007.out | refine below_set ?_ GE1018.out) | exact HB.out))); (case side2 => exact HC1017_1.out); rintro e w36 ⟨v1019, rfl, ho0, hb⟩; refine ⟨_, rfl, ?_⟩; have n0_ := Aside0.mk (Kd.S_elder' (by (with_reducible repeat (first | apply Kd.S_alloc | apply Kd.S_drewN | apply Kd.S_drew)); exact (Kd.S_mono (Kd.S_far (p := ⟨gb1018, 1, none⟩) (Kd.S_far (p := ⟨gb1018, 0, none⟩) (Kd.S_types HO_1002.out BK1018.out (by decide)) (fun _ hk => hk.2) (.int .i64 ((rd_T49 l0_1 x28_2).f0))) (fun _ hk => hk.2) (.slice A1017_1 ((rd_T49 l0_1 x28_2).f1).length c1017_1)) (fun _ h_ => h_.1))) (Kd.R_base ho0) hb); have n1_ := Aside0.mk (Kd.S_elder' (by (with_reducible repeat (first | apply Kd.S_alloc | apply Kd.S_drewN | apply Kd.S_drew)); exact (Kd.S_mono (Kd.S_far (p := ⟨gb1018, 1, none⟩) (Kd.S_far (p := ⟨gb1018, 0, none⟩) (Kd.S_mono HO_1004.out (fun k_ hk => (⟨hk, hk.2⟩ : _ ∧ k_ ≠ gb1018))) (fun _ hk => hk.2) (.int .i64 ((rd_T49 l0_1 x28_2).f0))) (fun _ hk => hk.2) (.slice A1017_1 ((rd_T49 l0_1 x28_2).f1).length c1017_1)) (fun _ h_ => h_.1))) (Kd.R_base ho0) hb); have n2_ := Aside0.mk (Kd.R_lower ho0 (below_size (by repeat (first | (with_reducible first | exact HB.out | apply below_alloc | apply pbdN | apply bdr1 | refine below_set ?_ GE1006.out | refine below_set ?_ GE1007.out | refine below_set ?_ GE1018.out) | exact HB.out)))); have n3_ := Aside0.mk (blk_below (g := gb1006) (o := .cells #[.slice A0_0 l0_0.length c0_0, .slice (some ad1017) l0_1.length c0_1] 25 (0, 0)) (by (with_reducible repeat (first | refine blk_drewN ?_ _ | refine blk_drew ?_ | refine blk_alloc ?_ _)); refine blk_far ?_ NB1006_117.out _; (with_reducible repeat (first | refine blk_drewN ?_ _ | refine blk_drew ?_ | refine blk_alloc ?_ _)); refine blk_far ?_ NB1006_117.out _; (with_reducible repeat (first | refine blk_drewN ?_ _ | refine blk_drew ?_ | refine blk_alloc ?_ _)); exact BK1006.out) hb); have n4_ := Aside0.mk (blk_below (g := gb1007) (o := .cells #[u108000, u108001] 25 (0, 0)) (by (with_reducible repeat (first | refine blk_drewN ?_ _ | refine blk_drew ?_ | refine blk_alloc ?_ _)); refine blk_far ?_ NB1007_117.out _; (with_reducible repeat (first | refine blk_drewN ?_ _ | refine blk_drew ?_ | refine blk_alloc ?_ _)); refine blk_far ?_ NB1007_117.out _; (with_reducible repeat (first | refine blk_drewN ?_ _ | refine blk_drew ?_ | refine blk_alloc ?_ _)); exact BK1007.out) hb); have n5_ := Aside0.mk (blk_below (g := gb1018) (o := .cells #[.int .i64 ((rd_T49 l0_1 x28_2).f0), .slice A1017_1 ((rd_T49 l0_1 x28_2).f1).length c1017_1] 49 (0, 0)) (by (with_reducible repeat (first | refine blk_drewN ?_ _ | refine blk_drew ?_ | refine blk_alloc ?_ _)); refine blk_put (cs := #[.int .i64 ((rd_T49 l0_1 x28_2).f0), .slice none 0 0]) ?_ 1 _ rfl; (with_reducible repeat (first | refine blk_drewN ?_ _ | refine blk_drew ?_ | refine blk_alloc ?_ _)); refine blk_put (cs := #[.int .i64 0, .slice none 0 0]) ?_ 0 _ rfl; (with_reducible repeat (first | refine blk_drewN ?_ _ | refine blk_drew ?_ | refine blk_alloc ?_ _)); exact BK1018.out) hb); have n6_ := Aside0.mk (below_step (by repeat (first | (with_reducible first | exact HB.out | apply below_alloc | apply pbdN | apply bdr1 | refine below_set ?_ GE1006.out | refine below_set ?_ GE1007.out | refine below_set ?_ GE1018.out) | exact HB.out)) hb); clear HO_1002; clear HO_1004; clear BK1006; clear BK1007; clear BK1018; clear HB; have HO_1002 := n0_; have HO_1004 := n1_; have HO1020 := n2_; have BK1006 := n3_; have BK1007 := n4_; have BK1018 := n5_; have HB := n6_; clear n0_ n1_ n2_ n3_ n4_ n5_ n6_; (try clear hb); (try clear hb2); (try clear hk); (try clear hi); (try clear ho0); obtain ⟨Ao37, co37, eo37⟩ := Kd.R_slice HO1020.out; subst eo37; have hcz38_0 : w36.cell? ⟨gb1018, 0, none⟩ = some (.int .i64 ((rd_T49 l0_1 x28_2).f0)) := (blk_cell BK1018.out 0).trans rfl; have hcz38_1 : w36.cell? ⟨gb1018, 1, none⟩ = some (.slice A1017_1 ((rd_T49 l0_1 x28_2).f1).length c1017_1) := (blk_cell BK1018.out 1).trans rfl; have hfz38_0 := blk_frozen BK1018.out 0; have hfz38_1 := blk_frozen BK1018.out 1) | ((with_reducible refine gate_store (t := 31) (p := 35) rfl ?_); refine store_event (t := 31) (p := 35) (v := ?vo_w39) (w1 := (w36.setCell ⟨gb1018, 1, none⟩ (.slice Ao37 t1005.length co37))) ?hg ?ho ?hn ?hr ?_; (case ho => rfl); (case hg => rfl); (case hn => rfl); (case hr => first | (go_simp; done) | (go_simp; rfl)); intro w39 hw; have n0_ : Aside0 (Kd.S k39 39 w39 w.heap.size (fun k_ => some k_ ≠ (.slice Ao37 t1005.length co37 : Value).ownBlock) u108000 x1002_1) := ⟨(by rw [hw]; exact (by (with_reducible repeat (first | apply Kd.S_alloc | apply Kd.S_drewN | apply Kd.S_drew)); exact Kd.S_mono (Kd.S_far (p := ⟨gb1018, 1, none⟩) (Kd.S_types HO_1002.out BK1018.out (by decide)) (fun _ hk => hk.2) (.slice Ao37 t1005.length co37)) (fun _ hk => hk.1.2)))⟩; have n1_ : Aside0 (Kd.S k49 49 w39 w.heap.size (fun k_ => some k_ ≠ (.slice Ao37 t1005.length co37 : Value).ownBlock ∧ k_ ≠ gb1018) u108001 x1004_2) := ⟨(by rw [hw]; exact (by (with_reducible repeat (first | apply Kd.S_alloc | apply Kd.S_drewN | apply Kd.S_drew)); exact Kd.S_mono (Kd.S_far (p := ⟨gb1018, 1, none⟩) (Kd.S_mono HO_1004.out (fun k_ hk => (⟨hk, hk.1.2⟩ : _ ∧ k_ ≠ gb1018))) (fun _ hk => hk.2) (.slice Ao37 t1005.length co37)) (fun _ hk => ⟨hk.1.2, hk.1.1.2⟩)))⟩; have n2_ : Aside0 (Kd.R (Kd.int .u8) 5 w39 w.heap.size (fun _ => True) (.slice Ao37 t1005.length co37) t1005) := ⟨(by rw [hw]; exact (by (with_reducible repeat (first | apply Kd.R_alloc | apply Kd.R_drewN | apply Kd.R_drew)); exact Kd.R_mono (Kd.R_far (p := ⟨gb1018, 1, none⟩) (Kd.R_types HO1020.out BK1018.out (by decide)) (fun _ hk => hk.2) (.slice Ao37 t1005.length co37)) (fun _ hk => trivial)))⟩; have n3_ : Aside0 (w39.heap[gb1006]? = some (.cells #[.slice A0_0 l0_0.length c0_0, .slice (some ad1017) l0_1.length c0_1] 25 (0, 0))) := ⟨(by rw [hw]; exact (by (with_reducible repeat (first | refine blk_drewN ?_ _ | refine blk_drew ?_ | refine blk_alloc ?_ _)); refine blk_far ?_ NB1006_117.out _; (with_reducible repeat (first | refine blk_drewN ?_ _ | refine blk_drew ?_ | refine blk_alloc ?_ _)); exact BK1006.out))⟩; have n4_ : Aside0 (w39.heap[gb1007]? = some (.cells #[u108000, u108001] 25 (0, 0))) := ⟨(by rw [hw]; exact (by (with_reducible repeat (first | refine blk_drewN ?_ _ | refine blk_drew ?_ | refine blk_alloc ?_ _)); refine blk_far ?_ NB1007_117.out _; (with_reducible repeat (first | refine blk_drewN ?_ _ | refine blk_drew ?_ | refine blk_alloc ?_ _)); exact BK1007.out))⟩; have n5_ : Aside0 (w39.heap[gb1018]? = some (.cells #[.int .i64 ((rd_T49 l0_1 x28_2).f0), .slice Ao37 t1005.length co37] 49 (0, 0))) := ⟨(by rw [hw]; exact (by (with_reducible repeat (first | refine blk_drewN ?_ _ | refine blk_drew ?_ | refine blk_alloc ?_ _)); refine blk_put (cs := #[.int .i64 ((rd_T49 l0_1 x28_2).f0), .slice A1017_1 ((rd_T49 l0_1 x28_2).f1).length c1017_1]) ?_ 1 _ rfl; (with_reducible repeat (first | refine blk_drewN ?_ _ | refine blk_drew ?_ | refine blk_alloc ?_ _)); exact BK1018.out))⟩; have n6_ : Aside0 (Below w.heap.size w w39) := ⟨(by rw [hw]; exact (by repeat (first | (with_reducible first | exact HB.out | apply below_alloc | apply pbdN | apply bdr1 | refine below_set ?_ GE1006.out | refine below_set ?_ GE1007.out | refine below_set ?_ GE1018.out) | exact HB.out)))⟩; clear hw; clear HO_1002; clear HO_1004; clear HO1020; clear BK1006; clear BK1007; clear BK1018; clear HB; have HO_1002 := n0_; have HO_1004 := n1_; have HO1020 := n2_; have BK1006 := n3_; have BK1007 := n4_; have BK1018 := n5_; have HB := n6_; clear n0_ n1_ n2_ n3_ n4_ n5_ n6_; have hnb40 := NB1007_106.out; have hnc40 := NB1006_107.out; have hcz41_0 : w39.cell? ⟨gb1007, 0, none⟩ = some (u108000) := (blk_cell BK1007.out 0).trans rfl; have hcz41_1 : w39.cell? ⟨gb1007, 1, none⟩ = some (u108001) := (blk_cell BK1007.out 1).trans rfl; have hfz41_0 := blk_frozen BK1007.out 0; have hfz41_1 := blk_frozen BK1007.out 1; have hcz42_0 : w39.cell? ⟨gb1018, 0, none⟩ = some (.int .i64 ((rd_T49 l0_1 x28_2).f0)) := (blk_cell BK1018.out 0).trans rfl; have hcz42_1 : w39.cell? ⟨gb1018, 1, none⟩ = some (.slice Ao37 t1005.length co37) := (blk_cell BK1018.out 1).trans rfl; have hfz42_0 := blk_frozen BK1018.out 0; have hfz42_1 := blk_frozen BK1018.out 1) | ((with_reducible refine gate_builtin (b := .append) (xs := #[.tmp 37, .tmp 39]) rfl ?_); at_builtin; refine Kd.S_append k49 (w0 := w) w.heap.size rfl (.tmp 37) (.tmp 39) 23 49 (.agg #[(.int .i64 0), (.slice none 0 0)]) 32 rfl Try.underlying23 info49 rfl (by decide) (by omega) u108001 x1004_2 (⟨(rd_T49 l0_1 x28_2).f0, t1005⟩ : S49) [.int .i64 ((rd_T49 l0_1 x28_2).f0), .slice Ao37 t1005.length co37] (fun k_ => k_ ≠ gb1018) (fun k_ => some k_ = (.slice Ao37 t1005.length co37 : Value).ownBlock) rfl rfl ?aP (fun k_ hk_ => ((Kd.R_mono (ok' := fun k_ => ((fun k_ => k_ ≠ gb1018)) k_ ∧ some k_ ≠ (u108001 : Value).ownBlock) (Kd.R_types (Kd.R_apart' (HO1020.out) (Kd.S_typed HO_1004.out) (by decide)) BK1018.out (by decide)) (fun k_ hk => ⟨hk.2, hk.1.2⟩))).1 k_ hk_.symm) ?aF ?aO ?aB ?aS ?aL ?_; (case aP => exact k49_mkM _ _ _ (⟨(rd_T49 l0_1 x28_2).f0, t1005⟩ : S49) (Kd.R_mono (Kd.R_tight rfl (Kd.R_mono (ok' := fun k_ => ((fun k_ => k_ ≠ gb1018)) k_ ∧ some k_ ≠ (u108001 : Value).ownBlock) (Kd.R_types (Kd.R_apart' (HO1020.out) (Kd.S_typed HO_1004.out) (by decide)) BK1018.out (by decide)) (fun k_ hk => ⟨hk.2, hk.1.2⟩))) (fun _ h_ => h_))); (case aB => exact (by repeat (first | (with_reducible first | exact HB.out | apply below_alloc | apply pbdN | apply bdr1 | refine below_set ?_ GE1006.out | refine below_set ?_ GE1007.out | refine below_set ?_ GE1018.out) | exact HB.out))); (case aF => exact (fun k_ hk => Kd.freshB (g := gb1018) (o := .cells #[.int .i64 ((rd_T49 l0_1 x28_2).f0), .slice Ao37 t1005.length co37] 49 (0, 0)) (by (with_reducible repeat (first | refine blk_drewN ?_ _ | refine blk_drew ?_ | refine blk_alloc ?_ _)); exact BK1018.out) k_ hk)); (case aO => exact (by (with_reducible repeat (first | apply Kd.S_alloc | apply Kd.S_drewN | apply Kd.S_drew)); exact Kd.S_mono HO_1004.out (fun k_ hk => ⟨hk.2, fun e_ => hk.1 e_⟩))); (case aS => exact (below_size (by repeat (first | (with_reducible first | exact HB.out | apply below_alloc | apply pbdN | apply bdr1 | refine below_set ?_ GE1006.out | refine below_set ?_ GE1007.out | refine below_set ?_ GE1018.out) | exact HB.out)))); (case aL => have := LMc31.out; omega); intro v1021 w43 ho hb hg hat; (first | (simp only [Int.reduceToNat] at ho; rw [← Ny1016.out] at ho) | rw [← Ny1016.out] at ho); have n0_ := Aside0.mk (Kd.S_over' (by (with_reducible repeat (first | apply Kd.S_alloc | apply Kd.S_drewN | apply Kd.S_drew)); exact HO_1002.out) (Kd.S_typed (by (with_reducible repeat (first | apply Kd.S_alloc | apply Kd.S_drewN | apply Kd.S_drew)); exact HO_1004.out)) (by decide) hg); have n1_ := Aside0.mk (blk_grown (g := gb1006) (o := .cells #[.slice A0_0 l0_0.length c0_0, .slice (some ad1017) l0_1.length c0_1] 25 (0, 0)) (by (with_reducible repeat (first | refine blk_drewN ?_ _ | refine blk_drew ?_ | refine blk_alloc ?_ _)); exact BK1006.out) hg (Kd.S_ne HO_1004.out BK1006.out (by decide))); have n2_ := Aside0.mk (blk_grown (g := gb1007) (o := .cells #[u108000, u108001] 25 (0, 0)) (by (with_reducible repeat (first | refine blk_drewN ?_ _ | refine blk_drew ?_ | refine blk_alloc ?_ _)); exact BK1007.out) hg (Kd.S_ne HO_1004.out BK1007.out (by decide))); have n3_ := Aside0.mk (blk_grown (g := gb1018) (o := .cells #[.int .i64 ((rd_T49 l0_1 x28_2).f0), .slice Ao37 t1005.length co37] 49 (0, 0)) (by (with_reducible repeat (first | refine blk_drewN ?_ _ | refine blk_drew ?_ | refine blk_alloc ?_ _)); exact BK1018.out) hg (Kd.S_away HO_1004.out (fun _ hk => hk.2))); have n4_ := Aside0.mk (hb); have n5_ := Aside0.mk (ho); clear HO_1002; clear BK1006; clear BK1007; clear BK1018; clear HB; clear HO_1004; clear HO1020; have HO_1002 := n0_; have BK1006 := n1_; have BK1007 := n2_; have BK1018 := n3_; have HB := n4_; have HO1022 := n5_; clear n0_ n1_ n2_ n3_ n4_ n5_; clear ho hb hg hat; obtain ⟨Ao44, co44, eo44⟩ := Kd.S_slice HO1022.out; subst eo44; have hcz45_0 : w43.cell? ⟨gb1007, 0, none⟩ = some (u108000) := (blk_cell BK1007.out 0).trans rfl; have hcz45_1 : w43.cell? ⟨gb1007, 1, none⟩ = some (u108001) := (blk_cell BK1007.out 1).trans rfl; have hfz45_0 := blk_frozen BK1007.out 0; have hfz45_1 := blk_frozen BK1007.out 1))
                    go_roundg k2
                    case measure => have := HK1.out; have := HK2.out; omega
                    case rel => exact ⟨(wrap64 (x28_2 + 1)), (y1016), (.slice Ao44 y1016.length co44), (by first | rfl | (simp; done) | (simp [*]; done)), H', ⟨by have := HK1.out; have := HK2.out; omega⟩, ⟨by (with_reducible repeat (first | apply Kd.S_alloc | apply Kd.S_drewN | apply Kd.S_drew)); exact Kd.S_mono (Kd.S_far (p := ⟨gb1007, 1, none⟩) (Kd.S_types HO_1002.out BK1007.out (by decide)) (fun _ hk => hk.2) (.slice Ao44 y1016.length co44)) (fun _ hk => trivial)⟩, ⟨by (with_reducible repeat (first | apply Kd.S_alloc | apply Kd.S_drewN | apply Kd.S_drew)); exact Kd.S_mono (Kd.S_far (p := ⟨gb1007, 1, none⟩) (Kd.S_types HO1022.out BK1007.out (by decide)) (fun _ hk => hk.2) (.slice Ao44 y1016.length co44)) (fun _ hk => trivial)⟩, ⟨by (with_reducible repeat (first | refine blk_drewN ?_ _ | refine blk_drew ?_ | refine blk_alloc ?_ _)); refine blk_far ?_ NB1006_107.out _; (with_reducible repeat (first | refine blk_drewN ?_ _ | refine blk_drew ?_ | refine blk_alloc ?_ _)); exact BK1006.out⟩, ⟨by (with_reducible repeat (first | refine blk_drewN ?_ _ | refine blk_drew ?_ | refine blk_alloc ?_ _)); refine blk_put (cs := #[u108000, u108001]) ?_ 1 _ rfl; (with_reducible repeat (first | refine blk_drewN ?_ _ | refine blk_drew ?_ | refine blk_alloc ?_ _)); exact BK1007.out⟩, ⟨by repeat (first | (with_reducible first | exact HB.out | apply below_alloc | apply pbdN | apply bdr1 | refine below_set ?_ GE1006.out | refine below_set ?_ GE1007.out | refine below_set ?_ GE1018.out) | exact HB.out)⟩⟩
                  · rw [if_neg c31] at H
                    exact absurd H (by simp)
                · rw [if_neg c29] at H
                  exact absurd H (by simp)
              · rw [if_neg c28] at H
                exact absurd H (by simp)
            · rw [if_neg c27] at H
              have c27b0 : decide (x28_2 < (l0_1.length : Int)) = false := decide_eq_false c27
              clear c27
              simp only [Option.some.injEq, Prod.mk.injEq] at H
              obtain ⟨rfl, rfl⟩ := H
              have hnb46 := NB1007_106.out
              have hnc46 := NB1006_107.out
              have hcz47_0 : wr.cell? ⟨gb1007, 0, none⟩ = some (u108000) := (blk_cell BK1007.out 0).trans rfl
              have hcz47_1 : wr.cell? ⟨gb1007, 1, none⟩ = some (u108001) := (blk_cell BK1007.out 1).trans rfl
              have hfz47_0 := blk_frozen BK1007.out 0
              have hfz47_1 := blk_frozen BK1007.out 1
              obtain ⟨Ao48, co48, eo48⟩ := Kd.S_slice HO_1002.out
              subst eo48
              obtain ⟨Ao49, co49, eo49⟩ := Kd.S_slice HO_1004.out
              subst eo49
              go_wp2
              refine bodyPost_ret (results_cell_row rfl _ _ gb1007 25 #[.slice Ao48 x1002_1.length co48, .slice Ao49 x1004_2.length co49] (0, 0) _ rfl (by (with_reducible repeat (first | refine blk_drewN ?_ _ | refine blk_drew ?_ | refine blk_alloc ?_ _)); refine blk_put (cs := #[.slice Ao48 x1002_1.length co48, .slice Ao49 x1004_2.length co49]) ?_ 1 _ rfl; (with_reducible repeat (first | refine blk_drewN ?_ _ | refine blk_drew ?_ | refine blk_alloc ?_ _)); refine blk_put (cs := #[.slice Ao48 x1002_1.length co48, .slice Ao49 x1004_2.length co49]) ?_ 0 _ rfl; (with_reducible repeat (first | refine blk_drewN ?_ _ | refine blk_drew ?_ | refine blk_alloc ?_ _)); exact BK1007.out) Try.underlying25 rfl (by kernel_rfl)) rfl ?_
              exact ⟨_, _, by first | rfl | (simp [errW_none, errW_some] <;> rfl) | (simp [*, errW_none, errW_some] <;> rfl), by (with_reducible repeat (first | apply Kd.S_alloc | apply Kd.S_drewN | apply Kd.S_drew)); exact Kd.S_mono (Kd.S_far (p := ⟨gb1007, 1, none⟩) (Kd.S_far (p := ⟨gb1007, 0, none⟩) (Kd.S_types HO_1002.out BK1007.out (by decide)) (fun _ hk => hk.2) (.slice Ao48 x1002_1.length co48)) (fun _ hk => hk.2) (.slice Ao49 x1004_2.length co49)) (fun _ hk => trivial), by (with_reducible repeat (first | apply Kd.S_alloc | apply Kd.S_drewN | apply Kd.S_drew)); exact Kd.S_mono (Kd.S_far (p := ⟨gb1007, 1, none⟩) (Kd.S_far (p := ⟨gb1007, 0, none⟩) (Kd.S_types HO_1004.out BK1007.out (by decide)) (fun _ hk => hk.2) (.slice Ao48 x1002_1.length co48)) (fun _ hk => hk.2) (.slice Ao49 x1004_2.length co49)) (fun _ hk => trivial), by repeat (first | (with_reducible first | exact HB.out | apply below_alloc | apply pbdN | apply bdr1 | refine below_set ?_ GE1006.out | refine below_set ?_ GE1007.out) | exact HB.out)⟩
end Go.Proofs.Ytdkjhcdniepbhaa.P
end
section
set_option linter.unusedVariables false
set_option linter.unusedSimpArgs false
namespace Go.Proofs.Ytdkjhcdniepbhaa.P
open Go.RowKit Go.Proofs.PrintWords Go.Proofs.PrintLast Go.Proofs.PrintMore
attribute [local go_sem] max2_int min2_int max_two min_two max_three min_three max_four min_four
theorem ByteVal.of_R' {w : World} {base : Nat} {ok : Nat → Prop} {A : Option Addr} {n c : Nat} {xs : List Int} (h : (Kd.int .u8).R 5 w base ok (.slice A n c) xs) : n = xs.length ∧ xs.length ≤ c ∧ ByteVal w base A xs := by
  obtain ⟨A1, c1, e, hc, hv⟩ := ByteVal.of_R h
  injection e with e1 e2 e3
  subst e1 e2 e3
  exact ⟨rfl, hc, hv⟩
def SecMid (w : World) (lo g c k : Nat) (l : List S39) : Prop :=
  l.length ≤ c ∧ c ≤ maxLen ∧ lo ≤ g ∧ ∃ (cs : Array Value) (t : Nat → Nat), w.heap[g]? = some (.cells cs 39 (0, 0)) ∧ cs.size = c * 2 ∧ ∀ i s, l[i]? = some s → ∃ A' c', cs[i * 2]? = some (.slice A' s.f0.length c') ∧ cs[i * 2 + 1]? = some (.bool s.f1) ∧ s.f0.length ≤ c' ∧ ByteVal w lo A' s.f0 ∧ (i < k → (Kd.int .u8).R 5 w lo (fun j => t j = i) (.slice A' s.f0.length c') s.f0)
section
variable {w w' : World} {lo g c k : Nat} {l : List S39}
theorem SecMid.of_S {base : Nat} {ok : Nat → Prop} {v : Value} {xs : List S39} (h : Kd.S k39 39 w base ok v xs) (hn : 0 < xs.length) : ∃ g c, v = .slice (some ⟨g, 0, none⟩) xs.length c ∧ SecMid w base g c 0 xs := by
  obtain ⟨_, inner, ho, hr⟩ := Kd.S_R h
  rcases ho.2 with ⟨e, hi⟩ | ⟨g, cap, cur, he, hb, hh, h1, h2, h3, h4⟩
  · omega
  · refine ⟨g, cap, he, h1, h2, hb, cur, id, hh, h3, fun i s hs => ?_⟩
    obtain ⟨hi, rfl⟩ := List.getElem?_eq_some_iff.1 hs
    obtain ⟨u, v, hM, c0, c1⟩ := rows_at (show Reps (k39.M w base _) 2 xs inner from hr) h4.symm hi
    obtain ⟨v0, e, hR⟩ := k39_openM hM
    injection e with e1 e
    injection e with e2 _
    subst e1 e2
    obtain ⟨A', c', rfl, hc', hb'⟩ := ByteVal.of_R hR
    exact ⟨A', c', c0, c1, hc', hb', fun hi => absurd hi (Nat.not_lt_zero _)⟩
theorem SecMid.at (h : SecMid w lo g c k l) : ∃ cs, w.heap[g]? = some (.cells cs 39 (0, 0)) := by
  obtain ⟨_, _, _, cs, _, hb, _⟩ := h
  exact ⟨cs, hb⟩
theorem SecMid.C (h : SecMid w lo g c k l) : k39.C w (some ⟨g, 0, none⟩) l.length l := by
  obtain ⟨h1, h2, h3, cs, t, hb, hz, hc⟩ := h
  refine ⟨rfl, Nat.le_trans h1 (Nat.le_trans h2 (by decide)), fun hn => ?_⟩
  refine ⟨_, rfl, fun j s hj => ?_⟩
  obtain ⟨A', c, c0, c1, hl, hv, _⟩ := hc j s hj
  refine ⟨[.slice A' s.f0.length c, .bool s.f1], rfl, k39_mk w s hl hv.C, fun i u hu => ?_⟩
  rw [add_plain, blk_cell hb]
  match i, hu with
  | 0, hu => rw [show j * k39.sz + 0 = j * 2 from rfl, c0]; simpa using hu
  | 1, hu => rw [show j * k39.sz + 1 = j * 2 + 1 from rfl, c1]; simpa using hu
  | i + 2, hu => simp at hu
theorem SecMid.below (h : SecMid w lo g c k l) (hb : Below w.heap.size w w') : SecMid w' lo g c k l := by
  obtain ⟨h1, h2, h3, cs, t, hh, hz, hc⟩ := h
  refine ⟨h1, h2, h3, cs, t, blk_below hh hb, hz, fun i s hs => ?_⟩
  obtain ⟨A', c', c0, c1, hl, hv, ht⟩ := hc i s hs
  exact ⟨A', c', c0, c1, hl, hv.below hb, fun hi => Kd.R_below (ht hi) hb⟩
theorem SecMid.far (h : SecMid w lo g c k l) {p : Addr} {t : Nat} {cs : Array Value} (hb : w.heap[p.block]? = some (.cells cs t (0, 0))) (h5 : t ≠ 5) (h52 : t ≠ 39) (u : Value) : SecMid (w.setCell p u) lo g c k l := by
  obtain ⟨h1, h2, h3, cs', t', hh, hz, hc⟩ := h
  refine ⟨h1, h2, h3, cs', t', blk_far hh (fun e => by subst e; rw [hb] at hh; injection hh with hh; injection hh with _ hh _; exact h52 hh) _, hz, fun i s hs => ?_⟩
  obtain ⟨A', c', c0, c1, hl, hv, ht⟩ := hc i s hs
  refine ⟨A', c', c0, c1, hl, hv.far hb h5 u, fun hi => ?_⟩
  exact Kd.R_mono (Kd.R_far (Kd.R_types (ht hi) hb (fun q hq => by
    have : q = 5 := by simpa [Kd.int, Kd.scalar] using hq
    omega)) (fun _ hk => hk.2) u) (fun _ hk => hk.1)
theorem SecMid.put {i : Nat} (h : SecMid w lo g c 0 l) (hi : i < l.length) {s : S39} {A' : Option Addr} {c' : Nat} (hc : s.f0.length ≤ c') (hv : ByteVal w lo A' s.f0) :
    SecMid ((w.setCell ⟨g, i * 2, none⟩ (.slice A' s.f0.length c')).setCell ⟨g, i * 2 + 1, none⟩ (.bool s.f1)) lo g c 0 (l.set i s) := by
  obtain ⟨h1, h2, h3, cs, t, b, hz, d⟩ := h
  refine ⟨by rw [List.length_set]; exact h1, h2, h3, ?_⟩
  have b1 := blk_set b (i * 2) (.slice A' s.f0.length c')
  have b2 := blk_set b1 (i * 2 + 1) (.bool s.f1)
  have keep : ∀ {A'' : Option Addr} {x : List Int}, ByteVal w lo A'' x → ByteVal ((w.setCell ⟨g, i * 2, none⟩ (.slice A' s.f0.length c')).setCell ⟨g, i * 2 + 1, none⟩ (.bool s.f1)) lo A'' x := fun hx => (hx.far (p := ⟨g, i * 2, none⟩) b (by decide) _).far (p := ⟨g, i * 2 + 1, none⟩) b1 (by decide) _
  refine ⟨_, t, b2, by simpa using hz, fun j x hx => ?_⟩
  obtain ⟨_, c1', d0, d1, _, _⟩ := d i _ (List.getElem?_eq_getElem hi)
  have z0 := (Array.getElem?_eq_some_iff.1 d0).1
  have z1 := (Array.getElem?_eq_some_iff.1 d1).1
  by_cases hij : j = i
  · subst hij
    rw [List.getElem?_set_self hi] at hx
    injection hx with hx
    subst hx
    refine ⟨A', c', ?_, ?_, hc, keep hv, fun hi => absurd hi (Nat.not_lt_zero _)⟩
    · rw [Array.getElem?_setIfInBounds, if_neg (by omega), Array.getElem?_setIfInBounds, if_pos rfl, if_pos z0]
    · rw [Array.getElem?_setIfInBounds, if_pos rfl, if_pos (by simpa using z1)]
  · rw [List.getElem?_set_ne (fun e => hij e.symm)] at hx
    obtain ⟨A'', c'', e0, e1, hl, hvv, _⟩ := d j x hx
    refine ⟨A'', c'', ?_, ?_, hl, keep hvv, fun hi => absurd hi (Nat.not_lt_zero _)⟩
    · rw [Array.getElem?_setIfInBounds, if_neg (by omega), Array.getElem?_setIfInBounds, if_neg (by omega), e0]
    · rw [Array.getElem?_setIfInBounds, if_neg (by omega), Array.getElem?_setIfInBounds, if_neg (by omega), e1]
theorem SecMid.step {W0 : World} {s : S39} {A' : Option Addr} {c' : Nat} {ok : Nat → Prop} (h : SecMid W0 lo g c k l) (hlo : lo ≤ W0.heap.size) (hb : Below W0.heap.size W0 w) (hs : l[k]? = some s) (hr : (Kd.int .u8).R 5 w W0.heap.size ok (.slice A' s.f0.length c') s.f0) :
    SecMid (w.setCell ⟨g, k * 2, none⟩ (.slice A' s.f0.length c')) lo g c (k + 1) l := by
  obtain ⟨h1, h2, h3, cs, t, b0, hz, d⟩ := h
  have b := blk_below b0 hb
  refine ⟨h1, h2, h3, _, (fun j => if j < W0.heap.size then t j else k), blk_set b _ _, by simpa using hz, fun i x hx => ?_⟩
  have h5 : ∀ q, q ∈ 5 :: (Kd.int .u8).E → q ≠ 39 := fun q hq => by
    have : q = 5 := by simpa [Kd.int, Kd.scalar] using hq
    omega
  obtain ⟨A0, c0', d0, d1, hl, hv, ht⟩ := d i x hx
  by_cases hik : i = k
  · subst hik
    rw [hs] at hx
    injection hx with hx
    subst hx
    obtain ⟨_, hl', hv'⟩ := ByteVal.of_R' hr
    have z0 := (Array.getElem?_eq_some_iff.1 d0).1
    refine ⟨A', c', ?_, ?_, hl', (hv'.lower hlo).far (p := ⟨g, i * 2, none⟩) b (by decide) _, fun _ => ?_⟩
    · rw [Array.getElem?_setIfInBounds, if_pos rfl, if_pos z0]
    · rw [Array.getElem?_setIfInBounds, if_neg (by omega), d1]
    · refine Kd.R_mono (Kd.R_set (Kd.R_lower (Kd.R_bound hr) hlo) b h5 _ _) (fun j hj => ?_)
      show (if j < W0.heap.size then t j else i) = i
      rw [if_neg (by have := hj.2.1; omega)]
  · refine ⟨A0, c0', ?_, ?_, hl, (hv.below hb).far (p := ⟨g, k * 2, none⟩) b (by decide) _, fun hlt => ?_⟩
    · rw [Array.getElem?_setIfInBounds, if_neg (by omega), d0]
    · rw [Array.getElem?_setIfInBounds, if_neg (by omega), d1]
    · have hlt : i < k := by omega
      refine Kd.R_mono (Kd.R_set (Kd.R_below (Kd.R_bound (ht hlt)) hb) b h5 _ _) (fun j hj => ?_)
      show (if j < W0.heap.size then t j else k) = i
      rw [if_pos hj.2.2.1]
      exact hj.1
theorem SecMid.S (h : SecMid w lo g c l.length l) : Kd.S k39 39 w lo (fun _ => True) (.slice (some ⟨g, 0, none⟩) l.length c) l := by
  obtain ⟨h1, h2, h3, cs, t, b, hz, d⟩ := h
  have hin : (cs.toList.take (l.length * 2)).length = l.length * 2 := by
    have e : cs.toList.length = cs.size := Array.length_toList
    rw [List.length_take, e]
    omega
  refine ⟨t, fun _ _ => trivial, cs.toList.take (l.length * 2), ?_, ?_⟩
  · rw [List.length_zipIdx]
    exact ⟨hin, .inr ⟨g, c, cs, rfl, h3, b, h1, h2, hz, rfl⟩⟩
  · refine ⟨by rw [List.length_zipIdx]; exact hin, fun j p hj => ?_⟩
    rw [List.getElem?_zipIdx, Nat.zero_add] at hj
    obtain ⟨s, hs, rfl⟩ : ∃ s, l[j]? = some s ∧ (s, j) = p := by
      cases hq : l[j]? with
      | none => rw [hq] at hj; simp at hj
      | some s => rw [hq] at hj; exact ⟨s, rfl, by simpa using hj⟩
    obtain ⟨hj1, _⟩ := List.getElem?_eq_some_iff.1 hs
    obtain ⟨A', c', d0, d1, hl, hv, ht⟩ := d j s hs
    have hcs : ((cs.toList.take (l.length * 2)).drop (j * 2)).take 2 = [.slice A' s.f0.length c', .bool s.f1] := by
      have e0 : (cs.toList.take (l.length * 2))[j * 2]? = some (.slice A' s.f0.length c') := by rw [List.getElem?_take, if_pos (by omega), Array.getElem?_toList, d0]
      have e1 : (cs.toList.take (l.length * 2))[j * 2 + 1]? = some (.bool s.f1) := by rw [List.getElem?_take, if_pos (by omega), Array.getElem?_toList, d1]
      obtain ⟨q0, e0⟩ := List.getElem?_eq_some_iff.1 e0
      obtain ⟨q1, e1⟩ := List.getElem?_eq_some_iff.1 e1
      rw [List.drop_eq_getElem_cons q0, List.drop_eq_getElem_cons q1, e0, e1]
      rfl
    show k39.M w lo (fun k_ => (True ∧ some k_ ≠ _) ∧ t k_ = j) s (((cs.toList.take (l.length * 2)).drop (j * 2)).take 2)
    rw [hcs]
    refine k39_mkM _ _ _ s (Kd.R_mono (Kd.R_types (ht hj1) b (t := 39) (fun q hq => ?_)) (fun j' hj' => ⟨⟨trivial, ?_⟩, hj'.1⟩))
    · have : q = 5 := by simpa [Kd.int, Kd.scalar] using hq
      omega
    · intro e
      have e : j' = g := by simpa [Value.ownBlock] using e
      exact hj'.2 e
end
theorem SecMid.lower {w : World} {lo lo' g c k : Nat} {l : List S39} (h : SecMid w lo g c k l) (hl : lo' ≤ lo) : SecMid w lo' g c k l := by
  obtain ⟨h1, h2, h3, cs, t, hh, hz, hc⟩ := h
  refine ⟨h1, h2, Nat.le_trans hl h3, cs, t, hh, hz, fun i s hs => ?_⟩
  obtain ⟨A', c', c0, c1, hle, hv, ht⟩ := hc i s hs
  exact ⟨A', c', c0, c1, hle, hv.lower hl, fun hi => Kd.R_lower (ht hi) hl⟩
theorem PendVal.lower {w : World} {lo lo' : Nat} {A : Option Addr} {l : List S49} (h : PendVal w lo A l) (hl : lo' ≤ lo) : PendVal w lo' A l := by
  refine ⟨h.1, fun hn => ?_⟩
  obtain ⟨g, cs, e, a, b, d⟩ := h.2 hn
  refine ⟨g, cs, e, Nat.le_trans hl a, b, fun i s hs => ?_⟩
  obtain ⟨A', c, c0, c1, hle, hv⟩ := d i s hs
  exact ⟨A', c, c0, c1, hle, hv.lower hl⟩
theorem SecMid.cells {w : World} {lo g c k : Nat} {l : List S39} (h : SecMid w lo g c k l) {i : Nat} (hi : i < l.length) : ∃ v0 v1 : Value, w.cell? ⟨g, i * 2, none⟩ = some v0 ∧ w.cell? ⟨g, i * 2 + 1, none⟩ = some v1 ∧ w.frozen? ⟨g, i * 2, none⟩ = false ∧ w.frozen? ⟨g, i * 2 + 1, none⟩ = false := by
  obtain ⟨h1, h2, h3, cs, t, hh, hz, hc⟩ := h
  obtain ⟨A', c', d0, d1, _⟩ := hc i _ (List.getElem?_eq_getElem hi)
  exact ⟨_, _, (blk_cell hh _).trans d0, (blk_cell hh _).trans d1, blk_frozen hh _, blk_frozen hh _⟩
structure CrashRel (w wr : World) (gs co1 g7 : Nat) (Ao2 : Option Addr) (co2 n0 : Nat) (l : List S39) (l1 : List S49) : Prop where
  sec : SecMid wr w.heap.size gs co1 0 l
  pend : PendVal wr w.heap.size Ao2 l1
  box : wr.heap[g7]? = some (.cells #[.slice (some ⟨gs, 0, none⟩) n0 co1, .slice Ao2 l1.length co2] 25 (0, 0))
  res : wr.heap[w.heap.size + 1]? = some (.cells #[.slice none 0 0, .slice none 0 0] 25 (0, 0))
  bel : Below w.heap.size w wr
section
variable {w wr : World} {gs co1 g7 : Nat} {Ao2 : Option Addr} {co2 n0 : Nat} {l : List S39} {l1 : List S49}
theorem CrashRel.below {W : World} (h : CrashRel w wr gs co1 g7 Ao2 co2 n0 l l1) (hb : Below wr.heap.size wr W) : CrashRel w W gs co1 g7 Ao2 co2 n0 l l1 :=
  ⟨h.sec.below hb, h.pend.below hb, blk_below h.box hb, blk_below h.res hb, below_step h.bel hb⟩
theorem CrashRel.put {i : Nat} (h : CrashRel w wr gs co1 g7 Ao2 co2 n0 l l1) (hi : i < l.length) {s : S39} {A' : Option Addr} {c' : Nat} (hc : s.f0.length ≤ c') (hv : ByteVal wr w.heap.size A' s.f0) :
    CrashRel w ((wr.setCell ⟨gs, i * 2, none⟩ (.slice A' s.f0.length c')).setCell ⟨gs, i * 2 + 1, none⟩ (.bool s.f1)) gs co1 g7 Ao2 co2 n0 (l.set i s) l1 := by
  obtain ⟨cs, hg⟩ := h.sec.at
  have hg1 := blk_set hg (i * 2) (.slice A' s.f0.length c')
  have hlo : w.heap.size ≤ gs := h.sec.2.2.1
  have n7 : g7 ≠ gs := blk_ne h.box hg (by decide)
  have nz : w.heap.size + 1 ≠ gs := blk_ne h.res hg (by decide)
  exact ⟨h.sec.put hi hc hv, (h.pend.far (p := ⟨gs, i * 2, none⟩) hg (by decide) (by decide) _).far (p := ⟨gs, i * 2 + 1, none⟩) hg1 (by decide) (by decide) _, blk_far (blk_far h.box n7 _) n7 _, blk_far (blk_far h.res nz _) nz _, below_set (below_set h.bel hlo) hlo⟩
end
structure CrashRel2 (w wr : World) (gs co1 g7 : Nat) (Ao2 : Option Addr) (co2 n0 n1 k : Nat) (l : List S39) : Prop where
  sec : SecMid wr w.heap.size gs co1 k l
  box : wr.heap[g7]? = some (.cells #[.slice (some ⟨gs, 0, none⟩) n0 co1, .slice Ao2 n1 co2] 25 (0, 0))
  res : wr.heap[w.heap.size + 1]? = some (.cells #[.slice none 0 0, .slice none 0 0] 25 (0, 0))
  bel : Below w.heap.size w wr
section
variable {w wr : World} {gs co1 g7 : Nat} {Ao2 : Option Addr} {co2 n0 n1 k : Nat} {l : List S39}
theorem CrashRel2.below {W : World} (h : CrashRel2 w wr gs co1 g7 Ao2 co2 n0 n1 k l) (hb : Below wr.heap.size wr W) : CrashRel2 w W gs co1 g7 Ao2 co2 n0 n1 k l :=
  ⟨h.sec.below hb, blk_below h.box hb, blk_below h.res hb, below_step h.bel hb⟩
theorem CrashRel2.step {w4 : World} (h : CrashRel2 w wr gs co1 g7 Ao2 co2 n0 n1 k l) (hb : Below wr.heap.size wr w4) {s : S39} {A' : Option Addr} {c' : Nat} {ok : Nat → Prop} (hs : l[k]? = some s) (hr : (Kd.int .u8).R 5 w4 wr.heap.size ok (.slice A' s.f0.length c') s.f0) :
    CrashRel2 w (w4.setCell ⟨gs, k * 2, none⟩ (.slice A' s.f0.length c')) gs co1 g7 Ao2 co2 n0 n1 (k + 1) l := by
  have h4 := h.below hb
  obtain ⟨cs, hg⟩ := h4.sec.at
  have n7 : g7 ≠ gs := blk_ne h4.box hg (by decide)
  have nz : w.heap.size + 1 ≠ gs := blk_ne h4.res hg (by decide)
  exact ⟨h.sec.step (below_size h.bel) hb hs hr, blk_far h4.box n7 _, blk_far h4.res nz _, below_set h4.bel h.sec.2.2.1⟩
end
theorem SecMid.text {w : World} {lo g c k : Nat} {l : List S39} (h : SecMid w lo g c k l) {i : Nat} (hi : i < l.length) : ∃ (A' : Option Addr) (c' : Nat), w.cell? ⟨g, i * 2, none⟩ = some (.slice A' (l[i]).f0.length c') ∧ (l[i]).f0.length ≤ c' ∧ ByteVal w lo A' (l[i]).f0 := by
  obtain ⟨h1, h2, h3, cs, t, hh, hz, hc⟩ := h
  obtain ⟨A', c', d0, d1, e, hv, _⟩ := hc i _ (List.getElem?_eq_getElem hi)
  exact ⟨_, _, (blk_cell hh _).trans d0, e, hv⟩
theorem SecMid.of_R {w : World} {base : Nat} {ok : Nat → Prop} {v : Value} {xs : List S39} (h : Kd.R k39 39 w base ok v xs) (hn : 0 < xs.length) : ∃ g c, v = .slice (some ⟨g, 0, none⟩) xs.length c ∧ SecMid w base g c 0 xs := by
  obtain ⟨_, inner, ho, hr⟩ := h
  rcases ho.2 with ⟨e, hi⟩ | ⟨g, cap, cur, he, hb, hh, h1, h2, h3, h4⟩
  · omega
  · refine ⟨g, cap, he, h1, h2, hb, cur, id, hh, h3, fun i s hs => ?_⟩
    obtain ⟨hi, rfl⟩ := List.getElem?_eq_some_iff.1 hs
    obtain ⟨u, v, hM, c0, c1⟩ := rows_at (show Reps (k39.M w base _) 2 xs inner from hr) h4.symm hi
    obtain ⟨v0, e, hR⟩ := k39_openM hM
    injection e with e1 e
    injection e with e2 _
    subst e1 e2
    obtain ⟨A', c', rfl, hc', hb'⟩ := ByteVal.of_R hR
    exact ⟨A', c', c0, c1, hc', hb', fun hi => absurd hi (Nat.not_lt_zero _)⟩
theorem SecMid.renew {w : World} {lo g c k : Nat} {l : List S39} {W0 : World} {s s0 : S39} {A' : Option Addr} {c' : Nat} {ok : Nat → Prop} (h : SecMid W0 lo g c k l) (hlo : lo ≤ W0.heap.size) (hb : Below W0.heap.size W0 w) (hs : l[k]? = some s0) (hm : s.f1 = s0.f1) (hr : (Kd.int .u8).R 5 w W0.heap.size ok (.slice A' s.f0.length c') s.f0) :
    SecMid (w.setCell ⟨g, k * 2, none⟩ (.slice A' s.f0.length c')) lo g c (k + 1) (l.set k s) := by
  obtain ⟨h1, h2, h3, cs, t, b0, hz, d⟩ := h
  have b := blk_below b0 hb
  refine ⟨by rw [List.length_set]; exact h1, h2, h3, _, (fun j => if j < W0.heap.size then t j else k), blk_set b _ _, by simpa using hz, fun i x hx => ?_⟩
  have h5 : ∀ q, q ∈ 5 :: (Kd.int .u8).E → q ≠ 39 := fun q hq => by
    have : q = 5 := by simpa [Kd.int, Kd.scalar] using hq
    omega
  have hkl := (List.getElem?_eq_some_iff.1 hs).1
  by_cases hik : i = k
  · subst hik
    rw [List.getElem?_set_self hkl] at hx
    injection hx with hx
    subst hx
    obtain ⟨A0, c0', d0, d1, hl, hv, ht⟩ := d i s0 hs
    obtain ⟨_, hl', hv'⟩ := ByteVal.of_R' hr
    have z0 := (Array.getElem?_eq_some_iff.1 d0).1
    refine ⟨A', c', ?_, ?_, hl', (hv'.lower hlo).far (p := ⟨g, i * 2, none⟩) b (by decide) _, fun _ => ?_⟩
    · rw [Array.getElem?_setIfInBounds, if_pos rfl, if_pos z0]
    · rw [Array.getElem?_setIfInBounds, if_neg (by omega), d1, hm]
    · refine Kd.R_mono (Kd.R_set (Kd.R_lower (Kd.R_bound hr) hlo) b h5 _ _) (fun j hj => ?_)
      show (if j < W0.heap.size then t j else i) = i
      rw [if_neg (by have := hj.2.1; omega)]
  · rw [List.getElem?_set_ne (fun e => hik e.symm)] at hx
    obtain ⟨A0, c0', d0, d1, hl, hv, ht⟩ := d i x hx
    refine ⟨A0, c0', ?_, ?_, hl, (hv.below hb).far (p := ⟨g, k * 2, none⟩) b (by decide) _, fun hlt => ?_⟩
    · rw [Array.getElem?_setIfInBounds, if_neg (by omega), d0]
    · rw [Array.getElem?_setIfInBounds, if_neg (by omega), d1]
    · have hlt : i < k := by omega
      refine Kd.R_mono (Kd.R_set (Kd.R_below (Kd.R_bound (ht hlt)) hb) b h5 _ _) (fun j hj => ?_)
      show (if j < W0.heap.size then t j else k) = i
      rw [if_pos hj.2.2.1]
      exact hj.1
end Go.Proofs.Ytdkjhcdniepbhaa.P
end
section
set_option linter.unusedVariables false
set_option linter.unusedSimpArgs false
namespace Go.Proofs.Ytdkjhcdniepbhaa.P
open Go.RowKit Go.Proofs.PrintWords Go.Proofs.PrintLast Go.Proofs.PrintMore
attribute [local go_sem] max2_int min2_int max_two min_two max_three min_three max_four min_four
def dNew (n : Int) : List S39 × List S49 × Int := if 1 ≤ n ∧ n ≤ 1024 then (List.replicate n.toNat ⟨zero32, false⟩, [], 0) else ([], [], 2)
def hNew.f (a0 : Int) : Option (List S39 × List S49 × Int) := some (dNew a0)
structure NewRel (w wr : World) (g c g4 n k : Nat) : Prop where
  sec : ∃ l : List S39, l.length = n ∧ (∀ i, i < k → l[i]? = some ⟨zero32, false⟩) ∧ (∀ i, k ≤ i → i < n → l[i]? = some ⟨[], false⟩) ∧ SecMid wr w.heap.size g c k l
  box : wr.heap[g4]? = some (.cells #[.slice (some ⟨g, 0, none⟩) n c, .slice none 0 0] 25 (0, 0))
  res : wr.heap[w.heap.size]? = some (.cells #[.slice none 0 0, .slice none 0 0] 25 (0, 0))
  bel : Below w.heap.size w wr
theorem NewRel.step {w wr w4 : World} {g c g4 n k : Nat} {A' : Option Addr} {c' : Nat} {ok : Nat → Prop} (h : NewRel w wr g c g4 n k) (hb : Below wr.heap.size wr w4) (hk : k < n) (hr : (Kd.int .u8).R 5 w4 wr.heap.size ok (.slice A' zero32.length c') zero32) :
    NewRel w (w4.setCell ⟨g, k * 2, none⟩ (.slice A' zero32.length c')) g c g4 n (k + 1) := by
  obtain ⟨l, hl, h1, h2, hs⟩ := h.sec
  have hb4 := blk_below h.box hb
  have hr4 := blk_below h.res hb
  obtain ⟨cs, hg0⟩ := hs.at
  have hg := blk_below hg0 hb
  have n4 : g4 ≠ g := blk_ne hb4 hg (by decide)
  have nz : w.heap.size ≠ g := blk_ne hr4 hg (by decide)
  refine ⟨⟨l.set k ⟨zero32, false⟩, by rw [List.length_set]; exact hl, fun i hi => ?_, fun i h3 h4 => ?_, hs.renew (s := ⟨zero32, false⟩) (below_size h.bel) hb (h2 k (Nat.le_refl _) hk) rfl hr⟩, blk_far hb4 n4 _, blk_far hr4 nz _, below_set (below_step h.bel hb) hs.2.2.1⟩
  · by_cases e : i = k
    · subst e; exact List.getElem?_set_self (by omega)
    · rw [List.getElem?_set_ne (fun e' => e e'.symm)]; exact h1 i (by omega)
  · rw [List.getElem?_set_ne (by omega)]; exact h2 i (by omega) h4
theorem NewRel.below {w wr W : World} {g c g4 n k : Nat} (h : NewRel w wr g c g4 n k) (hb : Below wr.heap.size wr W) : NewRel w W g c g4 n k := by
  obtain ⟨l, hl, h1, h2, hs⟩ := h.sec
  exact ⟨⟨l, hl, h1, h2, hs.below hb⟩, blk_below h.box hb, blk_below h.res hb, below_step h.bel hb⟩
def hNew.T7 : Bool × List (List Nat × List Nat) := (true, [([], []), ([0], [0]), ([], []), ([], []), ([1, 2, 0, 1, 2, 3], [1, 2]), ([4, 0, 1, 2, 3], [4]), ([5, 3, 0, 1, 2, 3], [3, 5])])
def hNew.B7 : List Nat := [0, 1, 0, 0, 15, 31, 63]
theorem hNew.tab7 : rtab .any (opsOf Try.f15 7) = hNew.T7 := by kernel_rfl
theorem hNew.bits7 : waitsOk hNew.T7.2 hNew.B7 = true := by kernel_rfl
set_option maxHeartbeats 4000000 in
set_option maxRecDepth 100000 in
theorem hNew.calls (a0 : Int) (r1 : List S39) (r2 : List S49) (r3 : Int) (w : World) (h : hNew.f a0 = some (r1, r2, r3)) :
    Calls Try.prog 15 #[.int .i64 a0] w fun e w' => ∃ v0_ v1_ : Value, e = .returned (.tuple #[.agg #[v0_, v1_], .int .i64 r3]) ∧ Kd.S k39 39 w' w.heap.size (fun _ => True) v0_ r1 ∧ Kd.S k49 49 w' w.heap.size (fun _ => True) v1_ r2 ∧ Below w.heap.size w w' := by
  have hu25 := Try.underlying25
  have H : Aside0 (dNew a0 = (r1, r2, r3)) := ⟨by unfold hNew.f at h; injection h⟩
  clear h
  have HB := Aside0.mk (below_alloc (Below.refl w.heap.size w) (.cells #[.slice none 0 0, .slice none 0 0] 25))
  have HZ := Aside0.mk (heap_alloc_new w (.cells #[.slice none 0 0, .slice none 0 0] 25))
  by_cases hn : 1 ≤ a0 ∧ a0 ≤ 1024
  rotate_left
  · obtain ⟨rfl, rfl, rfl⟩ : [] = r1 ∧ [] = r2 ∧ 2 = r3 := by have hd := H.out; unfold dNew at hd; rw [if_neg hn] at hd; simpa using hd
    clear H
    by_cases h1 : a0 < 1
    · go_enter Try.func15, Try.ntmps15
      go_wp2_with fail
      refine bodyPost_ret (results_ct rfl _ _ w.heap.size 25 #[.slice none 0 0, .slice none 0 0] (0, 0) _ rfl HZ.out Try.underlying25 rfl (by kernel_rfl)) rfl ?_
      exact ⟨_, _, rfl, Kd.S_nil _ _ _ _ _, Kd.S_nil _ _ _ _ _, HB.out⟩
    · have h2 : a0 > 1024 := by omega
      go_enter Try.func15, Try.ntmps15
      go_wp2_with fail
      refine bodyPost_ret (results_ct rfl _ _ w.heap.size 25 #[.slice none 0 0, .slice none 0 0] (0, 0) _ rfl HZ.out Try.underlying25 rfl (by kernel_rfl)) rfl ?_
      exact ⟨_, _, rfl, Kd.S_nil _ _ _ _ _, Kd.S_nil _ _ _ _ _, HB.out⟩
  · obtain ⟨n, rfl⟩ := Int.eq_ofNat_of_zero_le (show 0 ≤ a0 by omega)
    obtain ⟨rfl, rfl, rfl⟩ : List.replicate n ⟨zero32, false⟩ = r1 ∧ [] = r2 ∧ 0 = r3 := by have hd := H.out; unfold dNew at hd; rw [if_pos hn] at hd; simpa using hd
    clear H
    have hn1 : 1 ≤ n := by omega
    have hn2 : n ≤ 1024 := by omega
    have hn3 : ¬ (n : Int) < 1 := by omega
    have hn4 : ¬ (n : Int) > 1024 := by omega
    clear hn
    go_enter Try.func15, Try.ntmps15
    go_wp2_with (first
      | ((with_reducible refine gate_dst (N := 14) rfl ?_); refine Kd.R_make k39 (w0 := w) w.heap.size 39 rfl (N := 14) rfl 22 _ _ rfl n rfl rfl Try.underlying22 (.agg #[(.slice none 0 0), (.bool false)]) 32 info39 rfl (by decide) (by decide) z39 (ok := fun _ => True) (okp := fun _ => True) (k39_mkM _ _ _ z39 (Kd.R_nil _ _ _ _ _)) (fun _ hk => hk) trivial (by omega) (by omega) HB.out (below_size HB.out) ?_; intro v2 w2 ho2 hb2 hg2 hnew2; obtain ⟨gs, c2, e2, hs2⟩ := SecMid.of_R ho2 (by rw [List.length_replicate]; exact hn1); rw [List.length_replicate] at e2; subst e2; have HS2 := Aside0.mk hs2; have HB2 := Aside0.mk hb2; have HZ2 := Aside0.mk ((hg2.block _ (blk_lt HZ.out) (by simp)).trans HZ.out); clear ho2 hb2 hg2 hnew2 hs2))
    have HX := Aside0.mk (show NewRel w (w2.alloc (.cells #[.slice (some ⟨gs, 0, none⟩) n c2, .slice none 0 0] 25)) gs c2 w2.heap.size n 0 from ⟨⟨_, List.length_replicate .., fun i hi => absurd hi (Nat.not_lt_zero _), fun i _ hi => by rw [List.getElem?_replicate, if_pos (by exact hi)]; rfl, HS2.out.below (below_alloc (Below.refl _ _) (.cells #[.slice (some ⟨gs, 0, none⟩) n c2, .slice none 0 0] 25))⟩, heap_alloc_new w2 (.cells #[.slice (some ⟨gs, 0, none⟩) n c2, .slice none 0 0] 25), blk_alloc HZ2.out (.cells #[.slice (some ⟨gs, 0, none⟩) n c2, .slice none 0 0] 25), below_alloc HB2.out (.cells #[.slice (some ⟨gs, 0, none⟩) n c2, .slice none 0 0] 25)⟩)
    have HNE := Aside0.mk (show w2.heap.size ≠ w.heap.size from Nat.ne_of_gt (blk_lt HZ2.out))
    have HG4 := Aside0.mk (below_size HB2.out)
    clear HB2 HZ2 HS2 HB HZ
    generalize w2.alloc (.cells #[.slice (some ⟨gs, 0, none⟩) n c2, .slice none 0 0] 25) = W3 at HX ⊢
    generalize w2.heap.size = g4 at HX HNE HG4 ⊢
    go_loopw [19] (fun i wr => ∃ k : Nat, k ≤ n ∧ i = .int .i64 k ∧ Aside0 (NewRel w wr gs c2 g4 n k)) (fun i _ => n - (intOf i).toNat)
    case atStart => exact ⟨0, Nat.zero_le _, rfl, HX⟩
    case round =>
      clear HX
      obtain ⟨k, hk, rfl, HX⟩ := hrel
      by_cases hlt : k < n
      · have hk0 : 0 ≤ (k : Int) := by omega
        have hk1 : (k : Int) < n := by omega
        have HSS := Aside0.mk (show ∀ W : World, Below wr.heap.size wr W → W.cell? ⟨g4, 0, none⟩ = some (.slice (some ⟨gs, 0, none⟩) n c2) from fun W hb => (blk_cell (blk_below HX.out.box hb) 0).trans rfl)
        obtain ⟨l, hl, _, _, hsec⟩ := HX.out.sec
        have HSC := Aside0.mk hsec
        have HLL := Aside0.mk hl
        clear hl hsec
        go_wp2_with fail
        refine start_ (n := 7) (S := fun w' => w'.cell? ⟨g4, 0, none⟩ = some (.slice (some ⟨gs, 0, none⟩) n c2)) (ds := [6]) #[false, false, false, false, false, false, false] (by kernel_rfl) rfl rfl (by exact HSS.out _ (bdr1 (Below.refl _ _))) (fun hHeld => ?_); refine wtW hNew.tab7 hNew.bits7 (fun HT_ HW_ => ?_)
        refine pure_ (i := 0) (N := some 22) (v := ?_) (a' := ?_) #[true, false, false, false, false, false, false] rfl rfl (any_of HT_.out (by kernel_rfl)) (fun _ _ _ h => h) (Or.inl ⟨by rfl, ?_⟩) ?_ ?_
        rotate_left
        · intro w'
          go_simp
          with_reducible rfl
        rotate_left
        · simp only [Act.put, List.setIfInBounds_toArray, List.set_cons_zero, List.set_cons_succ, i64_w, i32_w]
          rfl
        refine take_ (i := 1) (N := some 23) (v := ?_) (a' := ?_) #[true, true, false, false, false, false, false] rfl rfl (take_ofW HT_.out HW_.out (by kernel_rfl)) (fun _ _ _ h => h) (Or.inl ⟨by rfl, ?_⟩) hHeld ?_ ?_
        rotate_left
        · rintro w' s0
          go_simp
          with_reducible rfl
        rotate_left
        · simp only [Act.put, List.setIfInBounds_toArray, List.set_cons_zero, List.set_cons_succ, i64_w, i32_w]
          rfl
        refine pure_ (i := 2) (N := some 24) (v := ?_) (a' := ?_) #[true, true, true, false, false, false, false] rfl rfl (any_of HT_.out (by kernel_rfl)) (fun _ _ _ h => h) (Or.inl ⟨by rfl, ?_⟩) ?_ ?_
        rotate_left
        · intro w'
          go_simp
          with_reducible rfl
        rotate_left
        · simp only [Act.put, List.setIfInBounds_toArray, List.set_cons_zero, List.set_cons_succ, i64_w, i32_w]
          rfl
        refine one_ (i := 3) (N := some 25) #[true, true, true, true, false, false, false] rfl rfl (one_of HT_.out (by kernel_rfl)) (by decide) (fun K hK => ?_)
        refine Kd.R_make_step (Kd.int .u8) (w0 := wr.drew) wr.drew.heap.size 5 rfl (N := 25) rfl 31 _ _ rfl 32 rfl rfl Try.underlying31 (.int .u8 0) 1 info5 rfl (by decide) (by decide) 0 (ok := fun _ => True) (okp := fun _ => True) rfl (fun _ hk => hk) trivial (by omega) (by omega) (Below.refl _ _) (Nat.le_refl _) ?_
        intro v4 w4 ho4 hb4 hg4 hnew4
        have HB4 := Aside0.mk (below_step (bdr1 (Below.refl wr.heap.size wr)) hb4)
        obtain ⟨A4, c4, e4⟩ := Kd.R_slice ho4
        subst e4
        have HX4 := Aside0.mk (NewRel.step (HX.out.below (bdr1 (Below.refl _ _))) hb4 hlt ho4)
        obtain ⟨v0, v1, hw0, hw1, hfw0, hfw1⟩ := (HSC.out.below HB4.out).cells (i := k) (by rw [HLL.out]; exact hlt)
        clear ho4 hb4 hg4 hnew4
        refine hK.out _ _ (by exact HSS.out _ HB4.out) (fun hHeld => ?_)
        clear hK K
        refine norm_ (a' := ?_) ?_ ?_
        rotate_left
        · show Act.put _ (some 25) _ = _
          simp only [Act.put, List.setIfInBounds_toArray, List.set_cons_zero, List.set_cons_succ, i64_w, i32_w]
          rfl
        refine pure_ (i := 4) (N := some 26) (v := ?_) (a' := ?_) #[true, true, true, true, true, false, false] rfl rfl (any_of HT_.out (by kernel_rfl)) (fun _ _ _ h => h) (Or.inl ⟨by rfl, ?_⟩) ?_ ?_
        rotate_left
        · intro w'
          go_simp
          with_reducible rfl
        rotate_left
        · simp only [Act.put, List.setIfInBounds_toArray, List.set_cons_zero, List.set_cons_succ, i64_w, i32_w]
          rfl
        refine pure_ (i := 5) (N := some 27) (v := ?_) (a' := ?_) #[true, true, true, true, true, true, false] rfl rfl (any_of HT_.out (by kernel_rfl)) (fun _ _ _ h => h) (Or.inl ⟨by rfl, ?_⟩) ?_ ?_
        rotate_left
        · intro w'
          go_simp
          with_reducible rfl
        rotate_left
        · simp only [Act.put, List.setIfInBounds_toArray, List.set_cons_zero, List.set_cons_succ, i64_w, i32_w]
          rfl
        refine last_ (i := 6) (N := none) #[true, true, true, true, true, true, true] rfl rfl (one_of HT_.out (by kernel_rfl)) (by decide) (fun K hK => ?_)
        refine skip_ (w1 := ?_) (by rfl) rfl ?_ ?_
        rotate_left
        · go_simp
          rfl
        refine hK.out _ _ ?_
        refine done_ (done_of HT_.out (by kernel_rfl)) ?_
        clear hw0 hw1 hfw0 hfw1
        try go_wp2
        go_roundw
        case rel => exact ⟨k + 1, by omega, by go_num, HX4⟩
        case measure => simp [intOf]; omega
      · obtain rfl : k = n := by omega
        obtain ⟨l, hl, hall, _, hsec⟩ := HX.out.sec
        obtain rfl : l = List.replicate k ⟨zero32, false⟩ := List.eq_replicate_iff.2 ⟨hl, fun b hb => by obtain ⟨i, hi, rfl⟩ := List.mem_iff_getElem.1 hb; have := hall i (by omega); rw [List.getElem?_eq_getElem hi] at this; exact Option.some.inj this⟩
        have HSC := Aside0.mk hsec
        clear hl hall hsec
        have hq0 : wr.cell? ⟨g4, 0, none⟩ = some (.slice (some ⟨gs, 0, none⟩) k c2) := (blk_cell HX.out.box 0).trans rfl
        have hq1 : wr.cell? ⟨g4, 1, none⟩ = some (.slice none 0 0) := (blk_cell HX.out.box 1).trans rfl
        have hy0 : wr.cell? ⟨w.heap.size, 0, none⟩ = some (.slice none 0 0) := (blk_cell HX.out.res 0).trans rfl
        have hy1 : wr.cell? ⟨w.heap.size, 1, none⟩ = some (.slice none 0 0) := (blk_cell HX.out.res 1).trans rfl
        have hf0 := blk_frozen HX.out.res 0
        have hf1 := blk_frozen HX.out.res 1
        go_wp2_with fail
        have hr1 := blk_put (cs := #[.slice none 0 0, .slice none 0 0]) HX.out.res 0 (.slice (some ⟨gs, 0, none⟩) k c2) rfl
        have hr2 := blk_put (cs := #[.slice (some ⟨gs, 0, none⟩) k c2, .slice none 0 0]) hr1 1 (.slice none 0 0) rfl
        have hs2 := (HSC.out.far (p := ⟨w.heap.size, 0, none⟩) HX.out.res (by decide) (by decide) (.slice (some ⟨gs, 0, none⟩) k c2)).far (p := ⟨w.heap.size, 1, none⟩) hr1 (by decide) (by decide) (.slice none 0 0)
        have hs3 := SecMid.S (l := List.replicate k ⟨zero32, false⟩) (by rw [List.length_replicate]; exact hs2)
        rw [List.length_replicate] at hs3
        refine bodyPost_ret (results_ct rfl _ _ w.heap.size 25 #[.slice (some ⟨gs, 0, none⟩) k c2, .slice none 0 0] (0, 0) _ rfl hr2 Try.underlying25 rfl (by kernel_rfl)) rfl ?_
        exact ⟨_, _, rfl, hs3, Kd.S_nil _ _ _ _ _, below_set (below_set HX.out.bel (Nat.le_refl _)) (Nat.le_refl _)⟩
end Go.Proofs.Ytdkjhcdniepbhaa.P
end
section
set_option linter.unusedVariables false
set_option linter.unusedSimpArgs false
namespace Go.Proofs.Ytdkjhcdniepbhaa.P
open Go.RowKit Go.Proofs.PrintWords Go.Proofs.PrintLast Go.Proofs.PrintMore
attribute [local go_sem] max2_int min2_int max_two min_two max_three min_three max_four min_four
def catamaranlaw05_of.l0 : Nat → Int → List Int → Int → Option (List Int)
  | 0, _, _, _ => none
  | k + 1, x0, x3, x4 => if x4 < (x3.length : Int) then (if 0 ≤ x4 then (catamaranlaw05_of.l0 k x0 (x3.set (x4 : Int).toNat x0) (wrap64 (x4 + 1))) else (none)) else (some x3)
def catamaranlaw05_of.f (k : Nat) (a0 : Int) : Option (List Int) := if 32 ≤ 281474976710656 then (catamaranlaw05_of.l0 k a0 (List.replicate 32 0) 0) else (none)
theorem catamaranlaw05_of.mono_l : ∀ k, (∀ y0 y1 y2, LeO (catamaranlaw05_of.l0 k y0 y1 y2) (catamaranlaw05_of.l0 (k + 1) y0 y1 y2))
  | 0 => fun _ _ _ r h => by simp [catamaranlaw05_of.l0] at h
  | k + 1 => by
    have ih0 := catamaranlaw05_of.mono_l k
    · intro y0 y1 y2
      unfold catamaranlaw05_of.l0
      repeat' first
      | (with_reducible exact ih0 _ _ _)
      | (with_reducible exact LeO.refl _)
      | (with_reducible exact LeO.none _)
      | (with_reducible refine LeO.ite ?_ ?_)
      | (with_reducible refine LeO.bind ?_ (fun _ => ?_))
      | exact ih0 _ _ _
      | exact LeO.none _
      | refine LeO.ite ?_ ?_
      | refine LeO.bind ?_ (fun _ => ?_)
theorem catamaranlaw05_of.mono : ∀ a0 k, LeO (catamaranlaw05_of.f k a0) (catamaranlaw05_of.f (k + 1) a0) := by
  intro a0 k
  have ih0 := catamaranlaw05_of.mono_l k
  unfold catamaranlaw05_of.f
  repeat' first
      | (with_reducible exact ih0 _ _ _)
      | (with_reducible exact LeO.refl _)
      | (with_reducible exact LeO.none _)
      | (with_reducible refine LeO.ite ?_ ?_)
      | (with_reducible refine LeO.bind ?_ (fun _ => ?_))
      | exact ih0 _ _ _
      | exact LeO.none _
      | refine LeO.ite ?_ ?_
      | refine LeO.bind ?_ (fun _ => ?_)
set_option maxHeartbeats 8000000 in
set_option maxRecDepth 100000 in
theorem catamaranlaw05_of.calls (k : Nat) (a0 : Int) (r : List Int) (w : World) (h : catamaranlaw05_of.f k a0 = some r) :
    Calls Try.prog 19 #[.int .u8 a0] w fun e w' => ∃ v0_ : Value, e = .returned (v0_) ∧ Kd.R (Kd.int .u8) 5 w' w.heap.size (fun _ => True) v0_ r ∧ Below w.heap.size w w' := by
  have HB := Aside0.mk (Below.refl w.heap.size w)
  have H : (if 32 ≤ 281474976710656 then (catamaranlaw05_of.l0 k a0 (List.replicate 32 0) 0) else (none)) = some r := h
  clear h
  by_cases c2 : 32 ≤ 281474976710656
  · rw [if_pos c2] at H
    have c2b0 := eq_true c2
    have c2b1 : decide (32 ≤ 281474976710656) = true := decide_eq_true c2
    clear c2
    obtain ⟨y1000, hy1000⟩ : ∃ y_ : List Int, y_ = (List.replicate 32 0) := ⟨_, rfl⟩
    replace H : (catamaranlaw05_of.l0 k a0 y1000 0) = some r := by first | (rw [hy1000]; with_reducible exact H) | (have H2_ := (Option.bind_some _ _).symm.trans H; rw [hy1000]; with_reducible exact H2_) | (have H2_ := (Option.bind_some _ _).symm.trans H; with_reducible exact H2_) | with_reducible exact H | (rw [hy1000]; exact H) | exact H
    have Ny1000 := Aside0.mk hy1000
    clear hy1000
    have H' := Aside0.mk H
    clear H
    go_enter Try.func19, Try.ntmps19
    go_wp2_with (first | ((with_reducible refine gate_dst (N := 5) rfl ?_); refine Kd.R_make (Kd.int .u8) _ 5 rfl (N := 5) rfl 31 _ _ rfl 32 rfl rfl Try.underlying31 (.int .u8 0) 1 info5 rfl (by decide) (by omega) 0 (ok := fun _ => True) (okp := fun _ => True) rfl (fun _ hk => hk) trivial (by omega) (by omega) (Below.refl _ _) (Nat.le_refl _) ?_; intro v1001 w3 ho4 hb hg_ hnew_; clear hg_ hnew_; (first | rw [← Ny1000.out] at ho4 | (simp only [Int.reduceToNat] at ho4; rw [← Ny1000.out] at ho4)); have n0_ := Aside0.mk (Kd.R_lower ho4 (below_size (by repeat (first | (with_reducible first | exact HB.out | apply below_alloc | apply pbdN | apply bdr1) | exact HB.out)))); have n1_ := Aside0.mk (below_step (by repeat (first | (with_reducible first | exact HB.out | apply below_alloc | apply pbdN | apply bdr1) | exact HB.out)) hb); clear HB; have HO1002 := n0_; have HB := n1_; clear n0_ n1_; clear hb ho4))
    go_loopg [4] k (fun kq v4 w' => ∃ (x3_1 : List Int) (x4_1 : Int), v4 = .int .i64 x4_1 ∧ Aside0 (catamaranlaw05_of.l0 kq a0 x3_1 x4_1 = some r) ∧ Aside0 (kq ≤ k) ∧ Aside0 (Kd.R (Kd.int .u8) 5 w' w.heap.size (fun _ => True) v1001 x3_1) ∧ Aside0 (Below w.heap.size w w'))
    case atStart => exact ⟨(y1000), (0), (by first | rfl | (simp; done) | (simp [*]; done)), H', ⟨Nat.le_refl _⟩, ⟨by (with_reducible repeat (first | apply Kd.R_alloc | apply Kd.R_drewN | apply Kd.R_drew)); exact HO1002.out⟩, ⟨by repeat (first | (with_reducible first | exact HB.out | apply below_alloc | apply pbdN | apply bdr1) | exact HB.out)⟩⟩
    case round =>
      clear H'
      try clear c1
      try clear c2
      try clear c2b0
      try clear c2b1
      try clear p2
      obtain ⟨x3_1, x4_1, rfl, HA, HK1, HO_3, HB⟩ := hrel
      cases gk with
      | zero => exact absurd HA.out (by simp [catamaranlaw05_of.l0])
      | succ k1 =>
        have H := HA.out
        clear HA
        simp only [catamaranlaw05_of.l0] at H
        by_cases c5 : x4_1 < (x3_1.length : Int)
        · rw [if_pos c5] at H
          have c5b0 : decide (x4_1 < (x3_1.length : Int)) = true := decide_eq_true c5
          clear c5
          by_cases c6 : 0 ≤ x4_1
          · rw [if_pos c6] at H
            have c6b0 : decide (0 ≤ x4_1) = true := decide_eq_true c6
            clear c6
            obtain ⟨y1003, hy1003⟩ : ∃ y_ : List Int, y_ = (x3_1.set (x4_1 : Int).toNat a0) := ⟨_, rfl⟩
            replace H : (catamaranlaw05_of.l0 k1 a0 y1003 (wrap64 (x4_1 + 1))) = some r := by first | (rw [hy1003]; with_reducible exact H) | (have H2_ := (Option.bind_some _ _).symm.trans H; rw [hy1003]; with_reducible exact H2_) | (have H2_ := (Option.bind_some _ _).symm.trans H; with_reducible exact H2_) | with_reducible exact H | (rw [hy1003]; exact H) | exact H
            have Ny1003 := Aside0.mk hy1003
            clear hy1003
            have H' := Aside0.mk H
            clear H
            obtain ⟨Ao8, co8, eo8⟩ := Kd.R_slice HO_3.out
            subst eo8
            have p7 : 0 ≤ (x4_1 : Int) := of_decide_eq_true (by first | (with_reducible assumption) | assumption)
            have q7 : (x4_1 : Int) < ((x3_1.length : Int) : Int) := of_decide_eq_true (by first | (with_reducible assumption) | assumption)
            obtain ⟨go7, co7, eo7, gb7, gl7, cl7, HG7⟩ := Kd.R_form HO_3.out (by omega)
            (first | cases eo7 | (injection eo7 with ea_ en_ ec_; (first | subst ea_ | (injection ea_ with ea_; subst ea_)); subst ec_; clear en_))
            have GB7 := Aside0.mk gb7
            have GG7 := Aside0.mk HG7
            clear gb7 gl7 HG7
            obtain ⟨hx7_0, hf7_0⟩ := Kd.R_celln 0 HO_3.out (x4_1 : Int) p7 q7
            replace p7 := eq_true p7
            replace q7 := eq_true q7
            have HP9 := Kd.R_putg HO_3.out (x4_1 : Int) a0
            go_wp2_with (first | ((with_reducible refine gate_store (t := 5) (p := 15) rfl ?_); refine store_event (t := 5) (p := 15) (v := ?vo_w10) (w1 := (wr.setCell ⟨go7, (x4_1 : Int).toNat, none⟩ (.int .u8 a0))) ?hg ?ho ?hn ?hr ?_; (case ho => rfl); (case hg => rfl); (case hn => rfl); (case hr => first | (go_simp; done) | (go_simp; rfl)); intro w10 hw; have hg : wr.grownBy w10 (some go7) := (by rw [hw]; exact HP9.2); have hp_ : Kd.R (Kd.int .u8) 5 w10 w.heap.size (fun _ => True) (.slice (some ⟨go7, 0, none⟩) x3_1.length co8) y1003 := (by rw [hw, Ny1003.out]; exact HP9.1); clear HP9; have n0_ := Aside0.mk (hp_); have n1_ := Aside0.mk ((by rw [hw]; exact below_set (HB.out) GB7.out : Below w.heap.size w w10)); clear HO_3; clear HB; have HO_3 := n0_; have HB := n1_; clear n0_ n1_; clear hg hw hp_))
            go_roundg k1
            case measure => have := HK1.out; omega
            case rel => exact ⟨(y1003), (wrap64 (x4_1 + 1)), (by first | rfl | (simp; done) | (simp [*]; done)), H', ⟨by have := HK1.out; omega⟩, ⟨by (with_reducible repeat (first | apply Kd.R_alloc | apply Kd.R_drewN | apply Kd.R_drew)); exact HO_3.out⟩, ⟨by repeat (first | (with_reducible first | exact HB.out | apply below_alloc | apply pbdN | apply bdr1) | exact HB.out)⟩⟩
          · rw [if_neg c6] at H
            exact absurd H (by simp)
        · rw [if_neg c5] at H
          have c5b0 : decide (x4_1 < (x3_1.length : Int)) = false := decide_eq_false c5
          clear c5
          obtain rfl := Option.some.inj H
          obtain ⟨Ao11, co11, eo11⟩ := Kd.R_slice HO_3.out
          subst eo11
          go_wp2
          go_ret
          exact ⟨_, by first | rfl | (simp [errW_none, errW_some] <;> rfl) | (simp [*, errW_none, errW_some] <;> rfl), by (with_reducible repeat (first | apply Kd.R_alloc | apply Kd.R_drewN | apply Kd.R_drew)); exact HO_3.out, by repeat (first | (with_reducible first | exact HB.out | apply below_alloc | apply pbdN | apply bdr1) | exact HB.out)⟩
  · rw [if_neg c2] at H
    exact absurd H (by simp)
end Go.Proofs.Ytdkjhcdniepbhaa.P
end
