/- Part 5 of the proof: PageReads: for every config, disk and pair the program's marks of the pair, or its error, are the document's, the disk stays, and what is answered is new memory; no condition. -/
import Derived.Test.YtdkjhcdniepbhaaPageReads04
section
set_option linter.unusedVariables false
set_option linter.unusedSimpArgs false
namespace Go.Proofs.Ytdkjhcdniepbhaa.P
open Go.RowKit Go.Proofs.PrintWords Go.Proofs.PrintLast Go.Proofs.PrintMore
attribute [local go_sem] max2_int min2_int max_two min_two max_three min_three max_four min_four
mutual
def catamaranref05_Twin.l0 : Nat → Int → List (S39) → List (S49) → List (S39) → Option ((List (S39)) × (List (S49)))
  | 0, _, _, _, _ => none
  | k + 1, x4, x1000, x1001, x1002 => if x4 < (x1000.length : Int) then ((some (([] : List Int) : List Int)).bind fun y1003 => (if 0 ≤ x4 then (if y1003.length + ((rd_T39 x1000 x4).f0).length < 140737488355328 then (if x1002.length < 4398046511104 then (catamaranref05_Twin.l0 k (wrap64 (x4 + 1)) x1000 x1001 (x1002 ++ [(⟨(y1003 ++ ((rd_T39 x1000 x4).f0)), (rd_T39 x1000 x4).f1⟩ : S39)])) else (none)) else (none)) else (none))) else (catamaranref05_Twin.l1 k 0 x1000 x1001 x1002 ([] : List (S49)))
def catamaranref05_Twin.l1 : Nat → Int → List (S39) → List (S49) → List (S39) → List (S49) → Option ((List (S39)) × (List (S49)))
  | 0, _, _, _, _, _ => none
  | k + 1, x5, x1000, x1001, x1002, x1004 => if x5 < (x1001.length : Int) then (if 0 ≤ x5 then ((some (([] : List Int) : List Int)).bind fun y1005 => (if y1005.length + ((rd_T49 x1001 x5).f1).length < 140737488355328 then (if x1004.length < 4398046511104 then (catamaranref05_Twin.l1 k (wrap64 (x5 + 1)) x1000 x1001 x1002 (x1004 ++ [(⟨(rd_T49 x1001 x5).f0, (y1005 ++ ((rd_T49 x1001 x5).f1))⟩ : S49)])) else (none)) else (none))) else (none)) else (some (x1002, x1004))
end
def catamaranref05_Twin.f (k : Nat) (l0_0 : List (S39)) (l0_1 : List (S49)) : Option ((List (S39)) × (List (S49))) := catamaranref05_Twin.l0 k 0 l0_0 l0_1 ([] : List (S39))
theorem catamaranref05_Twin.mono_l : ∀ k, (∀ y0 y1 y2 y3, LeO (catamaranref05_Twin.l0 k y0 y1 y2 y3) (catamaranref05_Twin.l0 (k + 1) y0 y1 y2 y3)) ∧ (∀ y0 y1 y2 y3 y4, LeO (catamaranref05_Twin.l1 k y0 y1 y2 y3 y4) (catamaranref05_Twin.l1 (k + 1) y0 y1 y2 y3 y4))
  | 0 => ⟨fun _ _ _ _ r h => by simp [catamaranref05_Twin.l0] at h, fun _ _ _ _ _ r h => by simp [catamaranref05_Twin.l1] at h⟩
  | k + 1 => by
    obtain ⟨ih0, ih1⟩ := catamaranref05_Twin.mono_l k
    refine ⟨?_, ?_⟩
    · intro y0 y1 y2 y3
      unfold catamaranref05_Twin.l0
      repeat' first
      | (with_reducible exact ih0 _ _ _ _)
      | (with_reducible exact ih1 _ _ _ _ _)
      | (with_reducible exact LeO.refl _)
      | (with_reducible exact LeO.none _)
      | (with_reducible refine LeO.ite ?_ ?_)
      | (with_reducible refine LeO.bind ?_ (fun _ => ?_))
      | exact ih0 _ _ _ _
      | exact ih1 _ _ _ _ _
      | exact LeO.none _
      | refine LeO.ite ?_ ?_
      | refine LeO.bind ?_ (fun _ => ?_)
    · intro y0 y1 y2 y3 y4
      unfold catamaranref05_Twin.l1
      repeat' first
      | (with_reducible exact ih0 _ _ _ _)
      | (with_reducible exact ih1 _ _ _ _ _)
      | (with_reducible exact LeO.refl _)
      | (with_reducible exact LeO.none _)
      | (with_reducible refine LeO.ite ?_ ?_)
      | (with_reducible refine LeO.bind ?_ (fun _ => ?_))
      | exact ih0 _ _ _ _
      | exact ih1 _ _ _ _ _
      | exact LeO.none _
      | refine LeO.ite ?_ ?_
      | refine LeO.bind ?_ (fun _ => ?_)
theorem catamaranref05_Twin.mono : ∀ a0 a1 k, LeO (catamaranref05_Twin.f k a0 a1) (catamaranref05_Twin.f (k + 1) a0 a1) := by
  intro a0 a1 k
  obtain ⟨ih0, ih1⟩ := catamaranref05_Twin.mono_l k
  unfold catamaranref05_Twin.f
  repeat' first
      | (with_reducible exact ih0 _ _ _ _)
      | (with_reducible exact ih1 _ _ _ _ _)
      | (with_reducible exact LeO.refl _)
      | (with_reducible exact LeO.none _)
      | (with_reducible refine LeO.ite ?_ ?_)
      | (with_reducible refine LeO.bind ?_ (fun _ => ?_))
      | exact ih0 _ _ _ _
      | exact ih1 _ _ _ _ _
      | exact LeO.none _
      | refine LeO.ite ?_ ?_
      | refine LeO.bind ?_ (fun _ => ?_)
def catamaranref05_Twin.T5 : Bool × List (List Nat × List Nat) := (true, [([], []), ([0], [0]), ([], []), ([], []), ([3], [3]), ([], []), ([4, 5], [4, 5]), ([6], [6]), ([7], [7]), ([2, 8], [2, 8]), ([], []), ([10], [10]), ([], []), ([11, 12], [11, 12]), ([13], [13]), ([14], [14]), ([9, 15], [9, 15]), ([16], [16]), ([1, 17, 9], [1, 17]), ([0, 1, 2, 3, 4, 5, 6, 7, 8, 9, 10, 11, 12, 13, 14, 15, 16, 17, 18], []), ([19, 18, 18, 0, 1, 2, 3, 4, 5, 6, 7, 8, 9, 10, 11, 12, 13, 14, 15, 16, 17, 18], [18, 19])])
def catamaranref05_Twin.B5 : List Nat := [0, 1, 0, 0, 8, 0, 56, 120, 248, 508, 0, 1024, 0, 7168, 15360, 31744, 65532, 131068, 262143, 524287, 1048575]
theorem catamaranref05_Twin.tab5 : rtab .any (opsOf Try.f25 5) = catamaranref05_Twin.T5 := by kernel_rfl
theorem catamaranref05_Twin.bits5 : waitsOk catamaranref05_Twin.T5.2 catamaranref05_Twin.B5 = true := by kernel_rfl
def catamaranref05_Twin.T9 : Bool × List (List Nat × List Nat) := (true, [([], []), ([0], [0]), ([], []), ([2], [2]), ([], []), ([3, 4], [3, 4]), ([5], [5]), ([6], [6]), ([], []), ([], []), ([9], [9]), ([], []), ([10, 11], [10, 11]), ([12], [12]), ([13], [13]), ([8, 14], [8, 14]), ([7, 15], [7, 15]), ([16], [16]), ([1, 17, 15], [1, 17]), ([0, 1, 2, 3, 4, 5, 6, 7, 8, 9, 10, 11, 12, 13, 14, 15, 16, 17, 18], []), ([19, 18, 18, 0, 1, 2, 3, 4, 5, 6, 7, 8, 9, 10, 11, 12, 13, 14, 15, 16, 17, 18], [18, 19])])
def catamaranref05_Twin.B9 : List Nat := [0, 1, 0, 4, 0, 28, 60, 124, 0, 0, 512, 0, 3584, 7680, 15872, 32512, 65532, 131068, 262143, 524287, 1048575]
theorem catamaranref05_Twin.tab9 : rtab .any (opsOf Try.f25 9) = catamaranref05_Twin.T9 := by kernel_rfl
theorem catamaranref05_Twin.bits9 : waitsOk catamaranref05_Twin.T9.2 catamaranref05_Twin.B9 = true := by kernel_rfl
set_option maxHeartbeats 8000000 in
set_option maxRecDepth 100000 in
theorem catamaranref05_Twin.calls (k : Nat) (A0_0 : Option Addr) (c0_0 : Nat) (l0_0 : List (S39)) (A0_1 : Option Addr) (c0_1 : Nat) (l0_1 : List (S49)) (r1 : List (S39)) (r2 : List (S49)) (w : World) (hr0_0 : Kd.C k39 w A0_0 l0_0.length l0_0) (hc0_0 : l0_0.length ≤ c0_0) (hr0_1 : Kd.C k49 w A0_1 l0_1.length l0_1) (hc0_1 : l0_1.length ≤ c0_1) (h : catamaranref05_Twin.f k l0_0 l0_1 = some (r1, r2)) :
    Calls Try.prog 25 #[.agg #[.slice A0_0 l0_0.length c0_0, .slice A0_1 l0_1.length c0_1]] w fun e w' => ∃ v0_ v1_ : Value, e = .returned (.agg #[v0_, v1_]) ∧ Kd.S k39 39 w' w.heap.size (fun _ => True) v0_ r1 ∧ Kd.S k49 49 w' w.heap.size (fun _ => True) v1_ r2 ∧ Below w.heap.size w w' := by
  have hu25 := Try.underlying25
  have hu39 := Try.underlying39
  have hu49 := Try.underlying49
  have HR0_0 := Aside0.mk hr0_0
  have HC0_0 := Aside0.mk hc0_0
  clear hr0_0 hc0_0
  have HR0_1 := Aside0.mk hr0_1
  have HC0_1 := Aside0.mk hc0_1
  clear hr0_1 hc0_1
  have HB := Aside0.mk (Below.refl w.heap.size w)
  have H : (catamaranref05_Twin.l0 k 0 l0_0 l0_1 ([] : List (S39))) = some (r1, r2) := h
  clear h
  have H' := Aside0.mk H
  clear H
  go_enter Try.func25, Try.ntmps25
  go_wp2_with (first | ((with_reducible refine gate_dst (N := 1) rfl ?_); refine box_event ?hg (N := 1) ?hd (cs := #[.slice A0_0 l0_0.length c0_0, .slice A0_1 l0_1.length c0_1]) (t := 25) ?hr ?_; (case hd => rfl); (case hg => rfl); (case hr => first | (go_simp; done) | (go_simp; rfl)); intro gb1006 hg w2 hbox hb; have n0_ := Aside0.mk (below_step (by repeat (first | (with_reducible first | exact HB.out | apply below_alloc | apply pbdN | apply bdr1) | exact HB.out)) hb); have n1_ := Aside0.mk (hbox); have n2_ := Aside0.mk ((by rw [hg]; exact (below_size (by repeat (first | (with_reducible first | exact HB.out | apply below_alloc | apply pbdN | apply bdr1) | exact HB.out))) : w.heap.size ≤ gb1006)); have n3_ := Aside0.mk ((by rw [hg]; exact (below_size (by repeat (first | (with_reducible first | exact HB.out | apply below_alloc | apply pbdN | apply bdr1) | exact HB.out))) : w.heap.size ≤ gb1006)); clear HB; have HB := n0_; have BK1006 := n1_; have GW1006 := n2_; have GE1006 := n3_; clear n0_ n1_ n2_ n3_; clear hb hbox hg) | ((with_reducible refine gate_dst (N := 2) rfl ?_); refine box_event ?hg (N := 2) ?hd (cs := #[.slice none 0 0, .slice none 0 0]) (t := 25) ?hr ?_; (case hd => rfl); (case hg => rfl); (case hr => first | (go_simp; done) | (go_simp; rfl)); intro gb1007 hg w3 hbox hb; have n0_ := Aside0.mk (blk_below (g := gb1006) (o := .cells #[.slice A0_0 l0_0.length c0_0, .slice A0_1 l0_1.length c0_1] 25 (0, 0)) (by (with_reducible repeat (first | refine blk_drewN ?_ _ | refine blk_drew ?_ | refine blk_alloc ?_ _)); exact BK1006.out) hb); have n1_ := Aside0.mk (below_step (by repeat (first | (with_reducible first | exact HB.out | apply below_alloc | apply pbdN | apply bdr1 | refine below_set ?_ GE1006.out) | exact HB.out)) hb); have n2_ := Aside0.mk (hbox); have n3_ := Aside0.mk ((by rw [hg]; exact (below_size (by repeat (first | (with_reducible first | exact HB.out | apply below_alloc | apply pbdN | apply bdr1 | refine below_set ?_ GE1006.out) | exact HB.out))) : w.heap.size ≤ gb1007)); have n4_ := Aside0.mk ((by rw [hg]; exact (below_size (by repeat (first | (with_reducible first | exact HB.out | apply below_alloc | apply pbdN | apply bdr1 | refine below_set ?_ GE1006.out) | exact HB.out))) : w.heap.size ≤ gb1007)); have n5_ := Aside0.mk ((by rw [hg]; exact Nat.ne_of_lt (blk_lt (g := gb1006) (o := .cells #[.slice A0_0 l0_0.length c0_0, .slice A0_1 l0_1.length c0_1] 25 (0, 0)) (by (with_reducible repeat (first | refine blk_drewN ?_ _ | refine blk_drew ?_ | refine blk_alloc ?_ _)); exact BK1006.out)) : gb1006 ≠ gb1007)); have n6_ := Aside0.mk ((by rw [hg]; exact Nat.ne_of_gt (blk_lt (g := gb1006) (o := .cells #[.slice A0_0 l0_0.length c0_0, .slice A0_1 l0_1.length c0_1] 25 (0, 0)) (by (with_reducible repeat (first | refine blk_drewN ?_ _ | refine blk_drew ?_ | refine blk_alloc ?_ _)); exact BK1006.out)) : gb1007 ≠ gb1006)); clear BK1006; clear HB; have BK1006 := n0_; have HB := n1_; have BK1007 := n2_; have GW1007 := n3_; have GE1007 := n4_; have NB1006_215 := n5_; have NB1007_214 := n6_; clear n0_ n1_ n2_ n3_ n4_ n5_ n6_; clear hb hbox hg) | ((with_reducible refine gate_dst (N := 3) rfl ?_); refine box_event ?hg (N := 3) ?hd (cs := #[.slice none 0 0, .slice none 0 0]) (t := 25) ?hr ?_; (case hd => rfl); (case hg => rfl); (case hr => first | (go_simp; done) | (go_simp; rfl)); intro gb1008 hg w4 hbox hb; have n0_ := Aside0.mk (blk_below (g := gb1006) (o := .cells #[.slice A0_0 l0_0.length c0_0, .slice A0_1 l0_1.length c0_1] 25 (0, 0)) (by (with_reducible repeat (first | refine blk_drewN ?_ _ | refine blk_drew ?_ | refine blk_alloc ?_ _)); exact BK1006.out) hb); have n1_ := Aside0.mk (blk_below (g := gb1007) (o := .cells #[.slice none 0 0, .slice none 0 0] 25 (0, 0)) (by (with_reducible repeat (first | refine blk_drewN ?_ _ | refine blk_drew ?_ | refine blk_alloc ?_ _)); exact BK1007.out) hb); have n2_ := Aside0.mk (below_step (by repeat (first | (with_reducible first | exact HB.out | apply below_alloc | apply pbdN | apply bdr1 | refine below_set ?_ GE1006.out | refine below_set ?_ GE1007.out) | exact HB.out)) hb); have n3_ := Aside0.mk (hbox); have n4_ := Aside0.mk ((by rw [hg]; exact (below_size (by repeat (first | (with_reducible first | exact HB.out | apply below_alloc | apply pbdN | apply bdr1 | refine below_set ?_ GE1006.out | refine below_set ?_ GE1007.out) | exact HB.out))) : w.heap.size ≤ gb1008)); have n5_ := Aside0.mk ((by rw [hg]; exact (below_size (by repeat (first | (with_reducible first | exact HB.out | apply below_alloc | apply pbdN | apply bdr1 | refine below_set ?_ GE1006.out | refine below_set ?_ GE1007.out) | exact HB.out))) : w.heap.size ≤ gb1008)); have n6_ := Aside0.mk ((by rw [hg]; exact Nat.ne_of_lt (blk_lt (g := gb1006) (o := .cells #[.slice A0_0 l0_0.length c0_0, .slice A0_1 l0_1.length c0_1] 25 (0, 0)) (by (with_reducible repeat (first | refine blk_drewN ?_ _ | refine blk_drew ?_ | refine blk_alloc ?_ _)); exact BK1006.out)) : gb1006 ≠ gb1008)); have n7_ := Aside0.mk ((by rw [hg]; exact Nat.ne_of_gt (blk_lt (g := gb1006) (o := .cells #[.slice A0_0 l0_0.length c0_0, .slice A0_1 l0_1.length c0_1] 25 (0, 0)) (by (with_reducible repeat (first | refine blk_drewN ?_ _ | refine blk_drew ?_ | refine blk_alloc ?_ _)); exact BK1006.out)) : gb1008 ≠ gb1006)); have n8_ := Aside0.mk ((by rw [hg]; exact Nat.ne_of_lt (blk_lt (g := gb1007) (o := .cells #[.slice none 0 0, .slice none 0 0] 25 (0, 0)) (by (with_reducible repeat (first | refine blk_drewN ?_ _ | refine blk_drew ?_ | refine blk_alloc ?_ _)); exact BK1007.out)) : gb1007 ≠ gb1008)); have n9_ := Aside0.mk ((by rw [hg]; exact Nat.ne_of_gt (blk_lt (g := gb1007) (o := .cells #[.slice none 0 0, .slice none 0 0] 25 (0, 0)) (by (with_reducible repeat (first | refine blk_drewN ?_ _ | refine blk_drew ?_ | refine blk_alloc ?_ _)); exact BK1007.out)) : gb1008 ≠ gb1007)); clear BK1006; clear BK1007; clear HB; have BK1006 := n0_; have BK1007 := n1_; have HB := n2_; have BK1008 := n3_; have GW1008 := n4_; have GE1008 := n5_; have NB1006_216 := n6_; have NB1008_214 := n7_; have NB1007_216 := n8_; have NB1008_215 := n9_; clear n0_ n1_ n2_ n3_ n4_ n5_ n6_ n7_ n8_ n9_; clear hb hbox hg))
  go_loopg [4] k (fun kq v4 w' => ∃ (x4_1 : Int) (x1002_1 : List (S39)) (u217000 : Value), v4 = .int .i64 x4_1 ∧ Aside0 (catamaranref05_Twin.l0 kq x4_1 l0_0 l0_1 x1002_1 = some (r1, r2)) ∧ Aside0 (kq ≤ k) ∧ Aside0 (Kd.S k39 39 w' w.heap.size (fun _ => True) u217000 x1002_1) ∧ Aside0 (w'.heap[gb1006]? = some (.cells #[(.slice A0_0 l0_0.length c0_0), (.slice A0_1 l0_1.length c0_1)] 25 (0, 0))) ∧ Aside0 (w'.heap[gb1007]? = some (.cells #[(.slice none 0 0), (.slice none 0 0)] 25 (0, 0))) ∧ Aside0 (w'.heap[gb1008]? = some (.cells #[u217000, (.slice none 0 0)] 25 (0, 0))) ∧ Aside0 (Below w.heap.size w w'))
  case atStart => exact ⟨(0), (([] : List (S39))), (.slice none 0 0), (by first | rfl | (simp; done) | (simp [*]; done)), H', ⟨Nat.le_refl _⟩, ⟨by first | exact Kd.S_nil _ _ _ _ _ | exact Kd.N_nil _ _ _ _ _ | exact Kd.V_nil _ _ _ _ _ | exact Kd.Q_nil _ _ _ _ _ | exact Kd.R_nil _ _ _ _ _⟩, ⟨by (with_reducible repeat (first | refine blk_drewN ?_ _ | refine blk_drew ?_ | refine blk_alloc ?_ _)); exact BK1006.out⟩, ⟨by (with_reducible repeat (first | refine blk_drewN ?_ _ | refine blk_drew ?_ | refine blk_alloc ?_ _)); exact BK1007.out⟩, ⟨by (with_reducible repeat (first | refine blk_drewN ?_ _ | refine blk_drew ?_ | refine blk_alloc ?_ _)); exact BK1008.out⟩, ⟨by repeat (first | (with_reducible first | exact HB.out | apply below_alloc | apply pbdN | apply bdr1 | refine below_set ?_ GE1006.out | refine below_set ?_ GE1007.out | refine below_set ?_ GE1008.out) | exact HB.out)⟩⟩
  case round =>
    clear H'
    try clear c2
    try clear p2
    obtain ⟨x4_1, x1002_1, u217000, rfl, HA, HK1, HO_1002, BK1006, BK1007, BK1008, HB⟩ := hrel
    cases gk with
    | zero => exact absurd HA.out (by simp [catamaranref05_Twin.l0])
    | succ k1 =>
      have H := HA.out
      clear HA
      simp only [catamaranref05_Twin.l0] at H
      by_cases c5 : x4_1 < (l0_0.length : Int)
      · rw [if_pos c5] at H
        have c5b0 : decide (x4_1 < (l0_0.length : Int)) = true := decide_eq_true c5
        clear c5
        obtain ⟨y1003, hy1003⟩ : ∃ y_ : List Int, y_ = (([] : List Int)) := ⟨_, rfl⟩
        replace H : (if 0 ≤ x4_1 then (if y1003.length + ((rd_T39 l0_0 x4_1).f0).length < 140737488355328 then (if x1002_1.length < 4398046511104 then (catamaranref05_Twin.l0 k1 (wrap64 (x4_1 + 1)) l0_0 l0_1 (x1002_1 ++ [(⟨(y1003 ++ ((rd_T39 l0_0 x4_1).f0)), (rd_T39 l0_0 x4_1).f1⟩ : S39)])) else (none)) else (none)) else (none)) = some (r1, r2) := by first | (rw [hy1003]; with_reducible exact H) | (have H2_ := (Option.bind_some _ _).symm.trans H; rw [hy1003]; with_reducible exact H2_) | (have H2_ := (Option.bind_some _ _).symm.trans H; with_reducible exact H2_) | with_reducible exact H | (rw [hy1003]; exact H) | exact H
        have Ny1003 := Aside0.mk hy1003
        clear hy1003
        by_cases c6 : 0 ≤ x4_1
        · rw [if_pos c6] at H
          have c6b0 : decide (0 ≤ x4_1) = true := decide_eq_true c6
          clear c6
          by_cases c7 : y1003.length + ((rd_T39 l0_0 x4_1).f0).length < 140737488355328
          · rw [if_pos c7] at H
            have LMc7 := Aside0.mk c7
            clear c7
            obtain ⟨y1009, hy1009⟩ : ∃ y_ : List Int, y_ = (y1003 ++ ((rd_T39 l0_0 x4_1).f0)) := ⟨_, rfl⟩
            replace H : (if x1002_1.length < 4398046511104 then (catamaranref05_Twin.l0 k1 (wrap64 (x4_1 + 1)) l0_0 l0_1 (x1002_1 ++ [(⟨y1009, (rd_T39 l0_0 x4_1).f1⟩ : S39)])) else (none)) = some (r1, r2) := by first | (rw [hy1009]; with_reducible exact H) | (have H2_ := (Option.bind_some _ _).symm.trans H; rw [hy1009]; with_reducible exact H2_) | (have H2_ := (Option.bind_some _ _).symm.trans H; with_reducible exact H2_) | with_reducible exact H | (rw [hy1009]; exact H) | exact H
            have Ny1009 := Aside0.mk hy1009
            clear hy1009
            by_cases c8 : x1002_1.length < 4398046511104
            · rw [if_pos c8] at H
              have LMc8 := Aside0.mk c8
              clear c8
              obtain ⟨y1010, hy1010⟩ : ∃ y_ : List (S39), y_ = (x1002_1 ++ [(⟨y1009, (rd_T39 l0_0 x4_1).f1⟩ : S39)]) := ⟨_, rfl⟩
              replace H : (catamaranref05_Twin.l0 k1 (wrap64 (x4_1 + 1)) l0_0 l0_1 y1010) = some (r1, r2) := by first | (rw [hy1010]; with_reducible exact H) | (have H2_ := (Option.bind_some _ _).symm.trans H; rw [hy1010]; with_reducible exact H2_) | (have H2_ := (Option.bind_some _ _).symm.trans H; with_reducible exact H2_) | with_reducible exact H | (rw [hy1010]; exact H) | exact H
              have Ny1010 := Aside0.mk hy1010
              clear hy1010
              have H' := Aside0.mk H
              clear H
              have hnb9 := NB1006_215.out
              have hnc9 := NB1007_214.out
              have hnb10 := NB1006_216.out
              have hnc10 := NB1008_214.out
              have hcz11_0 : wr.cell? ⟨gb1006, 0, none⟩ = some (.slice A0_0 l0_0.length c0_0) := (blk_cell BK1006.out 0).trans rfl
              have hcz11_1 : wr.cell? ⟨gb1006, 1, none⟩ = some (.slice A0_1 l0_1.length c0_1) := (blk_cell BK1006.out 1).trans rfl
              have hfz11_0 := blk_frozen BK1006.out 0
              have hfz11_1 := blk_frozen BK1006.out 1
              try go_wp2
              have n0_ := Aside0.mk (Kd.S_drew HO_1002.out)
              have n1_ := Aside0.mk (blk_drew BK1006.out)
              have n2_ := Aside0.mk (blk_drew BK1007.out)
              have n3_ := Aside0.mk (blk_drew BK1008.out)
              have n4_ := Aside0.mk (bdr1 HB.out)
              clear HO_1002
              clear BK1006
              clear BK1007
              clear BK1008
              clear HB
              have HO_1002 := n0_
              have BK1006 := n1_
              have BK1007 := n2_
              have BK1008 := n3_
              have HB := n4_
              clear n0_ n1_ n2_ n3_ n4_
              have p1011 : 0 ≤ (x4_1 : Int) := of_decide_eq_true (by first | (with_reducible assumption) | assumption)
              have q1011 : x4_1 < (l0_0.length : Int) := of_decide_eq_true (by first | (with_reducible assumption) | assumption)
              obtain ⟨ad1011, A1011_0, c1011_0, e1011, hx1011_0, hx1011_1, hl1011_0, hi1011_0⟩ := at_T39 HR0_0.out x4_1 p1011 q1011
              have hw1011_1 := hx1011_1
              have hw1011_0 := hx1011_0
              cases e1011
              replace hx1011_0 := (HB.out.cell (World.block_lt_of_cell? w _ hx1011_0)).trans hx1011_0
              replace hx1011_1 := (HB.out.cell (World.block_lt_of_cell? w _ hx1011_1)).trans hx1011_1
              have HR1011_0 := Aside0.mk hi1011_0
              have HC1011_0 := Aside0.mk hl1011_0
              clear hi1011_0 hl1011_0
              replace p1011 := eq_true p1011
              replace q1011 := eq_true q1011
              have p1012 : 0 ≤ (x4_1 : Int) := of_decide_eq_true (by first | (with_reducible assumption) | assumption)
              have q1012 : x4_1 < (l0_0.length : Int) := of_decide_eq_true (by first | (with_reducible assumption) | assumption)
              obtain ⟨ad1012, A1012_0, c1012_0, e1012, hx1012_0, hx1012_1, hl1012_0, hi1012_0⟩ := at_T39 HR0_0.out x4_1 p1012 q1012
              have hw1012_1 := hx1012_1
              have hw1012_0 := hx1012_0
              obtain rfl : ad1011 = ad1012 := (by injection e1012)
              replace hx1012_0 := (HB.out.cell (World.block_lt_of_cell? w _ hx1012_0)).trans hx1012_0
              replace hx1012_1 := (HB.out.cell (World.block_lt_of_cell? w _ hx1012_1)).trans hx1012_1
              have HR1012_0 := Aside0.mk hi1012_0
              have HC1012_0 := Aside0.mk hl1012_0
              clear hi1012_0 hl1012_0
              replace p1012 := eq_true p1012
              replace q1012 := eq_true q1012
              have ea_ := Option.some.inj (hx1011_0.symm.trans hx1012_0)
              injection ea_ with ea_ en_ ec_
              subst ea_
              subst ec_
              clear en_
              refine start_ (n := 21) (S := fun w' => w'.cell? ⟨gb1008, 0, none⟩ = some (u217000) ∧ w'.cell? ⟨gb1008, 1, none⟩ = some (.slice none 0 0) ∧ w'.cell? ⟨gb1006, 0, none⟩ = some (.slice (some ad1011) l0_0.length c0_0) ∧ w'.cell? ⟨gb1006, 1, none⟩ = some (.slice A0_1 l0_1.length c0_1) ∧ w'.cell? (ad1011.add ((x4_1).toNat * 2)) = some (.slice A1011_0 ((rd_T39 l0_0 x4_1).f0).length c1011_0) ∧ w'.cell? ⟨(ad1011.add ((x4_1).toNat * 2)).block, (ad1011.add ((x4_1).toNat * 2)).off + 1, none⟩ = some (.bool ((rd_T39 l0_0 x4_1).f1)) ∧ w'.cell? (ad1011.add ((x4_1).toNat * 2)) = some (.slice A1011_0 ((rd_T39 l0_0 x4_1).f0).length c1011_0) ∧ w'.cell? ⟨(ad1011.add ((x4_1).toNat * 2)).block, (ad1011.add ((x4_1).toNat * 2)).off + 1, none⟩ = some (.bool ((rd_T39 l0_0 x4_1).f1))) (ds := [20]) #[false, false, false, false, false, false, false, false, false, false, false, false, false, false, false, false, false, false, false, false, false] (by kernel_rfl) rfl rfl ⟨(blk_cell BK1008.out 0).trans rfl, (blk_cell BK1008.out 1).trans rfl, (blk_cell BK1006.out 0).trans rfl, (blk_cell BK1006.out 1).trans rfl, ((HB.out.cell (World.block_lt_of_cell? w _ hw1011_0)).trans hw1011_0), ((HB.out.cell (World.block_lt_of_cell? w _ hw1011_1)).trans hw1011_1), ((HB.out.cell (World.block_lt_of_cell? w _ hw1012_0)).trans hw1012_0), ((HB.out.cell (World.block_lt_of_cell? w _ hw1012_1)).trans hw1012_1)⟩ (fun hHeld => ?_); refine wtW catamaranref05_Twin.tab5 catamaranref05_Twin.bits5 (fun HT_ HW_ => ?_)
              generalize wr.drew = w12 at HO_1002 BK1006 BK1007 BK1008 HB HR1011_0 HR1012_0 hx1011_0 hx1011_1 hx1012_0 hx1012_1 hHeld ⊢
              refine pure_ (i := 0) (N := some 13) (v := ?_) (a' := ?_) #[true, false, false, false, false, false, false, false, false, false, false, false, false, false, false, false, false, false, false, false, false] rfl rfl (any_of HT_.out (by kernel_rfl)) (fun _ _ _ h => h) (Or.inl ⟨by rfl, ?_⟩) ?_ ?_
              rotate_left
              · intro w'
                go_simp
                with_reducible rfl
              rotate_left
              · simp only [Act.put, List.setIfInBounds_toArray, List.set_cons_zero, List.set_cons_succ, i64_w, i32_w]
                rfl
              refine pure_ (i := 3) (N := some 16) (v := ?_) (a' := ?_) #[true, false, false, true, false, false, false, false, false, false, false, false, false, false, false, false, false, false, false, false, false] rfl rfl (any_of HT_.out (by kernel_rfl)) (fun _ _ _ h => h) (Or.inl ⟨by rfl, ?_⟩) ?_ ?_
              rotate_left
              · intro w'
                go_simp
                with_reducible rfl
              rotate_left
              · simp only [Act.put, List.setIfInBounds_toArray, List.set_cons_zero, List.set_cons_succ, i64_w, i32_w]
                rfl
              refine pure_ (i := 5) (N := some 18) (v := ?_) (a' := ?_) #[true, false, false, true, false, true, false, false, false, false, false, false, false, false, false, false, false, false, false, false, false] rfl rfl (any_of HT_.out (by kernel_rfl)) (fun _ _ _ h => h) (Or.inl ⟨by rfl, ?_⟩) ?_ ?_
              rotate_left
              · intro w'
                go_simp
                with_reducible rfl
              rotate_left
              · simp only [Act.put, List.setIfInBounds_toArray, List.set_cons_zero, List.set_cons_succ, i64_w, i32_w]
                rfl
              refine pure_ (i := 10) (N := some 23) (v := ?_) (a' := ?_) #[true, false, false, true, false, true, false, false, false, false, true, false, false, false, false, false, false, false, false, false, false] rfl rfl (any_of HT_.out (by kernel_rfl)) (fun _ _ _ h => h) (Or.inl ⟨by rfl, ?_⟩) ?_ ?_
              rotate_left
              · intro w'
                go_simp
                with_reducible rfl
              rotate_left
              · simp only [Act.put, List.setIfInBounds_toArray, List.set_cons_zero, List.set_cons_succ, i64_w, i32_w]
                rfl
              refine pure_ (i := 12) (N := some 25) (v := ?_) (a' := ?_) #[true, false, false, true, false, true, false, false, false, false, true, false, true, false, false, false, false, false, false, false, false] rfl rfl (any_of HT_.out (by kernel_rfl)) (fun _ _ _ h => h) (Or.inl ⟨by rfl, ?_⟩) ?_ ?_
              rotate_left
              · intro w'
                go_simp
                with_reducible rfl
              rotate_left
              · simp only [Act.put, List.setIfInBounds_toArray, List.set_cons_zero, List.set_cons_succ, i64_w, i32_w]
                rfl
              refine take_ (i := 1) (N := some 14) (v := ?_) (a' := ?_) #[true, true, false, true, false, true, false, false, false, false, true, false, true, false, false, false, false, false, false, false, false] rfl rfl (take_ofW HT_.out HW_.out (by kernel_rfl)) (fun _ _ _ h => h) (Or.inl ⟨by rfl, ?_⟩) hHeld ?_ ?_
              rotate_left
              · rintro w' ⟨s0, s1, s2, s3, s4, s5, s6, s7⟩
                go_simp
                with_reducible rfl
              rotate_left
              · simp only [Act.put, List.setIfInBounds_toArray, List.set_cons_zero, List.set_cons_succ, i64_w, i32_w]
                rfl
              refine take_ (i := 4) (N := some 17) (v := ?_) (a' := ?_) #[true, true, false, true, true, true, false, false, false, false, true, false, true, false, false, false, false, false, false, false, false] rfl rfl (take_ofW HT_.out HW_.out (by kernel_rfl)) (fun _ _ _ h => h) (Or.inl ⟨by rfl, ?_⟩) hHeld ?_ ?_
              rotate_left
              · rintro w' ⟨s0, s1, s2, s3, s4, s5, s6, s7⟩
                go_simp
                with_reducible rfl
              rotate_left
              · simp only [Act.put, List.setIfInBounds_toArray, List.set_cons_zero, List.set_cons_succ, i64_w, i32_w]
                rfl
              refine pure_ (i := 6) (N := some 19) (v := ?_) (a' := ?_) #[true, true, false, true, true, true, true, false, false, false, true, false, true, false, false, false, false, false, false, false, false] rfl rfl (any_of HT_.out (by kernel_rfl)) (fun _ _ _ h => h) (Or.inl ⟨by rfl, ?_⟩) ?_ ?_
              rotate_left
              · intro w'
                go_simp
                with_reducible rfl
              rotate_left
              · simp only [Act.put, List.setIfInBounds_toArray, List.set_cons_zero, List.set_cons_succ, i64_w, i32_w]
                rfl
              refine pure_ (i := 7) (N := some 20) (v := ?_) (a' := ?_) #[true, true, false, true, true, true, true, true, false, false, true, false, true, false, false, false, false, false, false, false, false] rfl rfl (any_of HT_.out (by kernel_rfl)) (fun _ _ _ h => h) (Or.inl ⟨by rfl, ?_⟩) ?_ ?_
              rotate_left
              · intro w'
                go_simp
                with_reducible rfl
              rotate_left
              · simp only [Act.put, List.setIfInBounds_toArray, List.set_cons_zero, List.set_cons_succ, i64_w, i32_w]
                rfl
              refine take_ (i := 8) (N := some 21) (v := ?_) (a' := ?_) #[true, true, false, true, true, true, true, true, true, false, true, false, true, false, false, false, false, false, false, false, false] rfl rfl (take_ofW HT_.out HW_.out (by kernel_rfl)) (fun _ _ _ h => h) (Or.inl ⟨by rfl, ?_⟩) hHeld ?_ ?_
              rotate_left
              · rintro w' ⟨s0, s1, s2, s3, s4, s5, s6, s7⟩
                go_simp
                with_reducible rfl
              rotate_left
              · simp only [Act.put, List.setIfInBounds_toArray, List.set_cons_zero, List.set_cons_succ, i64_w, i32_w]
                rfl
              refine take_ (i := 11) (N := some 24) (v := ?_) (a' := ?_) #[true, true, false, true, true, true, true, true, true, false, true, true, true, false, false, false, false, false, false, false, false] rfl rfl (take_ofW HT_.out HW_.out (by kernel_rfl)) (fun _ _ _ h => h) (Or.inl ⟨by rfl, ?_⟩) hHeld ?_ ?_
              rotate_left
              · rintro w' ⟨s0, s1, s2, s3, s4, s5, s6, s7⟩
                go_simp
                with_reducible rfl
              rotate_left
              · simp only [Act.put, List.setIfInBounds_toArray, List.set_cons_zero, List.set_cons_succ, i64_w, i32_w]
                rfl
              refine pure_ (i := 13) (N := some 26) (v := ?_) (a' := ?_) #[true, true, false, true, true, true, true, true, true, false, true, true, true, true, false, false, false, false, false, false, false] rfl rfl (any_of HT_.out (by kernel_rfl)) (fun _ _ _ h => h) (Or.inl ⟨by rfl, ?_⟩) ?_ ?_
              rotate_left
              · intro w'
                go_simp
                with_reducible rfl
              rotate_left
              · simp only [Act.put, List.setIfInBounds_toArray, List.set_cons_zero, List.set_cons_succ, i64_w, i32_w]
                rfl
              refine pure_ (i := 14) (N := some 27) (v := ?_) (a' := ?_) #[true, true, false, true, true, true, true, true, true, false, true, true, true, true, true, false, false, false, false, false, false] rfl rfl (any_of HT_.out (by kernel_rfl)) (fun _ _ _ h => h) (Or.inl ⟨by rfl, ?_⟩) ?_ ?_
              rotate_left
              · intro w'
                go_simp
                with_reducible rfl
              rotate_left
              · simp only [Act.put, List.setIfInBounds_toArray, List.set_cons_zero, List.set_cons_succ, i64_w, i32_w]
                rfl
              refine take_ (i := 15) (N := some 28) (v := ?_) (a' := ?_) #[true, true, false, true, true, true, true, true, true, false, true, true, true, true, true, true, false, false, false, false, false] rfl rfl (take_ofW HT_.out HW_.out (by kernel_rfl)) (fun _ _ _ h => h) (Or.inl ⟨by rfl, ?_⟩) hHeld ?_ ?_
              rotate_left
              · rintro w' ⟨s0, s1, s2, s3, s4, s5, s6, s7⟩
                go_simp
                with_reducible rfl
              rotate_left
              · simp only [Act.put, List.setIfInBounds_toArray, List.set_cons_zero, List.set_cons_succ, i64_w, i32_w]
                rfl
              refine one_ (i := 2) (N := some 15) #[true, true, true, true, true, true, true, true, true, false, true, true, true, true, true, true, false, false, false, false, false] rfl rfl (one_of HT_.out (by kernel_rfl)) (by decide) (fun K hK => ?_)
              refine Kd.R_lit_step (Kd.int .u8) _ 5 ?hg (N := 15) ?hd (xs := ([] : List Int)) (inner := []) (ok := fun _ => True) (okp := fun _ => True) ?hr ?hp (fun _ hk => hk) trivial (Below.refl _ _) (Nat.le_refl _) (by simp) ?_; (case hd => rfl); (case hg => rfl); (case hr => first | (go_simp; done) | (go_simp; rfl)); (case hp => exact (Reps.none _ _))
              intro v1013 w13 ho14 hb hg_ hnew_
              clear hg_ hnew_
              (first | rw [← Ny1003.out] at ho14 | (simp only [Int.reduceToNat] at ho14; rw [← Ny1003.out] at ho14))
              have n0_ := Aside0.mk (Kd.S_elder' (by (with_reducible repeat (first | apply Kd.S_alloc | apply Kd.S_drewN | apply Kd.S_drew)); exact HO_1002.out) (Kd.R_base ho14) hb)
              have n1_ := Aside0.mk (Kd.R_lower ho14 (below_size (by repeat (first | (with_reducible first | exact HB.out | apply below_alloc | apply pbdN | apply bdr1 | refine below_set ?_ GE1006.out | refine below_set ?_ GE1007.out | refine below_set ?_ GE1008.out) | exact HB.out))))
              have n2_ := Aside0.mk (blk_below (g := gb1006) (o := .cells #[.slice (some ad1011) l0_0.length c0_0, .slice A0_1 l0_1.length c0_1] 25 (0, 0)) (by (with_reducible repeat (first | refine blk_drewN ?_ _ | refine blk_drew ?_ | refine blk_alloc ?_ _)); exact BK1006.out) hb)
              have n3_ := Aside0.mk (blk_below (g := gb1007) (o := .cells #[.slice none 0 0, .slice none 0 0] 25 (0, 0)) (by (with_reducible repeat (first | refine blk_drewN ?_ _ | refine blk_drew ?_ | refine blk_alloc ?_ _)); exact BK1007.out) hb)
              have n4_ := Aside0.mk (blk_below (g := gb1008) (o := .cells #[u217000, .slice none 0 0] 25 (0, 0)) (by (with_reducible repeat (first | refine blk_drewN ?_ _ | refine blk_drew ?_ | refine blk_alloc ?_ _)); exact BK1008.out) hb)
              have n5_ := Aside0.mk (below_step (by repeat (first | (with_reducible first | exact HB.out | apply below_alloc | apply pbdN | apply bdr1 | refine below_set ?_ GE1006.out | refine below_set ?_ GE1007.out | refine below_set ?_ GE1008.out) | exact HB.out)) hb)
              clear HO_1002
              clear BK1006
              clear BK1007
              clear BK1008
              clear HB
              have HO_1002 := n0_
              have HO1014 := n1_
              have BK1006 := n2_
              have BK1007 := n3_
              have BK1008 := n4_
              have HB := n5_
              clear n0_ n1_ n2_ n3_ n4_ n5_
              clear hb ho14
              refine hK.out _ _ ⟨(blk_cell BK1008.out 0).trans rfl, (blk_cell BK1008.out 1).trans rfl, (blk_cell BK1006.out 0).trans rfl, (blk_cell BK1006.out 1).trans rfl, ((HB.out.cell (World.block_lt_of_cell? w _ hw1011_0)).trans hw1011_0), ((HB.out.cell (World.block_lt_of_cell? w _ hw1011_1)).trans hw1011_1), ((HB.out.cell (World.block_lt_of_cell? w _ hw1012_0)).trans hw1012_0), ((HB.out.cell (World.block_lt_of_cell? w _ hw1012_1)).trans hw1012_1)⟩ (fun hHeld => ?_)
              clear hK K
              refine norm_ (a' := ?_) ?_ ?_
              rotate_left
              · show Act.put _ (some 15) _ = _
                simp only [Act.put, List.setIfInBounds_toArray, List.set_cons_zero, List.set_cons_succ, i64_w, i32_w]
                rfl
              refine one_ (i := 9) (N := some 22) #[true, true, true, true, true, true, true, true, true, true, true, true, true, true, true, true, false, false, false, false, false] rfl rfl (one_of HT_.out (by kernel_rfl)) (by decide) (fun K hK => ?_)
              refine Kd.R_append_rows_step (Kd.int .u8) (w0 := w) w.heap.size (by rfl) (.tmp 15) (.tmp 21) 31 5 (.int .u8 0) 1 rfl Try.underlying31 info5 rfl (by decide) (by omega) v1013 y1003 ((rd_T39 l0_0 x4_1).f0) _ _ _ (fun _ => True) (fun _ => False) rfl rfl ?aO ?aR (fun _ _ h => h) (fun _ h => h.elim) ?aF ?aB ?aS ?aL ?_
              (case aR => repeat (first | exact (Kd.C_below HR1011_0.out HB.out) | (with_reducible refine Kd.C_alloc ?_ _) | (with_reducible refine Kd.C_drewN ?_ _) | (with_reducible refine Kd.C_drew ?_)))
              (case aB => exact (by repeat (first | (with_reducible first | exact HB.out | apply below_alloc | apply pbdN | apply bdr1 | refine below_set ?_ GE1006.out | refine below_set ?_ GE1007.out | refine below_set ?_ GE1008.out) | exact HB.out)))
              (case aF => exact (fun _ _ => trivial))
              (case aO => exact (by (with_reducible repeat (first | apply Kd.R_alloc | apply Kd.R_drewN | apply Kd.R_drew)); exact HO1014.out))
              (case aS => exact (below_size (by repeat (first | (with_reducible first | exact HB.out | apply below_alloc | apply pbdN | apply bdr1 | refine below_set ?_ GE1006.out | refine below_set ?_ GE1007.out | refine below_set ?_ GE1008.out) | exact HB.out))))
              (case aL => have := LMc7.out; omega)
              intro v1015 w15 ho hb hg hat
              rw [← Ny1009.out] at ho
              have n0_ := Aside0.mk (Kd.S_after (ok := (fun _ => True)) (by (with_reducible repeat (first | apply Kd.S_alloc | apply Kd.S_drewN | apply Kd.S_drew)); exact HO_1002.out) hg hat)
              have n1_ := Aside0.mk (blk_grown (g := gb1006) (o := .cells #[.slice (some ad1011) l0_0.length c0_0, .slice A0_1 l0_1.length c0_1] 25 (0, 0)) (by (with_reducible repeat (first | refine blk_drewN ?_ _ | refine blk_drew ?_ | refine blk_alloc ?_ _)); exact BK1006.out) hg (Kd.R_ne HO1014.out BK1006.out (by decide)))
              have n2_ := Aside0.mk (blk_grown (g := gb1007) (o := .cells #[.slice none 0 0, .slice none 0 0] 25 (0, 0)) (by (with_reducible repeat (first | refine blk_drewN ?_ _ | refine blk_drew ?_ | refine blk_alloc ?_ _)); exact BK1007.out) hg (Kd.R_ne HO1014.out BK1007.out (by decide)))
              have n3_ := Aside0.mk (blk_grown (g := gb1008) (o := .cells #[u217000, .slice none 0 0] 25 (0, 0)) (by (with_reducible repeat (first | refine blk_drewN ?_ _ | refine blk_drew ?_ | refine blk_alloc ?_ _)); exact BK1008.out) hg (Kd.R_ne HO1014.out BK1008.out (by decide)))
              have n4_ := Aside0.mk (hb)
              have n5_ := Aside0.mk (ho)
              clear HO_1002
              clear BK1006
              clear BK1007
              clear BK1008
              clear HB
              clear HO1014
              have HO_1002 := n0_
              have BK1006 := n1_
              have BK1007 := n2_
              have BK1008 := n3_
              have HB := n4_
              have HO1016 := n5_
              clear n0_ n1_ n2_ n3_ n4_ n5_
              clear ho hb hg hat
              obtain ⟨Ao16, co16, eo16⟩ := Kd.R_slice HO1016.out
              (first | subst eo16 | (injection eo16 with f1_ f2_ f3_; have f4_ := f1_.symm; have f5_ := f3_.symm; clear f1_ f2_ f3_; subst f4_; subst f5_))
              refine hK.out _ _ ⟨(blk_cell BK1008.out 0).trans rfl, (blk_cell BK1008.out 1).trans rfl, (blk_cell BK1006.out 0).trans rfl, (blk_cell BK1006.out 1).trans rfl, ((HB.out.cell (World.block_lt_of_cell? w _ hw1011_0)).trans hw1011_0), ((HB.out.cell (World.block_lt_of_cell? w _ hw1011_1)).trans hw1011_1), ((HB.out.cell (World.block_lt_of_cell? w _ hw1012_0)).trans hw1012_0), ((HB.out.cell (World.block_lt_of_cell? w _ hw1012_1)).trans hw1012_1)⟩ (fun hHeld => ?_)
              clear hK K
              refine norm_ (a' := ?_) ?_ ?_
              rotate_left
              · show Act.put _ (some 22) _ = _
                simp only [Act.put, List.setIfInBounds_toArray, List.set_cons_zero, List.set_cons_succ, i64_w, i32_w]
                rfl
              refine pure_ (i := 16) (N := some 29) (v := ?_) (a' := ?_) #[true, true, true, true, true, true, true, true, true, true, true, true, true, true, true, true, true, false, false, false, false] rfl rfl (any_of HT_.out (by kernel_rfl)) (fun _ _ _ h => h) (Or.inl ⟨by rfl, ?_⟩) ?_ ?_
              rotate_left
              · intro w'
                go_simp
                with_reducible rfl
              rotate_left
              · simp only [Act.put, List.setIfInBounds_toArray, List.set_cons_zero, List.set_cons_succ, i64_w, i32_w]
                rfl
              refine one_ (i := 17) (N := some 30) #[true, true, true, true, true, true, true, true, true, true, true, true, true, true, true, true, true, true, false, false, false] rfl rfl (one_of HT_.out (by kernel_rfl)) (by decide) (fun K hK => ?_)
              refine value_ (w1 := ?_) (v := ?_) (by rfl) rfl ?_ ?_
              rotate_left 2
              · go_simp
                constructor
                · rfl
                · rfl
              refine hK.out _ _ ⟨(blk_cell (blk_alloc BK1008.out _) 0).trans rfl, (blk_cell (blk_alloc BK1008.out _) 1).trans rfl, (blk_cell (blk_alloc BK1006.out _) 0).trans rfl, (blk_cell (blk_alloc BK1006.out _) 1).trans rfl, (World.cell?_alloc_lt _ _ _ (World.block_lt_of_cell? _ _ (((HB.out.cell (World.block_lt_of_cell? w _ hw1011_0)).trans hw1011_0)))).trans (((HB.out.cell (World.block_lt_of_cell? w _ hw1011_0)).trans hw1011_0)), (World.cell?_alloc_lt _ _ _ (World.block_lt_of_cell? _ _ (((HB.out.cell (World.block_lt_of_cell? w _ hw1011_1)).trans hw1011_1)))).trans (((HB.out.cell (World.block_lt_of_cell? w _ hw1011_1)).trans hw1011_1)), (World.cell?_alloc_lt _ _ _ (World.block_lt_of_cell? _ _ (((HB.out.cell (World.block_lt_of_cell? w _ hw1012_0)).trans hw1012_0)))).trans (((HB.out.cell (World.block_lt_of_cell? w _ hw1012_0)).trans hw1012_0)), (World.cell?_alloc_lt _ _ _ (World.block_lt_of_cell? _ _ (((HB.out.cell (World.block_lt_of_cell? w _ hw1012_1)).trans hw1012_1)))).trans (((HB.out.cell (World.block_lt_of_cell? w _ hw1012_1)).trans hw1012_1))⟩ (fun hHeld => ?_)
              clear hK K
              refine norm_ (a' := ?_) ?_ ?_
              rotate_left
              · show Act.put _ (some 30) _ = _
                simp only [Act.put, List.setIfInBounds_toArray, List.set_cons_zero, List.set_cons_succ, i64_w, i32_w]
                rfl
              refine one_ (i := 18) (N := some 31) #[true, true, true, true, true, true, true, true, true, true, true, true, true, true, true, true, true, true, true, false, false] rfl rfl (one_of HT_.out (by kernel_rfl)) (by decide) (fun K hK => ?_)
              refine Kd.S_append_step k39 (w0 := w) w.heap.size (by rfl) (.tmp 14) (.tmp 30) 22 39 (.agg #[(.slice none 0 0), (.bool false)]) 32 rfl Try.underlying22 info39 rfl (by decide) (by omega) u217000 x1002_1 (⟨y1009, (rd_T39 l0_0 x4_1).f1⟩ : S39) [.slice Ao16 y1009.length co16, .bool ((rd_T39 l0_0 x4_1).f1)] (fun _ => True) (fun k_ => some k_ = (.slice Ao16 y1009.length co16 : Value).ownBlock) rfl rfl ?aP (fun k_ hk_ => ((Kd.R_mono (ok' := fun k_ => ((fun _ => True)) k_ ∧ some k_ ≠ (u217000 : Value).ownBlock) (Kd.R_apart' (HO1016.out) (Kd.S_typed HO_1002.out) (by decide)) (fun k_ hk => ⟨trivial, hk.2⟩))).1 k_ hk_.symm) ?aF ?aO ?aB ?aS ?aL ?_
              (case aP => exact k39_mkM _ _ _ (⟨y1009, (rd_T39 l0_0 x4_1).f1⟩ : S39) (Kd.R_mono (Kd.R_tight rfl (Kd.R_mono (ok' := fun k_ => ((fun _ => True)) k_ ∧ some k_ ≠ (u217000 : Value).ownBlock) (Kd.R_apart' (HO1016.out) (Kd.S_typed HO_1002.out) (by decide)) (fun k_ hk => ⟨trivial, hk.2⟩))) (fun _ h_ => h_)))
              (case aB => exact (by repeat (first | (with_reducible first | exact HB.out | apply below_alloc | apply pbdN | apply bdr1 | refine below_set ?_ GE1006.out | refine below_set ?_ GE1007.out | refine below_set ?_ GE1008.out) | exact HB.out)))
              (case aF => exact (fun _ _ => trivial))
              (case aO => exact (by (with_reducible repeat (first | apply Kd.S_alloc | apply Kd.S_drewN | apply Kd.S_drew)); exact Kd.S_mono HO_1002.out (fun k_ hk => ⟨trivial, fun e_ => hk.2 e_⟩)))
              (case aS => exact (below_size (by repeat (first | (with_reducible first | exact HB.out | apply below_alloc | apply pbdN | apply bdr1 | refine below_set ?_ GE1006.out | refine below_set ?_ GE1007.out | refine below_set ?_ GE1008.out) | exact HB.out))))
              (case aL => have := LMc8.out; omega)
              intro v1017 w17 ho hb hg hat
              rw [← Ny1010.out] at ho
              have n0_ := Aside0.mk (blk_grown (g := gb1006) (o := .cells #[.slice (some ad1011) l0_0.length c0_0, .slice A0_1 l0_1.length c0_1] 25 (0, 0)) (by (with_reducible repeat (first | refine blk_drewN ?_ _ | refine blk_drew ?_ | refine blk_alloc ?_ _)); exact BK1006.out) hg (Kd.S_ne HO_1002.out BK1006.out (by decide)))
              have n1_ := Aside0.mk (blk_grown (g := gb1007) (o := .cells #[.slice none 0 0, .slice none 0 0] 25 (0, 0)) (by (with_reducible repeat (first | refine blk_drewN ?_ _ | refine blk_drew ?_ | refine blk_alloc ?_ _)); exact BK1007.out) hg (Kd.S_ne HO_1002.out BK1007.out (by decide)))
              have n2_ := Aside0.mk (blk_grown (g := gb1008) (o := .cells #[u217000, .slice none 0 0] 25 (0, 0)) (by (with_reducible repeat (first | refine blk_drewN ?_ _ | refine blk_drew ?_ | refine blk_alloc ?_ _)); exact BK1008.out) hg (Kd.S_ne HO_1002.out BK1008.out (by decide)))
              have n3_ := Aside0.mk (hb)
              have n4_ := Aside0.mk (ho)
              clear BK1006
              clear BK1007
              clear BK1008
              clear HB
              clear HO_1002
              clear HO1016
              have BK1006 := n0_
              have BK1007 := n1_
              have BK1008 := n2_
              have HB := n3_
              have HO1018 := n4_
              clear n0_ n1_ n2_ n3_ n4_
              clear ho hb hg hat
              obtain ⟨Ao18, co18, eo18⟩ := Kd.S_slice HO1018.out
              (first | subst eo18 | (injection eo18 with f1_ f2_ f3_; have f4_ := f1_.symm; have f5_ := f3_.symm; clear f1_ f2_ f3_; subst f4_; subst f5_))
              refine hK.out _ _ ⟨(blk_cell BK1008.out 0).trans rfl, (blk_cell BK1008.out 1).trans rfl, (blk_cell BK1006.out 0).trans rfl, (blk_cell BK1006.out 1).trans rfl, ((HB.out.cell (World.block_lt_of_cell? w _ hw1011_0)).trans hw1011_0), ((HB.out.cell (World.block_lt_of_cell? w _ hw1011_1)).trans hw1011_1), ((HB.out.cell (World.block_lt_of_cell? w _ hw1012_0)).trans hw1012_0), ((HB.out.cell (World.block_lt_of_cell? w _ hw1012_1)).trans hw1012_1)⟩ (fun hHeld => ?_)
              clear hK K
              refine norm_ (a' := ?_) ?_ ?_
              rotate_left
              · show Act.put _ (some 31) _ = _
                simp only [Act.put, List.setIfInBounds_toArray, List.set_cons_zero, List.set_cons_succ, i64_w, i32_w]
                rfl
              refine pure_ (i := 19) (N := some 32) (v := ?_) (a' := ?_) #[true, true, true, true, true, true, true, true, true, true, true, true, true, true, true, true, true, true, true, true, false] rfl rfl (any_of HT_.out (by kernel_rfl)) (fun _ _ _ h => h) (Or.inl ⟨by rfl, ?_⟩) ?_ ?_
              rotate_left
              · intro w'
                go_simp
                with_reducible rfl
              rotate_left
              · simp only [Act.put, List.setIfInBounds_toArray, List.set_cons_zero, List.set_cons_succ, i64_w, i32_w]
                rfl
              refine last_ (i := 20) (N := none) #[true, true, true, true, true, true, true, true, true, true, true, true, true, true, true, true, true, true, true, true, true] rfl rfl (one_of HT_.out (by kernel_rfl)) (by decide) (fun K hK => ?_)
              have hs19 : w17.cell? ⟨gb1008, 0, none⟩ = some (u217000) := (blk_cell BK1008.out 0).trans rfl
              have hfs19 := blk_frozen BK1008.out 0
              have hns19_0 := NB1006_216.out
              have hns19_1 := NB1007_216.out
              have hms19_0 := NB1008_214.out
              have hms19_1 := NB1008_215.out
              refine skip_ (w1 := ?_) (by rfl) rfl ?_ ?_
              rotate_left
              · go_simp
                rfl
              refine hK.out _ _ ?_
              clear hK K
              refine done_ (done_of HT_.out (by kernel_rfl)) ?_
              try go_wp2
              go_roundg k1
              case measure => have := HK1.out; omega
              case rel => exact ⟨(wrap64 (x4_1 + 1)), (y1010), (.slice Ao18 y1010.length co18), (by first | rfl | (simp; done) | (simp [*]; done)), H', ⟨by have := HK1.out; omega⟩, ⟨by (with_reducible repeat (first | apply Kd.S_alloc | apply Kd.S_drewN | apply Kd.S_drew)); exact Kd.S_mono (Kd.S_far (p := ⟨gb1008, 0, none⟩) (Kd.S_types HO1018.out BK1008.out (by decide)) (fun _ hk => hk.2) (.slice Ao18 y1010.length co18)) (fun _ hk => trivial)⟩, ⟨by (with_reducible repeat (first | refine blk_drewN ?_ _ | refine blk_drew ?_ | refine blk_alloc ?_ _)); refine blk_far ?_ NB1006_216.out _; (with_reducible repeat (first | refine blk_drewN ?_ _ | refine blk_drew ?_ | refine blk_alloc ?_ _)); exact BK1006.out⟩, ⟨by (with_reducible repeat (first | refine blk_drewN ?_ _ | refine blk_drew ?_ | refine blk_alloc ?_ _)); refine blk_far ?_ NB1007_216.out _; (with_reducible repeat (first | refine blk_drewN ?_ _ | refine blk_drew ?_ | refine blk_alloc ?_ _)); exact BK1007.out⟩, ⟨by (with_reducible repeat (first | refine blk_drewN ?_ _ | refine blk_drew ?_ | refine blk_alloc ?_ _)); refine blk_put (cs := #[u217000, .slice none 0 0]) ?_ 0 _ rfl; (with_reducible repeat (first | refine blk_drewN ?_ _ | refine blk_drew ?_ | refine blk_alloc ?_ _)); exact BK1008.out⟩, ⟨by repeat (first | (with_reducible first | exact HB.out | apply below_alloc | apply pbdN | apply bdr1 | refine below_set ?_ GE1006.out | refine below_set ?_ GE1007.out | refine below_set ?_ GE1008.out) | exact HB.out)⟩⟩
            · rw [if_neg c8] at H
              exact absurd H (by simp)
          · rw [if_neg c7] at H
            exact absurd H (by simp)
        · rw [if_neg c6] at H
          exact absurd H (by simp)
      · rw [if_neg c5] at H
        have c5b0 : decide (x4_1 < (l0_0.length : Int)) = false := decide_eq_false c5
        clear c5
        have H' := Aside0.mk H
        clear H
        have hnb20 := NB1006_215.out
        have hnc20 := NB1007_214.out
        have hnb21 := NB1006_216.out
        have hnc21 := NB1008_214.out
        have hcz22_0 : wr.cell? ⟨gb1006, 0, none⟩ = some (.slice A0_0 l0_0.length c0_0) := (blk_cell BK1006.out 0).trans rfl
        have hcz22_1 : wr.cell? ⟨gb1006, 1, none⟩ = some (.slice A0_1 l0_1.length c0_1) := (blk_cell BK1006.out 1).trans rfl
        have hfz22_0 := blk_frozen BK1006.out 0
        have hfz22_1 := blk_frozen BK1006.out 1
        go_wp2
        go_loopg [5] k1 (fun kq v5 w' => ∃ (x5_2 : Int) (x1004_2 : List (S49)) (u217001 : Value), v5 = .int .i64 x5_2 ∧ Aside0 (catamaranref05_Twin.l1 kq x5_2 l0_0 l0_1 x1002_1 x1004_2 = some (r1, r2)) ∧ Aside0 (kq ≤ k1) ∧ Aside0 (Kd.S k39 39 w' w.heap.size (fun _ => True) u217000 x1002_1) ∧ Aside0 (Kd.S k49 49 w' w.heap.size (fun _ => True) u217001 x1004_2) ∧ Aside0 (w'.heap[gb1006]? = some (.cells #[(.slice A0_0 l0_0.length c0_0), (.slice A0_1 l0_1.length c0_1)] 25 (0, 0))) ∧ Aside0 (w'.heap[gb1007]? = some (.cells #[(.slice none 0 0), (.slice none 0 0)] 25 (0, 0))) ∧ Aside0 (w'.heap[gb1008]? = some (.cells #[u217000, u217001] 25 (0, 0))) ∧ Aside0 (Below w.heap.size w w'))
        case atStart => exact ⟨(0), (([] : List (S49))), (.slice none 0 0), (by first | rfl | (simp; done) | (simp [*]; done)), H', ⟨Nat.le_refl _⟩, ⟨by (with_reducible repeat (first | apply Kd.S_alloc | apply Kd.S_drewN | apply Kd.S_drew)); exact HO_1002.out⟩, ⟨by first | exact Kd.S_nil _ _ _ _ _ | exact Kd.N_nil _ _ _ _ _ | exact Kd.V_nil _ _ _ _ _ | exact Kd.Q_nil _ _ _ _ _ | exact Kd.R_nil _ _ _ _ _⟩, ⟨by (with_reducible repeat (first | refine blk_drewN ?_ _ | refine blk_drew ?_ | refine blk_alloc ?_ _)); exact BK1006.out⟩, ⟨by (with_reducible repeat (first | refine blk_drewN ?_ _ | refine blk_drew ?_ | refine blk_alloc ?_ _)); exact BK1007.out⟩, ⟨by (with_reducible repeat (first | refine blk_drewN ?_ _ | refine blk_drew ?_ | refine blk_alloc ?_ _)); exact BK1008.out⟩, ⟨by repeat (first | (with_reducible first | exact HB.out | apply below_alloc | apply pbdN | apply bdr1 | refine below_set ?_ GE1006.out | refine below_set ?_ GE1007.out | refine below_set ?_ GE1008.out) | exact HB.out)⟩⟩
        case round =>
          clear H'
          try clear c1
          try clear c2
          try clear p2
          try clear q2
          try clear hx2
          try clear c5
          try clear c5b0
          try clear c6
          try clear c6b0
          try clear p6
          try clear c7
          try clear c8
          try clear c9
          try clear c10
          try clear c20
          try clear c21
          try clear c22
          try clear p22
          try clear q22
          try clear hx22
          try clear hcz11_0
          try clear hcz11_1
          try clear hcz22_0
          try clear hcz22_1
          try clear hfz11_0
          try clear hfz11_1
          try clear hfz22_0
          try clear hfz22_1
          try clear hx1011_0
          try clear hx1011_1
          try clear hx1012_0
          try clear hx1012_1
          try clear p2
          try clear p1011
          try clear p1012
          try clear q1011
          try clear q1012
          obtain ⟨x5_2, x1004_2, u217001, rfl, HA, HK2, HO_1002, HO_1004, BK1006, BK1007, BK1008, HB⟩ := hrel
          cases gk with
          | zero => exact absurd HA.out (by simp [catamaranref05_Twin.l1])
          | succ k2 =>
            have H := HA.out
            clear HA
            simp only [catamaranref05_Twin.l1] at H
            by_cases c23 : x5_2 < (l0_1.length : Int)
            · rw [if_pos c23] at H
              have c23b0 : decide (x5_2 < (l0_1.length : Int)) = true := decide_eq_true c23
              clear c23
              by_cases c24 : 0 ≤ x5_2
              · rw [if_pos c24] at H
                have c24b0 : decide (0 ≤ x5_2) = true := decide_eq_true c24
                clear c24
                obtain ⟨y1005, hy1005⟩ : ∃ y_ : List Int, y_ = (([] : List Int)) := ⟨_, rfl⟩
                replace H : (if y1005.length + ((rd_T49 l0_1 x5_2).f1).length < 140737488355328 then (if x1004_2.length < 4398046511104 then (catamaranref05_Twin.l1 k2 (wrap64 (x5_2 + 1)) l0_0 l0_1 x1002_1 (x1004_2 ++ [(⟨(rd_T49 l0_1 x5_2).f0, (y1005 ++ ((rd_T49 l0_1 x5_2).f1))⟩ : S49)])) else (none)) else (none)) = some (r1, r2) := by first | (rw [hy1005]; with_reducible exact H) | (have H2_ := (Option.bind_some _ _).symm.trans H; rw [hy1005]; with_reducible exact H2_) | (have H2_ := (Option.bind_some _ _).symm.trans H; with_reducible exact H2_) | with_reducible exact H | (rw [hy1005]; exact H) | exact H
                have Ny1005 := Aside0.mk hy1005
                clear hy1005
                by_cases c25 : y1005.length + ((rd_T49 l0_1 x5_2).f1).length < 140737488355328
                · rw [if_pos c25] at H
                  have LMc25 := Aside0.mk c25
                  clear c25
                  obtain ⟨y1019, hy1019⟩ : ∃ y_ : List Int, y_ = (y1005 ++ ((rd_T49 l0_1 x5_2).f1)) := ⟨_, rfl⟩
                  replace H : (if x1004_2.length < 4398046511104 then (catamaranref05_Twin.l1 k2 (wrap64 (x5_2 + 1)) l0_0 l0_1 x1002_1 (x1004_2 ++ [(⟨(rd_T49 l0_1 x5_2).f0, y1019⟩ : S49)])) else (none)) = some (r1, r2) := by first | (rw [hy1019]; with_reducible exact H) | (have H2_ := (Option.bind_some _ _).symm.trans H; rw [hy1019]; with_reducible exact H2_) | (have H2_ := (Option.bind_some _ _).symm.trans H; with_reducible exact H2_) | with_reducible exact H | (rw [hy1019]; exact H) | exact H
                  have Ny1019 := Aside0.mk hy1019
                  clear hy1019
                  by_cases c26 : x1004_2.length < 4398046511104
                  · rw [if_pos c26] at H
                    have LMc26 := Aside0.mk c26
                    clear c26
                    obtain ⟨y1020, hy1020⟩ : ∃ y_ : List (S49), y_ = (x1004_2 ++ [(⟨(rd_T49 l0_1 x5_2).f0, y1019⟩ : S49)]) := ⟨_, rfl⟩
                    replace H : (catamaranref05_Twin.l1 k2 (wrap64 (x5_2 + 1)) l0_0 l0_1 x1002_1 y1020) = some (r1, r2) := by first | (rw [hy1020]; with_reducible exact H) | (have H2_ := (Option.bind_some _ _).symm.trans H; rw [hy1020]; with_reducible exact H2_) | (have H2_ := (Option.bind_some _ _).symm.trans H; with_reducible exact H2_) | with_reducible exact H | (rw [hy1020]; exact H) | exact H
                    have Ny1020 := Aside0.mk hy1020
                    clear hy1020
                    have H' := Aside0.mk H
                    clear H
                    have hnb27 := NB1006_215.out
                    have hnc27 := NB1007_214.out
                    have hnb28 := NB1006_216.out
                    have hnc28 := NB1008_214.out
                    have hcz29_0 : wr.cell? ⟨gb1006, 0, none⟩ = some (.slice A0_0 l0_0.length c0_0) := (blk_cell BK1006.out 0).trans rfl
                    have hcz29_1 : wr.cell? ⟨gb1006, 1, none⟩ = some (.slice A0_1 l0_1.length c0_1) := (blk_cell BK1006.out 1).trans rfl
                    have hfz29_0 := blk_frozen BK1006.out 0
                    have hfz29_1 := blk_frozen BK1006.out 1
                    try go_wp2
                    have n0_ := Aside0.mk (Kd.S_drew HO_1002.out)
                    have n1_ := Aside0.mk (Kd.S_drew HO_1004.out)
                    have n2_ := Aside0.mk (blk_drew BK1006.out)
                    have n3_ := Aside0.mk (blk_drew BK1007.out)
                    have n4_ := Aside0.mk (blk_drew BK1008.out)
                    have n5_ := Aside0.mk (bdr1 HB.out)
                    clear HO_1002
                    clear HO_1004
                    clear BK1006
                    clear BK1007
                    clear BK1008
                    clear HB
                    have HO_1002 := n0_
                    have HO_1004 := n1_
                    have BK1006 := n2_
                    have BK1007 := n3_
                    have BK1008 := n4_
                    have HB := n5_
                    clear n0_ n1_ n2_ n3_ n4_ n5_
                    have p1021 : 0 ≤ (x5_2 : Int) := of_decide_eq_true (by first | (with_reducible assumption) | assumption)
                    have q1021 : x5_2 < (l0_1.length : Int) := of_decide_eq_true (by first | (with_reducible assumption) | assumption)
                    obtain ⟨ad1021, A1021_1, c1021_1, e1021, hx1021_0, hx1021_1, hl1021_1, hi1021_1⟩ := at_T49 HR0_1.out x5_2 p1021 q1021
                    have hw1021_1 := hx1021_1
                    have hw1021_0 := hx1021_0
                    cases e1021
                    replace hx1021_0 := (HB.out.cell (World.block_lt_of_cell? w _ hx1021_0)).trans hx1021_0
                    replace hx1021_1 := (HB.out.cell (World.block_lt_of_cell? w _ hx1021_1)).trans hx1021_1
                    have HR1021_1 := Aside0.mk hi1021_1
                    have HC1021_1 := Aside0.mk hl1021_1
                    clear hi1021_1 hl1021_1
                    replace p1021 := eq_true p1021
                    replace q1021 := eq_true q1021
                    have p1022 : 0 ≤ (x5_2 : Int) := of_decide_eq_true (by first | (with_reducible assumption) | assumption)
                    have q1022 : x5_2 < (l0_1.length : Int) := of_decide_eq_true (by first | (with_reducible assumption) | assumption)
                    obtain ⟨ad1022, A1022_1, c1022_1, e1022, hx1022_0, hx1022_1, hl1022_1, hi1022_1⟩ := at_T49 HR0_1.out x5_2 p1022 q1022
                    have hw1022_1 := hx1022_1
                    have hw1022_0 := hx1022_0
                    obtain rfl : ad1021 = ad1022 := (by injection e1022)
                    replace hx1022_0 := (HB.out.cell (World.block_lt_of_cell? w _ hx1022_0)).trans hx1022_0
                    replace hx1022_1 := (HB.out.cell (World.block_lt_of_cell? w _ hx1022_1)).trans hx1022_1
                    have HR1022_1 := Aside0.mk hi1022_1
                    have HC1022_1 := Aside0.mk hl1022_1
                    clear hi1022_1 hl1022_1
                    replace p1022 := eq_true p1022
                    replace q1022 := eq_true q1022
                    have ea_ := Option.some.inj (hx1021_1.symm.trans hx1022_1)
                    injection ea_ with ea_ en_ ec_
                    subst ea_
                    subst ec_
                    clear en_
                    refine start_ (n := 21) (S := fun w' => w'.cell? ⟨gb1008, 0, none⟩ = some (u217000) ∧ w'.cell? ⟨gb1008, 1, none⟩ = some (u217001) ∧ w'.cell? ⟨gb1006, 0, none⟩ = some (.slice A0_0 l0_0.length c0_0) ∧ w'.cell? ⟨gb1006, 1, none⟩ = some (.slice (some ad1021) l0_1.length c0_1) ∧ w'.cell? (ad1021.add ((x5_2).toNat * 2)) = some (.int .i64 ((rd_T49 l0_1 x5_2).f0)) ∧ w'.cell? ⟨(ad1021.add ((x5_2).toNat * 2)).block, (ad1021.add ((x5_2).toNat * 2)).off + 1, none⟩ = some (.slice A1021_1 ((rd_T49 l0_1 x5_2).f1).length c1021_1) ∧ w'.cell? (ad1021.add ((x5_2).toNat * 2)) = some (.int .i64 ((rd_T49 l0_1 x5_2).f0)) ∧ w'.cell? ⟨(ad1021.add ((x5_2).toNat * 2)).block, (ad1021.add ((x5_2).toNat * 2)).off + 1, none⟩ = some (.slice A1021_1 ((rd_T49 l0_1 x5_2).f1).length c1021_1)) (ds := [20]) #[false, false, false, false, false, false, false, false, false, false, false, false, false, false, false, false, false, false, false, false, false] (by kernel_rfl) rfl rfl ⟨(blk_cell BK1008.out 0).trans rfl, (blk_cell BK1008.out 1).trans rfl, (blk_cell BK1006.out 0).trans rfl, (blk_cell BK1006.out 1).trans rfl, ((HB.out.cell (World.block_lt_of_cell? w _ hw1021_0)).trans hw1021_0), ((HB.out.cell (World.block_lt_of_cell? w _ hw1021_1)).trans hw1021_1), ((HB.out.cell (World.block_lt_of_cell? w _ hw1022_0)).trans hw1022_0), ((HB.out.cell (World.block_lt_of_cell? w _ hw1022_1)).trans hw1022_1)⟩ (fun hHeld => ?_); refine wtW catamaranref05_Twin.tab9 catamaranref05_Twin.bits9 (fun HT_ HW_ => ?_)
                    generalize wr.drew = w30 at HO_1002 HO_1004 BK1006 BK1007 BK1008 HB HR1021_1 HR1022_1 hx1021_0 hx1021_1 hx1022_0 hx1022_1 hHeld ⊢
                    refine pure_ (i := 0) (N := some 40) (v := ?_) (a' := ?_) #[true, false, false, false, false, false, false, false, false, false, false, false, false, false, false, false, false, false, false, false, false] rfl rfl (any_of HT_.out (by kernel_rfl)) (fun _ _ _ h => h) (Or.inl ⟨by rfl, ?_⟩) ?_ ?_
                    rotate_left
                    · intro w'
                      go_simp
                      with_reducible rfl
                    rotate_left
                    · simp only [Act.put, List.setIfInBounds_toArray, List.set_cons_zero, List.set_cons_succ, i64_w, i32_w]
                      rfl
                    refine pure_ (i := 2) (N := some 42) (v := ?_) (a' := ?_) #[true, false, true, false, false, false, false, false, false, false, false, false, false, false, false, false, false, false, false, false, false] rfl rfl (any_of HT_.out (by kernel_rfl)) (fun _ _ _ h => h) (Or.inl ⟨by rfl, ?_⟩) ?_ ?_
                    rotate_left
                    · intro w'
                      go_simp
                      with_reducible rfl
                    rotate_left
                    · simp only [Act.put, List.setIfInBounds_toArray, List.set_cons_zero, List.set_cons_succ, i64_w, i32_w]
                      rfl
                    refine pure_ (i := 4) (N := some 44) (v := ?_) (a' := ?_) #[true, false, true, false, true, false, false, false, false, false, false, false, false, false, false, false, false, false, false, false, false] rfl rfl (any_of HT_.out (by kernel_rfl)) (fun _ _ _ h => h) (Or.inl ⟨by rfl, ?_⟩) ?_ ?_
                    rotate_left
                    · intro w'
                      go_simp
                      with_reducible rfl
                    rotate_left
                    · simp only [Act.put, List.setIfInBounds_toArray, List.set_cons_zero, List.set_cons_succ, i64_w, i32_w]
                      rfl
                    refine pure_ (i := 9) (N := some 49) (v := ?_) (a' := ?_) #[true, false, true, false, true, false, false, false, false, true, false, false, false, false, false, false, false, false, false, false, false] rfl rfl (any_of HT_.out (by kernel_rfl)) (fun _ _ _ h => h) (Or.inl ⟨by rfl, ?_⟩) ?_ ?_
                    rotate_left
                    · intro w'
                      go_simp
                      with_reducible rfl
                    rotate_left
                    · simp only [Act.put, List.setIfInBounds_toArray, List.set_cons_zero, List.set_cons_succ, i64_w, i32_w]
                      rfl
                    refine pure_ (i := 11) (N := some 51) (v := ?_) (a' := ?_) #[true, false, true, false, true, false, false, false, false, true, false, true, false, false, false, false, false, false, false, false, false] rfl rfl (any_of HT_.out (by kernel_rfl)) (fun _ _ _ h => h) (Or.inl ⟨by rfl, ?_⟩) ?_ ?_
                    rotate_left
                    · intro w'
                      go_simp
                      with_reducible rfl
                    rotate_left
                    · simp only [Act.put, List.setIfInBounds_toArray, List.set_cons_zero, List.set_cons_succ, i64_w, i32_w]
                      rfl
                    refine take_ (i := 1) (N := some 41) (v := ?_) (a' := ?_) #[true, true, true, false, true, false, false, false, false, true, false, true, false, false, false, false, false, false, false, false, false] rfl rfl (take_ofW HT_.out HW_.out (by kernel_rfl)) (fun _ _ _ h => h) (Or.inl ⟨by rfl, ?_⟩) hHeld ?_ ?_
                    rotate_left
                    · rintro w' ⟨s0, s1, s2, s3, s4, s5, s6, s7⟩
                      go_simp
                      with_reducible rfl
                    rotate_left
                    · simp only [Act.put, List.setIfInBounds_toArray, List.set_cons_zero, List.set_cons_succ, i64_w, i32_w]
                      rfl
                    refine take_ (i := 3) (N := some 43) (v := ?_) (a' := ?_) #[true, true, true, true, true, false, false, false, false, true, false, true, false, false, false, false, false, false, false, false, false] rfl rfl (take_ofW HT_.out HW_.out (by kernel_rfl)) (fun _ _ _ h => h) (Or.inl ⟨by rfl, ?_⟩) hHeld ?_ ?_
                    rotate_left
                    · rintro w' ⟨s0, s1, s2, s3, s4, s5, s6, s7⟩
                      go_simp
                      with_reducible rfl
                    rotate_left
                    · simp only [Act.put, List.setIfInBounds_toArray, List.set_cons_zero, List.set_cons_succ, i64_w, i32_w]
                      rfl
                    refine pure_ (i := 5) (N := some 45) (v := ?_) (a' := ?_) #[true, true, true, true, true, true, false, false, false, true, false, true, false, false, false, false, false, false, false, false, false] rfl rfl (any_of HT_.out (by kernel_rfl)) (fun _ _ _ h => h) (Or.inl ⟨by rfl, ?_⟩) ?_ ?_
                    rotate_left
                    · intro w'
                      go_simp
                      with_reducible rfl
                    rotate_left
                    · simp only [Act.put, List.setIfInBounds_toArray, List.set_cons_zero, List.set_cons_succ, i64_w, i32_w]
                      rfl
                    refine pure_ (i := 6) (N := some 46) (v := ?_) (a' := ?_) #[true, true, true, true, true, true, true, false, false, true, false, true, false, false, false, false, false, false, false, false, false] rfl rfl (any_of HT_.out (by kernel_rfl)) (fun _ _ _ h => h) (Or.inl ⟨by rfl, ?_⟩) ?_ ?_
                    rotate_left
                    · intro w'
                      go_simp
                      with_reducible rfl
                    rotate_left
                    · simp only [Act.put, List.setIfInBounds_toArray, List.set_cons_zero, List.set_cons_succ, i64_w, i32_w]
                      rfl
                    refine take_ (i := 7) (N := some 47) (v := ?_) (a' := ?_) #[true, true, true, true, true, true, true, true, false, true, false, true, false, false, false, false, false, false, false, false, false] rfl rfl (take_ofW HT_.out HW_.out (by kernel_rfl)) (fun _ _ _ h => h) (Or.inl ⟨by rfl, ?_⟩) hHeld ?_ ?_
                    rotate_left
                    · rintro w' ⟨s0, s1, s2, s3, s4, s5, s6, s7⟩
                      go_simp
                      with_reducible rfl
                    rotate_left
                    · simp only [Act.put, List.setIfInBounds_toArray, List.set_cons_zero, List.set_cons_succ, i64_w, i32_w]
                      rfl
                    refine take_ (i := 10) (N := some 50) (v := ?_) (a' := ?_) #[true, true, true, true, true, true, true, true, false, true, true, true, false, false, false, false, false, false, false, false, false] rfl rfl (take_ofW HT_.out HW_.out (by kernel_rfl)) (fun _ _ _ h => h) (Or.inl ⟨by rfl, ?_⟩) hHeld ?_ ?_
                    rotate_left
                    · rintro w' ⟨s0, s1, s2, s3, s4, s5, s6, s7⟩
                      go_simp
                      with_reducible rfl
                    rotate_left
                    · simp only [Act.put, List.setIfInBounds_toArray, List.set_cons_zero, List.set_cons_succ, i64_w, i32_w]
                      rfl
                    refine pure_ (i := 12) (N := some 52) (v := ?_) (a' := ?_) #[true, true, true, true, true, true, true, true, false, true, true, true, true, false, false, false, false, false, false, false, false] rfl rfl (any_of HT_.out (by kernel_rfl)) (fun _ _ _ h => h) (Or.inl ⟨by rfl, ?_⟩) ?_ ?_
                    rotate_left
                    · intro w'
                      go_simp
                      with_reducible rfl
                    rotate_left
                    · simp only [Act.put, List.setIfInBounds_toArray, List.set_cons_zero, List.set_cons_succ, i64_w, i32_w]
                      rfl
                    refine pure_ (i := 13) (N := some 53) (v := ?_) (a' := ?_) #[true, true, true, true, true, true, true, true, false, true, true, true, true, true, false, false, false, false, false, false, false] rfl rfl (any_of HT_.out (by kernel_rfl)) (fun _ _ _ h => h) (Or.inl ⟨by rfl, ?_⟩) ?_ ?_
                    rotate_left
                    · intro w'
                      go_simp
                      with_reducible rfl
                    rotate_left
                    · simp only [Act.put, List.setIfInBounds_toArray, List.set_cons_zero, List.set_cons_succ, i64_w, i32_w]
                      rfl
                    refine take_ (i := 14) (N := some 54) (v := ?_) (a' := ?_) #[true, true, true, true, true, true, true, true, false, true, true, true, true, true, true, false, false, false, false, false, false] rfl rfl (take_ofW HT_.out HW_.out (by kernel_rfl)) (fun _ _ _ h => h) (Or.inl ⟨by rfl, ?_⟩) hHeld ?_ ?_
                    rotate_left
                    · rintro w' ⟨s0, s1, s2, s3, s4, s5, s6, s7⟩
                      go_simp
                      with_reducible rfl
                    rotate_left
                    · simp only [Act.put, List.setIfInBounds_toArray, List.set_cons_zero, List.set_cons_succ, i64_w, i32_w]
                      rfl
                    refine one_ (i := 8) (N := some 48) #[true, true, true, true, true, true, true, true, true, true, true, true, true, true, true, false, false, false, false, false, false] rfl rfl (one_of HT_.out (by kernel_rfl)) (by decide) (fun K hK => ?_)
                    refine Kd.R_lit_step (Kd.int .u8) _ 5 ?hg (N := 48) ?hd (xs := ([] : List Int)) (inner := []) (ok := fun _ => True) (okp := fun _ => True) ?hr ?hp (fun _ hk => hk) trivial (Below.refl _ _) (Nat.le_refl _) (by simp) ?_; (case hd => rfl); (case hg => rfl); (case hr => first | (go_simp; done) | (go_simp; rfl)); (case hp => exact (Reps.none _ _))
                    intro v1023 w31 ho32 hb hg_ hnew_
                    clear hg_ hnew_
                    (first | rw [← Ny1005.out] at ho32 | (simp only [Int.reduceToNat] at ho32; rw [← Ny1005.out] at ho32))
                    have n0_ := Aside0.mk (Kd.S_elder' (by (with_reducible repeat (first | apply Kd.S_alloc | apply Kd.S_drewN | apply Kd.S_drew)); exact HO_1002.out) (Kd.R_base ho32) hb)
                    have n1_ := Aside0.mk (Kd.S_elder' (by (with_reducible repeat (first | apply Kd.S_alloc | apply Kd.S_drewN | apply Kd.S_drew)); exact HO_1004.out) (Kd.R_base ho32) hb)
                    have n2_ := Aside0.mk (Kd.R_lower ho32 (below_size (by repeat (first | (with_reducible first | exact HB.out | apply below_alloc | apply pbdN | apply bdr1 | refine below_set ?_ GE1006.out | refine below_set ?_ GE1007.out | refine below_set ?_ GE1008.out) | exact HB.out))))
                    have n3_ := Aside0.mk (blk_below (g := gb1006) (o := .cells #[.slice A0_0 l0_0.length c0_0, .slice (some ad1021) l0_1.length c0_1] 25 (0, 0)) (by (with_reducible repeat (first | refine blk_drewN ?_ _ | refine blk_drew ?_ | refine blk_alloc ?_ _)); exact BK1006.out) hb)
                    have n4_ := Aside0.mk (blk_below (g := gb1007) (o := .cells #[.slice none 0 0, .slice none 0 0] 25 (0, 0)) (by (with_reducible repeat (first | refine blk_drewN ?_ _ | refine blk_drew ?_ | refine blk_alloc ?_ _)); exact BK1007.out) hb)
                    have n5_ := Aside0.mk (blk_below (g := gb1008) (o := .cells #[u217000, u217001] 25 (0, 0)) (by (with_reducible repeat (first | refine blk_drewN ?_ _ | refine blk_drew ?_ | refine blk_alloc ?_ _)); exact BK1008.out) hb)
                    have n6_ := Aside0.mk (below_step (by repeat (first | (with_reducible first | exact HB.out | apply below_alloc | apply pbdN | apply bdr1 | refine below_set ?_ GE1006.out | refine below_set ?_ GE1007.out | refine below_set ?_ GE1008.out) | exact HB.out)) hb)
                    clear HO_1002
                    clear HO_1004
                    clear BK1006
                    clear BK1007
                    clear BK1008
                    clear HB
                    have HO_1002 := n0_
                    have HO_1004 := n1_
                    have HO1024 := n2_
                    have BK1006 := n3_
                    have BK1007 := n4_
                    have BK1008 := n5_
                    have HB := n6_
                    clear n0_ n1_ n2_ n3_ n4_ n5_ n6_
                    clear hb ho32
                    refine hK.out _ _ ⟨(blk_cell BK1008.out 0).trans rfl, (blk_cell BK1008.out 1).trans rfl, (blk_cell BK1006.out 0).trans rfl, (blk_cell BK1006.out 1).trans rfl, ((HB.out.cell (World.block_lt_of_cell? w _ hw1021_0)).trans hw1021_0), ((HB.out.cell (World.block_lt_of_cell? w _ hw1021_1)).trans hw1021_1), ((HB.out.cell (World.block_lt_of_cell? w _ hw1022_0)).trans hw1022_0), ((HB.out.cell (World.block_lt_of_cell? w _ hw1022_1)).trans hw1022_1)⟩ (fun hHeld => ?_)
                    clear hK K
                    refine norm_ (a' := ?_) ?_ ?_
                    rotate_left
                    · show Act.put _ (some 48) _ = _
                      simp only [Act.put, List.setIfInBounds_toArray, List.set_cons_zero, List.set_cons_succ, i64_w, i32_w]
                      rfl
                    refine one_ (i := 15) (N := some 55) #[true, true, true, true, true, true, true, true, true, true, true, true, true, true, true, true, false, false, false, false, false] rfl rfl (one_of HT_.out (by kernel_rfl)) (by decide) (fun K hK => ?_)
                    refine Kd.R_append_rows_step (Kd.int .u8) (w0 := w) w.heap.size (by rfl) (.tmp 48) (.tmp 54) 31 5 (.int .u8 0) 1 rfl Try.underlying31 info5 rfl (by decide) (by omega) v1023 y1005 ((rd_T49 l0_1 x5_2).f1) _ _ _ (fun _ => True) (fun _ => False) rfl rfl ?aO ?aR (fun _ _ h => h) (fun _ h => h.elim) ?aF ?aB ?aS ?aL ?_
                    (case aR => repeat (first | exact (Kd.C_below HR1022_1.out HB.out) | (with_reducible refine Kd.C_alloc ?_ _) | (with_reducible refine Kd.C_drewN ?_ _) | (with_reducible refine Kd.C_drew ?_)))
                    (case aB => exact (by repeat (first | (with_reducible first | exact HB.out | apply below_alloc | apply pbdN | apply bdr1 | refine below_set ?_ GE1006.out | refine below_set ?_ GE1007.out | refine below_set ?_ GE1008.out) | exact HB.out)))
                    (case aF => exact (fun _ _ => trivial))
                    (case aO => exact (by (with_reducible repeat (first | apply Kd.R_alloc | apply Kd.R_drewN | apply Kd.R_drew)); exact HO1024.out))
                    (case aS => exact (below_size (by repeat (first | (with_reducible first | exact HB.out | apply below_alloc | apply pbdN | apply bdr1 | refine below_set ?_ GE1006.out | refine below_set ?_ GE1007.out | refine below_set ?_ GE1008.out) | exact HB.out))))
                    (case aL => have := LMc25.out; omega)
                    intro v1025 w33 ho hb hg hat
                    rw [← Ny1019.out] at ho
                    have n0_ := Aside0.mk (Kd.S_after (ok := (fun _ => True)) (by (with_reducible repeat (first | apply Kd.S_alloc | apply Kd.S_drewN | apply Kd.S_drew)); exact HO_1002.out) hg hat)
                    have n1_ := Aside0.mk (Kd.S_after (ok := (fun _ => True)) (by (with_reducible repeat (first | apply Kd.S_alloc | apply Kd.S_drewN | apply Kd.S_drew)); exact HO_1004.out) hg hat)
                    have n2_ := Aside0.mk (blk_grown (g := gb1006) (o := .cells #[.slice A0_0 l0_0.length c0_0, .slice (some ad1021) l0_1.length c0_1] 25 (0, 0)) (by (with_reducible repeat (first | refine blk_drewN ?_ _ | refine blk_drew ?_ | refine blk_alloc ?_ _)); exact BK1006.out) hg (Kd.R_ne HO1024.out BK1006.out (by decide)))
                    have n3_ := Aside0.mk (blk_grown (g := gb1007) (o := .cells #[.slice none 0 0, .slice none 0 0] 25 (0, 0)) (by (with_reducible repeat (first | refine blk_drewN ?_ _ | refine blk_drew ?_ | refine blk_alloc ?_ _)); exact BK1007.out) hg (Kd.R_ne HO1024.out BK1007.out (by decide)))
                    have n4_ := Aside0.mk (blk_grown (g := gb1008) (o := .cells #[u217000, u217001] 25 (0, 0)) (by (with_reducible repeat (first | refine blk_drewN ?_ _ | refine blk_drew ?_ | refine blk_alloc ?_ _)); exact BK1008.out) hg (Kd.R_ne HO1024.out BK1008.out (by decide)))
                    have n5_ := Aside0.mk (hb)
                    have n6_ := Aside0.mk (ho)
                    clear HO_1002
                    clear HO_1004
                    clear BK1006
                    clear BK1007
                    clear BK1008
                    clear HB
                    clear HO1024
                    have HO_1002 := n0_
                    have HO_1004 := n1_
                    have BK1006 := n2_
                    have BK1007 := n3_
                    have BK1008 := n4_
                    have HB := n5_
                    have HO1026 := n6_
                    clear n0_ n1_ n2_ n3_ n4_ n5_ n6_
                    clear ho hb hg hat
                    obtain ⟨Ao34, co34, eo34⟩ := Kd.R_slice HO1026.out
                    (first | subst eo34 | (injection eo34 with f1_ f2_ f3_; have f4_ := f1_.symm; have f5_ := f3_.symm; clear f1_ f2_ f3_; subst f4_; subst f5_))
                    refine hK.out _ _ ⟨(blk_cell BK1008.out 0).trans rfl, (blk_cell BK1008.out 1).trans rfl, (blk_cell BK1006.out 0).trans rfl, (blk_cell BK1006.out 1).trans rfl, ((HB.out.cell (World.block_lt_of_cell? w _ hw1021_0)).trans hw1021_0), ((HB.out.cell (World.block_lt_of_cell? w _ hw1021_1)).trans hw1021_1), ((HB.out.cell (World.block_lt_of_cell? w _ hw1022_0)).trans hw1022_0), ((HB.out.cell (World.block_lt_of_cell? w _ hw1022_1)).trans hw1022_1)⟩ (fun hHeld => ?_)
                    clear hK K
                    refine norm_ (a' := ?_) ?_ ?_
                    rotate_left
                    · show Act.put _ (some 55) _ = _
                      simp only [Act.put, List.setIfInBounds_toArray, List.set_cons_zero, List.set_cons_succ, i64_w, i32_w]
                      rfl
                    refine pure_ (i := 16) (N := some 56) (v := ?_) (a' := ?_) #[true, true, true, true, true, true, true, true, true, true, true, true, true, true, true, true, true, false, false, false, false] rfl rfl (any_of HT_.out (by kernel_rfl)) (fun _ _ _ h => h) (Or.inl ⟨by rfl, ?_⟩) ?_ ?_
                    rotate_left
                    · intro w'
                      go_simp
                      with_reducible rfl
                    rotate_left
                    · simp only [Act.put, List.setIfInBounds_toArray, List.set_cons_zero, List.set_cons_succ, i64_w, i32_w]
                      rfl
                    refine one_ (i := 17) (N := some 57) #[true, true, true, true, true, true, true, true, true, true, true, true, true, true, true, true, true, true, false, false, false] rfl rfl (one_of HT_.out (by kernel_rfl)) (by decide) (fun K hK => ?_)
                    refine value_ (w1 := ?_) (v := ?_) (by rfl) rfl ?_ ?_
                    rotate_left 2
                    · go_simp
                      constructor
                      · rfl
                      · rfl
                    refine hK.out _ _ ⟨(blk_cell (blk_alloc BK1008.out _) 0).trans rfl, (blk_cell (blk_alloc BK1008.out _) 1).trans rfl, (blk_cell (blk_alloc BK1006.out _) 0).trans rfl, (blk_cell (blk_alloc BK1006.out _) 1).trans rfl, (World.cell?_alloc_lt _ _ _ (World.block_lt_of_cell? _ _ (((HB.out.cell (World.block_lt_of_cell? w _ hw1021_0)).trans hw1021_0)))).trans (((HB.out.cell (World.block_lt_of_cell? w _ hw1021_0)).trans hw1021_0)), (World.cell?_alloc_lt _ _ _ (World.block_lt_of_cell? _ _ (((HB.out.cell (World.block_lt_of_cell? w _ hw1021_1)).trans hw1021_1)))).trans (((HB.out.cell (World.block_lt_of_cell? w _ hw1021_1)).trans hw1021_1)), (World.cell?_alloc_lt _ _ _ (World.block_lt_of_cell? _ _ (((HB.out.cell (World.block_lt_of_cell? w _ hw1022_0)).trans hw1022_0)))).trans (((HB.out.cell (World.block_lt_of_cell? w _ hw1022_0)).trans hw1022_0)), (World.cell?_alloc_lt _ _ _ (World.block_lt_of_cell? _ _ (((HB.out.cell (World.block_lt_of_cell? w _ hw1022_1)).trans hw1022_1)))).trans (((HB.out.cell (World.block_lt_of_cell? w _ hw1022_1)).trans hw1022_1))⟩ (fun hHeld => ?_)
                    clear hK K
                    refine norm_ (a' := ?_) ?_ ?_
                    rotate_left
                    · show Act.put _ (some 57) _ = _
                      simp only [Act.put, List.setIfInBounds_toArray, List.set_cons_zero, List.set_cons_succ, i64_w, i32_w]
                      rfl
                    refine one_ (i := 18) (N := some 58) #[true, true, true, true, true, true, true, true, true, true, true, true, true, true, true, true, true, true, true, false, false] rfl rfl (one_of HT_.out (by kernel_rfl)) (by decide) (fun K hK => ?_)
                    refine Kd.S_append_step k49 (w0 := w) w.heap.size (by rfl) (.tmp 41) (.tmp 57) 23 49 (.agg #[(.int .i64 0), (.slice none 0 0)]) 32 rfl Try.underlying23 info49 rfl (by decide) (by omega) u217001 x1004_2 (⟨(rd_T49 l0_1 x5_2).f0, y1019⟩ : S49) [.int .i64 ((rd_T49 l0_1 x5_2).f0), .slice Ao34 y1019.length co34] (fun _ => True) (fun k_ => some k_ = (.slice Ao34 y1019.length co34 : Value).ownBlock) rfl rfl ?aP (fun k_ hk_ => ((Kd.R_mono (ok' := fun k_ => ((fun _ => True)) k_ ∧ some k_ ≠ (u217001 : Value).ownBlock) (Kd.R_apart' (HO1026.out) (Kd.S_typed HO_1004.out) (by decide)) (fun k_ hk => ⟨trivial, hk.2⟩))).1 k_ hk_.symm) ?aF ?aO ?aB ?aS ?aL ?_
                    (case aP => exact k49_mkM _ _ _ (⟨(rd_T49 l0_1 x5_2).f0, y1019⟩ : S49) (Kd.R_mono (Kd.R_tight rfl (Kd.R_mono (ok' := fun k_ => ((fun _ => True)) k_ ∧ some k_ ≠ (u217001 : Value).ownBlock) (Kd.R_apart' (HO1026.out) (Kd.S_typed HO_1004.out) (by decide)) (fun k_ hk => ⟨trivial, hk.2⟩))) (fun _ h_ => h_)))
                    (case aB => exact (by repeat (first | (with_reducible first | exact HB.out | apply below_alloc | apply pbdN | apply bdr1 | refine below_set ?_ GE1006.out | refine below_set ?_ GE1007.out | refine below_set ?_ GE1008.out) | exact HB.out)))
                    (case aF => exact (fun _ _ => trivial))
                    (case aO => exact (by (with_reducible repeat (first | apply Kd.S_alloc | apply Kd.S_drewN | apply Kd.S_drew)); exact Kd.S_mono HO_1004.out (fun k_ hk => ⟨trivial, fun e_ => hk.2 e_⟩)))
                    (case aS => exact (below_size (by repeat (first | (with_reducible first | exact HB.out | apply below_alloc | apply pbdN | apply bdr1 | refine below_set ?_ GE1006.out | refine below_set ?_ GE1007.out | refine below_set ?_ GE1008.out) | exact HB.out))))
                    (case aL => have := LMc26.out; omega)
                    intro v1027 w35 ho hb hg hat
                    rw [← Ny1020.out] at ho
                    have n0_ := Aside0.mk (Kd.S_over' (by (with_reducible repeat (first | apply Kd.S_alloc | apply Kd.S_drewN | apply Kd.S_drew)); exact HO_1002.out) (Kd.S_typed (by (with_reducible repeat (first | apply Kd.S_alloc | apply Kd.S_drewN | apply Kd.S_drew)); exact HO_1004.out)) (by decide) hg)
                    have n1_ := Aside0.mk (blk_grown (g := gb1006) (o := .cells #[.slice A0_0 l0_0.length c0_0, .slice (some ad1021) l0_1.length c0_1] 25 (0, 0)) (by (with_reducible repeat (first | refine blk_drewN ?_ _ | refine blk_drew ?_ | refine blk_alloc ?_ _)); exact BK1006.out) hg (Kd.S_ne HO_1004.out BK1006.out (by decide)))
                    have n2_ := Aside0.mk (blk_grown (g := gb1007) (o := .cells #[.slice none 0 0, .slice none 0 0] 25 (0, 0)) (by (with_reducible repeat (first | refine blk_drewN ?_ _ | refine blk_drew ?_ | refine blk_alloc ?_ _)); exact BK1007.out) hg (Kd.S_ne HO_1004.out BK1007.out (by decide)))
                    have n3_ := Aside0.mk (blk_grown (g := gb1008) (o := .cells #[u217000, u217001] 25 (0, 0)) (by (with_reducible repeat (first | refine blk_drewN ?_ _ | refine blk_drew ?_ | refine blk_alloc ?_ _)); exact BK1008.out) hg (Kd.S_ne HO_1004.out BK1008.out (by decide)))
                    have n4_ := Aside0.mk (hb)
                    have n5_ := Aside0.mk (ho)
                    clear HO_1002
                    clear BK1006
                    clear BK1007
                    clear BK1008
                    clear HB
                    clear HO_1004
                    clear HO1026
                    have HO_1002 := n0_
                    have BK1006 := n1_
                    have BK1007 := n2_
                    have BK1008 := n3_
                    have HB := n4_
                    have HO1028 := n5_
                    clear n0_ n1_ n2_ n3_ n4_ n5_
                    clear ho hb hg hat
                    obtain ⟨Ao36, co36, eo36⟩ := Kd.S_slice HO1028.out
                    (first | subst eo36 | (injection eo36 with f1_ f2_ f3_; have f4_ := f1_.symm; have f5_ := f3_.symm; clear f1_ f2_ f3_; subst f4_; subst f5_))
                    refine hK.out _ _ ⟨(blk_cell BK1008.out 0).trans rfl, (blk_cell BK1008.out 1).trans rfl, (blk_cell BK1006.out 0).trans rfl, (blk_cell BK1006.out 1).trans rfl, ((HB.out.cell (World.block_lt_of_cell? w _ hw1021_0)).trans hw1021_0), ((HB.out.cell (World.block_lt_of_cell? w _ hw1021_1)).trans hw1021_1), ((HB.out.cell (World.block_lt_of_cell? w _ hw1022_0)).trans hw1022_0), ((HB.out.cell (World.block_lt_of_cell? w _ hw1022_1)).trans hw1022_1)⟩ (fun hHeld => ?_)
                    clear hK K
                    refine norm_ (a' := ?_) ?_ ?_
                    rotate_left
                    · show Act.put _ (some 58) _ = _
                      simp only [Act.put, List.setIfInBounds_toArray, List.set_cons_zero, List.set_cons_succ, i64_w, i32_w]
                      rfl
                    refine pure_ (i := 19) (N := some 59) (v := ?_) (a' := ?_) #[true, true, true, true, true, true, true, true, true, true, true, true, true, true, true, true, true, true, true, true, false] rfl rfl (any_of HT_.out (by kernel_rfl)) (fun _ _ _ h => h) (Or.inl ⟨by rfl, ?_⟩) ?_ ?_
                    rotate_left
                    · intro w'
                      go_simp
                      with_reducible rfl
                    rotate_left
                    · simp only [Act.put, List.setIfInBounds_toArray, List.set_cons_zero, List.set_cons_succ, i64_w, i32_w]
                      rfl
                    refine last_ (i := 20) (N := none) #[true, true, true, true, true, true, true, true, true, true, true, true, true, true, true, true, true, true, true, true, true] rfl rfl (one_of HT_.out (by kernel_rfl)) (by decide) (fun K hK => ?_)
                    have hs37 : w35.cell? ⟨gb1008, 1, none⟩ = some (u217001) := (blk_cell BK1008.out 1).trans rfl
                    have hfs37 := blk_frozen BK1008.out 1
                    have hns37_0 := NB1006_216.out
                    have hns37_1 := NB1007_216.out
                    have hms37_0 := NB1008_214.out
                    have hms37_1 := NB1008_215.out
                    refine skip_ (w1 := ?_) (by rfl) rfl ?_ ?_
                    rotate_left
                    · go_simp
                      rfl
                    refine hK.out _ _ ?_
                    clear hK K
                    refine done_ (done_of HT_.out (by kernel_rfl)) ?_
                    try go_wp2
                    go_roundg k2
                    case measure => have := HK1.out; have := HK2.out; omega
                    case rel => exact ⟨(wrap64 (x5_2 + 1)), (y1020), (.slice Ao36 y1020.length co36), (by first | rfl | (simp; done) | (simp [*]; done)), H', ⟨by have := HK1.out; have := HK2.out; omega⟩, ⟨by (with_reducible repeat (first | apply Kd.S_alloc | apply Kd.S_drewN | apply Kd.S_drew)); exact Kd.S_mono (Kd.S_far (p := ⟨gb1008, 1, none⟩) (Kd.S_types HO_1002.out BK1008.out (by decide)) (fun _ hk => hk.2) (.slice Ao36 y1020.length co36)) (fun _ hk => trivial)⟩, ⟨by (with_reducible repeat (first | apply Kd.S_alloc | apply Kd.S_drewN | apply Kd.S_drew)); exact Kd.S_mono (Kd.S_far (p := ⟨gb1008, 1, none⟩) (Kd.S_types HO1028.out BK1008.out (by decide)) (fun _ hk => hk.2) (.slice Ao36 y1020.length co36)) (fun _ hk => trivial)⟩, ⟨by (with_reducible repeat (first | refine blk_drewN ?_ _ | refine blk_drew ?_ | refine blk_alloc ?_ _)); refine blk_far ?_ NB1006_216.out _; (with_reducible repeat (first | refine blk_drewN ?_ _ | refine blk_drew ?_ | refine blk_alloc ?_ _)); exact BK1006.out⟩, ⟨by (with_reducible repeat (first | refine blk_drewN ?_ _ | refine blk_drew ?_ | refine blk_alloc ?_ _)); refine blk_far ?_ NB1007_216.out _; (with_reducible repeat (first | refine blk_drewN ?_ _ | refine blk_drew ?_ | refine blk_alloc ?_ _)); exact BK1007.out⟩, ⟨by (with_reducible repeat (first | refine blk_drewN ?_ _ | refine blk_drew ?_ | refine blk_alloc ?_ _)); refine blk_put (cs := #[u217000, u217001]) ?_ 1 _ rfl; (with_reducible repeat (first | refine blk_drewN ?_ _ | refine blk_drew ?_ | refine blk_alloc ?_ _)); exact BK1008.out⟩, ⟨by repeat (first | (with_reducible first | exact HB.out | apply below_alloc | apply pbdN | apply bdr1 | refine below_set ?_ GE1006.out | refine below_set ?_ GE1007.out | refine below_set ?_ GE1008.out) | exact HB.out)⟩⟩
                  · rw [if_neg c26] at H
                    exact absurd H (by simp)
                · rw [if_neg c25] at H
                  exact absurd H (by simp)
              · rw [if_neg c24] at H
                exact absurd H (by simp)
            · rw [if_neg c23] at H
              have c23b0 : decide (x5_2 < (l0_1.length : Int)) = false := decide_eq_false c23
              clear c23
              simp only [Option.some.injEq, Prod.mk.injEq] at H
              obtain ⟨rfl, rfl⟩ := H
              have hnb38 := NB1006_215.out
              have hnc38 := NB1007_214.out
              have hnb39 := NB1006_216.out
              have hnc39 := NB1008_214.out
              have hcz40_0 : wr.cell? ⟨gb1006, 0, none⟩ = some (.slice A0_0 l0_0.length c0_0) := (blk_cell BK1006.out 0).trans rfl
              have hcz40_1 : wr.cell? ⟨gb1006, 1, none⟩ = some (.slice A0_1 l0_1.length c0_1) := (blk_cell BK1006.out 1).trans rfl
              have hfz40_0 := blk_frozen BK1006.out 0
              have hfz40_1 := blk_frozen BK1006.out 1
              have hnb41 := NB1008_215.out
              have hnc41 := NB1007_216.out
              have hcz42_0 : wr.cell? ⟨gb1008, 0, none⟩ = some (u217000) := (blk_cell BK1008.out 0).trans rfl
              have hcz42_1 : wr.cell? ⟨gb1008, 1, none⟩ = some (u217001) := (blk_cell BK1008.out 1).trans rfl
              have hfz42_0 := blk_frozen BK1008.out 0
              have hfz42_1 := blk_frozen BK1008.out 1
              obtain ⟨Ao43, co43, eo43⟩ := Kd.S_slice HO_1002.out
              subst eo43
              have hcz44_0 : wr.cell? ⟨gb1007, 0, none⟩ = some (.slice none 0 0) := (blk_cell BK1007.out 0).trans rfl
              have hcz44_1 : wr.cell? ⟨gb1007, 1, none⟩ = some (.slice none 0 0) := (blk_cell BK1007.out 1).trans rfl
              have hfz44_0 := blk_frozen BK1007.out 0
              have hfz44_1 := blk_frozen BK1007.out 1
              obtain ⟨Ao45, co45, eo45⟩ := Kd.S_slice HO_1004.out
              subst eo45
              go_wp2
              refine bodyPost_ret (results_cell_row rfl _ _ gb1007 25 #[.slice Ao43 x1002_1.length co43, .slice Ao45 x1004_2.length co45] (0, 0) _ rfl (by (with_reducible repeat (first | refine blk_drewN ?_ _ | refine blk_drew ?_ | refine blk_alloc ?_ _)); refine blk_put (cs := #[.slice Ao43 x1002_1.length co43, .slice none 0 0]) ?_ 1 _ rfl; (with_reducible repeat (first | refine blk_drewN ?_ _ | refine blk_drew ?_ | refine blk_alloc ?_ _)); refine blk_put (cs := #[.slice none 0 0, .slice none 0 0]) ?_ 0 _ rfl; (with_reducible repeat (first | refine blk_drewN ?_ _ | refine blk_drew ?_ | refine blk_alloc ?_ _)); exact BK1007.out) Try.underlying25 rfl (by kernel_rfl)) rfl ?_
              exact ⟨_, _, by first | rfl | (simp [errW_none, errW_some] <;> rfl) | (simp [*, errW_none, errW_some] <;> rfl), by (with_reducible repeat (first | apply Kd.S_alloc | apply Kd.S_drewN | apply Kd.S_drew)); exact Kd.S_mono (Kd.S_far (p := ⟨gb1007, 1, none⟩) (Kd.S_far (p := ⟨gb1007, 0, none⟩) (Kd.S_types HO_1002.out BK1007.out (by decide)) (fun _ hk => hk.2) (.slice Ao43 x1002_1.length co43)) (fun _ hk => hk.2) (.slice Ao45 x1004_2.length co45)) (fun _ hk => trivial), by (with_reducible repeat (first | apply Kd.S_alloc | apply Kd.S_drewN | apply Kd.S_drew)); exact Kd.S_mono (Kd.S_far (p := ⟨gb1007, 1, none⟩) (Kd.S_far (p := ⟨gb1007, 0, none⟩) (Kd.S_types HO_1004.out BK1007.out (by decide)) (fun _ hk => hk.2) (.slice Ao43 x1002_1.length co43)) (fun _ hk => hk.2) (.slice Ao45 x1004_2.length co45)) (fun _ hk => trivial), by repeat (first | (with_reducible first | exact HB.out | apply below_alloc | apply pbdN | apply bdr1 | refine below_set ?_ GE1006.out | refine below_set ?_ GE1007.out | refine below_set ?_ GE1008.out) | exact HB.out)⟩
end Go.Proofs.Ytdkjhcdniepbhaa.P
end
section
set_option linter.unusedVariables false
set_option linter.unusedSimpArgs false
namespace Go.Proofs.Ytdkjhcdniepbhaa.P
open Go.RowKit Go.Proofs.PrintWords Go.Proofs.PrintLast Go.Proofs.PrintMore
attribute [local go_sem] max2_int min2_int max_two min_two max_three min_three max_four min_four
def flat3 (l : List (Int × Int × Int)) : List Value := l.flatMap fun t => [.int .i64 t.1, .int .i64 t.2.1, .int .i64 t.2.2]
def inB (t : Int × Int × Int) : Bool := decide (t.2.1 ≤ t.1) && decide (t.1 ≤ t.2.2)
theorem flat3_at (l : List (Int × Int × Int)) : ∀ (k : Nat) (hk : k < l.length), (flat3 l)[k * 3]? = some (.int .i64 l[k].1) ∧ (flat3 l)[k * 3 + 1]? = some (.int .i64 l[k].2.1) ∧ (flat3 l)[k * 3 + 2]? = some (.int .i64 l[k].2.2) := by
  induction l with
  | nil => intro k hk; simp at hk
  | cons t l ih =>
    intro k hk
    cases k with
    | zero => exact ⟨rfl, rfl, rfl⟩
    | succ k =>
      have h := ih k (by simpa using hk)
      have e : flat3 (t :: l) = .int .i64 t.1 :: .int .i64 t.2.1 :: .int .i64 t.2.2 :: flat3 l := rfl
      have e0 : (k + 1) * 3 = k * 3 + 1 + 1 + 1 := by omega
      rw [e, e0]
      simpa using h
set_option maxHeartbeats 2000000 in
set_option maxRecDepth 100000 in
theorem hWithin.calls (g : Nat) (l : List (Int × Int × Int)) (w : World) (hl : l.length ≤ 1000) (hb : w.heap[g]? = some (.cells (flat3 l).toArray 190 (0, 0))) :
    Calls Try.prog 128 #[.slice (some ⟨g, 0, none⟩) l.length l.length] w fun e w' => e = .returned (.bool (l.all inB)) ∧ Below w.heap.size w w' := by
  have hu249 := Try.underlying190
  have HB := Aside0.mk hb
  clear hb
  go_enter Try.func128, Try.ntmps128
  go_wp2_with fail
  go_loopw [7] (fun i wr => ∃ k : Nat, k ≤ l.length ∧ i = .int .i64 k ∧ Aside0 ((l.take k).all inB = true) ∧ Aside0 (Below w.heap.size w wr)) (fun i _ => l.length - (intOf i).toNat)
  case atStart => exact ⟨0, Nat.zero_le _, rfl, ⟨by simp⟩, ⟨Below.refl _ _⟩⟩
  case round =>
    obtain ⟨k, hk, rfl, HP, HX⟩ := hrel
    by_cases hlt : k < l.length
    · have HBr := Aside0.mk ((HX.out.block g (blk_lt HB.out)).trans HB.out)
      obtain ⟨x, y, z, f0, f1, f2, hE⟩ : ∃ x y z : Int, (flat3 l)[k * 3]? = some (.int .i64 x) ∧ (flat3 l)[k * 3 + 1]? = some (.int .i64 y) ∧ (flat3 l)[k * 3 + 2]? = some (.int .i64 z) ∧ inB (l.getD k (0, 0, 0)) = (decide (y ≤ x) && decide (x ≤ z)) := by
        obtain ⟨f0, f1, f2⟩ := flat3_at l k hlt
        exact ⟨_, _, _, f0, f1, f2, by simp [inB, List.getD_eq_getElem?_getD, List.getElem?_eq_getElem hlt]⟩
      have c0 : wr.cell? ⟨g, k * 3, none⟩ = some (.int .i64 x) := (blk_cell HBr.out _).trans (by simpa using f0)
      have c1 : wr.cell? ⟨g, k * 3 + 1, none⟩ = some (.int .i64 y) := (blk_cell HBr.out _).trans (by simpa using f1)
      have c2 : wr.cell? ⟨g, k * 3 + 2, none⟩ = some (.int .i64 z) := (blk_cell HBr.out _).trans (by simpa using f2)
      have HE := Aside0.mk hE
      clear f0 f1 f2 hE
      by_cases h1 : x < y
      · have hb1 : decide (x < y) = true := decide_eq_true h1
        have HF : Aside0 (l.all inB = false) := ⟨all_false_at inB l k hlt (0, 0, 0) (by rw [HE.out, decide_eq_false (show ¬ y ≤ x by omega)]; rfl)⟩
        clear h1 HE
        go_wp2_with fail
        go_ret
        exact ⟨by rw [HF.out]; rfl, below_alloc HX.out _⟩
      · have hb1 : decide (x < y) = false := decide_eq_false h1
        by_cases h2 : x > z
        · have hb2 : decide (x > z) = true := decide_eq_true h2
          have HF : Aside0 (l.all inB = false) := ⟨all_false_at inB l k hlt (0, 0, 0) (by rw [HE.out, decide_eq_false (show ¬ x ≤ z by omega), Bool.and_false])⟩
          clear h1 h2 HE
          go_wp2_with fail
          go_ret
          exact ⟨by rw [HF.out]; rfl, below_alloc HX.out _⟩
        · have hb2 : decide (x > z) = false := decide_eq_false h2
          have HF : Aside0 ((l.take (k + 1)).all inB = true) := ⟨by rw [all_take_snoc inB l k hlt (0, 0, 0), HP.out, HE.out, decide_eq_true (show y ≤ x by omega), decide_eq_true (show x ≤ z by omega)]; rfl⟩
          clear h1 h2 HE
          go_wp2_with fail
          go_roundw
          case rel => exact ⟨k + 1, by omega, by go_num, HF, ⟨below_alloc HX.out _⟩⟩
          case measure => simp [intOf]; omega
    · have HF : Aside0 (l.all inB = true) := ⟨by have := HP.out; rwa [List.take_of_length_le (by omega)] at this⟩
      go_wp2
      go_ret
      exact ⟨by rw [HF.out]; rfl, HX.out⟩
def okCfg (p t a m w q : Int) : Bool := [(p, 1, 3), (t, 1, 16), (a, 1, 32), (m, 1, p), (w, 1, 4), (q, 4, 64)].all inB && decide (p + 2 ≤ a)
def hPlaceCheck.f (p t a m w q : Int) : Option Int := some (if okCfg p t a m w q = true then 0 else 8)
set_option maxHeartbeats 2000000 in
set_option maxRecDepth 100000 in
theorem hPlaceCheck.calls (a0_0 a0_1 a0_2 a0_3 a0_4 a0_5 : Int) (r : Int) (w : World) (h : hPlaceCheck.f a0_0 a0_1 a0_2 a0_3 a0_4 a0_5 = some r) :
    Calls Try.prog 109 #[.agg #[.int .i64 a0_0, .int .i64 a0_1, .int .i64 a0_2, .int .i64 a0_3, .int .i64 a0_4, .int .i64 a0_5]] w fun e w' => e = .returned (.int .i64 r) ∧ Below w.heap.size w w' := by
  have hu62 := Try.underlying44
  have hu249 := Try.underlying190
  have H : Aside0 ((if okCfg a0_0 a0_1 a0_2 a0_3 a0_4 a0_5 = true then 0 else 8) = r) := ⟨by unfold hPlaceCheck.f at h; injection h⟩
  clear h
  have HB0 := Aside0.mk (below_alloc (below_alloc (Below.refl w.heap.size w) (.cells #[.int .i64 a0_0, .int .i64 a0_1, .int .i64 a0_2, .int .i64 a0_3, .int .i64 a0_4, .int .i64 a0_5] 44)) (.cells (flat3 [(a0_0, 1, 3), (a0_1, 1, 16), (a0_2, 1, 32), (a0_3, 1, a0_0), (a0_4, 1, 4), (a0_5, 4, 64)]).toArray 190))
  have HK := Aside0.mk (heap_alloc_new w (.cells #[.int .i64 a0_0, .int .i64 a0_1, .int .i64 a0_2, .int .i64 a0_3, .int .i64 a0_4, .int .i64 a0_5] 44))
  cases hall : ([(a0_0, 1, 3), (a0_1, 1, 16), (a0_2, 1, 32), (a0_3, 1, a0_0), (a0_4, 1, 4), (a0_5, 4, 64)] : List (Int × Int × Int)).all inB with
  | false =>
    obtain rfl : r = 8 := by rw [← H.out, if_neg]; unfold okCfg; rw [hall]; simp
    have HA := Aside0.mk hall
    clear hall H
    go_enter Try.func109, Try.ntmps109
    go_wp2_with (go_at_call 128; refine (hWithin.calls (w.heap.size + 1) [(a0_0, 1, 3), (a0_1, 1, 16), (a0_2, 1, 32), (a0_3, 1, a0_0), (a0_4, 1, 4), (a0_5, 4, 64)] _ (by simp) (heap_alloc_at _ _ _ _ rfl)).mono ?_; rw [HA.out]; rintro e w1 ⟨rfl, hb1⟩; have HB1 := Aside0.mk (below_step HB0.out hb1); clear hb1)
    go_ret
    exact ⟨rfl, HB1.out⟩
  | true =>
    have hs : a0_0 ≤ 3 ∧ 1 ≤ a0_0 ∧ a0_2 ≤ 32 ∧ 1 ≤ a0_2 := by
      simp [inB] at hall
      omega
    have HA := Aside0.mk hall
    clear hall
    by_cases h2 : a0_2 < a0_0 + 2
    · obtain rfl : r = 8 := by rw [← H.out, if_neg]; unfold okCfg; rw [HA.out]; simp; omega
      have hb : decide (a0_2 < a0_0 + 2) = true := decide_eq_true h2
      clear H h2
      go_enter Try.func109, Try.ntmps109
      go_wp2_with (go_at_call 128; refine (hWithin.calls (w.heap.size + 1) [(a0_0, 1, 3), (a0_1, 1, 16), (a0_2, 1, 32), (a0_3, 1, a0_0), (a0_4, 1, 4), (a0_5, 4, 64)] _ (by simp) (heap_alloc_at _ _ _ _ rfl)).mono ?_; rw [HA.out]; rintro e w1 ⟨rfl, hb1⟩; have HB1 := Aside0.mk (below_step HB0.out hb1); have q0 : w1.cell? ⟨w.heap.size, 0, none⟩ = some (.int .i64 a0_0) := (hb1.cell (p := ⟨w.heap.size, 0, none⟩) (by simp; omega)).trans (by simp); have q2 : w1.cell? ⟨w.heap.size, 2, none⟩ = some (.int .i64 a0_2) := (hb1.cell (p := ⟨w.heap.size, 2, none⟩) (by simp; omega)).trans (by simp); clear hb1)
      go_ret
      exact ⟨rfl, HB1.out⟩
    · obtain rfl : r = 0 := by rw [← H.out, if_pos]; unfold okCfg; rw [HA.out]; simp; omega
      have hb : decide (a0_2 < a0_0 + 2) = false := decide_eq_false h2
      clear H h2
      go_enter Try.func109, Try.ntmps109
      go_wp2_with (go_at_call 128; refine (hWithin.calls (w.heap.size + 1) [(a0_0, 1, 3), (a0_1, 1, 16), (a0_2, 1, 32), (a0_3, 1, a0_0), (a0_4, 1, 4), (a0_5, 4, 64)] _ (by simp) (heap_alloc_at _ _ _ _ rfl)).mono ?_; rw [HA.out]; rintro e w1 ⟨rfl, hb1⟩; have HB1 := Aside0.mk (below_step HB0.out hb1); have q0 : w1.cell? ⟨w.heap.size, 0, none⟩ = some (.int .i64 a0_0) := (hb1.cell (p := ⟨w.heap.size, 0, none⟩) (by simp; omega)).trans (by simp); have q2 : w1.cell? ⟨w.heap.size, 2, none⟩ = some (.int .i64 a0_2) := (hb1.cell (p := ⟨w.heap.size, 2, none⟩) (by simp; omega)).trans (by simp); clear hb1)
      go_ret
      exact ⟨rfl, HB1.out⟩
end Go.Proofs.Ytdkjhcdniepbhaa.P
end
section
set_option linter.unusedVariables false
set_option linter.unusedSimpArgs false
namespace Go.Proofs.Ytdkjhcdniepbhaa.P
open Go.RowKit Go.Proofs.PrintWords Go.Proofs.PrintLast Go.Proofs.PrintMore
attribute [local go_sem] max2_int min2_int max_two min_two max_three min_three max_four min_four
def pgs (t : Int) : Int := if t ≤ 8 then 1 else 2
theorem okCfg_is {a0_0 a0_1 a0_2 a0_3 a0_4 a0_5 : Int} (h : okCfg a0_0 a0_1 a0_2 a0_3 a0_4 a0_5 = true) : 1 ≤ a0_0 ∧ a0_0 ≤ 3 ∧ 1 ≤ a0_1 ∧ a0_1 ≤ 16 ∧ a0_0 + 2 ≤ a0_2 ∧ a0_2 ≤ 32 ∧ 1 ≤ a0_3 ∧ a0_3 ≤ a0_0 ∧ 1 ≤ a0_4 ∧ a0_4 ≤ 4 ∧ 4 ≤ a0_5 ∧ a0_5 ≤ 64 := by
  simp [okCfg, inB] at h
  omega
theorem pgs_bd (t : Int) : 1 ≤ pgs t ∧ pgs t ≤ 2 := by unfold pgs; split <;> omega
theorem pages_is {a0_0 a0_1 a0_2 a0_3 a0_4 a0_5 : Int} (h1 : 1 ≤ a0_1) (h2 : a0_1 ≤ 16) : place_pages.f a0_0 a0_1 a0_2 a0_3 a0_4 a0_5 = some (pgs a0_1) := by
  unfold place_pages.f pgs wrap64
  congr 1
  rw [Int.tdiv_eq_ediv_of_nonneg (by omega)]
  split <;> omega
theorem parts_is {a0_0 a0_1 a0_2 a0_3 a0_4 a0_5 : Int} (h1 : 1 ≤ a0_1) (h2 : a0_1 ≤ 16) : place_parts.f a0_0 a0_1 a0_2 a0_3 a0_4 a0_5 = some (1, 1, 1, 2, 2, 2, a0_2, 1, 3, a0_0, pgs a0_1, 1, 4, a0_0, a0_1, 4) := by
  unfold place_parts.f
  rw [pages_is h1 h2]
  rfl
theorem prod_bd {p t : Int} (h1 : 1 ≤ p) (h2 : p ≤ 3) (h3 : 1 ≤ t) (h4 : t ≤ 16) : 1 ≤ p * t ∧ p * t ≤ 48 := by
  have : p = 1 ∨ p = 2 ∨ p = 3 := by omega
  rcases this with rfl | rfl | rfl <;> omega
theorem w64 {x : Int} (h0 : 0 ≤ x) (h1 : x ≤ 100000) : wrap64 x = x := by unfold wrap64; omega
theorem size0 : place_part_size.f 1 1 1 2 = some 2 := by decide +kernel
theorem size1 {a : Int} (h1 : 1 ≤ a) (h2 : a ≤ 32) : place_part_size.f 2 2 a 1 = some (2 * a) := by
  unfold place_part_size.f
  rw [w64 (x := 2 * a) (by omega) (by omega), w64 (by omega) (by omega)]
  congr 1
  omega
theorem size2 {p t : Int} (h1 : 1 ≤ p) (h2 : p ≤ 3) : place_part_size.f 3 p (pgs t) 1 = some (p * pgs t) := by
  have := pgs_bd t
  have h := prod_bd h1 h2 this.1 (by omega)
  unfold place_part_size.f
  rw [w64 (x := p * pgs t) (by omega) (by omega), w64 (by omega) (by omega)]
  congr 1
  omega
theorem size3 {p t : Int} (h1 : 1 ≤ p) (h2 : p ≤ 3) (h3 : 1 ≤ t) (h4 : t ≤ 16) : place_part_size.f 4 p t 4 = some (4 * (p * t)) := by
  have h := prod_bd h1 h2 h3 h4
  unfold place_part_size.f
  rw [w64 (x := p * t) (by omega) (by omega), w64 (by omega) (by omega)]
  congr 1
  omega
def nSec (p t a : Int) : Int := 2 + 2 * a + p * pgs t + 4 * (p * t)
def hSectors.f (a0_0 a0_1 a0_2 a0_3 a0_4 a0_5 : Int) : Option (Int × Int) := some (if okCfg a0_0 a0_1 a0_2 a0_3 a0_4 a0_5 = true then (nSec a0_0 a0_1 a0_2, 0) else (0, 8))
set_option maxHeartbeats 8000000 in
set_option maxRecDepth 100000 in
theorem hSectors.calls (a0_0 a0_1 a0_2 a0_3 a0_4 a0_5 : Int) (r1 r2 : Int) (w : World) (h : hSectors.f a0_0 a0_1 a0_2 a0_3 a0_4 a0_5 = some (r1, r2)) :
    Calls Try.prog 86 #[.agg #[.int .i64 a0_0, .int .i64 a0_1, .int .i64 a0_2, .int .i64 a0_3, .int .i64 a0_4, .int .i64 a0_5]] w fun e w' => e = .returned (.tuple #[.int .i64 r1, .int .i64 r2]) ∧ Below w.heap.size w w' := by
  have hu62 := Try.underlying44
  have hu211 := Try.underlying179
  have hu212 := Try.underlying180
  have hu249 := Try.underlying190
  have HB0 := Aside0.mk (below_alloc (Below.refl w.heap.size w) (.cells #[.int .i64 a0_0, .int .i64 a0_1, .int .i64 a0_2, .int .i64 a0_3, .int .i64 a0_4, .int .i64 a0_5] 44))
  cases hk : okCfg a0_0 a0_1 a0_2 a0_3 a0_4 a0_5 with
  | false =>
    obtain ⟨rfl, rfl⟩ : 0 = r1 ∧ 8 = r2 := by simpa [hSectors.f, hk] using h
    have HK := Aside0.mk hk
    clear h hk
    go_enter Try.func86, Try.ntmps86
    go_wp2_with ((go_at_call 109; refine (hPlaceCheck.calls a0_0 a0_1 a0_2 a0_3 a0_4 a0_5 8 _ (by unfold hPlaceCheck.f; rw [HK.out]; rfl)).mono ?_; rintro e w1 ⟨rfl, hb1⟩; have HB1 := Aside0.mk (below_step HB0.out hb1); have HC1 := Aside0.mk ((hb1.block w.heap.size (by simp)).trans (heap_alloc_new w (.cells #[.int .i64 a0_0, .int .i64 a0_1, .int .i64 a0_2, .int .i64 a0_3, .int .i64 a0_4, .int .i64 a0_5] 44))); have q0 := (blk_cell HC1.out 0).trans rfl; have q1 := (blk_cell HC1.out 1).trans rfl; have q2 := (blk_cell HC1.out 2).trans rfl; have q3 := (blk_cell HC1.out 3).trans rfl; have q4 := (blk_cell HC1.out 4).trans rfl; have q5 := (blk_cell HC1.out 5).trans rfl; clear hb1))
    go_ret2
    exact ⟨rfl, HB1.out⟩
  | true =>
    obtain ⟨rfl, rfl⟩ : nSec a0_0 a0_1 a0_2 = r1 ∧ 0 = r2 := by simpa [hSectors.f, hk] using h
    have HK := Aside0.mk hk
    clear h hk
    have ix0 : ∀ w : World, (Instr.index 180 (.agg #[.int .u8 1, .int .i64 1, .int .i64 1, .int .i64 2, .int .u8 2, .int .i64 2, .int .i64 a0_2, .int .i64 1, .int .u8 3, .int .i64 a0_0, .int .i64 (pgs a0_1), .int .i64 1, .int .u8 4, .int .i64 a0_0, .int .i64 a0_1, .int .i64 4]) (.int .i64 0)).run Try.prog w = .ok (.agg #[.int .u8 1, .int .i64 1, .int .i64 1, .int .i64 2]) w := fun _ => by kernel_rfl
    have ix1 : ∀ w : World, (Instr.index 180 (.agg #[.int .u8 1, .int .i64 1, .int .i64 1, .int .i64 2, .int .u8 2, .int .i64 2, .int .i64 a0_2, .int .i64 1, .int .u8 3, .int .i64 a0_0, .int .i64 (pgs a0_1), .int .i64 1, .int .u8 4, .int .i64 a0_0, .int .i64 a0_1, .int .i64 4]) (.int .i64 1)).run Try.prog w = .ok (.agg #[.int .u8 2, .int .i64 2, .int .i64 a0_2, .int .i64 1]) w := fun _ => by kernel_rfl
    have ix2 : ∀ w : World, (Instr.index 180 (.agg #[.int .u8 1, .int .i64 1, .int .i64 1, .int .i64 2, .int .u8 2, .int .i64 2, .int .i64 a0_2, .int .i64 1, .int .u8 3, .int .i64 a0_0, .int .i64 (pgs a0_1), .int .i64 1, .int .u8 4, .int .i64 a0_0, .int .i64 a0_1, .int .i64 4]) (.int .i64 2)).run Try.prog w = .ok (.agg #[.int .u8 3, .int .i64 a0_0, .int .i64 (pgs a0_1), .int .i64 1]) w := fun _ => by kernel_rfl
    have ix3 : ∀ w : World, (Instr.index 180 (.agg #[.int .u8 1, .int .i64 1, .int .i64 1, .int .i64 2, .int .u8 2, .int .i64 2, .int .i64 a0_2, .int .i64 1, .int .u8 3, .int .i64 a0_0, .int .i64 (pgs a0_1), .int .i64 1, .int .u8 4, .int .i64 a0_0, .int .i64 a0_1, .int .i64 4]) (.int .i64 3)).run Try.prog w = .ok (.agg #[.int .u8 4, .int .i64 a0_0, .int .i64 a0_1, .int .i64 4]) w := fun _ => by kernel_rfl
    obtain ⟨b1, b2, b3, b4, b5, b6, _⟩ := okCfg_is HK.out
    have p1 := pgs_bd a0_1
    have p2 := prod_bd b1 b2 p1.1 (by omega)
    have p3 := prod_bd b1 b2 b3 b4
    go_enter Try.func86, Try.ntmps86
    go_wp2_with (first | (go_at_call 109; refine (hPlaceCheck.calls a0_0 a0_1 a0_2 a0_3 a0_4 a0_5 0 _ (by unfold hPlaceCheck.f; rw [HK.out]; rfl)).mono ?_; rintro e w1 ⟨rfl, hb1⟩; have HB1 := Aside0.mk (below_step HB0.out hb1); have HC1 := Aside0.mk ((hb1.block w.heap.size (by simp)).trans (heap_alloc_new w (.cells #[.int .i64 a0_0, .int .i64 a0_1, .int .i64 a0_2, .int .i64 a0_3, .int .i64 a0_4, .int .i64 a0_5] 44))); have q0 := (blk_cell HC1.out 0).trans rfl; have q1 := (blk_cell HC1.out 1).trans rfl; have q2 := (blk_cell HC1.out 2).trans rfl; have q3 := (blk_cell HC1.out 3).trans rfl; have q4 := (blk_cell HC1.out 4).trans rfl; have q5 := (blk_cell HC1.out 5).trans rfl; clear hb1) | (go_at_call 123; refine (place_parts.calls a0_0 a0_1 a0_2 a0_3 a0_4 a0_5 1 1 1 2 2 2 a0_2 1 3 a0_0 (pgs a0_1) 1 4 a0_0 a0_1 4 _ (parts_is (okCfg_is HK.out).2.2.1 (okCfg_is HK.out).2.2.2.1)).mono ?_; rintro e w2 ⟨rfl, hb2⟩; have HB2 := Aside0.mk (below_step HB1.out hb2); clear hb2))
    go_loopw [2, 14] (fun t i wr => Aside0 (Below w.heap.size w wr) ∧ ((i = .int .i64 0 ∧ t = .int .i64 0) ∨ (i = .int .i64 1 ∧ t = .int .i64 2) ∨ (i = .int .i64 2 ∧ t = .int .i64 (2 + 2 * a0_2)) ∨ (i = .int .i64 3 ∧ t = .int .i64 (2 + 2 * a0_2 + a0_0 * pgs a0_1)) ∨ (i = .int .i64 4 ∧ t = .int .i64 (2 + 2 * a0_2 + a0_0 * pgs a0_1 + 4 * (a0_0 * a0_1))))) (fun _ i _ => 4 - (intOf i).toNat)
    case atStart => exact ⟨HB2, .inl ⟨rfl, rfl⟩⟩
    case round =>
      obtain ⟨HX, hs⟩ := hrel
      rcases hs with ⟨rfl, rfl⟩ | ⟨rfl, rfl⟩ | ⟨rfl, rfl⟩ | ⟨rfl, rfl⟩ | ⟨rfl, rfl⟩
      · go_wp2_with (go_at_call 124; refine (place_part_size.calls 1 1 1 2 2 _ size0).mono ?_; rintro e w3 ⟨rfl, hb3⟩; have HB3 := Aside0.mk (below_step (below_alloc HX.out (.cells #[.int .u8 1, .int .i64 1, .int .i64 1, .int .i64 2] 179)) hb3); clear hb3)
        go_roundw
        case rel => exact ⟨HB3, .inr (.inl ⟨by go_num, by rfl⟩)⟩
        case measure => simp [intOf]
      · go_wp2_with (go_at_call 124; refine (place_part_size.calls 2 2 a0_2 1 (2 * a0_2) _ (size1 (by omega) (by omega))).mono ?_; rintro e w3 ⟨rfl, hb3⟩; have HB3 := Aside0.mk (below_step (below_alloc HX.out (.cells #[.int .u8 2, .int .i64 2, .int .i64 a0_2, .int .i64 1] 179)) hb3); clear hb3)
        go_roundw
        case rel => exact ⟨HB3, .inr (.inr (.inl ⟨by go_num, by go_num⟩))⟩
        case measure => simp [intOf]
      · go_wp2_with (go_at_call 124; refine (place_part_size.calls 3 a0_0 (pgs a0_1) 1 (a0_0 * pgs a0_1) _ (size2 (by omega) (by omega))).mono ?_; rintro e w3 ⟨rfl, hb3⟩; have HB3 := Aside0.mk (below_step (below_alloc HX.out (.cells #[.int .u8 3, .int .i64 a0_0, .int .i64 (pgs a0_1), .int .i64 1] 179)) hb3); clear hb3)
        go_roundw
        case rel => exact ⟨HB3, .inr (.inr (.inr (.inl ⟨by go_num, by go_num⟩)))⟩
        case measure => simp [intOf]
      · go_wp2_with (go_at_call 124; refine (place_part_size.calls 4 a0_0 a0_1 4 (4 * (a0_0 * a0_1)) _ (size3 (by omega) (by omega) (by omega) (by omega))).mono ?_; rintro e w3 ⟨rfl, hb3⟩; have HB3 := Aside0.mk (below_step (below_alloc HX.out (.cells #[.int .u8 4, .int .i64 a0_0, .int .i64 a0_1, .int .i64 4] 179)) hb3); clear hb3)
        go_roundw
        case rel => exact ⟨HB3, .inr (.inr (.inr (.inr (⟨by go_num, by go_num⟩))))⟩
        case measure => simp [intOf]
      · go_wp2
        go_ret2
        exact ⟨by unfold nSec; rfl, HX.out⟩
def dFind (a0_0 a0_1 a0_2 a0_3 a0_4 a0_5 a1 a2 a3 : Int) : Int × Int := if okCfg a0_0 a0_1 a0_2 a0_3 a0_4 a0_5 = true then (if a1 = 2 then (if ([(a2, 0, 1), (a3, 0, (a0_2 - 1))] : List (Int × Int × Int)).all inB = true then (2 + (a2 * a0_2 + a3), 0) else (0, 2)) else if a1 = 3 then (if ([(a2, 0, (a0_0 - 1)), (a3, 0, (pgs a0_1 - 1))] : List (Int × Int × Int)).all inB = true then ((2 + 2 * a0_2) + (a2 * (pgs a0_1) + a3), 0) else (0, 2)) else (if ([(a2, 0, (a0_0 - 1)), (a3, 0, (a0_1 - 1))] : List (Int × Int × Int)).all inB = true then ((2 + 2 * a0_2 + a0_0 * pgs a0_1) + (a2 * a0_1 + a3) * 4, 0) else (0, 2))) else (0, 8)
def hFind.f (a0_0 a0_1 a0_2 a0_3 a0_4 a0_5 a1 a2 a3 : Int) : Option (Int × Int) := if a1 = 2 ∨ a1 = 3 ∨ a1 = 4 then some (dFind a0_0 a0_1 a0_2 a0_3 a0_4 a0_5 a1 a2 a3) else none
theorem all2_is {a b c d : Int} (h : ([(a, 0, b), (c, 0, d)] : List (Int × Int × Int)).all inB = true) : 0 ≤ a ∧ a ≤ b ∧ 0 ≤ c ∧ c ≤ d := by
  simp [inB] at h
  omega
theorem mul_bd {a m : Int} (h1 : 0 ≤ a) (h2 : a ≤ 2) (h3 : 0 ≤ m) (h4 : m ≤ 32) : 0 ≤ a * m ∧ a * m ≤ 64 := by
  have : a = 0 ∨ a = 1 ∨ a = 2 := by omega
  rcases this with rfl | rfl | rfl <;> omega
set_option maxHeartbeats 8000000 in
set_option maxRecDepth 100000 in
theorem hFind.at2 (a0_0 a0_1 a0_2 a0_3 a0_4 a0_5 a2 a3 : Int) (r1 r2 : Int) (w : World) (h : some (dFind a0_0 a0_1 a0_2 a0_3 a0_4 a0_5 2 a2 a3) = some (r1, r2))  :
    Calls Try.prog 96 #[.agg #[.int .i64 a0_0, .int .i64 a0_1, .int .i64 a0_2, .int .i64 a0_3, .int .i64 a0_4, .int .i64 a0_5], .int .u8 2, .int .i64 a2, .int .i64 a3] w fun e w' => e = .returned (.tuple #[.int .i64 r1, .int .i64 r2]) ∧ Below w.heap.size w w' := by
  have hu62 := Try.underlying44
  have hu211 := Try.underlying179
  have hu212 := Try.underlying180
  have hu249 := Try.underlying190
  have HB0 := Aside0.mk (below_alloc (Below.refl w.heap.size w) (.cells #[.int .i64 a0_0, .int .i64 a0_1, .int .i64 a0_2, .int .i64 a0_3, .int .i64 a0_4, .int .i64 a0_5] 44))
  injection h with h
  unfold dFind at h
  cases hk : okCfg a0_0 a0_1 a0_2 a0_3 a0_4 a0_5 with
  | false =>
    obtain ⟨rfl, rfl⟩ : 0 = r1 ∧ 8 = r2 := by simpa [hk] using h
    have HK := Aside0.mk hk
    clear h hk
    go_enter Try.func96, Try.ntmps96
    go_wp2_with ((go_at_call 109; refine (hPlaceCheck.calls a0_0 a0_1 a0_2 a0_3 a0_4 a0_5 8 _ (by unfold hPlaceCheck.f; rw [HK.out]; rfl)).mono ?_; rintro e w1 ⟨rfl, hb1⟩; have HB1 := Aside0.mk (below_step HB0.out hb1); have HC1 := Aside0.mk ((hb1.block w.heap.size (by simp)).trans (heap_alloc_new w (.cells #[.int .i64 a0_0, .int .i64 a0_1, .int .i64 a0_2, .int .i64 a0_3, .int .i64 a0_4, .int .i64 a0_5] 44))); have q0 := (blk_cell HC1.out 0).trans rfl; have q1 := (blk_cell HC1.out 1).trans rfl; have q2 := (blk_cell HC1.out 2).trans rfl; have q3 := (blk_cell HC1.out 3).trans rfl; have q4 := (blk_cell HC1.out 4).trans rfl; have q5 := (blk_cell HC1.out 5).trans rfl; clear hb1))
    go_ret2
    exact ⟨rfl, HB1.out⟩
  | true =>
    have HK := Aside0.mk hk
    have ix0 : ∀ w : World, (Instr.index 180 (.agg #[.int .u8 1, .int .i64 1, .int .i64 1, .int .i64 2, .int .u8 2, .int .i64 2, .int .i64 a0_2, .int .i64 1, .int .u8 3, .int .i64 a0_0, .int .i64 (pgs a0_1), .int .i64 1, .int .u8 4, .int .i64 a0_0, .int .i64 a0_1, .int .i64 4]) (.int .i64 0)).run Try.prog w = .ok (.agg #[.int .u8 1, .int .i64 1, .int .i64 1, .int .i64 2]) w := fun _ => by kernel_rfl
    have ix1 : ∀ w : World, (Instr.index 180 (.agg #[.int .u8 1, .int .i64 1, .int .i64 1, .int .i64 2, .int .u8 2, .int .i64 2, .int .i64 a0_2, .int .i64 1, .int .u8 3, .int .i64 a0_0, .int .i64 (pgs a0_1), .int .i64 1, .int .u8 4, .int .i64 a0_0, .int .i64 a0_1, .int .i64 4]) (.int .i64 1)).run Try.prog w = .ok (.agg #[.int .u8 2, .int .i64 2, .int .i64 a0_2, .int .i64 1]) w := fun _ => by kernel_rfl
    have ix2 : ∀ w : World, (Instr.index 180 (.agg #[.int .u8 1, .int .i64 1, .int .i64 1, .int .i64 2, .int .u8 2, .int .i64 2, .int .i64 a0_2, .int .i64 1, .int .u8 3, .int .i64 a0_0, .int .i64 (pgs a0_1), .int .i64 1, .int .u8 4, .int .i64 a0_0, .int .i64 a0_1, .int .i64 4]) (.int .i64 2)).run Try.prog w = .ok (.agg #[.int .u8 3, .int .i64 a0_0, .int .i64 (pgs a0_1), .int .i64 1]) w := fun _ => by kernel_rfl
    have ix3 : ∀ w : World, (Instr.index 180 (.agg #[.int .u8 1, .int .i64 1, .int .i64 1, .int .i64 2, .int .u8 2, .int .i64 2, .int .i64 a0_2, .int .i64 1, .int .u8 3, .int .i64 a0_0, .int .i64 (pgs a0_1), .int .i64 1, .int .u8 4, .int .i64 a0_0, .int .i64 a0_1, .int .i64 4]) (.int .i64 3)).run Try.prog w = .ok (.agg #[.int .u8 4, .int .i64 a0_0, .int .i64 a0_1, .int .i64 4]) w := fun _ => by kernel_rfl
    obtain ⟨b1, b2, b3, b4, b5, b6, _⟩ := okCfg_is HK.out
    have p1 := pgs_bd a0_1
    have p2 := prod_bd b1 b2 p1.1 (by omega)
    have p3 := prod_bd b1 b2 b3 b4
    have HR := Aside0.mk h
    clear h hk
    go_enter Try.func96, Try.ntmps96
    go_wp2_with (first | (go_at_call 109; refine (hPlaceCheck.calls a0_0 a0_1 a0_2 a0_3 a0_4 a0_5 0 _ (by unfold hPlaceCheck.f; rw [HK.out]; rfl)).mono ?_; rintro e w1 ⟨rfl, hb1⟩; have HB1 := Aside0.mk (below_step HB0.out hb1); have HC1 := Aside0.mk ((hb1.block w.heap.size (by simp)).trans (heap_alloc_new w (.cells #[.int .i64 a0_0, .int .i64 a0_1, .int .i64 a0_2, .int .i64 a0_3, .int .i64 a0_4, .int .i64 a0_5] 44))); have q0 := (blk_cell HC1.out 0).trans rfl; have q1 := (blk_cell HC1.out 1).trans rfl; have q2 := (blk_cell HC1.out 2).trans rfl; have q3 := (blk_cell HC1.out 3).trans rfl; have q4 := (blk_cell HC1.out 4).trans rfl; have q5 := (blk_cell HC1.out 5).trans rfl; clear hb1) | (go_at_call 123; refine (place_parts.calls a0_0 a0_1 a0_2 a0_3 a0_4 a0_5 1 1 1 2 2 2 a0_2 1 3 a0_0 (pgs a0_1) 1 4 a0_0 a0_1 4 _ (parts_is (okCfg_is HK.out).2.2.1 (okCfg_is HK.out).2.2.2.1)).mono ?_; rintro e w2 ⟨rfl, hb2⟩; have HB2 := Aside0.mk (below_step HB1.out hb2); clear hb2))
    go_loopw [8, 20] (fun t i wr => Aside0 (Below w.heap.size w wr) ∧ ((i = .int .i64 0 ∧ t = .int .i64 0) ∨ (i = .int .i64 1 ∧ t = .int .i64 2))) (fun _ i _ => 4 - (intOf i).toNat)
    case atStart => exact ⟨HB2, .inl ⟨rfl, rfl⟩⟩
    case round =>
      obtain ⟨HX, hs⟩ := hrel
      rcases hs with ⟨rfl, rfl⟩ | ⟨rfl, rfl⟩
      · go_wp2_with (go_at_call 124; refine (place_part_size.calls 1 1 1 2 2 _ size0).mono ?_; rintro e w3 ⟨rfl, hb3⟩; have HB3 := Aside0.mk (below_step (below_alloc HX.out (.cells #[.int .u8 1, .int .i64 1, .int .i64 1, .int .i64 2] 179)) hb3); clear hb3)
        go_roundw
        case rel => exact ⟨HB3, .inr (⟨by go_num, by rfl⟩)⟩
        case measure => simp [intOf]
      · cases hall : ([(a2, 0, 1), (a3, 0, (a0_2 - 1))] : List (Int × Int × Int)).all inB with
        | false =>
          obtain ⟨rfl, rfl⟩ : 0 = r1 ∧ 2 = r2 := by simpa [HK.out, hall] using HR.out
          have HA := Aside0.mk hall
          clear hall HR
          go_wp2_with (go_at_call 128; refine (hWithin.calls (wr.heap.size + 1) [(a2, 0, 1), (a3, 0, (a0_2 - 1))] _ (by simp) (heap_alloc_at _ _ _ _ rfl)).mono ?_; rw [HA.out]; rintro e w3 ⟨rfl, hb3⟩; have HB3 := Aside0.mk (below_step (below_alloc (below_alloc HX.out (.cells #[.int .u8 2, .int .i64 2, .int .i64 a0_2, .int .i64 1] 179)) (.cells (flat3 [(a2, 0, 1), (a3, 0, (a0_2 - 1))]).toArray 190)) hb3); clear hb3)
          go_ret2
          exact ⟨rfl, HB3.out⟩
        | true =>
          obtain ⟨rfl, rfl⟩ : 2 + (a2 * a0_2 + a3) = r1 ∧ 0 = r2 := by simpa [HK.out, hall] using HR.out
          obtain ⟨d1, d2, d3, d4⟩ := all2_is hall
          have HA := Aside0.mk hall
          have m1 := mul_bd (a := a2) (m := a0_2) d1 (by omega) (by omega) (by omega)
          clear hall HR
          go_wp2_with (go_at_call 128; refine (hWithin.calls (wr.heap.size + 1) [(a2, 0, 1), (a3, 0, (a0_2 - 1))] _ (by simp) (heap_alloc_at _ _ _ _ rfl)).mono ?_; rw [HA.out]; rintro e w3 ⟨rfl, hb3⟩; have HB3 := Aside0.mk (below_step (below_alloc (below_alloc HX.out (.cells #[.int .u8 2, .int .i64 2, .int .i64 a0_2, .int .i64 1] 179)) (.cells (flat3 [(a2, 0, 1), (a3, 0, (a0_2 - 1))]).toArray 190)) hb3); have z2 : w3.cell? ⟨wr.heap.size, 2, none⟩ = some (.int .i64 a0_2) := (hb3.cell (p := ⟨wr.heap.size, 2, none⟩) (by simp; omega)).trans (by simp); have z3 : w3.cell? ⟨wr.heap.size, 3, none⟩ = some (.int .i64 1) := (hb3.cell (p := ⟨wr.heap.size, 3, none⟩) (by simp; omega)).trans (by simp); clear hb3)
          go_ret2
          exact ⟨rfl, HB3.out⟩
set_option maxHeartbeats 8000000 in
set_option maxRecDepth 100000 in
theorem hFind.at3 (a0_0 a0_1 a0_2 a0_3 a0_4 a0_5 a2 a3 : Int) (r1 r2 : Int) (w : World) (h : some (dFind a0_0 a0_1 a0_2 a0_3 a0_4 a0_5 3 a2 a3) = some (r1, r2))  :
    Calls Try.prog 96 #[.agg #[.int .i64 a0_0, .int .i64 a0_1, .int .i64 a0_2, .int .i64 a0_3, .int .i64 a0_4, .int .i64 a0_5], .int .u8 3, .int .i64 a2, .int .i64 a3] w fun e w' => e = .returned (.tuple #[.int .i64 r1, .int .i64 r2]) ∧ Below w.heap.size w w' := by
  have hu62 := Try.underlying44
  have hu211 := Try.underlying179
  have hu212 := Try.underlying180
  have hu249 := Try.underlying190
  have HB0 := Aside0.mk (below_alloc (Below.refl w.heap.size w) (.cells #[.int .i64 a0_0, .int .i64 a0_1, .int .i64 a0_2, .int .i64 a0_3, .int .i64 a0_4, .int .i64 a0_5] 44))
  injection h with h
  unfold dFind at h
  cases hk : okCfg a0_0 a0_1 a0_2 a0_3 a0_4 a0_5 with
  | false =>
    obtain ⟨rfl, rfl⟩ : 0 = r1 ∧ 8 = r2 := by simpa [hk] using h
    have HK := Aside0.mk hk
    clear h hk
    go_enter Try.func96, Try.ntmps96
    go_wp2_with ((go_at_call 109; refine (hPlaceCheck.calls a0_0 a0_1 a0_2 a0_3 a0_4 a0_5 8 _ (by unfold hPlaceCheck.f; rw [HK.out]; rfl)).mono ?_; rintro e w1 ⟨rfl, hb1⟩; have HB1 := Aside0.mk (below_step HB0.out hb1); have HC1 := Aside0.mk ((hb1.block w.heap.size (by simp)).trans (heap_alloc_new w (.cells #[.int .i64 a0_0, .int .i64 a0_1, .int .i64 a0_2, .int .i64 a0_3, .int .i64 a0_4, .int .i64 a0_5] 44))); have q0 := (blk_cell HC1.out 0).trans rfl; have q1 := (blk_cell HC1.out 1).trans rfl; have q2 := (blk_cell HC1.out 2).trans rfl; have q3 := (blk_cell HC1.out 3).trans rfl; have q4 := (blk_cell HC1.out 4).trans rfl; have q5 := (blk_cell HC1.out 5).trans rfl; clear hb1))
    go_ret2
    exact ⟨rfl, HB1.out⟩
  | true =>
    have HK := Aside0.mk hk
    have ix0 : ∀ w : World, (Instr.index 180 (.agg #[.int .u8 1, .int .i64 1, .int .i64 1, .int .i64 2, .int .u8 2, .int .i64 2, .int .i64 a0_2, .int .i64 1, .int .u8 3, .int .i64 a0_0, .int .i64 (pgs a0_1), .int .i64 1, .int .u8 4, .int .i64 a0_0, .int .i64 a0_1, .int .i64 4]) (.int .i64 0)).run Try.prog w = .ok (.agg #[.int .u8 1, .int .i64 1, .int .i64 1, .int .i64 2]) w := fun _ => by kernel_rfl
    have ix1 : ∀ w : World, (Instr.index 180 (.agg #[.int .u8 1, .int .i64 1, .int .i64 1, .int .i64 2, .int .u8 2, .int .i64 2, .int .i64 a0_2, .int .i64 1, .int .u8 3, .int .i64 a0_0, .int .i64 (pgs a0_1), .int .i64 1, .int .u8 4, .int .i64 a0_0, .int .i64 a0_1, .int .i64 4]) (.int .i64 1)).run Try.prog w = .ok (.agg #[.int .u8 2, .int .i64 2, .int .i64 a0_2, .int .i64 1]) w := fun _ => by kernel_rfl
    have ix2 : ∀ w : World, (Instr.index 180 (.agg #[.int .u8 1, .int .i64 1, .int .i64 1, .int .i64 2, .int .u8 2, .int .i64 2, .int .i64 a0_2, .int .i64 1, .int .u8 3, .int .i64 a0_0, .int .i64 (pgs a0_1), .int .i64 1, .int .u8 4, .int .i64 a0_0, .int .i64 a0_1, .int .i64 4]) (.int .i64 2)).run Try.prog w = .ok (.agg #[.int .u8 3, .int .i64 a0_0, .int .i64 (pgs a0_1), .int .i64 1]) w := fun _ => by kernel_rfl
    have ix3 : ∀ w : World, (Instr.index 180 (.agg #[.int .u8 1, .int .i64 1, .int .i64 1, .int .i64 2, .int .u8 2, .int .i64 2, .int .i64 a0_2, .int .i64 1, .int .u8 3, .int .i64 a0_0, .int .i64 (pgs a0_1), .int .i64 1, .int .u8 4, .int .i64 a0_0, .int .i64 a0_1, .int .i64 4]) (.int .i64 3)).run Try.prog w = .ok (.agg #[.int .u8 4, .int .i64 a0_0, .int .i64 a0_1, .int .i64 4]) w := fun _ => by kernel_rfl
    obtain ⟨b1, b2, b3, b4, b5, b6, _⟩ := okCfg_is HK.out
    have p1 := pgs_bd a0_1
    have p2 := prod_bd b1 b2 p1.1 (by omega)
    have p3 := prod_bd b1 b2 b3 b4
    have HR := Aside0.mk h
    clear h hk
    go_enter Try.func96, Try.ntmps96
    go_wp2_with (first | (go_at_call 109; refine (hPlaceCheck.calls a0_0 a0_1 a0_2 a0_3 a0_4 a0_5 0 _ (by unfold hPlaceCheck.f; rw [HK.out]; rfl)).mono ?_; rintro e w1 ⟨rfl, hb1⟩; have HB1 := Aside0.mk (below_step HB0.out hb1); have HC1 := Aside0.mk ((hb1.block w.heap.size (by simp)).trans (heap_alloc_new w (.cells #[.int .i64 a0_0, .int .i64 a0_1, .int .i64 a0_2, .int .i64 a0_3, .int .i64 a0_4, .int .i64 a0_5] 44))); have q0 := (blk_cell HC1.out 0).trans rfl; have q1 := (blk_cell HC1.out 1).trans rfl; have q2 := (blk_cell HC1.out 2).trans rfl; have q3 := (blk_cell HC1.out 3).trans rfl; have q4 := (blk_cell HC1.out 4).trans rfl; have q5 := (blk_cell HC1.out 5).trans rfl; clear hb1) | (go_at_call 123; refine (place_parts.calls a0_0 a0_1 a0_2 a0_3 a0_4 a0_5 1 1 1 2 2 2 a0_2 1 3 a0_0 (pgs a0_1) 1 4 a0_0 a0_1 4 _ (parts_is (okCfg_is HK.out).2.2.1 (okCfg_is HK.out).2.2.2.1)).mono ?_; rintro e w2 ⟨rfl, hb2⟩; have HB2 := Aside0.mk (below_step HB1.out hb2); clear hb2))
    go_loopw [8, 20] (fun t i wr => Aside0 (Below w.heap.size w wr) ∧ ((i = .int .i64 0 ∧ t = .int .i64 0) ∨ (i = .int .i64 1 ∧ t = .int .i64 2) ∨ (i = .int .i64 2 ∧ t = .int .i64 (2 + 2 * a0_2)))) (fun _ i _ => 4 - (intOf i).toNat)
    case atStart => exact ⟨HB2, .inl ⟨rfl, rfl⟩⟩
    case round =>
      obtain ⟨HX, hs⟩ := hrel
      rcases hs with ⟨rfl, rfl⟩ | ⟨rfl, rfl⟩ | ⟨rfl, rfl⟩
      · go_wp2_with (go_at_call 124; refine (place_part_size.calls 1 1 1 2 2 _ size0).mono ?_; rintro e w3 ⟨rfl, hb3⟩; have HB3 := Aside0.mk (below_step (below_alloc HX.out (.cells #[.int .u8 1, .int .i64 1, .int .i64 1, .int .i64 2] 179)) hb3); clear hb3)
        go_roundw
        case rel => exact ⟨HB3, .inr (.inl ⟨by go_num, by rfl⟩)⟩
        case measure => simp [intOf]
      · go_wp2_with (go_at_call 124; refine (place_part_size.calls 2 2 a0_2 1 (2 * a0_2) _ (size1 (by omega) (by omega))).mono ?_; rintro e w3 ⟨rfl, hb3⟩; have HB3 := Aside0.mk (below_step (below_alloc HX.out (.cells #[.int .u8 2, .int .i64 2, .int .i64 a0_2, .int .i64 1] 179)) hb3); clear hb3)
        go_roundw
        case rel => exact ⟨HB3, .inr (.inr (⟨by go_num, by go_num⟩))⟩
        case measure => simp [intOf]
      · cases hall : ([(a2, 0, (a0_0 - 1)), (a3, 0, (pgs a0_1 - 1))] : List (Int × Int × Int)).all inB with
        | false =>
          obtain ⟨rfl, rfl⟩ : 0 = r1 ∧ 2 = r2 := by simpa [HK.out, hall] using HR.out
          have HA := Aside0.mk hall
          clear hall HR
          go_wp2_with (go_at_call 128; refine (hWithin.calls (wr.heap.size + 1) [(a2, 0, (a0_0 - 1)), (a3, 0, (pgs a0_1 - 1))] _ (by simp) (heap_alloc_at _ _ _ _ rfl)).mono ?_; rw [HA.out]; rintro e w3 ⟨rfl, hb3⟩; have HB3 := Aside0.mk (below_step (below_alloc (below_alloc HX.out (.cells #[.int .u8 3, .int .i64 a0_0, .int .i64 (pgs a0_1), .int .i64 1] 179)) (.cells (flat3 [(a2, 0, (a0_0 - 1)), (a3, 0, (pgs a0_1 - 1))]).toArray 190)) hb3); clear hb3)
          go_ret2
          exact ⟨rfl, HB3.out⟩
        | true =>
          obtain ⟨rfl, rfl⟩ : (2 + 2 * a0_2) + (a2 * (pgs a0_1) + a3) = r1 ∧ 0 = r2 := by simpa [HK.out, hall] using HR.out
          obtain ⟨d1, d2, d3, d4⟩ := all2_is hall
          have HA := Aside0.mk hall
          have m1 := mul_bd (a := a2) (m := (pgs a0_1)) d1 (by omega) (by omega) (by omega)
          clear hall HR
          go_wp2_with (go_at_call 128; refine (hWithin.calls (wr.heap.size + 1) [(a2, 0, (a0_0 - 1)), (a3, 0, (pgs a0_1 - 1))] _ (by simp) (heap_alloc_at _ _ _ _ rfl)).mono ?_; rw [HA.out]; rintro e w3 ⟨rfl, hb3⟩; have HB3 := Aside0.mk (below_step (below_alloc (below_alloc HX.out (.cells #[.int .u8 3, .int .i64 a0_0, .int .i64 (pgs a0_1), .int .i64 1] 179)) (.cells (flat3 [(a2, 0, (a0_0 - 1)), (a3, 0, (pgs a0_1 - 1))]).toArray 190)) hb3); have z2 : w3.cell? ⟨wr.heap.size, 2, none⟩ = some (.int .i64 (pgs a0_1)) := (hb3.cell (p := ⟨wr.heap.size, 2, none⟩) (by simp; omega)).trans (by simp); have z3 : w3.cell? ⟨wr.heap.size, 3, none⟩ = some (.int .i64 1) := (hb3.cell (p := ⟨wr.heap.size, 3, none⟩) (by simp; omega)).trans (by simp); clear hb3)
          go_ret2
          exact ⟨rfl, HB3.out⟩
set_option maxHeartbeats 8000000 in
set_option maxRecDepth 100000 in
theorem hFind.at4 (a0_0 a0_1 a0_2 a0_3 a0_4 a0_5 a2 a3 : Int) (r1 r2 : Int) (w : World) (h : some (dFind a0_0 a0_1 a0_2 a0_3 a0_4 a0_5 4 a2 a3) = some (r1, r2))  :
    Calls Try.prog 96 #[.agg #[.int .i64 a0_0, .int .i64 a0_1, .int .i64 a0_2, .int .i64 a0_3, .int .i64 a0_4, .int .i64 a0_5], .int .u8 4, .int .i64 a2, .int .i64 a3] w fun e w' => e = .returned (.tuple #[.int .i64 r1, .int .i64 r2]) ∧ Below w.heap.size w w' := by
  have hu62 := Try.underlying44
  have hu211 := Try.underlying179
  have hu212 := Try.underlying180
  have hu249 := Try.underlying190
  have HB0 := Aside0.mk (below_alloc (Below.refl w.heap.size w) (.cells #[.int .i64 a0_0, .int .i64 a0_1, .int .i64 a0_2, .int .i64 a0_3, .int .i64 a0_4, .int .i64 a0_5] 44))
  injection h with h
  unfold dFind at h
  cases hk : okCfg a0_0 a0_1 a0_2 a0_3 a0_4 a0_5 with
  | false =>
    obtain ⟨rfl, rfl⟩ : 0 = r1 ∧ 8 = r2 := by simpa [hk] using h
    have HK := Aside0.mk hk
    clear h hk
    go_enter Try.func96, Try.ntmps96
    go_wp2_with ((go_at_call 109; refine (hPlaceCheck.calls a0_0 a0_1 a0_2 a0_3 a0_4 a0_5 8 _ (by unfold hPlaceCheck.f; rw [HK.out]; rfl)).mono ?_; rintro e w1 ⟨rfl, hb1⟩; have HB1 := Aside0.mk (below_step HB0.out hb1); have HC1 := Aside0.mk ((hb1.block w.heap.size (by simp)).trans (heap_alloc_new w (.cells #[.int .i64 a0_0, .int .i64 a0_1, .int .i64 a0_2, .int .i64 a0_3, .int .i64 a0_4, .int .i64 a0_5] 44))); have q0 := (blk_cell HC1.out 0).trans rfl; have q1 := (blk_cell HC1.out 1).trans rfl; have q2 := (blk_cell HC1.out 2).trans rfl; have q3 := (blk_cell HC1.out 3).trans rfl; have q4 := (blk_cell HC1.out 4).trans rfl; have q5 := (blk_cell HC1.out 5).trans rfl; clear hb1))
    go_ret2
    exact ⟨rfl, HB1.out⟩
  | true =>
    have HK := Aside0.mk hk
    have ix0 : ∀ w : World, (Instr.index 180 (.agg #[.int .u8 1, .int .i64 1, .int .i64 1, .int .i64 2, .int .u8 2, .int .i64 2, .int .i64 a0_2, .int .i64 1, .int .u8 3, .int .i64 a0_0, .int .i64 (pgs a0_1), .int .i64 1, .int .u8 4, .int .i64 a0_0, .int .i64 a0_1, .int .i64 4]) (.int .i64 0)).run Try.prog w = .ok (.agg #[.int .u8 1, .int .i64 1, .int .i64 1, .int .i64 2]) w := fun _ => by kernel_rfl
    have ix1 : ∀ w : World, (Instr.index 180 (.agg #[.int .u8 1, .int .i64 1, .int .i64 1, .int .i64 2, .int .u8 2, .int .i64 2, .int .i64 a0_2, .int .i64 1, .int .u8 3, .int .i64 a0_0, .int .i64 (pgs a0_1), .int .i64 1, .int .u8 4, .int .i64 a0_0, .int .i64 a0_1, .int .i64 4]) (.int .i64 1)).run Try.prog w = .ok (.agg #[.int .u8 2, .int .i64 2, .int .i64 a0_2, .int .i64 1]) w := fun _ => by kernel_rfl
    have ix2 : ∀ w : World, (Instr.index 180 (.agg #[.int .u8 1, .int .i64 1, .int .i64 1, .int .i64 2, .int .u8 2, .int .i64 2, .int .i64 a0_2, .int .i64 1, .int .u8 3, .int .i64 a0_0, .int .i64 (pgs a0_1), .int .i64 1, .int .u8 4, .int .i64 a0_0, .int .i64 a0_1, .int .i64 4]) (.int .i64 2)).run Try.prog w = .ok (.agg #[.int .u8 3, .int .i64 a0_0, .int .i64 (pgs a0_1), .int .i64 1]) w := fun _ => by kernel_rfl
    have ix3 : ∀ w : World, (Instr.index 180 (.agg #[.int .u8 1, .int .i64 1, .int .i64 1, .int .i64 2, .int .u8 2, .int .i64 2, .int .i64 a0_2, .int .i64 1, .int .u8 3, .int .i64 a0_0, .int .i64 (pgs a0_1), .int .i64 1, .int .u8 4, .int .i64 a0_0, .int .i64 a0_1, .int .i64 4]) (.int .i64 3)).run Try.prog w = .ok (.agg #[.int .u8 4, .int .i64 a0_0, .int .i64 a0_1, .int .i64 4]) w := fun _ => by kernel_rfl
    obtain ⟨b1, b2, b3, b4, b5, b6, _⟩ := okCfg_is HK.out
    have p1 := pgs_bd a0_1
    have p2 := prod_bd b1 b2 p1.1 (by omega)
    have p3 := prod_bd b1 b2 b3 b4
    have HR := Aside0.mk h
    clear h hk
    go_enter Try.func96, Try.ntmps96
    go_wp2_with (first | (go_at_call 109; refine (hPlaceCheck.calls a0_0 a0_1 a0_2 a0_3 a0_4 a0_5 0 _ (by unfold hPlaceCheck.f; rw [HK.out]; rfl)).mono ?_; rintro e w1 ⟨rfl, hb1⟩; have HB1 := Aside0.mk (below_step HB0.out hb1); have HC1 := Aside0.mk ((hb1.block w.heap.size (by simp)).trans (heap_alloc_new w (.cells #[.int .i64 a0_0, .int .i64 a0_1, .int .i64 a0_2, .int .i64 a0_3, .int .i64 a0_4, .int .i64 a0_5] 44))); have q0 := (blk_cell HC1.out 0).trans rfl; have q1 := (blk_cell HC1.out 1).trans rfl; have q2 := (blk_cell HC1.out 2).trans rfl; have q3 := (blk_cell HC1.out 3).trans rfl; have q4 := (blk_cell HC1.out 4).trans rfl; have q5 := (blk_cell HC1.out 5).trans rfl; clear hb1) | (go_at_call 123; refine (place_parts.calls a0_0 a0_1 a0_2 a0_3 a0_4 a0_5 1 1 1 2 2 2 a0_2 1 3 a0_0 (pgs a0_1) 1 4 a0_0 a0_1 4 _ (parts_is (okCfg_is HK.out).2.2.1 (okCfg_is HK.out).2.2.2.1)).mono ?_; rintro e w2 ⟨rfl, hb2⟩; have HB2 := Aside0.mk (below_step HB1.out hb2); clear hb2))
    go_loopw [8, 20] (fun t i wr => Aside0 (Below w.heap.size w wr) ∧ ((i = .int .i64 0 ∧ t = .int .i64 0) ∨ (i = .int .i64 1 ∧ t = .int .i64 2) ∨ (i = .int .i64 2 ∧ t = .int .i64 (2 + 2 * a0_2)) ∨ (i = .int .i64 3 ∧ t = .int .i64 (2 + 2 * a0_2 + a0_0 * pgs a0_1)))) (fun _ i _ => 4 - (intOf i).toNat)
    case atStart => exact ⟨HB2, .inl ⟨rfl, rfl⟩⟩
    case round =>
      obtain ⟨HX, hs⟩ := hrel
      rcases hs with ⟨rfl, rfl⟩ | ⟨rfl, rfl⟩ | ⟨rfl, rfl⟩ | ⟨rfl, rfl⟩
      · go_wp2_with (go_at_call 124; refine (place_part_size.calls 1 1 1 2 2 _ size0).mono ?_; rintro e w3 ⟨rfl, hb3⟩; have HB3 := Aside0.mk (below_step (below_alloc HX.out (.cells #[.int .u8 1, .int .i64 1, .int .i64 1, .int .i64 2] 179)) hb3); clear hb3)
        go_roundw
        case rel => exact ⟨HB3, .inr (.inl ⟨by go_num, by rfl⟩)⟩
        case measure => simp [intOf]
      · go_wp2_with (go_at_call 124; refine (place_part_size.calls 2 2 a0_2 1 (2 * a0_2) _ (size1 (by omega) (by omega))).mono ?_; rintro e w3 ⟨rfl, hb3⟩; have HB3 := Aside0.mk (below_step (below_alloc HX.out (.cells #[.int .u8 2, .int .i64 2, .int .i64 a0_2, .int .i64 1] 179)) hb3); clear hb3)
        go_roundw
        case rel => exact ⟨HB3, .inr (.inr (.inl ⟨by go_num, by go_num⟩))⟩
        case measure => simp [intOf]
      · go_wp2_with (go_at_call 124; refine (place_part_size.calls 3 a0_0 (pgs a0_1) 1 (a0_0 * pgs a0_1) _ (size2 (by omega) (by omega))).mono ?_; rintro e w3 ⟨rfl, hb3⟩; have HB3 := Aside0.mk (below_step (below_alloc HX.out (.cells #[.int .u8 3, .int .i64 a0_0, .int .i64 (pgs a0_1), .int .i64 1] 179)) hb3); clear hb3)
        go_roundw
        case rel => exact ⟨HB3, .inr (.inr (.inr (⟨by go_num, by go_num⟩)))⟩
        case measure => simp [intOf]
      · cases hall : ([(a2, 0, (a0_0 - 1)), (a3, 0, (a0_1 - 1))] : List (Int × Int × Int)).all inB with
        | false =>
          obtain ⟨rfl, rfl⟩ : 0 = r1 ∧ 2 = r2 := by simpa [HK.out, hall] using HR.out
          have HA := Aside0.mk hall
          clear hall HR
          go_wp2_with (go_at_call 128; refine (hWithin.calls (wr.heap.size + 1) [(a2, 0, (a0_0 - 1)), (a3, 0, (a0_1 - 1))] _ (by simp) (heap_alloc_at _ _ _ _ rfl)).mono ?_; rw [HA.out]; rintro e w3 ⟨rfl, hb3⟩; have HB3 := Aside0.mk (below_step (below_alloc (below_alloc HX.out (.cells #[.int .u8 4, .int .i64 a0_0, .int .i64 a0_1, .int .i64 4] 179)) (.cells (flat3 [(a2, 0, (a0_0 - 1)), (a3, 0, (a0_1 - 1))]).toArray 190)) hb3); clear hb3)
          go_ret2
          exact ⟨rfl, HB3.out⟩
        | true =>
          obtain ⟨rfl, rfl⟩ : (2 + 2 * a0_2 + a0_0 * pgs a0_1) + (a2 * a0_1 + a3) * 4 = r1 ∧ 0 = r2 := by simpa [HK.out, hall] using HR.out
          obtain ⟨d1, d2, d3, d4⟩ := all2_is hall
          have HA := Aside0.mk hall
          have m1 := mul_bd (a := a2) (m := a0_1) d1 (by omega) (by omega) (by omega)
          clear hall HR
          go_wp2_with (go_at_call 128; refine (hWithin.calls (wr.heap.size + 1) [(a2, 0, (a0_0 - 1)), (a3, 0, (a0_1 - 1))] _ (by simp) (heap_alloc_at _ _ _ _ rfl)).mono ?_; rw [HA.out]; rintro e w3 ⟨rfl, hb3⟩; have HB3 := Aside0.mk (below_step (below_alloc (below_alloc HX.out (.cells #[.int .u8 4, .int .i64 a0_0, .int .i64 a0_1, .int .i64 4] 179)) (.cells (flat3 [(a2, 0, (a0_0 - 1)), (a3, 0, (a0_1 - 1))]).toArray 190)) hb3); have z2 : w3.cell? ⟨wr.heap.size, 2, none⟩ = some (.int .i64 a0_1) := (hb3.cell (p := ⟨wr.heap.size, 2, none⟩) (by simp; omega)).trans (by simp); have z3 : w3.cell? ⟨wr.heap.size, 3, none⟩ = some (.int .i64 4) := (hb3.cell (p := ⟨wr.heap.size, 3, none⟩) (by simp; omega)).trans (by simp); clear hb3)
          go_ret2
          exact ⟨rfl, HB3.out⟩
theorem hFind.calls (a0_0 a0_1 a0_2 a0_3 a0_4 a0_5 a1 a2 a3 : Int) (r1 r2 : Int) (w : World) (h : hFind.f a0_0 a0_1 a0_2 a0_3 a0_4 a0_5 a1 a2 a3 = some (r1, r2)) :
    Calls Try.prog 96 #[.agg #[.int .i64 a0_0, .int .i64 a0_1, .int .i64 a0_2, .int .i64 a0_3, .int .i64 a0_4, .int .i64 a0_5], .int .u8 a1, .int .i64 a2, .int .i64 a3] w fun e w' => e = .returned (.tuple #[.int .i64 r1, .int .i64 r2]) ∧ Below w.heap.size w w' := by
  unfold hFind.f at h
  by_cases hc : a1 = 2 ∨ a1 = 3 ∨ a1 = 4
  · rw [if_pos hc] at h
    rcases hc with rfl | rfl | rfl
    · exact hFind.at2 a0_0 a0_1 a0_2 a0_3 a0_4 a0_5 a2 a3 r1 r2 w h
    · exact hFind.at3 a0_0 a0_1 a0_2 a0_3 a0_4 a0_5 a2 a3 r1 r2 w h
    · exact hFind.at4 a0_0 a0_1 a0_2 a0_3 a0_4 a0_5 a2 a3 r1 r2 w h
  · rw [if_neg hc] at h
    cases h
end Go.Proofs.Ytdkjhcdniepbhaa.P
end
section
set_option linter.unusedVariables false
set_option linter.unusedSimpArgs false
namespace Go.Proofs.Ytdkjhcdniepbhaa.P
open Go.RowKit Go.Proofs.PrintWords Go.Proofs.PrintLast Go.Proofs.PrintMore
attribute [local go_sem] max2_int min2_int max_two min_two max_three min_three max_four min_four
def catamaranref08_May.f (k : Nat) (a0_0 : Int) (a0_1 : Int) (a0_2 : Int) (a0_3 : Int) (a0_4 : Int) (a0_5 : Int) (l1_0 : List (S39)) (l1_1 : List (S49)) : Option (Bool) := (catamaranref07_May.f k a0_0 a0_1 a0_2 a0_3 a0_4 a0_5).bind fun t1000 => (if t1000 = true then ((catamaranref07_Size.f a0_0 a0_1 a0_2 a0_3 a0_4 a0_5).bind fun t1001 => (if (l1_0.length : Int) = t1001 then ((catamaranref05_May.f k l1_0 l1_1).bind fun t1002 => (some t1002)) else (some false))) else (some false))
theorem catamaranref08_May.mono : ∀ a0 a1 a2 a3 a4 a5 a6 a7 k, LeO (catamaranref08_May.f k a0 a1 a2 a3 a4 a5 a6 a7) (catamaranref08_May.f (k + 1) a0 a1 a2 a3 a4 a5 a6 a7) := by
  intro a0 a1 a2 a3 a4 a5 a6 a7 k
  unfold catamaranref08_May.f
  repeat' first
      | (with_reducible exact catamaranref05_May.mono _ _ _)
      | (with_reducible exact catamaranref07_May.mono _ _ _ _ _ _ _)
      | (with_reducible exact LeO.refl _)
      | (with_reducible exact LeO.none _)
      | (with_reducible refine LeO.ite ?_ ?_)
      | (with_reducible refine LeO.bind ?_ (fun _ => ?_))
      | exact catamaranref05_May.mono _ _ _
      | exact catamaranref07_May.mono _ _ _ _ _ _ _
      | exact LeO.none _
      | refine LeO.ite ?_ ?_
      | refine LeO.bind ?_ (fun _ => ?_)
def catamaranref08_May.T1 : Bool × List (List Nat × List Nat) := (true, [([], []), ([0], [0]), ([1, 1], [1]), ([2], [2]), ([3, 2], [2, 3]), ([4, 2], [2, 4]), ([2], [2]), ([6, 2, 2], [2, 6]), ([5, 7, 2], [2, 5, 7]), ([2, 8], [2, 8]), ([9, 7], [9]), ([10], [10]), ([11, 10, 10], [10, 11]), ([10, 12], [10, 12]), ([13, 12, 0, 1, 2, 3, 4, 5, 6, 7, 8, 9, 10, 11, 12, 13], [13])])
def catamaranref08_May.B1 : List Nat := [0, 1, 3, 7, 15, 31, 7, 71, 255, 511, 1023, 2047, 4095, 8191, 16383]
theorem catamaranref08_May.tab1 : rtab .any (opsOf Try.f79 1) = catamaranref08_May.T1 := by kernel_rfl
theorem catamaranref08_May.bits1 : waitsOk catamaranref08_May.T1.2 catamaranref08_May.B1 = true := by kernel_rfl
set_option maxHeartbeats 8000000 in
set_option maxRecDepth 100000 in
theorem catamaranref08_May.calls (k : Nat) (a0_0 : Int) (a0_1 : Int) (a0_2 : Int) (a0_3 : Int) (a0_4 : Int) (a0_5 : Int) (A1_0 : Option Addr) (c1_0 : Nat) (l1_0 : List (S39)) (A1_1 : Option Addr) (c1_1 : Nat) (l1_1 : List (S49)) (r : Bool) (w : World) (hr1_0 : Kd.C k39 w A1_0 l1_0.length l1_0) (hc1_0 : l1_0.length ≤ c1_0) (hr1_1 : Kd.C k49 w A1_1 l1_1.length l1_1) (hc1_1 : l1_1.length ≤ c1_1) (h : catamaranref08_May.f k a0_0 a0_1 a0_2 a0_3 a0_4 a0_5 l1_0 l1_1 = some r) :
    Calls Try.prog 79 #[.agg #[.int .i64 a0_0, .int .i64 a0_1, .int .i64 a0_2, .int .i64 a0_3, .int .i64 a0_4, .int .i64 a0_5], .agg #[.slice A1_0 l1_0.length c1_0, .slice A1_1 l1_1.length c1_1]] w fun e w' => e = .returned (.bool r) ∧ Below w.heap.size w w' := by
  have hu44 := Try.underlying44
  have hu25 := Try.underlying25
  have HR1_0 := Aside0.mk hr1_0
  have HC1_0 := Aside0.mk hc1_0
  clear hr1_0 hc1_0
  have HR1_1 := Aside0.mk hr1_1
  have HC1_1 := Aside0.mk hc1_1
  clear hr1_1 hc1_1
  have HB := Aside0.mk (Below.refl w.heap.size w)
  have H : ((catamaranref07_May.f k a0_0 a0_1 a0_2 a0_3 a0_4 a0_5).bind fun t1000 => (if t1000 = true then ((catamaranref07_Size.f a0_0 a0_1 a0_2 a0_3 a0_4 a0_5).bind fun t1001 => (if (l1_0.length : Int) = t1001 then ((catamaranref05_May.f k l1_0 l1_1).bind fun t1002 => (some t1002)) else (some false))) else (some false))) = some r := h
  clear h
  replace H := Option.bind_eq_some_iff.mp H
  obtain ⟨t1000, A30, H⟩ := H
  replace H : (if t1000 = true then ((catamaranref07_Size.f a0_0 a0_1 a0_2 a0_3 a0_4 a0_5).bind fun t1001 => (if (l1_0.length : Int) = t1001 then ((catamaranref05_May.f k l1_0 l1_1).bind fun t1002 => (some t1002)) else (some false))) else (some false)) = some r := H
  have A3 := Aside0.mk A30
  clear A30
  by_cases c4 : t1000 = true
  · subst c4
    have H1 : ((catamaranref07_Size.f a0_0 a0_1 a0_2 a0_3 a0_4 a0_5).bind fun t1001 => (if (l1_0.length : Int) = t1001 then ((catamaranref05_May.f k l1_0 l1_1).bind fun t1002 => (some t1002)) else (some false))) = some r := by rw [if_pos rfl] at H; exact H
    clear H
    have H := H1
    clear H1
    replace H := Option.bind_eq_some_iff.mp H
    obtain ⟨t1001, A50, H⟩ := H
    replace H : (if (l1_0.length : Int) = t1001 then ((catamaranref05_May.f k l1_0 l1_1).bind fun t1002 => (some t1002)) else (some false)) = some r := H
    have A5 := Aside0.mk A50
    clear A50
    by_cases c6 : (l1_0.length : Int) = t1001
    · rw [if_pos c6] at H
      have c6b0 : ((l1_0.length : Int) == t1001) = true := beq_iff_eq.mpr c6
      have c6b1 : ((l1_0.length : Int) != t1001) = false := bne_eq_false_iff_eq.mpr c6
      clear c6
      replace H := Option.bind_eq_some_iff.mp H
      obtain ⟨t1002, A70, H⟩ := H
      replace H : (some t1002) = some r := H
      have A7 := Aside0.mk A70
      clear A70
      obtain rfl := Option.some.inj H
      go_enter Try.func79, Try.ntmps79
      try go_wp2_with (first | ((with_reducible refine gate_dst (N := 2) rfl ?_); refine box_event ?hg (N := 2) ?hd (cs := #[.int .i64 a0_0, .int .i64 a0_1, .int .i64 a0_2, .int .i64 a0_3, .int .i64 a0_4, .int .i64 a0_5]) (t := 44) ?hr ?_; (case hd => rfl); (case hg => rfl); (case hr => first | (go_simp; done) | (go_simp; rfl)); intro gb1003 hg w8 hbox hb; have n0_ := Aside0.mk (below_step (by repeat (first | (with_reducible first | exact HB.out | apply below_alloc | apply pbdN | apply bdr1) | exact HB.out)) hb); have n1_ := Aside0.mk (hbox); have n2_ := Aside0.mk ((by rw [hg]; exact (below_size (by repeat (first | (with_reducible first | exact HB.out | apply below_alloc | apply pbdN | apply bdr1) | exact HB.out))) : w.heap.size ≤ gb1003)); have n3_ := Aside0.mk ((by rw [hg]; exact (below_size (by repeat (first | (with_reducible first | exact HB.out | apply below_alloc | apply pbdN | apply bdr1) | exact HB.out))) : w.heap.size ≤ gb1003)); clear HB; have HB := n0_; have BK1003 := n1_; have GW1003 := n2_; have GE1003 := n3_; clear n0_ n1_ n2_ n3_; clear hb hbox hg) | ((with_reducible refine gate_dst (N := 3) rfl ?_); refine box_event ?hg (N := 3) ?hd (cs := #[.slice A1_0 l1_0.length c1_0, .slice A1_1 l1_1.length c1_1]) (t := 25) ?hr ?_; (case hd => rfl); (case hg => rfl); (case hr => first | (go_simp; done) | (go_simp; rfl)); intro gb1004 hg w9 hbox hb; have n0_ := Aside0.mk (blk_below (g := gb1003) (o := .cells #[.int .i64 a0_0, .int .i64 a0_1, .int .i64 a0_2, .int .i64 a0_3, .int .i64 a0_4, .int .i64 a0_5] 44 (0, 0)) (by (with_reducible repeat (first | refine blk_drewN ?_ _ | refine blk_drew ?_ | refine blk_alloc ?_ _)); exact BK1003.out) hb); have n1_ := Aside0.mk (below_step (by repeat (first | (with_reducible first | exact HB.out | apply below_alloc | apply pbdN | apply bdr1 | refine below_set ?_ GE1003.out) | exact HB.out)) hb); have n2_ := Aside0.mk (hbox); have n3_ := Aside0.mk ((by rw [hg]; exact (below_size (by repeat (first | (with_reducible first | exact HB.out | apply below_alloc | apply pbdN | apply bdr1 | refine below_set ?_ GE1003.out) | exact HB.out))) : w.heap.size ≤ gb1004)); have n4_ := Aside0.mk ((by rw [hg]; exact (below_size (by repeat (first | (with_reducible first | exact HB.out | apply below_alloc | apply pbdN | apply bdr1 | refine below_set ?_ GE1003.out) | exact HB.out))) : w.heap.size ≤ gb1004)); have n5_ := Aside0.mk ((by rw [hg]; exact Nat.ne_of_lt (blk_lt (g := gb1003) (o := .cells #[.int .i64 a0_0, .int .i64 a0_1, .int .i64 a0_2, .int .i64 a0_3, .int .i64 a0_4, .int .i64 a0_5] 44 (0, 0)) (by (with_reducible repeat (first | refine blk_drewN ?_ _ | refine blk_drew ?_ | refine blk_alloc ?_ _)); exact BK1003.out)) : gb1003 ≠ gb1004)); have n6_ := Aside0.mk ((by rw [hg]; exact Nat.ne_of_gt (blk_lt (g := gb1003) (o := .cells #[.int .i64 a0_0, .int .i64 a0_1, .int .i64 a0_2, .int .i64 a0_3, .int .i64 a0_4, .int .i64 a0_5] 44 (0, 0)) (by (with_reducible repeat (first | refine blk_drewN ?_ _ | refine blk_drew ?_ | refine blk_alloc ?_ _)); exact BK1003.out)) : gb1004 ≠ gb1003)); clear BK1003; clear HB; have BK1003 := n0_; have HB := n1_; have BK1004 := n2_; have GW1004 := n3_; have GE1004 := n4_; have NB1003_343 := n5_; have NB1004_342 := n6_; clear n0_ n1_ n2_ n3_ n4_ n5_ n6_; clear hb hbox hg))
      have n0_ := Aside0.mk (blk_drew BK1003.out)
      have n1_ := Aside0.mk (blk_drew BK1004.out)
      have n2_ := Aside0.mk (bdr1 HB.out)
      clear BK1003
      clear BK1004
      clear HB
      have BK1003 := n0_
      have BK1004 := n1_
      have HB := n2_
      clear n0_ n1_ n2_
      refine start_ (n := 15) (S := fun w' => w'.cell? ⟨gb1003, 0, none⟩ = some (.int .i64 a0_0) ∧ w'.cell? ⟨gb1003, 1, none⟩ = some (.int .i64 a0_1) ∧ w'.cell? ⟨gb1003, 2, none⟩ = some (.int .i64 a0_2) ∧ w'.cell? ⟨gb1003, 3, none⟩ = some (.int .i64 a0_3) ∧ w'.cell? ⟨gb1003, 4, none⟩ = some (.int .i64 a0_4) ∧ w'.cell? ⟨gb1003, 5, none⟩ = some (.int .i64 a0_5) ∧ w'.cell? ⟨gb1004, 0, none⟩ = some (.slice A1_0 l1_0.length c1_0) ∧ w'.cell? ⟨gb1004, 1, none⟩ = some (.slice A1_1 l1_1.length c1_1)) (ds := []) #[false, false, false, false, false, false, false, false, false, false, false, false, false, false, false] (by kernel_rfl) rfl rfl ⟨(blk_cell BK1003.out 0).trans rfl, (blk_cell BK1003.out 1).trans rfl, (blk_cell BK1003.out 2).trans rfl, (blk_cell BK1003.out 3).trans rfl, (blk_cell BK1003.out 4).trans rfl, (blk_cell BK1003.out 5).trans rfl, (blk_cell BK1004.out 0).trans rfl, (blk_cell BK1004.out 1).trans rfl⟩ (fun hHeld => ?_); refine wtW catamaranref08_May.tab1 catamaranref08_May.bits1 (fun HT_ HW_ => ?_)
      generalize w9.drew = w10 at BK1003 BK1004 HB hHeld ⊢
      refine take_ (i := 0) (N := some 5) (v := ?_) (a' := ?_) #[true, false, false, false, false, false, false, false, false, false, false, false, false, false, false] rfl rfl (take_ofW HT_.out HW_.out (by kernel_rfl)) (fun _ _ _ h => h) (Or.inl ⟨by rfl, ?_⟩) hHeld ?_ ?_
      rotate_left
      · rintro w' ⟨s0, s1, s2, s3, s4, s5, s6, s7⟩
        go_simp
        with_reducible rfl
      rotate_left
      · simp only [Act.put, List.setIfInBounds_toArray, List.set_cons_zero, List.set_cons_succ, i64_w, i32_w]
        rfl
      refine one_ (i := 1) (N := some 6) #[true, true, false, false, false, false, false, false, false, false, false, false, false, false, false] rfl rfl (one_of HT_.out (by kernel_rfl)) (by decide) (fun K hK => ?_)
      refine goes_ Try.func114 (by kernel_rfl) rfl #[.agg #[.int .i64 a0_0, .int .i64 a0_1, .int .i64 a0_2, .int .i64 a0_3, .int .i64 a0_4, .int .i64 a0_5]] (by rfl) rfl rfl (by (try simp only [List.map_toArray, List.map_cons, List.map_nil]); first | done | rfl | (simp only [List.length_drop, List.length_take]; rfl)) ?_
      with_reducible refine (catamaranref07_May.calls k a0_0 a0_1 a0_2 a0_3 a0_4 a0_5 true _ A3.out).mono ?_
      rintro e w11 ⟨rfl, hb⟩
      refine ⟨_, rfl, ?_⟩
      have n0_ := Aside0.mk (blk_below (g := gb1003) (o := .cells #[.int .i64 a0_0, .int .i64 a0_1, .int .i64 a0_2, .int .i64 a0_3, .int .i64 a0_4, .int .i64 a0_5] 44 (0, 0)) (by (with_reducible repeat (first | refine blk_drewN ?_ _ | refine blk_drew ?_ | refine blk_alloc ?_ _)); exact BK1003.out) hb)
      have n1_ := Aside0.mk (blk_below (g := gb1004) (o := .cells #[.slice A1_0 l1_0.length c1_0, .slice A1_1 l1_1.length c1_1] 25 (0, 0)) (by (with_reducible repeat (first | refine blk_drewN ?_ _ | refine blk_drew ?_ | refine blk_alloc ?_ _)); exact BK1004.out) hb)
      have n2_ := Aside0.mk (below_step (by repeat (first | (with_reducible first | exact HB.out | apply below_alloc | apply pbdN | apply bdr1 | refine below_set ?_ GE1003.out | refine below_set ?_ GE1004.out) | exact HB.out)) hb)
      clear BK1003
      clear BK1004
      clear HB
      have BK1003 := n0_
      have BK1004 := n1_
      have HB := n2_
      clear n0_ n1_ n2_
      (try clear hb)
      (try clear hb2)
      (try clear hk)
      (try clear hi)
      refine hK.out _ _ ⟨(blk_cell BK1003.out 0).trans rfl, (blk_cell BK1003.out 1).trans rfl, (blk_cell BK1003.out 2).trans rfl, (blk_cell BK1003.out 3).trans rfl, (blk_cell BK1003.out 4).trans rfl, (blk_cell BK1003.out 5).trans rfl, (blk_cell BK1004.out 0).trans rfl, (blk_cell BK1004.out 1).trans rfl⟩ (fun hHeld => ?_)
      clear hK K
      refine norm_ (a' := ?_) ?_ ?_
      rotate_left
      · show Act.put _ (some 6) _ = _
        simp only [Act.put, List.setIfInBounds_toArray, List.set_cons_zero, List.set_cons_succ, i64_w, i32_w]
        rfl
      refine pure_ (i := 2) (N := some 7) (v := ?_) (a' := ?_) #[true, true, true, false, false, false, false, false, false, false, false, false, false, false, false] rfl rfl (any_of HT_.out (by kernel_rfl)) (fun _ _ _ h => h) (Or.inl ⟨by rfl, ?_⟩) ?_ ?_
      rotate_left
      · intro w'
        go_simp
        with_reducible rfl
      rotate_left
      · simp only [Act.put, List.setIfInBounds_toArray, List.set_cons_zero, List.set_cons_succ, i64_w, i32_w]
        rfl
      refine pure_ (i := 3) (N := some 8) (v := ?_) (a' := ?_) #[true, true, true, true, false, false, false, false, false, false, false, false, false, false, false] rfl rfl (any_of HT_.out (by kernel_rfl)) (fun _ _ _ h => h) (Or.inl ⟨by rfl, ?_⟩) ?_ ?_
      rotate_left
      · intro w'
        go_simp
        with_reducible rfl
      rotate_left
      · simp only [Act.put, List.setIfInBounds_toArray, List.set_cons_zero, List.set_cons_succ, i64_w, i32_w]
        rfl
      refine take_ (i := 4) (N := some 9) (v := ?_) (a' := ?_) #[true, true, true, true, true, false, false, false, false, false, false, false, false, false, false] rfl rfl (take_ofW HT_.out HW_.out (by kernel_rfl)) (fun _ _ _ h => h) (Or.inl ⟨by rfl, ?_⟩) hHeld ?_ ?_
      rotate_left
      · rintro w' ⟨s0, s1, s2, s3, s4, s5, s6, s7⟩
        go_simp
        with_reducible rfl
      rotate_left
      · simp only [Act.put, List.setIfInBounds_toArray, List.set_cons_zero, List.set_cons_succ, i64_w, i32_w]
        rfl
      refine pure_ (i := 5) (N := some 10) (v := ?_) (a' := ?_) #[true, true, true, true, true, true, false, false, false, false, false, false, false, false, false] rfl rfl (any_of HT_.out (by kernel_rfl)) (fun _ _ _ h => h) (Or.inl ⟨by rfl, ?_⟩) ?_ ?_
      rotate_left
      · intro w'
        go_simp
        with_reducible rfl
      rotate_left
      · simp only [Act.put, List.setIfInBounds_toArray, List.set_cons_zero, List.set_cons_succ, i64_w, i32_w]
        rfl
      refine take_ (i := 6) (N := some 11) (v := ?_) (a' := ?_) #[true, true, true, true, true, true, true, false, false, false, false, false, false, false, false] rfl rfl (take_ofW HT_.out HW_.out (by kernel_rfl)) (fun _ _ _ h => h) (Or.inl ⟨by rfl, ?_⟩) hHeld ?_ ?_
      rotate_left
      · rintro w' ⟨s0, s1, s2, s3, s4, s5, s6, s7⟩
        go_simp
        with_reducible rfl
      rotate_left
      · simp only [Act.put, List.setIfInBounds_toArray, List.set_cons_zero, List.set_cons_succ, i64_w, i32_w]
        rfl
      refine one_ (i := 7) (N := some 12) #[true, true, true, true, true, true, true, true, false, false, false, false, false, false, false] rfl rfl (one_of HT_.out (by kernel_rfl)) (by decide) (fun K hK => ?_)
      refine goes_ Try.func115 (by kernel_rfl) rfl #[.agg #[.int .i64 a0_0, .int .i64 a0_1, .int .i64 a0_2, .int .i64 a0_3, .int .i64 a0_4, .int .i64 a0_5]] (by rfl) rfl rfl (by (try simp only [List.map_toArray, List.map_cons, List.map_nil]); first | done | rfl | (simp only [List.length_drop, List.length_take]; rfl)) ?_
      with_reducible refine (catamaranref07_Size.calls a0_0 a0_1 a0_2 a0_3 a0_4 a0_5 t1001 _ A5.out).mono ?_
      rintro e w12 ⟨rfl, hb⟩
      refine ⟨_, rfl, ?_⟩
      have n0_ := Aside0.mk (blk_below (g := gb1003) (o := .cells #[.int .i64 a0_0, .int .i64 a0_1, .int .i64 a0_2, .int .i64 a0_3, .int .i64 a0_4, .int .i64 a0_5] 44 (0, 0)) (by (with_reducible repeat (first | refine blk_drewN ?_ _ | refine blk_drew ?_ | refine blk_alloc ?_ _)); exact BK1003.out) hb)
      have n1_ := Aside0.mk (blk_below (g := gb1004) (o := .cells #[.slice A1_0 l1_0.length c1_0, .slice A1_1 l1_1.length c1_1] 25 (0, 0)) (by (with_reducible repeat (first | refine blk_drewN ?_ _ | refine blk_drew ?_ | refine blk_alloc ?_ _)); exact BK1004.out) hb)
      have n2_ := Aside0.mk (below_step (by repeat (first | (with_reducible first | exact HB.out | apply below_alloc | apply pbdN | apply bdr1 | refine below_set ?_ GE1003.out | refine below_set ?_ GE1004.out) | exact HB.out)) hb)
      clear BK1003
      clear BK1004
      clear HB
      have BK1003 := n0_
      have BK1004 := n1_
      have HB := n2_
      clear n0_ n1_ n2_
      (try clear hb)
      (try clear hb2)
      (try clear hk)
      (try clear hi)
      refine hK.out _ _ ⟨(blk_cell BK1003.out 0).trans rfl, (blk_cell BK1003.out 1).trans rfl, (blk_cell BK1003.out 2).trans rfl, (blk_cell BK1003.out 3).trans rfl, (blk_cell BK1003.out 4).trans rfl, (blk_cell BK1003.out 5).trans rfl, (blk_cell BK1004.out 0).trans rfl, (blk_cell BK1004.out 1).trans rfl⟩ (fun hHeld => ?_)
      clear hK K
      refine norm_ (a' := ?_) ?_ ?_
      rotate_left
      · show Act.put _ (some 12) _ = _
        simp only [Act.put, List.setIfInBounds_toArray, List.set_cons_zero, List.set_cons_succ, i64_w, i32_w]
        rfl
      refine pure_ (i := 8) (N := some 13) (v := ?_) (a' := ?_) #[true, true, true, true, true, true, true, true, true, false, false, false, false, false, false] rfl rfl (any_of HT_.out (by kernel_rfl)) (fun _ _ _ h => h) (Or.inl ⟨by rfl, ?_⟩) ?_ ?_
      rotate_left
      · intro w'
        go_simp
        with_reducible rfl
      rotate_left
      · simp only [Act.put, List.setIfInBounds_toArray, List.set_cons_zero, List.set_cons_succ, i64_w, i32_w]
        rfl
      refine pure_ (i := 9) (N := some 14) (v := ?_) (a' := ?_) #[true, true, true, true, true, true, true, true, true, true, false, false, false, false, false] rfl rfl (any_of HT_.out (by kernel_rfl)) (fun _ _ _ h => h) (Or.inl ⟨by rfl, ?_⟩) ?_ ?_
      rotate_left
      · intro w'
        go_simp
        with_reducible rfl
      rotate_left
      · simp only [Act.put, List.setIfInBounds_toArray, List.set_cons_zero, List.set_cons_succ, i64_w, i32_w]
        rfl
      refine pure_ (i := 10) (N := some 15) (v := ?_) (a' := ?_) #[true, true, true, true, true, true, true, true, true, true, true, false, false, false, false] rfl rfl (any_of HT_.out (by kernel_rfl)) (fun _ _ _ h => h) (Or.inl ⟨by rfl, ?_⟩) ?_ ?_
      rotate_left
      · intro w'
        go_simp
        with_reducible rfl
      rotate_left
      · simp only [Act.put, List.setIfInBounds_toArray, List.set_cons_zero, List.set_cons_succ, i64_w, i32_w]
        rfl
      refine take_ (i := 11) (N := some 16) (v := ?_) (a' := ?_) #[true, true, true, true, true, true, true, true, true, true, true, true, false, false, false] rfl rfl (take_ofW HT_.out HW_.out (by kernel_rfl)) (fun _ _ _ h => h) (Or.inl ⟨by rfl, ?_⟩) hHeld ?_ ?_
      rotate_left
      · rintro w' ⟨s0, s1, s2, s3, s4, s5, s6, s7⟩
        go_simp
        with_reducible rfl
      rotate_left
      · simp only [Act.put, List.setIfInBounds_toArray, List.set_cons_zero, List.set_cons_succ, i64_w, i32_w]
        rfl
      refine one_ (i := 12) (N := some 17) #[true, true, true, true, true, true, true, true, true, true, true, true, true, false, false] rfl rfl (one_of HT_.out (by kernel_rfl)) (by decide) (fun K hK => ?_)
      refine goes_ Try.func102 (by kernel_rfl) rfl #[.agg #[.slice A1_0 l1_0.length c1_0, .slice A1_1 l1_1.length c1_1]] (by rfl) rfl rfl (by (try simp only [List.map_toArray, List.map_cons, List.map_nil]); first | done | rfl | (simp only [List.length_drop, List.length_take]; rfl)) ?_
      with_reducible refine (catamaranref05_May.calls k _ _ l1_0 _ _ l1_1 t1002 _ ?side1 ?side2 ?side3 ?side4 A7.out).mono ?_
      (case side1 => repeat (first | exact (Kd.C_below HR1_0.out HB.out) | (with_reducible refine Kd.C_alloc ?_ _) | (with_reducible refine Kd.C_drewN ?_ _) | (with_reducible refine Kd.C_drew ?_)))
      (case side2 => exact HC1_0.out)
      (case side3 => repeat (first | exact (Kd.C_below HR1_1.out HB.out) | (with_reducible refine Kd.C_alloc ?_ _) | (with_reducible refine Kd.C_drewN ?_ _) | (with_reducible refine Kd.C_drew ?_)))
      (case side4 => exact HC1_1.out)
      rintro e w13 ⟨rfl, hb⟩
      refine ⟨_, rfl, ?_⟩
      have n0_ := Aside0.mk (blk_below (g := gb1003) (o := .cells #[.int .i64 a0_0, .int .i64 a0_1, .int .i64 a0_2, .int .i64 a0_3, .int .i64 a0_4, .int .i64 a0_5] 44 (0, 0)) (by (with_reducible repeat (first | refine blk_drewN ?_ _ | refine blk_drew ?_ | refine blk_alloc ?_ _)); exact BK1003.out) hb)
      have n1_ := Aside0.mk (blk_below (g := gb1004) (o := .cells #[.slice A1_0 l1_0.length c1_0, .slice A1_1 l1_1.length c1_1] 25 (0, 0)) (by (with_reducible repeat (first | refine blk_drewN ?_ _ | refine blk_drew ?_ | refine blk_alloc ?_ _)); exact BK1004.out) hb)
      have n2_ := Aside0.mk (below_step (by repeat (first | (with_reducible first | exact HB.out | apply below_alloc | apply pbdN | apply bdr1 | refine below_set ?_ GE1003.out | refine below_set ?_ GE1004.out) | exact HB.out)) hb)
      clear BK1003
      clear BK1004
      clear HB
      have BK1003 := n0_
      have BK1004 := n1_
      have HB := n2_
      clear n0_ n1_ n2_
      (try clear hb)
      (try clear hb2)
      (try clear hk)
      (try clear hi)
      refine hK.out _ _ ⟨(blk_cell BK1003.out 0).trans rfl, (blk_cell BK1003.out 1).trans rfl, (blk_cell BK1003.out 2).trans rfl, (blk_cell BK1003.out 3).trans rfl, (blk_cell BK1003.out 4).trans rfl, (blk_cell BK1003.out 5).trans rfl, (blk_cell BK1004.out 0).trans rfl, (blk_cell BK1004.out 1).trans rfl⟩ (fun hHeld => ?_)
      clear hK K
      refine norm_ (a' := ?_) ?_ ?_
      rotate_left
      · show Act.put _ (some 17) _ = _
        simp only [Act.put, List.setIfInBounds_toArray, List.set_cons_zero, List.set_cons_succ, i64_w, i32_w]
        rfl
      refine pure_ (i := 13) (N := some 18) (v := ?_) (a' := ?_) #[true, true, true, true, true, true, true, true, true, true, true, true, true, true, false] rfl rfl (any_of HT_.out (by kernel_rfl)) (fun _ _ _ h => h) (Or.inl ⟨by rfl, ?_⟩) ?_ ?_
      rotate_left
      · intro w'
        go_simp
        with_reducible rfl
      rotate_left
      · simp only [Act.put, List.setIfInBounds_toArray, List.set_cons_zero, List.set_cons_succ, i64_w, i32_w]
        rfl
      refine pure_ (i := 14) (N := some 4) (v := ?_) (a' := ?_) #[true, true, true, true, true, true, true, true, true, true, true, true, true, true, true] rfl rfl (any_of HT_.out (by kernel_rfl)) (fun _ _ _ h => h) (Or.inl ⟨by rfl, ?_⟩) ?_ ?_
      rotate_left
      · intro w'
        go_simp
        with_reducible rfl
      rotate_left
      · simp only [Act.put, List.setIfInBounds_toArray, List.set_cons_zero, List.set_cons_succ, i64_w, i32_w]
        rfl
      refine done_ (done_of HT_.out (by kernel_rfl)) ?_
      try go_wp2
      go_ret
      exact ⟨by first | rfl | (simp [errW_none, errW_some] <;> rfl) | (simp [*, errW_none, errW_some] <;> rfl), by repeat (first | (with_reducible first | exact HB.out | apply below_alloc | apply pbdN | apply bdr1 | refine below_set ?_ GE1003.out | refine below_set ?_ GE1004.out) | exact HB.out)⟩
    · rw [if_neg c6] at H
      have c6b0 : ((l1_0.length : Int) == t1001) = false := beq_eq_false_iff_ne.mpr c6
      have c6b1 : ((l1_0.length : Int) != t1001) = true := bne_iff_ne.mpr c6
      obtain rfl := Option.some.inj H
      go_enter Try.func79, Try.ntmps79
      try go_wp2_with (first | ((with_reducible refine gate_dst (N := 2) rfl ?_); refine box_event ?hg (N := 2) ?hd (cs := #[.int .i64 a0_0, .int .i64 a0_1, .int .i64 a0_2, .int .i64 a0_3, .int .i64 a0_4, .int .i64 a0_5]) (t := 44) ?hr ?_; (case hd => rfl); (case hg => rfl); (case hr => first | (go_simp; done) | (go_simp; rfl)); intro gb1003 hg w14 hbox hb; have n0_ := Aside0.mk (below_step (by repeat (first | (with_reducible first | exact HB.out | apply below_alloc | apply pbdN | apply bdr1) | exact HB.out)) hb); have n1_ := Aside0.mk (hbox); have n2_ := Aside0.mk ((by rw [hg]; exact (below_size (by repeat (first | (with_reducible first | exact HB.out | apply below_alloc | apply pbdN | apply bdr1) | exact HB.out))) : w.heap.size ≤ gb1003)); have n3_ := Aside0.mk ((by rw [hg]; exact (below_size (by repeat (first | (with_reducible first | exact HB.out | apply below_alloc | apply pbdN | apply bdr1) | exact HB.out))) : w.heap.size ≤ gb1003)); clear HB; have HB := n0_; have BK1003 := n1_; have GW1003 := n2_; have GE1003 := n3_; clear n0_ n1_ n2_ n3_; clear hb hbox hg) | ((with_reducible refine gate_dst (N := 3) rfl ?_); refine box_event ?hg (N := 3) ?hd (cs := #[.slice A1_0 l1_0.length c1_0, .slice A1_1 l1_1.length c1_1]) (t := 25) ?hr ?_; (case hd => rfl); (case hg => rfl); (case hr => first | (go_simp; done) | (go_simp; rfl)); intro gb1004 hg w15 hbox hb; have n0_ := Aside0.mk (blk_below (g := gb1003) (o := .cells #[.int .i64 a0_0, .int .i64 a0_1, .int .i64 a0_2, .int .i64 a0_3, .int .i64 a0_4, .int .i64 a0_5] 44 (0, 0)) (by (with_reducible repeat (first | refine blk_drewN ?_ _ | refine blk_drew ?_ | refine blk_alloc ?_ _)); exact BK1003.out) hb); have n1_ := Aside0.mk (below_step (by repeat (first | (with_reducible first | exact HB.out | apply below_alloc | apply pbdN | apply bdr1 | refine below_set ?_ GE1003.out) | exact HB.out)) hb); have n2_ := Aside0.mk (hbox); have n3_ := Aside0.mk ((by rw [hg]; exact (below_size (by repeat (first | (with_reducible first | exact HB.out | apply below_alloc | apply pbdN | apply bdr1 | refine below_set ?_ GE1003.out) | exact HB.out))) : w.heap.size ≤ gb1004)); have n4_ := Aside0.mk ((by rw [hg]; exact (below_size (by repeat (first | (with_reducible first | exact HB.out | apply below_alloc | apply pbdN | apply bdr1 | refine below_set ?_ GE1003.out) | exact HB.out))) : w.heap.size ≤ gb1004)); have n5_ := Aside0.mk ((by rw [hg]; exact Nat.ne_of_lt (blk_lt (g := gb1003) (o := .cells #[.int .i64 a0_0, .int .i64 a0_1, .int .i64 a0_2, .int .i64 a0_3, .int .i64 a0_4, .int .i64 a0_5] 44 (0, 0)) (by (with_reducible repeat (first | refine blk_drewN ?_ _ | refine blk_drew ?_ | refine blk_alloc ?_ _)); exact BK1003.out)) : gb1003 ≠ gb1004)); have n6_ := Aside0.mk ((by rw [hg]; exact Nat.ne_of_gt (blk_lt (g := gb1003) (o := .cells #[.int .i64 a0_0, .int .i64 a0_1, .int .i64 a0_2, .int .i64 a0_3, .int .i64 a0_4, .int .i64 a0_5] 44 (0, 0)) (by (with_reducible repeat (first | refine blk_drewN ?_ _ | refine blk_drew ?_ | refine blk_alloc ?_ _)); exact BK1003.out)) : gb1004 ≠ gb1003)); clear BK1003; clear HB; have BK1003 := n0_; have HB := n1_; have BK1004 := n2_; have GW1004 := n3_; have GE1004 := n4_; have NB1003_343 := n5_; have NB1004_342 := n6_; clear n0_ n1_ n2_ n3_ n4_ n5_ n6_; clear hb hbox hg))
      have n0_ := Aside0.mk (blk_drew BK1003.out)
      have n1_ := Aside0.mk (blk_drew BK1004.out)
      have n2_ := Aside0.mk (bdr1 HB.out)
      clear BK1003
      clear BK1004
      clear HB
      have BK1003 := n0_
      have BK1004 := n1_
      have HB := n2_
      clear n0_ n1_ n2_
      refine start_ (n := 15) (S := fun w' => w'.cell? ⟨gb1003, 0, none⟩ = some (.int .i64 a0_0) ∧ w'.cell? ⟨gb1003, 1, none⟩ = some (.int .i64 a0_1) ∧ w'.cell? ⟨gb1003, 2, none⟩ = some (.int .i64 a0_2) ∧ w'.cell? ⟨gb1003, 3, none⟩ = some (.int .i64 a0_3) ∧ w'.cell? ⟨gb1003, 4, none⟩ = some (.int .i64 a0_4) ∧ w'.cell? ⟨gb1003, 5, none⟩ = some (.int .i64 a0_5) ∧ w'.cell? ⟨gb1004, 0, none⟩ = some (.slice A1_0 l1_0.length c1_0) ∧ w'.cell? ⟨gb1004, 1, none⟩ = some (.slice A1_1 l1_1.length c1_1)) (ds := []) #[false, false, false, false, false, false, false, false, false, false, false, false, false, false, false] (by kernel_rfl) rfl rfl ⟨(blk_cell BK1003.out 0).trans rfl, (blk_cell BK1003.out 1).trans rfl, (blk_cell BK1003.out 2).trans rfl, (blk_cell BK1003.out 3).trans rfl, (blk_cell BK1003.out 4).trans rfl, (blk_cell BK1003.out 5).trans rfl, (blk_cell BK1004.out 0).trans rfl, (blk_cell BK1004.out 1).trans rfl⟩ (fun hHeld => ?_); refine wtW catamaranref08_May.tab1 catamaranref08_May.bits1 (fun HT_ HW_ => ?_)
      generalize w15.drew = w16 at BK1003 BK1004 HB hHeld ⊢
      refine take_ (i := 0) (N := some 5) (v := ?_) (a' := ?_) #[true, false, false, false, false, false, false, false, false, false, false, false, false, false, false] rfl rfl (take_ofW HT_.out HW_.out (by kernel_rfl)) (fun _ _ _ h => h) (Or.inl ⟨by rfl, ?_⟩) hHeld ?_ ?_
      rotate_left
      · rintro w' ⟨s0, s1, s2, s3, s4, s5, s6, s7⟩
        go_simp
        with_reducible rfl
      rotate_left
      · simp only [Act.put, List.setIfInBounds_toArray, List.set_cons_zero, List.set_cons_succ, i64_w, i32_w]
        rfl
      refine one_ (i := 1) (N := some 6) #[true, true, false, false, false, false, false, false, false, false, false, false, false, false, false] rfl rfl (one_of HT_.out (by kernel_rfl)) (by decide) (fun K hK => ?_)
      refine goes_ Try.func114 (by kernel_rfl) rfl #[.agg #[.int .i64 a0_0, .int .i64 a0_1, .int .i64 a0_2, .int .i64 a0_3, .int .i64 a0_4, .int .i64 a0_5]] (by rfl) rfl rfl (by (try simp only [List.map_toArray, List.map_cons, List.map_nil]); first | done | rfl | (simp only [List.length_drop, List.length_take]; rfl)) ?_
      with_reducible refine (catamaranref07_May.calls k a0_0 a0_1 a0_2 a0_3 a0_4 a0_5 true _ A3.out).mono ?_
      rintro e w17 ⟨rfl, hb⟩
      refine ⟨_, rfl, ?_⟩
      have n0_ := Aside0.mk (blk_below (g := gb1003) (o := .cells #[.int .i64 a0_0, .int .i64 a0_1, .int .i64 a0_2, .int .i64 a0_3, .int .i64 a0_4, .int .i64 a0_5] 44 (0, 0)) (by (with_reducible repeat (first | refine blk_drewN ?_ _ | refine blk_drew ?_ | refine blk_alloc ?_ _)); exact BK1003.out) hb)
      have n1_ := Aside0.mk (blk_below (g := gb1004) (o := .cells #[.slice A1_0 l1_0.length c1_0, .slice A1_1 l1_1.length c1_1] 25 (0, 0)) (by (with_reducible repeat (first | refine blk_drewN ?_ _ | refine blk_drew ?_ | refine blk_alloc ?_ _)); exact BK1004.out) hb)
      have n2_ := Aside0.mk (below_step (by repeat (first | (with_reducible first | exact HB.out | apply below_alloc | apply pbdN | apply bdr1 | refine below_set ?_ GE1003.out | refine below_set ?_ GE1004.out) | exact HB.out)) hb)
      clear BK1003
      clear BK1004
      clear HB
      have BK1003 := n0_
      have BK1004 := n1_
      have HB := n2_
      clear n0_ n1_ n2_
      (try clear hb)
      (try clear hb2)
      (try clear hk)
      (try clear hi)
      refine hK.out _ _ ⟨(blk_cell BK1003.out 0).trans rfl, (blk_cell BK1003.out 1).trans rfl, (blk_cell BK1003.out 2).trans rfl, (blk_cell BK1003.out 3).trans rfl, (blk_cell BK1003.out 4).trans rfl, (blk_cell BK1003.out 5).trans rfl, (blk_cell BK1004.out 0).trans rfl, (blk_cell BK1004.out 1).trans rfl⟩ (fun hHeld => ?_)
      clear hK K
      refine norm_ (a' := ?_) ?_ ?_
      rotate_left
      · show Act.put _ (some 6) _ = _
        simp only [Act.put, List.setIfInBounds_toArray, List.set_cons_zero, List.set_cons_succ, i64_w, i32_w]
        rfl
      refine pure_ (i := 2) (N := some 7) (v := ?_) (a' := ?_) #[true, true, true, false, false, false, false, false, false, false, false, false, false, false, false] rfl rfl (any_of HT_.out (by kernel_rfl)) (fun _ _ _ h => h) (Or.inl ⟨by rfl, ?_⟩) ?_ ?_
      rotate_left
      · intro w'
        go_simp
        with_reducible rfl
      rotate_left
      · simp only [Act.put, List.setIfInBounds_toArray, List.set_cons_zero, List.set_cons_succ, i64_w, i32_w]
        rfl
      refine pure_ (i := 3) (N := some 8) (v := ?_) (a' := ?_) #[true, true, true, true, false, false, false, false, false, false, false, false, false, false, false] rfl rfl (any_of HT_.out (by kernel_rfl)) (fun _ _ _ h => h) (Or.inl ⟨by rfl, ?_⟩) ?_ ?_
      rotate_left
      · intro w'
        go_simp
        with_reducible rfl
      rotate_left
      · simp only [Act.put, List.setIfInBounds_toArray, List.set_cons_zero, List.set_cons_succ, i64_w, i32_w]
        rfl
      refine take_ (i := 4) (N := some 9) (v := ?_) (a' := ?_) #[true, true, true, true, true, false, false, false, false, false, false, false, false, false, false] rfl rfl (take_ofW HT_.out HW_.out (by kernel_rfl)) (fun _ _ _ h => h) (Or.inl ⟨by rfl, ?_⟩) hHeld ?_ ?_
      rotate_left
      · rintro w' ⟨s0, s1, s2, s3, s4, s5, s6, s7⟩
        go_simp
        with_reducible rfl
      rotate_left
      · simp only [Act.put, List.setIfInBounds_toArray, List.set_cons_zero, List.set_cons_succ, i64_w, i32_w]
        rfl
      refine pure_ (i := 5) (N := some 10) (v := ?_) (a' := ?_) #[true, true, true, true, true, true, false, false, false, false, false, false, false, false, false] rfl rfl (any_of HT_.out (by kernel_rfl)) (fun _ _ _ h => h) (Or.inl ⟨by rfl, ?_⟩) ?_ ?_
      rotate_left
      · intro w'
        go_simp
        with_reducible rfl
      rotate_left
      · simp only [Act.put, List.setIfInBounds_toArray, List.set_cons_zero, List.set_cons_succ, i64_w, i32_w]
        rfl
      refine take_ (i := 6) (N := some 11) (v := ?_) (a' := ?_) #[true, true, true, true, true, true, true, false, false, false, false, false, false, false, false] rfl rfl (take_ofW HT_.out HW_.out (by kernel_rfl)) (fun _ _ _ h => h) (Or.inl ⟨by rfl, ?_⟩) hHeld ?_ ?_
      rotate_left
      · rintro w' ⟨s0, s1, s2, s3, s4, s5, s6, s7⟩
        go_simp
        with_reducible rfl
      rotate_left
      · simp only [Act.put, List.setIfInBounds_toArray, List.set_cons_zero, List.set_cons_succ, i64_w, i32_w]
        rfl
      refine one_ (i := 7) (N := some 12) #[true, true, true, true, true, true, true, true, false, false, false, false, false, false, false] rfl rfl (one_of HT_.out (by kernel_rfl)) (by decide) (fun K hK => ?_)
      refine goes_ Try.func115 (by kernel_rfl) rfl #[.agg #[.int .i64 a0_0, .int .i64 a0_1, .int .i64 a0_2, .int .i64 a0_3, .int .i64 a0_4, .int .i64 a0_5]] (by rfl) rfl rfl (by (try simp only [List.map_toArray, List.map_cons, List.map_nil]); first | done | rfl | (simp only [List.length_drop, List.length_take]; rfl)) ?_
      with_reducible refine (catamaranref07_Size.calls a0_0 a0_1 a0_2 a0_3 a0_4 a0_5 t1001 _ A5.out).mono ?_
      rintro e w18 ⟨rfl, hb⟩
      refine ⟨_, rfl, ?_⟩
      have n0_ := Aside0.mk (blk_below (g := gb1003) (o := .cells #[.int .i64 a0_0, .int .i64 a0_1, .int .i64 a0_2, .int .i64 a0_3, .int .i64 a0_4, .int .i64 a0_5] 44 (0, 0)) (by (with_reducible repeat (first | refine blk_drewN ?_ _ | refine blk_drew ?_ | refine blk_alloc ?_ _)); exact BK1003.out) hb)
      have n1_ := Aside0.mk (blk_below (g := gb1004) (o := .cells #[.slice A1_0 l1_0.length c1_0, .slice A1_1 l1_1.length c1_1] 25 (0, 0)) (by (with_reducible repeat (first | refine blk_drewN ?_ _ | refine blk_drew ?_ | refine blk_alloc ?_ _)); exact BK1004.out) hb)
      have n2_ := Aside0.mk (below_step (by repeat (first | (with_reducible first | exact HB.out | apply below_alloc | apply pbdN | apply bdr1 | refine below_set ?_ GE1003.out | refine below_set ?_ GE1004.out) | exact HB.out)) hb)
      clear BK1003
      clear BK1004
      clear HB
      have BK1003 := n0_
      have BK1004 := n1_
      have HB := n2_
      clear n0_ n1_ n2_
      (try clear hb)
      (try clear hb2)
      (try clear hk)
      (try clear hi)
      refine hK.out _ _ ⟨(blk_cell BK1003.out 0).trans rfl, (blk_cell BK1003.out 1).trans rfl, (blk_cell BK1003.out 2).trans rfl, (blk_cell BK1003.out 3).trans rfl, (blk_cell BK1003.out 4).trans rfl, (blk_cell BK1003.out 5).trans rfl, (blk_cell BK1004.out 0).trans rfl, (blk_cell BK1004.out 1).trans rfl⟩ (fun hHeld => ?_)
      clear hK K
      refine norm_ (a' := ?_) ?_ ?_
      rotate_left
      · show Act.put _ (some 12) _ = _
        simp only [Act.put, List.setIfInBounds_toArray, List.set_cons_zero, List.set_cons_succ, i64_w, i32_w]
        rfl
      refine pure_ (i := 8) (N := some 13) (v := ?_) (a' := ?_) #[true, true, true, true, true, true, true, true, true, false, false, false, false, false, false] rfl rfl (any_of HT_.out (by kernel_rfl)) (fun _ _ _ h => h) (Or.inl ⟨by rfl, ?_⟩) ?_ ?_
      rotate_left
      · intro w'
        go_simp
        with_reducible rfl
      rotate_left
      · simp only [Act.put, List.setIfInBounds_toArray, List.set_cons_zero, List.set_cons_succ, i64_w, i32_w]
        rfl
      refine pure_ (i := 9) (N := some 14) (v := ?_) (a' := ?_) #[true, true, true, true, true, true, true, true, true, true, false, false, false, false, false] rfl rfl (any_of HT_.out (by kernel_rfl)) (fun _ _ _ h => h) (Or.inl ⟨by rfl, ?_⟩) ?_ ?_
      rotate_left
      · intro w'
        go_simp
        with_reducible rfl
      rotate_left
      · simp only [Act.put, List.setIfInBounds_toArray, List.set_cons_zero, List.set_cons_succ, i64_w, i32_w]
        rfl
      refine pure_ (i := 10) (N := some 15) (v := ?_) (a' := ?_) #[true, true, true, true, true, true, true, true, true, true, true, false, false, false, false] rfl rfl (any_of HT_.out (by kernel_rfl)) (fun _ _ _ h => h) (Or.inl ⟨by rfl, ?_⟩) ?_ ?_
      rotate_left
      · intro w'
        go_simp
        with_reducible rfl
      rotate_left
      · simp only [Act.put, List.setIfInBounds_toArray, List.set_cons_zero, List.set_cons_succ, i64_w, i32_w]
        rfl
      refine pure_ (i := 11) (N := some 16) (v := undef) (a' := ?_) #[true, true, true, true, true, true, true, true, true, true, true, true, false, false, false] rfl rfl (any_of HT_.out (by kernel_rfl)) (fun _ _ _ h => h) (Or.inr ⟨by rfl, rfl⟩) ?_ ?_
      rotate_left
      · simp only [Act.put, List.setIfInBounds_toArray, List.set_cons_zero, List.set_cons_succ, i64_w, i32_w]
        rfl
      refine pure_ (i := 12) (N := some 17) (v := undef) (a' := ?_) #[true, true, true, true, true, true, true, true, true, true, true, true, true, false, false] rfl rfl (any_of HT_.out (by kernel_rfl)) (fun _ _ _ h => h) (Or.inr ⟨by rfl, rfl⟩) ?_ ?_
      rotate_left
      · simp only [Act.put, List.setIfInBounds_toArray, List.set_cons_zero, List.set_cons_succ, i64_w, i32_w]
        rfl
      refine pure_ (i := 13) (N := some 18) (v := ?_) (a' := ?_) #[true, true, true, true, true, true, true, true, true, true, true, true, true, true, false] rfl rfl (any_of HT_.out (by kernel_rfl)) (fun _ _ _ h => h) (Or.inl ⟨by rfl, ?_⟩) ?_ ?_
      rotate_left
      · intro w'
        go_simp
        with_reducible rfl
      rotate_left
      · simp only [Act.put, List.setIfInBounds_toArray, List.set_cons_zero, List.set_cons_succ, i64_w, i32_w]
        rfl
      refine pure_ (i := 14) (N := some 4) (v := ?_) (a' := ?_) #[true, true, true, true, true, true, true, true, true, true, true, true, true, true, true] rfl rfl (any_of HT_.out (by kernel_rfl)) (fun _ _ _ h => h) (Or.inl ⟨by rfl, ?_⟩) ?_ ?_
      rotate_left
      · intro w'
        go_simp
        with_reducible rfl
      rotate_left
      · simp only [Act.put, List.setIfInBounds_toArray, List.set_cons_zero, List.set_cons_succ, i64_w, i32_w]
        rfl
      refine done_ (done_of HT_.out (by kernel_rfl)) ?_
      try go_wp2
      go_ret
      exact ⟨by first | rfl | (simp [errW_none, errW_some] <;> rfl) | (simp [*, errW_none, errW_some] <;> rfl), by repeat (first | (with_reducible first | exact HB.out | apply below_alloc | apply pbdN | apply bdr1 | refine below_set ?_ GE1003.out | refine below_set ?_ GE1004.out) | exact HB.out)⟩
  · replace c4 := Bool.eq_false_iff.mpr c4
    subst c4
    have H1 : (some false) = some r := by rw [if_neg (show ¬ (false = true) by decide)] at H; exact H
    clear H
    have H := H1
    clear H1
    obtain rfl := Option.some.inj H
    go_enter Try.func79, Try.ntmps79
    try go_wp2_with (first | ((with_reducible refine gate_dst (N := 2) rfl ?_); refine box_event ?hg (N := 2) ?hd (cs := #[.int .i64 a0_0, .int .i64 a0_1, .int .i64 a0_2, .int .i64 a0_3, .int .i64 a0_4, .int .i64 a0_5]) (t := 44) ?hr ?_; (case hd => rfl); (case hg => rfl); (case hr => first | (go_simp; done) | (go_simp; rfl)); intro gb1003 hg w19 hbox hb; have n0_ := Aside0.mk (below_step (by repeat (first | (with_reducible first | exact HB.out | apply below_alloc | apply pbdN | apply bdr1) | exact HB.out)) hb); have n1_ := Aside0.mk (hbox); have n2_ := Aside0.mk ((by rw [hg]; exact (below_size (by repeat (first | (with_reducible first | exact HB.out | apply below_alloc | apply pbdN | apply bdr1) | exact HB.out))) : w.heap.size ≤ gb1003)); have n3_ := Aside0.mk ((by rw [hg]; exact (below_size (by repeat (first | (with_reducible first | exact HB.out | apply below_alloc | apply pbdN | apply bdr1) | exact HB.out))) : w.heap.size ≤ gb1003)); clear HB; have HB := n0_; have BK1003 := n1_; have GW1003 := n2_; have GE1003 := n3_; clear n0_ n1_ n2_ n3_; clear hb hbox hg) | ((with_reducible refine gate_dst (N := 3) rfl ?_); refine box_event ?hg (N := 3) ?hd (cs := #[.slice A1_0 l1_0.length c1_0, .slice A1_1 l1_1.length c1_1]) (t := 25) ?hr ?_; (case hd => rfl); (case hg => rfl); (case hr => first | (go_simp; done) | (go_simp; rfl)); intro gb1004 hg w20 hbox hb; have n0_ := Aside0.mk (blk_below (g := gb1003) (o := .cells #[.int .i64 a0_0, .int .i64 a0_1, .int .i64 a0_2, .int .i64 a0_3, .int .i64 a0_4, .int .i64 a0_5] 44 (0, 0)) (by (with_reducible repeat (first | refine blk_drewN ?_ _ | refine blk_drew ?_ | refine blk_alloc ?_ _)); exact BK1003.out) hb); have n1_ := Aside0.mk (below_step (by repeat (first | (with_reducible first | exact HB.out | apply below_alloc | apply pbdN | apply bdr1 | refine below_set ?_ GE1003.out) | exact HB.out)) hb); have n2_ := Aside0.mk (hbox); have n3_ := Aside0.mk ((by rw [hg]; exact (below_size (by repeat (first | (with_reducible first | exact HB.out | apply below_alloc | apply pbdN | apply bdr1 | refine below_set ?_ GE1003.out) | exact HB.out))) : w.heap.size ≤ gb1004)); have n4_ := Aside0.mk ((by rw [hg]; exact (below_size (by repeat (first | (with_reducible first | exact HB.out | apply below_alloc | apply pbdN | apply bdr1 | refine below_set ?_ GE1003.out) | exact HB.out))) : w.heap.size ≤ gb1004)); have n5_ := Aside0.mk ((by rw [hg]; exact Nat.ne_of_lt (blk_lt (g := gb1003) (o := .cells #[.int .i64 a0_0, .int .i64 a0_1, .int .i64 a0_2, .int .i64 a0_3, .int .i64 a0_4, .int .i64 a0_5] 44 (0, 0)) (by (with_reducible repeat (first | refine blk_drewN ?_ _ | refine blk_drew ?_ | refine blk_alloc ?_ _)); exact BK1003.out)) : gb1003 ≠ gb1004)); have n6_ := Aside0.mk ((by rw [hg]; exact Nat.ne_of_gt (blk_lt (g := gb1003) (o := .cells #[.int .i64 a0_0, .int .i64 a0_1, .int .i64 a0_2, .int .i64 a0_3, .int .i64 a0_4, .int .i64 a0_5] 44 (0, 0)) (by (with_reducible repeat (first | refine blk_drewN ?_ _ | refine blk_drew ?_ | refine blk_alloc ?_ _)); exact BK1003.out)) : gb1004 ≠ gb1003)); clear BK1003; clear HB; have BK1003 := n0_; have HB := n1_; have BK1004 := n2_; have GW1004 := n3_; have GE1004 := n4_; have NB1003_343 := n5_; have NB1004_342 := n6_; clear n0_ n1_ n2_ n3_ n4_ n5_ n6_; clear hb hbox hg))
    have n0_ := Aside0.mk (blk_drew BK1003.out)
    have n1_ := Aside0.mk (blk_drew BK1004.out)
    have n2_ := Aside0.mk (bdr1 HB.out)
    clear BK1003
    clear BK1004
    clear HB
    have BK1003 := n0_
    have BK1004 := n1_
    have HB := n2_
    clear n0_ n1_ n2_
    refine start_ (n := 15) (S := fun w' => w'.cell? ⟨gb1003, 0, none⟩ = some (.int .i64 a0_0) ∧ w'.cell? ⟨gb1003, 1, none⟩ = some (.int .i64 a0_1) ∧ w'.cell? ⟨gb1003, 2, none⟩ = some (.int .i64 a0_2) ∧ w'.cell? ⟨gb1003, 3, none⟩ = some (.int .i64 a0_3) ∧ w'.cell? ⟨gb1003, 4, none⟩ = some (.int .i64 a0_4) ∧ w'.cell? ⟨gb1003, 5, none⟩ = some (.int .i64 a0_5)) (ds := []) #[false, false, false, false, false, false, false, false, false, false, false, false, false, false, false] (by kernel_rfl) rfl rfl ⟨(blk_cell BK1003.out 0).trans rfl, (blk_cell BK1003.out 1).trans rfl, (blk_cell BK1003.out 2).trans rfl, (blk_cell BK1003.out 3).trans rfl, (blk_cell BK1003.out 4).trans rfl, (blk_cell BK1003.out 5).trans rfl⟩ (fun hHeld => ?_); refine wtW catamaranref08_May.tab1 catamaranref08_May.bits1 (fun HT_ HW_ => ?_)
    generalize w20.drew = w21 at BK1003 BK1004 HB hHeld ⊢
    refine take_ (i := 0) (N := some 5) (v := ?_) (a' := ?_) #[true, false, false, false, false, false, false, false, false, false, false, false, false, false, false] rfl rfl (take_ofW HT_.out HW_.out (by kernel_rfl)) (fun _ _ _ h => h) (Or.inl ⟨by rfl, ?_⟩) hHeld ?_ ?_
    rotate_left
    · rintro w' ⟨s0, s1, s2, s3, s4, s5⟩
      go_simp
      with_reducible rfl
    rotate_left
    · simp only [Act.put, List.setIfInBounds_toArray, List.set_cons_zero, List.set_cons_succ, i64_w, i32_w]
      rfl
    refine one_ (i := 1) (N := some 6) #[true, true, false, false, false, false, false, false, false, false, false, false, false, false, false] rfl rfl (one_of HT_.out (by kernel_rfl)) (by decide) (fun K hK => ?_)
    refine goes_ Try.func114 (by kernel_rfl) rfl #[.agg #[.int .i64 a0_0, .int .i64 a0_1, .int .i64 a0_2, .int .i64 a0_3, .int .i64 a0_4, .int .i64 a0_5]] (by rfl) rfl rfl (by (try simp only [List.map_toArray, List.map_cons, List.map_nil]); first | done | rfl | (simp only [List.length_drop, List.length_take]; rfl)) ?_
    with_reducible refine (catamaranref07_May.calls k a0_0 a0_1 a0_2 a0_3 a0_4 a0_5 false _ A3.out).mono ?_
    rintro e w22 ⟨rfl, hb⟩
    refine ⟨_, rfl, ?_⟩
    have n0_ := Aside0.mk (blk_below (g := gb1003) (o := .cells #[.int .i64 a0_0, .int .i64 a0_1, .int .i64 a0_2, .int .i64 a0_3, .int .i64 a0_4, .int .i64 a0_5] 44 (0, 0)) (by (with_reducible repeat (first | refine blk_drewN ?_ _ | refine blk_drew ?_ | refine blk_alloc ?_ _)); exact BK1003.out) hb)
    have n1_ := Aside0.mk (blk_below (g := gb1004) (o := .cells #[.slice A1_0 l1_0.length c1_0, .slice A1_1 l1_1.length c1_1] 25 (0, 0)) (by (with_reducible repeat (first | refine blk_drewN ?_ _ | refine blk_drew ?_ | refine blk_alloc ?_ _)); exact BK1004.out) hb)
    have n2_ := Aside0.mk (below_step (by repeat (first | (with_reducible first | exact HB.out | apply below_alloc | apply pbdN | apply bdr1 | refine below_set ?_ GE1003.out | refine below_set ?_ GE1004.out) | exact HB.out)) hb)
    clear BK1003
    clear BK1004
    clear HB
    have BK1003 := n0_
    have BK1004 := n1_
    have HB := n2_
    clear n0_ n1_ n2_
    (try clear hb)
    (try clear hb2)
    (try clear hk)
    (try clear hi)
    refine hK.out _ _ ⟨(blk_cell BK1003.out 0).trans rfl, (blk_cell BK1003.out 1).trans rfl, (blk_cell BK1003.out 2).trans rfl, (blk_cell BK1003.out 3).trans rfl, (blk_cell BK1003.out 4).trans rfl, (blk_cell BK1003.out 5).trans rfl⟩ (fun hHeld => ?_)
    clear hK K
    refine norm_ (a' := ?_) ?_ ?_
    rotate_left
    · show Act.put _ (some 6) _ = _
      simp only [Act.put, List.setIfInBounds_toArray, List.set_cons_zero, List.set_cons_succ, i64_w, i32_w]
      rfl
    refine pure_ (i := 2) (N := some 7) (v := ?_) (a' := ?_) #[true, true, true, false, false, false, false, false, false, false, false, false, false, false, false] rfl rfl (any_of HT_.out (by kernel_rfl)) (fun _ _ _ h => h) (Or.inl ⟨by rfl, ?_⟩) ?_ ?_
    rotate_left
    · intro w'
      go_simp
      with_reducible rfl
    rotate_left
    · simp only [Act.put, List.setIfInBounds_toArray, List.set_cons_zero, List.set_cons_succ, i64_w, i32_w]
      rfl
    refine pure_ (i := 3) (N := some 8) (v := undef) (a' := ?_) #[true, true, true, true, false, false, false, false, false, false, false, false, false, false, false] rfl rfl (any_of HT_.out (by kernel_rfl)) (fun _ _ _ h => h) (Or.inr ⟨by rfl, rfl⟩) ?_ ?_
    rotate_left
    · simp only [Act.put, List.setIfInBounds_toArray, List.set_cons_zero, List.set_cons_succ, i64_w, i32_w]
      rfl
    refine pure_ (i := 4) (N := some 9) (v := undef) (a' := ?_) #[true, true, true, true, true, false, false, false, false, false, false, false, false, false, false] rfl rfl (any_of HT_.out (by kernel_rfl)) (fun _ _ _ h => h) (Or.inr ⟨by rfl, rfl⟩) ?_ ?_
    rotate_left
    · simp only [Act.put, List.setIfInBounds_toArray, List.set_cons_zero, List.set_cons_succ, i64_w, i32_w]
      rfl
    refine pure_ (i := 5) (N := some 10) (v := undef) (a' := ?_) #[true, true, true, true, true, true, false, false, false, false, false, false, false, false, false] rfl rfl (any_of HT_.out (by kernel_rfl)) (fun _ _ _ h => h) (Or.inr ⟨by rfl, rfl⟩) ?_ ?_
    rotate_left
    · simp only [Act.put, List.setIfInBounds_toArray, List.set_cons_zero, List.set_cons_succ, i64_w, i32_w]
      rfl
    refine pure_ (i := 6) (N := some 11) (v := undef) (a' := ?_) #[true, true, true, true, true, true, true, false, false, false, false, false, false, false, false] rfl rfl (any_of HT_.out (by kernel_rfl)) (fun _ _ _ h => h) (Or.inr ⟨by rfl, rfl⟩) ?_ ?_
    rotate_left
    · simp only [Act.put, List.setIfInBounds_toArray, List.set_cons_zero, List.set_cons_succ, i64_w, i32_w]
      rfl
    refine pure_ (i := 7) (N := some 12) (v := undef) (a' := ?_) #[true, true, true, true, true, true, true, true, false, false, false, false, false, false, false] rfl rfl (any_of HT_.out (by kernel_rfl)) (fun _ _ _ h => h) (Or.inr ⟨by rfl, rfl⟩) ?_ ?_
    rotate_left
    · simp only [Act.put, List.setIfInBounds_toArray, List.set_cons_zero, List.set_cons_succ, i64_w, i32_w]
      rfl
    refine pure_ (i := 8) (N := some 13) (v := undef) (a' := ?_) #[true, true, true, true, true, true, true, true, true, false, false, false, false, false, false] rfl rfl (any_of HT_.out (by kernel_rfl)) (fun _ _ _ h => h) (Or.inr ⟨by rfl, rfl⟩) ?_ ?_
    rotate_left
    · simp only [Act.put, List.setIfInBounds_toArray, List.set_cons_zero, List.set_cons_succ, i64_w, i32_w]
      rfl
    refine pure_ (i := 9) (N := some 14) (v := ?_) (a' := ?_) #[true, true, true, true, true, true, true, true, true, true, false, false, false, false, false] rfl rfl (any_of HT_.out (by kernel_rfl)) (fun _ _ _ h => h) (Or.inl ⟨by rfl, ?_⟩) ?_ ?_
    rotate_left
    · intro w'
      go_simp
      with_reducible rfl
    rotate_left
    · simp only [Act.put, List.setIfInBounds_toArray, List.set_cons_zero, List.set_cons_succ, i64_w, i32_w]
      rfl
    refine pure_ (i := 10) (N := some 15) (v := ?_) (a' := ?_) #[true, true, true, true, true, true, true, true, true, true, true, false, false, false, false] rfl rfl (any_of HT_.out (by kernel_rfl)) (fun _ _ _ h => h) (Or.inl ⟨by rfl, ?_⟩) ?_ ?_
    rotate_left
    · intro w'
      go_simp
      with_reducible rfl
    rotate_left
    · simp only [Act.put, List.setIfInBounds_toArray, List.set_cons_zero, List.set_cons_succ, i64_w, i32_w]
      rfl
    refine pure_ (i := 11) (N := some 16) (v := undef) (a' := ?_) #[true, true, true, true, true, true, true, true, true, true, true, true, false, false, false] rfl rfl (any_of HT_.out (by kernel_rfl)) (fun _ _ _ h => h) (Or.inr ⟨by rfl, rfl⟩) ?_ ?_
    rotate_left
    · simp only [Act.put, List.setIfInBounds_toArray, List.set_cons_zero, List.set_cons_succ, i64_w, i32_w]
      rfl
    refine pure_ (i := 12) (N := some 17) (v := undef) (a' := ?_) #[true, true, true, true, true, true, true, true, true, true, true, true, true, false, false] rfl rfl (any_of HT_.out (by kernel_rfl)) (fun _ _ _ h => h) (Or.inr ⟨by rfl, rfl⟩) ?_ ?_
    rotate_left
    · simp only [Act.put, List.setIfInBounds_toArray, List.set_cons_zero, List.set_cons_succ, i64_w, i32_w]
      rfl
    refine pure_ (i := 13) (N := some 18) (v := ?_) (a' := ?_) #[true, true, true, true, true, true, true, true, true, true, true, true, true, true, false] rfl rfl (any_of HT_.out (by kernel_rfl)) (fun _ _ _ h => h) (Or.inl ⟨by rfl, ?_⟩) ?_ ?_
    rotate_left
    · intro w'
      go_simp
      with_reducible rfl
    rotate_left
    · simp only [Act.put, List.setIfInBounds_toArray, List.set_cons_zero, List.set_cons_succ, i64_w, i32_w]
      rfl
    refine pure_ (i := 14) (N := some 4) (v := ?_) (a' := ?_) #[true, true, true, true, true, true, true, true, true, true, true, true, true, true, true] rfl rfl (any_of HT_.out (by kernel_rfl)) (fun _ _ _ h => h) (Or.inl ⟨by rfl, ?_⟩) ?_ ?_
    rotate_left
    · intro w'
      go_simp
      with_reducible rfl
    rotate_left
    · simp only [Act.put, List.setIfInBounds_toArray, List.set_cons_zero, List.set_cons_succ, i64_w, i32_w]
      rfl
    refine done_ (done_of HT_.out (by kernel_rfl)) ?_
    try go_wp2
    go_ret
    exact ⟨by first | rfl | (simp [errW_none, errW_some] <;> rfl) | (simp [*, errW_none, errW_some] <;> rfl), by repeat (first | (with_reducible first | exact HB.out | apply below_alloc | apply pbdN | apply bdr1 | refine below_set ?_ GE1003.out | refine below_set ?_ GE1004.out) | exact HB.out)⟩
end Go.Proofs.Ytdkjhcdniepbhaa.P
end
section
set_option linter.unusedVariables false
set_option linter.unusedSimpArgs false
namespace Go.Proofs.Ytdkjhcdniepbhaa.P
open Go.RowKit Go.Proofs.PrintWords Go.Proofs.PrintLast Go.Proofs.PrintMore
attribute [local go_sem] max2_int min2_int max_two min_two max_three min_three max_four min_four
def track_Check.f (a0_0 : Int) (a0_1 : Int) (a0_2 : Int) (a0_3 : Int) (a0_4 : Int) (a0_5 : Int) (l1_0 : List (S39)) (l1_1 : List (S49)) : Option (Int) := (hSectors.f a0_0 a0_1 a0_2 a0_3 a0_4 a0_5).bind fun bt1000 => (if bt1000.2 = 0 then (if (l1_0.length : Int) = bt1000.1 then ((hCheck.f l1_0 l1_1).bind fun t1001 => (some t1001)) else (some 8)) else (some bt1000.2))
set_option maxHeartbeats 8000000 in
set_option maxRecDepth 100000 in
theorem track_Check.calls (a0_0 : Int) (a0_1 : Int) (a0_2 : Int) (a0_3 : Int) (a0_4 : Int) (a0_5 : Int) (A1_0 : Option Addr) (c1_0 : Nat) (l1_0 : List (S39)) (A1_1 : Option Addr) (c1_1 : Nat) (l1_1 : List (S49)) (r : Int) (w : World) (hr1_0 : Kd.C k39 w A1_0 l1_0.length l1_0) (hc1_0 : l1_0.length ≤ c1_0) (hr1_1 : Kd.C k49 w A1_1 l1_1.length l1_1) (hc1_1 : l1_1.length ≤ c1_1) (h : track_Check.f a0_0 a0_1 a0_2 a0_3 a0_4 a0_5 l1_0 l1_1 = some r) :
    Calls Try.prog 76 #[.agg #[.int .i64 a0_0, .int .i64 a0_1, .int .i64 a0_2, .int .i64 a0_3, .int .i64 a0_4, .int .i64 a0_5], .agg #[.slice A1_0 l1_0.length c1_0, .slice A1_1 l1_1.length c1_1]] w fun e w' => e = .returned (.int .i64 r) ∧ Below w.heap.size w w' := by
  have hu44 := Try.underlying44
  have hu25 := Try.underlying25
  have HR1_0 := Aside0.mk hr1_0
  have HC1_0 := Aside0.mk hc1_0
  clear hr1_0 hc1_0
  have HR1_1 := Aside0.mk hr1_1
  have HC1_1 := Aside0.mk hc1_1
  clear hr1_1 hc1_1
  have HB := Aside0.mk (Below.refl w.heap.size w)
  have H : ((hSectors.f a0_0 a0_1 a0_2 a0_3 a0_4 a0_5).bind fun bt1000 => (if bt1000.2 = 0 then (if (l1_0.length : Int) = bt1000.1 then ((hCheck.f l1_0 l1_1).bind fun t1001 => (some t1001)) else (some 8)) else (some bt1000.2))) = some r := h
  clear h
  replace H := Option.bind_eq_some_iff.mp H
  obtain ⟨⟨t1000, t1002⟩, A30, H⟩ := H
  replace H : (if t1002 = 0 then (if (l1_0.length : Int) = t1000 then ((hCheck.f l1_0 l1_1).bind fun t1001 => (some t1001)) else (some 8)) else (some t1002)) = some r := H
  have A3 := Aside0.mk A30
  clear A30
  by_cases c4 : t1002 = 0
  · rw [if_pos c4] at H
    have c4b0 : (t1002 == 0) = true := beq_iff_eq.mpr c4
    have c4b1 : (t1002 != 0) = false := bne_eq_false_iff_eq.mpr c4
    clear c4
    by_cases c5 : (l1_0.length : Int) = t1000
    · rw [if_pos c5] at H
      have c5b0 : ((l1_0.length : Int) == t1000) = true := beq_iff_eq.mpr c5
      have c5b1 : ((l1_0.length : Int) != t1000) = false := bne_eq_false_iff_eq.mpr c5
      clear c5
      replace H := Option.bind_eq_some_iff.mp H
      obtain ⟨t1001, A60, H⟩ := H
      replace H : (some t1001) = some r := H
      have A6 := Aside0.mk A60
      clear A60
      obtain rfl := Option.some.inj H
      go_enter Try.func76, Try.ntmps76
      go_wp2_with (first | ((with_reducible refine gate_dst (N := 2) rfl ?_); refine box_event ?hg (N := 2) ?hd (cs := #[.int .i64 a0_0, .int .i64 a0_1, .int .i64 a0_2, .int .i64 a0_3, .int .i64 a0_4, .int .i64 a0_5]) (t := 44) ?hr ?_; (case hd => rfl); (case hg => rfl); (case hr => first | (go_simp; done) | (go_simp; rfl)); intro gb1003 hg w7 hbox hb; have n0_ := Aside0.mk (below_step (by repeat (first | (with_reducible first | exact HB.out | apply below_alloc | apply pbdN | apply bdr1) | exact HB.out)) hb); have n1_ := Aside0.mk (hbox); have n2_ := Aside0.mk ((by rw [hg]; exact (below_size (by repeat (first | (with_reducible first | exact HB.out | apply below_alloc | apply pbdN | apply bdr1) | exact HB.out))) : w.heap.size ≤ gb1003)); have n3_ := Aside0.mk ((by rw [hg]; exact (below_size (by repeat (first | (with_reducible first | exact HB.out | apply below_alloc | apply pbdN | apply bdr1) | exact HB.out))) : w.heap.size ≤ gb1003)); clear HB; have HB := n0_; have BK1003 := n1_; have GW1003 := n2_; have GE1003 := n3_; clear n0_ n1_ n2_ n3_; clear hb hbox hg) | ((with_reducible refine gate_dst (N := 3) rfl ?_); refine box_event ?hg (N := 3) ?hd (cs := #[.slice A1_0 l1_0.length c1_0, .slice A1_1 l1_1.length c1_1]) (t := 25) ?hr ?_; (case hd => rfl); (case hg => rfl); (case hr => first | (go_simp; done) | (go_simp; rfl)); intro gb1004 hg w8 hbox hb; have n0_ := Aside0.mk (blk_below (g := gb1003) (o := .cells #[.int .i64 a0_0, .int .i64 a0_1, .int .i64 a0_2, .int .i64 a0_3, .int .i64 a0_4, .int .i64 a0_5] 44 (0, 0)) (by (with_reducible repeat (first | refine blk_drewN ?_ _ | refine blk_drew ?_ | refine blk_alloc ?_ _)); exact BK1003.out) hb); have n1_ := Aside0.mk (below_step (by repeat (first | (with_reducible first | exact HB.out | apply below_alloc | apply pbdN | apply bdr1 | refine below_set ?_ GE1003.out) | exact HB.out)) hb); have n2_ := Aside0.mk (hbox); have n3_ := Aside0.mk ((by rw [hg]; exact (below_size (by repeat (first | (with_reducible first | exact HB.out | apply below_alloc | apply pbdN | apply bdr1 | refine below_set ?_ GE1003.out) | exact HB.out))) : w.heap.size ≤ gb1004)); have n4_ := Aside0.mk ((by rw [hg]; exact (below_size (by repeat (first | (with_reducible first | exact HB.out | apply below_alloc | apply pbdN | apply bdr1 | refine below_set ?_ GE1003.out) | exact HB.out))) : w.heap.size ≤ gb1004)); have n5_ := Aside0.mk ((by rw [hg]; exact Nat.ne_of_lt (blk_lt (g := gb1003) (o := .cells #[.int .i64 a0_0, .int .i64 a0_1, .int .i64 a0_2, .int .i64 a0_3, .int .i64 a0_4, .int .i64 a0_5] 44 (0, 0)) (by (with_reducible repeat (first | refine blk_drewN ?_ _ | refine blk_drew ?_ | refine blk_alloc ?_ _)); exact BK1003.out)) : gb1003 ≠ gb1004)); have n6_ := Aside0.mk ((by rw [hg]; exact Nat.ne_of_gt (blk_lt (g := gb1003) (o := .cells #[.int .i64 a0_0, .int .i64 a0_1, .int .i64 a0_2, .int .i64 a0_3, .int .i64 a0_4, .int .i64 a0_5] 44 (0, 0)) (by (with_reducible repeat (first | refine blk_drewN ?_ _ | refine blk_drew ?_ | refine blk_alloc ?_ _)); exact BK1003.out)) : gb1004 ≠ gb1003)); clear BK1003; clear HB; have BK1003 := n0_; have HB := n1_; have BK1004 := n2_; have GW1004 := n3_; have GE1004 := n4_; have NB1003_265 := n5_; have NB1004_264 := n6_; clear n0_ n1_ n2_ n3_ n4_ n5_ n6_; clear hb hbox hg; have hnb9 := NB1003_265.out; have hnc9 := NB1004_264.out; have hcz10_0 : w8.cell? ⟨gb1003, 0, none⟩ = some (.int .i64 a0_0) := (blk_cell BK1003.out 0).trans rfl; have hcz10_1 : w8.cell? ⟨gb1003, 1, none⟩ = some (.int .i64 a0_1) := (blk_cell BK1003.out 1).trans rfl; have hcz10_2 : w8.cell? ⟨gb1003, 2, none⟩ = some (.int .i64 a0_2) := (blk_cell BK1003.out 2).trans rfl; have hcz10_3 : w8.cell? ⟨gb1003, 3, none⟩ = some (.int .i64 a0_3) := (blk_cell BK1003.out 3).trans rfl; have hcz10_4 : w8.cell? ⟨gb1003, 4, none⟩ = some (.int .i64 a0_4) := (blk_cell BK1003.out 4).trans rfl; have hcz10_5 : w8.cell? ⟨gb1003, 5, none⟩ = some (.int .i64 a0_5) := (blk_cell BK1003.out 5).trans rfl; have hfz10_0 := blk_frozen BK1003.out 0; have hfz10_1 := blk_frozen BK1003.out 1; have hfz10_2 := blk_frozen BK1003.out 2; have hfz10_3 := blk_frozen BK1003.out 3; have hfz10_4 := blk_frozen BK1003.out 4; have hfz10_5 := blk_frozen BK1003.out 5) | ((with_reducible refine gate_callee (f := 86) rfl ?_); refine goesL_ (some 9) rfl rfl Try.func86 (by kernel_rfl) rfl #[.agg #[.int .i64 a0_0, .int .i64 a0_1, .int .i64 a0_2, .int .i64 a0_3, .int .i64 a0_4, .int .i64 a0_5]] rfl (by (try simp only [List.map_toArray, List.map_cons, List.map_nil]); first | done | rfl | (simp only [List.length_drop, List.length_take]; rfl)) ?_; (with_reducible refine (hSectors.calls a0_0 a0_1 a0_2 a0_3 a0_4 a0_5 t1000 t1002 _ A3.out).mono ?_); rintro e w11 ⟨rfl, hb⟩; refine ⟨_, rfl, ?_⟩; have n0_ := Aside0.mk (blk_below (g := gb1003) (o := .cells #[.int .i64 a0_0, .int .i64 a0_1, .int .i64 a0_2, .int .i64 a0_3, .int .i64 a0_4, .int .i64 a0_5] 44 (0, 0)) (by (with_reducible repeat (first | refine blk_drewN ?_ _ | refine blk_drew ?_ | refine blk_alloc ?_ _)); exact BK1003.out) hb); have n1_ := Aside0.mk (blk_below (g := gb1004) (o := .cells #[.slice A1_0 l1_0.length c1_0, .slice A1_1 l1_1.length c1_1] 25 (0, 0)) (by (with_reducible repeat (first | refine blk_drewN ?_ _ | refine blk_drew ?_ | refine blk_alloc ?_ _)); exact BK1004.out) hb); have n2_ := Aside0.mk (below_step (by repeat (first | (with_reducible first | exact HB.out | apply below_alloc | apply pbdN | apply bdr1 | refine below_set ?_ GE1003.out | refine below_set ?_ GE1004.out) | exact HB.out)) hb); clear BK1003; clear BK1004; clear HB; have BK1003 := n0_; have BK1004 := n1_; have HB := n2_; clear n0_ n1_ n2_; (try clear hb); (try clear hb2); (try clear hk); (try clear hi); have hcz12_0 : w11.cell? ⟨gb1004, 0, none⟩ = some (.slice A1_0 l1_0.length c1_0) := (blk_cell BK1004.out 0).trans rfl; have hcz12_1 : w11.cell? ⟨gb1004, 1, none⟩ = some (.slice A1_1 l1_1.length c1_1) := (blk_cell BK1004.out 1).trans rfl; have hfz12_0 := blk_frozen BK1004.out 0; have hfz12_1 := blk_frozen BK1004.out 1) | ((with_reducible refine gate_callee (f := 23) rfl ?_); refine goesL_ (some 21) rfl rfl Try.func23 (by kernel_rfl) rfl #[.agg #[.slice A1_0 l1_0.length c1_0, .slice A1_1 l1_1.length c1_1]] rfl (by (try simp only [List.map_toArray, List.map_cons, List.map_nil]); first | done | rfl | (simp only [List.length_drop, List.length_take]; rfl)) ?_; (with_reducible refine (hCheck.calls _ _ l1_0 _ _ l1_1 t1001 _ ?side1 ?side2 ?side3 ?side4 A6.out).mono ?_); (case side1 => repeat (first | exact (Kd.C_below HR1_0.out HB.out) | (with_reducible refine Kd.C_alloc ?_ _) | (with_reducible refine Kd.C_drewN ?_ _) | (with_reducible refine Kd.C_drew ?_))); (case side2 => exact HC1_0.out); (case side3 => repeat (first | exact (Kd.C_below HR1_1.out HB.out) | (with_reducible refine Kd.C_alloc ?_ _) | (with_reducible refine Kd.C_drewN ?_ _) | (with_reducible refine Kd.C_drew ?_))); (case side4 => exact HC1_1.out); rintro e w13 ⟨rfl, hb⟩; refine ⟨_, rfl, ?_⟩; have n0_ := Aside0.mk (blk_below (g := gb1003) (o := .cells #[.int .i64 a0_0, .int .i64 a0_1, .int .i64 a0_2, .int .i64 a0_3, .int .i64 a0_4, .int .i64 a0_5] 44 (0, 0)) (by (with_reducible repeat (first | refine blk_drewN ?_ _ | refine blk_drew ?_ | refine blk_alloc ?_ _)); exact BK1003.out) hb); have n1_ := Aside0.mk (blk_below (g := gb1004) (o := .cells #[.slice A1_0 l1_0.length c1_0, .slice A1_1 l1_1.length c1_1] 25 (0, 0)) (by (with_reducible repeat (first | refine blk_drewN ?_ _ | refine blk_drew ?_ | refine blk_alloc ?_ _)); exact BK1004.out) hb); have n2_ := Aside0.mk (below_step (by repeat (first | (with_reducible first | exact HB.out | apply below_alloc | apply pbdN | apply bdr1 | refine below_set ?_ GE1003.out | refine below_set ?_ GE1004.out) | exact HB.out)) hb); clear BK1003; clear BK1004; clear HB; have BK1003 := n0_; have BK1004 := n1_; have HB := n2_; clear n0_ n1_ n2_; (try clear hb); (try clear hb2); (try clear hk); (try clear hi)))
      go_ret
      exact ⟨by first | rfl | (simp [errW_none, errW_some] <;> rfl) | (simp [*, errW_none, errW_some] <;> rfl), by repeat (first | (with_reducible first | exact HB.out | apply below_alloc | apply pbdN | apply bdr1 | refine below_set ?_ GE1003.out | refine below_set ?_ GE1004.out) | exact HB.out)⟩
    · rw [if_neg c5] at H
      have c5b0 : ((l1_0.length : Int) == t1000) = false := beq_eq_false_iff_ne.mpr c5
      have c5b1 : ((l1_0.length : Int) != t1000) = true := bne_iff_ne.mpr c5
      obtain rfl := Option.some.inj H
      go_enter Try.func76, Try.ntmps76
      go_wp2_with (first | ((with_reducible refine gate_dst (N := 2) rfl ?_); refine box_event ?hg (N := 2) ?hd (cs := #[.int .i64 a0_0, .int .i64 a0_1, .int .i64 a0_2, .int .i64 a0_3, .int .i64 a0_4, .int .i64 a0_5]) (t := 44) ?hr ?_; (case hd => rfl); (case hg => rfl); (case hr => first | (go_simp; done) | (go_simp; rfl)); intro gb1003 hg w14 hbox hb; have n0_ := Aside0.mk (below_step (by repeat (first | (with_reducible first | exact HB.out | apply below_alloc | apply pbdN | apply bdr1) | exact HB.out)) hb); have n1_ := Aside0.mk (hbox); have n2_ := Aside0.mk ((by rw [hg]; exact (below_size (by repeat (first | (with_reducible first | exact HB.out | apply below_alloc | apply pbdN | apply bdr1) | exact HB.out))) : w.heap.size ≤ gb1003)); have n3_ := Aside0.mk ((by rw [hg]; exact (below_size (by repeat (first | (with_reducible first | exact HB.out | apply below_alloc | apply pbdN | apply bdr1) | exact HB.out))) : w.heap.size ≤ gb1003)); clear HB; have HB := n0_; have BK1003 := n1_; have GW1003 := n2_; have GE1003 := n3_; clear n0_ n1_ n2_ n3_; clear hb hbox hg) | ((with_reducible refine gate_dst (N := 3) rfl ?_); refine box_event ?hg (N := 3) ?hd (cs := #[.slice A1_0 l1_0.length c1_0, .slice A1_1 l1_1.length c1_1]) (t := 25) ?hr ?_; (case hd => rfl); (case hg => rfl); (case hr => first | (go_simp; done) | (go_simp; rfl)); intro gb1004 hg w15 hbox hb; have n0_ := Aside0.mk (blk_below (g := gb1003) (o := .cells #[.int .i64 a0_0, .int .i64 a0_1, .int .i64 a0_2, .int .i64 a0_3, .int .i64 a0_4, .int .i64 a0_5] 44 (0, 0)) (by (with_reducible repeat (first | refine blk_drewN ?_ _ | refine blk_drew ?_ | refine blk_alloc ?_ _)); exact BK1003.out) hb); have n1_ := Aside0.mk (below_step (by repeat (first | (with_reducible first | exact HB.out | apply below_alloc | apply pbdN | apply bdr1 | refine below_set ?_ GE1003.out) | exact HB.out)) hb); have n2_ := Aside0.mk (hbox); have n3_ := Aside0.mk ((by rw [hg]; exact (below_size (by repeat (first | (with_reducible first | exact HB.out | apply below_alloc | apply pbdN | apply bdr1 | refine below_set ?_ GE1003.out) | exact HB.out))) : w.heap.size ≤ gb1004)); have n4_ := Aside0.mk ((by rw [hg]; exact (below_size (by repeat (first | (with_reducible first | exact HB.out | apply below_alloc | apply pbdN | apply bdr1 | refine below_set ?_ GE1003.out) | exact HB.out))) : w.heap.size ≤ gb1004)); have n5_ := Aside0.mk ((by rw [hg]; exact Nat.ne_of_lt (blk_lt (g := gb1003) (o := .cells #[.int .i64 a0_0, .int .i64 a0_1, .int .i64 a0_2, .int .i64 a0_3, .int .i64 a0_4, .int .i64 a0_5] 44 (0, 0)) (by (with_reducible repeat (first | refine blk_drewN ?_ _ | refine blk_drew ?_ | refine blk_alloc ?_ _)); exact BK1003.out)) : gb1003 ≠ gb1004)); have n6_ := Aside0.mk ((by rw [hg]; exact Nat.ne_of_gt (blk_lt (g := gb1003) (o := .cells #[.int .i64 a0_0, .int .i64 a0_1, .int .i64 a0_2, .int .i64 a0_3, .int .i64 a0_4, .int .i64 a0_5] 44 (0, 0)) (by (with_reducible repeat (first | refine blk_drewN ?_ _ | refine blk_drew ?_ | refine blk_alloc ?_ _)); exact BK1003.out)) : gb1004 ≠ gb1003)); clear BK1003; clear HB; have BK1003 := n0_; have HB := n1_; have BK1004 := n2_; have GW1004 := n3_; have GE1004 := n4_; have NB1003_265 := n5_; have NB1004_264 := n6_; clear n0_ n1_ n2_ n3_ n4_ n5_ n6_; clear hb hbox hg; have hnb16 := NB1003_265.out; have hnc16 := NB1004_264.out; have hcz17_0 : w15.cell? ⟨gb1003, 0, none⟩ = some (.int .i64 a0_0) := (blk_cell BK1003.out 0).trans rfl; have hcz17_1 : w15.cell? ⟨gb1003, 1, none⟩ = some (.int .i64 a0_1) := (blk_cell BK1003.out 1).trans rfl; have hcz17_2 : w15.cell? ⟨gb1003, 2, none⟩ = some (.int .i64 a0_2) := (blk_cell BK1003.out 2).trans rfl; have hcz17_3 : w15.cell? ⟨gb1003, 3, none⟩ = some (.int .i64 a0_3) := (blk_cell BK1003.out 3).trans rfl; have hcz17_4 : w15.cell? ⟨gb1003, 4, none⟩ = some (.int .i64 a0_4) := (blk_cell BK1003.out 4).trans rfl; have hcz17_5 : w15.cell? ⟨gb1003, 5, none⟩ = some (.int .i64 a0_5) := (blk_cell BK1003.out 5).trans rfl; have hfz17_0 := blk_frozen BK1003.out 0; have hfz17_1 := blk_frozen BK1003.out 1; have hfz17_2 := blk_frozen BK1003.out 2; have hfz17_3 := blk_frozen BK1003.out 3; have hfz17_4 := blk_frozen BK1003.out 4; have hfz17_5 := blk_frozen BK1003.out 5) | ((with_reducible refine gate_callee (f := 86) rfl ?_); refine goesL_ (some 9) rfl rfl Try.func86 (by kernel_rfl) rfl #[.agg #[.int .i64 a0_0, .int .i64 a0_1, .int .i64 a0_2, .int .i64 a0_3, .int .i64 a0_4, .int .i64 a0_5]] rfl (by (try simp only [List.map_toArray, List.map_cons, List.map_nil]); first | done | rfl | (simp only [List.length_drop, List.length_take]; rfl)) ?_; (with_reducible refine (hSectors.calls a0_0 a0_1 a0_2 a0_3 a0_4 a0_5 t1000 t1002 _ A3.out).mono ?_); rintro e w18 ⟨rfl, hb⟩; refine ⟨_, rfl, ?_⟩; have n0_ := Aside0.mk (blk_below (g := gb1003) (o := .cells #[.int .i64 a0_0, .int .i64 a0_1, .int .i64 a0_2, .int .i64 a0_3, .int .i64 a0_4, .int .i64 a0_5] 44 (0, 0)) (by (with_reducible repeat (first | refine blk_drewN ?_ _ | refine blk_drew ?_ | refine blk_alloc ?_ _)); exact BK1003.out) hb); have n1_ := Aside0.mk (blk_below (g := gb1004) (o := .cells #[.slice A1_0 l1_0.length c1_0, .slice A1_1 l1_1.length c1_1] 25 (0, 0)) (by (with_reducible repeat (first | refine blk_drewN ?_ _ | refine blk_drew ?_ | refine blk_alloc ?_ _)); exact BK1004.out) hb); have n2_ := Aside0.mk (below_step (by repeat (first | (with_reducible first | exact HB.out | apply below_alloc | apply pbdN | apply bdr1 | refine below_set ?_ GE1003.out | refine below_set ?_ GE1004.out) | exact HB.out)) hb); clear BK1003; clear BK1004; clear HB; have BK1003 := n0_; have BK1004 := n1_; have HB := n2_; clear n0_ n1_ n2_; (try clear hb); (try clear hb2); (try clear hk); (try clear hi); have hcz19_0 : w18.cell? ⟨gb1004, 0, none⟩ = some (.slice A1_0 l1_0.length c1_0) := (blk_cell BK1004.out 0).trans rfl; have hcz19_1 : w18.cell? ⟨gb1004, 1, none⟩ = some (.slice A1_1 l1_1.length c1_1) := (blk_cell BK1004.out 1).trans rfl; have hfz19_0 := blk_frozen BK1004.out 0; have hfz19_1 := blk_frozen BK1004.out 1))
      go_ret
      exact ⟨by first | rfl | (simp [errW_none, errW_some] <;> rfl) | (simp [*, errW_none, errW_some] <;> rfl), by repeat (first | (with_reducible first | exact HB.out | apply below_alloc | apply pbdN | apply bdr1 | refine below_set ?_ GE1003.out | refine below_set ?_ GE1004.out) | exact HB.out)⟩
  · rw [if_neg c4] at H
    have c4b0 : (t1002 == 0) = false := beq_eq_false_iff_ne.mpr c4
    have c4b1 : (t1002 != 0) = true := bne_iff_ne.mpr c4
    obtain rfl := Option.some.inj H
    go_enter Try.func76, Try.ntmps76
    go_wp2_with (first | ((with_reducible refine gate_dst (N := 2) rfl ?_); refine box_event ?hg (N := 2) ?hd (cs := #[.int .i64 a0_0, .int .i64 a0_1, .int .i64 a0_2, .int .i64 a0_3, .int .i64 a0_4, .int .i64 a0_5]) (t := 44) ?hr ?_; (case hd => rfl); (case hg => rfl); (case hr => first | (go_simp; done) | (go_simp; rfl)); intro gb1003 hg w20 hbox hb; have n0_ := Aside0.mk (below_step (by repeat (first | (with_reducible first | exact HB.out | apply below_alloc | apply pbdN | apply bdr1) | exact HB.out)) hb); have n1_ := Aside0.mk (hbox); have n2_ := Aside0.mk ((by rw [hg]; exact (below_size (by repeat (first | (with_reducible first | exact HB.out | apply below_alloc | apply pbdN | apply bdr1) | exact HB.out))) : w.heap.size ≤ gb1003)); have n3_ := Aside0.mk ((by rw [hg]; exact (below_size (by repeat (first | (with_reducible first | exact HB.out | apply below_alloc | apply pbdN | apply bdr1) | exact HB.out))) : w.heap.size ≤ gb1003)); clear HB; have HB := n0_; have BK1003 := n1_; have GW1003 := n2_; have GE1003 := n3_; clear n0_ n1_ n2_ n3_; clear hb hbox hg) | ((with_reducible refine gate_dst (N := 3) rfl ?_); refine box_event ?hg (N := 3) ?hd (cs := #[.slice A1_0 l1_0.length c1_0, .slice A1_1 l1_1.length c1_1]) (t := 25) ?hr ?_; (case hd => rfl); (case hg => rfl); (case hr => first | (go_simp; done) | (go_simp; rfl)); intro gb1004 hg w21 hbox hb; have n0_ := Aside0.mk (blk_below (g := gb1003) (o := .cells #[.int .i64 a0_0, .int .i64 a0_1, .int .i64 a0_2, .int .i64 a0_3, .int .i64 a0_4, .int .i64 a0_5] 44 (0, 0)) (by (with_reducible repeat (first | refine blk_drewN ?_ _ | refine blk_drew ?_ | refine blk_alloc ?_ _)); exact BK1003.out) hb); have n1_ := Aside0.mk (below_step (by repeat (first | (with_reducible first | exact HB.out | apply below_alloc | apply pbdN | apply bdr1 | refine below_set ?_ GE1003.out) | exact HB.out)) hb); have n2_ := Aside0.mk (hbox); have n3_ := Aside0.mk ((by rw [hg]; exact (below_size (by repeat (first | (with_reducible first | exact HB.out | apply below_alloc | apply pbdN | apply bdr1 | refine below_set ?_ GE1003.out) | exact HB.out))) : w.heap.size ≤ gb1004)); have n4_ := Aside0.mk ((by rw [hg]; exact (below_size (by repeat (first | (with_reducible first | exact HB.out | apply below_alloc | apply pbdN | apply bdr1 | refine below_set ?_ GE1003.out) | exact HB.out))) : w.heap.size ≤ gb1004)); have n5_ := Aside0.mk ((by rw [hg]; exact Nat.ne_of_lt (blk_lt (g := gb1003) (o := .cells #[.int .i64 a0_0, .int .i64 a0_1, .int .i64 a0_2, .int .i64 a0_3, .int .i64 a0_4, .int .i64 a0_5] 44 (0, 0)) (by (with_reducible repeat (first | refine blk_drewN ?_ _ | refine blk_drew ?_ | refine blk_alloc ?_ _)); exact BK1003.out)) : gb1003 ≠ gb1004)); have n6_ := Aside0.mk ((by rw [hg]; exact Nat.ne_of_gt (blk_lt (g := gb1003) (o := .cells #[.int .i64 a0_0, .int .i64 a0_1, .int .i64 a0_2, .int .i64 a0_3, .int .i64 a0_4, .int .i64 a0_5] 44 (0, 0)) (by (with_reducible repeat (first | refine blk_drewN ?_ _ | refine blk_drew ?_ | refine blk_alloc ?_ _)); exact BK1003.out)) : gb1004 ≠ gb1003)); clear BK1003; clear HB; have BK1003 := n0_; have HB := n1_; have BK1004 := n2_; have GW1004 := n3_; have GE1004 := n4_; have NB1003_265 := n5_; have NB1004_264 := n6_; clear n0_ n1_ n2_ n3_ n4_ n5_ n6_; clear hb hbox hg; have hnb22 := NB1003_265.out; have hnc22 := NB1004_264.out; have hcz23_0 : w21.cell? ⟨gb1003, 0, none⟩ = some (.int .i64 a0_0) := (blk_cell BK1003.out 0).trans rfl; have hcz23_1 : w21.cell? ⟨gb1003, 1, none⟩ = some (.int .i64 a0_1) := (blk_cell BK1003.out 1).trans rfl; have hcz23_2 : w21.cell? ⟨gb1003, 2, none⟩ = some (.int .i64 a0_2) := (blk_cell BK1003.out 2).trans rfl; have hcz23_3 : w21.cell? ⟨gb1003, 3, none⟩ = some (.int .i64 a0_3) := (blk_cell BK1003.out 3).trans rfl; have hcz23_4 : w21.cell? ⟨gb1003, 4, none⟩ = some (.int .i64 a0_4) := (blk_cell BK1003.out 4).trans rfl; have hcz23_5 : w21.cell? ⟨gb1003, 5, none⟩ = some (.int .i64 a0_5) := (blk_cell BK1003.out 5).trans rfl; have hfz23_0 := blk_frozen BK1003.out 0; have hfz23_1 := blk_frozen BK1003.out 1; have hfz23_2 := blk_frozen BK1003.out 2; have hfz23_3 := blk_frozen BK1003.out 3; have hfz23_4 := blk_frozen BK1003.out 4; have hfz23_5 := blk_frozen BK1003.out 5) | ((with_reducible refine gate_callee (f := 86) rfl ?_); refine goesL_ (some 9) rfl rfl Try.func86 (by kernel_rfl) rfl #[.agg #[.int .i64 a0_0, .int .i64 a0_1, .int .i64 a0_2, .int .i64 a0_3, .int .i64 a0_4, .int .i64 a0_5]] rfl (by (try simp only [List.map_toArray, List.map_cons, List.map_nil]); first | done | rfl | (simp only [List.length_drop, List.length_take]; rfl)) ?_; (with_reducible refine (hSectors.calls a0_0 a0_1 a0_2 a0_3 a0_4 a0_5 t1000 t1002 _ A3.out).mono ?_); rintro e w24 ⟨rfl, hb⟩; refine ⟨_, rfl, ?_⟩; have n0_ := Aside0.mk (blk_below (g := gb1003) (o := .cells #[.int .i64 a0_0, .int .i64 a0_1, .int .i64 a0_2, .int .i64 a0_3, .int .i64 a0_4, .int .i64 a0_5] 44 (0, 0)) (by (with_reducible repeat (first | refine blk_drewN ?_ _ | refine blk_drew ?_ | refine blk_alloc ?_ _)); exact BK1003.out) hb); have n1_ := Aside0.mk (blk_below (g := gb1004) (o := .cells #[.slice A1_0 l1_0.length c1_0, .slice A1_1 l1_1.length c1_1] 25 (0, 0)) (by (with_reducible repeat (first | refine blk_drewN ?_ _ | refine blk_drew ?_ | refine blk_alloc ?_ _)); exact BK1004.out) hb); have n2_ := Aside0.mk (below_step (by repeat (first | (with_reducible first | exact HB.out | apply below_alloc | apply pbdN | apply bdr1 | refine below_set ?_ GE1003.out | refine below_set ?_ GE1004.out) | exact HB.out)) hb); clear BK1003; clear BK1004; clear HB; have BK1003 := n0_; have BK1004 := n1_; have HB := n2_; clear n0_ n1_ n2_; (try clear hb); (try clear hb2); (try clear hk); (try clear hi)))
    go_ret
    exact ⟨by first | rfl | (simp [errW_none, errW_some] <;> rfl) | (simp [*, errW_none, errW_some] <;> rfl), by repeat (first | (with_reducible first | exact HB.out | apply below_alloc | apply pbdN | apply bdr1 | refine below_set ?_ GE1003.out | refine below_set ?_ GE1004.out) | exact HB.out)⟩
end Go.Proofs.Ytdkjhcdniepbhaa.P
end
section
set_option linter.unusedVariables false
set_option linter.unusedSimpArgs false
namespace Go.Proofs.Ytdkjhcdniepbhaa.P
open Go.RowKit Go.Proofs.PrintWords Go.Proofs.PrintLast Go.Proofs.PrintMore
attribute [local go_sem] max2_int min2_int max_two min_two max_three min_three max_four min_four
def place_Page.f (a0_0 : Int) (a0_1 : Int) (a0_2 : Int) (a0_3 : Int) (a0_4 : Int) (a0_5 : Int) (a1 : Int) (a2 : Int) : Option (Int × Int) := (hFind.f a0_0 a0_1 a0_2 a0_3 a0_4 a0_5 3 a1 a2).bind fun bt1000 => (some (bt1000.1, bt1000.2))
set_option maxHeartbeats 8000000 in
set_option maxRecDepth 100000 in
theorem place_Page.calls (a0_0 : Int) (a0_1 : Int) (a0_2 : Int) (a0_3 : Int) (a0_4 : Int) (a0_5 : Int) (a1 : Int) (a2 : Int) (r1 : Int) (r2 : Int) (w : World) (h : place_Page.f a0_0 a0_1 a0_2 a0_3 a0_4 a0_5 a1 a2 = some (r1, r2)) :
    Calls Try.prog 133 #[.agg #[.int .i64 a0_0, .int .i64 a0_1, .int .i64 a0_2, .int .i64 a0_3, .int .i64 a0_4, .int .i64 a0_5], .int .i64 a1, .int .i64 a2] w fun e w' => e = .returned (.tuple #[.int .i64 r1, .int .i64 r2]) ∧ Below w.heap.size w w' := by
  have hu44 := Try.underlying44
  have HB := Aside0.mk (Below.refl w.heap.size w)
  have H : ((hFind.f a0_0 a0_1 a0_2 a0_3 a0_4 a0_5 3 a1 a2).bind fun bt1000 => (some (bt1000.1, bt1000.2))) = some (r1, r2) := h
  clear h
  replace H := Option.bind_eq_some_iff.mp H
  obtain ⟨⟨t1000, t1001⟩, A40, H⟩ := H
  replace H : (some (t1000, t1001)) = some (r1, r2) := H
  have A4 := Aside0.mk A40
  clear A40
  simp only [Option.some.injEq, Prod.mk.injEq] at H
  obtain ⟨rfl, rfl⟩ := H
  go_enter Try.func133, Try.ntmps133
  go_wp2_with (first | ((with_reducible refine gate_dst (N := 3) rfl ?_); refine box_event ?hg (N := 3) ?hd (cs := #[.int .i64 a0_0, .int .i64 a0_1, .int .i64 a0_2, .int .i64 a0_3, .int .i64 a0_4, .int .i64 a0_5]) (t := 44) ?hr ?_; (case hd => rfl); (case hg => rfl); (case hr => first | (go_simp; done) | (go_simp; rfl)); intro gb1002 hg w5 hbox hb; have n0_ := Aside0.mk (below_step (by repeat (first | (with_reducible first | exact HB.out | apply below_alloc | apply pbdN | apply bdr1) | exact HB.out)) hb); have n1_ := Aside0.mk (hbox); have n2_ := Aside0.mk ((by rw [hg]; exact (below_size (by repeat (first | (with_reducible first | exact HB.out | apply below_alloc | apply pbdN | apply bdr1) | exact HB.out))) : w.heap.size ≤ gb1002)); have n3_ := Aside0.mk ((by rw [hg]; exact (below_size (by repeat (first | (with_reducible first | exact HB.out | apply below_alloc | apply pbdN | apply bdr1) | exact HB.out))) : w.heap.size ≤ gb1002)); clear HB; have HB := n0_; have BK1002 := n1_; have GW1002 := n2_; have GE1002 := n3_; clear n0_ n1_ n2_ n3_; clear hb hbox hg; have hcz6_0 : w5.cell? ⟨gb1002, 0, none⟩ = some (.int .i64 a0_0) := (blk_cell BK1002.out 0).trans rfl; have hcz6_1 : w5.cell? ⟨gb1002, 1, none⟩ = some (.int .i64 a0_1) := (blk_cell BK1002.out 1).trans rfl; have hcz6_2 : w5.cell? ⟨gb1002, 2, none⟩ = some (.int .i64 a0_2) := (blk_cell BK1002.out 2).trans rfl; have hcz6_3 : w5.cell? ⟨gb1002, 3, none⟩ = some (.int .i64 a0_3) := (blk_cell BK1002.out 3).trans rfl; have hcz6_4 : w5.cell? ⟨gb1002, 4, none⟩ = some (.int .i64 a0_4) := (blk_cell BK1002.out 4).trans rfl; have hcz6_5 : w5.cell? ⟨gb1002, 5, none⟩ = some (.int .i64 a0_5) := (blk_cell BK1002.out 5).trans rfl; have hfz6_0 := blk_frozen BK1002.out 0; have hfz6_1 := blk_frozen BK1002.out 1; have hfz6_2 := blk_frozen BK1002.out 2; have hfz6_3 := blk_frozen BK1002.out 3; have hfz6_4 := blk_frozen BK1002.out 4; have hfz6_5 := blk_frozen BK1002.out 5) | ((with_reducible refine gate_callee (f := 96) rfl ?_); refine goesL_ (some 11) rfl rfl Try.func96 (by kernel_rfl) rfl #[.agg #[.int .i64 a0_0, .int .i64 a0_1, .int .i64 a0_2, .int .i64 a0_3, .int .i64 a0_4, .int .i64 a0_5], .int .u8 3, .int .i64 a1, .int .i64 a2] rfl (by (try simp only [List.map_toArray, List.map_cons, List.map_nil]); first | done | rfl | (simp only [List.length_drop, List.length_take]; rfl)) ?_; (with_reducible refine (hFind.calls a0_0 a0_1 a0_2 a0_3 a0_4 a0_5 3 a1 a2 t1000 t1001 _ A4.out).mono ?_); rintro e w7 ⟨rfl, hb⟩; refine ⟨_, rfl, ?_⟩; have n0_ := Aside0.mk (blk_below (g := gb1002) (o := .cells #[.int .i64 a0_0, .int .i64 a0_1, .int .i64 a0_2, .int .i64 a0_3, .int .i64 a0_4, .int .i64 a0_5] 44 (0, 0)) (by (with_reducible repeat (first | refine blk_drewN ?_ _ | refine blk_drew ?_ | refine blk_alloc ?_ _)); exact BK1002.out) hb); have n1_ := Aside0.mk (below_step (by repeat (first | (with_reducible first | exact HB.out | apply below_alloc | apply pbdN | apply bdr1 | refine below_set ?_ GE1002.out) | exact HB.out)) hb); clear BK1002; clear HB; have BK1002 := n0_; have HB := n1_; clear n0_ n1_; (try clear hb); (try clear hb2); (try clear hk); (try clear hi)))
  go_ret2
  exact ⟨by first | rfl | (simp [errW_none, errW_some] <;> rfl) | (simp [*, errW_none, errW_some] <;> rfl), by repeat (first | (with_reducible first | exact HB.out | apply below_alloc | apply pbdN | apply bdr1 | refine below_set ?_ GE1002.out) | exact HB.out)⟩
end Go.Proofs.Ytdkjhcdniepbhaa.P
end
section
set_option linter.unusedVariables false
set_option linter.unusedSimpArgs false
namespace Go.Proofs.Ytdkjhcdniepbhaa.P
open Go.RowKit Go.Proofs.PrintWords Go.Proofs.PrintLast Go.Proofs.PrintMore
attribute [local go_sem] max2_int min2_int max_two min_two max_three min_three max_four min_four
def page_text.f (a0 : Int) (a1 : Int) (a2 : Int) : Option (List Int) := if 32 ≤ 281474976710656 then ((some (List.replicate 32 0 : List Int)).bind fun y1000 => (if 0 < (y1000.length : Int) then (if 1 < (y1000.length : Int) then (if 2 < (y1000.length : Int) then (if 3 < (y1000.length : Int) then (some ((((y1000.set (0 : Int).toNat 1).set (1 : Int).toNat ((a0) % 256)).set (2 : Int).toNat ((a1) % 256)).set (3 : Int).toNat a2)) else (none)) else (none)) else (none)) else (none))) else (none)
set_option maxHeartbeats 8000000 in
set_option maxRecDepth 100000 in
theorem page_text.calls (a0 : Int) (a1 : Int) (a2 : Int) (r : List Int) (w : World) (h : page_text.f a0 a1 a2 = some r) :
    Calls Try.prog 113 #[.int .i64 a0, .int .i64 a1, .int .u8 a2] w fun e w' => ∃ v0_ : Value, e = .returned (v0_) ∧ Kd.R (Kd.int .u8) 5 w' w.heap.size (fun _ => True) v0_ r ∧ Below w.heap.size w w' := by
  have HB := Aside0.mk (Below.refl w.heap.size w)
  have H : (if 32 ≤ 281474976710656 then ((some (List.replicate 32 0 : List Int)).bind fun y1000 => (if 0 < (y1000.length : Int) then (if 1 < (y1000.length : Int) then (if 2 < (y1000.length : Int) then (if 3 < (y1000.length : Int) then (some ((((y1000.set (0 : Int).toNat 1).set (1 : Int).toNat ((a0) % 256)).set (2 : Int).toNat ((a1) % 256)).set (3 : Int).toNat a2)) else (none)) else (none)) else (none)) else (none))) else (none)) = some r := h
  clear h
  by_cases c4 : 32 ≤ 281474976710656
  · rw [if_pos c4] at H
    have c4b0 := eq_true c4
    have c4b1 : decide (32 ≤ 281474976710656) = true := decide_eq_true c4
    clear c4
    obtain ⟨y1000, hy1000⟩ : ∃ y_ : List Int, y_ = (List.replicate 32 0) := ⟨_, rfl⟩
    replace H : (if 0 < (y1000.length : Int) then (if 1 < (y1000.length : Int) then (if 2 < (y1000.length : Int) then (if 3 < (y1000.length : Int) then (some ((((y1000.set (0 : Int).toNat 1).set (1 : Int).toNat ((a0) % 256)).set (2 : Int).toNat ((a1) % 256)).set (3 : Int).toNat a2)) else (none)) else (none)) else (none)) else (none)) = some r := by first | (rw [hy1000]; with_reducible exact H) | (have H2_ := (Option.bind_some _ _).symm.trans H; rw [hy1000]; with_reducible exact H2_) | (have H2_ := (Option.bind_some _ _).symm.trans H; with_reducible exact H2_) | with_reducible exact H | (rw [hy1000]; exact H) | exact H
    have Ny1000 := Aside0.mk hy1000
    clear hy1000
    by_cases c5 : 0 < (y1000.length : Int)
    · rw [if_pos c5] at H
      have c5b0 : decide (0 < (y1000.length : Int)) = true := decide_eq_true c5
      have c5b1 : decide (0 < y1000.length) = true := decide_eq_true (by omega)
      clear c5
      obtain ⟨y1001, hy1001⟩ : ∃ y_ : List Int, y_ = (y1000.set (0 : Int).toNat 1) := ⟨_, rfl⟩
      replace H : (if 1 < (y1000.length : Int) then (if 2 < (y1000.length : Int) then (if 3 < (y1000.length : Int) then (some (((y1001.set (1 : Int).toNat ((a0) % 256)).set (2 : Int).toNat ((a1) % 256)).set (3 : Int).toNat a2)) else (none)) else (none)) else (none)) = some r := by first | (rw [hy1001]; with_reducible exact H) | (have H2_ := (Option.bind_some _ _).symm.trans H; rw [hy1001]; with_reducible exact H2_) | (have H2_ := (Option.bind_some _ _).symm.trans H; with_reducible exact H2_) | with_reducible exact H | (rw [hy1001]; exact H) | exact H
      have Ny1001 := Aside0.mk hy1001
      clear hy1001
      by_cases c7 : 1 < (y1000.length : Int)
      · rw [if_pos c7] at H
        have c7b0 : decide (1 < (y1000.length : Int)) = true := decide_eq_true c7
        have c7b1 : decide (1 < y1000.length) = true := decide_eq_true (by omega)
        clear c7
        obtain ⟨y1002, hy1002⟩ : ∃ y_ : List Int, y_ = (y1001.set (1 : Int).toNat ((a0) % 256)) := ⟨_, rfl⟩
        replace H : (if 2 < (y1000.length : Int) then (if 3 < (y1000.length : Int) then (some ((y1002.set (2 : Int).toNat ((a1) % 256)).set (3 : Int).toNat a2)) else (none)) else (none)) = some r := by first | (rw [hy1002]; with_reducible exact H) | (have H2_ := (Option.bind_some _ _).symm.trans H; rw [hy1002]; with_reducible exact H2_) | (have H2_ := (Option.bind_some _ _).symm.trans H; with_reducible exact H2_) | with_reducible exact H | (rw [hy1002]; exact H) | exact H
        have Ny1002 := Aside0.mk hy1002
        clear hy1002
        by_cases c9 : 2 < (y1000.length : Int)
        · rw [if_pos c9] at H
          have c9b0 : decide (2 < (y1000.length : Int)) = true := decide_eq_true c9
          have c9b1 : decide (2 < y1000.length) = true := decide_eq_true (by omega)
          clear c9
          obtain ⟨y1003, hy1003⟩ : ∃ y_ : List Int, y_ = (y1002.set (2 : Int).toNat ((a1) % 256)) := ⟨_, rfl⟩
          replace H : (if 3 < (y1000.length : Int) then (some (y1003.set (3 : Int).toNat a2)) else (none)) = some r := by first | (rw [hy1003]; with_reducible exact H) | (have H2_ := (Option.bind_some _ _).symm.trans H; rw [hy1003]; with_reducible exact H2_) | (have H2_ := (Option.bind_some _ _).symm.trans H; with_reducible exact H2_) | with_reducible exact H | (rw [hy1003]; exact H) | exact H
          have Ny1003 := Aside0.mk hy1003
          clear hy1003
          by_cases c11 : 3 < (y1000.length : Int)
          · rw [if_pos c11] at H
            have c11b0 : decide (3 < (y1000.length : Int)) = true := decide_eq_true c11
            have c11b1 : decide (3 < y1000.length) = true := decide_eq_true (by omega)
            clear c11
            obtain ⟨y1004, hy1004⟩ : ∃ y_ : List Int, y_ = (y1003.set (3 : Int).toNat a2) := ⟨_, rfl⟩
            replace H : (some y1004) = some r := by first | (rw [hy1004]; with_reducible exact H) | (have H2_ := (Option.bind_some _ _).symm.trans H; rw [hy1004]; with_reducible exact H2_) | (have H2_ := (Option.bind_some _ _).symm.trans H; with_reducible exact H2_) | with_reducible exact H | (rw [hy1004]; exact H) | exact H
            have Ny1004 := Aside0.mk hy1004
            clear hy1004
            obtain rfl := Option.some.inj H
            go_enter Try.func113, Try.ntmps113
            go_wp2_with (first | ((with_reducible refine gate_dst (N := 8) rfl ?_); refine Kd.R_make (Kd.int .u8) _ 5 rfl (N := 8) rfl 31 _ _ rfl 32 rfl rfl Try.underlying31 (.int .u8 0) 1 info5 rfl (by decide) (by omega) 0 (ok := fun _ => True) (okp := fun _ => True) rfl (fun _ hk => hk) trivial (by omega) (by omega) (Below.refl _ _) (Nat.le_refl _) ?_; intro v1005 w13 ho14 hb hg_ hnew_; clear hg_ hnew_; (first | rw [← Ny1000.out] at ho14 | (simp only [Int.reduceToNat] at ho14; rw [← Ny1000.out] at ho14)); have n0_ := Aside0.mk (Kd.R_lower ho14 (below_size (by repeat (first | (with_reducible first | exact HB.out | apply below_alloc | apply pbdN | apply bdr1) | exact HB.out)))); have n1_ := Aside0.mk (below_step (by repeat (first | (with_reducible first | exact HB.out | apply below_alloc | apply pbdN | apply bdr1) | exact HB.out)) hb); clear HB; have HO1006 := n0_; have HB := n1_; clear n0_ n1_; clear hb ho14; have p6 : 0 ≤ (0 : Int) := (by omega); have q6 : (0 : Int) < ((y1000.length : Int) : Int) := of_decide_eq_true (by first | (with_reducible assumption) | assumption); have qi6 : (0 < y1000.length) = True := eq_true (by omega); obtain ⟨go6, co6, eo6, gb6, gl6, cl6, HG6⟩ := Kd.R_form HO1006.out (by omega); (first | cases eo6 | (injection eo6 with ea_ en_ ec_; (first | subst ea_ | (injection ea_ with ea_; subst ea_)); subst ec_; clear en_)); have GB6 := Aside0.mk gb6; have GG6 := Aside0.mk HG6; clear gb6 gl6 HG6; obtain ⟨hx6_0, hf6_0⟩ := Kd.R_celln 0 HO1006.out (0 : Int) p6 q6; (try rw [show ((0 : Int)).toNat = 0 from rfl] at hx6_0); (try simp only [Nat.reduceMul, Nat.zero_mul, Nat.zero_add, Nat.reduceAdd] at hx6_0); (try rw [show ((0 : Int)).toNat = 0 from rfl] at hf6_0); (try simp only [Nat.reduceMul, Nat.zero_mul, Nat.zero_add, Nat.reduceAdd] at hf6_0); replace p6 := eq_true p6; replace q6 := eq_true q6; obtain ⟨hy15_, hz15_⟩ := Kd.R_celln 0 HO1006.out (0 : Int) (by omega) (of_decide_eq_true (by first | (with_reducible assumption) | assumption)); (try simp only [Int.reduceToNat, Int.toNat_zero, Int.toNat_ofNat, Nat.reduceMul, Nat.zero_mul, Nat.zero_add] at hy15_ hz15_); (try rw [show ((0 : Int)).toNat = 0 from rfl] at hy15_); (try rw [show ((0 : Int)).toNat = 0 from rfl] at hz15_); have HP15 := Kd.R_putg HO1006.out (0 : Int) 1) | ((with_reducible refine gate_store (t := 5) (p := 18) rfl ?_); refine store_event (t := 5) (p := 18) (v := ?vo_w16) (w1 := (w13.setCell ⟨go6, (0 : Int).toNat, none⟩ (.int .u8 1))) ?hg ?ho ?hn ?hr ?_; (case ho => rfl); (case hg => rfl); (case hn => rfl); (case hr => first | (go_simp; done) | (go_simp; rfl)); intro w16 hw; have hg : w13.grownBy w16 (some go6) := (by rw [hw]; exact HP15.2); have hp_ : Kd.R (Kd.int .u8) 5 w16 w.heap.size (fun _ => True) (.slice (some ⟨go6, 0, none⟩) y1000.length co6) y1001 := (by rw [hw, Ny1001.out]; exact HP15.1); clear HP15; have n0_ := Aside0.mk (hp_); have n1_ := Aside0.mk ((by rw [hw]; exact below_set (HB.out) GB6.out : Below w.heap.size w w16)); clear HO1006; clear HB; have HO1006 := n0_; have HB := n1_; clear n0_ n1_; clear hg hw hp_; have p8 : 0 ≤ (1 : Int) := (by omega); have q8 : (1 : Int) < ((y1000.length : Int) : Int) := of_decide_eq_true (by first | (with_reducible assumption) | assumption); have qi8 : (1 < y1000.length) = True := eq_true (by omega); obtain ⟨hx8_0, hf8_0⟩ := Kd.R_celln 0 HO1006.out (1 : Int) p8 q8; (try rw [show ((1 : Int)).toNat = 1 from rfl] at hx8_0); (try simp only [Nat.reduceMul, Nat.zero_mul, Nat.zero_add, Nat.reduceAdd] at hx8_0); (try rw [show ((1 : Int)).toNat = 1 from rfl] at hf8_0); (try simp only [Nat.reduceMul, Nat.zero_mul, Nat.zero_add, Nat.reduceAdd] at hf8_0); replace p8 := eq_true p8; replace q8 := eq_true q8; obtain ⟨hy17_, hz17_⟩ := Kd.R_celln 0 HO1006.out (1 : Int) (by omega) (of_decide_eq_true (by first | (with_reducible assumption) | assumption)); (try simp only [Int.reduceToNat, Int.toNat_zero, Int.toNat_ofNat, Nat.reduceMul, Nat.zero_mul, Nat.zero_add] at hy17_ hz17_); (try rw [show ((1 : Int)).toNat = 1 from rfl] at hy17_); (try rw [show ((1 : Int)).toNat = 1 from rfl] at hz17_); have HP17 := Kd.R_putg HO1006.out (1 : Int) ((a0) % 256)) | ((with_reducible refine gate_store (t := 5) (p := 19) rfl ?_); refine store_event (t := 5) (p := 19) (v := ?vo_w18) (w1 := (w16.setCell ⟨go6, (1 : Int).toNat, none⟩ (.int .u8 ((a0) % 256)))) ?hg ?ho ?hn ?hr ?_; (case ho => rfl); (case hg => rfl); (case hn => rfl); (case hr => first | (go_simp; done) | (go_simp; rfl)); intro w18 hw; have hg : w16.grownBy w18 (some go6) := (by rw [hw]; exact HP17.2); have hp_ : Kd.R (Kd.int .u8) 5 w18 w.heap.size (fun _ => True) (.slice (some ⟨go6, 0, none⟩) y1000.length co6) y1002 := (by rw [hw, Ny1002.out]; exact HP17.1); clear HP17; have n0_ := Aside0.mk (hp_); have n1_ := Aside0.mk ((by rw [hw]; exact below_set (HB.out) GB6.out : Below w.heap.size w w18)); clear HO1006; clear HB; have HO1006 := n0_; have HB := n1_; clear n0_ n1_; clear hg hw hp_; have p10 : 0 ≤ (2 : Int) := (by omega); have q10 : (2 : Int) < ((y1000.length : Int) : Int) := of_decide_eq_true (by first | (with_reducible assumption) | assumption); have qi10 : (2 < y1000.length) = True := eq_true (by omega); obtain ⟨hx10_0, hf10_0⟩ := Kd.R_celln 0 HO1006.out (2 : Int) p10 q10; (try rw [show ((2 : Int)).toNat = 2 from rfl] at hx10_0); (try simp only [Nat.reduceMul, Nat.zero_mul, Nat.zero_add, Nat.reduceAdd] at hx10_0); (try rw [show ((2 : Int)).toNat = 2 from rfl] at hf10_0); (try simp only [Nat.reduceMul, Nat.zero_mul, Nat.zero_add, Nat.reduceAdd] at hf10_0); replace p10 := eq_true p10; replace q10 := eq_true q10; obtain ⟨hy19_, hz19_⟩ := Kd.R_celln 0 HO1006.out (2 : Int) (by omega) (of_decide_eq_true (by first | (with_reducible assumption) | assumption)); (try simp only [Int.reduceToNat, Int.toNat_zero, Int.toNat_ofNat, Nat.reduceMul, Nat.zero_mul, Nat.zero_add] at hy19_ hz19_); (try rw [show ((2 : Int)).toNat = 2 from rfl] at hy19_); (try rw [show ((2 : Int)).toNat = 2 from rfl] at hz19_); have HP19 := Kd.R_putg HO1006.out (2 : Int) ((a1) % 256)) | ((with_reducible refine gate_store (t := 5) (p := 20) rfl ?_); refine store_event (t := 5) (p := 20) (v := ?vo_w20) (w1 := (w18.setCell ⟨go6, (2 : Int).toNat, none⟩ (.int .u8 ((a1) % 256)))) ?hg ?ho ?hn ?hr ?_; (case ho => rfl); (case hg => rfl); (case hn => rfl); (case hr => first | (go_simp; done) | (go_simp; rfl)); intro w20 hw; have hg : w18.grownBy w20 (some go6) := (by rw [hw]; exact HP19.2); have hp_ : Kd.R (Kd.int .u8) 5 w20 w.heap.size (fun _ => True) (.slice (some ⟨go6, 0, none⟩) y1000.length co6) y1003 := (by rw [hw, Ny1003.out]; exact HP19.1); clear HP19; have n0_ := Aside0.mk (hp_); have n1_ := Aside0.mk ((by rw [hw]; exact below_set (HB.out) GB6.out : Below w.heap.size w w20)); clear HO1006; clear HB; have HO1006 := n0_; have HB := n1_; clear n0_ n1_; clear hg hw hp_; have p12 : 0 ≤ (3 : Int) := (by omega); have q12 : (3 : Int) < ((y1000.length : Int) : Int) := of_decide_eq_true (by first | (with_reducible assumption) | assumption); have qi12 : (3 < y1000.length) = True := eq_true (by omega); obtain ⟨hx12_0, hf12_0⟩ := Kd.R_celln 0 HO1006.out (3 : Int) p12 q12; (try rw [show ((3 : Int)).toNat = 3 from rfl] at hx12_0); (try simp only [Nat.reduceMul, Nat.zero_mul, Nat.zero_add, Nat.reduceAdd] at hx12_0); (try rw [show ((3 : Int)).toNat = 3 from rfl] at hf12_0); (try simp only [Nat.reduceMul, Nat.zero_mul, Nat.zero_add, Nat.reduceAdd] at hf12_0); replace p12 := eq_true p12; replace q12 := eq_true q12; obtain ⟨hy21_, hz21_⟩ := Kd.R_celln 0 HO1006.out (3 : Int) (by omega) (of_decide_eq_true (by first | (with_reducible assumption) | assumption)); (try simp only [Int.reduceToNat, Int.toNat_zero, Int.toNat_ofNat, Nat.reduceMul, Nat.zero_mul, Nat.zero_add] at hy21_ hz21_); (try rw [show ((3 : Int)).toNat = 3 from rfl] at hy21_); (try rw [show ((3 : Int)).toNat = 3 from rfl] at hz21_); have HP21 := Kd.R_putg HO1006.out (3 : Int) a2) | ((with_reducible refine gate_store (t := 5) (p := 21) rfl ?_); refine store_event (t := 5) (p := 21) (v := ?vo_w22) (w1 := (w20.setCell ⟨go6, (3 : Int).toNat, none⟩ (.int .u8 a2))) ?hg ?ho ?hn ?hr ?_; (case ho => rfl); (case hg => rfl); (case hn => rfl); (case hr => first | (go_simp; done) | (go_simp; rfl)); intro w22 hw; have hg : w20.grownBy w22 (some go6) := (by rw [hw]; exact HP21.2); have hp_ : Kd.R (Kd.int .u8) 5 w22 w.heap.size (fun _ => True) (.slice (some ⟨go6, 0, none⟩) y1000.length co6) y1004 := (by rw [hw, Ny1004.out]; exact HP21.1); clear HP21; have n0_ := Aside0.mk (hp_); have n1_ := Aside0.mk ((by rw [hw]; exact below_set (HB.out) GB6.out : Below w.heap.size w w22)); clear HO1006; clear HB; have HO1006 := n0_; have HB := n1_; clear n0_ n1_; clear hg hw hp_))
            go_ret
            exact ⟨_, by first | rfl | (simp [errW_none, errW_some] <;> rfl) | (simp [*, errW_none, errW_some] <;> rfl), by (with_reducible repeat (first | apply Kd.R_alloc | apply Kd.R_drewN | apply Kd.R_drew)); exact HO1006.out, by repeat (first | (with_reducible first | exact HB.out | apply below_alloc | apply pbdN | apply bdr1) | exact HB.out)⟩
          · rw [if_neg c11] at H
            exact absurd H (by simp)
        · rw [if_neg c9] at H
          exact absurd H (by simp)
      · rw [if_neg c7] at H
        exact absurd H (by simp)
    · rw [if_neg c5] at H
      exact absurd H (by simp)
  · rw [if_neg c4] at H
    exact absurd H (by simp)
end Go.Proofs.Ytdkjhcdniepbhaa.P
end
