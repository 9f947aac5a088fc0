/- Part 4 of the proof: catamaranlaw05.DiskDoes returns true for every disk, sector and bytes, and its arguments read afterwards as they read before; no condition. -/
import Derived.BigRegion
import Derived.Test.YtjlohdbkjoofcaaDiskDoes3
section
set_option linter.unusedVariables false
set_option linter.unusedSimpArgs false
namespace Go.Proofs.Ytjlohdbkjoofcaa.P
open Go.RowKit Go.Proofs.PrintWords Go.Proofs.PrintLast Go.Proofs.PrintMore
attribute [local go_sem] max2_int min2_int max_two min_two max_three min_three max_four min_four
mutual
def catamaranref05_Twin.l0 : Nat → Int → List (S52) → List (S65) → List (S52) → Option ((List (S52)) × (List (S65)))
  | 0, _, _, _, _ => none
  | k + 1, x4, x105000, x105001, x107000 => if x4 < (x105000.length : Int) then ((some (([] : List Int) : List Int)).bind fun y107 => (if 0 ≤ x4 then (if y107.length + ((rd_T52 x105000 x4).f0).length < 140737488355328 then (if x107000.length < 4398046511104 then (catamaranref05_Twin.l0 k (wrap64 (x4 + 1)) x105000 x105001 (x107000 ++ [(⟨(y107 ++ ((rd_T52 x105000 x4).f0)), (rd_T52 x105000 x4).f1⟩ : S52)])) else (none)) else (none)) else (none))) else (catamaranref05_Twin.l1 k 0 x105000 x105001 x107000 ([] : List (S65)))
def catamaranref05_Twin.l1 : Nat → Int → List (S52) → List (S65) → List (S52) → List (S65) → Option ((List (S52)) × (List (S65)))
  | 0, _, _, _, _, _ => none
  | k + 1, x5, x105000, x105001, x107000, x107001 => if x5 < (x105001.length : Int) then (if 0 ≤ x5 then ((some (([] : List Int) : List Int)).bind fun y119 => (if y119.length + ((rd_T65 x105001 x5).f1).length < 140737488355328 then (if x107001.length < 4398046511104 then (catamaranref05_Twin.l1 k (wrap64 (x5 + 1)) x105000 x105001 x107000 (x107001 ++ [(⟨(rd_T65 x105001 x5).f0, (y119 ++ ((rd_T65 x105001 x5).f1))⟩ : S65)])) else (none)) else (none))) else (none)) else (some (x107000, x107001))
end
def catamaranref05_Twin.f (k : Nat) (l0_0 : List (S52)) (l0_1 : List (S65)) : Option ((List (S52)) × (List (S65))) := catamaranref05_Twin.l0 k 0 l0_0 l0_1 ([] : List (S52))
theorem catamaranref05_Twin.mono_l : ∀ k, (∀ y0 y1 y2 y3, LeO (catamaranref05_Twin.l0 k y0 y1 y2 y3) (catamaranref05_Twin.l0 (k + 1) y0 y1 y2 y3)) ∧ (∀ y0 y1 y2 y3 y4, LeO (catamaranref05_Twin.l1 k y0 y1 y2 y3 y4) (catamaranref05_Twin.l1 (k + 1) y0 y1 y2 y3 y4))
  | 0 => ⟨fun _ _ _ _ r h => by simp [catamaranref05_Twin.l0] at h, fun _ _ _ _ _ r h => by simp [catamaranref05_Twin.l1] at h⟩
  | k + 1 => by
    obtain ⟨ih0, ih1⟩ := catamaranref05_Twin.mono_l k
    refine ⟨?_, ?_⟩
    · intro y0 y1 y2 y3
      unfold catamaranref05_Twin.l0
      repeat' first
      | (with_reducible exact ih0 _ _ _ _)
      | (with_reducible exact ih1 _ _ _ _ _)
      | (with_reducible exact LeO.refl _)
      | (with_reducible exact LeO.none _)
      | (with_reducible refine LeO.ite ?_ ?_)
      | (with_reducible refine LeO.bind ?_ (fun _ => ?_))
      | exact ih0 _ _ _ _
      | exact ih1 _ _ _ _ _
      | exact LeO.none _
      | refine LeO.ite ?_ ?_
      | refine LeO.bind ?_ (fun _ => ?_)
    · intro y0 y1 y2 y3 y4
      unfold catamaranref05_Twin.l1
      repeat' first
      | (with_reducible exact ih0 _ _ _ _)
      | (with_reducible exact ih1 _ _ _ _ _)
      | (with_reducible exact LeO.refl _)
      | (with_reducible exact LeO.none _)
      | (with_reducible refine LeO.ite ?_ ?_)
      | (with_reducible refine LeO.bind ?_ (fun _ => ?_))
      | exact ih0 _ _ _ _
      | exact ih1 _ _ _ _ _
      | exact LeO.none _
      | refine LeO.ite ?_ ?_
      | refine LeO.bind ?_ (fun _ => ?_)
theorem catamaranref05_Twin.mono : ∀ a0 a1 k, LeO (catamaranref05_Twin.f k a0 a1) (catamaranref05_Twin.f (k + 1) a0 a1) := by
  intro a0 a1 k
  obtain ⟨ih0, ih1⟩ := catamaranref05_Twin.mono_l k
  unfold catamaranref05_Twin.f
  repeat' first
      | (with_reducible exact ih0 _ _ _ _)
      | (with_reducible exact ih1 _ _ _ _ _)
      | (with_reducible exact LeO.refl _)
      | (with_reducible exact LeO.none _)
      | (with_reducible refine LeO.ite ?_ ?_)
      | (with_reducible refine LeO.bind ?_ (fun _ => ?_))
      | exact ih0 _ _ _ _
      | exact ih1 _ _ _ _ _
      | exact LeO.none _
      | refine LeO.ite ?_ ?_
      | refine LeO.bind ?_ (fun _ => ?_)
def catamaranref05_Twin.T5 : Bool × List (List Nat × List Nat) := (true, [([], []), ([0], [0]), ([], []), ([], []), ([3], [3]), ([], []), ([4, 5], [4, 5]), ([6], [6]), ([7], [7]), ([2, 8], [2, 8]), ([], []), ([10], [10]), ([], []), ([11, 12], [11, 12]), ([13], [13]), ([14], [14]), ([9, 15], [9, 15]), ([16], [16]), ([1, 17, 9], [1, 17]), ([0, 1, 2, 3, 4, 5, 6, 7, 8, 9, 10, 11, 12, 13, 14, 15, 16, 17, 18], []), ([19, 18, 18, 0, 1, 2, 3, 4, 5, 6, 7, 8, 9, 10, 11, 12, 13, 14, 15, 16, 17, 18], [18, 19])])
def catamaranref05_Twin.B5 : List Nat := [0, 1, 0, 0, 8, 0, 56, 120, 248, 508, 0, 1024, 0, 7168, 15360, 31744, 65532, 131068, 262143, 524287, 1048575]
theorem catamaranref05_Twin.tab5 : rtab .any (opsOf Try.f31 5) = catamaranref05_Twin.T5 := by kernel_rfl
theorem catamaranref05_Twin.bits5 : waitsOk catamaranref05_Twin.T5.2 catamaranref05_Twin.B5 = true := by kernel_rfl
def catamaranref05_Twin.T9 : Bool × List (List Nat × List Nat) := (true, [([], []), ([0], [0]), ([], []), ([2], [2]), ([], []), ([3, 4], [3, 4]), ([5], [5]), ([6], [6]), ([], []), ([], []), ([9], [9]), ([], []), ([10, 11], [10, 11]), ([12], [12]), ([13], [13]), ([8, 14], [8, 14]), ([7, 15], [7, 15]), ([16], [16]), ([1, 17, 15], [1, 17]), ([0, 1, 2, 3, 4, 5, 6, 7, 8, 9, 10, 11, 12, 13, 14, 15, 16, 17, 18], []), ([19, 18, 18, 0, 1, 2, 3, 4, 5, 6, 7, 8, 9, 10, 11, 12, 13, 14, 15, 16, 17, 18], [18, 19])])
def catamaranref05_Twin.B9 : List Nat := [0, 1, 0, 4, 0, 28, 60, 124, 0, 0, 512, 0, 3584, 7680, 15872, 32512, 65532, 131068, 262143, 524287, 1048575]
theorem catamaranref05_Twin.tab9 : rtab .any (opsOf Try.f31 9) = catamaranref05_Twin.T9 := by kernel_rfl
theorem catamaranref05_Twin.bits9 : waitsOk catamaranref05_Twin.T9.2 catamaranref05_Twin.B9 = true := by kernel_rfl
set_option maxHeartbeats 8000000 in
set_option maxRecDepth 100000 in
theorem catamaranref05_Twin.calls (k : Nat) (A0_0 : Option Addr) (c0_0 : Nat) (l0_0 : List (S52)) (A0_1 : Option Addr) (c0_1 : Nat) (l0_1 : List (S65)) (r1 : List (S52)) (r2 : List (S65)) (w : World) (hr0_0 : Kd.C k52 w A0_0 l0_0.length l0_0) (hc0_0 : l0_0.length ≤ c0_0) (hr0_1 : Kd.C k65 w A0_1 l0_1.length l0_1) (hc0_1 : l0_1.length ≤ c0_1) (h : catamaranref05_Twin.f k l0_0 l0_1 = some (r1, r2)) :
    Calls Try.prog 31 #[.agg #[.slice A0_0 l0_0.length c0_0, .slice A0_1 l0_1.length c0_1]] w fun e w' => ∃ v0_ v1_ : Value, e = .returned (.agg #[v0_, v1_]) ∧ Kd.S k52 52 w' w.heap.size (fun _ => True) v0_ r1 ∧ Kd.S k65 65 w' w.heap.size (fun _ => True) v1_ r2 ∧ Below w.heap.size w w' := by
  have hu25 := Try.underlying25
  have hu52 := Try.underlying52
  have hu65 := Try.underlying65
  have HR0_0 := Aside0.mk hr0_0
  have HC0_0 := Aside0.mk hc0_0
  clear hr0_0 hc0_0
  have HR0_1 := Aside0.mk hr0_1
  have HC0_1 := Aside0.mk hc0_1
  clear hr0_1 hc0_1
  have HB := Aside0.mk (Below.refl w.heap.size w)
  have H : (catamaranref05_Twin.l0 k 0 l0_0 l0_1 ([] : List (S52))) = some (r1, r2) := h
  clear h
  have H' := Aside0.mk H
  clear H
  go_enter Try.func31, Try.ntmps31
  go_wp2_with (first | ((with_reducible refine gate_dst (N := 1) rfl ?_); refine box_event ?hg (N := 1) ?hd (cs := #[.slice A0_0 l0_0.length c0_0, .slice A0_1 l0_1.length c0_1]) (t := 25) ?hr ?_; (case hd => rfl); (case hg => rfl); (case hr => first | (go_simp; done) | (go_simp; rfl)); intro gb104 hg w2 hbox hb; have n0_ := Aside0.mk (below_step (by repeat (first | (with_reducible first | exact HB.out | apply below_alloc | apply pw_below_drewN | apply below_drew1) | exact HB.out)) hb); have n1_ := Aside0.mk (hbox); have n2_ := Aside0.mk ((by rw [hg]; exact (below_size (by repeat (first | (with_reducible first | exact HB.out | apply below_alloc | apply pw_below_drewN | apply below_drew1) | exact HB.out))) : w.heap.size ≤ gb104)); have n3_ := Aside0.mk ((by rw [hg]; exact (below_size (by repeat (first | (with_reducible first | exact HB.out | apply below_alloc | apply pw_below_drewN | apply below_drew1) | exact HB.out))) : w.heap.size ≤ gb104)); clear HB; have HB := n0_; have BK104 := n1_; have GW104 := n2_; have GE104 := n3_; clear n0_ n1_ n2_ n3_; clear hb hbox hg) | ((with_reducible refine gate_dst (N := 2) rfl ?_); refine box_event ?hg (N := 2) ?hd (cs := #[.slice none 0 0, .slice none 0 0]) (t := 25) ?hr ?_; (case hd => rfl); (case hg => rfl); (case hr => first | (go_simp; done) | (go_simp; rfl)); intro gb105 hg w3 hbox hb; have n0_ := Aside0.mk (blk_below (g := gb104) (o := .cells #[.slice A0_0 l0_0.length c0_0, .slice A0_1 l0_1.length c0_1] 25 (0, 0)) (by (with_reducible repeat (first | refine blk_drewN ?_ _ | refine blk_drew ?_ | refine blk_alloc ?_ _)); exact BK104.out) hb); have n1_ := Aside0.mk (below_step (by repeat (first | (with_reducible first | exact HB.out | apply below_alloc | apply pw_below_drewN | apply below_drew1 | refine below_set ?_ GE104.out) | exact HB.out)) hb); have n2_ := Aside0.mk (hbox); have n3_ := Aside0.mk ((by rw [hg]; exact (below_size (by repeat (first | (with_reducible first | exact HB.out | apply below_alloc | apply pw_below_drewN | apply below_drew1 | refine below_set ?_ GE104.out) | exact HB.out))) : w.heap.size ≤ gb105)); have n4_ := Aside0.mk ((by rw [hg]; exact (below_size (by repeat (first | (with_reducible first | exact HB.out | apply below_alloc | apply pw_below_drewN | apply below_drew1 | refine below_set ?_ GE104.out) | exact HB.out))) : w.heap.size ≤ gb105)); have n5_ := Aside0.mk ((by rw [hg]; exact Nat.ne_of_lt (blk_lt (g := gb104) (o := .cells #[.slice A0_0 l0_0.length c0_0, .slice A0_1 l0_1.length c0_1] 25 (0, 0)) (by (with_reducible repeat (first | refine blk_drewN ?_ _ | refine blk_drew ?_ | refine blk_alloc ?_ _)); exact BK104.out)) : gb104 ≠ gb105)); have n6_ := Aside0.mk ((by rw [hg]; exact Nat.ne_of_gt (blk_lt (g := gb104) (o := .cells #[.slice A0_0 l0_0.length c0_0, .slice A0_1 l0_1.length c0_1] 25 (0, 0)) (by (with_reducible repeat (first | refine blk_drewN ?_ _ | refine blk_drew ?_ | refine blk_alloc ?_ _)); exact BK104.out)) : gb105 ≠ gb104)); clear BK104; clear HB; have BK104 := n0_; have HB := n1_; have BK105 := n2_; have GW105 := n3_; have GE105 := n4_; have NB104_105 := n5_; have NB105_104 := n6_; clear n0_ n1_ n2_ n3_ n4_ n5_ n6_; clear hb hbox hg) | ((with_reducible refine gate_dst (N := 3) rfl ?_); refine box_event ?hg (N := 3) ?hd (cs := #[.slice none 0 0, .slice none 0 0]) (t := 25) ?hr ?_; (case hd => rfl); (case hg => rfl); (case hr => first | (go_simp; done) | (go_simp; rfl)); intro gb106 hg w4 hbox hb; have n0_ := Aside0.mk (blk_below (g := gb104) (o := .cells #[.slice A0_0 l0_0.length c0_0, .slice A0_1 l0_1.length c0_1] 25 (0, 0)) (by (with_reducible repeat (first | refine blk_drewN ?_ _ | refine blk_drew ?_ | refine blk_alloc ?_ _)); exact BK104.out) hb); have n1_ := Aside0.mk (blk_below (g := gb105) (o := .cells #[.slice none 0 0, .slice none 0 0] 25 (0, 0)) (by (with_reducible repeat (first | refine blk_drewN ?_ _ | refine blk_drew ?_ | refine blk_alloc ?_ _)); exact BK105.out) hb); have n2_ := Aside0.mk (below_step (by repeat (first | (with_reducible first | exact HB.out | apply below_alloc | apply pw_below_drewN | apply below_drew1 | refine below_set ?_ GE104.out | refine below_set ?_ GE105.out) | exact HB.out)) hb); have n3_ := Aside0.mk (hbox); have n4_ := Aside0.mk ((by rw [hg]; exact (below_size (by repeat (first | (with_reducible first | exact HB.out | apply below_alloc | apply pw_below_drewN | apply below_drew1 | refine below_set ?_ GE104.out | refine below_set ?_ GE105.out) | exact HB.out))) : w.heap.size ≤ gb106)); have n5_ := Aside0.mk ((by rw [hg]; exact (below_size (by repeat (first | (with_reducible first | exact HB.out | apply below_alloc | apply pw_below_drewN | apply below_drew1 | refine below_set ?_ GE104.out | refine below_set ?_ GE105.out) | exact HB.out))) : w.heap.size ≤ gb106)); have n6_ := Aside0.mk ((by rw [hg]; exact Nat.ne_of_lt (blk_lt (g := gb104) (o := .cells #[.slice A0_0 l0_0.length c0_0, .slice A0_1 l0_1.length c0_1] 25 (0, 0)) (by (with_reducible repeat (first | refine blk_drewN ?_ _ | refine blk_drew ?_ | refine blk_alloc ?_ _)); exact BK104.out)) : gb104 ≠ gb106)); have n7_ := Aside0.mk ((by rw [hg]; exact Nat.ne_of_gt (blk_lt (g := gb104) (o := .cells #[.slice A0_0 l0_0.length c0_0, .slice A0_1 l0_1.length c0_1] 25 (0, 0)) (by (with_reducible repeat (first | refine blk_drewN ?_ _ | refine blk_drew ?_ | refine blk_alloc ?_ _)); exact BK104.out)) : gb106 ≠ gb104)); have n8_ := Aside0.mk ((by rw [hg]; exact Nat.ne_of_lt (blk_lt (g := gb105) (o := .cells #[.slice none 0 0, .slice none 0 0] 25 (0, 0)) (by (with_reducible repeat (first | refine blk_drewN ?_ _ | refine blk_drew ?_ | refine blk_alloc ?_ _)); exact BK105.out)) : gb105 ≠ gb106)); have n9_ := Aside0.mk ((by rw [hg]; exact Nat.ne_of_gt (blk_lt (g := gb105) (o := .cells #[.slice none 0 0, .slice none 0 0] 25 (0, 0)) (by (with_reducible repeat (first | refine blk_drewN ?_ _ | refine blk_drew ?_ | refine blk_alloc ?_ _)); exact BK105.out)) : gb106 ≠ gb105)); clear BK104; clear BK105; clear HB; have BK104 := n0_; have BK105 := n1_; have HB := n2_; have BK106 := n3_; have GW106 := n4_; have GE106 := n5_; have NB104_106 := n6_; have NB106_104 := n7_; have NB105_106 := n8_; have NB106_105 := n9_; clear n0_ n1_ n2_ n3_ n4_ n5_ n6_ n7_ n8_ n9_; clear hb hbox hg))
  go_loopg [4] k (fun kq v4 w' => ∃ (x4_1 : Int) (x107000_1 : List (S52)) (u107000 : Value), v4 = .int .i64 x4_1 ∧ Aside0 (catamaranref05_Twin.l0 kq x4_1 l0_0 l0_1 x107000_1 = some (r1, r2)) ∧ Aside0 (kq ≤ k) ∧ Aside0 (Kd.S k52 52 w' w.heap.size (fun _ => True) u107000 x107000_1) ∧ Aside0 (w'.heap[gb104]? = some (.cells #[(.slice A0_0 l0_0.length c0_0), (.slice A0_1 l0_1.length c0_1)] 25 (0, 0))) ∧ Aside0 (w'.heap[gb105]? = some (.cells #[(.slice none 0 0), (.slice none 0 0)] 25 (0, 0))) ∧ Aside0 (w'.heap[gb106]? = some (.cells #[u107000, (.slice none 0 0)] 25 (0, 0))) ∧ Aside0 (Below w.heap.size w w'))
  case atStart => exact ⟨(0), (([] : List (S52))), (.slice none 0 0), (by first | rfl | (simp; done) | (simp [*]; done)), H', ⟨Nat.le_refl _⟩, ⟨by first | exact Kd.S_nil _ _ _ _ _ | exact Kd.N_nil _ _ _ _ _ | exact Kd.V_nil _ _ _ _ _ | exact Kd.Q_nil _ _ _ _ _ | exact Kd.R_nil _ _ _ _ _⟩, ⟨by (with_reducible repeat (first | refine blk_drewN ?_ _ | refine blk_drew ?_ | refine blk_alloc ?_ _)); exact BK104.out⟩, ⟨by (with_reducible repeat (first | refine blk_drewN ?_ _ | refine blk_drew ?_ | refine blk_alloc ?_ _)); exact BK105.out⟩, ⟨by (with_reducible repeat (first | refine blk_drewN ?_ _ | refine blk_drew ?_ | refine blk_alloc ?_ _)); exact BK106.out⟩, ⟨by repeat (first | (with_reducible first | exact HB.out | apply below_alloc | apply pw_below_drewN | apply below_drew1 | refine below_set ?_ GE104.out | refine below_set ?_ GE105.out | refine below_set ?_ GE106.out) | exact HB.out)⟩⟩
  case round =>
    clear H'
    try clear p2
    try clear c3
    obtain ⟨x4_1, x107000_1, u107000, rfl, HA, HK1, HO_107000, BK104, BK105, BK106, HB⟩ := hrel
    cases gk with
    | zero => exact absurd HA.out (by simp [catamaranref05_Twin.l0])
    | succ k1 =>
      have H := HA.out
      clear HA
      simp only [catamaranref05_Twin.l0] at H
      by_cases c5 : x4_1 < (l0_0.length : Int)
      · rw [if_pos c5] at H
        have c5b0 : decide (x4_1 < (l0_0.length : Int)) = true := decide_eq_true c5
        clear c5
        obtain ⟨y107, hy107⟩ : ∃ y_ : List Int, y_ = (([] : List Int)) := ⟨_, rfl⟩
        replace H : (if 0 ≤ x4_1 then (if y107.length + ((rd_T52 l0_0 x4_1).f0).length < 140737488355328 then (if x107000_1.length < 4398046511104 then (catamaranref05_Twin.l0 k1 (wrap64 (x4_1 + 1)) l0_0 l0_1 (x107000_1 ++ [(⟨(y107 ++ ((rd_T52 l0_0 x4_1).f0)), (rd_T52 l0_0 x4_1).f1⟩ : S52)])) else (none)) else (none)) else (none)) = some (r1, r2) := by first | (rw [hy107]; with_reducible exact H) | (have H2_ := (Option.bind_some _ _).symm.trans H; rw [hy107]; with_reducible exact H2_) | (have H2_ := (Option.bind_some _ _).symm.trans H; with_reducible exact H2_) | with_reducible exact H | (rw [hy107]; exact H) | exact H
        have Ny107 := Aside0.mk hy107
        clear hy107
        by_cases c6 : 0 ≤ x4_1
        · rw [if_pos c6] at H
          have c6b0 : decide (0 ≤ x4_1) = true := decide_eq_true c6
          clear c6
          by_cases c7 : y107.length + ((rd_T52 l0_0 x4_1).f0).length < 140737488355328
          · rw [if_pos c7] at H
            have LMc7 := Aside0.mk c7
            clear c7
            obtain ⟨y111, hy111⟩ : ∃ y_ : List Int, y_ = (y107 ++ ((rd_T52 l0_0 x4_1).f0)) := ⟨_, rfl⟩
            replace H : (if x107000_1.length < 4398046511104 then (catamaranref05_Twin.l0 k1 (wrap64 (x4_1 + 1)) l0_0 l0_1 (x107000_1 ++ [(⟨y111, (rd_T52 l0_0 x4_1).f1⟩ : S52)])) else (none)) = some (r1, r2) := by first | (rw [hy111]; with_reducible exact H) | (have H2_ := (Option.bind_some _ _).symm.trans H; rw [hy111]; with_reducible exact H2_) | (have H2_ := (Option.bind_some _ _).symm.trans H; with_reducible exact H2_) | with_reducible exact H | (rw [hy111]; exact H) | exact H
            have Ny111 := Aside0.mk hy111
            clear hy111
            by_cases c8 : x107000_1.length < 4398046511104
            · rw [if_pos c8] at H
              have LMc8 := Aside0.mk c8
              clear c8
              obtain ⟨y115, hy115⟩ : ∃ y_ : List (S52), y_ = (x107000_1 ++ [(⟨y111, (rd_T52 l0_0 x4_1).f1⟩ : S52)]) := ⟨_, rfl⟩
              replace H : (catamaranref05_Twin.l0 k1 (wrap64 (x4_1 + 1)) l0_0 l0_1 y115) = some (r1, r2) := by first | (rw [hy115]; with_reducible exact H) | (have H2_ := (Option.bind_some _ _).symm.trans H; rw [hy115]; with_reducible exact H2_) | (have H2_ := (Option.bind_some _ _).symm.trans H; with_reducible exact H2_) | with_reducible exact H | (rw [hy115]; exact H) | exact H
              have Ny115 := Aside0.mk hy115
              clear hy115
              have H' := Aside0.mk H
              clear H
              have hnb9 := NB104_105.out
              have hnc9 := NB105_104.out
              have hnb10 := NB104_106.out
              have hnc10 := NB106_104.out
              have hcz11_0 : wr.cell? ⟨gb104, 0, none⟩ = some (.slice A0_0 l0_0.length c0_0) := (blk_cell BK104.out 0).trans rfl
              have hcz11_1 : wr.cell? ⟨gb104, 1, none⟩ = some (.slice A0_1 l0_1.length c0_1) := (blk_cell BK104.out 1).trans rfl
              have hfz11_0 := blk_frozen BK104.out 0
              have hfz11_1 := blk_frozen BK104.out 1
              try go_wp2
              have n0_ := Aside0.mk (Kd.S_drew HO_107000.out)
              have n1_ := Aside0.mk (blk_drew BK104.out)
              have n2_ := Aside0.mk (blk_drew BK105.out)
              have n3_ := Aside0.mk (blk_drew BK106.out)
              have n4_ := Aside0.mk (below_drew1 HB.out)
              clear HO_107000
              clear BK104
              clear BK105
              clear BK106
              clear HB
              have HO_107000 := n0_
              have BK104 := n1_
              have BK105 := n2_
              have BK106 := n3_
              have HB := n4_
              clear n0_ n1_ n2_ n3_ n4_
              have p110 : 0 ≤ (x4_1 : Int) := of_decide_eq_true (by first | (with_reducible assumption) | assumption)
              have q110 : x4_1 < (l0_0.length : Int) := of_decide_eq_true (by first | (with_reducible assumption) | assumption)
              obtain ⟨ad110, A110_0, c110_0, e110, hx110_0, hx110_1, hl110_0, hi110_0⟩ := at_T52 HR0_0.out x4_1 p110 q110
              have hw110_1 := hx110_1
              have hw110_0 := hx110_0
              cases e110
              replace hx110_0 := (HB.out.cell (World.block_lt_of_cell? w _ hx110_0)).trans hx110_0
              replace hx110_1 := (HB.out.cell (World.block_lt_of_cell? w _ hx110_1)).trans hx110_1
              have HR110_0 := Aside0.mk hi110_0
              have HC110_0 := Aside0.mk hl110_0
              clear hi110_0 hl110_0
              replace p110 := eq_true p110
              replace q110 := eq_true q110
              have p114 : 0 ≤ (x4_1 : Int) := of_decide_eq_true (by first | (with_reducible assumption) | assumption)
              have q114 : x4_1 < (l0_0.length : Int) := of_decide_eq_true (by first | (with_reducible assumption) | assumption)
              obtain ⟨ad114, A114_0, c114_0, e114, hx114_0, hx114_1, hl114_0, hi114_0⟩ := at_T52 HR0_0.out x4_1 p114 q114
              have hw114_1 := hx114_1
              have hw114_0 := hx114_0
              obtain rfl : ad110 = ad114 := (by injection e114)
              replace hx114_0 := (HB.out.cell (World.block_lt_of_cell? w _ hx114_0)).trans hx114_0
              replace hx114_1 := (HB.out.cell (World.block_lt_of_cell? w _ hx114_1)).trans hx114_1
              have HR114_0 := Aside0.mk hi114_0
              have HC114_0 := Aside0.mk hl114_0
              clear hi114_0 hl114_0
              replace p114 := eq_true p114
              replace q114 := eq_true q114
              have ea_ := Option.some.inj (hx110_0.symm.trans hx114_0)
              injection ea_ with ea_ en_ ec_
              subst ea_
              subst ec_
              clear en_
              refine start_ (n := 21) (S := fun w' => w'.cell? ⟨gb106, 0, none⟩ = some (u107000) ∧ w'.cell? ⟨gb106, 1, none⟩ = some (.slice none 0 0) ∧ w'.cell? ⟨gb104, 0, none⟩ = some (.slice (some ad110) l0_0.length c0_0) ∧ w'.cell? ⟨gb104, 1, none⟩ = some (.slice A0_1 l0_1.length c0_1) ∧ w'.cell? (ad110.add ((x4_1).toNat * 2)) = some (.slice A110_0 ((rd_T52 l0_0 x4_1).f0).length c110_0) ∧ w'.cell? ⟨(ad110.add ((x4_1).toNat * 2)).block, (ad110.add ((x4_1).toNat * 2)).off + 1, none⟩ = some (.bool ((rd_T52 l0_0 x4_1).f1)) ∧ w'.cell? (ad110.add ((x4_1).toNat * 2)) = some (.slice A110_0 ((rd_T52 l0_0 x4_1).f0).length c110_0) ∧ w'.cell? ⟨(ad110.add ((x4_1).toNat * 2)).block, (ad110.add ((x4_1).toNat * 2)).off + 1, none⟩ = some (.bool ((rd_T52 l0_0 x4_1).f1))) (ds := [20]) #[false, false, false, false, false, false, false, false, false, false, false, false, false, false, false, false, false, false, false, false, false] (by kernel_rfl) rfl rfl ⟨(blk_cell BK106.out 0).trans rfl, (blk_cell BK106.out 1).trans rfl, (blk_cell BK104.out 0).trans rfl, (blk_cell BK104.out 1).trans rfl, ((HB.out.cell (World.block_lt_of_cell? w _ hw110_0)).trans hw110_0), ((HB.out.cell (World.block_lt_of_cell? w _ hw110_1)).trans hw110_1), ((HB.out.cell (World.block_lt_of_cell? w _ hw114_0)).trans hw114_0), ((HB.out.cell (World.block_lt_of_cell? w _ hw114_1)).trans hw114_1)⟩ (fun hHeld => ?_); refine with_tabW catamaranref05_Twin.tab5 catamaranref05_Twin.bits5 (fun HT_ HW_ => ?_)
              generalize wr.drew = w12 at HO_107000 BK104 BK105 BK106 HB HR110_0 HR114_0 hx110_0 hx110_1 hx114_0 hx114_1 hHeld ⊢
              refine pure_ (i := 0) (N := some 13) (v := ?_) (a' := ?_) #[true, false, false, false, false, false, false, false, false, false, false, false, false, false, false, false, false, false, false, false, false] rfl rfl (any_of HT_.out (by kernel_rfl)) (fun _ _ _ h => h) (Or.inl ⟨by rfl, ?_⟩) ?_ ?_
              rotate_left
              · intro w'
                go_simp
                with_reducible rfl
              rotate_left
              · simp only [Act.put, List.setIfInBounds_toArray, List.set_cons_zero, List.set_cons_succ, i64_w, i32_w]
                rfl
              refine pure_ (i := 3) (N := some 16) (v := ?_) (a' := ?_) #[true, false, false, true, false, false, false, false, false, false, false, false, false, false, false, false, false, false, false, false, false] rfl rfl (any_of HT_.out (by kernel_rfl)) (fun _ _ _ h => h) (Or.inl ⟨by rfl, ?_⟩) ?_ ?_
              rotate_left
              · intro w'
                go_simp
                with_reducible rfl
              rotate_left
              · simp only [Act.put, List.setIfInBounds_toArray, List.set_cons_zero, List.set_cons_succ, i64_w, i32_w]
                rfl
              refine pure_ (i := 5) (N := some 18) (v := ?_) (a' := ?_) #[true, false, false, true, false, true, false, false, false, false, false, false, false, false, false, false, false, false, false, false, false] rfl rfl (any_of HT_.out (by kernel_rfl)) (fun _ _ _ h => h) (Or.inl ⟨by rfl, ?_⟩) ?_ ?_
              rotate_left
              · intro w'
                go_simp
                with_reducible rfl
              rotate_left
              · simp only [Act.put, List.setIfInBounds_toArray, List.set_cons_zero, List.set_cons_succ, i64_w, i32_w]
                rfl
              refine pure_ (i := 10) (N := some 23) (v := ?_) (a' := ?_) #[true, false, false, true, false, true, false, false, false, false, true, false, false, false, false, false, false, false, false, false, false] rfl rfl (any_of HT_.out (by kernel_rfl)) (fun _ _ _ h => h) (Or.inl ⟨by rfl, ?_⟩) ?_ ?_
              rotate_left
              · intro w'
                go_simp
                with_reducible rfl
              rotate_left
              · simp only [Act.put, List.setIfInBounds_toArray, List.set_cons_zero, List.set_cons_succ, i64_w, i32_w]
                rfl
              refine pure_ (i := 12) (N := some 25) (v := ?_) (a' := ?_) #[true, false, false, true, false, true, false, false, false, false, true, false, true, false, false, false, false, false, false, false, false] rfl rfl (any_of HT_.out (by kernel_rfl)) (fun _ _ _ h => h) (Or.inl ⟨by rfl, ?_⟩) ?_ ?_
              rotate_left
              · intro w'
                go_simp
                with_reducible rfl
              rotate_left
              · simp only [Act.put, List.setIfInBounds_toArray, List.set_cons_zero, List.set_cons_succ, i64_w, i32_w]
                rfl
              refine take_ (i := 1) (N := some 14) (v := ?_) (a' := ?_) #[true, true, false, true, false, true, false, false, false, false, true, false, true, false, false, false, false, false, false, false, false] rfl rfl (take_ofW HT_.out HW_.out (by kernel_rfl)) (fun _ _ _ h => h) (Or.inl ⟨by rfl, ?_⟩) hHeld ?_ ?_
              rotate_left
              · rintro w' ⟨s0, s1, s2, s3, s4, s5, s6, s7⟩
                go_simp
                with_reducible rfl
              rotate_left
              · simp only [Act.put, List.setIfInBounds_toArray, List.set_cons_zero, List.set_cons_succ, i64_w, i32_w]
                rfl
              refine take_ (i := 4) (N := some 17) (v := ?_) (a' := ?_) #[true, true, false, true, true, true, false, false, false, false, true, false, true, false, false, false, false, false, false, false, false] rfl rfl (take_ofW HT_.out HW_.out (by kernel_rfl)) (fun _ _ _ h => h) (Or.inl ⟨by rfl, ?_⟩) hHeld ?_ ?_
              rotate_left
              · rintro w' ⟨s0, s1, s2, s3, s4, s5, s6, s7⟩
                go_simp
                with_reducible rfl
              rotate_left
              · simp only [Act.put, List.setIfInBounds_toArray, List.set_cons_zero, List.set_cons_succ, i64_w, i32_w]
                rfl
              refine pure_ (i := 6) (N := some 19) (v := ?_) (a' := ?_) #[true, true, false, true, true, true, true, false, false, false, true, false, true, false, false, false, false, false, false, false, false] rfl rfl (any_of HT_.out (by kernel_rfl)) (fun _ _ _ h => h) (Or.inl ⟨by rfl, ?_⟩) ?_ ?_
              rotate_left
              · intro w'
                go_simp
                with_reducible rfl
              rotate_left
              · simp only [Act.put, List.setIfInBounds_toArray, List.set_cons_zero, List.set_cons_succ, i64_w, i32_w]
                rfl
              refine pure_ (i := 7) (N := some 20) (v := ?_) (a' := ?_) #[true, true, false, true, true, true, true, true, false, false, true, false, true, false, false, false, false, false, false, false, false] rfl rfl (any_of HT_.out (by kernel_rfl)) (fun _ _ _ h => h) (Or.inl ⟨by rfl, ?_⟩) ?_ ?_
              rotate_left
              · intro w'
                go_simp
                with_reducible rfl
              rotate_left
              · simp only [Act.put, List.setIfInBounds_toArray, List.set_cons_zero, List.set_cons_succ, i64_w, i32_w]
                rfl
              refine take_ (i := 8) (N := some 21) (v := ?_) (a' := ?_) #[true, true, false, true, true, true, true, true, true, false, true, false, true, false, false, false, false, false, false, false, false] rfl rfl (take_ofW HT_.out HW_.out (by kernel_rfl)) (fun _ _ _ h => h) (Or.inl ⟨by rfl, ?_⟩) hHeld ?_ ?_
              rotate_left
              · rintro w' ⟨s0, s1, s2, s3, s4, s5, s6, s7⟩
                go_simp
                with_reducible rfl
              rotate_left
              · simp only [Act.put, List.setIfInBounds_toArray, List.set_cons_zero, List.set_cons_succ, i64_w, i32_w]
                rfl
              refine take_ (i := 11) (N := some 24) (v := ?_) (a' := ?_) #[true, true, false, true, true, true, true, true, true, false, true, true, true, false, false, false, false, false, false, false, false] rfl rfl (take_ofW HT_.out HW_.out (by kernel_rfl)) (fun _ _ _ h => h) (Or.inl ⟨by rfl, ?_⟩) hHeld ?_ ?_
              rotate_left
              · rintro w' ⟨s0, s1, s2, s3, s4, s5, s6, s7⟩
                go_simp
                with_reducible rfl
              rotate_left
              · simp only [Act.put, List.setIfInBounds_toArray, List.set_cons_zero, List.set_cons_succ, i64_w, i32_w]
                rfl
              refine pure_ (i := 13) (N := some 26) (v := ?_) (a' := ?_) #[true, true, false, true, true, true, true, true, true, false, true, true, true, true, false, false, false, false, false, false, false] rfl rfl (any_of HT_.out (by kernel_rfl)) (fun _ _ _ h => h) (Or.inl ⟨by rfl, ?_⟩) ?_ ?_
              rotate_left
              · intro w'
                go_simp
                with_reducible rfl
              rotate_left
              · simp only [Act.put, List.setIfInBounds_toArray, List.set_cons_zero, List.set_cons_succ, i64_w, i32_w]
                rfl
              refine pure_ (i := 14) (N := some 27) (v := ?_) (a' := ?_) #[true, true, false, true, true, true, true, true, true, false, true, true, true, true, true, false, false, false, false, false, false] rfl rfl (any_of HT_.out (by kernel_rfl)) (fun _ _ _ h => h) (Or.inl ⟨by rfl, ?_⟩) ?_ ?_
              rotate_left
              · intro w'
                go_simp
                with_reducible rfl
              rotate_left
              · simp only [Act.put, List.setIfInBounds_toArray, List.set_cons_zero, List.set_cons_succ, i64_w, i32_w]
                rfl
              refine take_ (i := 15) (N := some 28) (v := ?_) (a' := ?_) #[true, true, false, true, true, true, true, true, true, false, true, true, true, true, true, true, false, false, false, false, false] rfl rfl (take_ofW HT_.out HW_.out (by kernel_rfl)) (fun _ _ _ h => h) (Or.inl ⟨by rfl, ?_⟩) hHeld ?_ ?_
              rotate_left
              · rintro w' ⟨s0, s1, s2, s3, s4, s5, s6, s7⟩
                go_simp
                with_reducible rfl
              rotate_left
              · simp only [Act.put, List.setIfInBounds_toArray, List.set_cons_zero, List.set_cons_succ, i64_w, i32_w]
                rfl
              refine one_ (i := 2) (N := some 15) #[true, true, true, true, true, true, true, true, true, false, true, true, true, true, true, true, false, false, false, false, false] rfl rfl (one_of HT_.out (by kernel_rfl)) (by decide) (fun K hK => ?_)
              refine Kd.R_lit_step (Kd.int .u8) _ 5 ?hg (N := 15) ?hd (xs := ([] : List Int)) (inner := []) (ok := fun _ => True) (okp := fun _ => True) ?hr ?hp (fun _ hk => hk) trivial (Below.refl _ _) (Nat.le_refl _) (by simp) ?_; (case hd => rfl); (case hg => rfl); (case hr => first | (go_simp; done) | (go_simp; rfl)); (case hp => exact (Reps.none _ _))
              intro v108 w13 ho14 hb hg_ hnew_
              clear hg_ hnew_
              (first | rw [← Ny107.out] at ho14 | (simp only [Int.reduceToNat] at ho14; rw [← Ny107.out] at ho14))
              have n0_ := Aside0.mk (Kd.S_elder' (by (with_reducible repeat (first | apply Kd.S_alloc | apply Kd.S_drewN | apply Kd.S_drew)); exact HO_107000.out) (Kd.R_base ho14) hb)
              have n1_ := Aside0.mk (Kd.R_lower ho14 (below_size (by repeat (first | (with_reducible first | exact HB.out | apply below_alloc | apply pw_below_drewN | apply below_drew1 | refine below_set ?_ GE104.out | refine below_set ?_ GE105.out | refine below_set ?_ GE106.out) | exact HB.out))))
              have n2_ := Aside0.mk (blk_below (g := gb104) (o := .cells #[.slice (some ad110) l0_0.length c0_0, .slice A0_1 l0_1.length c0_1] 25 (0, 0)) (by (with_reducible repeat (first | refine blk_drewN ?_ _ | refine blk_drew ?_ | refine blk_alloc ?_ _)); exact BK104.out) hb)
              have n3_ := Aside0.mk (blk_below (g := gb105) (o := .cells #[.slice none 0 0, .slice none 0 0] 25 (0, 0)) (by (with_reducible repeat (first | refine blk_drewN ?_ _ | refine blk_drew ?_ | refine blk_alloc ?_ _)); exact BK105.out) hb)
              have n4_ := Aside0.mk (blk_below (g := gb106) (o := .cells #[u107000, .slice none 0 0] 25 (0, 0)) (by (with_reducible repeat (first | refine blk_drewN ?_ _ | refine blk_drew ?_ | refine blk_alloc ?_ _)); exact BK106.out) hb)
              have n5_ := Aside0.mk (below_step (by repeat (first | (with_reducible first | exact HB.out | apply below_alloc | apply pw_below_drewN | apply below_drew1 | refine below_set ?_ GE104.out | refine below_set ?_ GE105.out | refine below_set ?_ GE106.out) | exact HB.out)) hb)
              clear HO_107000
              clear BK104
              clear BK105
              clear BK106
              clear HB
              have HO_107000 := n0_
              have HO109 := n1_
              have BK104 := n2_
              have BK105 := n3_
              have BK106 := n4_
              have HB := n5_
              clear n0_ n1_ n2_ n3_ n4_ n5_
              clear hb ho14
              refine hK.out _ _ ⟨(blk_cell BK106.out 0).trans rfl, (blk_cell BK106.out 1).trans rfl, (blk_cell BK104.out 0).trans rfl, (blk_cell BK104.out 1).trans rfl, ((HB.out.cell (World.block_lt_of_cell? w _ hw110_0)).trans hw110_0), ((HB.out.cell (World.block_lt_of_cell? w _ hw110_1)).trans hw110_1), ((HB.out.cell (World.block_lt_of_cell? w _ hw114_0)).trans hw114_0), ((HB.out.cell (World.block_lt_of_cell? w _ hw114_1)).trans hw114_1)⟩ (fun hHeld => ?_)
              clear hK K
              refine norm_ (a' := ?_) ?_ ?_
              rotate_left
              · show Act.put _ (some 15) _ = _
                simp only [Act.put, List.setIfInBounds_toArray, List.set_cons_zero, List.set_cons_succ, i64_w, i32_w]
                rfl
              refine one_ (i := 9) (N := some 22) #[true, true, true, true, true, true, true, true, true, true, true, true, true, true, true, true, false, false, false, false, false] rfl rfl (one_of HT_.out (by kernel_rfl)) (by decide) (fun K hK => ?_)
              refine Kd.R_append_rows_step (Kd.int .u8) (w0 := w) w.heap.size (by rfl) (.tmp 15) (.tmp 21) 26 5 (.int .u8 0) 1 rfl Try.underlying26 info5 rfl (by decide) (by omega) v108 y107 ((rd_T52 l0_0 x4_1).f0) _ _ _ (fun _ => True) (fun _ => False) rfl rfl ?aO ?aR (fun _ _ h => h) (fun _ h => h.elim) ?aF ?aB ?aS ?aL ?_
              (case aR => repeat (first | exact (Kd.C_below HR110_0.out HB.out) | (with_reducible refine Kd.C_alloc ?_ _) | (with_reducible refine Kd.C_drewN ?_ _) | (with_reducible refine Kd.C_drew ?_)))
              (case aB => exact (by repeat (first | (with_reducible first | exact HB.out | apply below_alloc | apply pw_below_drewN | apply below_drew1 | refine below_set ?_ GE104.out | refine below_set ?_ GE105.out | refine below_set ?_ GE106.out) | exact HB.out)))
              (case aF => exact (fun _ _ => trivial))
              (case aO => exact (by (with_reducible repeat (first | apply Kd.R_alloc | apply Kd.R_drewN | apply Kd.R_drew)); exact HO109.out))
              (case aS => exact (below_size (by repeat (first | (with_reducible first | exact HB.out | apply below_alloc | apply pw_below_drewN | apply below_drew1 | refine below_set ?_ GE104.out | refine below_set ?_ GE105.out | refine below_set ?_ GE106.out) | exact HB.out))))
              (case aL => have := LMc7.out; omega)
              intro v112 w15 ho hb hg hat
              rw [← Ny111.out] at ho
              have n0_ := Aside0.mk (Kd.S_after (ok := (fun _ => True)) (by (with_reducible repeat (first | apply Kd.S_alloc | apply Kd.S_drewN | apply Kd.S_drew)); exact HO_107000.out) hg hat)
              have n1_ := Aside0.mk (blk_grown (g := gb104) (o := .cells #[.slice (some ad110) l0_0.length c0_0, .slice A0_1 l0_1.length c0_1] 25 (0, 0)) (by (with_reducible repeat (first | refine blk_drewN ?_ _ | refine blk_drew ?_ | refine blk_alloc ?_ _)); exact BK104.out) hg (Kd.R_ne HO109.out BK104.out (by decide)))
              have n2_ := Aside0.mk (blk_grown (g := gb105) (o := .cells #[.slice none 0 0, .slice none 0 0] 25 (0, 0)) (by (with_reducible repeat (first | refine blk_drewN ?_ _ | refine blk_drew ?_ | refine blk_alloc ?_ _)); exact BK105.out) hg (Kd.R_ne HO109.out BK105.out (by decide)))
              have n3_ := Aside0.mk (blk_grown (g := gb106) (o := .cells #[u107000, .slice none 0 0] 25 (0, 0)) (by (with_reducible repeat (first | refine blk_drewN ?_ _ | refine blk_drew ?_ | refine blk_alloc ?_ _)); exact BK106.out) hg (Kd.R_ne HO109.out BK106.out (by decide)))
              have n4_ := Aside0.mk (hb)
              have n5_ := Aside0.mk (ho)
              clear HO_107000
              clear BK104
              clear BK105
              clear BK106
              clear HB
              clear HO109
              have HO_107000 := n0_
              have BK104 := n1_
              have BK105 := n2_
              have BK106 := n3_
              have HB := n4_
              have HO113 := n5_
              clear n0_ n1_ n2_ n3_ n4_ n5_
              clear ho hb hg hat
              obtain ⟨Ao16, co16, eo16⟩ := Kd.R_slice HO113.out
              (first | subst eo16 | (injection eo16 with f1_ f2_ f3_; have f4_ := f1_.symm; have f5_ := f3_.symm; clear f1_ f2_ f3_; subst f4_; subst f5_))
              refine hK.out _ _ ⟨(blk_cell BK106.out 0).trans rfl, (blk_cell BK106.out 1).trans rfl, (blk_cell BK104.out 0).trans rfl, (blk_cell BK104.out 1).trans rfl, ((HB.out.cell (World.block_lt_of_cell? w _ hw110_0)).trans hw110_0), ((HB.out.cell (World.block_lt_of_cell? w _ hw110_1)).trans hw110_1), ((HB.out.cell (World.block_lt_of_cell? w _ hw114_0)).trans hw114_0), ((HB.out.cell (World.block_lt_of_cell? w _ hw114_1)).trans hw114_1)⟩ (fun hHeld => ?_)
              clear hK K
              refine norm_ (a' := ?_) ?_ ?_
              rotate_left
              · show Act.put _ (some 22) _ = _
                simp only [Act.put, List.setIfInBounds_toArray, List.set_cons_zero, List.set_cons_succ, i64_w, i32_w]
                rfl
              refine pure_ (i := 16) (N := some 29) (v := ?_) (a' := ?_) #[true, true, true, true, true, true, true, true, true, true, true, true, true, true, true, true, true, false, false, false, false] rfl rfl (any_of HT_.out (by kernel_rfl)) (fun _ _ _ h => h) (Or.inl ⟨by rfl, ?_⟩) ?_ ?_
              rotate_left
              · intro w'
                go_simp
                with_reducible rfl
              rotate_left
              · simp only [Act.put, List.setIfInBounds_toArray, List.set_cons_zero, List.set_cons_succ, i64_w, i32_w]
                rfl
              refine one_ (i := 17) (N := some 30) #[true, true, true, true, true, true, true, true, true, true, true, true, true, true, true, true, true, true, false, false, false] rfl rfl (one_of HT_.out (by kernel_rfl)) (by decide) (fun K hK => ?_)
              refine value_ (w1 := ?_) (v := ?_) (by rfl) rfl ?_ ?_
              rotate_left 2
              · go_simp
                constructor
                · rfl
                · rfl
              refine hK.out _ _ ⟨(blk_cell (blk_alloc BK106.out _) 0).trans rfl, (blk_cell (blk_alloc BK106.out _) 1).trans rfl, (blk_cell (blk_alloc BK104.out _) 0).trans rfl, (blk_cell (blk_alloc BK104.out _) 1).trans rfl, (World.cell?_alloc_lt _ _ _ (World.block_lt_of_cell? _ _ (((HB.out.cell (World.block_lt_of_cell? w _ hw110_0)).trans hw110_0)))).trans (((HB.out.cell (World.block_lt_of_cell? w _ hw110_0)).trans hw110_0)), (World.cell?_alloc_lt _ _ _ (World.block_lt_of_cell? _ _ (((HB.out.cell (World.block_lt_of_cell? w _ hw110_1)).trans hw110_1)))).trans (((HB.out.cell (World.block_lt_of_cell? w _ hw110_1)).trans hw110_1)), (World.cell?_alloc_lt _ _ _ (World.block_lt_of_cell? _ _ (((HB.out.cell (World.block_lt_of_cell? w _ hw114_0)).trans hw114_0)))).trans (((HB.out.cell (World.block_lt_of_cell? w _ hw114_0)).trans hw114_0)), (World.cell?_alloc_lt _ _ _ (World.block_lt_of_cell? _ _ (((HB.out.cell (World.block_lt_of_cell? w _ hw114_1)).trans hw114_1)))).trans (((HB.out.cell (World.block_lt_of_cell? w _ hw114_1)).trans hw114_1))⟩ (fun hHeld => ?_)
              clear hK K
              refine norm_ (a' := ?_) ?_ ?_
              rotate_left
              · show Act.put _ (some 30) _ = _
                simp only [Act.put, List.setIfInBounds_toArray, List.set_cons_zero, List.set_cons_succ, i64_w, i32_w]
                rfl
              refine one_ (i := 18) (N := some 31) #[true, true, true, true, true, true, true, true, true, true, true, true, true, true, true, true, true, true, true, false, false] rfl rfl (one_of HT_.out (by kernel_rfl)) (by decide) (fun K hK => ?_)
              refine Kd.S_append_step k52 (w0 := w) w.heap.size (by rfl) (.tmp 14) (.tmp 30) 22 52 (.agg #[(.slice none 0 0), (.bool false)]) 32 rfl Try.underlying22 info52 rfl (by decide) (by omega) u107000 x107000_1 (⟨y111, (rd_T52 l0_0 x4_1).f1⟩ : S52) [.slice Ao16 y111.length co16, .bool ((rd_T52 l0_0 x4_1).f1)] (fun _ => True) (fun k_ => some k_ = (.slice Ao16 y111.length co16 : Value).ownBlock) rfl rfl ?aP (fun k_ hk_ => ((Kd.R_mono (ok' := fun k_ => ((fun _ => True)) k_ ∧ some k_ ≠ (u107000 : Value).ownBlock) (Kd.R_apart' (HO113.out) (Kd.S_typed HO_107000.out) (by decide)) (fun k_ hk => ⟨trivial, hk.2⟩))).1 k_ hk_.symm) ?aF ?aO ?aB ?aS ?aL ?_
              (case aP => exact k52_mkM _ _ _ (⟨y111, (rd_T52 l0_0 x4_1).f1⟩ : S52) (Kd.R_mono (Kd.R_tight rfl (Kd.R_mono (ok' := fun k_ => ((fun _ => True)) k_ ∧ some k_ ≠ (u107000 : Value).ownBlock) (Kd.R_apart' (HO113.out) (Kd.S_typed HO_107000.out) (by decide)) (fun k_ hk => ⟨trivial, hk.2⟩))) (fun _ h_ => h_)))
              (case aB => exact (by repeat (first | (with_reducible first | exact HB.out | apply below_alloc | apply pw_below_drewN | apply below_drew1 | refine below_set ?_ GE104.out | refine below_set ?_ GE105.out | refine below_set ?_ GE106.out) | exact HB.out)))
              (case aF => exact (fun _ _ => trivial))
              (case aO => exact (by (with_reducible repeat (first | apply Kd.S_alloc | apply Kd.S_drewN | apply Kd.S_drew)); exact Kd.S_mono HO_107000.out (fun k_ hk => ⟨trivial, fun e_ => hk.2 e_⟩)))
              (case aS => exact (below_size (by repeat (first | (with_reducible first | exact HB.out | apply below_alloc | apply pw_below_drewN | apply below_drew1 | refine below_set ?_ GE104.out | refine below_set ?_ GE105.out | refine below_set ?_ GE106.out) | exact HB.out))))
              (case aL => have := LMc8.out; omega)
              intro v116 w17 ho hb hg hat
              rw [← Ny115.out] at ho
              have n0_ := Aside0.mk (blk_grown (g := gb104) (o := .cells #[.slice (some ad110) l0_0.length c0_0, .slice A0_1 l0_1.length c0_1] 25 (0, 0)) (by (with_reducible repeat (first | refine blk_drewN ?_ _ | refine blk_drew ?_ | refine blk_alloc ?_ _)); exact BK104.out) hg (Kd.S_ne HO_107000.out BK104.out (by decide)))
              have n1_ := Aside0.mk (blk_grown (g := gb105) (o := .cells #[.slice none 0 0, .slice none 0 0] 25 (0, 0)) (by (with_reducible repeat (first | refine blk_drewN ?_ _ | refine blk_drew ?_ | refine blk_alloc ?_ _)); exact BK105.out) hg (Kd.S_ne HO_107000.out BK105.out (by decide)))
              have n2_ := Aside0.mk (blk_grown (g := gb106) (o := .cells #[u107000, .slice none 0 0] 25 (0, 0)) (by (with_reducible repeat (first | refine blk_drewN ?_ _ | refine blk_drew ?_ | refine blk_alloc ?_ _)); exact BK106.out) hg (Kd.S_ne HO_107000.out BK106.out (by decide)))
              have n3_ := Aside0.mk (hb)
              have n4_ := Aside0.mk (ho)
              clear BK104
              clear BK105
              clear BK106
              clear HB
              clear HO_107000
              clear HO113
              have BK104 := n0_
              have BK105 := n1_
              have BK106 := n2_
              have HB := n3_
              have HO117 := n4_
              clear n0_ n1_ n2_ n3_ n4_
              clear ho hb hg hat
              obtain ⟨Ao18, co18, eo18⟩ := Kd.S_slice HO117.out
              (first | subst eo18 | (injection eo18 with f1_ f2_ f3_; have f4_ := f1_.symm; have f5_ := f3_.symm; clear f1_ f2_ f3_; subst f4_; subst f5_))
              refine hK.out _ _ ⟨(blk_cell BK106.out 0).trans rfl, (blk_cell BK106.out 1).trans rfl, (blk_cell BK104.out 0).trans rfl, (blk_cell BK104.out 1).trans rfl, ((HB.out.cell (World.block_lt_of_cell? w _ hw110_0)).trans hw110_0), ((HB.out.cell (World.block_lt_of_cell? w _ hw110_1)).trans hw110_1), ((HB.out.cell (World.block_lt_of_cell? w _ hw114_0)).trans hw114_0), ((HB.out.cell (World.block_lt_of_cell? w _ hw114_1)).trans hw114_1)⟩ (fun hHeld => ?_)
              clear hK K
              refine norm_ (a' := ?_) ?_ ?_
              rotate_left
              · show Act.put _ (some 31) _ = _
                simp only [Act.put, List.setIfInBounds_toArray, List.set_cons_zero, List.set_cons_succ, i64_w, i32_w]
                rfl
              refine pure_ (i := 19) (N := some 32) (v := ?_) (a' := ?_) #[true, true, true, true, true, true, true, true, true, true, true, true, true, true, true, true, true, true, true, true, false] rfl rfl (any_of HT_.out (by kernel_rfl)) (fun _ _ _ h => h) (Or.inl ⟨by rfl, ?_⟩) ?_ ?_
              rotate_left
              · intro w'
                go_simp
                with_reducible rfl
              rotate_left
              · simp only [Act.put, List.setIfInBounds_toArray, List.set_cons_zero, List.set_cons_succ, i64_w, i32_w]
                rfl
              refine last_ (i := 20) (N := none) #[true, true, true, true, true, true, true, true, true, true, true, true, true, true, true, true, true, true, true, true, true] rfl rfl (one_of HT_.out (by kernel_rfl)) (by decide) (fun K hK => ?_)
              have hs19 : w17.cell? ⟨gb106, 0, none⟩ = some (u107000) := (blk_cell BK106.out 0).trans rfl
              have hfs19 := blk_frozen BK106.out 0
              have hns19_0 := NB104_106.out
              have hns19_1 := NB105_106.out
              have hms19_0 := NB106_104.out
              have hms19_1 := NB106_105.out
              refine skip_ (w1 := ?_) (by rfl) rfl ?_ ?_
              rotate_left
              · go_simp
                rfl
              refine hK.out _ _ ?_
              clear hK K
              refine done_ (done_of HT_.out (by kernel_rfl)) ?_
              try go_wp2
              go_roundg k1
              case measure => have := HK1.out; omega
              case rel => exact ⟨(wrap64 (x4_1 + 1)), (y115), (.slice Ao18 y115.length co18), (by first | rfl | (simp; done) | (simp [*]; done)), H', ⟨by have := HK1.out; omega⟩, ⟨by (with_reducible repeat (first | apply Kd.S_alloc | apply Kd.S_drewN | apply Kd.S_drew)); exact Kd.S_mono (Kd.S_far (p := ⟨gb106, 0, none⟩) (Kd.S_types HO117.out BK106.out (by decide)) (fun _ hk => hk.2) (.slice Ao18 y115.length co18)) (fun _ hk => trivial)⟩, ⟨by (with_reducible repeat (first | refine blk_drewN ?_ _ | refine blk_drew ?_ | refine blk_alloc ?_ _)); refine blk_far ?_ NB104_106.out _; (with_reducible repeat (first | refine blk_drewN ?_ _ | refine blk_drew ?_ | refine blk_alloc ?_ _)); exact BK104.out⟩, ⟨by (with_reducible repeat (first | refine blk_drewN ?_ _ | refine blk_drew ?_ | refine blk_alloc ?_ _)); refine blk_far ?_ NB105_106.out _; (with_reducible repeat (first | refine blk_drewN ?_ _ | refine blk_drew ?_ | refine blk_alloc ?_ _)); exact BK105.out⟩, ⟨by (with_reducible repeat (first | refine blk_drewN ?_ _ | refine blk_drew ?_ | refine blk_alloc ?_ _)); refine blk_put (cs := #[u107000, .slice none 0 0]) ?_ 0 _ rfl; (with_reducible repeat (first | refine blk_drewN ?_ _ | refine blk_drew ?_ | refine blk_alloc ?_ _)); exact BK106.out⟩, ⟨by repeat (first | (with_reducible first | exact HB.out | apply below_alloc | apply pw_below_drewN | apply below_drew1 | refine below_set ?_ GE104.out | refine below_set ?_ GE105.out | refine below_set ?_ GE106.out) | exact HB.out)⟩⟩
            · rw [if_neg c8] at H
              exact absurd H (by simp)
          · rw [if_neg c7] at H
            exact absurd H (by simp)
        · rw [if_neg c6] at H
          exact absurd H (by simp)
      · rw [if_neg c5] at H
        have c5b0 : decide (x4_1 < (l0_0.length : Int)) = false := decide_eq_false c5
        clear c5
        have H' := Aside0.mk H
        clear H
        have hnb20 := NB104_105.out
        have hnc20 := NB105_104.out
        have hnb21 := NB104_106.out
        have hnc21 := NB106_104.out
        have hcz22_0 : wr.cell? ⟨gb104, 0, none⟩ = some (.slice A0_0 l0_0.length c0_0) := (blk_cell BK104.out 0).trans rfl
        have hcz22_1 : wr.cell? ⟨gb104, 1, none⟩ = some (.slice A0_1 l0_1.length c0_1) := (blk_cell BK104.out 1).trans rfl
        have hfz22_0 := blk_frozen BK104.out 0
        have hfz22_1 := blk_frozen BK104.out 1
        go_wp2
        go_loopg [5] k1 (fun kq v5 w' => ∃ (x5_2 : Int) (x107001_2 : List (S65)) (u107001 : Value), v5 = .int .i64 x5_2 ∧ Aside0 (catamaranref05_Twin.l1 kq x5_2 l0_0 l0_1 x107000_1 x107001_2 = some (r1, r2)) ∧ Aside0 (kq ≤ k1) ∧ Aside0 (Kd.S k52 52 w' w.heap.size (fun _ => True) u107000 x107000_1) ∧ Aside0 (Kd.S k65 65 w' w.heap.size (fun _ => True) u107001 x107001_2) ∧ Aside0 (w'.heap[gb104]? = some (.cells #[(.slice A0_0 l0_0.length c0_0), (.slice A0_1 l0_1.length c0_1)] 25 (0, 0))) ∧ Aside0 (w'.heap[gb105]? = some (.cells #[(.slice none 0 0), (.slice none 0 0)] 25 (0, 0))) ∧ Aside0 (w'.heap[gb106]? = some (.cells #[u107000, u107001] 25 (0, 0))) ∧ Aside0 (Below w.heap.size w w'))
        case atStart => exact ⟨(0), (([] : List (S65))), (.slice none 0 0), (by first | rfl | (simp; done) | (simp [*]; done)), H', ⟨Nat.le_refl _⟩, ⟨by (with_reducible repeat (first | apply Kd.S_alloc | apply Kd.S_drewN | apply Kd.S_drew)); exact HO_107000.out⟩, ⟨by first | exact Kd.S_nil _ _ _ _ _ | exact Kd.N_nil _ _ _ _ _ | exact Kd.V_nil _ _ _ _ _ | exact Kd.Q_nil _ _ _ _ _ | exact Kd.R_nil _ _ _ _ _⟩, ⟨by (with_reducible repeat (first | refine blk_drewN ?_ _ | refine blk_drew ?_ | refine blk_alloc ?_ _)); exact BK104.out⟩, ⟨by (with_reducible repeat (first | refine blk_drewN ?_ _ | refine blk_drew ?_ | refine blk_alloc ?_ _)); exact BK105.out⟩, ⟨by (with_reducible repeat (first | refine blk_drewN ?_ _ | refine blk_drew ?_ | refine blk_alloc ?_ _)); exact BK106.out⟩, ⟨by repeat (first | (with_reducible first | exact HB.out | apply below_alloc | apply pw_below_drewN | apply below_drew1 | refine below_set ?_ GE104.out | refine below_set ?_ GE105.out | refine below_set ?_ GE106.out) | exact HB.out)⟩⟩
        case round =>
          clear H'
          try clear c1
          try clear p1
          try clear q1
          try clear hx1
          try clear c2
          try clear p2
          try clear c3
          try clear c5
          try clear c5b0
          try clear c6
          try clear c6b0
          try clear p6
          try clear c7
          try clear c8
          try clear c9
          try clear c10
          try clear c11
          try clear p11
          try clear q11
          try clear hx11
          try clear c20
          try clear c21
          try clear hcz11_0
          try clear hcz11_1
          try clear hcz22_0
          try clear hcz22_1
          try clear hfz11_0
          try clear hfz11_1
          try clear hfz22_0
          try clear hfz22_1
          try clear hx110_0
          try clear hx110_1
          try clear hx114_0
          try clear hx114_1
          try clear p110
          try clear p114
          try clear p2
          try clear q110
          try clear q114
          obtain ⟨x5_2, x107001_2, u107001, rfl, HA, HK2, HO_107000, HO_107001, BK104, BK105, BK106, HB⟩ := hrel
          cases gk with
          | zero => exact absurd HA.out (by simp [catamaranref05_Twin.l1])
          | succ k2 =>
            have H := HA.out
            clear HA
            simp only [catamaranref05_Twin.l1] at H
            by_cases c23 : x5_2 < (l0_1.length : Int)
            · rw [if_pos c23] at H
              have c23b0 : decide (x5_2 < (l0_1.length : Int)) = true := decide_eq_true c23
              clear c23
              by_cases c24 : 0 ≤ x5_2
              · rw [if_pos c24] at H
                have c24b0 : decide (0 ≤ x5_2) = true := decide_eq_true c24
                clear c24
                obtain ⟨y119, hy119⟩ : ∃ y_ : List Int, y_ = (([] : List Int)) := ⟨_, rfl⟩
                replace H : (if y119.length + ((rd_T65 l0_1 x5_2).f1).length < 140737488355328 then (if x107001_2.length < 4398046511104 then (catamaranref05_Twin.l1 k2 (wrap64 (x5_2 + 1)) l0_0 l0_1 x107000_1 (x107001_2 ++ [(⟨(rd_T65 l0_1 x5_2).f0, (y119 ++ ((rd_T65 l0_1 x5_2).f1))⟩ : S65)])) else (none)) else (none)) = some (r1, r2) := by first | (rw [hy119]; with_reducible exact H) | (have H2_ := (Option.bind_some _ _).symm.trans H; rw [hy119]; with_reducible exact H2_) | (have H2_ := (Option.bind_some _ _).symm.trans H; with_reducible exact H2_) | with_reducible exact H | (rw [hy119]; exact H) | exact H
                have Ny119 := Aside0.mk hy119
                clear hy119
                by_cases c25 : y119.length + ((rd_T65 l0_1 x5_2).f1).length < 140737488355328
                · rw [if_pos c25] at H
                  have LMc25 := Aside0.mk c25
                  clear c25
                  obtain ⟨y123, hy123⟩ : ∃ y_ : List Int, y_ = (y119 ++ ((rd_T65 l0_1 x5_2).f1)) := ⟨_, rfl⟩
                  replace H : (if x107001_2.length < 4398046511104 then (catamaranref05_Twin.l1 k2 (wrap64 (x5_2 + 1)) l0_0 l0_1 x107000_1 (x107001_2 ++ [(⟨(rd_T65 l0_1 x5_2).f0, y123⟩ : S65)])) else (none)) = some (r1, r2) := by first | (rw [hy123]; with_reducible exact H) | (have H2_ := (Option.bind_some _ _).symm.trans H; rw [hy123]; with_reducible exact H2_) | (have H2_ := (Option.bind_some _ _).symm.trans H; with_reducible exact H2_) | with_reducible exact H | (rw [hy123]; exact H) | exact H
                  have Ny123 := Aside0.mk hy123
                  clear hy123
                  by_cases c26 : x107001_2.length < 4398046511104
                  · rw [if_pos c26] at H
                    have LMc26 := Aside0.mk c26
                    clear c26
                    obtain ⟨y126, hy126⟩ : ∃ y_ : List (S65), y_ = (x107001_2 ++ [(⟨(rd_T65 l0_1 x5_2).f0, y123⟩ : S65)]) := ⟨_, rfl⟩
                    replace H : (catamaranref05_Twin.l1 k2 (wrap64 (x5_2 + 1)) l0_0 l0_1 x107000_1 y126) = some (r1, r2) := by first | (rw [hy126]; with_reducible exact H) | (have H2_ := (Option.bind_some _ _).symm.trans H; rw [hy126]; with_reducible exact H2_) | (have H2_ := (Option.bind_some _ _).symm.trans H; with_reducible exact H2_) | with_reducible exact H | (rw [hy126]; exact H) | exact H
                    have Ny126 := Aside0.mk hy126
                    clear hy126
                    have H' := Aside0.mk H
                    clear H
                    have hnb27 := NB104_105.out
                    have hnc27 := NB105_104.out
                    have hnb28 := NB104_106.out
                    have hnc28 := NB106_104.out
                    have hcz29_0 : wr.cell? ⟨gb104, 0, none⟩ = some (.slice A0_0 l0_0.length c0_0) := (blk_cell BK104.out 0).trans rfl
                    have hcz29_1 : wr.cell? ⟨gb104, 1, none⟩ = some (.slice A0_1 l0_1.length c0_1) := (blk_cell BK104.out 1).trans rfl
                    have hfz29_0 := blk_frozen BK104.out 0
                    have hfz29_1 := blk_frozen BK104.out 1
                    try go_wp2
                    have n0_ := Aside0.mk (Kd.S_drew HO_107000.out)
                    have n1_ := Aside0.mk (Kd.S_drew HO_107001.out)
                    have n2_ := Aside0.mk (blk_drew BK104.out)
                    have n3_ := Aside0.mk (blk_drew BK105.out)
                    have n4_ := Aside0.mk (blk_drew BK106.out)
                    have n5_ := Aside0.mk (below_drew1 HB.out)
                    clear HO_107000
                    clear HO_107001
                    clear BK104
                    clear BK105
                    clear BK106
                    clear HB
                    have HO_107000 := n0_
                    have HO_107001 := n1_
                    have BK104 := n2_
                    have BK105 := n3_
                    have BK106 := n4_
                    have HB := n5_
                    clear n0_ n1_ n2_ n3_ n4_ n5_
                    have p118 : 0 ≤ (x5_2 : Int) := of_decide_eq_true (by first | (with_reducible assumption) | assumption)
                    have q118 : x5_2 < (l0_1.length : Int) := of_decide_eq_true (by first | (with_reducible assumption) | assumption)
                    obtain ⟨ad118, A118_1, c118_1, e118, hx118_0, hx118_1, hl118_1, hi118_1⟩ := at_T65 HR0_1.out x5_2 p118 q118
                    have hw118_1 := hx118_1
                    have hw118_0 := hx118_0
                    cases e118
                    replace hx118_0 := (HB.out.cell (World.block_lt_of_cell? w _ hx118_0)).trans hx118_0
                    replace hx118_1 := (HB.out.cell (World.block_lt_of_cell? w _ hx118_1)).trans hx118_1
                    have HR118_1 := Aside0.mk hi118_1
                    have HC118_1 := Aside0.mk hl118_1
                    clear hi118_1 hl118_1
                    replace p118 := eq_true p118
                    replace q118 := eq_true q118
                    have p122 : 0 ≤ (x5_2 : Int) := of_decide_eq_true (by first | (with_reducible assumption) | assumption)
                    have q122 : x5_2 < (l0_1.length : Int) := of_decide_eq_true (by first | (with_reducible assumption) | assumption)
                    obtain ⟨ad122, A122_1, c122_1, e122, hx122_0, hx122_1, hl122_1, hi122_1⟩ := at_T65 HR0_1.out x5_2 p122 q122
                    have hw122_1 := hx122_1
                    have hw122_0 := hx122_0
                    obtain rfl : ad118 = ad122 := (by injection e122)
                    replace hx122_0 := (HB.out.cell (World.block_lt_of_cell? w _ hx122_0)).trans hx122_0
                    replace hx122_1 := (HB.out.cell (World.block_lt_of_cell? w _ hx122_1)).trans hx122_1
                    have HR122_1 := Aside0.mk hi122_1
                    have HC122_1 := Aside0.mk hl122_1
                    clear hi122_1 hl122_1
                    replace p122 := eq_true p122
                    replace q122 := eq_true q122
                    have ea_ := Option.some.inj (hx118_1.symm.trans hx122_1)
                    injection ea_ with ea_ en_ ec_
                    subst ea_
                    subst ec_
                    clear en_
                    refine start_ (n := 21) (S := fun w' => w'.cell? ⟨gb106, 0, none⟩ = some (u107000) ∧ w'.cell? ⟨gb106, 1, none⟩ = some (u107001) ∧ w'.cell? ⟨gb104, 0, none⟩ = some (.slice A0_0 l0_0.length c0_0) ∧ w'.cell? ⟨gb104, 1, none⟩ = some (.slice (some ad118) l0_1.length c0_1) ∧ w'.cell? (ad118.add ((x5_2).toNat * 2)) = some (.int .i64 ((rd_T65 l0_1 x5_2).f0)) ∧ w'.cell? ⟨(ad118.add ((x5_2).toNat * 2)).block, (ad118.add ((x5_2).toNat * 2)).off + 1, none⟩ = some (.slice A118_1 ((rd_T65 l0_1 x5_2).f1).length c118_1) ∧ w'.cell? (ad118.add ((x5_2).toNat * 2)) = some (.int .i64 ((rd_T65 l0_1 x5_2).f0)) ∧ w'.cell? ⟨(ad118.add ((x5_2).toNat * 2)).block, (ad118.add ((x5_2).toNat * 2)).off + 1, none⟩ = some (.slice A118_1 ((rd_T65 l0_1 x5_2).f1).length c118_1)) (ds := [20]) #[false, false, false, false, false, false, false, false, false, false, false, false, false, false, false, false, false, false, false, false, false] (by kernel_rfl) rfl rfl ⟨(blk_cell BK106.out 0).trans rfl, (blk_cell BK106.out 1).trans rfl, (blk_cell BK104.out 0).trans rfl, (blk_cell BK104.out 1).trans rfl, ((HB.out.cell (World.block_lt_of_cell? w _ hw118_0)).trans hw118_0), ((HB.out.cell (World.block_lt_of_cell? w _ hw118_1)).trans hw118_1), ((HB.out.cell (World.block_lt_of_cell? w _ hw122_0)).trans hw122_0), ((HB.out.cell (World.block_lt_of_cell? w _ hw122_1)).trans hw122_1)⟩ (fun hHeld => ?_); refine with_tabW catamaranref05_Twin.tab9 catamaranref05_Twin.bits9 (fun HT_ HW_ => ?_)
                    generalize wr.drew = w30 at HO_107000 HO_107001 BK104 BK105 BK106 HB HR118_1 HR122_1 hx118_0 hx118_1 hx122_0 hx122_1 hHeld ⊢
                    refine pure_ (i := 0) (N := some 40) (v := ?_) (a' := ?_) #[true, false, false, false, false, false, false, false, false, false, false, false, false, false, false, false, false, false, false, false, false] rfl rfl (any_of HT_.out (by kernel_rfl)) (fun _ _ _ h => h) (Or.inl ⟨by rfl, ?_⟩) ?_ ?_
                    rotate_left
                    · intro w'
                      go_simp
                      with_reducible rfl
                    rotate_left
                    · simp only [Act.put, List.setIfInBounds_toArray, List.set_cons_zero, List.set_cons_succ, i64_w, i32_w]
                      rfl
                    refine pure_ (i := 2) (N := some 42) (v := ?_) (a' := ?_) #[true, false, true, false, false, false, false, false, false, false, false, false, false, false, false, false, false, false, false, false, false] rfl rfl (any_of HT_.out (by kernel_rfl)) (fun _ _ _ h => h) (Or.inl ⟨by rfl, ?_⟩) ?_ ?_
                    rotate_left
                    · intro w'
                      go_simp
                      with_reducible rfl
                    rotate_left
                    · simp only [Act.put, List.setIfInBounds_toArray, List.set_cons_zero, List.set_cons_succ, i64_w, i32_w]
                      rfl
                    refine pure_ (i := 4) (N := some 44) (v := ?_) (a' := ?_) #[true, false, true, false, true, false, false, false, false, false, false, false, false, false, false, false, false, false, false, false, false] rfl rfl (any_of HT_.out (by kernel_rfl)) (fun _ _ _ h => h) (Or.inl ⟨by rfl, ?_⟩) ?_ ?_
                    rotate_left
                    · intro w'
                      go_simp
                      with_reducible rfl
                    rotate_left
                    · simp only [Act.put, List.setIfInBounds_toArray, List.set_cons_zero, List.set_cons_succ, i64_w, i32_w]
                      rfl
                    refine pure_ (i := 9) (N := some 49) (v := ?_) (a' := ?_) #[true, false, true, false, true, false, false, false, false, true, false, false, false, false, false, false, false, false, false, false, false] rfl rfl (any_of HT_.out (by kernel_rfl)) (fun _ _ _ h => h) (Or.inl ⟨by rfl, ?_⟩) ?_ ?_
                    rotate_left
                    · intro w'
                      go_simp
                      with_reducible rfl
                    rotate_left
                    · simp only [Act.put, List.setIfInBounds_toArray, List.set_cons_zero, List.set_cons_succ, i64_w, i32_w]
                      rfl
                    refine pure_ (i := 11) (N := some 51) (v := ?_) (a' := ?_) #[true, false, true, false, true, false, false, false, false, true, false, true, false, false, false, false, false, false, false, false, false] rfl rfl (any_of HT_.out (by kernel_rfl)) (fun _ _ _ h => h) (Or.inl ⟨by rfl, ?_⟩) ?_ ?_
                    rotate_left
                    · intro w'
                      go_simp
                      with_reducible rfl
                    rotate_left
                    · simp only [Act.put, List.setIfInBounds_toArray, List.set_cons_zero, List.set_cons_succ, i64_w, i32_w]
                      rfl
                    refine take_ (i := 1) (N := some 41) (v := ?_) (a' := ?_) #[true, true, true, false, true, false, false, false, false, true, false, true, false, false, false, false, false, false, false, false, false] rfl rfl (take_ofW HT_.out HW_.out (by kernel_rfl)) (fun _ _ _ h => h) (Or.inl ⟨by rfl, ?_⟩) hHeld ?_ ?_
                    rotate_left
                    · rintro w' ⟨s0, s1, s2, s3, s4, s5, s6, s7⟩
                      go_simp
                      with_reducible rfl
                    rotate_left
                    · simp only [Act.put, List.setIfInBounds_toArray, List.set_cons_zero, List.set_cons_succ, i64_w, i32_w]
                      rfl
                    refine take_ (i := 3) (N := some 43) (v := ?_) (a' := ?_) #[true, true, true, true, true, false, false, false, false, true, false, true, false, false, false, false, false, false, false, false, false] rfl rfl (take_ofW HT_.out HW_.out (by kernel_rfl)) (fun _ _ _ h => h) (Or.inl ⟨by rfl, ?_⟩) hHeld ?_ ?_
                    rotate_left
                    · rintro w' ⟨s0, s1, s2, s3, s4, s5, s6, s7⟩
                      go_simp
                      with_reducible rfl
                    rotate_left
                    · simp only [Act.put, List.setIfInBounds_toArray, List.set_cons_zero, List.set_cons_succ, i64_w, i32_w]
                      rfl
                    refine pure_ (i := 5) (N := some 45) (v := ?_) (a' := ?_) #[true, true, true, true, true, true, false, false, false, true, false, true, false, false, false, false, false, false, false, false, false] rfl rfl (any_of HT_.out (by kernel_rfl)) (fun _ _ _ h => h) (Or.inl ⟨by rfl, ?_⟩) ?_ ?_
                    rotate_left
                    · intro w'
                      go_simp
                      with_reducible rfl
                    rotate_left
                    · simp only [Act.put, List.setIfInBounds_toArray, List.set_cons_zero, List.set_cons_succ, i64_w, i32_w]
                      rfl
                    refine pure_ (i := 6) (N := some 46) (v := ?_) (a' := ?_) #[true, true, true, true, true, true, true, false, false, true, false, true, false, false, false, false, false, false, false, false, false] rfl rfl (any_of HT_.out (by kernel_rfl)) (fun _ _ _ h => h) (Or.inl ⟨by rfl, ?_⟩) ?_ ?_
                    rotate_left
                    · intro w'
                      go_simp
                      with_reducible rfl
                    rotate_left
                    · simp only [Act.put, List.setIfInBounds_toArray, List.set_cons_zero, List.set_cons_succ, i64_w, i32_w]
                      rfl
                    refine take_ (i := 7) (N := some 47) (v := ?_) (a' := ?_) #[true, true, true, true, true, true, true, true, false, true, false, true, false, false, false, false, false, false, false, false, false] rfl rfl (take_ofW HT_.out HW_.out (by kernel_rfl)) (fun _ _ _ h => h) (Or.inl ⟨by rfl, ?_⟩) hHeld ?_ ?_
                    rotate_left
                    · rintro w' ⟨s0, s1, s2, s3, s4, s5, s6, s7⟩
                      go_simp
                      with_reducible rfl
                    rotate_left
                    · simp only [Act.put, List.setIfInBounds_toArray, List.set_cons_zero, List.set_cons_succ, i64_w, i32_w]
                      rfl
                    refine take_ (i := 10) (N := some 50) (v := ?_) (a' := ?_) #[true, true, true, true, true, true, true, true, false, true, true, true, false, false, false, false, false, false, false, false, false] rfl rfl (take_ofW HT_.out HW_.out (by kernel_rfl)) (fun _ _ _ h => h) (Or.inl ⟨by rfl, ?_⟩) hHeld ?_ ?_
                    rotate_left
                    · rintro w' ⟨s0, s1, s2, s3, s4, s5, s6, s7⟩
                      go_simp
                      with_reducible rfl
                    rotate_left
                    · simp only [Act.put, List.setIfInBounds_toArray, List.set_cons_zero, List.set_cons_succ, i64_w, i32_w]
                      rfl
                    refine pure_ (i := 12) (N := some 52) (v := ?_) (a' := ?_) #[true, true, true, true, true, true, true, true, false, true, true, true, true, false, false, false, false, false, false, false, false] rfl rfl (any_of HT_.out (by kernel_rfl)) (fun _ _ _ h => h) (Or.inl ⟨by rfl, ?_⟩) ?_ ?_
                    rotate_left
                    · intro w'
                      go_simp
                      with_reducible rfl
                    rotate_left
                    · simp only [Act.put, List.setIfInBounds_toArray, List.set_cons_zero, List.set_cons_succ, i64_w, i32_w]
                      rfl
                    refine pure_ (i := 13) (N := some 53) (v := ?_) (a' := ?_) #[true, true, true, true, true, true, true, true, false, true, true, true, true, true, false, false, false, false, false, false, false] rfl rfl (any_of HT_.out (by kernel_rfl)) (fun _ _ _ h => h) (Or.inl ⟨by rfl, ?_⟩) ?_ ?_
                    rotate_left
                    · intro w'
                      go_simp
                      with_reducible rfl
                    rotate_left
                    · simp only [Act.put, List.setIfInBounds_toArray, List.set_cons_zero, List.set_cons_succ, i64_w, i32_w]
                      rfl
                    refine take_ (i := 14) (N := some 54) (v := ?_) (a' := ?_) #[true, true, true, true, true, true, true, true, false, true, true, true, true, true, true, false, false, false, false, false, false] rfl rfl (take_ofW HT_.out HW_.out (by kernel_rfl)) (fun _ _ _ h => h) (Or.inl ⟨by rfl, ?_⟩) hHeld ?_ ?_
                    rotate_left
                    · rintro w' ⟨s0, s1, s2, s3, s4, s5, s6, s7⟩
                      go_simp
                      with_reducible rfl
                    rotate_left
                    · simp only [Act.put, List.setIfInBounds_toArray, List.set_cons_zero, List.set_cons_succ, i64_w, i32_w]
                      rfl
                    refine one_ (i := 8) (N := some 48) #[true, true, true, true, true, true, true, true, true, true, true, true, true, true, true, false, false, false, false, false, false] rfl rfl (one_of HT_.out (by kernel_rfl)) (by decide) (fun K hK => ?_)
                    refine Kd.R_lit_step (Kd.int .u8) _ 5 ?hg (N := 48) ?hd (xs := ([] : List Int)) (inner := []) (ok := fun _ => True) (okp := fun _ => True) ?hr ?hp (fun _ hk => hk) trivial (Below.refl _ _) (Nat.le_refl _) (by simp) ?_; (case hd => rfl); (case hg => rfl); (case hr => first | (go_simp; done) | (go_simp; rfl)); (case hp => exact (Reps.none _ _))
                    intro v120 w31 ho32 hb hg_ hnew_
                    clear hg_ hnew_
                    (first | rw [← Ny119.out] at ho32 | (simp only [Int.reduceToNat] at ho32; rw [← Ny119.out] at ho32))
                    have n0_ := Aside0.mk (Kd.S_elder' (by (with_reducible repeat (first | apply Kd.S_alloc | apply Kd.S_drewN | apply Kd.S_drew)); exact HO_107000.out) (Kd.R_base ho32) hb)
                    have n1_ := Aside0.mk (Kd.S_elder' (by (with_reducible repeat (first | apply Kd.S_alloc | apply Kd.S_drewN | apply Kd.S_drew)); exact HO_107001.out) (Kd.R_base ho32) hb)
                    have n2_ := Aside0.mk (Kd.R_lower ho32 (below_size (by repeat (first | (with_reducible first | exact HB.out | apply below_alloc | apply pw_below_drewN | apply below_drew1 | refine below_set ?_ GE104.out | refine below_set ?_ GE105.out | refine below_set ?_ GE106.out) | exact HB.out))))
                    have n3_ := Aside0.mk (blk_below (g := gb104) (o := .cells #[.slice A0_0 l0_0.length c0_0, .slice (some ad118) l0_1.length c0_1] 25 (0, 0)) (by (with_reducible repeat (first | refine blk_drewN ?_ _ | refine blk_drew ?_ | refine blk_alloc ?_ _)); exact BK104.out) hb)
                    have n4_ := Aside0.mk (blk_below (g := gb105) (o := .cells #[.slice none 0 0, .slice none 0 0] 25 (0, 0)) (by (with_reducible repeat (first | refine blk_drewN ?_ _ | refine blk_drew ?_ | refine blk_alloc ?_ _)); exact BK105.out) hb)
                    have n5_ := Aside0.mk (blk_below (g := gb106) (o := .cells #[u107000, u107001] 25 (0, 0)) (by (with_reducible repeat (first | refine blk_drewN ?_ _ | refine blk_drew ?_ | refine blk_alloc ?_ _)); exact BK106.out) hb)
                    have n6_ := Aside0.mk (below_step (by repeat (first | (with_reducible first | exact HB.out | apply below_alloc | apply pw_below_drewN | apply below_drew1 | refine below_set ?_ GE104.out | refine below_set ?_ GE105.out | refine below_set ?_ GE106.out) | exact HB.out)) hb)
                    clear HO_107000
                    clear HO_107001
                    clear BK104
                    clear BK105
                    clear BK106
                    clear HB
                    have HO_107000 := n0_
                    have HO_107001 := n1_
                    have HO121 := n2_
                    have BK104 := n3_
                    have BK105 := n4_
                    have BK106 := n5_
                    have HB := n6_
                    clear n0_ n1_ n2_ n3_ n4_ n5_ n6_
                    clear hb ho32
                    refine hK.out _ _ ⟨(blk_cell BK106.out 0).trans rfl, (blk_cell BK106.out 1).trans rfl, (blk_cell BK104.out 0).trans rfl, (blk_cell BK104.out 1).trans rfl, ((HB.out.cell (World.block_lt_of_cell? w _ hw118_0)).trans hw118_0), ((HB.out.cell (World.block_lt_of_cell? w _ hw118_1)).trans hw118_1), ((HB.out.cell (World.block_lt_of_cell? w _ hw122_0)).trans hw122_0), ((HB.out.cell (World.block_lt_of_cell? w _ hw122_1)).trans hw122_1)⟩ (fun hHeld => ?_)
                    clear hK K
                    refine norm_ (a' := ?_) ?_ ?_
                    rotate_left
                    · show Act.put _ (some 48) _ = _
                      simp only [Act.put, List.setIfInBounds_toArray, List.set_cons_zero, List.set_cons_succ, i64_w, i32_w]
                      rfl
                    refine one_ (i := 15) (N := some 55) #[true, true, true, true, true, true, true, true, true, true, true, true, true, true, true, true, false, false, false, false, false] rfl rfl (one_of HT_.out (by kernel_rfl)) (by decide) (fun K hK => ?_)
                    refine Kd.R_append_rows_step (Kd.int .u8) (w0 := w) w.heap.size (by rfl) (.tmp 48) (.tmp 54) 26 5 (.int .u8 0) 1 rfl Try.underlying26 info5 rfl (by decide) (by omega) v120 y119 ((rd_T65 l0_1 x5_2).f1) _ _ _ (fun _ => True) (fun _ => False) rfl rfl ?aO ?aR (fun _ _ h => h) (fun _ h => h.elim) ?aF ?aB ?aS ?aL ?_
                    (case aR => repeat (first | exact (Kd.C_below HR122_1.out HB.out) | (with_reducible refine Kd.C_alloc ?_ _) | (with_reducible refine Kd.C_drewN ?_ _) | (with_reducible refine Kd.C_drew ?_)))
                    (case aB => exact (by repeat (first | (with_reducible first | exact HB.out | apply below_alloc | apply pw_below_drewN | apply below_drew1 | refine below_set ?_ GE104.out | refine below_set ?_ GE105.out | refine below_set ?_ GE106.out) | exact HB.out)))
                    (case aF => exact (fun _ _ => trivial))
                    (case aO => exact (by (with_reducible repeat (first | apply Kd.R_alloc | apply Kd.R_drewN | apply Kd.R_drew)); exact HO121.out))
                    (case aS => exact (below_size (by repeat (first | (with_reducible first | exact HB.out | apply below_alloc | apply pw_below_drewN | apply below_drew1 | refine below_set ?_ GE104.out | refine below_set ?_ GE105.out | refine below_set ?_ GE106.out) | exact HB.out))))
                    (case aL => have := LMc25.out; omega)
                    intro v124 w33 ho hb hg hat
                    rw [← Ny123.out] at ho
                    have n0_ := Aside0.mk (Kd.S_after (ok := (fun _ => True)) (by (with_reducible repeat (first | apply Kd.S_alloc | apply Kd.S_drewN | apply Kd.S_drew)); exact HO_107000.out) hg hat)
                    have n1_ := Aside0.mk (Kd.S_after (ok := (fun _ => True)) (by (with_reducible repeat (first | apply Kd.S_alloc | apply Kd.S_drewN | apply Kd.S_drew)); exact HO_107001.out) hg hat)
                    have n2_ := Aside0.mk (blk_grown (g := gb104) (o := .cells #[.slice A0_0 l0_0.length c0_0, .slice (some ad118) l0_1.length c0_1] 25 (0, 0)) (by (with_reducible repeat (first | refine blk_drewN ?_ _ | refine blk_drew ?_ | refine blk_alloc ?_ _)); exact BK104.out) hg (Kd.R_ne HO121.out BK104.out (by decide)))
                    have n3_ := Aside0.mk (blk_grown (g := gb105) (o := .cells #[.slice none 0 0, .slice none 0 0] 25 (0, 0)) (by (with_reducible repeat (first | refine blk_drewN ?_ _ | refine blk_drew ?_ | refine blk_alloc ?_ _)); exact BK105.out) hg (Kd.R_ne HO121.out BK105.out (by decide)))
                    have n4_ := Aside0.mk (blk_grown (g := gb106) (o := .cells #[u107000, u107001] 25 (0, 0)) (by (with_reducible repeat (first | refine blk_drewN ?_ _ | refine blk_drew ?_ | refine blk_alloc ?_ _)); exact BK106.out) hg (Kd.R_ne HO121.out BK106.out (by decide)))
                    have n5_ := Aside0.mk (hb)
                    have n6_ := Aside0.mk (ho)
                    clear HO_107000
                    clear HO_107001
                    clear BK104
                    clear BK105
                    clear BK106
                    clear HB
                    clear HO121
                    have HO_107000 := n0_
                    have HO_107001 := n1_
                    have BK104 := n2_
                    have BK105 := n3_
                    have BK106 := n4_
                    have HB := n5_
                    have HO125 := n6_
                    clear n0_ n1_ n2_ n3_ n4_ n5_ n6_
                    clear ho hb hg hat
                    obtain ⟨Ao34, co34, eo34⟩ := Kd.R_slice HO125.out
                    (first | subst eo34 | (injection eo34 with f1_ f2_ f3_; have f4_ := f1_.symm; have f5_ := f3_.symm; clear f1_ f2_ f3_; subst f4_; subst f5_))
                    refine hK.out _ _ ⟨(blk_cell BK106.out 0).trans rfl, (blk_cell BK106.out 1).trans rfl, (blk_cell BK104.out 0).trans rfl, (blk_cell BK104.out 1).trans rfl, ((HB.out.cell (World.block_lt_of_cell? w _ hw118_0)).trans hw118_0), ((HB.out.cell (World.block_lt_of_cell? w _ hw118_1)).trans hw118_1), ((HB.out.cell (World.block_lt_of_cell? w _ hw122_0)).trans hw122_0), ((HB.out.cell (World.block_lt_of_cell? w _ hw122_1)).trans hw122_1)⟩ (fun hHeld => ?_)
                    clear hK K
                    refine norm_ (a' := ?_) ?_ ?_
                    rotate_left
                    · show Act.put _ (some 55) _ = _
                      simp only [Act.put, List.setIfInBounds_toArray, List.set_cons_zero, List.set_cons_succ, i64_w, i32_w]
                      rfl
                    refine pure_ (i := 16) (N := some 56) (v := ?_) (a' := ?_) #[true, true, true, true, true, true, true, true, true, true, true, true, true, true, true, true, true, false, false, false, false] rfl rfl (any_of HT_.out (by kernel_rfl)) (fun _ _ _ h => h) (Or.inl ⟨by rfl, ?_⟩) ?_ ?_
                    rotate_left
                    · intro w'
                      go_simp
                      with_reducible rfl
                    rotate_left
                    · simp only [Act.put, List.setIfInBounds_toArray, List.set_cons_zero, List.set_cons_succ, i64_w, i32_w]
                      rfl
                    refine one_ (i := 17) (N := some 57) #[true, true, true, true, true, true, true, true, true, true, true, true, true, true, true, true, true, true, false, false, false] rfl rfl (one_of HT_.out (by kernel_rfl)) (by decide) (fun K hK => ?_)
                    refine value_ (w1 := ?_) (v := ?_) (by rfl) rfl ?_ ?_
                    rotate_left 2
                    · go_simp
                      constructor
                      · rfl
                      · rfl
                    refine hK.out _ _ ⟨(blk_cell (blk_alloc BK106.out _) 0).trans rfl, (blk_cell (blk_alloc BK106.out _) 1).trans rfl, (blk_cell (blk_alloc BK104.out _) 0).trans rfl, (blk_cell (blk_alloc BK104.out _) 1).trans rfl, (World.cell?_alloc_lt _ _ _ (World.block_lt_of_cell? _ _ (((HB.out.cell (World.block_lt_of_cell? w _ hw118_0)).trans hw118_0)))).trans (((HB.out.cell (World.block_lt_of_cell? w _ hw118_0)).trans hw118_0)), (World.cell?_alloc_lt _ _ _ (World.block_lt_of_cell? _ _ (((HB.out.cell (World.block_lt_of_cell? w _ hw118_1)).trans hw118_1)))).trans (((HB.out.cell (World.block_lt_of_cell? w _ hw118_1)).trans hw118_1)), (World.cell?_alloc_lt _ _ _ (World.block_lt_of_cell? _ _ (((HB.out.cell (World.block_lt_of_cell? w _ hw122_0)).trans hw122_0)))).trans (((HB.out.cell (World.block_lt_of_cell? w _ hw122_0)).trans hw122_0)), (World.cell?_alloc_lt _ _ _ (World.block_lt_of_cell? _ _ (((HB.out.cell (World.block_lt_of_cell? w _ hw122_1)).trans hw122_1)))).trans (((HB.out.cell (World.block_lt_of_cell? w _ hw122_1)).trans hw122_1))⟩ (fun hHeld => ?_)
                    clear hK K
                    refine norm_ (a' := ?_) ?_ ?_
                    rotate_left
                    · show Act.put _ (some 57) _ = _
                      simp only [Act.put, List.setIfInBounds_toArray, List.set_cons_zero, List.set_cons_succ, i64_w, i32_w]
                      rfl
                    refine one_ (i := 18) (N := some 58) #[true, true, true, true, true, true, true, true, true, true, true, true, true, true, true, true, true, true, true, false, false] rfl rfl (one_of HT_.out (by kernel_rfl)) (by decide) (fun K hK => ?_)
                    refine Kd.S_append_step k65 (w0 := w) w.heap.size (by rfl) (.tmp 41) (.tmp 57) 23 65 (.agg #[(.int .i64 0), (.slice none 0 0)]) 32 rfl Try.underlying23 info65 rfl (by decide) (by omega) u107001 x107001_2 (⟨(rd_T65 l0_1 x5_2).f0, y123⟩ : S65) [.int .i64 ((rd_T65 l0_1 x5_2).f0), .slice Ao34 y123.length co34] (fun _ => True) (fun k_ => some k_ = (.slice Ao34 y123.length co34 : Value).ownBlock) rfl rfl ?aP (fun k_ hk_ => ((Kd.R_mono (ok' := fun k_ => ((fun _ => True)) k_ ∧ some k_ ≠ (u107001 : Value).ownBlock) (Kd.R_apart' (HO125.out) (Kd.S_typed HO_107001.out) (by decide)) (fun k_ hk => ⟨trivial, hk.2⟩))).1 k_ hk_.symm) ?aF ?aO ?aB ?aS ?aL ?_
                    (case aP => exact k65_mkM _ _ _ (⟨(rd_T65 l0_1 x5_2).f0, y123⟩ : S65) (Kd.R_mono (Kd.R_tight rfl (Kd.R_mono (ok' := fun k_ => ((fun _ => True)) k_ ∧ some k_ ≠ (u107001 : Value).ownBlock) (Kd.R_apart' (HO125.out) (Kd.S_typed HO_107001.out) (by decide)) (fun k_ hk => ⟨trivial, hk.2⟩))) (fun _ h_ => h_)))
                    (case aB => exact (by repeat (first | (with_reducible first | exact HB.out | apply below_alloc | apply pw_below_drewN | apply below_drew1 | refine below_set ?_ GE104.out | refine below_set ?_ GE105.out | refine below_set ?_ GE106.out) | exact HB.out)))
                    (case aF => exact (fun _ _ => trivial))
                    (case aO => exact (by (with_reducible repeat (first | apply Kd.S_alloc | apply Kd.S_drewN | apply Kd.S_drew)); exact Kd.S_mono HO_107001.out (fun k_ hk => ⟨trivial, fun e_ => hk.2 e_⟩)))
                    (case aS => exact (below_size (by repeat (first | (with_reducible first | exact HB.out | apply below_alloc | apply pw_below_drewN | apply below_drew1 | refine below_set ?_ GE104.out | refine below_set ?_ GE105.out | refine below_set ?_ GE106.out) | exact HB.out))))
                    (case aL => have := LMc26.out; omega)
                    intro v127 w35 ho hb hg hat
                    rw [← Ny126.out] at ho
                    have n0_ := Aside0.mk (Kd.S_over' (by (with_reducible repeat (first | apply Kd.S_alloc | apply Kd.S_drewN | apply Kd.S_drew)); exact HO_107000.out) (Kd.S_typed (by (with_reducible repeat (first | apply Kd.S_alloc | apply Kd.S_drewN | apply Kd.S_drew)); exact HO_107001.out)) (by decide) hg)
                    have n1_ := Aside0.mk (blk_grown (g := gb104) (o := .cells #[.slice A0_0 l0_0.length c0_0, .slice (some ad118) l0_1.length c0_1] 25 (0, 0)) (by (with_reducible repeat (first | refine blk_drewN ?_ _ | refine blk_drew ?_ | refine blk_alloc ?_ _)); exact BK104.out) hg (Kd.S_ne HO_107001.out BK104.out (by decide)))
                    have n2_ := Aside0.mk (blk_grown (g := gb105) (o := .cells #[.slice none 0 0, .slice none 0 0] 25 (0, 0)) (by (with_reducible repeat (first | refine blk_drewN ?_ _ | refine blk_drew ?_ | refine blk_alloc ?_ _)); exact BK105.out) hg (Kd.S_ne HO_107001.out BK105.out (by decide)))
                    have n3_ := Aside0.mk (blk_grown (g := gb106) (o := .cells #[u107000, u107001] 25 (0, 0)) (by (with_reducible repeat (first | refine blk_drewN ?_ _ | refine blk_drew ?_ | refine blk_alloc ?_ _)); exact BK106.out) hg (Kd.S_ne HO_107001.out BK106.out (by decide)))
                    have n4_ := Aside0.mk (hb)
                    have n5_ := Aside0.mk (ho)
                    clear HO_107000
                    clear BK104
                    clear BK105
                    clear BK106
                    clear HB
                    clear HO_107001
                    clear HO125
                    have HO_107000 := n0_
                    have BK104 := n1_
                    have BK105 := n2_
                    have BK106 := n3_
                    have HB := n4_
                    have HO128 := n5_
                    clear n0_ n1_ n2_ n3_ n4_ n5_
                    clear ho hb hg hat
                    obtain ⟨Ao36, co36, eo36⟩ := Kd.S_slice HO128.out
                    (first | subst eo36 | (injection eo36 with f1_ f2_ f3_; have f4_ := f1_.symm; have f5_ := f3_.symm; clear f1_ f2_ f3_; subst f4_; subst f5_))
                    refine hK.out _ _ ⟨(blk_cell BK106.out 0).trans rfl, (blk_cell BK106.out 1).trans rfl, (blk_cell BK104.out 0).trans rfl, (blk_cell BK104.out 1).trans rfl, ((HB.out.cell (World.block_lt_of_cell? w _ hw118_0)).trans hw118_0), ((HB.out.cell (World.block_lt_of_cell? w _ hw118_1)).trans hw118_1), ((HB.out.cell (World.block_lt_of_cell? w _ hw122_0)).trans hw122_0), ((HB.out.cell (World.block_lt_of_cell? w _ hw122_1)).trans hw122_1)⟩ (fun hHeld => ?_)
                    clear hK K
                    refine norm_ (a' := ?_) ?_ ?_
                    rotate_left
                    · show Act.put _ (some 58) _ = _
                      simp only [Act.put, List.setIfInBounds_toArray, List.set_cons_zero, List.set_cons_succ, i64_w, i32_w]
                      rfl
                    refine pure_ (i := 19) (N := some 59) (v := ?_) (a' := ?_) #[true, true, true, true, true, true, true, true, true, true, true, true, true, true, true, true, true, true, true, true, false] rfl rfl (any_of HT_.out (by kernel_rfl)) (fun _ _ _ h => h) (Or.inl ⟨by rfl, ?_⟩) ?_ ?_
                    rotate_left
                    · intro w'
                      go_simp
                      with_reducible rfl
                    rotate_left
                    · simp only [Act.put, List.setIfInBounds_toArray, List.set_cons_zero, List.set_cons_succ, i64_w, i32_w]
                      rfl
                    refine last_ (i := 20) (N := none) #[true, true, true, true, true, true, true, true, true, true, true, true, true, true, true, true, true, true, true, true, true] rfl rfl (one_of HT_.out (by kernel_rfl)) (by decide) (fun K hK => ?_)
                    have hs37 : w35.cell? ⟨gb106, 1, none⟩ = some (u107001) := (blk_cell BK106.out 1).trans rfl
                    have hfs37 := blk_frozen BK106.out 1
                    have hns37_0 := NB104_106.out
                    have hns37_1 := NB105_106.out
                    have hms37_0 := NB106_104.out
                    have hms37_1 := NB106_105.out
                    refine skip_ (w1 := ?_) (by rfl) rfl ?_ ?_
                    rotate_left
                    · go_simp
                      rfl
                    refine hK.out _ _ ?_
                    clear hK K
                    refine done_ (done_of HT_.out (by kernel_rfl)) ?_
                    try go_wp2
                    go_roundg k2
                    case measure => have := HK1.out; have := HK2.out; omega
                    case rel => exact ⟨(wrap64 (x5_2 + 1)), (y126), (.slice Ao36 y126.length co36), (by first | rfl | (simp; done) | (simp [*]; done)), H', ⟨by have := HK1.out; have := HK2.out; omega⟩, ⟨by (with_reducible repeat (first | apply Kd.S_alloc | apply Kd.S_drewN | apply Kd.S_drew)); exact Kd.S_mono (Kd.S_far (p := ⟨gb106, 1, none⟩) (Kd.S_types HO_107000.out BK106.out (by decide)) (fun _ hk => hk.2) (.slice Ao36 y126.length co36)) (fun _ hk => trivial)⟩, ⟨by (with_reducible repeat (first | apply Kd.S_alloc | apply Kd.S_drewN | apply Kd.S_drew)); exact Kd.S_mono (Kd.S_far (p := ⟨gb106, 1, none⟩) (Kd.S_types HO128.out BK106.out (by decide)) (fun _ hk => hk.2) (.slice Ao36 y126.length co36)) (fun _ hk => trivial)⟩, ⟨by (with_reducible repeat (first | refine blk_drewN ?_ _ | refine blk_drew ?_ | refine blk_alloc ?_ _)); refine blk_far ?_ NB104_106.out _; (with_reducible repeat (first | refine blk_drewN ?_ _ | refine blk_drew ?_ | refine blk_alloc ?_ _)); exact BK104.out⟩, ⟨by (with_reducible repeat (first | refine blk_drewN ?_ _ | refine blk_drew ?_ | refine blk_alloc ?_ _)); refine blk_far ?_ NB105_106.out _; (with_reducible repeat (first | refine blk_drewN ?_ _ | refine blk_drew ?_ | refine blk_alloc ?_ _)); exact BK105.out⟩, ⟨by (with_reducible repeat (first | refine blk_drewN ?_ _ | refine blk_drew ?_ | refine blk_alloc ?_ _)); refine blk_put (cs := #[u107000, u107001]) ?_ 1 _ rfl; (with_reducible repeat (first | refine blk_drewN ?_ _ | refine blk_drew ?_ | refine blk_alloc ?_ _)); exact BK106.out⟩, ⟨by repeat (first | (with_reducible first | exact HB.out | apply below_alloc | apply pw_below_drewN | apply below_drew1 | refine below_set ?_ GE104.out | refine below_set ?_ GE105.out | refine below_set ?_ GE106.out) | exact HB.out)⟩⟩
                  · rw [if_neg c26] at H
                    exact absurd H (by simp)
                · rw [if_neg c25] at H
                  exact absurd H (by simp)
              · rw [if_neg c24] at H
                exact absurd H (by simp)
            · rw [if_neg c23] at H
              have c23b0 : decide (x5_2 < (l0_1.length : Int)) = false := decide_eq_false c23
              clear c23
              simp only [Option.some.injEq, Prod.mk.injEq] at H
              obtain ⟨rfl, rfl⟩ := H
              have hnb38 := NB104_105.out
              have hnc38 := NB105_104.out
              have hnb39 := NB104_106.out
              have hnc39 := NB106_104.out
              have hcz40_0 : wr.cell? ⟨gb104, 0, none⟩ = some (.slice A0_0 l0_0.length c0_0) := (blk_cell BK104.out 0).trans rfl
              have hcz40_1 : wr.cell? ⟨gb104, 1, none⟩ = some (.slice A0_1 l0_1.length c0_1) := (blk_cell BK104.out 1).trans rfl
              have hfz40_0 := blk_frozen BK104.out 0
              have hfz40_1 := blk_frozen BK104.out 1
              have hnb41 := NB106_105.out
              have hnc41 := NB105_106.out
              have hcz42_0 : wr.cell? ⟨gb106, 0, none⟩ = some (u107000) := (blk_cell BK106.out 0).trans rfl
              have hcz42_1 : wr.cell? ⟨gb106, 1, none⟩ = some (u107001) := (blk_cell BK106.out 1).trans rfl
              have hfz42_0 := blk_frozen BK106.out 0
              have hfz42_1 := blk_frozen BK106.out 1
              obtain ⟨Ao43, co43, eo43⟩ := Kd.S_slice HO_107000.out
              subst eo43
              have hcz44_0 : wr.cell? ⟨gb105, 0, none⟩ = some (.slice none 0 0) := (blk_cell BK105.out 0).trans rfl
              have hcz44_1 : wr.cell? ⟨gb105, 1, none⟩ = some (.slice none 0 0) := (blk_cell BK105.out 1).trans rfl
              have hfz44_0 := blk_frozen BK105.out 0
              have hfz44_1 := blk_frozen BK105.out 1
              obtain ⟨Ao45, co45, eo45⟩ := Kd.S_slice HO_107001.out
              subst eo45
              go_wp2
              refine bodyPost_ret (results_cell_row rfl _ _ gb105 25 #[.slice Ao43 x107000_1.length co43, .slice Ao45 x107001_2.length co45] (0, 0) _ rfl (by (with_reducible repeat (first | refine blk_drewN ?_ _ | refine blk_drew ?_ | refine blk_alloc ?_ _)); refine blk_put (cs := #[.slice Ao43 x107000_1.length co43, .slice none 0 0]) ?_ 1 _ rfl; (with_reducible repeat (first | refine blk_drewN ?_ _ | refine blk_drew ?_ | refine blk_alloc ?_ _)); refine blk_put (cs := #[.slice none 0 0, .slice none 0 0]) ?_ 0 _ rfl; (with_reducible repeat (first | refine blk_drewN ?_ _ | refine blk_drew ?_ | refine blk_alloc ?_ _)); exact BK105.out) Try.underlying25 rfl (by kernel_rfl)) rfl ?_
              exact ⟨_, _, by first | rfl | (simp [errW_none, errW_some] <;> rfl) | (simp [*, errW_none, errW_some] <;> rfl), by (with_reducible repeat (first | apply Kd.S_alloc | apply Kd.S_drewN | apply Kd.S_drew)); exact Kd.S_mono (Kd.S_far (p := ⟨gb105, 1, none⟩) (Kd.S_far (p := ⟨gb105, 0, none⟩) (Kd.S_types HO_107000.out BK105.out (by decide)) (fun _ hk => hk.2) (.slice Ao43 x107000_1.length co43)) (fun _ hk => hk.2) (.slice Ao45 x107001_2.length co45)) (fun _ hk => trivial), by (with_reducible repeat (first | apply Kd.S_alloc | apply Kd.S_drewN | apply Kd.S_drew)); exact Kd.S_mono (Kd.S_far (p := ⟨gb105, 1, none⟩) (Kd.S_far (p := ⟨gb105, 0, none⟩) (Kd.S_types HO_107001.out BK105.out (by decide)) (fun _ hk => hk.2) (.slice Ao43 x107000_1.length co43)) (fun _ hk => hk.2) (.slice Ao45 x107001_2.length co45)) (fun _ hk => trivial), by repeat (first | (with_reducible first | exact HB.out | apply below_alloc | apply pw_below_drewN | apply below_drew1 | refine below_set ?_ GE104.out | refine below_set ?_ GE105.out | refine below_set ?_ GE106.out) | exact HB.out)⟩
end Go.Proofs.Ytjlohdbkjoofcaa.P
end
section
set_option linter.unusedVariables false
set_option linter.unusedSimpArgs false
namespace Go.Proofs.Ytjlohdbkjoofcaa.P
open Go.RowKit Go.Proofs.PrintWords Go.Proofs.PrintLast Go.Proofs.PrintMore
attribute [local go_sem] max2_int min2_int max_two min_two max_three min_three max_four min_four
def catamaranref05_Waits.f (k : Nat) (l0_0 : List (S52)) (l0_1 : List (S65)) (a1 : Int) : Option (Bool × Int) := (catamaranref05_asked.f k l0_0 l0_1 a1).bind fun t216 => (if t216 = 0 then ((catamaranref05_Pending.f k l0_0 l0_1 a1).bind fun t217 => (some (t217, 0))) else (some (false, t216)))
theorem catamaranref05_Waits.mono : ∀ a0 a1 a2 k, LeO (catamaranref05_Waits.f k a0 a1 a2) (catamaranref05_Waits.f (k + 1) a0 a1 a2) := by
  intro a0 a1 a2 k
  unfold catamaranref05_Waits.f
  repeat' first
      | (with_reducible exact catamaranref05_Pending.mono _ _ _ _)
      | (with_reducible exact catamaranref05_asked.mono _ _ _ _)
      | (with_reducible exact LeO.refl _)
      | (with_reducible exact LeO.none _)
      | (with_reducible refine LeO.ite ?_ ?_)
      | (with_reducible refine LeO.bind ?_ (fun _ => ?_))
      | exact catamaranref05_Pending.mono _ _ _ _
      | exact catamaranref05_asked.mono _ _ _ _
      | exact LeO.none _
      | refine LeO.ite ?_ ?_
      | refine LeO.bind ?_ (fun _ => ?_)
set_option maxHeartbeats 8000000 in
set_option maxRecDepth 100000 in
theorem catamaranref05_Waits.calls (k : Nat) (A0_0 : Option Addr) (c0_0 : Nat) (l0_0 : List (S52)) (A0_1 : Option Addr) (c0_1 : Nat) (l0_1 : List (S65)) (a1 : Int) (r1 : Bool) (r2 : Int) (w : World) (hr0_0 : Kd.C k52 w A0_0 l0_0.length l0_0) (hc0_0 : l0_0.length ≤ c0_0) (hr0_1 : Kd.C k65 w A0_1 l0_1.length l0_1) (hc0_1 : l0_1.length ≤ c0_1) (h : catamaranref05_Waits.f k l0_0 l0_1 a1 = some (r1, r2)) :
    Calls Try.prog 37 #[.agg #[.slice A0_0 l0_0.length c0_0, .slice A0_1 l0_1.length c0_1], .int .i64 a1] w fun e w' => e = .returned (.tuple #[.bool r1, .int .i64 r2]) ∧ Below w.heap.size w w' := by
  have hu25 := Try.underlying25
  have HR0_0 := Aside0.mk hr0_0
  have HC0_0 := Aside0.mk hc0_0
  clear hr0_0 hc0_0
  have HR0_1 := Aside0.mk hr0_1
  have HC0_1 := Aside0.mk hc0_1
  clear hr0_1 hc0_1
  have HB := Aside0.mk (Below.refl w.heap.size w)
  have H : ((catamaranref05_asked.f k l0_0 l0_1 a1).bind fun t216 => (if t216 = 0 then ((catamaranref05_Pending.f k l0_0 l0_1 a1).bind fun t217 => (some (t217, 0))) else (some (false, t216)))) = some (r1, r2) := h
  clear h
  replace H := Option.bind_eq_some_iff.mp H
  obtain ⟨t216, A30, H⟩ := H
  replace H : (if t216 = 0 then ((catamaranref05_Pending.f k l0_0 l0_1 a1).bind fun t217 => (some (t217, 0))) else (some (false, t216))) = some (r1, r2) := H
  have A3 := Aside0.mk A30
  clear A30
  by_cases c4 : t216 = 0
  · rw [if_pos c4] at H
    have c4b0 : (t216 == 0) = true := beq_iff_eq.mpr c4
    have c4b1 : (t216 != 0) = false := bne_eq_false_iff_eq.mpr c4
    clear c4
    replace H := Option.bind_eq_some_iff.mp H
    obtain ⟨t217, A50, H⟩ := H
    replace H : (some (t217, 0)) = some (r1, r2) := H
    have A5 := Aside0.mk A50
    clear A50
    simp only [Option.some.injEq, Prod.mk.injEq] at H
    obtain ⟨rfl, rfl⟩ := H
    go_enter Try.func37, Try.ntmps37
    go_wp2_with (first | ((with_reducible refine gate_dst (N := 2) rfl ?_); refine box_event ?hg (N := 2) ?hd (cs := #[.slice A0_0 l0_0.length c0_0, .slice A0_1 l0_1.length c0_1]) (t := 25) ?hr ?_; (case hd => rfl); (case hg => rfl); (case hr => first | (go_simp; done) | (go_simp; rfl)); intro gb215 hg w6 hbox hb; have n0_ := Aside0.mk (below_step (by repeat (first | (with_reducible first | exact HB.out | apply below_alloc | apply pw_below_drewN | apply below_drew1) | exact HB.out)) hb); have n1_ := Aside0.mk (hbox); have n2_ := Aside0.mk ((by rw [hg]; exact (below_size (by repeat (first | (with_reducible first | exact HB.out | apply below_alloc | apply pw_below_drewN | apply below_drew1) | exact HB.out))) : w.heap.size ≤ gb215)); have n3_ := Aside0.mk ((by rw [hg]; exact (below_size (by repeat (first | (with_reducible first | exact HB.out | apply below_alloc | apply pw_below_drewN | apply below_drew1) | exact HB.out))) : w.heap.size ≤ gb215)); clear HB; have HB := n0_; have BK215 := n1_; have GW215 := n2_; have GE215 := n3_; clear n0_ n1_ n2_ n3_; clear hb hbox hg; have hcz7_0 : w6.cell? ⟨gb215, 0, none⟩ = some (.slice A0_0 l0_0.length c0_0) := (blk_cell BK215.out 0).trans rfl; have hcz7_1 : w6.cell? ⟨gb215, 1, none⟩ = some (.slice A0_1 l0_1.length c0_1) := (blk_cell BK215.out 1).trans rfl; have hfz7_0 := blk_frozen BK215.out 0; have hfz7_1 := blk_frozen BK215.out 1) | ((with_reducible refine gate_callee (f := 120) rfl ?_); refine goesL_ (some 9) rfl rfl Try.func120 (by kernel_rfl) rfl #[.agg #[.slice A0_0 l0_0.length c0_0, .slice A0_1 l0_1.length c0_1], .int .i64 a1] rfl (by (try simp only [List.map_toArray, List.map_cons, List.map_nil]); first | done | rfl | (simp only [List.length_drop, List.length_take]; rfl)) ?_; (with_reducible refine (catamaranref05_asked.calls k _ _ l0_0 _ _ l0_1 a1 t216 _ ?side1 ?side2 ?side3 ?side4 A3.out).mono ?_); (case side1 => repeat (first | exact (Kd.C_below HR0_0.out HB.out) | (with_reducible refine Kd.C_alloc ?_ _) | (with_reducible refine Kd.C_drewN ?_ _) | (with_reducible refine Kd.C_drew ?_))); (case side2 => exact HC0_0.out); (case side3 => repeat (first | exact (Kd.C_below HR0_1.out HB.out) | (with_reducible refine Kd.C_alloc ?_ _) | (with_reducible refine Kd.C_drewN ?_ _) | (with_reducible refine Kd.C_drew ?_))); (case side4 => exact HC0_1.out); rintro e w8 ⟨rfl, hb⟩; refine ⟨_, rfl, ?_⟩; have n0_ := Aside0.mk (blk_below (g := gb215) (o := .cells #[.slice A0_0 l0_0.length c0_0, .slice A0_1 l0_1.length c0_1] 25 (0, 0)) (by (with_reducible repeat (first | refine blk_drewN ?_ _ | refine blk_drew ?_ | refine blk_alloc ?_ _)); exact BK215.out) hb); have n1_ := Aside0.mk (below_step (by repeat (first | (with_reducible first | exact HB.out | apply below_alloc | apply pw_below_drewN | apply below_drew1 | refine below_set ?_ GE215.out) | exact HB.out)) hb); clear BK215; clear HB; have BK215 := n0_; have HB := n1_; clear n0_ n1_; (try clear hb); (try clear hb2); (try clear hk); (try clear hi); have hcz9_0 : w8.cell? ⟨gb215, 0, none⟩ = some (.slice A0_0 l0_0.length c0_0) := (blk_cell BK215.out 0).trans rfl; have hcz9_1 : w8.cell? ⟨gb215, 1, none⟩ = some (.slice A0_1 l0_1.length c0_1) := (blk_cell BK215.out 1).trans rfl; have hfz9_0 := blk_frozen BK215.out 0; have hfz9_1 := blk_frozen BK215.out 1) | ((with_reducible refine gate_callee (f := 124) rfl ?_); refine goesL_ (some 15) rfl rfl Try.func124 (by kernel_rfl) rfl #[.agg #[.slice A0_0 l0_0.length c0_0, .slice A0_1 l0_1.length c0_1], .int .i64 a1] rfl (by (try simp only [List.map_toArray, List.map_cons, List.map_nil]); first | done | rfl | (simp only [List.length_drop, List.length_take]; rfl)) ?_; (with_reducible refine (catamaranref05_Pending.calls k _ _ l0_0 _ _ l0_1 a1 t217 _ ?side1 ?side2 ?side3 ?side4 A5.out).mono ?_); (case side1 => repeat (first | exact (Kd.C_below HR0_0.out HB.out) | (with_reducible refine Kd.C_alloc ?_ _) | (with_reducible refine Kd.C_drewN ?_ _) | (with_reducible refine Kd.C_drew ?_))); (case side2 => exact HC0_0.out); (case side3 => repeat (first | exact (Kd.C_below HR0_1.out HB.out) | (with_reducible refine Kd.C_alloc ?_ _) | (with_reducible refine Kd.C_drewN ?_ _) | (with_reducible refine Kd.C_drew ?_))); (case side4 => exact HC0_1.out); rintro e w10 ⟨rfl, hb⟩; refine ⟨_, rfl, ?_⟩; have n0_ := Aside0.mk (blk_below (g := gb215) (o := .cells #[.slice A0_0 l0_0.length c0_0, .slice A0_1 l0_1.length c0_1] 25 (0, 0)) (by (with_reducible repeat (first | refine blk_drewN ?_ _ | refine blk_drew ?_ | refine blk_alloc ?_ _)); exact BK215.out) hb); have n1_ := Aside0.mk (below_step (by repeat (first | (with_reducible first | exact HB.out | apply below_alloc | apply pw_below_drewN | apply below_drew1 | refine below_set ?_ GE215.out) | exact HB.out)) hb); clear BK215; clear HB; have BK215 := n0_; have HB := n1_; clear n0_ n1_; (try clear hb); (try clear hb2); (try clear hk); (try clear hi)))
    go_ret2
    exact ⟨by first | rfl | (simp [errW_none, errW_some] <;> rfl) | (simp [*, errW_none, errW_some] <;> rfl), by repeat (first | (with_reducible first | exact HB.out | apply below_alloc | apply pw_below_drewN | apply below_drew1 | refine below_set ?_ GE215.out) | exact HB.out)⟩
  · rw [if_neg c4] at H
    have c4b0 : (t216 == 0) = false := beq_eq_false_iff_ne.mpr c4
    have c4b1 : (t216 != 0) = true := bne_iff_ne.mpr c4
    simp only [Option.some.injEq, Prod.mk.injEq] at H
    obtain ⟨rfl, rfl⟩ := H
    go_enter Try.func37, Try.ntmps37
    go_wp2_with (first | ((with_reducible refine gate_dst (N := 2) rfl ?_); refine box_event ?hg (N := 2) ?hd (cs := #[.slice A0_0 l0_0.length c0_0, .slice A0_1 l0_1.length c0_1]) (t := 25) ?hr ?_; (case hd => rfl); (case hg => rfl); (case hr => first | (go_simp; done) | (go_simp; rfl)); intro gb215 hg w11 hbox hb; have n0_ := Aside0.mk (below_step (by repeat (first | (with_reducible first | exact HB.out | apply below_alloc | apply pw_below_drewN | apply below_drew1) | exact HB.out)) hb); have n1_ := Aside0.mk (hbox); have n2_ := Aside0.mk ((by rw [hg]; exact (below_size (by repeat (first | (with_reducible first | exact HB.out | apply below_alloc | apply pw_below_drewN | apply below_drew1) | exact HB.out))) : w.heap.size ≤ gb215)); have n3_ := Aside0.mk ((by rw [hg]; exact (below_size (by repeat (first | (with_reducible first | exact HB.out | apply below_alloc | apply pw_below_drewN | apply below_drew1) | exact HB.out))) : w.heap.size ≤ gb215)); clear HB; have HB := n0_; have BK215 := n1_; have GW215 := n2_; have GE215 := n3_; clear n0_ n1_ n2_ n3_; clear hb hbox hg; have hcz12_0 : w11.cell? ⟨gb215, 0, none⟩ = some (.slice A0_0 l0_0.length c0_0) := (blk_cell BK215.out 0).trans rfl; have hcz12_1 : w11.cell? ⟨gb215, 1, none⟩ = some (.slice A0_1 l0_1.length c0_1) := (blk_cell BK215.out 1).trans rfl; have hfz12_0 := blk_frozen BK215.out 0; have hfz12_1 := blk_frozen BK215.out 1) | ((with_reducible refine gate_callee (f := 120) rfl ?_); refine goesL_ (some 9) rfl rfl Try.func120 (by kernel_rfl) rfl #[.agg #[.slice A0_0 l0_0.length c0_0, .slice A0_1 l0_1.length c0_1], .int .i64 a1] rfl (by (try simp only [List.map_toArray, List.map_cons, List.map_nil]); first | done | rfl | (simp only [List.length_drop, List.length_take]; rfl)) ?_; (with_reducible refine (catamaranref05_asked.calls k _ _ l0_0 _ _ l0_1 a1 t216 _ ?side1 ?side2 ?side3 ?side4 A3.out).mono ?_); (case side1 => repeat (first | exact (Kd.C_below HR0_0.out HB.out) | (with_reducible refine Kd.C_alloc ?_ _) | (with_reducible refine Kd.C_drewN ?_ _) | (with_reducible refine Kd.C_drew ?_))); (case side2 => exact HC0_0.out); (case side3 => repeat (first | exact (Kd.C_below HR0_1.out HB.out) | (with_reducible refine Kd.C_alloc ?_ _) | (with_reducible refine Kd.C_drewN ?_ _) | (with_reducible refine Kd.C_drew ?_))); (case side4 => exact HC0_1.out); rintro e w13 ⟨rfl, hb⟩; refine ⟨_, rfl, ?_⟩; have n0_ := Aside0.mk (blk_below (g := gb215) (o := .cells #[.slice A0_0 l0_0.length c0_0, .slice A0_1 l0_1.length c0_1] 25 (0, 0)) (by (with_reducible repeat (first | refine blk_drewN ?_ _ | refine blk_drew ?_ | refine blk_alloc ?_ _)); exact BK215.out) hb); have n1_ := Aside0.mk (below_step (by repeat (first | (with_reducible first | exact HB.out | apply below_alloc | apply pw_below_drewN | apply below_drew1 | refine below_set ?_ GE215.out) | exact HB.out)) hb); clear BK215; clear HB; have BK215 := n0_; have HB := n1_; clear n0_ n1_; (try clear hb); (try clear hb2); (try clear hk); (try clear hi)))
    go_ret2
    exact ⟨by first | rfl | (simp [errW_none, errW_some] <;> rfl) | (simp [*, errW_none, errW_some] <;> rfl), by repeat (first | (with_reducible first | exact HB.out | apply below_alloc | apply pw_below_drewN | apply below_drew1 | refine below_set ?_ GE215.out) | exact HB.out)⟩
end Go.Proofs.Ytjlohdbkjoofcaa.P
end
section
set_option linter.unusedVariables false
set_option linter.unusedSimpArgs false
namespace Go.Proofs.Ytjlohdbkjoofcaa.P
open Go.RowKit Go.Proofs.PrintWords Go.Proofs.PrintLast Go.Proofs.PrintMore
attribute [local go_sem] max2_int min2_int max_two min_two max_three min_three max_four min_four
def catamaranref05_With.f (k : Nat) (l0_0 : List (S52)) (l0_1 : List (S65)) (a1 : Int) (l2 : List Int) : Option ((List (S52)) × (List (S65))) := (catamaranref05_Twin.f k l0_0 l0_1).bind fun bt165 => ((some (([] : List Int) : List Int)).bind fun y172 => (if y172.length + l2.length < 140737488355328 then (if bt165.2.length < 4398046511104 then (some (bt165.1, (bt165.2 ++ [(⟨a1, (y172 ++ l2)⟩ : S65)]))) else (none)) else (none)))
theorem catamaranref05_With.mono : ∀ a0 a1 a2 a3 k, LeO (catamaranref05_With.f k a0 a1 a2 a3) (catamaranref05_With.f (k + 1) a0 a1 a2 a3) := by
  intro a0 a1 a2 a3 k
  unfold catamaranref05_With.f
  repeat' first
      | (with_reducible exact catamaranref05_Twin.mono _ _ _)
      | (with_reducible exact LeO.refl _)
      | (with_reducible exact LeO.none _)
      | (with_reducible refine LeO.ite ?_ ?_)
      | (with_reducible refine LeO.bind ?_ (fun _ => ?_))
      | exact catamaranref05_Twin.mono _ _ _
      | exact LeO.none _
      | refine LeO.ite ?_ ?_
      | refine LeO.bind ?_ (fun _ => ?_)
def catamaranref05_With.T2 : Bool × List (List Nat × List Nat) := (true, [([], []), ([0], [0]), ([], []), ([], []), ([], []), ([3, 4], [3, 4]), ([2, 5], [2, 5]), ([6], [6]), ([1, 7, 5], [1, 7]), ([0, 1, 2, 3, 4, 5, 6, 7, 8], []), ([9, 8, 8, 0, 1, 2, 3, 4, 5, 6, 7, 8], [8, 9])])
def catamaranref05_With.B2 : List Nat := [0, 1, 0, 0, 0, 24, 60, 124, 255, 511, 1023]
theorem catamaranref05_With.tab2 : rtab .any (opsOf Try.f121 2) = catamaranref05_With.T2 := by kernel_rfl
theorem catamaranref05_With.bits2 : waitsOk catamaranref05_With.T2.2 catamaranref05_With.B2 = true := by kernel_rfl
set_option maxHeartbeats 8000000 in
set_option maxRecDepth 100000 in
theorem catamaranref05_With.calls (k : Nat) (A0_0 : Option Addr) (c0_0 : Nat) (l0_0 : List (S52)) (A0_1 : Option Addr) (c0_1 : Nat) (l0_1 : List (S65)) (a1 : Int) (A2 : Option Addr) (c2 : Nat) (l2 : List Int) (r1 : List (S52)) (r2 : List (S65)) (w : World) (hr0_0 : Kd.C k52 w A0_0 l0_0.length l0_0) (hc0_0 : l0_0.length ≤ c0_0) (hr0_1 : Kd.C k65 w A0_1 l0_1.length l0_1) (hc0_1 : l0_1.length ≤ c0_1) (hr2 : Kd.C (Kd.int .u8) w A2 l2.length l2) (hc2 : l2.length ≤ c2) (h : catamaranref05_With.f k l0_0 l0_1 a1 l2 = some (r1, r2)) :
    Calls Try.prog 121 #[.agg #[.slice A0_0 l0_0.length c0_0, .slice A0_1 l0_1.length c0_1], .int .i64 a1, .slice A2 l2.length c2] w fun e w' => ∃ v0_ v1_ : Value, e = .returned (.agg #[v0_, v1_]) ∧ Kd.S k52 52 w' w.heap.size (fun _ => True) v0_ r1 ∧ Kd.S k65 65 w' w.heap.size (fun _ => True) v1_ r2 ∧ Below w.heap.size w w' := by
  have hu25 := Try.underlying25
  have hu65 := Try.underlying65
  have HR0_0 := Aside0.mk hr0_0
  have HC0_0 := Aside0.mk hc0_0
  clear hr0_0 hc0_0
  have HR0_1 := Aside0.mk hr0_1
  have HC0_1 := Aside0.mk hc0_1
  clear hr0_1 hc0_1
  have HR2 := Aside0.mk hr2
  have HC2 := Aside0.mk hc2
  clear hr2 hc2
  have HB := Aside0.mk (Below.refl w.heap.size w)
  have H : ((catamaranref05_Twin.f k l0_0 l0_1).bind fun bt165 => ((some (([] : List Int) : List Int)).bind fun y172 => (if y172.length + l2.length < 140737488355328 then (if bt165.2.length < 4398046511104 then (some (bt165.1, (bt165.2 ++ [(⟨a1, (y172 ++ l2)⟩ : S65)]))) else (none)) else (none)))) = some (r1, r2) := h
  clear h
  replace H := Option.bind_eq_some_iff.mp H
  obtain ⟨⟨t165, t168⟩, A40, H⟩ := H
  replace H : ((some (([] : List Int) : List Int)).bind fun y172 => (if y172.length + l2.length < 140737488355328 then (if t168.length < 4398046511104 then (some (t165, (t168 ++ [(⟨a1, (y172 ++ l2)⟩ : S65)]))) else (none)) else (none))) = some (r1, r2) := H
  have A4 := Aside0.mk A40
  clear A40
  obtain ⟨y172, hy172⟩ : ∃ y_ : List Int, y_ = (([] : List Int)) := ⟨_, rfl⟩
  replace H : (if y172.length + l2.length < 140737488355328 then (if t168.length < 4398046511104 then (some (t165, (t168 ++ [(⟨a1, (y172 ++ l2)⟩ : S65)]))) else (none)) else (none)) = some (r1, r2) := by first | (rw [hy172]; with_reducible exact H) | (have H2_ := (Option.bind_some _ _).symm.trans H; rw [hy172]; with_reducible exact H2_) | (have H2_ := (Option.bind_some _ _).symm.trans H; with_reducible exact H2_) | with_reducible exact H | (rw [hy172]; exact H) | exact H
  have Ny172 := Aside0.mk hy172
  clear hy172
  by_cases c5 : y172.length + l2.length < 140737488355328
  · rw [if_pos c5] at H
    have LMc5 := Aside0.mk c5
    clear c5
    obtain ⟨y175, hy175⟩ : ∃ y_ : List Int, y_ = (y172 ++ l2) := ⟨_, rfl⟩
    replace H : (if t168.length < 4398046511104 then (some (t165, (t168 ++ [(⟨a1, y175⟩ : S65)]))) else (none)) = some (r1, r2) := by first | (rw [hy175]; with_reducible exact H) | (have H2_ := (Option.bind_some _ _).symm.trans H; rw [hy175]; with_reducible exact H2_) | (have H2_ := (Option.bind_some _ _).symm.trans H; with_reducible exact H2_) | with_reducible exact H | (rw [hy175]; exact H) | exact H
    have Ny175 := Aside0.mk hy175
    clear hy175
    by_cases c6 : t168.length < 4398046511104
    · rw [if_pos c6] at H
      have LMc6 := Aside0.mk c6
      clear c6
      obtain ⟨y178, hy178⟩ : ∃ y_ : List (S65), y_ = (t168 ++ [(⟨a1, y175⟩ : S65)]) := ⟨_, rfl⟩
      replace H : (some (t165, y178)) = some (r1, r2) := by first | (rw [hy178]; with_reducible exact H) | (have H2_ := (Option.bind_some _ _).symm.trans H; rw [hy178]; with_reducible exact H2_) | (have H2_ := (Option.bind_some _ _).symm.trans H; with_reducible exact H2_) | with_reducible exact H | (rw [hy178]; exact H) | exact H
      have Ny178 := Aside0.mk hy178
      clear hy178
      simp only [Option.some.injEq, Prod.mk.injEq] at H
      obtain ⟨rfl, rfl⟩ := H
      go_enter Try.func121, Try.ntmps121
      try go_wp2_with (first | ((with_reducible refine gate_dst (N := 3) rfl ?_); refine box_event ?hg (N := 3) ?hd (cs := #[.slice A0_0 l0_0.length c0_0, .slice A0_1 l0_1.length c0_1]) (t := 25) ?hr ?_; (case hd => rfl); (case hg => rfl); (case hr => first | (go_simp; done) | (go_simp; rfl)); intro gb163 hg w7 hbox hb; have n0_ := Aside0.mk (below_step (by repeat (first | (with_reducible first | exact HB.out | apply below_alloc | apply pw_below_drewN | apply below_drew1) | exact HB.out)) hb); have n1_ := Aside0.mk (hbox); have n2_ := Aside0.mk ((by rw [hg]; exact (below_size (by repeat (first | (with_reducible first | exact HB.out | apply below_alloc | apply pw_below_drewN | apply below_drew1) | exact HB.out))) : w.heap.size ≤ gb163)); have n3_ := Aside0.mk ((by rw [hg]; exact (below_size (by repeat (first | (with_reducible first | exact HB.out | apply below_alloc | apply pw_below_drewN | apply below_drew1) | exact HB.out))) : w.heap.size ≤ gb163)); clear HB; have HB := n0_; have BK163 := n1_; have GW163 := n2_; have GE163 := n3_; clear n0_ n1_ n2_ n3_; clear hb hbox hg) | ((with_reducible refine gate_dst (N := 6) rfl ?_); refine box_event ?hg (N := 6) ?hd (cs := #[.slice none 0 0, .slice none 0 0]) (t := 25) ?hr ?_; (case hd => rfl); (case hg => rfl); (case hr => first | (go_simp; done) | (go_simp; rfl)); intro gb164 hg w8 hbox hb; have n0_ := Aside0.mk (blk_below (g := gb163) (o := .cells #[.slice A0_0 l0_0.length c0_0, .slice A0_1 l0_1.length c0_1] 25 (0, 0)) (by (with_reducible repeat (first | refine blk_drewN ?_ _ | refine blk_drew ?_ | refine blk_alloc ?_ _)); exact BK163.out) hb); have n1_ := Aside0.mk (below_step (by repeat (first | (with_reducible first | exact HB.out | apply below_alloc | apply pw_below_drewN | apply below_drew1 | refine below_set ?_ GE163.out) | exact HB.out)) hb); have n2_ := Aside0.mk (hbox); have n3_ := Aside0.mk ((by rw [hg]; exact (below_size (by repeat (first | (with_reducible first | exact HB.out | apply below_alloc | apply pw_below_drewN | apply below_drew1 | refine below_set ?_ GE163.out) | exact HB.out))) : w.heap.size ≤ gb164)); have n4_ := Aside0.mk ((by rw [hg]; exact (below_size (by repeat (first | (with_reducible first | exact HB.out | apply below_alloc | apply pw_below_drewN | apply below_drew1 | refine below_set ?_ GE163.out) | exact HB.out))) : w.heap.size ≤ gb164)); have n5_ := Aside0.mk ((by rw [hg]; exact Nat.ne_of_lt (blk_lt (g := gb163) (o := .cells #[.slice A0_0 l0_0.length c0_0, .slice A0_1 l0_1.length c0_1] 25 (0, 0)) (by (with_reducible repeat (first | refine blk_drewN ?_ _ | refine blk_drew ?_ | refine blk_alloc ?_ _)); exact BK163.out)) : gb163 ≠ gb164)); have n6_ := Aside0.mk ((by rw [hg]; exact Nat.ne_of_gt (blk_lt (g := gb163) (o := .cells #[.slice A0_0 l0_0.length c0_0, .slice A0_1 l0_1.length c0_1] 25 (0, 0)) (by (with_reducible repeat (first | refine blk_drewN ?_ _ | refine blk_drew ?_ | refine blk_alloc ?_ _)); exact BK163.out)) : gb164 ≠ gb163)); clear BK163; clear HB; have BK163 := n0_; have HB := n1_; have BK164 := n2_; have GW164 := n3_; have GE164 := n4_; have NB163_164 := n5_; have NB164_163 := n6_; clear n0_ n1_ n2_ n3_ n4_ n5_ n6_; clear hb hbox hg; have hnb9 := NB163_164.out; have hnc9 := NB164_163.out; have hcz10_0 : w8.cell? ⟨gb163, 0, none⟩ = some (.slice A0_0 l0_0.length c0_0) := (blk_cell BK163.out 0).trans rfl; have hcz10_1 : w8.cell? ⟨gb163, 1, none⟩ = some (.slice A0_1 l0_1.length c0_1) := (blk_cell BK163.out 1).trans rfl; have hfz10_0 := blk_frozen BK163.out 0; have hfz10_1 := blk_frozen BK163.out 1) | ((with_reducible refine gate_callee (f := 31) rfl ?_); refine goesL_ (some 9) rfl rfl Try.func31 (by kernel_rfl) rfl #[.agg #[.slice A0_0 l0_0.length c0_0, .slice A0_1 l0_1.length c0_1]] rfl (by (try simp only [List.map_toArray, List.map_cons, List.map_nil]); first | done | rfl | (simp only [List.length_drop, List.length_take]; rfl)) ?_; (with_reducible refine (catamaranref05_Twin.calls k _ _ l0_0 _ _ l0_1 t165 t168 _ ?side1 ?side2 ?side3 ?side4 A4.out).mono ?_); (case side1 => repeat (first | exact (Kd.C_below HR0_0.out HB.out) | (with_reducible refine Kd.C_alloc ?_ _) | (with_reducible refine Kd.C_drewN ?_ _) | (with_reducible refine Kd.C_drew ?_))); (case side2 => exact HC0_0.out); (case side3 => repeat (first | exact (Kd.C_below HR0_1.out HB.out) | (with_reducible refine Kd.C_alloc ?_ _) | (with_reducible refine Kd.C_drewN ?_ _) | (with_reducible refine Kd.C_drew ?_))); (case side4 => exact HC0_1.out); rintro e w11 ⟨v166, v169, rfl, ho0, ho1, hb⟩; refine ⟨_, rfl, ?_⟩; have n0_ := Aside0.mk (Kd.S_lower ho0 (below_size (by repeat (first | (with_reducible first | exact HB.out | apply below_alloc | apply pw_below_drewN | apply below_drew1 | refine below_set ?_ GE163.out | refine below_set ?_ GE164.out) | exact HB.out)))); have n1_ := Aside0.mk (Kd.S_lower ho1 (below_size (by repeat (first | (with_reducible first | exact HB.out | apply below_alloc | apply pw_below_drewN | apply below_drew1 | refine below_set ?_ GE163.out | refine below_set ?_ GE164.out) | exact HB.out)))); have n2_ := Aside0.mk (blk_below (g := gb163) (o := .cells #[.slice A0_0 l0_0.length c0_0, .slice A0_1 l0_1.length c0_1] 25 (0, 0)) (by (with_reducible repeat (first | refine blk_drewN ?_ _ | refine blk_drew ?_ | refine blk_alloc ?_ _)); exact BK163.out) hb); have n3_ := Aside0.mk (blk_below (g := gb164) (o := .cells #[.slice none 0 0, .slice none 0 0] 25 (0, 0)) (by (with_reducible repeat (first | refine blk_drewN ?_ _ | refine blk_drew ?_ | refine blk_alloc ?_ _)); exact BK164.out) hb); have n4_ := Aside0.mk (below_step (by repeat (first | (with_reducible first | exact HB.out | apply below_alloc | apply pw_below_drewN | apply below_drew1 | refine below_set ?_ GE163.out | refine below_set ?_ GE164.out) | exact HB.out)) hb); clear BK163; clear BK164; clear HB; have HO167 := n0_; have HO170 := n1_; have BK163 := n2_; have BK164 := n3_; have HB := n4_; clear n0_ n1_ n2_ n3_ n4_; (try clear hb); (try clear hb2); (try clear hk); (try clear hi); (try clear ho0); (try clear ho1)) | ((with_reducible refine gate_dst (N := 7) rfl ?_); refine box_event ?hg (N := 7) ?hd (cs := #[.slice none 0 0, .slice none 0 0]) (t := 25) ?hr ?_; (case hd => rfl); (case hg => rfl); (case hr => first | (go_simp; done) | (go_simp; rfl)); intro gb171 hg w12 hbox hb; have n0_ := Aside0.mk (Kd.S_below (by (with_reducible repeat (first | apply Kd.S_alloc | apply Kd.S_drewN | apply Kd.S_drew)); exact HO167.out) hb); have n1_ := Aside0.mk (Kd.S_below (by (with_reducible repeat (first | apply Kd.S_alloc | apply Kd.S_drewN | apply Kd.S_drew)); exact HO170.out) hb); have n2_ := Aside0.mk (blk_below (g := gb163) (o := .cells #[.slice A0_0 l0_0.length c0_0, .slice A0_1 l0_1.length c0_1] 25 (0, 0)) (by (with_reducible repeat (first | refine blk_drewN ?_ _ | refine blk_drew ?_ | refine blk_alloc ?_ _)); exact BK163.out) hb); have n3_ := Aside0.mk (blk_below (g := gb164) (o := .cells #[.slice none 0 0, .slice none 0 0] 25 (0, 0)) (by (with_reducible repeat (first | refine blk_drewN ?_ _ | refine blk_drew ?_ | refine blk_alloc ?_ _)); exact BK164.out) hb); have n4_ := Aside0.mk (below_step (by repeat (first | (with_reducible first | exact HB.out | apply below_alloc | apply pw_below_drewN | apply below_drew1 | refine below_set ?_ GE163.out | refine below_set ?_ GE164.out) | exact HB.out)) hb); have n5_ := Aside0.mk (hbox); have n6_ := Aside0.mk ((by rw [hg]; exact (below_size (by repeat (first | (with_reducible first | exact HB.out | apply below_alloc | apply pw_below_drewN | apply below_drew1 | refine below_set ?_ GE163.out | refine below_set ?_ GE164.out) | exact HB.out))) : w.heap.size ≤ gb171)); have n7_ := Aside0.mk ((by rw [hg]; exact (below_size (by repeat (first | (with_reducible first | exact HB.out | apply below_alloc | apply pw_below_drewN | apply below_drew1 | refine below_set ?_ GE163.out | refine below_set ?_ GE164.out) | exact HB.out))) : w.heap.size ≤ gb171)); have n8_ := Aside0.mk ((by rw [hg]; exact Nat.ne_of_lt (blk_lt (g := gb163) (o := .cells #[.slice A0_0 l0_0.length c0_0, .slice A0_1 l0_1.length c0_1] 25 (0, 0)) (by (with_reducible repeat (first | refine blk_drewN ?_ _ | refine blk_drew ?_ | refine blk_alloc ?_ _)); exact BK163.out)) : gb163 ≠ gb171)); have n9_ := Aside0.mk ((by rw [hg]; exact Nat.ne_of_gt (blk_lt (g := gb163) (o := .cells #[.slice A0_0 l0_0.length c0_0, .slice A0_1 l0_1.length c0_1] 25 (0, 0)) (by (with_reducible repeat (first | refine blk_drewN ?_ _ | refine blk_drew ?_ | refine blk_alloc ?_ _)); exact BK163.out)) : gb171 ≠ gb163)); have n10_ := Aside0.mk ((by rw [hg]; exact Nat.ne_of_lt (blk_lt (g := gb164) (o := .cells #[.slice none 0 0, .slice none 0 0] 25 (0, 0)) (by (with_reducible repeat (first | refine blk_drewN ?_ _ | refine blk_drew ?_ | refine blk_alloc ?_ _)); exact BK164.out)) : gb164 ≠ gb171)); have n11_ := Aside0.mk ((by rw [hg]; exact Nat.ne_of_gt (blk_lt (g := gb164) (o := .cells #[.slice none 0 0, .slice none 0 0] 25 (0, 0)) (by (with_reducible repeat (first | refine blk_drewN ?_ _ | refine blk_drew ?_ | refine blk_alloc ?_ _)); exact BK164.out)) : gb171 ≠ gb164)); clear HO167; clear HO170; clear BK163; clear BK164; clear HB; have HO167 := n0_; have HO170 := n1_; have BK163 := n2_; have BK164 := n3_; have HB := n4_; have BK171 := n5_; have GW171 := n6_; have GE171 := n7_; have NB163_171 := n8_; have NB171_163 := n9_; have NB164_171 := n10_; have NB171_164 := n11_; clear n0_ n1_ n2_ n3_ n4_ n5_ n6_ n7_ n8_ n9_ n10_ n11_; clear hb hbox hg; obtain ⟨Ao13, co13, eo13⟩ := Kd.S_slice HO167.out; subst eo13; have hnb14 := NB171_163.out; have hnc14 := NB163_171.out; have hnb15 := NB171_164.out; have hnc15 := NB164_171.out; have hcz16_0 : w12.cell? ⟨gb171, 0, none⟩ = some (.slice none 0 0) := (blk_cell BK171.out 0).trans rfl; have hcz16_1 : w12.cell? ⟨gb171, 1, none⟩ = some (.slice none 0 0) := (blk_cell BK171.out 1).trans rfl; have hfz16_0 := blk_frozen BK171.out 0; have hfz16_1 := blk_frozen BK171.out 1; obtain ⟨Ao17, co17, eo17⟩ := Kd.S_slice HO170.out; subst eo17))
      have n0_ : Aside0 (Kd.S k52 52 ((w12.setCell ⟨gb171, 0, none⟩ (.slice Ao13 t165.length co13)).setCell ⟨gb171, 1, none⟩ (.slice Ao17 t168.length co17)) w.heap.size (fun _ => True) (.slice Ao13 t165.length co13) t165) := ⟨by (with_reducible repeat (first | apply Kd.S_alloc | apply Kd.S_drewN | apply Kd.S_drew)); exact Kd.S_mono (Kd.S_far (p := ⟨gb171, 1, none⟩) (Kd.S_far (p := ⟨gb171, 0, none⟩) (Kd.S_types HO167.out BK171.out (by decide)) (fun _ hk => hk.2) (.slice Ao13 t165.length co13)) (fun _ hk => hk.2) (.slice Ao17 t168.length co17)) (fun _ hk => trivial)⟩
      have n1_ : Aside0 (Kd.S k65 65 ((w12.setCell ⟨gb171, 0, none⟩ (.slice Ao13 t165.length co13)).setCell ⟨gb171, 1, none⟩ (.slice Ao17 t168.length co17)) w.heap.size (fun _ => True) (.slice Ao17 t168.length co17) t168) := ⟨by (with_reducible repeat (first | apply Kd.S_alloc | apply Kd.S_drewN | apply Kd.S_drew)); exact Kd.S_mono (Kd.S_far (p := ⟨gb171, 1, none⟩) (Kd.S_far (p := ⟨gb171, 0, none⟩) (Kd.S_types HO170.out BK171.out (by decide)) (fun _ hk => hk.2) (.slice Ao13 t165.length co13)) (fun _ hk => hk.2) (.slice Ao17 t168.length co17)) (fun _ hk => trivial)⟩
      have n2_ : Aside0 (((w12.setCell ⟨gb171, 0, none⟩ (.slice Ao13 t165.length co13)).setCell ⟨gb171, 1, none⟩ (.slice Ao17 t168.length co17)).heap[gb163]? = some (.cells #[.slice A0_0 l0_0.length c0_0, .slice A0_1 l0_1.length c0_1] 25 (0, 0))) := ⟨by (with_reducible repeat (first | refine blk_drewN ?_ _ | refine blk_drew ?_ | refine blk_alloc ?_ _)); refine blk_far ?_ NB163_171.out _; (with_reducible repeat (first | refine blk_drewN ?_ _ | refine blk_drew ?_ | refine blk_alloc ?_ _)); refine blk_far ?_ NB163_171.out _; (with_reducible repeat (first | refine blk_drewN ?_ _ | refine blk_drew ?_ | refine blk_alloc ?_ _)); exact BK163.out⟩
      have n3_ : Aside0 (((w12.setCell ⟨gb171, 0, none⟩ (.slice Ao13 t165.length co13)).setCell ⟨gb171, 1, none⟩ (.slice Ao17 t168.length co17)).heap[gb164]? = some (.cells #[.slice none 0 0, .slice none 0 0] 25 (0, 0))) := ⟨by (with_reducible repeat (first | refine blk_drewN ?_ _ | refine blk_drew ?_ | refine blk_alloc ?_ _)); refine blk_far ?_ NB164_171.out _; (with_reducible repeat (first | refine blk_drewN ?_ _ | refine blk_drew ?_ | refine blk_alloc ?_ _)); refine blk_far ?_ NB164_171.out _; (with_reducible repeat (first | refine blk_drewN ?_ _ | refine blk_drew ?_ | refine blk_alloc ?_ _)); exact BK164.out⟩
      have n4_ : Aside0 (((w12.setCell ⟨gb171, 0, none⟩ (.slice Ao13 t165.length co13)).setCell ⟨gb171, 1, none⟩ (.slice Ao17 t168.length co17)).heap[gb171]? = some (.cells #[.slice Ao13 t165.length co13, .slice Ao17 t168.length co17] 25 (0, 0))) := ⟨by (with_reducible repeat (first | refine blk_drewN ?_ _ | refine blk_drew ?_ | refine blk_alloc ?_ _)); refine blk_put (cs := #[.slice Ao13 t165.length co13, .slice none 0 0]) ?_ 1 _ rfl; (with_reducible repeat (first | refine blk_drewN ?_ _ | refine blk_drew ?_ | refine blk_alloc ?_ _)); refine blk_put (cs := #[.slice none 0 0, .slice none 0 0]) ?_ 0 _ rfl; (with_reducible repeat (first | refine blk_drewN ?_ _ | refine blk_drew ?_ | refine blk_alloc ?_ _)); exact BK171.out⟩
      have n5_ : Aside0 (Below w.heap.size w ((w12.setCell ⟨gb171, 0, none⟩ (.slice Ao13 t165.length co13)).setCell ⟨gb171, 1, none⟩ (.slice Ao17 t168.length co17))) := ⟨by repeat (first | (with_reducible first | exact HB.out | apply below_alloc | apply pw_below_drewN | apply below_drew1 | refine below_set ?_ GE163.out | refine below_set ?_ GE164.out | refine below_set ?_ GE171.out) | exact HB.out)⟩
      (try clear HO167)
      (try clear HO170)
      (try clear BK163)
      (try clear BK164)
      (try clear BK171)
      (try clear HB)
      generalize ((w12.setCell ⟨gb171, 0, none⟩ (.slice Ao13 t165.length co13)).setCell ⟨gb171, 1, none⟩ (.slice Ao17 t168.length co17)) = w18 at n0_ n1_ n2_ n3_ n4_ n5_ ⊢
      have HO167 := n0_
      have HO170 := n1_
      have BK163 := n2_
      have BK164 := n3_
      have BK171 := n4_
      have HB := n5_
      clear n0_ n1_ n2_ n3_ n4_ n5_
      have n0_ := Aside0.mk (Kd.S_drew HO167.out)
      have n1_ := Aside0.mk (Kd.S_drew HO170.out)
      have n2_ := Aside0.mk (blk_drew BK163.out)
      have n3_ := Aside0.mk (blk_drew BK164.out)
      have n4_ := Aside0.mk (blk_drew BK171.out)
      have n5_ := Aside0.mk (below_drew1 HB.out)
      clear HO167
      clear HO170
      clear BK163
      clear BK164
      clear BK171
      clear HB
      have HO167 := n0_
      have HO170 := n1_
      have BK163 := n2_
      have BK164 := n3_
      have BK171 := n4_
      have HB := n5_
      clear n0_ n1_ n2_ n3_ n4_ n5_
      refine start_ (n := 11) (S := fun w' => w'.cell? ⟨gb171, 0, none⟩ = some (.slice Ao13 t165.length co13) ∧ w'.cell? ⟨gb171, 1, none⟩ = some (.slice Ao17 t168.length co17)) (ds := [10]) #[false, false, false, false, false, false, false, false, false, false, false] (by kernel_rfl) rfl rfl ⟨(blk_cell BK171.out 0).trans rfl, (blk_cell BK171.out 1).trans rfl⟩ (fun hHeld => ?_); refine with_tabW catamaranref05_With.tab2 catamaranref05_With.bits2 (fun HT_ HW_ => ?_)
      generalize w18.drew = w19 at HO167 HO170 BK163 BK164 BK171 HB hHeld ⊢
      refine pure_ (i := 0) (N := some 10) (v := ?_) (a' := ?_) #[true, false, false, false, false, false, false, false, false, false, false] rfl rfl (any_of HT_.out (by kernel_rfl)) (fun _ _ _ h => h) (Or.inl ⟨by rfl, ?_⟩) ?_ ?_
      rotate_left
      · intro w'
        go_simp
        with_reducible rfl
      rotate_left
      · simp only [Act.put, List.setIfInBounds_toArray, List.set_cons_zero, List.set_cons_succ, i64_w, i32_w]
        rfl
      refine pure_ (i := 2) (N := some 12) (v := ?_) (a' := ?_) #[true, false, true, false, false, false, false, false, false, false, false] rfl rfl (any_of HT_.out (by kernel_rfl)) (fun _ _ _ h => h) (Or.inl ⟨by rfl, ?_⟩) ?_ ?_
      rotate_left
      · intro w'
        go_simp
        with_reducible rfl
      rotate_left
      · simp only [Act.put, List.setIfInBounds_toArray, List.set_cons_zero, List.set_cons_succ, i64_w, i32_w]
        rfl
      refine pure_ (i := 4) (N := some 14) (v := ?_) (a' := ?_) #[true, false, true, false, true, false, false, false, false, false, false] rfl rfl (any_of HT_.out (by kernel_rfl)) (fun _ _ _ h => h) (Or.inl ⟨by rfl, ?_⟩) ?_ ?_
      rotate_left
      · intro w'
        go_simp
        with_reducible rfl
      rotate_left
      · simp only [Act.put, List.setIfInBounds_toArray, List.set_cons_zero, List.set_cons_succ, i64_w, i32_w]
        rfl
      refine take_ (i := 1) (N := some 11) (v := ?_) (a' := ?_) #[true, true, true, false, true, false, false, false, false, false, false] rfl rfl (take_ofW HT_.out HW_.out (by kernel_rfl)) (fun _ _ _ h => h) (Or.inl ⟨by rfl, ?_⟩) hHeld ?_ ?_
      rotate_left
      · rintro w' ⟨s0, s1⟩
        go_simp
        with_reducible rfl
      rotate_left
      · simp only [Act.put, List.setIfInBounds_toArray, List.set_cons_zero, List.set_cons_succ, i64_w, i32_w]
        rfl
      refine one_ (i := 3) (N := some 13) #[true, true, true, true, true, false, false, false, false, false, false] rfl rfl (one_of HT_.out (by kernel_rfl)) (by decide) (fun K hK => ?_)
      refine Kd.R_lit_step (Kd.int .u8) _ 5 ?hg (N := 13) ?hd (xs := ([] : List Int)) (inner := []) (ok := fun _ => True) (okp := fun _ => True) ?hr ?hp (fun _ hk => hk) trivial (Below.refl _ _) (Nat.le_refl _) (by simp) ?_; (case hd => rfl); (case hg => rfl); (case hr => first | (go_simp; done) | (go_simp; rfl)); (case hp => exact (Reps.none _ _))
      intro v173 w20 ho21 hb hg_ hnew_
      clear hg_ hnew_
      (first | rw [← Ny172.out] at ho21 | (simp only [Int.reduceToNat] at ho21; rw [← Ny172.out] at ho21))
      have n0_ := Aside0.mk (Kd.S_elder' (by (with_reducible repeat (first | apply Kd.S_alloc | apply Kd.S_drewN | apply Kd.S_drew)); exact HO167.out) (Kd.R_base ho21) hb)
      have n1_ := Aside0.mk (Kd.S_elder' (by (with_reducible repeat (first | apply Kd.S_alloc | apply Kd.S_drewN | apply Kd.S_drew)); exact HO170.out) (Kd.R_base ho21) hb)
      have n2_ := Aside0.mk (Kd.R_lower ho21 (below_size (by repeat (first | (with_reducible first | exact HB.out | apply below_alloc | apply pw_below_drewN | apply below_drew1 | refine below_set ?_ GE163.out | refine below_set ?_ GE164.out | refine below_set ?_ GE171.out) | exact HB.out))))
      have n3_ := Aside0.mk (blk_below (g := gb163) (o := .cells #[.slice A0_0 l0_0.length c0_0, .slice A0_1 l0_1.length c0_1] 25 (0, 0)) (by (with_reducible repeat (first | refine blk_drewN ?_ _ | refine blk_drew ?_ | refine blk_alloc ?_ _)); exact BK163.out) hb)
      have n4_ := Aside0.mk (blk_below (g := gb164) (o := .cells #[.slice none 0 0, .slice none 0 0] 25 (0, 0)) (by (with_reducible repeat (first | refine blk_drewN ?_ _ | refine blk_drew ?_ | refine blk_alloc ?_ _)); exact BK164.out) hb)
      have n5_ := Aside0.mk (blk_below (g := gb171) (o := .cells #[.slice Ao13 t165.length co13, .slice Ao17 t168.length co17] 25 (0, 0)) (by (with_reducible repeat (first | refine blk_drewN ?_ _ | refine blk_drew ?_ | refine blk_alloc ?_ _)); exact BK171.out) hb)
      have n6_ := Aside0.mk (below_step (by repeat (first | (with_reducible first | exact HB.out | apply below_alloc | apply pw_below_drewN | apply below_drew1 | refine below_set ?_ GE163.out | refine below_set ?_ GE164.out | refine below_set ?_ GE171.out) | exact HB.out)) hb)
      clear HO167
      clear HO170
      clear BK163
      clear BK164
      clear BK171
      clear HB
      have HO167 := n0_
      have HO170 := n1_
      have HO174 := n2_
      have BK163 := n3_
      have BK164 := n4_
      have BK171 := n5_
      have HB := n6_
      clear n0_ n1_ n2_ n3_ n4_ n5_ n6_
      clear hb ho21
      refine hK.out _ _ ⟨(blk_cell BK171.out 0).trans rfl, (blk_cell BK171.out 1).trans rfl⟩ (fun hHeld => ?_)
      clear hK K
      refine norm_ (a' := ?_) ?_ ?_
      rotate_left
      · show Act.put _ (some 13) _ = _
        simp only [Act.put, List.setIfInBounds_toArray, List.set_cons_zero, List.set_cons_succ, i64_w, i32_w]
        rfl
      refine one_ (i := 5) (N := some 15) #[true, true, true, true, true, true, false, false, false, false, false] rfl rfl (one_of HT_.out (by kernel_rfl)) (by decide) (fun K hK => ?_)
      refine Kd.R_append_rows_step (Kd.int .u8) (w0 := w) w.heap.size (by rfl) (.tmp 13) (.tmp 14) 26 5 (.int .u8 0) 1 rfl Try.underlying26 info5 rfl (by decide) (by omega) v173 y172 l2 _ _ _ (fun _ => True) (fun _ => False) rfl rfl ?aO ?aR (fun _ _ h => h) (fun _ h => h.elim) ?aF ?aB ?aS ?aL ?_
      (case aR => repeat (first | exact (Kd.C_below HR2.out HB.out) | (with_reducible refine Kd.C_alloc ?_ _) | (with_reducible refine Kd.C_drewN ?_ _) | (with_reducible refine Kd.C_drew ?_)))
      (case aB => exact (by repeat (first | (with_reducible first | exact HB.out | apply below_alloc | apply pw_below_drewN | apply below_drew1 | refine below_set ?_ GE163.out | refine below_set ?_ GE164.out | refine below_set ?_ GE171.out) | exact HB.out)))
      (case aF => exact (fun _ _ => trivial))
      (case aO => exact (by (with_reducible repeat (first | apply Kd.R_alloc | apply Kd.R_drewN | apply Kd.R_drew)); exact HO174.out))
      (case aS => exact (below_size (by repeat (first | (with_reducible first | exact HB.out | apply below_alloc | apply pw_below_drewN | apply below_drew1 | refine below_set ?_ GE163.out | refine below_set ?_ GE164.out | refine below_set ?_ GE171.out) | exact HB.out))))
      (case aL => have := LMc5.out; omega)
      intro v176 w22 ho hb hg hat
      rw [← Ny175.out] at ho
      have n0_ := Aside0.mk (blk_grown (g := gb163) (o := .cells #[.slice A0_0 l0_0.length c0_0, .slice A0_1 l0_1.length c0_1] 25 (0, 0)) (by (with_reducible repeat (first | refine blk_drewN ?_ _ | refine blk_drew ?_ | refine blk_alloc ?_ _)); exact BK163.out) hg (Kd.R_ne HO174.out BK163.out (by decide)))
      have n1_ := Aside0.mk (blk_grown (g := gb164) (o := .cells #[.slice none 0 0, .slice none 0 0] 25 (0, 0)) (by (with_reducible repeat (first | refine blk_drewN ?_ _ | refine blk_drew ?_ | refine blk_alloc ?_ _)); exact BK164.out) hg (Kd.R_ne HO174.out BK164.out (by decide)))
      have n2_ := Aside0.mk (Kd.S_after (ok := (fun _ => True)) (by (with_reducible repeat (first | apply Kd.S_alloc | apply Kd.S_drewN | apply Kd.S_drew)); exact HO167.out) hg hat)
      have n3_ := Aside0.mk (Kd.S_after (ok := (fun _ => True)) (by (with_reducible repeat (first | apply Kd.S_alloc | apply Kd.S_drewN | apply Kd.S_drew)); exact HO170.out) hg hat)
      have n4_ := Aside0.mk (blk_grown (g := gb171) (o := .cells #[.slice Ao13 t165.length co13, .slice Ao17 t168.length co17] 25 (0, 0)) (by (with_reducible repeat (first | refine blk_drewN ?_ _ | refine blk_drew ?_ | refine blk_alloc ?_ _)); exact BK171.out) hg (Kd.R_ne HO174.out BK171.out (by decide)))
      have n5_ := Aside0.mk (hb)
      have n6_ := Aside0.mk (ho)
      clear BK163
      clear BK164
      clear HO167
      clear HO170
      clear BK171
      clear HB
      clear HO174
      have BK163 := n0_
      have BK164 := n1_
      have HO167 := n2_
      have HO170 := n3_
      have BK171 := n4_
      have HB := n5_
      have HO177 := n6_
      clear n0_ n1_ n2_ n3_ n4_ n5_ n6_
      clear ho hb hg hat
      obtain ⟨Ao23, co23, eo23⟩ := Kd.R_slice HO177.out
      (first | subst eo23 | (injection eo23 with f1_ f2_ f3_; have f4_ := f1_.symm; have f5_ := f3_.symm; clear f1_ f2_ f3_; subst f4_; subst f5_))
      refine hK.out _ _ ⟨(blk_cell BK171.out 0).trans rfl, (blk_cell BK171.out 1).trans rfl⟩ (fun hHeld => ?_)
      clear hK K
      refine norm_ (a' := ?_) ?_ ?_
      rotate_left
      · show Act.put _ (some 15) _ = _
        simp only [Act.put, List.setIfInBounds_toArray, List.set_cons_zero, List.set_cons_succ, i64_w, i32_w]
        rfl
      refine pure_ (i := 6) (N := some 16) (v := ?_) (a' := ?_) #[true, true, true, true, true, true, true, false, false, false, false] rfl rfl (any_of HT_.out (by kernel_rfl)) (fun _ _ _ h => h) (Or.inl ⟨by rfl, ?_⟩) ?_ ?_
      rotate_left
      · intro w'
        go_simp
        with_reducible rfl
      rotate_left
      · simp only [Act.put, List.setIfInBounds_toArray, List.set_cons_zero, List.set_cons_succ, i64_w, i32_w]
        rfl
      refine one_ (i := 7) (N := some 17) #[true, true, true, true, true, true, true, true, false, false, false] rfl rfl (one_of HT_.out (by kernel_rfl)) (by decide) (fun K hK => ?_)
      refine value_ (w1 := ?_) (v := ?_) (by rfl) rfl ?_ ?_
      rotate_left 2
      · go_simp
        constructor
        · rfl
        · rfl
      refine hK.out _ _ ⟨(blk_cell (blk_alloc BK171.out _) 0).trans rfl, (blk_cell (blk_alloc BK171.out _) 1).trans rfl⟩ (fun hHeld => ?_)
      clear hK K
      refine norm_ (a' := ?_) ?_ ?_
      rotate_left
      · show Act.put _ (some 17) _ = _
        simp only [Act.put, List.setIfInBounds_toArray, List.set_cons_zero, List.set_cons_succ, i64_w, i32_w]
        rfl
      refine one_ (i := 8) (N := some 18) #[true, true, true, true, true, true, true, true, true, false, false] rfl rfl (one_of HT_.out (by kernel_rfl)) (by decide) (fun K hK => ?_)
      refine Kd.S_append_step k65 (w0 := w) w.heap.size (by rfl) (.tmp 11) (.tmp 17) 23 65 (.agg #[(.int .i64 0), (.slice none 0 0)]) 32 rfl Try.underlying23 info65 rfl (by decide) (by omega) (.slice Ao17 t168.length co17) t168 (⟨a1, y175⟩ : S65) [.int .i64 a1, .slice Ao23 y175.length co23] (fun _ => True) (fun k_ => some k_ = (.slice Ao23 y175.length co23 : Value).ownBlock) rfl rfl ?aP (fun k_ hk_ => ((Kd.R_mono (ok' := fun k_ => ((fun _ => True)) k_ ∧ some k_ ≠ (.slice Ao17 t168.length co17 : Value).ownBlock) (Kd.R_apart' (HO177.out) (Kd.S_typed HO170.out) (by decide)) (fun k_ hk => ⟨trivial, hk.2⟩))).1 k_ hk_.symm) ?aF ?aO ?aB ?aS ?aL ?_
      (case aP => exact k65_mkM _ _ _ (⟨a1, y175⟩ : S65) (Kd.R_mono (Kd.R_tight rfl (Kd.R_mono (ok' := fun k_ => ((fun _ => True)) k_ ∧ some k_ ≠ (.slice Ao17 t168.length co17 : Value).ownBlock) (Kd.R_apart' (HO177.out) (Kd.S_typed HO170.out) (by decide)) (fun k_ hk => ⟨trivial, hk.2⟩))) (fun _ h_ => h_)))
      (case aB => exact (by repeat (first | (with_reducible first | exact HB.out | apply below_alloc | apply pw_below_drewN | apply below_drew1 | refine below_set ?_ GE163.out | refine below_set ?_ GE164.out | refine below_set ?_ GE171.out) | exact HB.out)))
      (case aF => exact (fun _ _ => trivial))
      (case aO => exact (by (with_reducible repeat (first | apply Kd.S_alloc | apply Kd.S_drewN | apply Kd.S_drew)); exact Kd.S_mono HO170.out (fun k_ hk => ⟨trivial, fun e_ => hk.2 e_⟩)))
      (case aS => exact (below_size (by repeat (first | (with_reducible first | exact HB.out | apply below_alloc | apply pw_below_drewN | apply below_drew1 | refine below_set ?_ GE163.out | refine below_set ?_ GE164.out | refine below_set ?_ GE171.out) | exact HB.out))))
      (case aL => have := LMc6.out; omega)
      intro v179 w24 ho hb hg hat
      rw [← Ny178.out] at ho
      have n0_ := Aside0.mk (blk_grown (g := gb163) (o := .cells #[.slice A0_0 l0_0.length c0_0, .slice A0_1 l0_1.length c0_1] 25 (0, 0)) (by (with_reducible repeat (first | refine blk_drewN ?_ _ | refine blk_drew ?_ | refine blk_alloc ?_ _)); exact BK163.out) hg (Kd.S_ne HO170.out BK163.out (by decide)))
      have n1_ := Aside0.mk (blk_grown (g := gb164) (o := .cells #[.slice none 0 0, .slice none 0 0] 25 (0, 0)) (by (with_reducible repeat (first | refine blk_drewN ?_ _ | refine blk_drew ?_ | refine blk_alloc ?_ _)); exact BK164.out) hg (Kd.S_ne HO170.out BK164.out (by decide)))
      have n2_ := Aside0.mk (Kd.S_over' (by (with_reducible repeat (first | apply Kd.S_alloc | apply Kd.S_drewN | apply Kd.S_drew)); exact HO167.out) (Kd.S_typed (by (with_reducible repeat (first | apply Kd.S_alloc | apply Kd.S_drewN | apply Kd.S_drew)); exact HO170.out)) (by decide) hg)
      have n3_ := Aside0.mk (blk_grown (g := gb171) (o := .cells #[.slice Ao13 t165.length co13, .slice Ao17 t168.length co17] 25 (0, 0)) (by (with_reducible repeat (first | refine blk_drewN ?_ _ | refine blk_drew ?_ | refine blk_alloc ?_ _)); exact BK171.out) hg (Kd.S_ne HO170.out BK171.out (by decide)))
      have n4_ := Aside0.mk (hb)
      have n5_ := Aside0.mk (ho)
      clear BK163
      clear BK164
      clear HO167
      clear BK171
      clear HB
      clear HO170
      clear HO177
      have BK163 := n0_
      have BK164 := n1_
      have HO167 := n2_
      have BK171 := n3_
      have HB := n4_
      have HO180 := n5_
      clear n0_ n1_ n2_ n3_ n4_ n5_
      clear ho hb hg hat
      obtain ⟨Ao25, co25, eo25⟩ := Kd.S_slice HO180.out
      (first | subst eo25 | (injection eo25 with f1_ f2_ f3_; have f4_ := f1_.symm; have f5_ := f3_.symm; clear f1_ f2_ f3_; subst f4_; subst f5_))
      refine hK.out _ _ ⟨(blk_cell BK171.out 0).trans rfl, (blk_cell BK171.out 1).trans rfl⟩ (fun hHeld => ?_)
      clear hK K
      refine norm_ (a' := ?_) ?_ ?_
      rotate_left
      · show Act.put _ (some 18) _ = _
        simp only [Act.put, List.setIfInBounds_toArray, List.set_cons_zero, List.set_cons_succ, i64_w, i32_w]
        rfl
      refine pure_ (i := 9) (N := some 19) (v := ?_) (a' := ?_) #[true, true, true, true, true, true, true, true, true, true, false] rfl rfl (any_of HT_.out (by kernel_rfl)) (fun _ _ _ h => h) (Or.inl ⟨by rfl, ?_⟩) ?_ ?_
      rotate_left
      · intro w'
        go_simp
        with_reducible rfl
      rotate_left
      · simp only [Act.put, List.setIfInBounds_toArray, List.set_cons_zero, List.set_cons_succ, i64_w, i32_w]
        rfl
      refine last_ (i := 10) (N := none) #[true, true, true, true, true, true, true, true, true, true, true] rfl rfl (one_of HT_.out (by kernel_rfl)) (by decide) (fun K hK => ?_)
      have hs26 : w24.cell? ⟨gb171, 1, none⟩ = some (.slice Ao17 t168.length co17) := (blk_cell BK171.out 1).trans rfl
      have hfs26 := blk_frozen BK171.out 1
      have hns26_0 := NB163_171.out
      have hns26_1 := NB164_171.out
      have hms26_0 := NB171_163.out
      have hms26_1 := NB171_164.out
      refine skip_ (w1 := ?_) (by rfl) rfl ?_ ?_
      rotate_left
      · go_simp
        rfl
      refine hK.out _ _ ?_
      clear hK K
      refine done_ (done_of HT_.out (by kernel_rfl)) ?_
      have hcz27_0 : w24.cell? ⟨gb171, 0, none⟩ = some (.slice Ao13 t165.length co13) := (blk_cell BK171.out 0).trans rfl
      have hcz27_1 : w24.cell? ⟨gb171, 1, none⟩ = some (.slice Ao17 t168.length co17) := (blk_cell BK171.out 1).trans rfl
      have hfz27_0 := blk_frozen BK171.out 0
      have hfz27_1 := blk_frozen BK171.out 1
      have hcz28_0 : w24.cell? ⟨gb164, 0, none⟩ = some (.slice none 0 0) := (blk_cell BK164.out 0).trans rfl
      have hcz28_1 : w24.cell? ⟨gb164, 1, none⟩ = some (.slice none 0 0) := (blk_cell BK164.out 1).trans rfl
      have hfz28_0 := blk_frozen BK164.out 0
      have hfz28_1 := blk_frozen BK164.out 1
      try go_wp2
      refine bodyPost_ret (results_cell_row rfl _ _ gb164 25 #[.slice Ao13 t165.length co13, .slice Ao25 y178.length co25] (0, 0) _ rfl (by (with_reducible repeat (first | refine blk_drewN ?_ _ | refine blk_drew ?_ | refine blk_alloc ?_ _)); refine blk_put (cs := #[.slice Ao13 t165.length co13, .slice none 0 0]) ?_ 1 _ rfl; (with_reducible repeat (first | refine blk_drewN ?_ _ | refine blk_drew ?_ | refine blk_alloc ?_ _)); refine blk_put (cs := #[.slice none 0 0, .slice none 0 0]) ?_ 0 _ rfl; (with_reducible repeat (first | refine blk_drewN ?_ _ | refine blk_drew ?_ | refine blk_alloc ?_ _)); refine blk_far ?_ NB164_171.out _; (with_reducible repeat (first | refine blk_drewN ?_ _ | refine blk_drew ?_ | refine blk_alloc ?_ _)); exact BK164.out) Try.underlying25 rfl (by kernel_rfl)) rfl ?_
      exact ⟨_, _, by first | rfl | (simp [errW_none, errW_some] <;> rfl) | (simp [*, errW_none, errW_some] <;> rfl), by (with_reducible repeat (first | apply Kd.S_alloc | apply Kd.S_drewN | apply Kd.S_drew)); exact Kd.S_mono (Kd.S_far (p := ⟨gb164, 1, none⟩) (Kd.S_far (p := ⟨gb164, 0, none⟩) (Kd.S_far (p := ⟨gb171, 1, none⟩) (Kd.S_types (Kd.S_types HO167.out BK171.out (by decide)) BK164.out (by decide)) (fun _ hk => hk.1.2) (.slice Ao25 y178.length co25)) (fun _ hk => hk.2) (.slice Ao13 t165.length co13)) (fun _ hk => hk.2) (.slice Ao25 y178.length co25)) (fun _ hk => trivial), by (with_reducible repeat (first | apply Kd.S_alloc | apply Kd.S_drewN | apply Kd.S_drew)); exact Kd.S_mono (Kd.S_far (p := ⟨gb164, 1, none⟩) (Kd.S_far (p := ⟨gb164, 0, none⟩) (Kd.S_far (p := ⟨gb171, 1, none⟩) (Kd.S_types (Kd.S_types HO180.out BK171.out (by decide)) BK164.out (by decide)) (fun _ hk => hk.1.2) (.slice Ao25 y178.length co25)) (fun _ hk => hk.2) (.slice Ao13 t165.length co13)) (fun _ hk => hk.2) (.slice Ao25 y178.length co25)) (fun _ hk => trivial), by repeat (first | (with_reducible first | exact HB.out | apply below_alloc | apply pw_below_drewN | apply below_drew1 | refine below_set ?_ GE163.out | refine below_set ?_ GE164.out | refine below_set ?_ GE171.out) | exact HB.out)⟩
    · rw [if_neg c6] at H
      exact absurd H (by simp)
  · rw [if_neg c5] at H
    exact absurd H (by simp)
end Go.Proofs.Ytjlohdbkjoofcaa.P
end
section
set_option linter.unusedVariables false
set_option linter.unusedSimpArgs false
namespace Go.Proofs.Ytjlohdbkjoofcaa.P
open Go.RowKit Go.Proofs.PrintWords Go.Proofs.PrintLast Go.Proofs.PrintMore
attribute [local go_sem] max2_int min2_int max_two min_two max_three min_three max_four min_four
def catamaranref05_Write.f (k : Nat) (l0_0 : List (S52)) (l0_1 : List (S65)) (a1 : Int) (l2 : List Int) : Option ((List (S52)) × (List (S65)) × Int) := (catamaranref05_asked.f k l0_0 l0_1 a1).bind fun t183 => (if t183 = 0 then (if (l2.length : Int) = 32 then (if (l0_1.length : Int) ≥ 64 then (some (([] : List (S52)), ([] : List (S65)), 9)) else ((catamaranref05_With.f k l0_0 l0_1 a1 l2).bind fun bt184 => (some (bt184.1, bt184.2, 0)))) else (some (([] : List (S52)), ([] : List (S65)), 2))) else (some (([] : List (S52)), ([] : List (S65)), t183)))
theorem catamaranref05_Write.mono : ∀ a0 a1 a2 a3 k, LeO (catamaranref05_Write.f k a0 a1 a2 a3) (catamaranref05_Write.f (k + 1) a0 a1 a2 a3) := by
  intro a0 a1 a2 a3 k
  unfold catamaranref05_Write.f
  repeat' first
      | (with_reducible exact catamaranref05_With.mono _ _ _ _ _)
      | (with_reducible exact catamaranref05_asked.mono _ _ _ _)
      | (with_reducible exact LeO.refl _)
      | (with_reducible exact LeO.none _)
      | (with_reducible refine LeO.ite ?_ ?_)
      | (with_reducible refine LeO.bind ?_ (fun _ => ?_))
      | exact catamaranref05_With.mono _ _ _ _ _
      | exact catamaranref05_asked.mono _ _ _ _
      | exact LeO.none _
      | refine LeO.ite ?_ ?_
      | refine LeO.bind ?_ (fun _ => ?_)
set_option maxHeartbeats 8000000 in
set_option maxRecDepth 100000 in
theorem catamaranref05_Write.calls (k : Nat) (A0_0 : Option Addr) (c0_0 : Nat) (l0_0 : List (S52)) (A0_1 : Option Addr) (c0_1 : Nat) (l0_1 : List (S65)) (a1 : Int) (A2 : Option Addr) (c2 : Nat) (l2 : List Int) (r1 : List (S52)) (r2 : List (S65)) (r3 : Int) (w : World) (hr0_0 : Kd.C k52 w A0_0 l0_0.length l0_0) (hc0_0 : l0_0.length ≤ c0_0) (hr0_1 : Kd.C k65 w A0_1 l0_1.length l0_1) (hc0_1 : l0_1.length ≤ c0_1) (hr2 : Kd.C (Kd.int .u8) w A2 l2.length l2) (hc2 : l2.length ≤ c2) (h : catamaranref05_Write.f k l0_0 l0_1 a1 l2 = some (r1, r2, r3)) :
    Calls Try.prog 33 #[.agg #[.slice A0_0 l0_0.length c0_0, .slice A0_1 l0_1.length c0_1], .int .i64 a1, .slice A2 l2.length c2] w fun e w' => ∃ v0_ v1_ : Value, e = .returned (.tuple #[.agg #[v0_, v1_], .int .i64 r3]) ∧ Kd.S k52 52 w' w.heap.size (fun _ => True) v0_ r1 ∧ Kd.S k65 65 w' w.heap.size (fun _ => True) v1_ r2 ∧ Below w.heap.size w w' := by
  have hu25 := Try.underlying25
  have HR0_0 := Aside0.mk hr0_0
  have HC0_0 := Aside0.mk hc0_0
  clear hr0_0 hc0_0
  have HR0_1 := Aside0.mk hr0_1
  have HC0_1 := Aside0.mk hc0_1
  clear hr0_1 hc0_1
  have HR2 := Aside0.mk hr2
  have HC2 := Aside0.mk hc2
  clear hr2 hc2
  have HB := Aside0.mk (Below.refl w.heap.size w)
  have H : ((catamaranref05_asked.f k l0_0 l0_1 a1).bind fun t183 => (if t183 = 0 then (if (l2.length : Int) = 32 then (if (l0_1.length : Int) ≥ 64 then (some (([] : List (S52)), ([] : List (S65)), 9)) else ((catamaranref05_With.f k l0_0 l0_1 a1 l2).bind fun bt184 => (some (bt184.1, bt184.2, 0)))) else (some (([] : List (S52)), ([] : List (S65)), 2))) else (some (([] : List (S52)), ([] : List (S65)), t183)))) = some (r1, r2, r3) := h
  clear h
  replace H := Option.bind_eq_some_iff.mp H
  obtain ⟨t183, A40, H⟩ := H
  replace H : (if t183 = 0 then (if (l2.length : Int) = 32 then (if (l0_1.length : Int) ≥ 64 then (some (([] : List (S52)), ([] : List (S65)), 9)) else ((catamaranref05_With.f k l0_0 l0_1 a1 l2).bind fun bt184 => (some (bt184.1, bt184.2, 0)))) else (some (([] : List (S52)), ([] : List (S65)), 2))) else (some (([] : List (S52)), ([] : List (S65)), t183))) = some (r1, r2, r3) := H
  have A4 := Aside0.mk A40
  clear A40
  by_cases c5 : t183 = 0
  · rw [if_pos c5] at H
    have c5b0 : (t183 == 0) = true := beq_iff_eq.mpr c5
    have c5b1 : (t183 != 0) = false := bne_eq_false_iff_eq.mpr c5
    clear c5
    by_cases c6 : (l2.length : Int) = 32
    · rw [if_pos c6] at H
      have c6b0 : ((l2.length : Int) == 32) = true := beq_iff_eq.mpr c6
      have c6b1 : ((l2.length : Int) != 32) = false := bne_eq_false_iff_eq.mpr c6
      clear c6
      by_cases c7 : (l0_1.length : Int) ≥ 64
      · rw [if_pos c7] at H
        have c7b0 : decide (64 ≤ (l0_1.length : Int)) = true := decide_eq_true c7
        have c7b1 : decide (64 ≤ l0_1.length) = true := decide_eq_true (by omega)
        clear c7
        simp only [Option.some.injEq, Prod.mk.injEq] at H
        obtain ⟨rfl, rfl, rfl⟩ := H
        go_enter Try.func33, Try.ntmps33
        go_wp2_with (first | ((with_reducible refine gate_dst (N := 3) rfl ?_); refine box_event ?hg (N := 3) ?hd (cs := #[.slice A0_0 l0_0.length c0_0, .slice A0_1 l0_1.length c0_1]) (t := 25) ?hr ?_; (case hd => rfl); (case hg => rfl); (case hr => first | (go_simp; done) | (go_simp; rfl)); intro gb181 hg w8 hbox hb; have n0_ := Aside0.mk (below_step (by repeat (first | (with_reducible first | exact HB.out | apply below_alloc | apply pw_below_drewN | apply below_drew1) | exact HB.out)) hb); have n1_ := Aside0.mk (hbox); have n2_ := Aside0.mk ((by rw [hg]; exact (below_size (by repeat (first | (with_reducible first | exact HB.out | apply below_alloc | apply pw_below_drewN | apply below_drew1) | exact HB.out))) : w.heap.size ≤ gb181)); have n3_ := Aside0.mk ((by rw [hg]; exact (below_size (by repeat (first | (with_reducible first | exact HB.out | apply below_alloc | apply pw_below_drewN | apply below_drew1) | exact HB.out))) : w.heap.size ≤ gb181)); clear HB; have HB := n0_; have BK181 := n1_; have GW181 := n2_; have GE181 := n3_; clear n0_ n1_ n2_ n3_; clear hb hbox hg) | ((with_reducible refine gate_dst (N := 6) rfl ?_); refine box_event ?hg (N := 6) ?hd (cs := #[.slice none 0 0, .slice none 0 0]) (t := 25) ?hr ?_; (case hd => rfl); (case hg => rfl); (case hr => first | (go_simp; done) | (go_simp; rfl)); intro gb182 hg w9 hbox hb; have n0_ := Aside0.mk (blk_below (g := gb181) (o := .cells #[.slice A0_0 l0_0.length c0_0, .slice A0_1 l0_1.length c0_1] 25 (0, 0)) (by (with_reducible repeat (first | refine blk_drewN ?_ _ | refine blk_drew ?_ | refine blk_alloc ?_ _)); exact BK181.out) hb); have n1_ := Aside0.mk (below_step (by repeat (first | (with_reducible first | exact HB.out | apply below_alloc | apply pw_below_drewN | apply below_drew1 | refine below_set ?_ GE181.out) | exact HB.out)) hb); have n2_ := Aside0.mk (hbox); have n3_ := Aside0.mk ((by rw [hg]; exact (below_size (by repeat (first | (with_reducible first | exact HB.out | apply below_alloc | apply pw_below_drewN | apply below_drew1 | refine below_set ?_ GE181.out) | exact HB.out))) : w.heap.size ≤ gb182)); have n4_ := Aside0.mk ((by rw [hg]; exact (below_size (by repeat (first | (with_reducible first | exact HB.out | apply below_alloc | apply pw_below_drewN | apply below_drew1 | refine below_set ?_ GE181.out) | exact HB.out))) : w.heap.size ≤ gb182)); have n5_ := Aside0.mk ((by rw [hg]; exact Nat.ne_of_lt (blk_lt (g := gb181) (o := .cells #[.slice A0_0 l0_0.length c0_0, .slice A0_1 l0_1.length c0_1] 25 (0, 0)) (by (with_reducible repeat (first | refine blk_drewN ?_ _ | refine blk_drew ?_ | refine blk_alloc ?_ _)); exact BK181.out)) : gb181 ≠ gb182)); have n6_ := Aside0.mk ((by rw [hg]; exact Nat.ne_of_gt (blk_lt (g := gb181) (o := .cells #[.slice A0_0 l0_0.length c0_0, .slice A0_1 l0_1.length c0_1] 25 (0, 0)) (by (with_reducible repeat (first | refine blk_drewN ?_ _ | refine blk_drew ?_ | refine blk_alloc ?_ _)); exact BK181.out)) : gb182 ≠ gb181)); clear BK181; clear HB; have BK181 := n0_; have HB := n1_; have BK182 := n2_; have GW182 := n3_; have GE182 := n4_; have NB181_182 := n5_; have NB182_181 := n6_; clear n0_ n1_ n2_ n3_ n4_ n5_ n6_; clear hb hbox hg; have hnb10 := NB181_182.out; have hnc10 := NB182_181.out; have hcz11_0 : w9.cell? ⟨gb181, 0, none⟩ = some (.slice A0_0 l0_0.length c0_0) := (blk_cell BK181.out 0).trans rfl; have hcz11_1 : w9.cell? ⟨gb181, 1, none⟩ = some (.slice A0_1 l0_1.length c0_1) := (blk_cell BK181.out 1).trans rfl; have hfz11_0 := blk_frozen BK181.out 0; have hfz11_1 := blk_frozen BK181.out 1) | ((with_reducible refine gate_callee (f := 120) rfl ?_); refine goesL_ (some 11) rfl rfl Try.func120 (by kernel_rfl) rfl #[.agg #[.slice A0_0 l0_0.length c0_0, .slice A0_1 l0_1.length c0_1], .int .i64 a1] rfl (by (try simp only [List.map_toArray, List.map_cons, List.map_nil]); first | done | rfl | (simp only [List.length_drop, List.length_take]; rfl)) ?_; (with_reducible refine (catamaranref05_asked.calls k _ _ l0_0 _ _ l0_1 a1 t183 _ ?side1 ?side2 ?side3 ?side4 A4.out).mono ?_); (case side1 => repeat (first | exact (Kd.C_below HR0_0.out HB.out) | (with_reducible refine Kd.C_alloc ?_ _) | (with_reducible refine Kd.C_drewN ?_ _) | (with_reducible refine Kd.C_drew ?_))); (case side2 => exact HC0_0.out); (case side3 => repeat (first | exact (Kd.C_below HR0_1.out HB.out) | (with_reducible refine Kd.C_alloc ?_ _) | (with_reducible refine Kd.C_drewN ?_ _) | (with_reducible refine Kd.C_drew ?_))); (case side4 => exact HC0_1.out); rintro e w12 ⟨rfl, hb⟩; refine ⟨_, rfl, ?_⟩; have n0_ := Aside0.mk (blk_below (g := gb181) (o := .cells #[.slice A0_0 l0_0.length c0_0, .slice A0_1 l0_1.length c0_1] 25 (0, 0)) (by (with_reducible repeat (first | refine blk_drewN ?_ _ | refine blk_drew ?_ | refine blk_alloc ?_ _)); exact BK181.out) hb); have n1_ := Aside0.mk (blk_below (g := gb182) (o := .cells #[.slice none 0 0, .slice none 0 0] 25 (0, 0)) (by (with_reducible repeat (first | refine blk_drewN ?_ _ | refine blk_drew ?_ | refine blk_alloc ?_ _)); exact BK182.out) hb); have n2_ := Aside0.mk (below_step (by repeat (first | (with_reducible first | exact HB.out | apply below_alloc | apply pw_below_drewN | apply below_drew1 | refine below_set ?_ GE181.out | refine below_set ?_ GE182.out) | exact HB.out)) hb); clear BK181; clear BK182; clear HB; have BK181 := n0_; have BK182 := n1_; have HB := n2_; clear n0_ n1_ n2_; (try clear hb); (try clear hb2); (try clear hk); (try clear hi); have hcz13_0 : w12.cell? ⟨gb181, 0, none⟩ = some (.slice A0_0 l0_0.length c0_0) := (blk_cell BK181.out 0).trans rfl; have hcz13_1 : w12.cell? ⟨gb181, 1, none⟩ = some (.slice A0_1 l0_1.length c0_1) := (blk_cell BK181.out 1).trans rfl; have hfz13_0 := blk_frozen BK181.out 0; have hfz13_1 := blk_frozen BK181.out 1; have hcz14_0 : w12.cell? ⟨gb182, 0, none⟩ = some (.slice none 0 0) := (blk_cell BK182.out 0).trans rfl; have hcz14_1 : w12.cell? ⟨gb182, 1, none⟩ = some (.slice none 0 0) := (blk_cell BK182.out 1).trans rfl; have hfz14_0 := blk_frozen BK182.out 0; have hfz14_1 := blk_frozen BK182.out 1))
        refine bodyPost_ret (results_ct rfl _ _ gb182 25 #[.slice none 0 0, .slice none 0 0] (0, 0) _ rfl (by (with_reducible repeat (first | refine blk_drewN ?_ _ | refine blk_drew ?_ | refine blk_alloc ?_ _)); refine blk_put (cs := #[.slice none 0 0, .slice none 0 0]) ?_ 1 _ rfl; (with_reducible repeat (first | refine blk_drewN ?_ _ | refine blk_drew ?_ | refine blk_alloc ?_ _)); refine blk_put (cs := #[.slice none 0 0, .slice none 0 0]) ?_ 0 _ rfl; (with_reducible repeat (first | refine blk_drewN ?_ _ | refine blk_drew ?_ | refine blk_alloc ?_ _)); exact BK182.out) Try.underlying25 rfl (by kernel_rfl)) rfl ?_
        exact ⟨_, _, by first | rfl | (simp [errW_none, errW_some] <;> rfl) | (simp [*, errW_none, errW_some] <;> rfl), by first | exact Kd.S_nil _ _ _ _ _ | exact Kd.N_nil _ _ _ _ _ | exact Kd.V_nil _ _ _ _ _ | exact Kd.Q_nil _ _ _ _ _ | exact Kd.R_nil _ _ _ _ _, by first | exact Kd.S_nil _ _ _ _ _ | exact Kd.N_nil _ _ _ _ _ | exact Kd.V_nil _ _ _ _ _ | exact Kd.Q_nil _ _ _ _ _ | exact Kd.R_nil _ _ _ _ _, by repeat (first | (with_reducible first | exact HB.out | apply below_alloc | apply pw_below_drewN | apply below_drew1 | refine below_set ?_ GE181.out | refine below_set ?_ GE182.out) | exact HB.out)⟩
      · rw [if_neg c7] at H
        have c7b0 : decide (64 ≤ (l0_1.length : Int)) = false := decide_eq_false c7
        have c7b1 : decide (64 ≤ l0_1.length) = false := decide_eq_false (by omega)
        clear c7
        replace H := Option.bind_eq_some_iff.mp H
        obtain ⟨⟨t184, t187⟩, A150, H⟩ := H
        replace H : (some (t184, t187, 0)) = some (r1, r2, r3) := H
        have A15 := Aside0.mk A150
        clear A150
        simp only [Option.some.injEq, Prod.mk.injEq] at H
        obtain ⟨rfl, rfl, rfl⟩ := H
        go_enter Try.func33, Try.ntmps33
        go_wp2_with (first | ((with_reducible refine gate_dst (N := 3) rfl ?_); refine box_event ?hg (N := 3) ?hd (cs := #[.slice A0_0 l0_0.length c0_0, .slice A0_1 l0_1.length c0_1]) (t := 25) ?hr ?_; (case hd => rfl); (case hg => rfl); (case hr => first | (go_simp; done) | (go_simp; rfl)); intro gb181 hg w16 hbox hb; have n0_ := Aside0.mk (below_step (by repeat (first | (with_reducible first | exact HB.out | apply below_alloc | apply pw_below_drewN | apply below_drew1) | exact HB.out)) hb); have n1_ := Aside0.mk (hbox); have n2_ := Aside0.mk ((by rw [hg]; exact (below_size (by repeat (first | (with_reducible first | exact HB.out | apply below_alloc | apply pw_below_drewN | apply below_drew1) | exact HB.out))) : w.heap.size ≤ gb181)); have n3_ := Aside0.mk ((by rw [hg]; exact (below_size (by repeat (first | (with_reducible first | exact HB.out | apply below_alloc | apply pw_below_drewN | apply below_drew1) | exact HB.out))) : w.heap.size ≤ gb181)); clear HB; have HB := n0_; have BK181 := n1_; have GW181 := n2_; have GE181 := n3_; clear n0_ n1_ n2_ n3_; clear hb hbox hg) | ((with_reducible refine gate_dst (N := 6) rfl ?_); refine box_event ?hg (N := 6) ?hd (cs := #[.slice none 0 0, .slice none 0 0]) (t := 25) ?hr ?_; (case hd => rfl); (case hg => rfl); (case hr => first | (go_simp; done) | (go_simp; rfl)); intro gb182 hg w17 hbox hb; have n0_ := Aside0.mk (blk_below (g := gb181) (o := .cells #[.slice A0_0 l0_0.length c0_0, .slice A0_1 l0_1.length c0_1] 25 (0, 0)) (by (with_reducible repeat (first | refine blk_drewN ?_ _ | refine blk_drew ?_ | refine blk_alloc ?_ _)); exact BK181.out) hb); have n1_ := Aside0.mk (below_step (by repeat (first | (with_reducible first | exact HB.out | apply below_alloc | apply pw_below_drewN | apply below_drew1 | refine below_set ?_ GE181.out) | exact HB.out)) hb); have n2_ := Aside0.mk (hbox); have n3_ := Aside0.mk ((by rw [hg]; exact (below_size (by repeat (first | (with_reducible first | exact HB.out | apply below_alloc | apply pw_below_drewN | apply below_drew1 | refine below_set ?_ GE181.out) | exact HB.out))) : w.heap.size ≤ gb182)); have n4_ := Aside0.mk ((by rw [hg]; exact (below_size (by repeat (first | (with_reducible first | exact HB.out | apply below_alloc | apply pw_below_drewN | apply below_drew1 | refine below_set ?_ GE181.out) | exact HB.out))) : w.heap.size ≤ gb182)); have n5_ := Aside0.mk ((by rw [hg]; exact Nat.ne_of_lt (blk_lt (g := gb181) (o := .cells #[.slice A0_0 l0_0.length c0_0, .slice A0_1 l0_1.length c0_1] 25 (0, 0)) (by (with_reducible repeat (first | refine blk_drewN ?_ _ | refine blk_drew ?_ | refine blk_alloc ?_ _)); exact BK181.out)) : gb181 ≠ gb182)); have n6_ := Aside0.mk ((by rw [hg]; exact Nat.ne_of_gt (blk_lt (g := gb181) (o := .cells #[.slice A0_0 l0_0.length c0_0, .slice A0_1 l0_1.length c0_1] 25 (0, 0)) (by (with_reducible repeat (first | refine blk_drewN ?_ _ | refine blk_drew ?_ | refine blk_alloc ?_ _)); exact BK181.out)) : gb182 ≠ gb181)); clear BK181; clear HB; have BK181 := n0_; have HB := n1_; have BK182 := n2_; have GW182 := n3_; have GE182 := n4_; have NB181_182 := n5_; have NB182_181 := n6_; clear n0_ n1_ n2_ n3_ n4_ n5_ n6_; clear hb hbox hg; have hnb18 := NB181_182.out; have hnc18 := NB182_181.out; have hcz19_0 : w17.cell? ⟨gb181, 0, none⟩ = some (.slice A0_0 l0_0.length c0_0) := (blk_cell BK181.out 0).trans rfl; have hcz19_1 : w17.cell? ⟨gb181, 1, none⟩ = some (.slice A0_1 l0_1.length c0_1) := (blk_cell BK181.out 1).trans rfl; have hfz19_0 := blk_frozen BK181.out 0; have hfz19_1 := blk_frozen BK181.out 1) | ((with_reducible refine gate_callee (f := 120) rfl ?_); refine goesL_ (some 11) rfl rfl Try.func120 (by kernel_rfl) rfl #[.agg #[.slice A0_0 l0_0.length c0_0, .slice A0_1 l0_1.length c0_1], .int .i64 a1] rfl (by (try simp only [List.map_toArray, List.map_cons, List.map_nil]); first | done | rfl | (simp only [List.length_drop, List.length_take]; rfl)) ?_; (with_reducible refine (catamaranref05_asked.calls k _ _ l0_0 _ _ l0_1 a1 t183 _ ?side1 ?side2 ?side3 ?side4 A4.out).mono ?_); (case side1 => repeat (first | exact (Kd.C_below HR0_0.out HB.out) | (with_reducible refine Kd.C_alloc ?_ _) | (with_reducible refine Kd.C_drewN ?_ _) | (with_reducible refine Kd.C_drew ?_))); (case side2 => exact HC0_0.out); (case side3 => repeat (first | exact (Kd.C_below HR0_1.out HB.out) | (with_reducible refine Kd.C_alloc ?_ _) | (with_reducible refine Kd.C_drewN ?_ _) | (with_reducible refine Kd.C_drew ?_))); (case side4 => exact HC0_1.out); rintro e w20 ⟨rfl, hb⟩; refine ⟨_, rfl, ?_⟩; have n0_ := Aside0.mk (blk_below (g := gb181) (o := .cells #[.slice A0_0 l0_0.length c0_0, .slice A0_1 l0_1.length c0_1] 25 (0, 0)) (by (with_reducible repeat (first | refine blk_drewN ?_ _ | refine blk_drew ?_ | refine blk_alloc ?_ _)); exact BK181.out) hb); have n1_ := Aside0.mk (blk_below (g := gb182) (o := .cells #[.slice none 0 0, .slice none 0 0] 25 (0, 0)) (by (with_reducible repeat (first | refine blk_drewN ?_ _ | refine blk_drew ?_ | refine blk_alloc ?_ _)); exact BK182.out) hb); have n2_ := Aside0.mk (below_step (by repeat (first | (with_reducible first | exact HB.out | apply below_alloc | apply pw_below_drewN | apply below_drew1 | refine below_set ?_ GE181.out | refine below_set ?_ GE182.out) | exact HB.out)) hb); clear BK181; clear BK182; clear HB; have BK181 := n0_; have BK182 := n1_; have HB := n2_; clear n0_ n1_ n2_; (try clear hb); (try clear hb2); (try clear hk); (try clear hi); have hcz21_0 : w20.cell? ⟨gb181, 0, none⟩ = some (.slice A0_0 l0_0.length c0_0) := (blk_cell BK181.out 0).trans rfl; have hcz21_1 : w20.cell? ⟨gb181, 1, none⟩ = some (.slice A0_1 l0_1.length c0_1) := (blk_cell BK181.out 1).trans rfl; have hfz21_0 := blk_frozen BK181.out 0; have hfz21_1 := blk_frozen BK181.out 1) | ((with_reducible refine gate_callee (f := 121) rfl ?_); refine goesL_ (some 28) rfl rfl Try.func121 (by kernel_rfl) rfl #[.agg #[.slice A0_0 l0_0.length c0_0, .slice A0_1 l0_1.length c0_1], .int .i64 a1, .slice A2 l2.length c2] rfl (by (try simp only [List.map_toArray, List.map_cons, List.map_nil]); first | done | rfl | (simp only [List.length_drop, List.length_take]; rfl)) ?_; (with_reducible refine (catamaranref05_With.calls k _ _ l0_0 _ _ l0_1 a1 _ _ l2 t184 t187 _ ?side1 ?side2 ?side3 ?side4 ?side5 ?side6 A15.out).mono ?_); (case side1 => repeat (first | exact (Kd.C_below HR0_0.out HB.out) | (with_reducible refine Kd.C_alloc ?_ _) | (with_reducible refine Kd.C_drewN ?_ _) | (with_reducible refine Kd.C_drew ?_))); (case side2 => exact HC0_0.out); (case side3 => repeat (first | exact (Kd.C_below HR0_1.out HB.out) | (with_reducible refine Kd.C_alloc ?_ _) | (with_reducible refine Kd.C_drewN ?_ _) | (with_reducible refine Kd.C_drew ?_))); (case side4 => exact HC0_1.out); (case side5 => repeat (first | exact (Kd.C_below HR2.out HB.out) | (with_reducible refine Kd.C_alloc ?_ _) | (with_reducible refine Kd.C_drewN ?_ _) | (with_reducible refine Kd.C_drew ?_))); (case side6 => exact HC2.out); rintro e w22 ⟨v185, v188, rfl, ho0, ho1, hb⟩; refine ⟨_, rfl, ?_⟩; have n0_ := Aside0.mk (Kd.S_lower ho0 (below_size (by repeat (first | (with_reducible first | exact HB.out | apply below_alloc | apply pw_below_drewN | apply below_drew1 | refine below_set ?_ GE181.out | refine below_set ?_ GE182.out) | exact HB.out)))); have n1_ := Aside0.mk (Kd.S_lower ho1 (below_size (by repeat (first | (with_reducible first | exact HB.out | apply below_alloc | apply pw_below_drewN | apply below_drew1 | refine below_set ?_ GE181.out | refine below_set ?_ GE182.out) | exact HB.out)))); have n2_ := Aside0.mk (blk_below (g := gb181) (o := .cells #[.slice A0_0 l0_0.length c0_0, .slice A0_1 l0_1.length c0_1] 25 (0, 0)) (by (with_reducible repeat (first | refine blk_drewN ?_ _ | refine blk_drew ?_ | refine blk_alloc ?_ _)); exact BK181.out) hb); have n3_ := Aside0.mk (blk_below (g := gb182) (o := .cells #[.slice none 0 0, .slice none 0 0] 25 (0, 0)) (by (with_reducible repeat (first | refine blk_drewN ?_ _ | refine blk_drew ?_ | refine blk_alloc ?_ _)); exact BK182.out) hb); have n4_ := Aside0.mk (below_step (by repeat (first | (with_reducible first | exact HB.out | apply below_alloc | apply pw_below_drewN | apply below_drew1 | refine below_set ?_ GE181.out | refine below_set ?_ GE182.out) | exact HB.out)) hb); clear BK181; clear BK182; clear HB; have HO186 := n0_; have HO189 := n1_; have BK181 := n2_; have BK182 := n3_; have HB := n4_; clear n0_ n1_ n2_ n3_ n4_; (try clear hb); (try clear hb2); (try clear hk); (try clear hi); (try clear ho0); (try clear ho1); obtain ⟨Ao23, co23, eo23⟩ := Kd.S_slice HO186.out; subst eo23; have hcz24_0 : w22.cell? ⟨gb182, 0, none⟩ = some (.slice none 0 0) := (blk_cell BK182.out 0).trans rfl; have hcz24_1 : w22.cell? ⟨gb182, 1, none⟩ = some (.slice none 0 0) := (blk_cell BK182.out 1).trans rfl; have hfz24_0 := blk_frozen BK182.out 0; have hfz24_1 := blk_frozen BK182.out 1; obtain ⟨Ao25, co25, eo25⟩ := Kd.S_slice HO189.out; subst eo25))
        refine bodyPost_ret (results_ct rfl _ _ gb182 25 #[.slice Ao23 t184.length co23, .slice Ao25 t187.length co25] (0, 0) _ rfl (by (with_reducible repeat (first | refine blk_drewN ?_ _ | refine blk_drew ?_ | refine blk_alloc ?_ _)); refine blk_put (cs := #[.slice Ao23 t184.length co23, .slice none 0 0]) ?_ 1 _ rfl; (with_reducible repeat (first | refine blk_drewN ?_ _ | refine blk_drew ?_ | refine blk_alloc ?_ _)); refine blk_put (cs := #[.slice none 0 0, .slice none 0 0]) ?_ 0 _ rfl; (with_reducible repeat (first | refine blk_drewN ?_ _ | refine blk_drew ?_ | refine blk_alloc ?_ _)); exact BK182.out) Try.underlying25 rfl (by kernel_rfl)) rfl ?_
        exact ⟨_, _, by first | rfl | (simp [errW_none, errW_some] <;> rfl) | (simp [*, errW_none, errW_some] <;> rfl), by (with_reducible repeat (first | apply Kd.S_alloc | apply Kd.S_drewN | apply Kd.S_drew)); exact Kd.S_mono (Kd.S_far (p := ⟨gb182, 1, none⟩) (Kd.S_far (p := ⟨gb182, 0, none⟩) (Kd.S_types HO186.out BK182.out (by decide)) (fun _ hk => hk.2) (.slice Ao23 t184.length co23)) (fun _ hk => hk.2) (.slice Ao25 t187.length co25)) (fun _ hk => trivial), by (with_reducible repeat (first | apply Kd.S_alloc | apply Kd.S_drewN | apply Kd.S_drew)); exact Kd.S_mono (Kd.S_far (p := ⟨gb182, 1, none⟩) (Kd.S_far (p := ⟨gb182, 0, none⟩) (Kd.S_types HO189.out BK182.out (by decide)) (fun _ hk => hk.2) (.slice Ao23 t184.length co23)) (fun _ hk => hk.2) (.slice Ao25 t187.length co25)) (fun _ hk => trivial), by repeat (first | (with_reducible first | exact HB.out | apply below_alloc | apply pw_below_drewN | apply below_drew1 | refine below_set ?_ GE181.out | refine below_set ?_ GE182.out) | exact HB.out)⟩
    · rw [if_neg c6] at H
      have c6b0 : ((l2.length : Int) == 32) = false := beq_eq_false_iff_ne.mpr c6
      have c6b1 : ((l2.length : Int) != 32) = true := bne_iff_ne.mpr c6
      simp only [Option.some.injEq, Prod.mk.injEq] at H
      obtain ⟨rfl, rfl, rfl⟩ := H
      go_enter Try.func33, Try.ntmps33
      go_wp2_with (first | ((with_reducible refine gate_dst (N := 3) rfl ?_); refine box_event ?hg (N := 3) ?hd (cs := #[.slice A0_0 l0_0.length c0_0, .slice A0_1 l0_1.length c0_1]) (t := 25) ?hr ?_; (case hd => rfl); (case hg => rfl); (case hr => first | (go_simp; done) | (go_simp; rfl)); intro gb181 hg w26 hbox hb; have n0_ := Aside0.mk (below_step (by repeat (first | (with_reducible first | exact HB.out | apply below_alloc | apply pw_below_drewN | apply below_drew1) | exact HB.out)) hb); have n1_ := Aside0.mk (hbox); have n2_ := Aside0.mk ((by rw [hg]; exact (below_size (by repeat (first | (with_reducible first | exact HB.out | apply below_alloc | apply pw_below_drewN | apply below_drew1) | exact HB.out))) : w.heap.size ≤ gb181)); have n3_ := Aside0.mk ((by rw [hg]; exact (below_size (by repeat (first | (with_reducible first | exact HB.out | apply below_alloc | apply pw_below_drewN | apply below_drew1) | exact HB.out))) : w.heap.size ≤ gb181)); clear HB; have HB := n0_; have BK181 := n1_; have GW181 := n2_; have GE181 := n3_; clear n0_ n1_ n2_ n3_; clear hb hbox hg) | ((with_reducible refine gate_dst (N := 6) rfl ?_); refine box_event ?hg (N := 6) ?hd (cs := #[.slice none 0 0, .slice none 0 0]) (t := 25) ?hr ?_; (case hd => rfl); (case hg => rfl); (case hr => first | (go_simp; done) | (go_simp; rfl)); intro gb182 hg w27 hbox hb; have n0_ := Aside0.mk (blk_below (g := gb181) (o := .cells #[.slice A0_0 l0_0.length c0_0, .slice A0_1 l0_1.length c0_1] 25 (0, 0)) (by (with_reducible repeat (first | refine blk_drewN ?_ _ | refine blk_drew ?_ | refine blk_alloc ?_ _)); exact BK181.out) hb); have n1_ := Aside0.mk (below_step (by repeat (first | (with_reducible first | exact HB.out | apply below_alloc | apply pw_below_drewN | apply below_drew1 | refine below_set ?_ GE181.out) | exact HB.out)) hb); have n2_ := Aside0.mk (hbox); have n3_ := Aside0.mk ((by rw [hg]; exact (below_size (by repeat (first | (with_reducible first | exact HB.out | apply below_alloc | apply pw_below_drewN | apply below_drew1 | refine below_set ?_ GE181.out) | exact HB.out))) : w.heap.size ≤ gb182)); have n4_ := Aside0.mk ((by rw [hg]; exact (below_size (by repeat (first | (with_reducible first | exact HB.out | apply below_alloc | apply pw_below_drewN | apply below_drew1 | refine below_set ?_ GE181.out) | exact HB.out))) : w.heap.size ≤ gb182)); have n5_ := Aside0.mk ((by rw [hg]; exact Nat.ne_of_lt (blk_lt (g := gb181) (o := .cells #[.slice A0_0 l0_0.length c0_0, .slice A0_1 l0_1.length c0_1] 25 (0, 0)) (by (with_reducible repeat (first | refine blk_drewN ?_ _ | refine blk_drew ?_ | refine blk_alloc ?_ _)); exact BK181.out)) : gb181 ≠ gb182)); have n6_ := Aside0.mk ((by rw [hg]; exact Nat.ne_of_gt (blk_lt (g := gb181) (o := .cells #[.slice A0_0 l0_0.length c0_0, .slice A0_1 l0_1.length c0_1] 25 (0, 0)) (by (with_reducible repeat (first | refine blk_drewN ?_ _ | refine blk_drew ?_ | refine blk_alloc ?_ _)); exact BK181.out)) : gb182 ≠ gb181)); clear BK181; clear HB; have BK181 := n0_; have HB := n1_; have BK182 := n2_; have GW182 := n3_; have GE182 := n4_; have NB181_182 := n5_; have NB182_181 := n6_; clear n0_ n1_ n2_ n3_ n4_ n5_ n6_; clear hb hbox hg; have hnb28 := NB181_182.out; have hnc28 := NB182_181.out; have hcz29_0 : w27.cell? ⟨gb181, 0, none⟩ = some (.slice A0_0 l0_0.length c0_0) := (blk_cell BK181.out 0).trans rfl; have hcz29_1 : w27.cell? ⟨gb181, 1, none⟩ = some (.slice A0_1 l0_1.length c0_1) := (blk_cell BK181.out 1).trans rfl; have hfz29_0 := blk_frozen BK181.out 0; have hfz29_1 := blk_frozen BK181.out 1) | ((with_reducible refine gate_callee (f := 120) rfl ?_); refine goesL_ (some 11) rfl rfl Try.func120 (by kernel_rfl) rfl #[.agg #[.slice A0_0 l0_0.length c0_0, .slice A0_1 l0_1.length c0_1], .int .i64 a1] rfl (by (try simp only [List.map_toArray, List.map_cons, List.map_nil]); first | done | rfl | (simp only [List.length_drop, List.length_take]; rfl)) ?_; (with_reducible refine (catamaranref05_asked.calls k _ _ l0_0 _ _ l0_1 a1 t183 _ ?side1 ?side2 ?side3 ?side4 A4.out).mono ?_); (case side1 => repeat (first | exact (Kd.C_below HR0_0.out HB.out) | (with_reducible refine Kd.C_alloc ?_ _) | (with_reducible refine Kd.C_drewN ?_ _) | (with_reducible refine Kd.C_drew ?_))); (case side2 => exact HC0_0.out); (case side3 => repeat (first | exact (Kd.C_below HR0_1.out HB.out) | (with_reducible refine Kd.C_alloc ?_ _) | (with_reducible refine Kd.C_drewN ?_ _) | (with_reducible refine Kd.C_drew ?_))); (case side4 => exact HC0_1.out); rintro e w30 ⟨rfl, hb⟩; refine ⟨_, rfl, ?_⟩; have n0_ := Aside0.mk (blk_below (g := gb181) (o := .cells #[.slice A0_0 l0_0.length c0_0, .slice A0_1 l0_1.length c0_1] 25 (0, 0)) (by (with_reducible repeat (first | refine blk_drewN ?_ _ | refine blk_drew ?_ | refine blk_alloc ?_ _)); exact BK181.out) hb); have n1_ := Aside0.mk (blk_below (g := gb182) (o := .cells #[.slice none 0 0, .slice none 0 0] 25 (0, 0)) (by (with_reducible repeat (first | refine blk_drewN ?_ _ | refine blk_drew ?_ | refine blk_alloc ?_ _)); exact BK182.out) hb); have n2_ := Aside0.mk (below_step (by repeat (first | (with_reducible first | exact HB.out | apply below_alloc | apply pw_below_drewN | apply below_drew1 | refine below_set ?_ GE181.out | refine below_set ?_ GE182.out) | exact HB.out)) hb); clear BK181; clear BK182; clear HB; have BK181 := n0_; have BK182 := n1_; have HB := n2_; clear n0_ n1_ n2_; (try clear hb); (try clear hb2); (try clear hk); (try clear hi); have hcz31_0 : w30.cell? ⟨gb182, 0, none⟩ = some (.slice none 0 0) := (blk_cell BK182.out 0).trans rfl; have hcz31_1 : w30.cell? ⟨gb182, 1, none⟩ = some (.slice none 0 0) := (blk_cell BK182.out 1).trans rfl; have hfz31_0 := blk_frozen BK182.out 0; have hfz31_1 := blk_frozen BK182.out 1))
      refine bodyPost_ret (results_ct rfl _ _ gb182 25 #[.slice none 0 0, .slice none 0 0] (0, 0) _ rfl (by (with_reducible repeat (first | refine blk_drewN ?_ _ | refine blk_drew ?_ | refine blk_alloc ?_ _)); refine blk_put (cs := #[.slice none 0 0, .slice none 0 0]) ?_ 1 _ rfl; (with_reducible repeat (first | refine blk_drewN ?_ _ | refine blk_drew ?_ | refine blk_alloc ?_ _)); refine blk_put (cs := #[.slice none 0 0, .slice none 0 0]) ?_ 0 _ rfl; (with_reducible repeat (first | refine blk_drewN ?_ _ | refine blk_drew ?_ | refine blk_alloc ?_ _)); exact BK182.out) Try.underlying25 rfl (by kernel_rfl)) rfl ?_
      exact ⟨_, _, by first | rfl | (simp [errW_none, errW_some] <;> rfl) | (simp [*, errW_none, errW_some] <;> rfl), by first | exact Kd.S_nil _ _ _ _ _ | exact Kd.N_nil _ _ _ _ _ | exact Kd.V_nil _ _ _ _ _ | exact Kd.Q_nil _ _ _ _ _ | exact Kd.R_nil _ _ _ _ _, by first | exact Kd.S_nil _ _ _ _ _ | exact Kd.N_nil _ _ _ _ _ | exact Kd.V_nil _ _ _ _ _ | exact Kd.Q_nil _ _ _ _ _ | exact Kd.R_nil _ _ _ _ _, by repeat (first | (with_reducible first | exact HB.out | apply below_alloc | apply pw_below_drewN | apply below_drew1 | refine below_set ?_ GE181.out | refine below_set ?_ GE182.out) | exact HB.out)⟩
  · rw [if_neg c5] at H
    have c5b0 : (t183 == 0) = false := beq_eq_false_iff_ne.mpr c5
    have c5b1 : (t183 != 0) = true := bne_iff_ne.mpr c5
    simp only [Option.some.injEq, Prod.mk.injEq] at H
    obtain ⟨rfl, rfl, rfl⟩ := H
    go_enter Try.func33, Try.ntmps33
    go_wp2_with (first | ((with_reducible refine gate_dst (N := 3) rfl ?_); refine box_event ?hg (N := 3) ?hd (cs := #[.slice A0_0 l0_0.length c0_0, .slice A0_1 l0_1.length c0_1]) (t := 25) ?hr ?_; (case hd => rfl); (case hg => rfl); (case hr => first | (go_simp; done) | (go_simp; rfl)); intro gb181 hg w32 hbox hb; have n0_ := Aside0.mk (below_step (by repeat (first | (with_reducible first | exact HB.out | apply below_alloc | apply pw_below_drewN | apply below_drew1) | exact HB.out)) hb); have n1_ := Aside0.mk (hbox); have n2_ := Aside0.mk ((by rw [hg]; exact (below_size (by repeat (first | (with_reducible first | exact HB.out | apply below_alloc | apply pw_below_drewN | apply below_drew1) | exact HB.out))) : w.heap.size ≤ gb181)); have n3_ := Aside0.mk ((by rw [hg]; exact (below_size (by repeat (first | (with_reducible first | exact HB.out | apply below_alloc | apply pw_below_drewN | apply below_drew1) | exact HB.out))) : w.heap.size ≤ gb181)); clear HB; have HB := n0_; have BK181 := n1_; have GW181 := n2_; have GE181 := n3_; clear n0_ n1_ n2_ n3_; clear hb hbox hg) | ((with_reducible refine gate_dst (N := 6) rfl ?_); refine box_event ?hg (N := 6) ?hd (cs := #[.slice none 0 0, .slice none 0 0]) (t := 25) ?hr ?_; (case hd => rfl); (case hg => rfl); (case hr => first | (go_simp; done) | (go_simp; rfl)); intro gb182 hg w33 hbox hb; have n0_ := Aside0.mk (blk_below (g := gb181) (o := .cells #[.slice A0_0 l0_0.length c0_0, .slice A0_1 l0_1.length c0_1] 25 (0, 0)) (by (with_reducible repeat (first | refine blk_drewN ?_ _ | refine blk_drew ?_ | refine blk_alloc ?_ _)); exact BK181.out) hb); have n1_ := Aside0.mk (below_step (by repeat (first | (with_reducible first | exact HB.out | apply below_alloc | apply pw_below_drewN | apply below_drew1 | refine below_set ?_ GE181.out) | exact HB.out)) hb); have n2_ := Aside0.mk (hbox); have n3_ := Aside0.mk ((by rw [hg]; exact (below_size (by repeat (first | (with_reducible first | exact HB.out | apply below_alloc | apply pw_below_drewN | apply below_drew1 | refine below_set ?_ GE181.out) | exact HB.out))) : w.heap.size ≤ gb182)); have n4_ := Aside0.mk ((by rw [hg]; exact (below_size (by repeat (first | (with_reducible first | exact HB.out | apply below_alloc | apply pw_below_drewN | apply below_drew1 | refine below_set ?_ GE181.out) | exact HB.out))) : w.heap.size ≤ gb182)); have n5_ := Aside0.mk ((by rw [hg]; exact Nat.ne_of_lt (blk_lt (g := gb181) (o := .cells #[.slice A0_0 l0_0.length c0_0, .slice A0_1 l0_1.length c0_1] 25 (0, 0)) (by (with_reducible repeat (first | refine blk_drewN ?_ _ | refine blk_drew ?_ | refine blk_alloc ?_ _)); exact BK181.out)) : gb181 ≠ gb182)); have n6_ := Aside0.mk ((by rw [hg]; exact Nat.ne_of_gt (blk_lt (g := gb181) (o := .cells #[.slice A0_0 l0_0.length c0_0, .slice A0_1 l0_1.length c0_1] 25 (0, 0)) (by (with_reducible repeat (first | refine blk_drewN ?_ _ | refine blk_drew ?_ | refine blk_alloc ?_ _)); exact BK181.out)) : gb182 ≠ gb181)); clear BK181; clear HB; have BK181 := n0_; have HB := n1_; have BK182 := n2_; have GW182 := n3_; have GE182 := n4_; have NB181_182 := n5_; have NB182_181 := n6_; clear n0_ n1_ n2_ n3_ n4_ n5_ n6_; clear hb hbox hg; have hnb34 := NB181_182.out; have hnc34 := NB182_181.out; have hcz35_0 : w33.cell? ⟨gb181, 0, none⟩ = some (.slice A0_0 l0_0.length c0_0) := (blk_cell BK181.out 0).trans rfl; have hcz35_1 : w33.cell? ⟨gb181, 1, none⟩ = some (.slice A0_1 l0_1.length c0_1) := (blk_cell BK181.out 1).trans rfl; have hfz35_0 := blk_frozen BK181.out 0; have hfz35_1 := blk_frozen BK181.out 1) | ((with_reducible refine gate_callee (f := 120) rfl ?_); refine goesL_ (some 11) rfl rfl Try.func120 (by kernel_rfl) rfl #[.agg #[.slice A0_0 l0_0.length c0_0, .slice A0_1 l0_1.length c0_1], .int .i64 a1] rfl (by (try simp only [List.map_toArray, List.map_cons, List.map_nil]); first | done | rfl | (simp only [List.length_drop, List.length_take]; rfl)) ?_; (with_reducible refine (catamaranref05_asked.calls k _ _ l0_0 _ _ l0_1 a1 t183 _ ?side1 ?side2 ?side3 ?side4 A4.out).mono ?_); (case side1 => repeat (first | exact (Kd.C_below HR0_0.out HB.out) | (with_reducible refine Kd.C_alloc ?_ _) | (with_reducible refine Kd.C_drewN ?_ _) | (with_reducible refine Kd.C_drew ?_))); (case side2 => exact HC0_0.out); (case side3 => repeat (first | exact (Kd.C_below HR0_1.out HB.out) | (with_reducible refine Kd.C_alloc ?_ _) | (with_reducible refine Kd.C_drewN ?_ _) | (with_reducible refine Kd.C_drew ?_))); (case side4 => exact HC0_1.out); rintro e w36 ⟨rfl, hb⟩; refine ⟨_, rfl, ?_⟩; have n0_ := Aside0.mk (blk_below (g := gb181) (o := .cells #[.slice A0_0 l0_0.length c0_0, .slice A0_1 l0_1.length c0_1] 25 (0, 0)) (by (with_reducible repeat (first | refine blk_drewN ?_ _ | refine blk_drew ?_ | refine blk_alloc ?_ _)); exact BK181.out) hb); have n1_ := Aside0.mk (blk_below (g := gb182) (o := .cells #[.slice none 0 0, .slice none 0 0] 25 (0, 0)) (by (with_reducible repeat (first | refine blk_drewN ?_ _ | refine blk_drew ?_ | refine blk_alloc ?_ _)); exact BK182.out) hb); have n2_ := Aside0.mk (below_step (by repeat (first | (with_reducible first | exact HB.out | apply below_alloc | apply pw_below_drewN | apply below_drew1 | refine below_set ?_ GE181.out | refine below_set ?_ GE182.out) | exact HB.out)) hb); clear BK181; clear BK182; clear HB; have BK181 := n0_; have BK182 := n1_; have HB := n2_; clear n0_ n1_ n2_; (try clear hb); (try clear hb2); (try clear hk); (try clear hi); have hcz37_0 : w36.cell? ⟨gb182, 0, none⟩ = some (.slice none 0 0) := (blk_cell BK182.out 0).trans rfl; have hcz37_1 : w36.cell? ⟨gb182, 1, none⟩ = some (.slice none 0 0) := (blk_cell BK182.out 1).trans rfl; have hfz37_0 := blk_frozen BK182.out 0; have hfz37_1 := blk_frozen BK182.out 1))
    refine bodyPost_ret (results_ct rfl _ _ gb182 25 #[.slice none 0 0, .slice none 0 0] (0, 0) _ rfl (by (with_reducible repeat (first | refine blk_drewN ?_ _ | refine blk_drew ?_ | refine blk_alloc ?_ _)); refine blk_put (cs := #[.slice none 0 0, .slice none 0 0]) ?_ 1 _ rfl; (with_reducible repeat (first | refine blk_drewN ?_ _ | refine blk_drew ?_ | refine blk_alloc ?_ _)); refine blk_put (cs := #[.slice none 0 0, .slice none 0 0]) ?_ 0 _ rfl; (with_reducible repeat (first | refine blk_drewN ?_ _ | refine blk_drew ?_ | refine blk_alloc ?_ _)); exact BK182.out) Try.underlying25 rfl (by kernel_rfl)) rfl ?_
    exact ⟨_, _, by first | rfl | (simp [errW_none, errW_some] <;> rfl) | (simp [*, errW_none, errW_some] <;> rfl), by first | exact Kd.S_nil _ _ _ _ _ | exact Kd.N_nil _ _ _ _ _ | exact Kd.V_nil _ _ _ _ _ | exact Kd.Q_nil _ _ _ _ _ | exact Kd.R_nil _ _ _ _ _, by first | exact Kd.S_nil _ _ _ _ _ | exact Kd.N_nil _ _ _ _ _ | exact Kd.V_nil _ _ _ _ _ | exact Kd.Q_nil _ _ _ _ _ | exact Kd.R_nil _ _ _ _ _, by repeat (first | (with_reducible first | exact HB.out | apply below_alloc | apply pw_below_drewN | apply below_drew1 | refine below_set ?_ GE181.out | refine below_set ?_ GE182.out) | exact HB.out)⟩
end Go.Proofs.Ytjlohdbkjoofcaa.P
end
section
set_option linter.unusedVariables false
set_option linter.unusedSimpArgs false
namespace Go.Proofs.Ytjlohdbkjoofcaa.P
open Go.RowKit Go.Proofs.PrintWords Go.Proofs.PrintLast Go.Proofs.PrintMore
attribute [local go_sem] max2_int min2_int max_two min_two max_three min_three max_four min_four
theorem rd52_at {l : List S52} {n : Nat} (hn : n < l.length) : rd_T52 l (n : Int) = l[n] := by unfold rd_T52; rw [List.getD_eq_getElem?_getD]; simp [hn]
theorem rd65_at {l : List S65} {n : Nat} (hn : n < l.length) : rd_T65 l (n : Int) = l[n] := by unfold rd_T65; rw [List.getD_eq_getElem?_getD]; simp [hn]
theorem rd_at {l : List Int} {n : Nat} (hn : n < l.length) : rd l (n : Int) = l[n] := by unfold rd; rw [List.getD_eq_getElem?_getD]; simp [hn]
theorem wrap_succ {n : Nat} (h : n ≤ 1000000000) : wrap64 ((n : Int) + 1) = ((n + 1 : Nat) : Int) := by unfold wrap64; omega
theorem great_l1 (l0 : List S52) (l1 : List S65) (m : Int) : ∀ (d k n : Nat), 100 ≤ n + d → n ≤ 100 → 2 * d + 2 ≤ k → ∃ b, catamaranref05_Great.l1 k m (n : Int) l0 l1 = some b ∧ (b = false → (l0.length : Int) ≤ m ∧ l1.length ≤ 100 ∧ ∀ i, n ≤ i → (hi : i < l1.length) → (l1[i]).f1.length ≤ 100)
  | d, k, n, h, h2, hk => by
    obtain ⟨k, rfl⟩ : ∃ k', k = k' + 2 := ⟨k - 2, by omega⟩
    unfold catamaranref05_Great.l1
    by_cases hn : n < l1.length
    · rw [if_pos (by omega)]
      unfold catamaranref05_Great.j3
      by_cases h100 : n < 100
      · rw [if_pos (by simp; omega), if_pos (by omega), if_pos (by omega), rd65_at hn]
        by_cases hb : ((l1[n]).f1.length : Int) > 100
        · rw [if_pos hb]
          exact ⟨true, rfl, fun h => by cases h⟩
        · rw [if_neg hb, wrap_succ (by omega)]
          obtain ⟨b, e, hbb⟩ := great_l1 l0 l1 m (d - 1) k (n + 1) (by omega) (by omega) (by omega)
          refine ⟨b, e, fun h => ?_⟩
          obtain ⟨p1, p2, p3⟩ := hbb h
          refine ⟨p1, p2, fun i hi hil => ?_⟩
          by_cases hin : i = n
          · subst hin; omega
          · exact p3 i (by omega) hil
      · rw [if_neg (by simp; omega)]
        by_cases hl : (l0.length : Int) > m
        · rw [if_pos hl]; exact ⟨true, rfl, fun h => by cases h⟩
        · rw [if_neg hl]
          exact ⟨_, rfl, fun h => by have := of_decide_eq_false h; omega⟩
    · rw [if_neg (by omega)]
      unfold catamaranref05_Great.j3
      rw [if_neg (by simp)]
      by_cases hl : (l0.length : Int) > m
      · rw [if_pos hl]; exact ⟨true, rfl, fun h => by cases h⟩
      · rw [if_neg hl]
        exact ⟨_, rfl, fun h => by have := of_decide_eq_false h; exact ⟨by omega, by omega, fun i hi hil => by omega⟩⟩
set_option maxRecDepth 20000 in
theorem great_l0 (l0 : List S52) (l1 : List S65) (m : Nat) (hm : m ≤ 1000) : ∀ (d k n : Nat), m ≤ n + d → n ≤ m → 2 * d + 204 ≤ k → ∃ b, catamaranref05_Great.l0 k (m : Int) (n : Int) l0 l1 = some b ∧ (b = false → l0.length ≤ m ∧ l1.length ≤ 100 ∧ (∀ i, n ≤ i → (hi : i < l0.length) → (l0[i]).f0.length ≤ 100) ∧ ∀ p ∈ l1, p.f1.length ≤ 100)
  | d, k, n, h, h2, hk => by
    obtain ⟨k, rfl⟩ : ∃ k', k = k' + 2 := ⟨k - 2, by omega⟩
    have hend : ∃ b, catamaranref05_Great.l1 k (m : Int) 0 l0 l1 = some b ∧ (b = false → l0.length ≤ m ∧ l1.length ≤ 100 ∧ ∀ p ∈ l1, p.f1.length ≤ 100) := by
      obtain ⟨b, e, hb⟩ := great_l1 l0 l1 m 100 k 0 (by omega) (by omega) (by omega)
      refine ⟨b, e, fun h => ?_⟩
      obtain ⟨p1, p2, p3⟩ := hb h
      refine ⟨by omega, p2, fun p hp => ?_⟩
      obtain ⟨i, hi, rfl⟩ := List.mem_iff_getElem.1 hp
      exact p3 i (by omega) hi
    unfold catamaranref05_Great.l0
    by_cases hn : n < l0.length
    · rw [if_pos (by omega)]
      unfold catamaranref05_Great.j1
      by_cases h100 : n < m
      · rw [if_pos (by simp; omega), if_pos (by omega), if_pos (by omega), rd52_at hn]
        by_cases hb : ((l0[n]).f0.length : Int) > 100
        · rw [if_pos hb]
          exact ⟨true, rfl, fun h => by cases h⟩
        · rw [if_neg hb, wrap_succ (by omega)]
          obtain ⟨b, e, hbb⟩ := great_l0 l0 l1 m hm (d - 1) k (n + 1) (by omega) (by omega) (by omega)
          refine ⟨b, e, fun h => ?_⟩
          obtain ⟨p1, p2, p3, p4⟩ := hbb h
          refine ⟨p1, p2, fun i hi hil => ?_, p4⟩
          by_cases hin : i = n
          · subst hin; omega
          · exact p3 i (by omega) hil
      · rw [if_neg (by simp; omega)]
        obtain ⟨b, e, hb⟩ := hend
        exact ⟨b, e, fun h => by obtain ⟨p1, p2, p3⟩ := hb h; exact ⟨p1, p2, fun i hi hil => by omega, p3⟩⟩
    · rw [if_neg (by omega)]
      unfold catamaranref05_Great.j1
      rw [if_neg (by simp)]
      obtain ⟨b, e, hb⟩ := great_l1 l0 l1 m 100 k 0 (by omega) (by omega) (by omega)
      refine ⟨b, e, fun h => ?_⟩
      obtain ⟨p1, p2, p3⟩ := hb h
      refine ⟨by omega, p2, fun i hi hil => by omega, fun p hp => ?_⟩
      obtain ⟨i, hi, rfl⟩ := List.mem_iff_getElem.1 hp
      exact p3 i (by omega) hi
theorem great_is (l0 : List S52) (l1 : List S65) (m : Nat) (hm : m ≤ 1000) (k : Nat) (hk : 2 * m + 204 ≤ k) : ∃ b, catamaranref05_Great.f k l0 l1 (m : Int) = some b ∧ (b = false → l0.length ≤ m ∧ l1.length ≤ 100 ∧ (∀ s ∈ l0, s.f0.length ≤ 100) ∧ ∀ p ∈ l1, p.f1.length ≤ 100) := by
  obtain ⟨b, e, hb⟩ := great_l0 l0 l1 m hm m k 0 (by omega) (by omega) hk
  refine ⟨b, e, fun h => ?_⟩
  obtain ⟨p1, p2, p3, p4⟩ := hb h
  refine ⟨p1, p2, fun p hp => ?_, p4⟩
  obtain ⟨i, hi, rfl⟩ := List.mem_iff_getElem.1 hp
  exact p3 i (by omega) hi
theorem rtwin_l1 (l0 o0 : List S52) : ∀ (m k n : Nat) (l1 : List S65), n + m = l1.length → m + 1 ≤ k → l1.length ≤ 100000 → (∀ p ∈ l1, p.f1.length ≤ 100000) → catamaranref05_Twin.l1 k (n : Int) l0 l1 o0 (l1.take n) = some (o0, l1)
  | 0, k + 1, n, l1, h, _, _, _ => by
    obtain rfl : n = l1.length := by omega
    unfold catamaranref05_Twin.l1
    rw [if_neg (by omega), List.take_length]
  | m + 1, k + 1, n, l1, h, hk, hl, hb => by
    have hn : n < l1.length := by omega
    have hx := hb l1[n] (List.getElem_mem hn)
    have ht : (l1.take n).length = n := by rw [List.length_take]; omega
    unfold catamaranref05_Twin.l1
    rw [if_pos (by omega), if_pos (by omega), Option.bind_some, rd65_at hn, if_pos (by simp; omega), if_pos (by omega), wrap_succ (by omega), ← rtwin_l1 l0 o0 m k (n + 1) l1 (by omega) (by omega) hl hb, List.take_add_one, List.getElem?_eq_getElem hn]
    rfl
theorem rtwin_l0 : ∀ (m k n : Nat) (l0 : List S52) (l1 : List S65), n + m = l0.length → m + l1.length + 2 ≤ k → l0.length ≤ 100000 → l1.length ≤ 100000 → (∀ p ∈ l0, p.f0.length ≤ 100000) → (∀ p ∈ l1, p.f1.length ≤ 100000) → catamaranref05_Twin.l0 k (n : Int) l0 l1 (l0.take n) = some (l0, l1)
  | 0, k + 1, n, l0, l1, h, hk, _, hl1, _, hb1 => by
    obtain rfl : n = l0.length := by omega
    unfold catamaranref05_Twin.l0
    rw [if_neg (by omega), List.take_length]
    exact rtwin_l1 l0 l0 l1.length k 0 l1 (by omega) (by omega) hl1 hb1
  | m + 1, k + 1, n, l0, l1, h, hk, hl, hl1, hb, hb1 => by
    have hn : n < l0.length := by omega
    have hx := hb l0[n] (List.getElem_mem hn)
    have ht : (l0.take n).length = n := by rw [List.length_take]; omega
    unfold catamaranref05_Twin.l0
    rw [if_pos (by omega), Option.bind_some, if_pos (by omega), rd52_at hn, if_pos (by simp; omega), if_pos (by omega), wrap_succ (by omega), ← rtwin_l0 m k (n + 1) l0 l1 (by omega) (by omega) hl hl1 hb hb1, List.take_add_one, List.getElem?_eq_getElem hn]
    rfl
theorem rTwin_is (k : Nat) (l0 : List S52) (l1 : List S65) (hk : l0.length + l1.length + 2 ≤ k) (hl : l0.length ≤ 100000) (hl1 : l1.length ≤ 100000) (hb : ∀ p ∈ l0, p.f0.length ≤ 100000) (hb1 : ∀ p ∈ l1, p.f1.length ≤ 100000) : catamaranref05_Twin.f k l0 l1 = some (l0, l1) := by
  unfold catamaranref05_Twin.f
  exact rtwin_l0 l0.length k 0 l0 l1 (by omega) hk hl hl1 hb hb1
theorem blank_l0 : ∀ (m k n : Nat) (b : List Int), n + m = b.length → m + 1 ≤ k → b.length ≤ 100000 → (b.take n).all (· == 0) = true → catamaranref05_blank.l0 k b (n : Int) = some (b.all (· == 0))
  | 0, k + 1, n, b, h, _, _, ht => by
    obtain rfl : n = b.length := by omega
    unfold catamaranref05_blank.l0
    rw [List.take_length] at ht
    rw [if_neg (by omega), ht]
  | m + 1, k + 1, n, b, h, hk, hl, ht => by
    have hn : n < b.length := by omega
    unfold catamaranref05_blank.l0
    rw [if_pos (by omega), if_pos (by omega), rd_at hn]
    by_cases hz : b[n] = 0
    · rw [if_pos hz, wrap_succ (by omega)]
      refine blank_l0 m k (n + 1) b (by omega) (by omega) hl ?_
      rw [List.take_succ_eq_append_getElem hn, List.all_append, ht]
      simp [hz]
    · rw [if_neg hz]
      congr 1
      symm
      rw [List.all_eq_false]
      exact ⟨b[n], List.getElem_mem hn, by simpa using hz⟩
theorem blank_is (k : Nat) (b : List Int) (hk : b.length + 1 ≤ k) (hl : b.length ≤ 100000) : catamaranref05_blank.f k b = some (b.all (· == 0)) := by
  unfold catamaranref05_blank.f
  exact blank_l0 b.length k 0 b (by omega) hk hl (by simp)
def byteL (b : List Int) : Prop := ∀ n ∈ b, 0 ≤ n ∧ n ≤ 255
theorem str_list (l : List Int) : (strOfNums l).toList = l.map fun n => UInt8.ofNat n.toNat := by
  unfold strOfNums
  simp [ByteArray.toList_eq]
theorem byte_inj {x y : Int} (hx : 0 ≤ x ∧ x ≤ 255) (hy : 0 ≤ y ∧ y ≤ 255) (h : UInt8.ofNat x.toNat = UInt8.ofNat y.toNat) : x = y := by
  have e := congrArg UInt8.toNat h
  simp only [UInt8.toNat_ofNat'] at e
  omega
theorem str_inj : ∀ {a b : List Int}, byteL a → byteL b → (strOfNums a).toList = (strOfNums b).toList → a = b := by
  intro a b
  rw [str_list, str_list]
  induction a generalizing b with
  | nil => intro _ _ h; cases b with
    | nil => rfl
    | cons y ys => simp at h
  | cons x xs ih => intro ha hb h; cases b with
    | nil => simp at h
    | cons y ys =>
      simp only [List.map_cons, List.cons.injEq] at h
      rw [byte_inj (ha x (by simp)) (hb y (by simp)) h.1, ih (fun n hn => ha n (by simp [hn])) (fun n hn => hb n (by simp [hn])) h.2]
theorem zero32_byte : byteL zero32 := by
  intro n hn
  have := List.eq_of_mem_replicate hn
  omega
theorem all_zero : ∀ (b : List Int) (n : Nat), b.length = n → (b.all (· == 0) = true ↔ b = List.replicate n 0)
  | [], n, h => by subst h; simp
  | x :: xs, n, h => by
    subst h
    have := all_zero xs xs.length rfl
    simp only [List.all_cons, Bool.and_eq_true, List.length_cons, List.replicate_succ, List.cons.injEq, this, beq_iff_eq]
theorem blank_zero {b : List Int} (hb : byteL b) (h : b.length = 32) : b.all (· == 0) = ((strOfNums b).toList == (strOfNums zero32).toList) := by
  rw [Bool.eq_iff_iff, all_zero b 32 h, beq_iff_eq]
  exact ⟨fun e => by rw [e]; rfl, fun e => str_inj hb zero32_byte e⟩
def bytesD (l0 : List S52) (l1 : List S65) : Prop := (∀ s ∈ l0, byteL s.f0) ∧ ∀ p ∈ l1, byteL p.f1
theorem may_l1 (l0 : List S52) (m : Int) : ∀ (d k n : Nat) (l1 : List S65), n + d = l1.length → d + 1 ≤ k → l1.length ≤ 100000 → (l1.take n).all (okPend m) = true → catamaranref05_May.l1 k m (n : Int) l0 l1 = some (l1.all (okPend m))
  | 0, k + 1, n, l1, h, _, _, ht => by
    obtain rfl : n = l1.length := by omega
    unfold catamaranref05_May.l1
    rw [List.take_length] at ht
    rw [if_neg (by omega), ht]
  | d + 1, k + 1, n, l1, h, hk, hl, ht => by
    have hn : n < l1.length := by omega
    have hf : okPend m l1[n] = false → l1.all (okPend m) = false := fun h => by
      rw [List.all_eq_false]
      exact ⟨l1[n], List.getElem_mem hn, by simp [h]⟩
    unfold catamaranref05_May.l1
    rw [if_pos (by omega), if_pos (by omega), rd65_at hn]
    by_cases h0 : (l1[n]).f0 < 0
    · rw [if_pos h0, hf]
      unfold okPend
      rw [decide_eq_false (by omega : ¬ 0 ≤ (l1[n]).f0)]; rfl
    · rw [if_neg h0]
      by_cases h1 : (l1[n]).f0 ≥ m
      · rw [if_pos h1, hf]
        unfold okPend
        rw [decide_eq_false (by omega : ¬ (l1[n]).f0 < m)]; simp
      · rw [if_neg h1]
        by_cases h2 : ((l1[n]).f1.length : Int) = 32
        · rw [if_pos h2, wrap_succ (by omega)]
          refine may_l1 l0 m d k (n + 1) l1 (by omega) (by omega) hl ?_
          rw [List.take_succ_eq_append_getElem hn, List.all_append, ht]
          simp only [List.all_cons, List.all_nil, Bool.and_true, Bool.true_and]
          unfold okPend okLen
          simp
          omega
        · rw [if_neg h2, hf]
          unfold okPend okLen
          have : ¬ (l1[n]).f1.length = 32 := by omega
          simp [this]
set_option maxRecDepth 20000 in
theorem may_l0 : ∀ (d k n : Nat) (l0 : List S52) (l1 : List S65), n + d = l0.length → d + l1.length + 40 ≤ k → l0.length ≤ 100000 → l1.length ≤ 100000 → bytesD l0 l1 → (l0.take n).all okSec = true → catamaranref05_May.l0 k (l0.length : Int) (n : Int) l0 l1 = some (l0.all okSec && l1.all (okPend l0.length))
  | 0, k + 1, n, l0, l1, h, hk, _, hl1, _, ht => by
    obtain rfl : n = l0.length := by omega
    unfold catamaranref05_May.l0
    rw [List.take_length] at ht
    rw [if_neg (by omega), ht, Bool.true_and]
    exact may_l1 l0 l0.length l1.length k 0 l1 (by omega) (by omega) hl1 (by simp)
  | d + 1, k + 1, n, l0, l1, h, hk, hl, hl1, hby, ht => by
    have hn : n < l0.length := by omega
    have hf : okSec l0[n] = false → l0.all okSec = false := fun h => by
      rw [List.all_eq_false]
      exact ⟨l0[n], List.getElem_mem hn, by simp [h]⟩
    have hgo : okSec l0[n] = true → catamaranref05_May.l0 k (l0.length : Int) (wrap64 ((n : Int) + 1)) l0 l1 = some (l0.all okSec && l1.all (okPend l0.length)) := fun hs => by
      rw [wrap_succ (by omega)]
      refine may_l0 d k (n + 1) l0 l1 (by omega) (by omega) hl hl1 hby ?_
      rw [List.take_succ_eq_append_getElem hn, List.all_append, ht]
      simp [hs]
    unfold catamaranref05_May.l0
    rw [if_pos (by omega), if_pos (by omega), if_pos (by omega), rd52_at hn]
    by_cases h32 : ((l0[n]).f0.length : Int) = 32
    · rw [if_pos h32]
      have h32' : (l0[n]).f0.length = 32 := by omega
      by_cases hbad : (l0[n]).f1 = true
      · rw [if_pos hbad, blank_is k _ (by omega) (by omega), Option.bind_some]
        have hz := blank_zero (hby.1 _ (List.getElem_mem hn)) h32'
        have hs : okSec l0[n] = (l0[n]).f0.all (· == 0) := by unfold okSec okLen; rw [hz, hbad]; simp [h32']
        cases hq : (l0[n]).f0.all (· == 0)
        · rw [if_neg (by simp), hf (by rw [hs, hq])]; rfl
        · rw [if_pos rfl, hgo (by rw [hs, hq])]
      · rw [if_neg hbad]
        have hbf : (l0[n]).f1 = false := by simpa using hbad
        exact hgo (by unfold okSec okLen; simp [h32', hbf])
    · rw [if_neg h32, hf]
      · rfl
      · unfold okSec okLen
        have : ¬ (l0[n]).f0.length = 32 := by omega
        simp [this]
theorem may_is (k : Nat) (hk : 1200 ≤ k) (l0 : List S52) (l1 : List S65) (hby : bytesD l0 l1) : catamaranref05_May.f k l0 l1 = some (okDisk l0 l1) := by
  obtain ⟨k, rfl⟩ : ∃ k', k = k' + 1 := ⟨k - 1, by omega⟩
  unfold catamaranref05_May.f okDisk
  by_cases h1 : (l0.length : Int) < 1
  · rw [if_pos h1]
    unfold catamaranref05_May.j0
    have : ¬ 1 ≤ l0.length := by omega
    simp [this]
  · rw [if_neg h1]
    by_cases h2 : (l0.length : Int) > 1024
    · rw [if_pos h2]
      unfold catamaranref05_May.j0
      have : ¬ l0.length ≤ 1024 := by omega
      simp [this]
    · rw [if_neg h2]
      have ej : catamaranref05_May.j0 (k + 1) (l0.length : Int) (decide ((l1.length : Int) > 64)) l0 l1 = if decide ((l1.length : Int) > 64) = true then some false else catamaranref05_May.l0 k (l0.length : Int) 0 l0 l1 := rfl
      rw [ej]
      by_cases h3 : (l1.length : Int) > 64
      · rw [if_pos (decide_eq_true h3)]
        have : ¬ l1.length ≤ 64 := by omega
        simp [this]
      · rw [if_neg (by rw [decide_eq_false h3]; exact Bool.false_ne_true)]
        have e := may_l0 l0.length k 0 l0 l1 (by omega) (by omega) (by omega) (by omega) hby (by simp)
        rw [show ((0 : Nat) : Int) = 0 from rfl] at e
        rw [e, decide_eq_true (by omega : 1 ≤ l0.length), decide_eq_true (by omega : l0.length ≤ 1024), decide_eq_true (by omega : l1.length ≤ 64)]
        simp
theorem rCheck_is (k : Nat) (hk : 1200 ≤ k) (l0 : List S52) (l1 : List S65) (hby : bytesD l0 l1) : catamaranref05_Check.f k l0 l1 = some (if okDisk l0 l1 = true then 0 else 8) := by
  unfold catamaranref05_Check.f
  rw [may_is k hk l0 l1 hby, Option.bind_some]
  split <;> rfl
theorem rAsked_is (k : Nat) (hk : 1200 ≤ k) (l0 : List S52) (l1 : List S65) (hby : bytesD l0 l1) (a : Int) : catamaranref05_asked.f k l0 l1 a = some (dAsked l0 l1 a) := by
  unfold catamaranref05_asked.f dAsked
  rw [may_is k hk l0 l1 hby, Option.bind_some]
  cases okDisk l0 l1 with
  | false => rfl
  | true =>
    simp only [if_true]
    by_cases h1 : a < 0
    · simp [h1]
    · by_cases h2 : a ≥ (l0.length : Int) <;> simp [h1, h2]
theorem rWrite_is (k : Nat) (hk : 1200 ≤ k) (l0 : List S52) (l1 : List S65) (hby : bytesD l0 l1) (a : Int) (b : List Int) : catamaranref05_Write.f k l0 l1 a b = some (dWrite l0 l1 a b) := by
  unfold catamaranref05_Write.f dWrite
  rw [rAsked_is k hk l0 l1 hby, Option.bind_some]
  by_cases ha : dAsked l0 l1 a = 0
  · rw [if_pos ha, if_pos ha]
    obtain ⟨hok, _, _⟩ := dAsked_ok ha
    have hl := okDisk_len hok
    by_cases h32 : b.length = 32
    · rw [if_pos (by omega), if_pos h32]
      by_cases h64 : l1.length = 64
      · rw [if_pos (by omega), if_pos h64]
      · rw [if_neg (by omega), if_neg h64]
        unfold catamaranref05_With.f
        rw [rTwin_is k l0 l1 (by omega) (by omega) (by omega) (fun p hp => by rw [okDisk_sec hok p hp]; omega) (fun p hp => by rw [(okDisk_pend hok p hp).1]; omega)]
        simp only [Option.bind_some]
        rw [if_pos (by simp; omega), if_pos (by omega)]
        rfl
    · rw [if_neg (by omega), if_neg h32]
  · rw [if_neg ha, if_neg ha]
theorem lastP_snoc (l : List S65) (p : S65) (a : Int) : lastP (l ++ [p]) a = if p.f0 = a then some p else lastP l a := by
  unfold lastP
  rw [List.reverse_append]
  simp only [List.reverse_cons, List.reverse_nil, List.nil_append, List.singleton_append, List.find?_cons]
  by_cases h : p.f0 = a
  · simp [h]
  · rw [if_neg h, (beq_eq_false_iff_ne.2 h)]
theorem got_l0 (l0 : List S52) (a : Int) (h0 : 0 ≤ a) (h1 : a < l0.length) (hs : (rd_T52 l0 a).f0.length ≤ 100000) : ∀ (n k : Nat) (l1 : List S65), n ≤ l1.length → n + 1 ≤ k → l1.length ≤ 100000 → (∀ p ∈ l1, p.f1.length ≤ 100000) →
    catamaranref05_Got.l0 k a ((n : Int) - 1) l0 l1 = some (match lastP (l1.take n) a with | some p => (p.f1, true) | none => ((rd_T52 l0 a).f0, !(rd_T52 l0 a).f1))
  | 0, k + 1, l1, _, _, _, _ => by
    unfold catamaranref05_Got.l0
    rw [if_neg (by omega), Option.bind_some, if_pos h0, if_pos h1, if_pos (by simp; omega)]
    rfl
  | n + 1, k + 1, l1, hn, hk, hl, hb => by
    have hn' : n < l1.length := by omega
    have e : ((n + 1 : Nat) : Int) - 1 = (n : Int) := by omega
    unfold catamaranref05_Got.l0
    rw [e, if_pos (by omega), if_pos (by omega), if_pos (by omega), rd65_at hn', List.take_succ_eq_append_getElem hn', lastP_snoc]
    by_cases hx : (l1[n]).f0 = a
    · have hle := hb l1[n] (List.getElem_mem hn')
      rw [if_pos hx, if_pos hx, Option.bind_some, if_pos (by simp; omega)]
      rfl
    · rw [if_neg hx, if_neg hx, show wrap64 ((n : Int) - 1) = (n : Int) - 1 by unfold wrap64; omega]
      exact got_l0 l0 a h0 h1 hs n k l1 (by omega) (by omega) hl hb
theorem rRead_is (k : Nat) (hk : 1200 ≤ k) (l0 : List S52) (l1 : List S65) (hby : bytesD l0 l1) (a : Int) : catamaranref05_Read.f k l0 l1 a = some (dRead l0 l1 a) := by
  unfold catamaranref05_Read.f dRead
  rw [rAsked_is k hk l0 l1 hby, Option.bind_some]
  by_cases ha : dAsked l0 l1 a = 0
  · rw [if_pos ha, if_pos ha]
    obtain ⟨hok, h0, h1⟩ := dAsked_ok ha
    have hl := okDisk_len hok
    have hw : wrap64 ((l1.length : Int) - 1) = (l1.length : Int) - 1 := by unfold wrap64; omega
    unfold catamaranref05_Got.f
    rw [hw, got_l0 l0 a h0 h1 (by rw [okDisk_sec hok _ (rd_mem h0 h1)]; omega) l1.length k l1 (Nat.le_refl _) (by omega) (by omega) (fun p hp => by rw [(okDisk_pend hok p hp).1]; omega), List.take_length, Option.bind_some]
    cases lastP l1 a with
    | some p => rfl
    | none => cases (rd_T52 l0 a).f1 <;> rfl
  · rw [if_neg ha, if_neg ha]
theorem pending_l0 (l0 : List S52) (a : Int) : ∀ (d k n : Nat) (l1 : List S65), n + d = l1.length → d + 1 ≤ k → l1.length ≤ 100000 → (∀ i, (hi : i < l1.length) → i < n → (l1[i]).f0 ≠ a) → catamaranref05_Pending.l0 k a (n : Int) l0 l1 = some (lastP l1 a).isSome
  | 0, k + 1, n, l1, h, _, _, ht => by
    unfold catamaranref05_Pending.l0
    rw [if_neg (by omega), lastP_none fun j hj => by rw [rd65_at hj]; exact ht j hj (by omega)]
    rfl
  | d + 1, k + 1, n, l1, h, hk, hl, ht => by
    have hn : n < l1.length := by omega
    unfold catamaranref05_Pending.l0
    rw [if_pos (by omega), if_pos (by omega), rd65_at hn]
    by_cases hx : (l1[n]).f0 = a
    · rw [if_pos hx]
      have : (lastP l1 a).isSome = true := by
        unfold lastP
        rw [List.find?_isSome]
        exact ⟨l1[n], List.mem_reverse.2 (List.getElem_mem hn), by simpa using hx⟩
      rw [this]
    · rw [if_neg hx, wrap_succ (by omega)]
      refine pending_l0 l0 a d k (n + 1) l1 (by omega) (by omega) hl fun i hi hin => ?_
      by_cases hi' : i = n
      · subst hi'; exact hx
      · exact ht i hi (by omega)
theorem rWaits_is (k : Nat) (hk : 1200 ≤ k) (l0 : List S52) (l1 : List S65) (hby : bytesD l0 l1) (a : Int) : catamaranref05_Waits.f k l0 l1 a = some (dWaits l0 l1 a) := by
  unfold catamaranref05_Waits.f dWaits
  rw [rAsked_is k hk l0 l1 hby, Option.bind_some]
  by_cases ha : dAsked l0 l1 a = 0
  · rw [if_pos ha, if_pos ha]
    obtain ⟨hok, h0, h1⟩ := dAsked_ok ha
    have hl := okDisk_len hok
    unfold catamaranref05_Pending.f
    have e := pending_l0 l0 a l1.length k 0 l1 (by omega) (by omega) (by omega) (fun i hi h => by omega)
    rw [show ((0 : Nat) : Int) = 0 from rfl] at e
    rw [e, Option.bind_some]
  · rw [if_neg ha, if_neg ha]
theorem dSame_refl (l0 : List S52) (l1 : List S65) : dSame l0 l1 l0 l1 = true := by
  unfold dSame allTo sEq pEq
  simp
end Go.Proofs.Ytjlohdbkjoofcaa.P
end
section
set_option linter.unusedVariables false
set_option linter.unusedSimpArgs false
namespace Go.Proofs.Ytjlohdbkjoofcaa.P
open Go.RowKit Go.Proofs.PrintWords Go.Proofs.PrintLast Go.Proofs.PrintMore
attribute [local go_sem] max2_int min2_int max_two min_two max_three min_three max_four min_four
structure Btw (lo hi : Nat) (w w' : World) : Prop where
  os : w'.os = w.os
  tape : w'.tape = w.tape
  output : w'.output = w.output
  size : w.heap.size ≤ w'.heap.size
  block : ∀ k, k < w.heap.size → (k < lo ∨ hi ≤ k) → w'.heap[k]? = w.heap[k]?
theorem Btw.refl (lo hi : Nat) (w : World) : Btw lo hi w w := ⟨rfl, rfl, rfl, Nat.le_refl _, fun _ _ _ => rfl⟩
theorem Btw.trans {lo hi : Nat} {a b c : World} (h : Btw lo hi a b) (k : Btw lo hi b c) : Btw lo hi a c :=
  ⟨k.os.trans h.os, k.tape.trans h.tape, k.output.trans h.output, Nat.le_trans h.size k.size, fun i hi ho => (k.block i (Nat.lt_of_lt_of_le hi h.size) ho).trans (h.block i hi ho)⟩
theorem Btw.alloc {lo hi : Nat} {a w : World} (h : Btw lo hi a w) (o : Obj) : Btw lo hi a (w.alloc o) :=
  h.trans ⟨rfl, rfl, rfl, by simp, fun k hk _ => Below.heap_alloc _ _ _ hk⟩
theorem Btw.drew {lo hi : Nat} {a w : World} (h : Btw lo hi a w) : Btw lo hi a w.drew := ⟨h.os, h.tape, h.output, h.size, h.block⟩
theorem Btw.set {lo hi : Nat} {a w : World} (h : Btw lo hi a w) {p : Addr} (h1 : lo ≤ p.block) (h2 : p.block < hi) (u : Value) : Btw lo hi a (w.setCell p u) :=
  h.trans ⟨rfl, rfl, rfl, by simp [World.setCell], fun k hk ho => Below.heap_setCell _ _ _ _ (by omega)⟩
theorem Btw.below {lo hi : Nat} {a w : World} (h : Btw lo hi a w) (hl : lo ≤ a.heap.size) : Below lo a w := ⟨h.os, h.tape, h.output, h.size, fun k hk => h.block k (by omega) (.inl hk)⟩
theorem Btw.of_below {lo hi B : Nat} {a w : World} (h : Below B a w) (hB : a.heap.size ≤ B) : Btw lo hi a w := ⟨h.os, h.tape, h.output, h.size, fun k hk _ => h.block k (by omega)⟩
def ByteRow (w : World) (lo hi : Nat) (A : Option Addr) (n : Nat) : Prop :=
  n ≤ 9223372036854775807 ∧ (0 < n → ∃ g cs, A = some ⟨g, 0, none⟩ ∧ lo ≤ g ∧ g < hi ∧ w.heap[g]? = some (.cells cs 5 (0, 0)) ∧ ∀ i, i < n → ∃ x, cs[i]? = some (.int .u8 x))
theorem ByteRow.set {w : World} {lo hi : Nat} {A : Option Addr} {n : Nat} (h : ByteRow w lo hi A n) {g i : Nat} {cs : Array Value} (hb : w.heap[g]? = some (.cells cs 5 (0, 0))) (x : Int) : ByteRow (w.setCell ⟨g, i, none⟩ (.int .u8 x)) lo hi A n := by
  refine ⟨h.1, fun hn => ?_⟩
  obtain ⟨g', cs', rfl, h1, h2, h3, h4⟩ := h.2 hn
  by_cases hg : g' = g
  · subst hg
    rw [hb] at h3
    injection h3 with h3
    injection h3 with h3 _ _
    subst h3
    refine ⟨g', _, rfl, h1, h2, blk_set hb i _, fun j hj => ?_⟩
    obtain ⟨y, hy⟩ := h4 j hj
    rw [Array.getElem?_setIfInBounds]
    split
    · rename_i e
      subst e
      rw [if_pos (Array.getElem?_eq_some_iff.1 hy).1]
      exact ⟨x, rfl⟩
    · exact ⟨y, hy⟩
  · exact ⟨g', cs', rfl, h1, h2, blk_far h3 hg _, h4⟩
theorem ByteRow.far {w : World} {lo hi : Nat} {A : Option Addr} {n : Nat} (h : ByteRow w lo hi A n) {p : Addr} {t : Nat} {cs : Array Value} (hb : w.heap[p.block]? = some (.cells cs t (0, 0))) (ht : t ≠ 5) (u : Value) : ByteRow (w.setCell p u) lo hi A n := by
  refine ⟨h.1, fun hn => ?_⟩
  obtain ⟨g', cs', rfl, h1, h2, h3, h4⟩ := h.2 hn
  exact ⟨g', cs', rfl, h1, h2, blk_far h3 (fun e => by subst e; rw [hb] at h3; injection h3 with h3; injection h3 with _ h3 _; exact ht h3) _, h4⟩
theorem ByteRow.mono {w : World} {lo hi lo' hi' : Nat} {A : Option Addr} {n : Nat} (h : ByteRow w lo hi A n) (h1 : lo' ≤ lo) (h2 : hi ≤ hi') : ByteRow w lo' hi' A n :=
  ⟨h.1, fun hn => by obtain ⟨g, cs, e, a, b, c, d⟩ := h.2 hn; exact ⟨g, cs, e, by omega, by omega, c, d⟩⟩
theorem ByteRow.keep {w w' : World} {lo hi : Nat} {A : Option Addr} {n : Nat} (h : ByteRow w lo hi A n) (hk : ∀ k, lo ≤ k → k < hi → k < w.heap.size → w'.heap[k]? = w.heap[k]?) : ByteRow w' lo hi A n :=
  ⟨h.1, fun hn => by obtain ⟨g, cs, e, a, b, c, d⟩ := h.2 hn; exact ⟨g, cs, e, a, b, (hk g a b (blk_lt c)).trans c, d⟩⟩
theorem ByteRow.of_R {w : World} {base : Nat} {ok : Nat → Prop} {v : Value} {xs : List Int} (h : (Kd.int .u8).R 5 w base ok v xs) : ∃ A c, v = .slice A xs.length c ∧ ByteRow w base w.heap.size A xs.length := by
  obtain ⟨A, c, rfl, hc, hr⟩ := Kd.R_reads h
  refine ⟨A, c, rfl, hr.2.1, fun hn => ?_⟩
  obtain ⟨_, inner, ho, hrep⟩ := h
  rcases ho.2 with ⟨e, hi⟩ | ⟨g, cap, cur, he, hb, hh, h1, h2, h3, h4⟩
  · injection e with _ e _
    omega
  · injection he with he _ _
    subst he
    refine ⟨g, cur, rfl, hb, (blk_lt hh), hh, fun i hi => ?_⟩
    have hcell := Kd.C_get hr (0 : Int) (i : Int) (by omega) (by omega)
    obtain ⟨ad, cs, e, hl, hK, hcs⟩ := hcell
    injection e with e
    subst e
    have hK : cs = [.int .u8 (xs.getD (i : Int).toNat 0)] := hK
    subst hK
    have := hcs 0 _ rfl
    refine ⟨xs.getD (i : Int).toNat 0, ?_⟩
    rw [add_plain, blk_cell hh] at this
    simpa [Kd.int, Kd.scalar] using this
def SecRow (w : World) (lo hi : Nat) (A : Option Addr) (n : Nat) : Prop :=
  n ≤ 9223372036854775807 ∧ (0 < n → ∃ g cs, A = some ⟨g, 0, none⟩ ∧ lo ≤ g ∧ g < hi ∧ w.heap[g]? = some (.cells cs 52 (0, 0)) ∧ ∀ i, i < n → ∃ A' m c b, cs[i * 2]? = some (.slice A' m c) ∧ cs[i * 2 + 1]? = some (.bool b) ∧ ByteRow w lo hi A' m)
def PendRow (w : World) (lo hi : Nat) (A : Option Addr) (n : Nat) : Prop :=
  n ≤ 9223372036854775807 ∧ (0 < n → ∃ g cs, A = some ⟨g, 0, none⟩ ∧ lo ≤ g ∧ g < hi ∧ w.heap[g]? = some (.cells cs 65 (0, 0)) ∧ ∀ i, i < n → ∃ x A' m c, cs[i * 2]? = some (.int .i64 x) ∧ cs[i * 2 + 1]? = some (.slice A' m c) ∧ ByteRow w lo hi A' m)
section
variable {w w' : World} {lo hi : Nat} {A : Option Addr} {n : Nat}
theorem SecRow.set (h : SecRow w lo hi A n) {g i : Nat} {cs : Array Value} (hb : w.heap[g]? = some (.cells cs 5 (0, 0))) (x : Int) : SecRow (w.setCell ⟨g, i, none⟩ (.int .u8 x)) lo hi A n := by
  refine ⟨h.1, fun hn => ?_⟩
  obtain ⟨g', cs', e, h1, h2, h3, h4⟩ := h.2 hn
  refine ⟨g', cs', e, h1, h2, blk_far h3 (fun e => by subst e; rw [hb] at h3; injection h3 with h3; injection h3 with _ h3 _; cases h3) _, fun j hj => ?_⟩
  obtain ⟨A', m, c, b, c0, c1, hr⟩ := h4 j hj
  exact ⟨A', m, c, b, c0, c1, hr.set hb x⟩
theorem PendRow.set (h : PendRow w lo hi A n) {g i : Nat} {cs : Array Value} (hb : w.heap[g]? = some (.cells cs 5 (0, 0))) (x : Int) : PendRow (w.setCell ⟨g, i, none⟩ (.int .u8 x)) lo hi A n := by
  refine ⟨h.1, fun hn => ?_⟩
  obtain ⟨g', cs', e, h1, h2, h3, h4⟩ := h.2 hn
  refine ⟨g', cs', e, h1, h2, blk_far h3 (fun e => by subst e; rw [hb] at h3; injection h3 with h3; injection h3 with _ h3 _; cases h3) _, fun j hj => ?_⟩
  obtain ⟨x', A', m, c, c0, c1, hr⟩ := h4 j hj
  exact ⟨x', A', m, c, c0, c1, hr.set hb x⟩
theorem PendRow.setAt (h : PendRow w lo hi A n) {g i : Nat} (hA : A = some ⟨g, 0, none⟩) (hi0 : i < n) (x : Int) : PendRow (w.setCell ⟨g, i * 2, none⟩ (.int .i64 x)) lo hi A n := by
  refine ⟨h.1, fun hn => ?_⟩
  obtain ⟨g', cs', e, h1, h2, h3, h4⟩ := h.2 hn
  have hg : g' = g := by rw [e] at hA; injection hA with hA; injection hA
  subst hg
  refine ⟨g', _, e, h1, h2, blk_set h3 (i * 2) _, fun j hj => ?_⟩
  obtain ⟨x', A', m, c, c0, c1, hr⟩ := h4 j hj
  have hsz := (Array.getElem?_eq_some_iff.1 c0).1
  by_cases hij : j = i
  · subst hij
    exact ⟨x, A', m, c, by simp [hsz], by rw [Array.getElem?_setIfInBounds, if_neg (by omega)]; exact c1, hr.far (p := ⟨g', j * 2, none⟩) h3 (by decide) _⟩
  · exact ⟨x', A', m, c, by rw [Array.getElem?_setIfInBounds, if_neg (by omega)]; exact c0, by rw [Array.getElem?_setIfInBounds, if_neg (by omega)]; exact c1, hr.far (p := ⟨g', i * 2, none⟩) h3 (by decide) _⟩
theorem SecRow.setAt (h : SecRow w lo hi A n) {p : Addr} {cs : Array Value} (hb : w.heap[p.block]? = some (.cells cs 65 (0, 0))) (u : Value) : SecRow (w.setCell p u) lo hi A n := by
  refine ⟨h.1, fun hn => ?_⟩
  obtain ⟨g', cs', e, h1, h2, h3, h4⟩ := h.2 hn
  refine ⟨g', cs', e, h1, h2, blk_far h3 (fun e => by subst e; rw [hb] at h3; injection h3 with h3; injection h3 with _ h3 _; cases h3) _, fun j hj => ?_⟩
  obtain ⟨A', m, c, b, c0, c1, hr⟩ := h4 j hj
  exact ⟨A', m, c, b, c0, c1, hr.far hb (by decide) _⟩
theorem SecRow.keep (h : SecRow w lo hi A n) (hk : ∀ k, lo ≤ k → k < hi → k < w.heap.size → w'.heap[k]? = w.heap[k]?) : SecRow w' lo hi A n :=
  ⟨h.1, fun hn => by
    obtain ⟨g', cs', e, h1, h2, h3, h4⟩ := h.2 hn
    refine ⟨g', cs', e, h1, h2, (hk g' h1 h2 (blk_lt h3)).trans h3, fun j hj => ?_⟩
    obtain ⟨A', m, c, b, c0, c1, hr⟩ := h4 j hj
    exact ⟨A', m, c, b, c0, c1, hr.keep hk⟩⟩
theorem PendRow.keep (h : PendRow w lo hi A n) (hk : ∀ k, lo ≤ k → k < hi → k < w.heap.size → w'.heap[k]? = w.heap[k]?) : PendRow w' lo hi A n :=
  ⟨h.1, fun hn => by
    obtain ⟨g', cs', e, h1, h2, h3, h4⟩ := h.2 hn
    refine ⟨g', cs', e, h1, h2, (hk g' h1 h2 (blk_lt h3)).trans h3, fun j hj => ?_⟩
    obtain ⟨x', A', m, c, c0, c1, hr⟩ := h4 j hj
    exact ⟨x', A', m, c, c0, c1, hr.keep hk⟩⟩
end
theorem rows_at {α : Type} {R : α → List Value → Prop} {xs : List α} {inner : List Value} (h : Reps R 2 xs inner) {cur : Array Value} {k : Nat} (hp : inner = cur.toList.take k) {i : Nat} (hi : i < xs.length) :
    ∃ u v, R (xs[i]) [u, v] ∧ cur[i * 2]? = some u ∧ cur[i * 2 + 1]? = some v := by
  have hr := h.2 i _ (List.getElem?_eq_getElem hi)
  have hl : i * 2 + 2 ≤ inner.length := by rw [h.1]; omega
  have e : (inner.drop (i * 2)).take 2 = [inner[i * 2], inner[i * 2 + 1]] := by
    rw [List.drop_eq_getElem_cons (by omega), List.drop_eq_getElem_cons (by omega)]
    rfl
  rw [e] at hr
  have key : ∀ j (hj : j < inner.length), cur[j]? = some inner[j] := by
    intro j hj
    have : (cur.toList.take k)[j]? = some inner[j] := by rw [← hp]; exact List.getElem?_eq_getElem hj
    rw [List.getElem?_take] at this
    split at this
    · rw [← Array.getElem?_toList]; exact this
    · cases this
  exact ⟨_, _, hr, key _ (by omega), key _ (by omega)⟩
theorem SecRow.of_S {w : World} {base : Nat} {ok : Nat → Prop} {v : Value} {xs : List S52} (h : Kd.S k52 52 w base ok v xs) : ∃ A c, v = .slice A xs.length c ∧ SecRow w base w.heap.size A xs.length := by
  obtain ⟨A, c, rfl, hc, hrd⟩ := Kd.S_reads h
  refine ⟨A, c, rfl, hrd.2.1, fun hn => ?_⟩
  obtain ⟨_, inner, ho, hr⟩ := Kd.S_R h
  rcases ho.2 with ⟨e, hi⟩ | ⟨g, cap, cur, he, hb, hh, h1, h2, h3, h4⟩
  · omega
  · injection he with he _ _
    subst he
    refine ⟨g, cur, rfl, hb, blk_lt hh, hh, fun i hi => ?_⟩
    obtain ⟨u, v, hM, c0, c1⟩ := rows_at (show Reps (k52.M w base _) 2 xs inner from hr) h4.symm hi
    obtain ⟨v0, e, hR⟩ := k52_openM hM
    injection e with e1 e
    injection e with e2 _
    subst e1 e2
    obtain ⟨A', c', rfl, hb'⟩ := ByteRow.of_R hR
    exact ⟨A', _, c', _, c0, c1, hb'⟩
theorem PendRow.of_S {w : World} {base : Nat} {ok : Nat → Prop} {v : Value} {xs : List S65} (h : Kd.S k65 65 w base ok v xs) : ∃ A c, v = .slice A xs.length c ∧ PendRow w base w.heap.size A xs.length := by
  obtain ⟨A, c, rfl, hc, hrd⟩ := Kd.S_reads h
  refine ⟨A, c, rfl, hrd.2.1, fun hn => ?_⟩
  obtain ⟨_, inner, ho, hr⟩ := Kd.S_R h
  rcases ho.2 with ⟨e, hi⟩ | ⟨g, cap, cur, he, hb, hh, h1, h2, h3, h4⟩
  · omega
  · injection he with he _ _
    subst he
    refine ⟨g, cur, rfl, hb, blk_lt hh, hh, fun i hi => ?_⟩
    obtain ⟨u, v, hM, c0, c1⟩ := rows_at (show Reps (k65.M w base _) 2 xs inner from hr) h4.symm hi
    obtain ⟨v0, e, hR⟩ := k65_openM hM
    injection e with e1 e
    injection e with e2 _
    subst e1 e2
    obtain ⟨A', c', rfl, hb'⟩ := ByteRow.of_R hR
    exact ⟨_, A', _, c', c0, c1, hb'⟩
end Go.Proofs.Ytjlohdbkjoofcaa.P
end
section
set_option linter.unusedVariables false
set_option linter.unusedSimpArgs false
namespace Go.Proofs.Ytjlohdbkjoofcaa.P
open Go.RowKit Go.Proofs.PrintWords Go.Proofs.PrintLast Go.Proofs.PrintMore
attribute [local go_sem] max2_int min2_int max_two min_two max_three min_three max_four min_four
set_option maxHeartbeats 4000000 in
set_option maxRecDepth 100000 in
theorem hSpoil.calls (A0 : Option Addr) (n0 c0 : Nat) (A1 : Option Addr) (n1 c1 : Nat) (lo hi : Nat) (w : World) (hS : SecRow w lo hi A0 n0) (hP : PendRow w lo hi A1 n1) (hhi : hi ≤ w.heap.size) (hlo : lo ≤ hi) :
    Calls Try.prog 41 #[.agg #[.slice A0 n0 c0, .slice A1 n1 c1]] w fun e w' => e = .returned (.tuple #[]) ∧ Btw lo hi w w' := by
  have hu25 := Try.underlying25
  have hu52 := Try.underlying52
  have hu65 := Try.underlying65
  have hm0 := hS.1
  have hm1 := hP.1
  have HS := Aside0.mk (hS.keep (w' := w.alloc (.cells #[.slice A0 n0 c0, .slice A1 n1 c1] 25)) (fun k _ _ h => Below.heap_alloc _ _ _ h))
  have HP := Aside0.mk (hP.keep (w' := w.alloc (.cells #[.slice A0 n0 c0, .slice A1 n1 c1] 25)) (fun k _ _ h => Below.heap_alloc _ _ _ h))
  have HX := Aside0.mk ((Btw.refl lo hi w).alloc (.cells #[.slice A0 n0 c0, .slice A1 n1 c1] 25))
  have HK := Aside0.mk (heap_alloc_new w (.cells #[.slice A0 n0 c0, .slice A1 n1 c1] 25))
  clear hS hP
  go_enter Try.func41, Try.ntmps41
  go_wp2_with fail
  go_loopw [2] (fun i wr => ∃ k : Nat, k ≤ n0 ∧ i = .int .i64 k ∧ Aside0 (SecRow wr lo hi A0 n0) ∧ Aside0 (PendRow wr lo hi A1 n1) ∧ Aside0 (Btw lo hi w wr) ∧ Aside0 (wr.heap[w.heap.size]? = some (.cells #[.slice A0 n0 c0, .slice A1 n1 c1] 25 (0, 0)))) (fun i _ => n0 - (intOf i).toNat)
  case atStart => exact ⟨0, Nat.zero_le _, rfl, HS, HP, HX, HK⟩
  case round =>
    clear HS HP HX HK
    obtain ⟨k, hk, rfl, HS, HP, HX, HK⟩ := hrel
    have hz0 : wr.cell? ⟨w.heap.size, 0, none⟩ = some (.slice A0 n0 c0) := (blk_cell HK.out 0).trans rfl
    by_cases hlt : k < n0
    · obtain ⟨g, cs, rfl, hg1, hg2, hg3, hg4⟩ := HS.out.2 (by omega)
      obtain ⟨Ab, m, cb, b, e0, e1, hbr⟩ := hg4 k hlt
      have hm := hbr.1
      have HC := Aside0.mk hg3
      have E0 := Aside0.mk e0
      have HBR := Aside0.mk hbr
      have hz2 : wr.cell? ⟨g, k * 2, none⟩ = some (.slice Ab m cb) := (blk_cell hg3 _).trans e0
      clear hg3 hg4 e0 e1 hbr
      go_wp2_with fail
      obtain ⟨wo, rfl⟩ : ∃ wo : World, wo = wr := ⟨_, rfl⟩
      clear hz0 hz2
      go_loopw [3] (fun j wr => ∃ q : Nat, q ≤ m ∧ j = .int .i64 q ∧ Aside0 (SecRow wr lo hi (some ⟨g, 0, none⟩) n0) ∧ Aside0 (PendRow wr lo hi A1 n1) ∧ Aside0 (Btw lo hi w wr) ∧ Aside0 (wr.heap[w.heap.size]? = some (.cells #[.slice (some ⟨g, 0, none⟩) n0 c0, .slice A1 n1 c1] 25 (0, 0))) ∧ Aside0 (wr.heap[g]? = some (.cells cs 52 (0, 0))) ∧ Aside0 (ByteRow wr lo hi Ab m)) (fun j _ => m - (intOf j).toNat)
      case atStart => exact ⟨0, Nat.zero_le _, rfl, HS, HP, HX, HK, HC, HBR⟩
      case round =>
        clear HS HP HX HK HC HBR
        obtain ⟨q, hq, rfl, HS, HP, HX, HK, HC, HBR⟩ := hrel
        have hz0 : wr.cell? ⟨w.heap.size, 0, none⟩ = some (.slice (some ⟨g, 0, none⟩) n0 c0) := (blk_cell HK.out 0).trans rfl
        have hz2 : wr.cell? ⟨g, k * 2, none⟩ = some (.slice Ab m cb) := (blk_cell HC.out _).trans E0.out
        by_cases hltq : q < m
        · obtain ⟨gb, cbs, rfl, hb1, hb2, hb3, hb4⟩ := HBR.out.2 (by omega)
          obtain ⟨x, hx⟩ := hb4 q hltq
          have hz3 : wr.cell? ⟨gb, q, none⟩ = some (.int .u8 x) := (blk_cell hb3 _).trans hx
          have hf3 := blk_frozen hb3 q
          have HBB := Aside0.mk hb3
          have hne : g ≠ gb := blk_ne HC.out hb3 (by decide)
          have hne2 : w.heap.size ≠ gb := by omega
          have HNE := Aside0.mk hne
          have HNE2 := Aside0.mk hne2
          clear hb3 hb4 hx hne hne2
          go_wp2_with fail
          go_region
          all_goals
            go_wp2
            go_roundw
            case rel => exact ⟨q + 1, by omega, by go_num, ⟨HS.out.set HBB.out _⟩, ⟨HP.out.set HBB.out _⟩, ⟨(HX.out.set (p := ⟨gb, q, none⟩) hb1 hb2 _).drew⟩, ⟨blk_far HK.out (p := ⟨gb, q, none⟩) HNE2.out _⟩, ⟨blk_far HC.out (p := ⟨gb, q, none⟩) HNE.out _⟩, ⟨HBR.out.set HBB.out _⟩⟩
            case measure => simp [intOf]; omega
        · go_wp2
          go_roundw
          case rel => exact ⟨k + 1, by omega, by go_num, HS, HP, HX, HK⟩
          case measure => simp [intOf]; omega
    · have hz1 : wr.cell? ⟨w.heap.size, 1, none⟩ = some (.slice A1 n1 c1) := (blk_cell HK.out 1).trans rfl
      go_wp2_with fail
      clear hz0 hz1
      obtain ⟨wo, rfl⟩ : ∃ wo : World, wo = wr := ⟨_, rfl⟩
      go_loopw [4] (fun i wr => ∃ k : Nat, k ≤ n1 ∧ i = .int .i64 k ∧ Aside0 (SecRow wr lo hi A0 n0) ∧ Aside0 (PendRow wr lo hi A1 n1) ∧ Aside0 (Btw lo hi w wr) ∧ Aside0 (wr.heap[w.heap.size]? = some (.cells #[.slice A0 n0 c0, .slice A1 n1 c1] 25 (0, 0)))) (fun i _ => n1 - (intOf i).toNat)
      case atStart => exact ⟨0, Nat.zero_le _, rfl, HS, HP, HX, HK⟩
      case round =>
        clear HS HP HX HK
        obtain ⟨j, hj, rfl, HS, HP, HX, HK⟩ := hrel
        have hz1 : wr.cell? ⟨w.heap.size, 1, none⟩ = some (.slice A1 n1 c1) := (blk_cell HK.out 1).trans rfl
        by_cases hlt2 : j < n1
        · obtain ⟨g, cs, rfl, hg1, hg2, hg3, hg4⟩ := HP.out.2 (by omega)
          obtain ⟨y, Ab, m, cb, e0, e1, hbr⟩ := hg4 j hlt2
          have hm := hbr.1
          have hz2 : wr.cell? ⟨g, j * 2, none⟩ = some (.int .i64 y) := (blk_cell hg3 _).trans e0
          have hf2 := blk_frozen hg3 (j * 2)
          have HC := Aside0.mk hg3
          have E1 := Aside0.mk ((show (cs.setIfInBounds (j * 2) (.int .i64 (-7)))[j * 2 + 1]? = some (.slice Ab m cb) by rw [Array.getElem?_setIfInBounds, if_neg (by omega)]; exact e1))
          have HBR := Aside0.mk (hbr.far (p := ⟨g, j * 2, none⟩) hg3 (by decide) (.int .i64 (-7)))
          have hne2 : w.heap.size ≠ g := by omega
          have HS2 := Aside0.mk (HS.out.setAt (p := ⟨g, j * 2, none⟩) hg3 (.int .i64 (-7)))
          have HP2 := Aside0.mk (HP.out.setAt rfl hlt2 (-7))
          have HX2 := Aside0.mk (HX.out.set (p := ⟨g, j * 2, none⟩) hg1 hg2 (.int .i64 (-7)))
          have HK2 := Aside0.mk (blk_far HK.out (p := ⟨g, j * 2, none⟩) hne2 (.int .i64 (-7)))
          have HC2 := Aside0.mk (blk_set hg3 (j * 2) (.int .i64 (-7)))
          clear hg3 hg4 e0 e1 hbr hne2 HS HP HX HK HC
          go_wp2_with fail
          obtain ⟨wq, hwq⟩ : ∃ wq : World, wq = wr.setCell ⟨g, j * 2, none⟩ (.int .i64 (-7)) := ⟨_, rfl⟩
          rw [← hwq] at HBR HS2 HP2 HX2 HK2 HC2 ⊢
          clear hz1 hz2 hf2 hwq
          clear wr
          obtain ⟨jj, hjj⟩ : ∃ jj, jj = j := ⟨_, rfl⟩
          rw [← hjj] at HC2 E1
          have HJ := Aside0.mk hjj
          clear hjj
          go_loopw [5] (fun j wr => ∃ q : Nat, q ≤ m ∧ j = .int .i64 q ∧ Aside0 (SecRow wr lo hi A0 n0) ∧ Aside0 (PendRow wr lo hi (some ⟨g, 0, none⟩) n1) ∧ Aside0 (Btw lo hi w wr) ∧ Aside0 (wr.heap[w.heap.size]? = some (.cells #[.slice A0 n0 c0, .slice (some ⟨g, 0, none⟩) n1 c1] 25 (0, 0))) ∧ Aside0 (wr.heap[g]? = some (.cells (cs.setIfInBounds (jj * 2) (.int .i64 (-7))) 65 (0, 0))) ∧ Aside0 (ByteRow wr lo hi Ab m)) (fun j _ => m - (intOf j).toNat)
          case atStart => exact ⟨0, Nat.zero_le _, rfl, HS2, HP2, HX2, HK2, HC2, HBR⟩
          case round =>
            clear HS2 HP2 HX2 HK2 HC2 HBR
            obtain ⟨q, hq, rfl, HS, HP, HX, HK, HC, HBR⟩ := hrel
            have hz0 : wr.cell? ⟨w.heap.size, 1, none⟩ = some (.slice (some ⟨g, 0, none⟩) n1 c1) := (blk_cell HK.out 1).trans rfl
            have hz2 : wr.cell? ⟨g, j * 2 + 1, none⟩ = some (.slice Ab m cb) := by have := HJ.out; subst this; exact (blk_cell HC.out _).trans E1.out
            by_cases hltq : q < m
            · obtain ⟨gb, cbs, rfl, hb1, hb2, hb3, hb4⟩ := HBR.out.2 (by omega)
              obtain ⟨x, hx⟩ := hb4 q hltq
              have hz3 : wr.cell? ⟨gb, q, none⟩ = some (.int .u8 x) := (blk_cell hb3 _).trans hx
              have hf3 := blk_frozen hb3 q
              have HBB := Aside0.mk hb3
              have HNE := Aside0.mk (blk_ne HC.out hb3 (by decide))
              have HNE2 := Aside0.mk (show w.heap.size ≠ gb by omega)
              clear hb3 hb4 hx
              go_wp2_with fail
              go_region
              all_goals
                go_wp2
                go_roundw
                case rel => exact ⟨q + 1, by omega, by go_num, ⟨HS.out.set HBB.out _⟩, ⟨HP.out.set HBB.out _⟩, ⟨(HX.out.set (p := ⟨gb, q, none⟩) hb1 hb2 _).drew⟩, ⟨blk_far HK.out (p := ⟨gb, q, none⟩) HNE2.out _⟩, ⟨blk_far HC.out (p := ⟨gb, q, none⟩) HNE.out _⟩, ⟨HBR.out.set HBB.out _⟩⟩
                case measure => simp [intOf]; omega
            · go_wp2
              go_roundw
              case rel => exact ⟨j + 1, by omega, by go_num, HS, HP, HX, HK⟩
              case measure => simp [intOf]; omega
        · go_wp2
          go_end0
          exact ⟨rfl, HX.out⟩
end Go.Proofs.Ytjlohdbkjoofcaa.P
end
section
set_option linter.unusedVariables false
set_option linter.unusedSimpArgs false
namespace Go.Proofs.Ytjlohdbkjoofcaa.P
open Go.RowKit Go.Proofs.PrintWords Go.Proofs.PrintLast Go.Proofs.PrintMore
attribute [local go_sem] max2_int min2_int max_two min_two max_three min_three max_four min_four
def law3.T10 : Bool × List (List Nat × List Nat) := (true, [([], []), ([], []), ([0, 1], [0, 1]), ([2, 2], [2]), ([3], [3]), ([3], [3]), ([4, 5, 3], [3, 4, 5]), ([3, 6], [3, 6]), ([7, 3], [7]), ([8], [8]), ([9, 8], [8, 9]), ([8], [8]), ([11, 8], [8, 11]), ([10, 12, 8], [8, 10, 12]), ([8, 13], [8, 13]), ([14, 8], [14]), ([15], [15]), ([15], [15]), ([16, 17, 15], [15, 16, 17]), ([15, 18], [15, 18]), ([19, 15], [19]), ([20], [20]), ([20], [20]), ([21, 22, 20], [20, 21, 22]), ([20, 23], [20, 23]), ([24, 20], [24]), ([25], [25]), ([25], [25]), ([26, 27, 25], [25, 26, 27]), ([25, 28], [25, 28]), ([29, 25], [29]), ([30], [30]), ([31, 30, 30], [30, 31]), ([30], [30]), ([33, 32, 30], [30, 33]), ([32, 34, 30], [30, 32, 34]), ([30, 35], [30, 35]), ([36, 34, 0, 1, 2, 3, 4, 5, 6, 7, 8, 9, 10, 11, 12, 13, 14, 15, 16, 17, 18, 19, 20, 21, 22, 23, 24, 25, 26, 27, 28, 29, 30, 31, 32, 33, 34, 35, 36], [36])])
def law3.B10 : List Nat := [0, 0, 3, 7, 15, 15, 63, 127, 255, 511, 1023, 511, 2559, 8191, 16383, 32767, 65535, 65535, 262143, 524287, 1048575, 2097151, 2097151, 8388607, 16777215, 33554431, 67108863, 67108863, 268435455, 536870911, 1073741823, 2147483647, 4294967295, 2147483647, 17179869183, 34359738367, 68719476735, 137438953471]
theorem law3.tab10 : rtab .any (opsOf Try.f3 10) = law3.T10 := by kernel_rfl
theorem law3.bits10 : waitsOk law3.T10.2 law3.B10 = true := by kernel_rfl
set_option maxHeartbeats 16000000 in
set_option maxRecDepth 100000 in
theorem law3.calls (A0_0 : Option Addr) (c0_0 : Nat) (l0_0 : List S52) (A0_1 : Option Addr) (c0_1 : Nat) (l0_1 : List S65) (a1 : Int) (A2 : Option Addr) (c2 : Nat) (l2 : List Int) (w : World) (hr0_0 : Kd.C k52 w A0_0 l0_0.length l0_0) (hc0_0 : l0_0.length ≤ c0_0) (hr0_1 : Kd.C k65 w A0_1 l0_1.length l0_1) (hc0_1 : l0_1.length ≤ c0_1) (hr2 : Kd.C (Kd.int .u8) w A2 l2.length l2) (hc2 : l2.length ≤ c2) (hby : bytesD l0_0 l0_1) :
    Calls Try.prog 3 #[.agg #[.slice A0_0 l0_0.length c0_0, .slice A0_1 l0_1.length c0_1], .int .i64 a1, .slice A2 l2.length c2] w fun e w' => e = .returned (.bool true) ∧ Below w.heap.size w w' := by
  have hu25 := Try.underlying25
  have hyu := ym_undef
  have HR0 := Aside0.mk hr0_0
  have HR1 := Aside0.mk hr0_1
  have HR2 := Aside0.mk hr2
  have HC0 := Aside0.mk hc0_0
  have HC1 := Aside0.mk hc0_1
  have HC2 := Aside0.mk hc2
  have HBY := Aside0.mk hby
  clear hr0_0 hr0_1 hr2 hc0_0 hc0_1 hc2 hby
  have HB0 := Aside0.mk (below_alloc (Below.refl w.heap.size w) (.cells #[.slice A0_0 l0_0.length c0_0, .slice A0_1 l0_1.length c0_1] 25))
  have HK0 := Aside0.mk (heap_alloc_new w (.cells #[.slice A0_0 l0_0.length c0_0, .slice A0_1 l0_1.length c0_1] 25))
  obtain ⟨gb, hg, hgb⟩ := great_is l0_0 l0_1 60 (by omega) 400 (by omega)
  have HGR := fun (W : World) (hb : Below w.heap.size w W) => catamaranref05_Great.calls 400 A0_0 c0_0 l0_0 A0_1 c0_1 l0_1 60 gb W (Kd.C_below HR0.out hb) HC0.out (Kd.C_below HR1.out hb) HC1.out hg
  have HGR := Aside0.mk HGR
  clear hg
  cases gb with
  | true =>
    clear hgb
    go_enter Try.func3, Try.ntmps3
    go_wp2_with (go_at_call 30; refine (HGR.out _ HB0.out).mono ?_; rintro e w1 ⟨rfl, hb1⟩; have HB1 := Aside0.mk (below_step HB0.out hb1); clear hb1)
    go_ret
    exact ⟨rfl, HB1.out⟩
  | false =>
  obtain ⟨n0, n1, n2, n3⟩ := hgb rfl
  have HN0 := Aside0.mk n0
  have HN1 := Aside0.mk n1
  have HN2 := Aside0.mk n2
  have HN3 := Aside0.mk n3
  clear hgb n0 n1 n2 n3
  by_cases h100 : 100 < l2.length
  · have h100b : decide ((l2.length : Int) > 100) = true := decide_eq_true (by omega)
    clear h100
    go_enter Try.func3, Try.ntmps3
    go_wp2_with (go_at_call 30; refine (HGR.out _ HB0.out).mono ?_; rintro e w1 ⟨rfl, hb1⟩; have HB1 := Aside0.mk (below_step HB0.out hb1); clear hb1)
    go_ret
    exact ⟨rfl, HB1.out⟩
  have h100b : decide ((l2.length : Int) > 100) = false := decide_eq_false (by omega)
  have HH := Aside0.mk (show l2.length ≤ 100 by omega)
  clear h100
  have HTW := fun (W : World) (hb : Below w.heap.size w W) => catamaranref05_Twin.calls 1000 A0_0 c0_0 l0_0 A0_1 c0_1 l0_1 l0_0 l0_1 W (Kd.C_below HR0.out hb) HC0.out (Kd.C_below HR1.out hb) HC1.out (rTwin_is 1000 l0_0 l0_1 (by have := HN0.out; have := HN1.out; omega) (by have := HN0.out; omega) (by have := HN1.out; omega) (fun p hp => by have := HN2.out p hp; omega) (fun p hp => by have := HN3.out p hp; omega))
  have HTW := Aside0.mk HTW
  obtain ⟨⟨x0, x1, ex⟩, hxw⟩ : ∃ p, dWrite l0_0 l0_1 a1 l2 = p := ⟨_, rfl⟩
  obtain ⟨⟨rc, re⟩, hrd⟩ : ∃ p, dRead l0_0 l0_1 a1 = p := ⟨_, rfl⟩
  obtain ⟨⟨wb, we⟩, hwt⟩ : ∃ p, dWaits l0_0 l0_1 a1 = p := ⟨_, rfl⟩
  obtain ⟨kc, hkc⟩ : ∃ p, (if okDisk l0_0 l0_1 = true then (0 : Int) else 8) = p := ⟨_, rfl⟩
  have FX1 := Aside0.mk (show hWrite.f l0_0 l0_1 a1 l2 = some (x0, x1, ex) by unfold hWrite.f; rw [hxw])
  have FX2 := Aside0.mk (show catamaranref05_Write.f 1200 l0_0 l0_1 a1 l2 = some (x0, x1, ex) by rw [rWrite_is 1200 (Nat.le_refl _) _ _ HBY.out, hxw])
  have FR1 := Aside0.mk (show hRead.f l0_0 l0_1 a1 = some (rc, re) by unfold hRead.f; rw [hrd])
  have FR2 := Aside0.mk (show catamaranref05_Read.f 1200 l0_0 l0_1 a1 = some (rc, re) by rw [rRead_is 1200 (Nat.le_refl _) _ _ HBY.out, hrd])
  have FW1 := Aside0.mk (show hWaits.f l0_0 l0_1 a1 = some (wb, we) by unfold hWaits.f; rw [hwt])
  have FW2 := Aside0.mk (show catamaranref05_Waits.f 1200 l0_0 l0_1 a1 = some (wb, we) by rw [rWaits_is 1200 (Nat.le_refl _) _ _ HBY.out, hwt])
  have FC1 := Aside0.mk (show hCheck.f l0_0 l0_1 = some kc by unfold hCheck.f; rw [hkc])
  have FC2 := Aside0.mk (show catamaranref05_Check.f 1200 l0_0 l0_1 = some kc by rw [rCheck_is 1200 (Nat.le_refl _) _ _ HBY.out, hkc])
  clear hxw hrd hwt hkc
  go_enter Try.func3, Try.ntmps3
  go_wp2_with (first
    | (go_at_call 30; refine (HGR.out _ HB0.out).mono ?_; rintro e w1 ⟨rfl, hb1⟩; have HB1 := Aside0.mk (below_step HB0.out hb1); have HK1 := Aside0.mk (blk_below HK0.out hb1); have hq0 : w1.cell? ⟨w.heap.size, 0, none⟩ = some (.slice A0_0 l0_0.length c0_0) := (blk_cell HK1.out 0).trans rfl; have hq1 : w1.cell? ⟨w.heap.size, 1, none⟩ = some (.slice A0_1 l0_1.length c0_1) := (blk_cell HK1.out 1).trans rfl; clear hb1)
    | (go_at_call 31; refine (HTW.out _ HB1.out).mono ?_; rintro e w2 ⟨v1, v2, rfl, ho1, ho2, hb2⟩; obtain ⟨Ao1, co1, eo1⟩ := Kd.S_slice ho1; subst eo1; obtain ⟨Ao2, co2, eo2⟩ := Kd.S_slice ho2; subst eo2; have HB2 := Aside0.mk (below_step HB1.out hb2); have HK2 := Aside0.mk (blk_below HK1.out hb2); have HO1 := Aside0.mk ho1; have HO2 := Aside0.mk ho2; clear hb2 ho1 ho2 hq0 hq1)
    | (at_builtin; go_loud (refine Kd.R_append_row (Value.int .u8) (0 : Int) (h1 := fun _ => rfl) (w0 := w2) w2.heap.size rfl (.tmp 32) (.tmp 33) 26 5 (.int .u8 0) 1 rfl Try.underlying26 info5 rfl (by decide) (.slice (some ⟨w2.heap.size, 0, none⟩) 0 0) [] l2 _ _ _ (fun _ => True) rfl rfl (fun _ _ => trivial) ?aO ?aR ?aB ?aS ?aL ?_); (case aO => exact Kd.R_of_own (own_lit w2 w2.heap.size 5 .u8 [] (Nat.le_refl _) (by decide)) (fun _ _ => trivial)); (case aR => exact Kd.C_alloc (Kd.C_below HR2.out HB2.out) _); (case aB => exact below_alloc (Below.refl _ _) _); (case aS => simp); (case aL => have := HH.out; simp; omega); intro v3 w3 ho hb hg hat; have ho3 : Kd.R (Kd.int .u8) 5 w3 w2.heap.size (fun _ => True) v3 l2 := ho; obtain ⟨Am, cm, em⟩ := Kd.R_slice ho3; subst em; have HM := Aside0.mk (Kd.R_reads' ho3).2; have HB3 := Aside0.mk (below_step HB2.out hb); have HK3 := Aside0.mk (blk_below HK2.out hb); have HP1 := Aside0.mk (Kd.S_below HO1.out hb); have HP2 := Aside0.mk (Kd.S_below HO2.out hb); clear ho ho3 hb hg hat)
    | (go_at_call 32; have HB4 := Aside0.mk (below_alloc HB3.out (.cells #[.slice Ao1 l0_0.length co1, .slice Ao2 l0_1.length co2] 25)); have HK4 := Aside0.mk (blk_alloc HK3.out (.cells #[.slice Ao1 l0_0.length co1, .slice Ao2 l0_1.length co2] 25)); have HJ4 := Aside0.mk (heap_alloc_new w3 (.cells #[.slice Ao1 l0_0.length co1, .slice Ao2 l0_1.length co2] 25)); have CO0 := Aside0.mk (Kd.S_reads' (Kd.S_alloc HP1.out (.cells #[.slice Ao1 l0_0.length co1, .slice Ao2 l0_1.length co2] 25))).2; have CO1 := Aside0.mk (Kd.S_reads' (Kd.S_alloc HP2.out (.cells #[.slice Ao1 l0_0.length co1, .slice Ao2 l0_1.length co2] 25))).2; have CM := Aside0.mk (Kd.C_alloc HM.out.2 (.cells #[.slice Ao1 l0_0.length co1, .slice Ao2 l0_1.length co2] 25)); generalize (w3.alloc (.cells #[.slice Ao1 l0_0.length co1, .slice Ao2 l0_1.length co2] 25)) = W3 at HB4 HK4 HJ4 CO0 CO1 CM ⊢; generalize w3.heap.size = g7 at HJ4 ⊢; have CD0 := Aside0.mk (Kd.C_below HR0.out HB4.out); have CD1 := Aside0.mk (Kd.C_below HR1.out HB4.out); have CB := Aside0.mk (Kd.C_below HR2.out HB4.out); refine (hWrite.calls Ao1 co1 l0_0 Ao2 co2 l0_1 a1 Am cm l2 x0 x1 ex W3 CO0.out.2 CO0.out.1 CO1.out.2 CO1.out.1 CM.out HM.out.1 FX1.out).mono ?_; rintro e w4 ⟨v1, v2, rfl, hx1, hx2, hb4⟩; obtain ⟨Ax1, cx1, ex1⟩ := Kd.S_slice hx1; subst ex1; obtain ⟨Ax2, cx2, ex2⟩ := Kd.S_slice hx2; subst ex2; have HL4 := Aside0.mk hb4; have HX1 := Aside0.mk hx1; have HX2 := Aside0.mk hx2; clear hb4 hx1 hx2; have hq0 : w4.cell? ⟨w.heap.size, 0, none⟩ = some (.slice A0_0 l0_0.length c0_0) := (blk_cell (blk_below HK4.out HL4.out) 0).trans rfl; have hq1 : w4.cell? ⟨w.heap.size, 1, none⟩ = some (.slice A0_1 l0_1.length c0_1) := (blk_cell (blk_below HK4.out HL4.out) 1).trans rfl; have hqs : w.heap.size < w4.heap.size := blk_lt (blk_below HK4.out HL4.out))
    | (go_at_call 33; have HL5 := Aside0.mk (below_alloc HL4.out (.cells #[.slice Ax1 x0.length cx1, .slice Ax2 x1.length cx2] 25)); refine (catamaranref05_Write.calls 1200 A0_0 c0_0 l0_0 A0_1 c0_1 l0_1 a1 A2 c2 l2 x0 x1 ex _ (Kd.C_below CD0.out HL5.out) HC0.out (Kd.C_below CD1.out HL5.out) HC1.out (Kd.C_below CB.out HL5.out) HC2.out FX2.out).mono ?_; rintro e w5 ⟨v1, v2, rfl, hy1, hy2, hb5⟩; obtain ⟨Ay1, cy1, ey1⟩ := Kd.S_slice hy1; subst ey1; obtain ⟨Ay2, cy2, ey2⟩ := Kd.S_slice hy2; subst ey2; have HL6 := Aside0.mk (below_step HL5.out hb5); have HX5a := Aside0.mk (Kd.S_below (Kd.S_alloc HX1.out (.cells #[.slice Ax1 x0.length cx1, .slice Ax2 x1.length cx2] 25)) hb5); have HX5b := Aside0.mk (Kd.S_below (Kd.S_alloc HX2.out (.cells #[.slice Ax1 x0.length cx1, .slice Ax2 x1.length cx2] 25)) hb5); have HZ5 := Aside0.mk (blk_below (heap_alloc_new w4 (.cells #[.slice Ax1 x0.length cx1, .slice Ax2 x1.length cx2] 25)) hb5); have HY1 := Aside0.mk hy1; have HY2 := Aside0.mk hy2; have HG4 := Aside0.mk (show w4.heap.size ≤ w5.heap.size from Nat.le_of_lt (blk_lt HZ5.out)); have HE5 := Aside0.mk (below_step (below_alloc (Below.refl _ _) (.cells #[.slice Ax1 x0.length cx1, .slice Ax2 x1.length cx2] 25)) hb5); clear hb5 hy1 hy2 hq0 hq1 hqs; have hq0 : w5.cell? ⟨w.heap.size, 0, none⟩ = some (.slice A0_0 l0_0.length c0_0) := (blk_cell (blk_below HK4.out HL6.out) 0).trans rfl; have hq1 : w5.cell? ⟨w.heap.size, 1, none⟩ = some (.slice A0_1 l0_1.length c0_1) := (blk_cell (blk_below HK4.out HL6.out) 1).trans rfl; have hqs : w.heap.size < w5.heap.size := blk_lt (blk_below HK4.out HL6.out); have hr0 : w5.cell? ⟨g7, 0, none⟩ = some (.slice Ao1 l0_0.length co1) := (blk_cell (blk_below HJ4.out HL6.out) 0).trans rfl; have hr1 : w5.cell? ⟨g7, 1, none⟩ = some (.slice Ao2 l0_1.length co2) := (blk_cell (blk_below HJ4.out HL6.out) 1).trans rfl; have hrs : g7 < w5.heap.size := blk_lt (blk_below HJ4.out HL6.out))
    | (go_at_call 34; have HL7 := Aside0.mk (below_alloc HL6.out (.cells #[.slice Ay1 x0.length cy1, .slice Ay2 x1.length cy2] 25)); refine (hRead.calls Ao1 co1 l0_0 Ao2 co2 l0_1 a1 rc re _ (Kd.C_below CO0.out.2 HL7.out) CO0.out.1 (Kd.C_below CO1.out.2 HL7.out) CO1.out.1 FR1.out).mono ?_; rintro e w6 ⟨v1, rfl, hc, hb6⟩; obtain ⟨Ac, cc, ec⟩ := Kd.R_slice hc; subst ec; have HL8 := Aside0.mk (below_step HL7.out hb6); have HE6 := Aside0.mk (below_step (below_alloc HE5.out (.cells #[.slice Ay1 x0.length cy1, .slice Ay2 x1.length cy2] 25)) hb6); have HX6a := Aside0.mk (Kd.S_below (Kd.S_alloc HX5a.out (.cells #[.slice Ay1 x0.length cy1, .slice Ay2 x1.length cy2] 25)) hb6); have HX6b := Aside0.mk (Kd.S_below (Kd.S_alloc HX5b.out (.cells #[.slice Ay1 x0.length cy1, .slice Ay2 x1.length cy2] 25)) hb6); have HZ6 := Aside0.mk (blk_below (blk_alloc HZ5.out (.cells #[.slice Ay1 x0.length cy1, .slice Ay2 x1.length cy2] 25)) hb6); have HZ6' := Aside0.mk (blk_below (heap_alloc_new w5 (.cells #[.slice Ay1 x0.length cy1, .slice Ay2 x1.length cy2] 25)) hb6); have HY6a := Aside0.mk (Kd.S_below (Kd.S_alloc HY1.out (.cells #[.slice Ay1 x0.length cy1, .slice Ay2 x1.length cy2] 25)) hb6); have HY6b := Aside0.mk (Kd.S_below (Kd.S_alloc HY2.out (.cells #[.slice Ay1 x0.length cy1, .slice Ay2 x1.length cy2] 25)) hb6); have HCC := Aside0.mk (Kd.R_lower hc (Nat.le_trans HG4.out (show w5.heap.size ≤ (w5.alloc (.cells #[.slice Ay1 x0.length cy1, .slice Ay2 x1.length cy2] 25)).heap.size by simp))); clear hb6 hc hq0 hq1 hqs hr0 hr1 hrs; have hq0 : w6.cell? ⟨w.heap.size, 0, none⟩ = some (.slice A0_0 l0_0.length c0_0) := (blk_cell (blk_below HK4.out HL8.out) 0).trans rfl; have hq1 : w6.cell? ⟨w.heap.size, 1, none⟩ = some (.slice A0_1 l0_1.length c0_1) := (blk_cell (blk_below HK4.out HL8.out) 1).trans rfl; have hqs : w.heap.size < w6.heap.size := blk_lt (blk_below HK4.out HL8.out); have hr0 : w6.cell? ⟨g7, 0, none⟩ = some (.slice Ao1 l0_0.length co1) := (blk_cell (blk_below HJ4.out HL8.out) 0).trans rfl; have hr1 : w6.cell? ⟨g7, 1, none⟩ = some (.slice Ao2 l0_1.length co2) := (blk_cell (blk_below HJ4.out HL8.out) 1).trans rfl; have hrs : g7 < w6.heap.size := blk_lt (blk_below HJ4.out HL8.out))
    | (go_at_call 35; refine (catamaranref05_Read.calls 1200 A0_0 c0_0 l0_0 A0_1 c0_1 l0_1 a1 rc re _ (Kd.C_below CD0.out HL8.out) HC0.out (Kd.C_below CD1.out HL8.out) HC1.out FR2.out).mono ?_; rintro e w7 ⟨v1, rfl, hp, hb7⟩; obtain ⟨Ap, cp, ep⟩ := Kd.R_slice hp; subst ep; have HL9 := Aside0.mk (below_step HL8.out hb7); have HX7a := Aside0.mk (Kd.S_below HX6a.out hb7); have HX7b := Aside0.mk (Kd.S_below HX6b.out hb7); have HY7a := Aside0.mk (Kd.S_below HY6a.out hb7); have HY7b := Aside0.mk (Kd.S_below HY6b.out hb7); have HZ7 := Aside0.mk (blk_below HZ6.out hb7); have HZ7' := Aside0.mk (blk_below HZ6'.out hb7); have HE7 := Aside0.mk (below_step HE6.out hb7); have HCC7 := Aside0.mk (Kd.R_below HCC.out hb7); have HPP := Aside0.mk hp; clear hp; clear hb7 hq0 hq1 hqs hr0 hr1 hrs; have hq0 : w7.cell? ⟨w.heap.size, 0, none⟩ = some (.slice A0_0 l0_0.length c0_0) := (blk_cell (blk_below HK4.out HL9.out) 0).trans rfl; have hq1 : w7.cell? ⟨w.heap.size, 1, none⟩ = some (.slice A0_1 l0_1.length c0_1) := (blk_cell (blk_below HK4.out HL9.out) 1).trans rfl; have hqs : w.heap.size < w7.heap.size := blk_lt (blk_below HK4.out HL9.out); have hr0 : w7.cell? ⟨g7, 0, none⟩ = some (.slice Ao1 l0_0.length co1) := (blk_cell (blk_below HJ4.out HL9.out) 0).trans rfl; have hr1 : w7.cell? ⟨g7, 1, none⟩ = some (.slice Ao2 l0_1.length co2) := (blk_cell (blk_below HJ4.out HL9.out) 1).trans rfl; have hrs : g7 < w7.heap.size := blk_lt (blk_below HJ4.out HL9.out))
    | (go_at_call 36; refine (hWaits.calls Ao1 co1 l0_0 Ao2 co2 l0_1 a1 wb we _ (Kd.C_below CO0.out.2 HL9.out) CO0.out.1 (Kd.C_below CO1.out.2 HL9.out) CO1.out.1 FW1.out).mono ?_; rintro e w8 ⟨rfl, hb8⟩; have HL10 := Aside0.mk (below_step HL9.out hb8); have HX8a := Aside0.mk (Kd.S_below HX7a.out hb8); have HX8b := Aside0.mk (Kd.S_below HX7b.out hb8); have HY8a := Aside0.mk (Kd.S_below HY7a.out hb8); have HY8b := Aside0.mk (Kd.S_below HY7b.out hb8); have HZ8 := Aside0.mk (blk_below HZ7.out hb8); have HZ8' := Aside0.mk (blk_below HZ7'.out hb8); have HE8 := Aside0.mk (below_step HE7.out hb8); have HCC8 := Aside0.mk (Kd.R_below HCC7.out hb8); have HPP8 := Aside0.mk (Kd.R_below HPP.out hb8); clear hb8 hq0 hq1 hqs hr0 hr1 hrs; have hq0 : w8.cell? ⟨w.heap.size, 0, none⟩ = some (.slice A0_0 l0_0.length c0_0) := (blk_cell (blk_below HK4.out HL10.out) 0).trans rfl; have hq1 : w8.cell? ⟨w.heap.size, 1, none⟩ = some (.slice A0_1 l0_1.length c0_1) := (blk_cell (blk_below HK4.out HL10.out) 1).trans rfl; have hqs : w.heap.size < w8.heap.size := blk_lt (blk_below HK4.out HL10.out); have hr0 : w8.cell? ⟨g7, 0, none⟩ = some (.slice Ao1 l0_0.length co1) := (blk_cell (blk_below HJ4.out HL10.out) 0).trans rfl; have hr1 : w8.cell? ⟨g7, 1, none⟩ = some (.slice Ao2 l0_1.length co2) := (blk_cell (blk_below HJ4.out HL10.out) 1).trans rfl; have hrs : g7 < w8.heap.size := blk_lt (blk_below HJ4.out HL10.out))
    | (go_at_call 37; refine (catamaranref05_Waits.calls 1200 A0_0 c0_0 l0_0 A0_1 c0_1 l0_1 a1 wb we _ (Kd.C_below CD0.out HL10.out) HC0.out (Kd.C_below CD1.out HL10.out) HC1.out FW2.out).mono ?_; rintro e w9 ⟨rfl, hb9⟩; have HL11 := Aside0.mk (below_step HL10.out hb9); have HX9a := Aside0.mk (Kd.S_below HX8a.out hb9); have HX9b := Aside0.mk (Kd.S_below HX8b.out hb9); have HY9a := Aside0.mk (Kd.S_below HY8a.out hb9); have HY9b := Aside0.mk (Kd.S_below HY8b.out hb9); have HZ9 := Aside0.mk (blk_below HZ8.out hb9); have HZ9' := Aside0.mk (blk_below HZ8'.out hb9); have HE9 := Aside0.mk (below_step HE8.out hb9); have HCC9 := Aside0.mk (Kd.R_below HCC8.out hb9); have HPP9 := Aside0.mk (Kd.R_below HPP8.out hb9); clear hb9 hq0 hq1 hqs hr0 hr1 hrs; have hq0 : w9.cell? ⟨w.heap.size, 0, none⟩ = some (.slice A0_0 l0_0.length c0_0) := (blk_cell (blk_below HK4.out HL11.out) 0).trans rfl; have hq1 : w9.cell? ⟨w.heap.size, 1, none⟩ = some (.slice A0_1 l0_1.length c0_1) := (blk_cell (blk_below HK4.out HL11.out) 1).trans rfl; have hqs : w.heap.size < w9.heap.size := blk_lt (blk_below HK4.out HL11.out); have hr0 : w9.cell? ⟨g7, 0, none⟩ = some (.slice Ao1 l0_0.length co1) := (blk_cell (blk_below HJ4.out HL11.out) 0).trans rfl; have hr1 : w9.cell? ⟨g7, 1, none⟩ = some (.slice Ao2 l0_1.length co2) := (blk_cell (blk_below HJ4.out HL11.out) 1).trans rfl; have hrs : g7 < w9.heap.size := blk_lt (blk_below HJ4.out HL11.out)))
  have HSS := Aside0.mk (show ∀ W : World, Below w9.heap.size w9 W → W.cell? ⟨w4.heap.size, 0, none⟩ = some (.slice Ax1 x0.length cx1) ∧ W.cell? ⟨w4.heap.size, 1, none⟩ = some (.slice Ax2 x1.length cx2) ∧ W.cell? ⟨w5.heap.size, 0, none⟩ = some (.slice Ay1 x0.length cy1) ∧ W.cell? ⟨w5.heap.size, 1, none⟩ = some (.slice Ay2 x1.length cy2) ∧ W.cell? ⟨g7, 0, none⟩ = some (.slice Ao1 l0_0.length co1) ∧ W.cell? ⟨g7, 1, none⟩ = some (.slice Ao2 l0_1.length co2) ∧ W.cell? ⟨w.heap.size, 0, none⟩ = some (.slice A0_0 l0_0.length c0_0) ∧ W.cell? ⟨w.heap.size, 1, none⟩ = some (.slice A0_1 l0_1.length c0_1) ∧ (convert 26 9 (.slice Ac rc.length cc)).run Try.prog W = .ok (.string (strOfNums rc)) W ∧ (convert 26 9 (.slice Ap rc.length cp)).run Try.prog W = .ok (.string (strOfNums rc)) W from fun W hb => ⟨(blk_cell (blk_below HZ9.out hb) 0).trans rfl, (blk_cell (blk_below HZ9.out hb) 1).trans rfl, (blk_cell (blk_below HZ9'.out hb) 0).trans rfl, (blk_cell (blk_below HZ9'.out hb) 1).trans rfl, (blk_cell (blk_below (blk_below HJ4.out HL11.out) hb) 0).trans rfl, (blk_cell (blk_below (blk_below HJ4.out HL11.out) hb) 1).trans rfl, (blk_cell (blk_below (blk_below HK4.out HL11.out) hb) 0).trans rfl, (blk_cell (blk_below (blk_below HK4.out HL11.out) hb) 1).trans rfl, Kd.C_string (P := Try.prog) (A := Ac) (c := cc) Try.underlying26 Try.underlying5 Try.underlying9 (Kd.C_below (Kd.R_reads' HCC9.out).2.2 hb), Kd.C_string (P := Try.prog) (A := Ap) (c := cp) Try.underlying26 Try.underlying5 Try.underlying9 (Kd.C_below (Kd.R_reads' HPP9.out).2.2 hb)⟩)
  have HLN := Aside0.mk (show g7 < W3.heap.size from blk_lt HJ4.out)
  clear hq0 hq1 hqs hr0 hr1 hrs
  refine start_ (n := 38) (S := fun w' => w'.cell? ⟨w4.heap.size, 0, none⟩ = some (.slice Ax1 x0.length cx1) ∧ w'.cell? ⟨w4.heap.size, 1, none⟩ = some (.slice Ax2 x1.length cx2) ∧ w'.cell? ⟨w5.heap.size, 0, none⟩ = some (.slice Ay1 x0.length cy1) ∧ w'.cell? ⟨w5.heap.size, 1, none⟩ = some (.slice Ay2 x1.length cy2) ∧ w'.cell? ⟨g7, 0, none⟩ = some (.slice Ao1 l0_0.length co1) ∧ w'.cell? ⟨g7, 1, none⟩ = some (.slice Ao2 l0_1.length co2) ∧ w'.cell? ⟨w.heap.size, 0, none⟩ = some (.slice A0_0 l0_0.length c0_0) ∧ w'.cell? ⟨w.heap.size, 1, none⟩ = some (.slice A0_1 l0_1.length c0_1) ∧ (convert 26 9 (.slice Ac rc.length cc)).run Try.prog w' = .ok (.string (strOfNums rc)) w' ∧ (convert 26 9 (.slice Ap rc.length cp)).run Try.prog w' = .ok (.string (strOfNums rc)) w') (ds := []) #[false, false, false, false, false, false, false, false, false, false, false, false, false, false, false, false, false, false, false, false, false, false, false, false, false, false, false, false, false, false, false, false, false, false, false, false, false, false] (by kernel_rfl) rfl rfl (by exact HSS.out _ (below_drew1 (Below.refl _ _))) (fun hHeld => ?_); refine with_tabW law3.tab10 law3.bits10 (fun HT_ HW_ => ?_)
  refine take_ (i := 0) (N := some 73) (v := ?_) (a' := ?_) #[true, false, false, false, false, false, false, false, false, false, false, false, false, false, false, false, false, false, false, false, false, false, false, false, false, false, false, false, false, false, false, false, false, false, false, false, false, false] rfl rfl (take_ofW HT_.out HW_.out (by kernel_rfl)) (fun _ _ _ h => h) (Or.inl ⟨by rfl, ?_⟩) hHeld ?_ ?_
  rotate_left
  · rintro w' ⟨s0, s1, s2, s3, s4, s5, s6, s7, s8, s9⟩
    go_simp
    with_reducible rfl
  rotate_left
  · simp only [Act.put, List.setIfInBounds_toArray, List.set_cons_zero, List.set_cons_succ, i64_w, i32_w]
    rfl
  refine take_ (i := 1) (N := some 74) (v := ?_) (a' := ?_) #[true, true, false, false, false, false, false, false, false, false, false, false, false, false, false, false, false, false, false, false, false, false, false, false, false, false, false, false, false, false, false, false, false, false, false, false, false, false] rfl rfl (take_ofW HT_.out HW_.out (by kernel_rfl)) (fun _ _ _ h => h) (Or.inl ⟨by rfl, ?_⟩) hHeld ?_ ?_
  rotate_left
  · rintro w' ⟨s0, s1, s2, s3, s4, s5, s6, s7, s8, s9⟩
    go_simp
    with_reducible rfl
  rotate_left
  · simp only [Act.put, List.setIfInBounds_toArray, List.set_cons_zero, List.set_cons_succ, i64_w, i32_w]
    rfl
  refine one_ (i := 2) (N := some 75) #[true, true, true, false, false, false, false, false, false, false, false, false, false, false, false, false, false, false, false, false, false, false, false, false, false, false, false, false, false, false, false, false, false, false, false, false, false, false] rfl rfl (one_of HT_.out (by kernel_rfl)) (by decide) (fun K hK => ?_)
  refine goes_ Try.func38 (by kernel_rfl) rfl #[.agg #[.slice Ax1 x0.length cx1, .slice Ax2 x1.length cx2], .agg #[.slice Ay1 x0.length cy1, .slice Ay2 x1.length cy2]] (by rfl) rfl rfl (by (try simp only [List.map_toArray, List.map_cons, List.map_nil]); first | done | rfl | (simp only [List.length_drop, List.length_take]; rfl)) ?_
  have HD := Aside0.mk (below_drew1 (Below.refl w9.heap.size w9))
  generalize w9.drew = wd at HD hHeld ⊢
  have X1 := Kd.S_reads' (Kd.S_below HX9a.out HD.out)
  have X2 := Kd.S_reads' (Kd.S_below HX9b.out HD.out)
  have Y1 := Kd.S_reads' (Kd.S_below HY9a.out HD.out)
  have Y2 := Kd.S_reads' (Kd.S_below HY9b.out HD.out)
  refine (hSame.calls Ax1 cx1 x0 Ax2 cx2 x1 Ay1 cy1 x0 Ay2 cy2 x1 true wd X1.2.2 X1.2.1 X2.2.2 X2.2.1 Y1.2.2 Y1.2.1 Y2.2.2 Y2.2.1 (by unfold hSame.f; rw [dSame_refl])).mono ?_
  rintro e wa ⟨rfl, hba⟩
  refine ⟨_, rfl, ?_⟩
  clear X1 X2 Y1 Y2
  have HDa := Aside0.mk (below_step HD.out hba)
  clear hba
  refine hK.out _ _ (by exact HSS.out _ HDa.out) (fun hHeld => ?_)
  clear hK K
  refine norm_ (a' := ?_) ?_ ?_
  rotate_left
  · show Act.put _ (some 75) _ = _
    simp only [Act.put, List.setIfInBounds_toArray, List.set_cons_zero, List.set_cons_succ, i64_w, i32_w]
    rfl
  refine pure_ (i := 3) (N := some 76) (v := ?_) (a' := ?_) #[true, true, true, true, false, false, false, false, false, false, false, false, false, false, false, false, false, false, false, false, false, false, false, false, false, false, false, false, false, false, false, false, false, false, false, false, false, false] rfl rfl (any_of HT_.out (by kernel_rfl)) (fun _ _ _ h => h) (Or.inl ⟨by rfl, ?_⟩) ?_ ?_
  rotate_left
  · intro w'
    go_simp
    with_reducible rfl
  rotate_left
  · simp only [Act.put, List.setIfInBounds_toArray, List.set_cons_zero, List.set_cons_succ, i64_w, i32_w]
    rfl
  refine pure_ (i := 4) (N := some 77) (v := ?_) (a' := ?_) #[true, true, true, true, true, false, false, false, false, false, false, false, false, false, false, false, false, false, false, false, false, false, false, false, false, false, false, false, false, false, false, false, false, false, false, false, false, false] rfl rfl (any_of HT_.out (by kernel_rfl)) (fun _ _ _ h => h) (Or.inl ⟨by rfl, ?_⟩) ?_ ?_
  rotate_left
  · intro w'
    go_simp
    with_reducible rfl
  rotate_left
  · simp only [Act.put, List.setIfInBounds_toArray, List.set_cons_zero, List.set_cons_succ, i64_w, i32_w]
    rfl
  refine pure_ (i := 5) (N := some 78) (v := ?_) (a' := ?_) #[true, true, true, true, true, true, false, false, false, false, false, false, false, false, false, false, false, false, false, false, false, false, false, false, false, false, false, false, false, false, false, false, false, false, false, false, false, false] rfl rfl (any_of HT_.out (by kernel_rfl)) (fun _ _ _ h => h) (Or.inl ⟨by rfl, ?_⟩) ?_ ?_
  rotate_left
  · intro w'
    go_simp
    with_reducible rfl
  rotate_left
  · simp only [Act.put, List.setIfInBounds_toArray, List.set_cons_zero, List.set_cons_succ, i64_w, i32_w]
    rfl
  refine pure_ (i := 6) (N := some 79) (v := ?_) (a' := ?_) #[true, true, true, true, true, true, true, false, false, false, false, false, false, false, false, false, false, false, false, false, false, false, false, false, false, false, false, false, false, false, false, false, false, false, false, false, false, false] rfl rfl (any_of HT_.out (by kernel_rfl)) (fun _ _ _ h => h) (Or.inl ⟨by rfl, ?_⟩) ?_ ?_
  rotate_left
  · intro w'
    go_simp
    with_reducible rfl
  rotate_left
  · simp only [Act.put, List.setIfInBounds_toArray, List.set_cons_zero, List.set_cons_succ, i64_w, i32_w]
    rfl
  refine pure_ (i := 7) (N := some 80) (v := ?_) (a' := ?_) #[true, true, true, true, true, true, true, true, false, false, false, false, false, false, false, false, false, false, false, false, false, false, false, false, false, false, false, false, false, false, false, false, false, false, false, false, false, false] rfl rfl (any_of HT_.out (by kernel_rfl)) (fun _ _ _ h => h) (Or.inl ⟨by rfl, ?_⟩) ?_ ?_
  rotate_left
  · intro w'
    go_simp
    with_reducible rfl
  rotate_left
  · simp only [Act.put, List.setIfInBounds_toArray, List.set_cons_zero, List.set_cons_succ, i64_w, i32_w]
    rfl
  refine pure_ (i := 8) (N := some 81) (v := ?_) (a' := ?_) #[true, true, true, true, true, true, true, true, true, false, false, false, false, false, false, false, false, false, false, false, false, false, false, false, false, false, false, false, false, false, false, false, false, false, false, false, false, false] rfl rfl (any_of HT_.out (by kernel_rfl)) (fun _ _ _ h => h) (Or.inl ⟨by rfl, ?_⟩) ?_ ?_
  rotate_left
  · intro w'
    go_simp
    with_reducible rfl
  rotate_left
  · simp only [Act.put, List.setIfInBounds_toArray, List.set_cons_zero, List.set_cons_succ, i64_w, i32_w]
    rfl
  refine pure_ (i := 9) (N := some 82) (v := ?_) (a' := ?_) #[true, true, true, true, true, true, true, true, true, true, false, false, false, false, false, false, false, false, false, false, false, false, false, false, false, false, false, false, false, false, false, false, false, false, false, false, false, false] rfl rfl (any_of HT_.out (by kernel_rfl)) (fun _ _ _ h => h) (Or.inl ⟨by rfl, ?_⟩) ?_ ?_
  rotate_left
  · intro w'
    go_simp
    with_reducible rfl
  rotate_left
  · simp only [Act.put, List.setIfInBounds_toArray, List.set_cons_zero, List.set_cons_succ, i64_w, i32_w]
    rfl
  refine take_ (i := 10) (N := some 83) (v := ?_) (a' := ?_) #[true, true, true, true, true, true, true, true, true, true, true, false, false, false, false, false, false, false, false, false, false, false, false, false, false, false, false, false, false, false, false, false, false, false, false, false, false, false] rfl rfl (take_ofW HT_.out HW_.out (by kernel_rfl)) (fun _ _ _ h => h) (Or.inl ⟨by rfl, ?_⟩) hHeld ?_ ?_
  rotate_left
  · rintro w' ⟨s0, s1, s2, s3, s4, s5, s6, s7, s8, s9⟩
    go_simp
    with_reducible rfl
  rotate_left
  · simp only [Act.put, List.setIfInBounds_toArray, List.set_cons_zero, List.set_cons_succ, i64_w, i32_w]
    rfl
  refine pure_ (i := 11) (N := some 84) (v := ?_) (a' := ?_) #[true, true, true, true, true, true, true, true, true, true, true, true, false, false, false, false, false, false, false, false, false, false, false, false, false, false, false, false, false, false, false, false, false, false, false, false, false, false] rfl rfl (any_of HT_.out (by kernel_rfl)) (fun _ _ _ h => h) (Or.inl ⟨by rfl, ?_⟩) ?_ ?_
  rotate_left
  · intro w'
    go_simp
    with_reducible rfl
  rotate_left
  · simp only [Act.put, List.setIfInBounds_toArray, List.set_cons_zero, List.set_cons_succ, i64_w, i32_w]
    rfl
  refine take_ (i := 12) (N := some 85) (v := ?_) (a' := ?_) #[true, true, true, true, true, true, true, true, true, true, true, true, true, false, false, false, false, false, false, false, false, false, false, false, false, false, false, false, false, false, false, false, false, false, false, false, false, false] rfl rfl (take_ofW HT_.out HW_.out (by kernel_rfl)) (fun _ _ _ h => h) (Or.inl ⟨by rfl, ?_⟩) hHeld ?_ ?_
  rotate_left
  · rintro w' ⟨s0, s1, s2, s3, s4, s5, s6, s7, s8, s9⟩
    go_simp
    with_reducible rfl
  rotate_left
  · simp only [Act.put, List.setIfInBounds_toArray, List.set_cons_zero, List.set_cons_succ, i64_w, i32_w]
    rfl
  refine pure_ (i := 13) (N := some 86) (v := ?_) (a' := ?_) #[true, true, true, true, true, true, true, true, true, true, true, true, true, true, false, false, false, false, false, false, false, false, false, false, false, false, false, false, false, false, false, false, false, false, false, false, false, false] rfl rfl (any_of HT_.out (by kernel_rfl)) (fun _ _ _ h => h) (Or.inl ⟨by rfl, ?_⟩) ?_ ?_
  rotate_left
  · intro w'
    go_simp
    with_reducible rfl
  rotate_left
  · simp only [Act.put, List.setIfInBounds_toArray, List.set_cons_zero, List.set_cons_succ, i64_w, i32_w]
    rfl
  refine pure_ (i := 14) (N := some 87) (v := ?_) (a' := ?_) #[true, true, true, true, true, true, true, true, true, true, true, true, true, true, true, false, false, false, false, false, false, false, false, false, false, false, false, false, false, false, false, false, false, false, false, false, false, false] rfl rfl (any_of HT_.out (by kernel_rfl)) (fun _ _ _ h => h) (Or.inl ⟨by rfl, ?_⟩) ?_ ?_
  rotate_left
  · intro w'
    go_simp
    with_reducible rfl
  rotate_left
  · simp only [Act.put, List.setIfInBounds_toArray, List.set_cons_zero, List.set_cons_succ, i64_w, i32_w]
    rfl
  refine pure_ (i := 15) (N := some 88) (v := ?_) (a' := ?_) #[true, true, true, true, true, true, true, true, true, true, true, true, true, true, true, true, false, false, false, false, false, false, false, false, false, false, false, false, false, false, false, false, false, false, false, false, false, false] rfl rfl (any_of HT_.out (by kernel_rfl)) (fun _ _ _ h => h) (Or.inl ⟨by rfl, ?_⟩) ?_ ?_
  rotate_left
  · intro w'
    go_simp
    with_reducible rfl
  rotate_left
  · simp only [Act.put, List.setIfInBounds_toArray, List.set_cons_zero, List.set_cons_succ, i64_w, i32_w]
    rfl
  refine pure_ (i := 16) (N := some 89) (v := ?_) (a' := ?_) #[true, true, true, true, true, true, true, true, true, true, true, true, true, true, true, true, true, false, false, false, false, false, false, false, false, false, false, false, false, false, false, false, false, false, false, false, false, false] rfl rfl (any_of HT_.out (by kernel_rfl)) (fun _ _ _ h => h) (Or.inl ⟨by rfl, ?_⟩) ?_ ?_
  rotate_left
  · intro w'
    go_simp
    with_reducible rfl
  rotate_left
  · simp only [Act.put, List.setIfInBounds_toArray, List.set_cons_zero, List.set_cons_succ, i64_w, i32_w]
    rfl
  refine pure_ (i := 17) (N := some 90) (v := ?_) (a' := ?_) #[true, true, true, true, true, true, true, true, true, true, true, true, true, true, true, true, true, true, false, false, false, false, false, false, false, false, false, false, false, false, false, false, false, false, false, false, false, false] rfl rfl (any_of HT_.out (by kernel_rfl)) (fun _ _ _ h => h) (Or.inl ⟨by rfl, ?_⟩) ?_ ?_
  rotate_left
  · intro w'
    go_simp
    with_reducible rfl
  rotate_left
  · simp only [Act.put, List.setIfInBounds_toArray, List.set_cons_zero, List.set_cons_succ, i64_w, i32_w]
    rfl
  refine pure_ (i := 18) (N := some 91) (v := ?_) (a' := ?_) #[true, true, true, true, true, true, true, true, true, true, true, true, true, true, true, true, true, true, true, false, false, false, false, false, false, false, false, false, false, false, false, false, false, false, false, false, false, false] rfl rfl (any_of HT_.out (by kernel_rfl)) (fun _ _ _ h => h) (Or.inl ⟨by rfl, ?_⟩) ?_ ?_
  rotate_left
  · intro w'
    go_simp
    with_reducible rfl
  rotate_left
  · simp only [Act.put, List.setIfInBounds_toArray, List.set_cons_zero, List.set_cons_succ, i64_w, i32_w]
    rfl
  refine pure_ (i := 19) (N := some 92) (v := ?_) (a' := ?_) #[true, true, true, true, true, true, true, true, true, true, true, true, true, true, true, true, true, true, true, true, false, false, false, false, false, false, false, false, false, false, false, false, false, false, false, false, false, false] rfl rfl (any_of HT_.out (by kernel_rfl)) (fun _ _ _ h => h) (Or.inl ⟨by rfl, ?_⟩) ?_ ?_
  rotate_left
  · intro w'
    go_simp
    with_reducible rfl
  rotate_left
  · simp only [Act.put, List.setIfInBounds_toArray, List.set_cons_zero, List.set_cons_succ, i64_w, i32_w]
    rfl
  refine pure_ (i := 20) (N := some 93) (v := ?_) (a' := ?_) #[true, true, true, true, true, true, true, true, true, true, true, true, true, true, true, true, true, true, true, true, true, false, false, false, false, false, false, false, false, false, false, false, false, false, false, false, false, false] rfl rfl (any_of HT_.out (by kernel_rfl)) (fun _ _ _ h => h) (Or.inl ⟨by rfl, ?_⟩) ?_ ?_
  rotate_left
  · intro w'
    go_simp
    with_reducible rfl
  rotate_left
  · simp only [Act.put, List.setIfInBounds_toArray, List.set_cons_zero, List.set_cons_succ, i64_w, i32_w]
    rfl
  refine pure_ (i := 21) (N := some 94) (v := ?_) (a' := ?_) #[true, true, true, true, true, true, true, true, true, true, true, true, true, true, true, true, true, true, true, true, true, true, false, false, false, false, false, false, false, false, false, false, false, false, false, false, false, false] rfl rfl (any_of HT_.out (by kernel_rfl)) (fun _ _ _ h => h) (Or.inl ⟨by rfl, ?_⟩) ?_ ?_
  rotate_left
  · intro w'
    go_simp
    with_reducible rfl
  rotate_left
  · simp only [Act.put, List.setIfInBounds_toArray, List.set_cons_zero, List.set_cons_succ, i64_w, i32_w]
    rfl
  refine pure_ (i := 22) (N := some 95) (v := ?_) (a' := ?_) #[true, true, true, true, true, true, true, true, true, true, true, true, true, true, true, true, true, true, true, true, true, true, true, false, false, false, false, false, false, false, false, false, false, false, false, false, false, false] rfl rfl (any_of HT_.out (by kernel_rfl)) (fun _ _ _ h => h) (Or.inl ⟨by rfl, ?_⟩) ?_ ?_
  rotate_left
  · intro w'
    go_simp
    with_reducible rfl
  rotate_left
  · simp only [Act.put, List.setIfInBounds_toArray, List.set_cons_zero, List.set_cons_succ, i64_w, i32_w]
    rfl
  refine pure_ (i := 23) (N := some 96) (v := ?_) (a' := ?_) #[true, true, true, true, true, true, true, true, true, true, true, true, true, true, true, true, true, true, true, true, true, true, true, true, false, false, false, false, false, false, false, false, false, false, false, false, false, false] rfl rfl (any_of HT_.out (by kernel_rfl)) (fun _ _ _ h => h) (Or.inl ⟨by rfl, ?_⟩) ?_ ?_
  rotate_left
  · intro w'
    go_simp
    with_reducible rfl
  rotate_left
  · simp only [Act.put, List.setIfInBounds_toArray, List.set_cons_zero, List.set_cons_succ, i64_w, i32_w]
    rfl
  refine pure_ (i := 24) (N := some 97) (v := ?_) (a' := ?_) #[true, true, true, true, true, true, true, true, true, true, true, true, true, true, true, true, true, true, true, true, true, true, true, true, true, false, false, false, false, false, false, false, false, false, false, false, false, false] rfl rfl (any_of HT_.out (by kernel_rfl)) (fun _ _ _ h => h) (Or.inl ⟨by rfl, ?_⟩) ?_ ?_
  rotate_left
  · intro w'
    go_simp
    with_reducible rfl
  rotate_left
  · simp only [Act.put, List.setIfInBounds_toArray, List.set_cons_zero, List.set_cons_succ, i64_w, i32_w]
    rfl
  refine pure_ (i := 25) (N := some 98) (v := ?_) (a' := ?_) #[true, true, true, true, true, true, true, true, true, true, true, true, true, true, true, true, true, true, true, true, true, true, true, true, true, true, false, false, false, false, false, false, false, false, false, false, false, false] rfl rfl (any_of HT_.out (by kernel_rfl)) (fun _ _ _ h => h) (Or.inl ⟨by rfl, ?_⟩) ?_ ?_
  rotate_left
  · intro w'
    go_simp
    with_reducible rfl
  rotate_left
  · simp only [Act.put, List.setIfInBounds_toArray, List.set_cons_zero, List.set_cons_succ, i64_w, i32_w]
    rfl
  refine pure_ (i := 26) (N := some 99) (v := ?_) (a' := ?_) #[true, true, true, true, true, true, true, true, true, true, true, true, true, true, true, true, true, true, true, true, true, true, true, true, true, true, true, false, false, false, false, false, false, false, false, false, false, false] rfl rfl (any_of HT_.out (by kernel_rfl)) (fun _ _ _ h => h) (Or.inl ⟨by rfl, ?_⟩) ?_ ?_
  rotate_left
  · intro w'
    go_simp
    with_reducible rfl
  rotate_left
  · simp only [Act.put, List.setIfInBounds_toArray, List.set_cons_zero, List.set_cons_succ, i64_w, i32_w]
    rfl
  refine pure_ (i := 27) (N := some 100) (v := ?_) (a' := ?_) #[true, true, true, true, true, true, true, true, true, true, true, true, true, true, true, true, true, true, true, true, true, true, true, true, true, true, true, true, false, false, false, false, false, false, false, false, false, false] rfl rfl (any_of HT_.out (by kernel_rfl)) (fun _ _ _ h => h) (Or.inl ⟨by rfl, ?_⟩) ?_ ?_
  rotate_left
  · intro w'
    go_simp
    with_reducible rfl
  rotate_left
  · simp only [Act.put, List.setIfInBounds_toArray, List.set_cons_zero, List.set_cons_succ, i64_w, i32_w]
    rfl
  refine pure_ (i := 28) (N := some 101) (v := ?_) (a' := ?_) #[true, true, true, true, true, true, true, true, true, true, true, true, true, true, true, true, true, true, true, true, true, true, true, true, true, true, true, true, true, false, false, false, false, false, false, false, false, false] rfl rfl (any_of HT_.out (by kernel_rfl)) (fun _ _ _ h => h) (Or.inl ⟨by rfl, ?_⟩) ?_ ?_
  rotate_left
  · intro w'
    go_simp
    with_reducible rfl
  rotate_left
  · simp only [Act.put, List.setIfInBounds_toArray, List.set_cons_zero, List.set_cons_succ, i64_w, i32_w]
    rfl
  refine pure_ (i := 29) (N := some 102) (v := ?_) (a' := ?_) #[true, true, true, true, true, true, true, true, true, true, true, true, true, true, true, true, true, true, true, true, true, true, true, true, true, true, true, true, true, true, false, false, false, false, false, false, false, false] rfl rfl (any_of HT_.out (by kernel_rfl)) (fun _ _ _ h => h) (Or.inl ⟨by rfl, ?_⟩) ?_ ?_
  rotate_left
  · intro w'
    go_simp
    with_reducible rfl
  rotate_left
  · simp only [Act.put, List.setIfInBounds_toArray, List.set_cons_zero, List.set_cons_succ, i64_w, i32_w]
    rfl
  refine pure_ (i := 30) (N := some 103) (v := ?_) (a' := ?_) #[true, true, true, true, true, true, true, true, true, true, true, true, true, true, true, true, true, true, true, true, true, true, true, true, true, true, true, true, true, true, true, false, false, false, false, false, false, false] rfl rfl (any_of HT_.out (by kernel_rfl)) (fun _ _ _ h => h) (Or.inl ⟨by rfl, ?_⟩) ?_ ?_
  rotate_left
  · intro w'
    go_simp
    with_reducible rfl
  rotate_left
  · simp only [Act.put, List.setIfInBounds_toArray, List.set_cons_zero, List.set_cons_succ, i64_w, i32_w]
    rfl
  refine take_ (i := 31) (N := some 104) (v := ?_) (a' := ?_) #[true, true, true, true, true, true, true, true, true, true, true, true, true, true, true, true, true, true, true, true, true, true, true, true, true, true, true, true, true, true, true, true, false, false, false, false, false, false] rfl rfl (take_ofW HT_.out HW_.out (by kernel_rfl)) (fun _ _ _ h => h) (Or.inl ⟨by rfl, ?_⟩) hHeld ?_ ?_
  rotate_left
  · rintro w' ⟨s0, s1, s2, s3, s4, s5, s6, s7, s8, s9⟩
    go_simp
    with_reducible rfl
  rotate_left
  · simp only [Act.put, List.setIfInBounds_toArray, List.set_cons_zero, List.set_cons_succ, i64_w, i32_w]
    rfl
  refine take_ (i := 33) (N := some 106) (v := ?_) (a' := ?_) #[true, true, true, true, true, true, true, true, true, true, true, true, true, true, true, true, true, true, true, true, true, true, true, true, true, true, true, true, true, true, true, true, false, true, false, false, false, false] rfl rfl (take_ofW HT_.out HW_.out (by kernel_rfl)) (fun _ _ _ h => h) (Or.inl ⟨by rfl, ?_⟩) hHeld ?_ ?_
  rotate_left
  · rintro w' ⟨s0, s1, s2, s3, s4, s5, s6, s7, s8, s9⟩
    go_simp
    with_reducible rfl
  rotate_left
  · simp only [Act.put, List.setIfInBounds_toArray, List.set_cons_zero, List.set_cons_succ, i64_w, i32_w]
    rfl
  refine one_ (i := 32) (N := some 105) #[true, true, true, true, true, true, true, true, true, true, true, true, true, true, true, true, true, true, true, true, true, true, true, true, true, true, true, true, true, true, true, true, true, true, false, false, false, false] rfl rfl (one_of HT_.out (by kernel_rfl)) (by decide) (fun K hK => ?_)
  refine goes_ Try.func39 (by kernel_rfl) rfl #[.agg #[.slice Ao1 l0_0.length co1, .slice Ao2 l0_1.length co2]] (by rfl) rfl rfl (by (try simp only [List.map_toArray, List.map_cons, List.map_nil]); first | done | rfl | (simp only [List.length_drop, List.length_take]; rfl)) ?_
  have HLa := Aside0.mk (below_step HL11.out HDa.out)
  refine (hCheck.calls Ao1 co1 l0_0 Ao2 co2 l0_1 kc _ (Kd.C_below CO0.out.2 HLa.out) CO0.out.1 (Kd.C_below CO1.out.2 HLa.out) CO1.out.1 FC1.out).mono ?_
  rintro e wb' ⟨rfl, hbb⟩
  refine ⟨_, rfl, ?_⟩
  have HDb := Aside0.mk (below_step HDa.out hbb)
  clear hbb
  refine hK.out _ _ (by exact HSS.out _ HDb.out) (fun hHeld => ?_)
  clear hK K
  refine norm_ (a' := ?_) ?_ ?_
  rotate_left
  · show Act.put _ (some 105) _ = _
    simp only [Act.put, List.setIfInBounds_toArray, List.set_cons_zero, List.set_cons_succ, i64_w, i32_w]
    rfl
  refine one_ (i := 34) (N := some 107) #[true, true, true, true, true, true, true, true, true, true, true, true, true, true, true, true, true, true, true, true, true, true, true, true, true, true, true, true, true, true, true, true, true, true, true, false, false, false] rfl rfl (one_of HT_.out (by kernel_rfl)) (by decide) (fun K hK => ?_)
  refine goes_ Try.func40 (by kernel_rfl) rfl #[.agg #[.slice A0_0 l0_0.length c0_0, .slice A0_1 l0_1.length c0_1]] (by rfl) rfl rfl (by (try simp only [List.map_toArray, List.map_cons, List.map_nil]); first | done | rfl | (simp only [List.length_drop, List.length_take]; rfl)) ?_
  have HLb := Aside0.mk (below_step HL11.out HDb.out)
  refine (catamaranref05_Check.calls 1200 A0_0 c0_0 l0_0 A0_1 c0_1 l0_1 kc _ (Kd.C_below CD0.out HLb.out) HC0.out (Kd.C_below CD1.out HLb.out) HC1.out FC2.out).mono ?_
  rintro e wc ⟨rfl, hbc⟩
  refine ⟨_, rfl, ?_⟩
  have HDc := Aside0.mk (below_step HDb.out hbc)
  clear hbc
  refine hK.out _ _ (by exact HSS.out _ HDc.out) (fun hHeld => ?_)
  clear hK K
  refine norm_ (a' := ?_) ?_ ?_
  rotate_left
  · show Act.put _ (some 107) _ = _
    simp only [Act.put, List.setIfInBounds_toArray, List.set_cons_zero, List.set_cons_succ, i64_w, i32_w]
    rfl
  refine pure_ (i := 35) (N := some 108) (v := ?_) (a' := ?_) #[true, true, true, true, true, true, true, true, true, true, true, true, true, true, true, true, true, true, true, true, true, true, true, true, true, true, true, true, true, true, true, true, true, true, true, true, false, false] rfl rfl (any_of HT_.out (by kernel_rfl)) (fun _ _ _ h => h) (Or.inl ⟨by rfl, ?_⟩) ?_ ?_
  rotate_left
  · intro w'
    go_simp
    with_reducible rfl
  rotate_left
  · simp only [Act.put, List.setIfInBounds_toArray, List.set_cons_zero, List.set_cons_succ, i64_w, i32_w]
    rfl
  refine pure_ (i := 36) (N := some 109) (v := ?_) (a' := ?_) #[true, true, true, true, true, true, true, true, true, true, true, true, true, true, true, true, true, true, true, true, true, true, true, true, true, true, true, true, true, true, true, true, true, true, true, true, true, false] rfl rfl (any_of HT_.out (by kernel_rfl)) (fun _ _ _ h => h) (Or.inl ⟨by rfl, ?_⟩) ?_ ?_
  rotate_left
  · intro w'
    go_simp
    with_reducible rfl
  rotate_left
  · simp only [Act.put, List.setIfInBounds_toArray, List.set_cons_zero, List.set_cons_succ, i64_w, i32_w]
    rfl
  refine pure_ (i := 37) (N := some 21) (v := ?_) (a' := ?_) #[true, true, true, true, true, true, true, true, true, true, true, true, true, true, true, true, true, true, true, true, true, true, true, true, true, true, true, true, true, true, true, true, true, true, true, true, true, true] rfl rfl (any_of HT_.out (by kernel_rfl)) (fun _ _ _ h => h) (Or.inl ⟨by rfl, ?_⟩) ?_ ?_
  rotate_left
  · intro w'
    go_simp
    with_reducible rfl
  rotate_left
  · simp only [Act.put, List.setIfInBounds_toArray, List.set_cons_zero, List.set_cons_succ, i64_w, i32_w]
    rfl
  refine done_ (done_of HT_.out (by kernel_rfl)) ?_
  have HL12 := Aside0.mk (below_step HL11.out HDc.out)
  have HE12 := Aside0.mk (below_step HE9.out HDc.out)
  have HCC12 := Aside0.mk (Kd.R_below HCC9.out HDc.out)
  obtain ⟨s0, s1, _⟩ := HSS.out _ HDc.out
  have hz4 : w4.heap.size < wc.heap.size := blk_lt (blk_below HZ9.out HDc.out)
  clear hHeld HSS HT_ HW_ HD HDa HDb HLa HLb HX5a HX5b HX6a HX6b HX7a HX7b HX8a HX8b HX9a HX9b HY6a HY6b HY7a HY7b HY8a HY8b HY9a HY9b HY1 HY2
  obtain ⟨_, _, eA, hsr⟩ := SecRow.of_S HX1.out
  injection eA with e1 _ e3
  subst e1
  subst e3
  obtain ⟨_, _, eA, hpr⟩ := PendRow.of_S HX2.out
  injection eA with e1 _ e3
  subst e1
  subst e3
  obtain ⟨_, _, eA, hbr⟩ := ByteRow.of_R HCC12.out
  injection eA with e1 _ e3
  subst e1
  subst e3
  have HSR := Aside0.mk (SecRow.keep hsr (fun k _ _ hk => HE12.out.block k hk))
  have HPR := Aside0.mk (PendRow.keep hpr (fun k _ _ hk => HE12.out.block k hk))
  have HBR := Aside0.mk hbr
  have HLO := Aside0.mk (show W3.heap.size ≤ w4.heap.size from HL4.out.size)
  clear hsr hpr hbr
  go_wp2_with (go_at_call 41; go_loud (refine (hSpoil.calls Ax1 x0.length cx1 Ax2 x1.length cx2 W3.heap.size w4.heap.size wc HSR.out HPR.out (Nat.le_of_lt hz4) HLO.out).mono ?_; rintro e w13 ⟨rfl, hbt⟩; have HL13 := Aside0.mk (HL12.out.trans (hbt.below (below_size HL12.out))); have HBR13 := Aside0.mk (ByteRow.keep HBR.out (fun k h1 _ h3 => hbt.block k h3 (.inr h1))); clear hbt s0 s1))
  have HN := Aside0.mk (Kd.R_reads' HCC12.out).2.2.2.1
  clear HCC12
  go_loopw [22] (fun i wr => ∃ k : Nat, k ≤ rc.length ∧ i = .int .i64 k ∧ Aside0 (ByteRow wr w4.heap.size wc.heap.size Ac rc.length) ∧ Aside0 (Below W3.heap.size W3 wr)) (fun i _ => rc.length - (intOf i).toNat)
  case atStart => exact ⟨0, Nat.zero_le _, rfl, HBR13, HL13⟩
  case round =>
    clear HBR13 HL13
    obtain ⟨k, hk, rfl, HBW, HLW⟩ := hrel
    by_cases hlt : k < rc.length
    · have hm := HN.out
      obtain ⟨gb, cbs, rfl, hb1, hb2, hb3, hb4⟩ := HBW.out.2 (by omega)
      obtain ⟨x, hx⟩ := hb4 k hlt
      have hz3 : wr.cell? ⟨gb, k, none⟩ = some (.int .u8 x) := (blk_cell hb3 _).trans hx
      have hf3 := blk_frozen hb3 k
      have HBB := Aside0.mk hb3
      have hlo := HLO.out
      clear hb3 hb4 hx
      go_wp2_with fail
      go_roundw
      case rel => exact ⟨k + 1, by omega, by go_num, ⟨HBW.out.set HBB.out _⟩, ⟨below_set HLW.out (Nat.le_trans hlo hb1)⟩⟩
      case measure => simp [intOf]; omega
    · have hS2 : ∀ W : World, Below W3.heap.size W3 W → W.cell? ⟨g7, 0, none⟩ = some (.slice Ao1 l0_0.length co1) ∧ W.cell? ⟨g7, 1, none⟩ = some (.slice Ao2 l0_1.length co2) ∧ W.cell? ⟨w.heap.size, 0, none⟩ = some (.slice A0_0 l0_0.length c0_0) ∧ W.cell? ⟨w.heap.size, 1, none⟩ = some (.slice A0_1 l0_1.length c0_1) ∧ (convert 26 9 (.slice Am l2.length cm)).run Try.prog W = .ok (.string (strOfNums l2)) W ∧ (convert 26 9 (.slice A2 l2.length c2)).run Try.prog W = .ok (.string (strOfNums l2)) W := fun W hb => ⟨(blk_cell (blk_below HJ4.out hb) 0).trans rfl, (blk_cell (blk_below HJ4.out hb) 1).trans rfl, (blk_cell (blk_below HK4.out hb) 0).trans rfl, (blk_cell (blk_below HK4.out hb) 1).trans rfl, Kd.C_string (P := Try.prog) (A := Am) (c := cm) Try.underlying26 Try.underlying5 Try.underlying9 (Kd.C_below CM.out hb), Kd.C_string (P := Try.prog) (A := A2) (c := c2) Try.underlying26 Try.underlying5 Try.underlying9 (Kd.C_below CB.out hb)⟩
      have HS2 := Aside0.mk hS2
      clear hS2
      obtain ⟨s0, s1, s2, s3, s4, s5⟩ := HS2.out _ HLW.out
      go_wp2_with (go_at_call 38; refine (hSame.calls Ao1 co1 l0_0 Ao2 co2 l0_1 A0_0 c0_0 l0_0 A0_1 c0_1 l0_1 true wr (Kd.C_below CO0.out.2 HLW.out) CO0.out.1 (Kd.C_below CO1.out.2 HLW.out) CO1.out.1 (Kd.C_below CD0.out HLW.out) HC0.out (Kd.C_below CD1.out HLW.out) HC1.out (by unfold hSame.f; rw [dSame_refl])).mono ?_; rintro e we' ⟨rfl, hbe⟩; have HDe := Aside0.mk (below_step HLW.out hbe); clear hbe s0 s1 s2 s3 s4 s5; obtain ⟨s0, s1, s2, s3, s4, s5⟩ := HS2.out _ HDe.out)
      go_ret
      exact ⟨rfl, below_step HB4.out HDe.out⟩
end Go.Proofs.Ytjlohdbkjoofcaa.P
end
