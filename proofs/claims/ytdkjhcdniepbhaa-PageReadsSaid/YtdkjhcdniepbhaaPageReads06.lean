/- Part 6 of the proof: PageReads: for every config, disk and pair the program's marks of the pair, or its error, are the document's, the disk stays, and what is answered is new memory; no condition. -/
import Derived.Test.YtdkjhcdniepbhaaPageReads05
section
set_option linter.unusedVariables false
set_option linter.unusedSimpArgs false
namespace Go.Proofs.Ytdkjhcdniepbhaa.P
open Go.RowKit Go.Proofs.PrintWords Go.Proofs.PrintLast Go.Proofs.PrintMore
attribute [local go_sem] max2_int min2_int max_two min_two max_three min_three max_four min_four
mutual
def disk_Twin.l0 : Nat → List (S39) → Int → Int → List (S39) → List (S49) → List (S39) → Option ((List (S39)) × (List (S49)))
  | 0, _, _, _, _, _, _ => none
  | k + 1, x8, x9, x10, x1000, x1001, x1002 => if x10 < x9 then (if 0 ≤ x10 then (if x10 < (x8.length : Int) then ((hClone.f ((rd_T39 x8 x10).f0)).bind fun t1003 => (if x1002.length < 4398046511104 then (disk_Twin.l0 k x8 x9 (wrap64 (x10 + 1)) x1000 x1001 (x1002 ++ [(⟨t1003, (rd_T39 x8 x10).f1⟩ : S39)])) else (none))) else (none)) else (none)) else (disk_Twin.l1 k x1001 (x1001.length : Int) 0 x1002 ([] : List (S49)))
def disk_Twin.l1 : Nat → List (S49) → Int → Int → List (S39) → List (S49) → Option ((List (S39)) × (List (S49)))
  | 0, _, _, _, _, _ => none
  | k + 1, x26, x27, x28, x1002, x1004 => if x28 < x27 then (if 0 ≤ x28 then (if x28 < (x26.length : Int) then ((hClone.f ((rd_T49 x26 x28).f1)).bind fun t1005 => (if x1004.length < 4398046511104 then (disk_Twin.l1 k x26 x27 (wrap64 (x28 + 1)) x1002 (x1004 ++ [(⟨(rd_T49 x26 x28).f0, t1005⟩ : S49)])) else (none))) else (none)) else (none)) else (some (x1002, x1004))
end
def disk_Twin.f (k : Nat) (l0_0 : List (S39)) (l0_1 : List (S49)) : Option ((List (S39)) × (List (S49))) := disk_Twin.l0 k l0_0 (l0_0.length : Int) 0 l0_0 l0_1 ([] : List (S39))
theorem disk_Twin.mono_l : ∀ k, (∀ y0 y1 y2 y3 y4 y5, LeO (disk_Twin.l0 k y0 y1 y2 y3 y4 y5) (disk_Twin.l0 (k + 1) y0 y1 y2 y3 y4 y5)) ∧ (∀ y0 y1 y2 y3 y4, LeO (disk_Twin.l1 k y0 y1 y2 y3 y4) (disk_Twin.l1 (k + 1) y0 y1 y2 y3 y4))
  | 0 => ⟨fun _ _ _ _ _ _ r h => by simp [disk_Twin.l0] at h, fun _ _ _ _ _ r h => by simp [disk_Twin.l1] at h⟩
  | k + 1 => by
    obtain ⟨ih0, ih1⟩ := disk_Twin.mono_l k
    refine ⟨?_, ?_⟩
    · intro y0 y1 y2 y3 y4 y5
      unfold disk_Twin.l0
      repeat' first
      | (with_reducible exact ih0 _ _ _ _ _ _)
      | (with_reducible exact ih1 _ _ _ _ _)
      | (with_reducible exact LeO.refl _)
      | (with_reducible exact LeO.none _)
      | (with_reducible refine LeO.ite ?_ ?_)
      | (with_reducible refine LeO.bind ?_ (fun _ => ?_))
      | exact ih0 _ _ _ _ _ _
      | exact ih1 _ _ _ _ _
      | exact LeO.none _
      | refine LeO.ite ?_ ?_
      | refine LeO.bind ?_ (fun _ => ?_)
    · intro y0 y1 y2 y3 y4
      unfold disk_Twin.l1
      repeat' first
      | (with_reducible exact ih0 _ _ _ _ _ _)
      | (with_reducible exact ih1 _ _ _ _ _)
      | (with_reducible exact LeO.refl _)
      | (with_reducible exact LeO.none _)
      | (with_reducible refine LeO.ite ?_ ?_)
      | (with_reducible refine LeO.bind ?_ (fun _ => ?_))
      | exact ih0 _ _ _ _ _ _
      | exact ih1 _ _ _ _ _
      | exact LeO.none _
      | refine LeO.ite ?_ ?_
      | refine LeO.bind ?_ (fun _ => ?_)
theorem disk_Twin.mono : ∀ a0 a1 k, LeO (disk_Twin.f k a0 a1) (disk_Twin.f (k + 1) a0 a1) := by
  intro a0 a1 k
  obtain ⟨ih0, ih1⟩ := disk_Twin.mono_l k
  unfold disk_Twin.f
  repeat' first
      | (with_reducible exact ih0 _ _ _ _ _ _)
      | (with_reducible exact ih1 _ _ _ _ _)
      | (with_reducible exact LeO.refl _)
      | (with_reducible exact LeO.none _)
      | (with_reducible refine LeO.ite ?_ ?_)
      | (with_reducible refine LeO.bind ?_ (fun _ => ?_))
      | exact ih0 _ _ _ _ _ _
      | exact ih1 _ _ _ _ _
      | exact LeO.none _
      | refine LeO.ite ?_ ?_
      | refine LeO.bind ?_ (fun _ => ?_)
set_option maxHeartbeats 8000000 in
set_option maxRecDepth 100000 in
theorem disk_Twin.calls (k : Nat) (A0_0 : Option Addr) (c0_0 : Nat) (l0_0 : List (S39)) (A0_1 : Option Addr) (c0_1 : Nat) (l0_1 : List (S49)) (r1 : List (S39)) (r2 : List (S49)) (w : World) (hr0_0 : Kd.C k39 w A0_0 l0_0.length l0_0) (hc0_0 : l0_0.length ≤ c0_0) (hr0_1 : Kd.C k49 w A0_1 l0_1.length l0_1) (hc0_1 : l0_1.length ≤ c0_1) (h : disk_Twin.f k l0_0 l0_1 = some (r1, r2)) :
    Calls Try.prog 61 #[.agg #[.slice A0_0 l0_0.length c0_0, .slice A0_1 l0_1.length c0_1]] w fun e w' => ∃ v0_ v1_ : Value, e = .returned (.agg #[v0_, v1_]) ∧ Kd.S k39 39 w' w.heap.size (fun _ => True) v0_ r1 ∧ Kd.S k49 49 w' w.heap.size (fun _ => True) v1_ r2 ∧ Below w.heap.size w w' := by
  have hu25 := Try.underlying25
  have hu39 := Try.underlying39
  have hu49 := Try.underlying49
  have HR0_0 := Aside0.mk hr0_0
  have HC0_0 := Aside0.mk hc0_0
  clear hr0_0 hc0_0
  have HR0_1 := Aside0.mk hr0_1
  have HC0_1 := Aside0.mk hc0_1
  clear hr0_1 hc0_1
  have HB := Aside0.mk (Below.refl w.heap.size w)
  have H : (disk_Twin.l0 k l0_0 (l0_0.length : Int) 0 l0_0 l0_1 ([] : List (S39))) = some (r1, r2) := h
  clear h
  have H' := Aside0.mk H
  clear H
  go_enter Try.func61, Try.ntmps61
  go_wp2_with (first | ((with_reducible refine gate_dst (N := 1) rfl ?_); refine box_event ?hg (N := 1) ?hd (cs := #[.slice A0_0 l0_0.length c0_0, .slice A0_1 l0_1.length c0_1]) (t := 25) ?hr ?_; (case hd => rfl); (case hg => rfl); (case hr => first | (go_simp; done) | (go_simp; rfl)); intro gb1006 hg w2 hbox hb; have n0_ := Aside0.mk (below_step (by repeat (first | (with_reducible first | exact HB.out | apply below_alloc | apply pbdN | apply bdr1) | exact HB.out)) hb); have n1_ := Aside0.mk (hbox); have n2_ := Aside0.mk ((by rw [hg]; exact (below_size (by repeat (first | (with_reducible first | exact HB.out | apply below_alloc | apply pbdN | apply bdr1) | exact HB.out))) : w.heap.size ≤ gb1006)); have n3_ := Aside0.mk ((by rw [hg]; exact (below_size (by repeat (first | (with_reducible first | exact HB.out | apply below_alloc | apply pbdN | apply bdr1) | exact HB.out))) : w.heap.size ≤ gb1006)); clear HB; have HB := n0_; have BK1006 := n1_; have GW1006 := n2_; have GE1006 := n3_; clear n0_ n1_ n2_ n3_; clear hb hbox hg) | ((with_reducible refine gate_dst (N := 2) rfl ?_); refine box_event ?hg (N := 2) ?hd (cs := #[.slice none 0 0, .slice none 0 0]) (t := 25) ?hr ?_; (case hd => rfl); (case hg => rfl); (case hr => first | (go_simp; done) | (go_simp; rfl)); intro gb1007 hg w3 hbox hb; have n0_ := Aside0.mk (blk_below (g := gb1006) (o := .cells #[.slice A0_0 l0_0.length c0_0, .slice A0_1 l0_1.length c0_1] 25 (0, 0)) (by (with_reducible repeat (first | refine blk_drewN ?_ _ | refine blk_drew ?_ | refine blk_alloc ?_ _)); exact BK1006.out) hb); have n1_ := Aside0.mk (below_step (by repeat (first | (with_reducible first | exact HB.out | apply below_alloc | apply pbdN | apply bdr1 | refine below_set ?_ GE1006.out) | exact HB.out)) hb); have n2_ := Aside0.mk (hbox); have n3_ := Aside0.mk ((by rw [hg]; exact (below_size (by repeat (first | (with_reducible first | exact HB.out | apply below_alloc | apply pbdN | apply bdr1 | refine below_set ?_ GE1006.out) | exact HB.out))) : w.heap.size ≤ gb1007)); have n4_ := Aside0.mk ((by rw [hg]; exact (below_size (by repeat (first | (with_reducible first | exact HB.out | apply below_alloc | apply pbdN | apply bdr1 | refine below_set ?_ GE1006.out) | exact HB.out))) : w.heap.size ≤ gb1007)); have n5_ := Aside0.mk ((by rw [hg]; exact Nat.ne_of_lt (blk_lt (g := gb1006) (o := .cells #[.slice A0_0 l0_0.length c0_0, .slice A0_1 l0_1.length c0_1] 25 (0, 0)) (by (with_reducible repeat (first | refine blk_drewN ?_ _ | refine blk_drew ?_ | refine blk_alloc ?_ _)); exact BK1006.out)) : gb1006 ≠ gb1007)); have n6_ := Aside0.mk ((by rw [hg]; exact Nat.ne_of_gt (blk_lt (g := gb1006) (o := .cells #[.slice A0_0 l0_0.length c0_0, .slice A0_1 l0_1.length c0_1] 25 (0, 0)) (by (with_reducible repeat (first | refine blk_drewN ?_ _ | refine blk_drew ?_ | refine blk_alloc ?_ _)); exact BK1006.out)) : gb1007 ≠ gb1006)); clear BK1006; clear HB; have BK1006 := n0_; have HB := n1_; have BK1007 := n2_; have GW1007 := n3_; have GE1007 := n4_; have NB1006_107 := n5_; have NB1007_106 := n6_; clear n0_ n1_ n2_ n3_ n4_ n5_ n6_; clear hb hbox hg; have hnb4 := NB1006_107.out; have hnc4 := NB1007_106.out; have hcz5_0 : w3.cell? ⟨gb1006, 0, none⟩ = some (.slice A0_0 l0_0.length c0_0) := (blk_cell BK1006.out 0).trans rfl; have hcz5_1 : w3.cell? ⟨gb1006, 1, none⟩ = some (.slice A0_1 l0_1.length c0_1) := (blk_cell BK1006.out 1).trans rfl; have hfz5_0 := blk_frozen BK1006.out 0; have hfz5_1 := blk_frozen BK1006.out 1))
  go_loopg [10] k (fun kq v10 w' => ∃ (x10_1 : Int) (x1002_1 : List (S39)) (u108000 : Value), v10 = .int .i64 x10_1 ∧ Aside0 (disk_Twin.l0 kq l0_0 (l0_0.length : Int) x10_1 l0_0 l0_1 x1002_1 = some (r1, r2)) ∧ Aside0 (kq ≤ k) ∧ Aside0 (Kd.S k39 39 w' w.heap.size (fun _ => True) u108000 x1002_1) ∧ Aside0 (w'.heap[gb1006]? = some (.cells #[(.slice A0_0 l0_0.length c0_0), (.slice A0_1 l0_1.length c0_1)] 25 (0, 0))) ∧ Aside0 (w'.heap[gb1007]? = some (.cells #[u108000, (.slice none 0 0)] 25 (0, 0))) ∧ Aside0 (Below w.heap.size w w'))
  case atStart => exact ⟨(0), (([] : List (S39))), (.slice none 0 0), (by first | rfl | (simp; done) | (simp [*]; done)), H', ⟨Nat.le_refl _⟩, ⟨by first | exact Kd.S_nil _ _ _ _ _ | exact Kd.N_nil _ _ _ _ _ | exact Kd.V_nil _ _ _ _ _ | exact Kd.Q_nil _ _ _ _ _ | exact Kd.R_nil _ _ _ _ _⟩, ⟨by (with_reducible repeat (first | refine blk_drewN ?_ _ | refine blk_drew ?_ | refine blk_alloc ?_ _)); exact BK1006.out⟩, ⟨by (with_reducible repeat (first | refine blk_drewN ?_ _ | refine blk_drew ?_ | refine blk_alloc ?_ _)); exact BK1007.out⟩, ⟨by repeat (first | (with_reducible first | exact HB.out | apply below_alloc | apply pbdN | apply bdr1 | refine below_set ?_ GE1006.out | refine below_set ?_ GE1007.out) | exact HB.out)⟩⟩
  case round =>
    clear H'
    try clear p2
    try clear c4
    try clear hcz5_0
    try clear hcz5_1
    try clear hfz5_0
    try clear hfz5_1
    obtain ⟨x10_1, x1002_1, u108000, rfl, HA, HK1, HO_1002, BK1006, BK1007, HB⟩ := hrel
    cases gk with
    | zero => exact absurd HA.out (by simp [disk_Twin.l0])
    | succ k1 =>
      have H := HA.out
      clear HA
      simp only [disk_Twin.l0] at H
      by_cases c6 : x10_1 < (l0_0.length : Int)
      · rw [if_pos c6] at H
        have c6b0 : decide (x10_1 < (l0_0.length : Int)) = true := decide_eq_true c6
        clear c6
        by_cases c7 : 0 ≤ x10_1
        · rw [if_pos c7] at H
          have c7b0 : decide (0 ≤ x10_1) = true := decide_eq_true c7
          clear c7
          by_cases c8 : x10_1 < (l0_0.length : Int)
          · rw [if_pos c8] at H
            have c8b0 : decide (x10_1 < (l0_0.length : Int)) = true := decide_eq_true c8
            clear c8
            replace H := Option.bind_eq_some_iff.mp H
            obtain ⟨t1003, A90, H⟩ := H
            replace H : (if x1002_1.length < 4398046511104 then (disk_Twin.l0 k1 l0_0 (l0_0.length : Int) (wrap64 (x10_1 + 1)) l0_0 l0_1 (x1002_1 ++ [(⟨t1003, (rd_T39 l0_0 x10_1).f1⟩ : S39)])) else (none)) = some (r1, r2) := H
            have A9 := Aside0.mk A90
            clear A90
            by_cases c10 : x1002_1.length < 4398046511104
            · rw [if_pos c10] at H
              have LMc10 := Aside0.mk c10
              clear c10
              obtain ⟨y1008, hy1008⟩ : ∃ y_ : List (S39), y_ = (x1002_1 ++ [(⟨t1003, (rd_T39 l0_0 x10_1).f1⟩ : S39)]) := ⟨_, rfl⟩
              replace H : (disk_Twin.l0 k1 l0_0 (l0_0.length : Int) (wrap64 (x10_1 + 1)) l0_0 l0_1 y1008) = some (r1, r2) := by first | (rw [hy1008]; with_reducible exact H) | (have H2_ := (Option.bind_some _ _).symm.trans H; rw [hy1008]; with_reducible exact H2_) | (have H2_ := (Option.bind_some _ _).symm.trans H; with_reducible exact H2_) | with_reducible exact H | (rw [hy1008]; exact H) | exact H
              have Ny1008 := Aside0.mk hy1008
              clear hy1008
              have H' := Aside0.mk H
              clear H
              have p1009 : 0 ≤ (x10_1 : Int) := of_decide_eq_true (by first | (with_reducible assumption) | assumption)
              have q1009 : x10_1 < (l0_0.length : Int) := of_decide_eq_true (by first | (with_reducible assumption) | assumption)
              obtain ⟨ad1009, A1009_0, c1009_0, e1009, hx1009_0, hx1009_1, hl1009_0, hi1009_0⟩ := at_T39 HR0_0.out x10_1 p1009 q1009
              cases e1009
              replace hx1009_0 := (HB.out.cell (World.block_lt_of_cell? w _ hx1009_0)).trans hx1009_0
              replace hx1009_1 := (HB.out.cell (World.block_lt_of_cell? w _ hx1009_1)).trans hx1009_1
              have HR1009_0 := Aside0.mk hi1009_0
              have HC1009_0 := Aside0.mk hl1009_0
              clear hi1009_0 hl1009_0
              replace p1009 := eq_true p1009
              replace q1009 := eq_true q1009
              go_wp2_with (first | ((with_reducible refine gate_dst (N := 4) rfl ?_); refine box_event ?hg (N := 4) ?hd (cs := #[.slice none 0 0, .bool false]) (t := 39) ?hr ?_; (case hd => rfl); (case hg => rfl); (case hr => first | (go_simp; done) | (go_simp; rfl)); intro gb1010 hg w11 hbox hb; have n0_ := Aside0.mk (Kd.S_below (Kd.S_elderB (by (with_reducible repeat (first | apply Kd.S_alloc | apply Kd.S_drewN | apply Kd.S_drew)); exact HO_1002.out) gb1010 (Nat.le_of_eq hg.symm)) hb); have n1_ := Aside0.mk (blk_below (g := gb1006) (o := .cells #[.slice (some ad1009) l0_0.length c0_0, .slice A0_1 l0_1.length c0_1] 25 (0, 0)) (by (with_reducible repeat (first | refine blk_drewN ?_ _ | refine blk_drew ?_ | refine blk_alloc ?_ _)); exact BK1006.out) hb); have n2_ := Aside0.mk (blk_below (g := gb1007) (o := .cells #[u108000, .slice none 0 0] 25 (0, 0)) (by (with_reducible repeat (first | refine blk_drewN ?_ _ | refine blk_drew ?_ | refine blk_alloc ?_ _)); exact BK1007.out) hb); have n3_ := Aside0.mk (below_step (by repeat (first | (with_reducible first | exact HB.out | apply below_alloc | apply pbdN | apply bdr1 | refine below_set ?_ GE1006.out | refine below_set ?_ GE1007.out) | exact HB.out)) hb); have n4_ := Aside0.mk (hbox); have n5_ := Aside0.mk ((by rw [hg]; exact (below_size (by repeat (first | (with_reducible first | exact HB.out | apply below_alloc | apply pbdN | apply bdr1 | refine below_set ?_ GE1006.out | refine below_set ?_ GE1007.out) | exact HB.out))) : w.heap.size ≤ gb1010)); have n6_ := Aside0.mk ((by rw [hg]; exact (below_size (by repeat (first | (with_reducible first | exact HB.out | apply below_alloc | apply pbdN | apply bdr1 | refine below_set ?_ GE1006.out | refine below_set ?_ GE1007.out) | exact HB.out))) : w.heap.size ≤ gb1010)); have n7_ := Aside0.mk ((by rw [hg]; exact Nat.ne_of_lt (blk_lt (g := gb1006) (o := .cells #[.slice (some ad1009) l0_0.length c0_0, .slice A0_1 l0_1.length c0_1] 25 (0, 0)) (by (with_reducible repeat (first | refine blk_drewN ?_ _ | refine blk_drew ?_ | refine blk_alloc ?_ _)); exact BK1006.out)) : gb1006 ≠ gb1010)); have n8_ := Aside0.mk ((by rw [hg]; exact Nat.ne_of_gt (blk_lt (g := gb1006) (o := .cells #[.slice (some ad1009) l0_0.length c0_0, .slice A0_1 l0_1.length c0_1] 25 (0, 0)) (by (with_reducible repeat (first | refine blk_drewN ?_ _ | refine blk_drew ?_ | refine blk_alloc ?_ _)); exact BK1006.out)) : gb1010 ≠ gb1006)); have n9_ := Aside0.mk ((by rw [hg]; exact Nat.ne_of_lt (blk_lt (g := gb1007) (o := .cells #[u108000, .slice none 0 0] 25 (0, 0)) (by (with_reducible repeat (first | refine blk_drewN ?_ _ | refine blk_drew ?_ | refine blk_alloc ?_ _)); exact BK1007.out)) : gb1007 ≠ gb1010)); have n10_ := Aside0.mk ((by rw [hg]; exact Nat.ne_of_gt (blk_lt (g := gb1007) (o := .cells #[u108000, .slice none 0 0] 25 (0, 0)) (by (with_reducible repeat (first | refine blk_drewN ?_ _ | refine blk_drew ?_ | refine blk_alloc ?_ _)); exact BK1007.out)) : gb1010 ≠ gb1007)); clear HO_1002; clear BK1006; clear BK1007; clear HB; have HO_1002 := n0_; have BK1006 := n1_; have BK1007 := n2_; have HB := n3_; have BK1010 := n4_; have GW1010 := n5_; have GE1010 := n6_; have NB1006_109 := n7_; have NB1010_106 := n8_; have NB1007_109 := n9_; have NB1010_107 := n10_; clear n0_ n1_ n2_ n3_ n4_ n5_ n6_ n7_ n8_ n9_ n10_; clear hb hbox hg; have hnb12 := NB1010_106.out; have hnc12 := NB1006_109.out; have hnb13 := NB1010_107.out; have hnc13 := NB1007_109.out; have hcz14_0 : w11.cell? ⟨gb1010, 0, none⟩ = some (.slice none 0 0) := (blk_cell BK1010.out 0).trans rfl; have hcz14_1 : w11.cell? ⟨gb1010, 1, none⟩ = some (.bool false) := (blk_cell BK1010.out 1).trans rfl; have hfz14_0 := blk_frozen BK1010.out 0; have hfz14_1 := blk_frozen BK1010.out 1) | ((with_reducible refine gate_callee (f := 59) rfl ?_); refine goesL_ (some 16) rfl rfl Try.func59 (by kernel_rfl) rfl #[.slice A1009_0 ((rd_T39 l0_0 x10_1).f0).length c1009_0] rfl (by (try simp only [List.map_toArray, List.map_cons, List.map_nil]); first | done | rfl | (simp only [List.length_drop, List.length_take]; rfl)) ?_; (with_reducible refine (hClone.calls _ _ ((rd_T39 l0_0 x10_1).f0) t1003 _ ?side1 ?side2 A9.out).mono ?_); (case side1 => exact Kd.C_below HR1009_0.out (by repeat (first | (with_reducible first | exact HB.out | apply below_alloc | apply pbdN | apply bdr1 | refine below_set ?_ GE1006.out | refine below_set ?_ GE1007.out | refine below_set ?_ GE1010.out) | exact HB.out))); (case side2 => exact HC1009_0.out); rintro e w15 ⟨v1011, rfl, ho0, hb⟩; refine ⟨_, rfl, ?_⟩; have n0_ := Aside0.mk (Kd.S_elder' (by (with_reducible repeat (first | apply Kd.S_alloc | apply Kd.S_drewN | apply Kd.S_drew)); exact (Kd.S_mono (Kd.S_far (p := ⟨gb1010, 1, none⟩) (Kd.S_far (p := ⟨gb1010, 0, none⟩) (Kd.S_mono HO_1002.out (fun k_ hk => (⟨hk, hk.2⟩ : _ ∧ k_ ≠ gb1010))) (fun _ hk => hk.2) (.slice A1009_0 ((rd_T39 l0_0 x10_1).f0).length c1009_0)) (fun _ hk => hk.2) (.bool ((rd_T39 l0_0 x10_1).f1))) (fun _ h_ => h_.1))) (Kd.R_base ho0) hb); have n1_ := Aside0.mk (Kd.R_lower ho0 (below_size (by repeat (first | (with_reducible first | exact HB.out | apply below_alloc | apply pbdN | apply bdr1 | refine below_set ?_ GE1006.out | refine below_set ?_ GE1007.out | refine below_set ?_ GE1010.out) | exact HB.out)))); have n2_ := Aside0.mk (blk_below (g := gb1006) (o := .cells #[.slice (some ad1009) l0_0.length c0_0, .slice A0_1 l0_1.length c0_1] 25 (0, 0)) (by (with_reducible repeat (first | refine blk_drewN ?_ _ | refine blk_drew ?_ | refine blk_alloc ?_ _)); refine blk_far ?_ NB1006_109.out _; (with_reducible repeat (first | refine blk_drewN ?_ _ | refine blk_drew ?_ | refine blk_alloc ?_ _)); refine blk_far ?_ NB1006_109.out _; (with_reducible repeat (first | refine blk_drewN ?_ _ | refine blk_drew ?_ | refine blk_alloc ?_ _)); exact BK1006.out) hb); have n3_ := Aside0.mk (blk_below (g := gb1007) (o := .cells #[u108000, .slice none 0 0] 25 (0, 0)) (by (with_reducible repeat (first | refine blk_drewN ?_ _ | refine blk_drew ?_ | refine blk_alloc ?_ _)); refine blk_far ?_ NB1007_109.out _; (with_reducible repeat (first | refine blk_drewN ?_ _ | refine blk_drew ?_ | refine blk_alloc ?_ _)); refine blk_far ?_ NB1007_109.out _; (with_reducible repeat (first | refine blk_drewN ?_ _ | refine blk_drew ?_ | refine blk_alloc ?_ _)); exact BK1007.out) hb); have n4_ := Aside0.mk (blk_below (g := gb1010) (o := .cells #[.slice A1009_0 ((rd_T39 l0_0 x10_1).f0).length c1009_0, .bool ((rd_T39 l0_0 x10_1).f1)] 39 (0, 0)) (by (with_reducible repeat (first | refine blk_drewN ?_ _ | refine blk_drew ?_ | refine blk_alloc ?_ _)); refine blk_put (cs := #[.slice A1009_0 ((rd_T39 l0_0 x10_1).f0).length c1009_0, .bool false]) ?_ 1 _ rfl; (with_reducible repeat (first | refine blk_drewN ?_ _ | refine blk_drew ?_ | refine blk_alloc ?_ _)); refine blk_put (cs := #[.slice none 0 0, .bool false]) ?_ 0 _ rfl; (with_reducible repeat (first | refine blk_drewN ?_ _ | refine blk_drew ?_ | refine blk_alloc ?_ _)); exact BK1010.out) hb); have n5_ := Aside0.mk (below_step (by repeat (first | (with_reducible first | exact HB.out | apply below_alloc | apply pbdN | apply bdr1 | refine below_set ?_ GE1006.out | refine below_set ?_ GE1007.out | refine below_set ?_ GE1010.out) | exact HB.out)) hb); clear HO_1002; clear BK1006; clear BK1007; clear BK1010; clear HB; have HO_1002 := n0_; have HO1012 := n1_; have BK1006 := n2_; have BK1007 := n3_; have BK1010 := n4_; have HB := n5_; clear n0_ n1_ n2_ n3_ n4_ n5_; (try clear hb); (try clear hb2); (try clear hk); (try clear hi); (try clear ho0); obtain ⟨Ao16, co16, eo16⟩ := Kd.R_slice HO1012.out; subst eo16; have hcz17_0 : w15.cell? ⟨gb1010, 0, none⟩ = some (.slice A1009_0 ((rd_T39 l0_0 x10_1).f0).length c1009_0) := (blk_cell BK1010.out 0).trans rfl; have hcz17_1 : w15.cell? ⟨gb1010, 1, none⟩ = some (.bool ((rd_T39 l0_0 x10_1).f1)) := (blk_cell BK1010.out 1).trans rfl; have hfz17_0 := blk_frozen BK1010.out 0; have hfz17_1 := blk_frozen BK1010.out 1) | ((with_reducible refine gate_store (t := 31) (p := 17) rfl ?_); refine store_event (t := 31) (p := 17) (v := ?vo_w18) (w1 := (w15.setCell ⟨gb1010, 0, none⟩ (.slice Ao16 t1003.length co16))) ?hg ?ho ?hn ?hr ?_; (case ho => rfl); (case hg => rfl); (case hn => rfl); (case hr => first | (go_simp; done) | (go_simp; rfl)); intro w18 hw; have n0_ : Aside0 (Kd.S k39 39 w18 w.heap.size (fun k_ => some k_ ≠ (.slice Ao16 t1003.length co16 : Value).ownBlock ∧ k_ ≠ gb1010) u108000 x1002_1) := ⟨(by rw [hw]; exact (by (with_reducible repeat (first | apply Kd.S_alloc | apply Kd.S_drewN | apply Kd.S_drew)); exact Kd.S_mono (Kd.S_far (p := ⟨gb1010, 0, none⟩) (Kd.S_mono HO_1002.out (fun k_ hk => (⟨hk, hk.1.2⟩ : _ ∧ k_ ≠ gb1010))) (fun _ hk => hk.2) (.slice Ao16 t1003.length co16)) (fun _ hk => ⟨hk.1.2, hk.1.1.2⟩)))⟩; have n1_ : Aside0 (Kd.R (Kd.int .u8) 5 w18 w.heap.size (fun _ => True) (.slice Ao16 t1003.length co16) t1003) := ⟨(by rw [hw]; exact (by (with_reducible repeat (first | apply Kd.R_alloc | apply Kd.R_drewN | apply Kd.R_drew)); exact Kd.R_mono (Kd.R_far (p := ⟨gb1010, 0, none⟩) (Kd.R_types HO1012.out BK1010.out (by decide)) (fun _ hk => hk.2) (.slice Ao16 t1003.length co16)) (fun _ hk => trivial)))⟩; have n2_ : Aside0 (w18.heap[gb1006]? = some (.cells #[.slice (some ad1009) l0_0.length c0_0, .slice A0_1 l0_1.length c0_1] 25 (0, 0))) := ⟨(by rw [hw]; exact (by (with_reducible repeat (first | refine blk_drewN ?_ _ | refine blk_drew ?_ | refine blk_alloc ?_ _)); refine blk_far ?_ NB1006_109.out _; (with_reducible repeat (first | refine blk_drewN ?_ _ | refine blk_drew ?_ | refine blk_alloc ?_ _)); exact BK1006.out))⟩; have n3_ : Aside0 (w18.heap[gb1007]? = some (.cells #[u108000, .slice none 0 0] 25 (0, 0))) := ⟨(by rw [hw]; exact (by (with_reducible repeat (first | refine blk_drewN ?_ _ | refine blk_drew ?_ | refine blk_alloc ?_ _)); refine blk_far ?_ NB1007_109.out _; (with_reducible repeat (first | refine blk_drewN ?_ _ | refine blk_drew ?_ | refine blk_alloc ?_ _)); exact BK1007.out))⟩; have n4_ : Aside0 (w18.heap[gb1010]? = some (.cells #[.slice Ao16 t1003.length co16, .bool ((rd_T39 l0_0 x10_1).f1)] 39 (0, 0))) := ⟨(by rw [hw]; exact (by (with_reducible repeat (first | refine blk_drewN ?_ _ | refine blk_drew ?_ | refine blk_alloc ?_ _)); refine blk_put (cs := #[.slice A1009_0 ((rd_T39 l0_0 x10_1).f0).length c1009_0, .bool ((rd_T39 l0_0 x10_1).f1)]) ?_ 0 _ rfl; (with_reducible repeat (first | refine blk_drewN ?_ _ | refine blk_drew ?_ | refine blk_alloc ?_ _)); exact BK1010.out))⟩; have n5_ : Aside0 (Below w.heap.size w w18) := ⟨(by rw [hw]; exact (by repeat (first | (with_reducible first | exact HB.out | apply below_alloc | apply pbdN | apply bdr1 | refine below_set ?_ GE1006.out | refine below_set ?_ GE1007.out | refine below_set ?_ GE1010.out) | exact HB.out)))⟩; clear hw; clear HO_1002; clear HO1012; clear BK1006; clear BK1007; clear BK1010; clear HB; have HO_1002 := n0_; have HO1012 := n1_; have BK1006 := n2_; have BK1007 := n3_; have BK1010 := n4_; have HB := n5_; clear n0_ n1_ n2_ n3_ n4_ n5_; have hnb19 := NB1007_106.out; have hnc19 := NB1006_107.out; have hcz20_0 : w18.cell? ⟨gb1007, 0, none⟩ = some (u108000) := (blk_cell BK1007.out 0).trans rfl; have hcz20_1 : w18.cell? ⟨gb1007, 1, none⟩ = some (.slice none 0 0) := (blk_cell BK1007.out 1).trans rfl; have hfz20_0 := blk_frozen BK1007.out 0; have hfz20_1 := blk_frozen BK1007.out 1; have hcz21_0 : w18.cell? ⟨gb1010, 0, none⟩ = some (.slice Ao16 t1003.length co16) := (blk_cell BK1010.out 0).trans rfl; have hcz21_1 : w18.cell? ⟨gb1010, 1, none⟩ = some (.bool ((rd_T39 l0_0 x10_1).f1)) := (blk_cell BK1010.out 1).trans rfl; have hfz21_0 := blk_frozen BK1010.out 0; have hfz21_1 := blk_frozen BK1010.out 1) | ((with_reducible refine gate_builtin (b := .append) (xs := #[.tmp 19, .tmp 21]) rfl ?_); at_builtin; refine Kd.S_append k39 (w0 := w) w.heap.size rfl (.tmp 19) (.tmp 21) 22 39 (.agg #[(.slice none 0 0), (.bool false)]) 32 rfl Try.underlying22 info39 rfl (by decide) (by omega) u108000 x1002_1 (⟨t1003, (rd_T39 l0_0 x10_1).f1⟩ : S39) [.slice Ao16 t1003.length co16, .bool ((rd_T39 l0_0 x10_1).f1)] (fun k_ => k_ ≠ gb1010) (fun k_ => some k_ = (.slice Ao16 t1003.length co16 : Value).ownBlock) rfl rfl ?aP (fun k_ hk_ => ((Kd.R_mono (ok' := fun k_ => ((fun k_ => k_ ≠ gb1010)) k_ ∧ some k_ ≠ (u108000 : Value).ownBlock) (Kd.R_types (Kd.R_apart' (HO1012.out) (Kd.S_typed HO_1002.out) (by decide)) BK1010.out (by decide)) (fun k_ hk => ⟨hk.2, hk.1.2⟩))).1 k_ hk_.symm) ?aF ?aO ?aB ?aS ?aL ?_; (case aP => exact k39_mkM _ _ _ (⟨t1003, (rd_T39 l0_0 x10_1).f1⟩ : S39) (Kd.R_mono (Kd.R_tight rfl (Kd.R_mono (ok' := fun k_ => ((fun k_ => k_ ≠ gb1010)) k_ ∧ some k_ ≠ (u108000 : Value).ownBlock) (Kd.R_types (Kd.R_apart' (HO1012.out) (Kd.S_typed HO_1002.out) (by decide)) BK1010.out (by decide)) (fun k_ hk => ⟨hk.2, hk.1.2⟩))) (fun _ h_ => h_))); (case aB => exact (by repeat (first | (with_reducible first | exact HB.out | apply below_alloc | apply pbdN | apply bdr1 | refine below_set ?_ GE1006.out | refine below_set ?_ GE1007.out | refine below_set ?_ GE1010.out) | exact HB.out))); (case aF => exact (fun k_ hk => Kd.freshB (g := gb1010) (o := .cells #[.slice Ao16 t1003.length co16, .bool ((rd_T39 l0_0 x10_1).f1)] 39 (0, 0)) (by (with_reducible repeat (first | refine blk_drewN ?_ _ | refine blk_drew ?_ | refine blk_alloc ?_ _)); exact BK1010.out) k_ hk)); (case aO => exact (by (with_reducible repeat (first | apply Kd.S_alloc | apply Kd.S_drewN | apply Kd.S_drew)); exact Kd.S_mono HO_1002.out (fun k_ hk => ⟨hk.2, fun e_ => hk.1 e_⟩))); (case aS => exact (below_size (by repeat (first | (with_reducible first | exact HB.out | apply below_alloc | apply pbdN | apply bdr1 | refine below_set ?_ GE1006.out | refine below_set ?_ GE1007.out | refine below_set ?_ GE1010.out) | exact HB.out)))); (case aL => have := LMc10.out; omega); intro v1013 w22 ho hb hg hat; (first | (simp only [Int.reduceToNat] at ho; rw [← Ny1008.out] at ho) | rw [← Ny1008.out] at ho); have n0_ := Aside0.mk (blk_grown (g := gb1006) (o := .cells #[.slice (some ad1009) l0_0.length c0_0, .slice A0_1 l0_1.length c0_1] 25 (0, 0)) (by (with_reducible repeat (first | refine blk_drewN ?_ _ | refine blk_drew ?_ | refine blk_alloc ?_ _)); exact BK1006.out) hg (Kd.S_ne HO_1002.out BK1006.out (by decide))); have n1_ := Aside0.mk (blk_grown (g := gb1007) (o := .cells #[u108000, .slice none 0 0] 25 (0, 0)) (by (with_reducible repeat (first | refine blk_drewN ?_ _ | refine blk_drew ?_ | refine blk_alloc ?_ _)); exact BK1007.out) hg (Kd.S_ne HO_1002.out BK1007.out (by decide))); have n2_ := Aside0.mk (blk_grown (g := gb1010) (o := .cells #[.slice Ao16 t1003.length co16, .bool ((rd_T39 l0_0 x10_1).f1)] 39 (0, 0)) (by (with_reducible repeat (first | refine blk_drewN ?_ _ | refine blk_drew ?_ | refine blk_alloc ?_ _)); exact BK1010.out) hg (Kd.S_away HO_1002.out (fun _ hk => hk.2))); have n3_ := Aside0.mk (hb); have n4_ := Aside0.mk (ho); clear BK1006; clear BK1007; clear BK1010; clear HB; clear HO_1002; clear HO1012; have BK1006 := n0_; have BK1007 := n1_; have BK1010 := n2_; have HB := n3_; have HO1014 := n4_; clear n0_ n1_ n2_ n3_ n4_; clear ho hb hg hat; obtain ⟨Ao23, co23, eo23⟩ := Kd.S_slice HO1014.out; subst eo23; have hcz24_0 : w22.cell? ⟨gb1007, 0, none⟩ = some (u108000) := (blk_cell BK1007.out 0).trans rfl; have hcz24_1 : w22.cell? ⟨gb1007, 1, none⟩ = some (.slice none 0 0) := (blk_cell BK1007.out 1).trans rfl; have hfz24_0 := blk_frozen BK1007.out 0; have hfz24_1 := blk_frozen BK1007.out 1))
              go_roundg k1
              case measure => have := HK1.out; omega
              case rel => exact ⟨(wrap64 (x10_1 + 1)), (y1008), (.slice Ao23 y1008.length co23), (by first | rfl | (simp; done) | (simp [*]; done)), H', ⟨by have := HK1.out; omega⟩, ⟨by (with_reducible repeat (first | apply Kd.S_alloc | apply Kd.S_drewN | apply Kd.S_drew)); exact Kd.S_mono (Kd.S_far (p := ⟨gb1007, 0, none⟩) (Kd.S_types HO1014.out BK1007.out (by decide)) (fun _ hk => hk.2) (.slice Ao23 y1008.length co23)) (fun _ hk => trivial)⟩, ⟨by (with_reducible repeat (first | refine blk_drewN ?_ _ | refine blk_drew ?_ | refine blk_alloc ?_ _)); refine blk_far ?_ NB1006_107.out _; (with_reducible repeat (first | refine blk_drewN ?_ _ | refine blk_drew ?_ | refine blk_alloc ?_ _)); exact BK1006.out⟩, ⟨by (with_reducible repeat (first | refine blk_drewN ?_ _ | refine blk_drew ?_ | refine blk_alloc ?_ _)); refine blk_put (cs := #[u108000, .slice none 0 0]) ?_ 0 _ rfl; (with_reducible repeat (first | refine blk_drewN ?_ _ | refine blk_drew ?_ | refine blk_alloc ?_ _)); exact BK1007.out⟩, ⟨by repeat (first | (with_reducible first | exact HB.out | apply below_alloc | apply pbdN | apply bdr1 | refine below_set ?_ GE1006.out | refine below_set ?_ GE1007.out | refine below_set ?_ GE1010.out) | exact HB.out)⟩⟩
            · rw [if_neg c10] at H
              exact absurd H (by simp)
          · rw [if_neg c8] at H
            exact absurd H (by simp)
        · rw [if_neg c7] at H
          exact absurd H (by simp)
      · rw [if_neg c6] at H
        have c6b0 : decide (x10_1 < (l0_0.length : Int)) = false := decide_eq_false c6
        clear c6
        have H' := Aside0.mk H
        clear H
        have hnb25 := NB1006_107.out
        have hnc25 := NB1007_106.out
        have hcz26_0 : wr.cell? ⟨gb1006, 0, none⟩ = some (.slice A0_0 l0_0.length c0_0) := (blk_cell BK1006.out 0).trans rfl
        have hcz26_1 : wr.cell? ⟨gb1006, 1, none⟩ = some (.slice A0_1 l0_1.length c0_1) := (blk_cell BK1006.out 1).trans rfl
        have hfz26_0 := blk_frozen BK1006.out 0
        have hfz26_1 := blk_frozen BK1006.out 1
        go_wp2
        go_loopg [28] k1 (fun kq v28 w' => ∃ (x28_2 : Int) (x1004_2 : List (S49)) (u108001 : Value), v28 = .int .i64 x28_2 ∧ Aside0 (disk_Twin.l1 kq l0_1 (l0_1.length : Int) x28_2 x1002_1 x1004_2 = some (r1, r2)) ∧ Aside0 (kq ≤ k1) ∧ Aside0 (Kd.S k39 39 w' w.heap.size (fun _ => True) u108000 x1002_1) ∧ Aside0 (Kd.S k49 49 w' w.heap.size (fun _ => True) u108001 x1004_2) ∧ Aside0 (w'.heap[gb1006]? = some (.cells #[(.slice A0_0 l0_0.length c0_0), (.slice A0_1 l0_1.length c0_1)] 25 (0, 0))) ∧ Aside0 (w'.heap[gb1007]? = some (.cells #[u108000, u108001] 25 (0, 0))) ∧ Aside0 (Below w.heap.size w w'))
        case atStart => exact ⟨(0), (([] : List (S49))), (.slice none 0 0), (by first | rfl | (simp; done) | (simp [*]; done)), H', ⟨Nat.le_refl _⟩, ⟨by (with_reducible repeat (first | apply Kd.S_alloc | apply Kd.S_drewN | apply Kd.S_drew)); exact HO_1002.out⟩, ⟨by first | exact Kd.S_nil _ _ _ _ _ | exact Kd.N_nil _ _ _ _ _ | exact Kd.V_nil _ _ _ _ _ | exact Kd.Q_nil _ _ _ _ _ | exact Kd.R_nil _ _ _ _ _⟩, ⟨by (with_reducible repeat (first | refine blk_drewN ?_ _ | refine blk_drew ?_ | refine blk_alloc ?_ _)); exact BK1006.out⟩, ⟨by (with_reducible repeat (first | refine blk_drewN ?_ _ | refine blk_drew ?_ | refine blk_alloc ?_ _)); exact BK1007.out⟩, ⟨by repeat (first | (with_reducible first | exact HB.out | apply below_alloc | apply pbdN | apply bdr1 | refine below_set ?_ GE1006.out | refine below_set ?_ GE1007.out) | exact HB.out)⟩⟩
        case round =>
          clear H'
          try clear c1
          try clear p1
          try clear q1
          try clear hx1
          try clear c2
          try clear p2
          try clear c4
          try clear c5
          try clear c6
          try clear c6b0
          try clear p6
          try clear c7
          try clear c7b0
          try clear c8
          try clear c8b0
          try clear c10
          try clear p10
          try clear q10
          try clear hx10
          try clear c12
          try clear c13
          try clear c19
          try clear c25
          try clear hcz14_0
          try clear hcz14_1
          try clear hcz17_0
          try clear hcz17_1
          try clear hcz20_0
          try clear hcz20_1
          try clear hcz21_0
          try clear hcz21_1
          try clear hcz24_0
          try clear hcz24_1
          try clear hcz26_0
          try clear hcz26_1
          try clear hcz5_0
          try clear hcz5_1
          try clear hfz14_0
          try clear hfz14_1
          try clear hfz17_0
          try clear hfz17_1
          try clear hfz20_0
          try clear hfz20_1
          try clear hfz21_0
          try clear hfz21_1
          try clear hfz24_0
          try clear hfz24_1
          try clear hfz26_0
          try clear hfz26_1
          try clear hfz5_0
          try clear hfz5_1
          try clear hx1009_0
          try clear hx1009_1
          try clear p1009
          try clear p2
          try clear q1009
          obtain ⟨x28_2, x1004_2, u108001, rfl, HA, HK2, HO_1002, HO_1004, BK1006, BK1007, HB⟩ := hrel
          cases gk with
          | zero => exact absurd HA.out (by simp [disk_Twin.l1])
          | succ k2 =>
            have H := HA.out
            clear HA
            simp only [disk_Twin.l1] at H
            by_cases c27 : x28_2 < (l0_1.length : Int)
            · rw [if_pos c27] at H
              have c27b0 : decide (x28_2 < (l0_1.length : Int)) = true := decide_eq_true c27
              clear c27
              by_cases c28 : 0 ≤ x28_2
              · rw [if_pos c28] at H
                have c28b0 : decide (0 ≤ x28_2) = true := decide_eq_true c28
                clear c28
                by_cases c29 : x28_2 < (l0_1.length : Int)
                · rw [if_pos c29] at H
                  have c29b0 : decide (x28_2 < (l0_1.length : Int)) = true := decide_eq_true c29
                  clear c29
                  replace H := Option.bind_eq_some_iff.mp H
                  obtain ⟨t1005, A1015, H⟩ := H
                  replace H : (if x1004_2.length < 4398046511104 then (disk_Twin.l1 k2 l0_1 (l0_1.length : Int) (wrap64 (x28_2 + 1)) x1002_1 (x1004_2 ++ [(⟨(rd_T49 l0_1 x28_2).f0, t1005⟩ : S49)])) else (none)) = some (r1, r2) := H
                  have A30 := Aside0.mk A1015
                  clear A1015
                  by_cases c31 : x1004_2.length < 4398046511104
                  · rw [if_pos c31] at H
                    have LMc31 := Aside0.mk c31
                    clear c31
                    obtain ⟨y1016, hy1016⟩ : ∃ y_ : List (S49), y_ = (x1004_2 ++ [(⟨(rd_T49 l0_1 x28_2).f0, t1005⟩ : S49)]) := ⟨_, rfl⟩
                    replace H : (disk_Twin.l1 k2 l0_1 (l0_1.length : Int) (wrap64 (x28_2 + 1)) x1002_1 y1016) = some (r1, r2) := by first | (rw [hy1016]; with_reducible exact H) | (have H2_ := (Option.bind_some _ _).symm.trans H; rw [hy1016]; with_reducible exact H2_) | (have H2_ := (Option.bind_some _ _).symm.trans H; with_reducible exact H2_) | with_reducible exact H | (rw [hy1016]; exact H) | exact H
                    have Ny1016 := Aside0.mk hy1016
                    clear hy1016
                    have H' := Aside0.mk H
                    clear H
                    have p1017 : 0 ≤ (x28_2 : Int) := of_decide_eq_true (by first | (with_reducible assumption) | assumption)
                    have q1017 : x28_2 < (l0_1.length : Int) := of_decide_eq_true (by first | (with_reducible assumption) | assumption)
                    obtain ⟨ad1017, A1017_1, c1017_1, e1017, hx1017_0, hx1017_1, hl1017_1, hi1017_1⟩ := at_T49 HR0_1.out x28_2 p1017 q1017
                    cases e1017
                    replace hx1017_0 := (HB.out.cell (World.block_lt_of_cell? w _ hx1017_0)).trans hx1017_0
                    replace hx1017_1 := (HB.out.cell (World.block_lt_of_cell? w _ hx1017_1)).trans hx1017_1
                    have HR1017_1 := Aside0.mk hi1017_1
                    have HC1017_1 := Aside0.mk hl1017_1
                    clear hi1017_1 hl1017_1
                    replace p1017 := eq_true p1017
                    replace q1017 := eq_true q1017
                    go_wp2_with (first | ((with_reducible refine gate_dst (N := 6) rfl ?_); refine box_event ?hg (N := 6) ?hd (cs := #[.int .i64 0, .slice none 0 0]) (t := 49) ?hr ?_; (case hd => rfl); (case hg => rfl); (case hr => first | (go_simp; done) | (go_simp; rfl)); intro gb1018 hg w32 hbox hb; have n0_ := Aside0.mk (Kd.S_below (by (with_reducible repeat (first | apply Kd.S_alloc | apply Kd.S_drewN | apply Kd.S_drew)); exact HO_1002.out) hb); have n1_ := Aside0.mk (Kd.S_below (Kd.S_elderB (by (with_reducible repeat (first | apply Kd.S_alloc | apply Kd.S_drewN | apply Kd.S_drew)); exact HO_1004.out) gb1018 (Nat.le_of_eq hg.symm)) hb); have n2_ := Aside0.mk (blk_below (g := gb1006) (o := .cells #[.slice A0_0 l0_0.length c0_0, .slice (some ad1017) l0_1.length c0_1] 25 (0, 0)) (by (with_reducible repeat (first | refine blk_drewN ?_ _ | refine blk_drew ?_ | refine blk_alloc ?_ _)); exact BK1006.out) hb); have n3_ := Aside0.mk (blk_below (g := gb1007) (o := .cells #[u108000, u108001] 25 (0, 0)) (by (with_reducible repeat (first | refine blk_drewN ?_ _ | refine blk_drew ?_ | refine blk_alloc ?_ _)); exact BK1007.out) hb); have n4_ := Aside0.mk (below_step (by repeat (first | (with_reducible first | exact HB.out | apply below_alloc | apply pbdN | apply bdr1 | refine below_set ?_ GE1006.out | refine below_set ?_ GE1007.out) | exact HB.out)) hb); have n5_ := Aside0.mk (hbox); have n6_ := Aside0.mk ((by rw [hg]; exact (below_size (by repeat (first | (with_reducible first | exact HB.out | apply below_alloc | apply pbdN | apply bdr1 | refine below_set ?_ GE1006.out | refine below_set ?_ GE1007.out) | exact HB.out))) : w.heap.size ≤ gb1018)); have n7_ := Aside0.mk ((by rw [hg]; exact (below_size (by repeat (first | (with_reducible first | exact HB.out | apply below_alloc | apply pbdN | apply bdr1 | refine below_set ?_ GE1006.out | refine below_set ?_ GE1007.out) | exact HB.out))) : w.heap.size ≤ gb1018)); have n8_ := Aside0.mk ((by rw [hg]; exact Nat.ne_of_lt (blk_lt (g := gb1006) (o := .cells #[.slice A0_0 l0_0.length c0_0, .slice (some ad1017) l0_1.length c0_1] 25 (0, 0)) (by (with_reducible repeat (first | refine blk_drewN ?_ _ | refine blk_drew ?_ | refine blk_alloc ?_ _)); exact BK1006.out)) : gb1006 ≠ gb1018)); have n9_ := Aside0.mk ((by rw [hg]; exact Nat.ne_of_gt (blk_lt (g := gb1006) (o := .cells #[.slice A0_0 l0_0.length c0_0, .slice (some ad1017) l0_1.length c0_1] 25 (0, 0)) (by (with_reducible repeat (first | refine blk_drewN ?_ _ | refine blk_drew ?_ | refine blk_alloc ?_ _)); exact BK1006.out)) : gb1018 ≠ gb1006)); have n10_ := Aside0.mk ((by rw [hg]; exact Nat.ne_of_lt (blk_lt (g := gb1007) (o := .cells #[u108000, u108001] 25 (0, 0)) (by (with_reducible repeat (first | refine blk_drewN ?_ _ | refine blk_drew ?_ | refine blk_alloc ?_ _)); exact BK1007.out)) : gb1007 ≠ gb1018)); have n11_ := Aside0.mk ((by rw [hg]; exact Nat.ne_of_gt (blk_lt (g := gb1007) (o := .cells #[u108000, u108001] 25 (0, 0)) (by (with_reducible repeat (first | refine blk_drewN ?_ _ | refine blk_drew ?_ | refine blk_alloc ?_ _)); exact BK1007.out)) : gb1018 ≠ gb1007)); clear HO_1002; clear HO_1004; clear BK1006; clear BK1007; clear HB; have HO_1002 := n0_; have HO_1004 := n1_; have BK1006 := n2_; have BK1007 := n3_; have HB := n4_; have BK1018 := n5_; have GW1018 := n6_; have GE1018 := n7_; have NB1006_117 := n8_; have NB1018_106 := n9_; have NB1007_117 := n10_; have NB1018_107 := n11_; clear n0_ n1_ n2_ n3_ n4_ n5_ n6_ n7_ n8_ n9_ n10_ n11_; clear hb hbox hg; have hnb33 := NB1018_106.out; have hnc33 := NB1006_117.out; have hnb34 := NB1018_107.out; have hnc34 := NB1007_117.out; have hcz35_0 : w32.cell? ⟨gb1018, 0, none⟩ = some (.int .i64 0) := (blk_cell BK1018.out 0).trans rfl; have hcz35_1 : w32.cell? ⟨gb1018, 1, none⟩ = some (.slice none 0 0) := (blk_cell BK1018.out 1).trans rfl; have hfz35_0 := blk_frozen BK1018.out 0; have hfz35_1 := blk_frozen BK1018.out 1) | ((with_reducible refine gate_callee (f := 59) rfl ?_); refine goesL_ (some 34) rfl rfl Try.func59 (by kernel_rfl) rfl #[.slice A1017_1 ((rd_T49 l0_1 x28_2).f1).length c1017_1] rfl (by (try simp only [List.map_toArray, List.map_cons, List.map_nil]); first | done | rfl | (simp only [List.length_drop, List.length_take]; rfl)) ?_; (with_reducible refine (hClone.calls _ _ ((rd_T49 l0_1 x28_2).f1) t1005 _ ?side1 ?side2 A30.out).mono ?_); (case side1 => exact Kd.C_below HR1017_1.out (by repeat (first | (with_reducible first | exact HB.out | apply below_alloc | apply pbdN | apply bdr1 | refine below_set ?_ GE1006.out | refine below_set ?_ GE1007.out | refine below_set ?_ GE1018.out) | exact HB.out))); (case side2 => exact HC1017_1.out); rintro e w36 ⟨v1019, rfl, ho0, hb⟩; refine ⟨_, rfl, ?_⟩; have n0_ := Aside0.mk (Kd.S_elder' (by (with_reducible repeat (first | apply Kd.S_alloc | apply Kd.S_drewN | apply Kd.S_drew)); exact (Kd.S_mono (Kd.S_far (p := ⟨gb1018, 1, none⟩) (Kd.S_far (p := ⟨gb1018, 0, none⟩) (Kd.S_types HO_1002.out BK1018.out (by decide)) (fun _ hk => hk.2) (.int .i64 ((rd_T49 l0_1 x28_2).f0))) (fun _ hk => hk.2) (.slice A1017_1 ((rd_T49 l0_1 x28_2).f1).length c1017_1)) (fun _ h_ => h_.1))) (Kd.R_base ho0) hb); have n1_ := Aside0.mk (Kd.S_elder' (by (with_reducible repeat (first | apply Kd.S_alloc | apply Kd.S_drewN | apply Kd.S_drew)); exact (Kd.S_mono (Kd.S_far (p := ⟨gb1018, 1, none⟩) (Kd.S_far (p := ⟨gb1018, 0, none⟩) (Kd.S_mono HO_1004.out (fun k_ hk => (⟨hk, hk.2⟩ : _ ∧ k_ ≠ gb1018))) (fun _ hk => hk.2) (.int .i64 ((rd_T49 l0_1 x28_2).f0))) (fun _ hk => hk.2) (.slice A1017_1 ((rd_T49 l0_1 x28_2).f1).length c1017_1)) (fun _ h_ => h_.1))) (Kd.R_base ho0) hb); have n2_ := Aside0.mk (Kd.R_lower ho0 (below_size (by repeat (first | (with_reducible first | exact HB.out | apply below_alloc | apply pbdN | apply bdr1 | refine below_set ?_ GE1006.out | refine below_set ?_ GE1007.out | refine below_set ?_ GE1018.out) | exact HB.out)))); have n3_ := Aside0.mk (blk_below (g := gb1006) (o := .cells #[.slice A0_0 l0_0.length c0_0, .slice (some ad1017) l0_1.length c0_1] 25 (0, 0)) (by (with_reducible repeat (first | refine blk_drewN ?_ _ | refine blk_drew ?_ | refine blk_alloc ?_ _)); refine blk_far ?_ NB1006_117.out _; (with_reducible repeat (first | refine blk_drewN ?_ _ | refine blk_drew ?_ | refine blk_alloc ?_ _)); refine blk_far ?_ NB1006_117.out _; (with_reducible repeat (first | refine blk_drewN ?_ _ | refine blk_drew ?_ | refine blk_alloc ?_ _)); exact BK1006.out) hb); have n4_ := Aside0.mk (blk_below (g := gb1007) (o := .cells #[u108000, u108001] 25 (0, 0)) (by (with_reducible repeat (first | refine blk_drewN ?_ _ | refine blk_drew ?_ | refine blk_alloc ?_ _)); refine blk_far ?_ NB1007_117.out _; (with_reducible repeat (first | refine blk_drewN ?_ _ | refine blk_drew ?_ | refine blk_alloc ?_ _)); refine blk_far ?_ NB1007_117.out _; (with_reducible repeat (first | refine blk_drewN ?_ _ | refine blk_drew ?_ | refine blk_alloc ?_ _)); exact BK1007.out) hb); have n5_ := Aside0.mk (blk_below (g := gb1018) (o := .cells #[.int .i64 ((rd_T49 l0_1 x28_2).f0), .slice A1017_1 ((rd_T49 l0_1 x28_2).f1).length c1017_1] 49 (0, 0)) (by (with_reducible repeat (first | refine blk_drewN ?_ _ | refine blk_drew ?_ | refine blk_alloc ?_ _)); refine blk_put (cs := #[.int .i64 ((rd_T49 l0_1 x28_2).f0), .slice none 0 0]) ?_ 1 _ rfl; (with_reducible repeat (first | refine blk_drewN ?_ _ | refine blk_drew ?_ | refine blk_alloc ?_ _)); refine blk_put (cs := #[.int .i64 0, .slice none 0 0]) ?_ 0 _ rfl; (with_reducible repeat (first | refine blk_drewN ?_ _ | refine blk_drew ?_ | refine blk_alloc ?_ _)); exact BK1018.out) hb); have n6_ := Aside0.mk (below_step (by repeat (first | (with_reducible first | exact HB.out | apply below_alloc | apply pbdN | apply bdr1 | refine below_set ?_ GE1006.out | refine below_set ?_ GE1007.out | refine below_set ?_ GE1018.out) | exact HB.out)) hb); clear HO_1002; clear HO_1004; clear BK1006; clear BK1007; clear BK1018; clear HB; have HO_1002 := n0_; have HO_1004 := n1_; have HO1020 := n2_; have BK1006 := n3_; have BK1007 := n4_; have BK1018 := n5_; have HB := n6_; clear n0_ n1_ n2_ n3_ n4_ n5_ n6_; (try clear hb); (try clear hb2); (try clear hk); (try clear hi); (try clear ho0); obtain ⟨Ao37, co37, eo37⟩ := Kd.R_slice HO1020.out; subst eo37; have hcz38_0 : w36.cell? ⟨gb1018, 0, none⟩ = some (.int .i64 ((rd_T49 l0_1 x28_2).f0)) := (blk_cell BK1018.out 0).trans rfl; have hcz38_1 : w36.cell? ⟨gb1018, 1, none⟩ = some (.slice A1017_1 ((rd_T49 l0_1 x28_2).f1).length c1017_1) := (blk_cell BK1018.out 1).trans rfl; have hfz38_0 := blk_frozen BK1018.out 0; have hfz38_1 := blk_frozen BK1018.out 1) | ((with_reducible refine gate_store (t := 31) (p := 35) rfl ?_); refine store_event (t := 31) (p := 35) (v := ?vo_w39) (w1 := (w36.setCell ⟨gb1018, 1, none⟩ (.slice Ao37 t1005.length co37))) ?hg ?ho ?hn ?hr ?_; (case ho => rfl); (case hg => rfl); (case hn => rfl); (case hr => first | (go_simp; done) | (go_simp; rfl)); intro w39 hw; have n0_ : Aside0 (Kd.S k39 39 w39 w.heap.size (fun k_ => some k_ ≠ (.slice Ao37 t1005.length co37 : Value).ownBlock) u108000 x1002_1) := ⟨(by rw [hw]; exact (by (with_reducible repeat (first | apply Kd.S_alloc | apply Kd.S_drewN | apply Kd.S_drew)); exact Kd.S_mono (Kd.S_far (p := ⟨gb1018, 1, none⟩) (Kd.S_types HO_1002.out BK1018.out (by decide)) (fun _ hk => hk.2) (.slice Ao37 t1005.length co37)) (fun _ hk => hk.1.2)))⟩; have n1_ : Aside0 (Kd.S k49 49 w39 w.heap.size (fun k_ => some k_ ≠ (.slice Ao37 t1005.length co37 : Value).ownBlock ∧ k_ ≠ gb1018) u108001 x1004_2) := ⟨(by rw [hw]; exact (by (with_reducible repeat (first | apply Kd.S_alloc | apply Kd.S_drewN | apply Kd.S_drew)); exact Kd.S_mono (Kd.S_far (p := ⟨gb1018, 1, none⟩) (Kd.S_mono HO_1004.out (fun k_ hk => (⟨hk, hk.1.2⟩ : _ ∧ k_ ≠ gb1018))) (fun _ hk => hk.2) (.slice Ao37 t1005.length co37)) (fun _ hk => ⟨hk.1.2, hk.1.1.2⟩)))⟩; have n2_ : Aside0 (Kd.R (Kd.int .u8) 5 w39 w.heap.size (fun _ => True) (.slice Ao37 t1005.length co37) t1005) := ⟨(by rw [hw]; exact (by (with_reducible repeat (first | apply Kd.R_alloc | apply Kd.R_drewN | apply Kd.R_drew)); exact Kd.R_mono (Kd.R_far (p := ⟨gb1018, 1, none⟩) (Kd.R_types HO1020.out BK1018.out (by decide)) (fun _ hk => hk.2) (.slice Ao37 t1005.length co37)) (fun _ hk => trivial)))⟩; have n3_ : Aside0 (w39.heap[gb1006]? = some (.cells #[.slice A0_0 l0_0.length c0_0, .slice (some ad1017) l0_1.length c0_1] 25 (0, 0))) := ⟨(by rw [hw]; exact (by (with_reducible repeat (first | refine blk_drewN ?_ _ | refine blk_drew ?_ | refine blk_alloc ?_ _)); refine blk_far ?_ NB1006_117.out _; (with_reducible repeat (first | refine blk_drewN ?_ _ | refine blk_drew ?_ | refine blk_alloc ?_ _)); exact BK1006.out))⟩; have n4_ : Aside0 (w39.heap[gb1007]? = some (.cells #[u108000, u108001] 25 (0, 0))) := ⟨(by rw [hw]; exact (by (with_reducible repeat (first | refine blk_drewN ?_ _ | refine blk_drew ?_ | refine blk_alloc ?_ _)); refine blk_far ?_ NB1007_117.out _; (with_reducible repeat (first | refine blk_drewN ?_ _ | refine blk_drew ?_ | refine blk_alloc ?_ _)); exact BK1007.out))⟩; have n5_ : Aside0 (w39.heap[gb1018]? = some (.cells #[.int .i64 ((rd_T49 l0_1 x28_2).f0), .slice Ao37 t1005.length co37] 49 (0, 0))) := ⟨(by rw [hw]; exact (by (with_reducible repeat (first | refine blk_drewN ?_ _ | refine blk_drew ?_ | refine blk_alloc ?_ _)); refine blk_put (cs := #[.int .i64 ((rd_T49 l0_1 x28_2).f0), .slice A1017_1 ((rd_T49 l0_1 x28_2).f1).length c1017_1]) ?_ 1 _ rfl; (with_reducible repeat (first | refine blk_drewN ?_ _ | refine blk_drew ?_ | refine blk_alloc ?_ _)); exact BK1018.out))⟩; have n6_ : Aside0 (Below w.heap.size w w39) := ⟨(by rw [hw]; exact (by repeat (first | (with_reducible first | exact HB.out | apply below_alloc | apply pbdN | apply bdr1 | refine below_set ?_ GE1006.out | refine below_set ?_ GE1007.out | refine below_set ?_ GE1018.out) | exact HB.out)))⟩; clear hw; clear HO_1002; clear HO_1004; clear HO1020; clear BK1006; clear BK1007; clear BK1018; clear HB; have HO_1002 := n0_; have HO_1004 := n1_; have HO1020 := n2_; have BK1006 := n3_; have BK1007 := n4_; have BK1018 := n5_; have HB := n6_; clear n0_ n1_ n2_ n3_ n4_ n5_ n6_; have hnb40 := NB1007_106.out; have hnc40 := NB1006_107.out; have hcz41_0 : w39.cell? ⟨gb1007, 0, none⟩ = some (u108000) := (blk_cell BK1007.out 0).trans rfl; have hcz41_1 : w39.cell? ⟨gb1007, 1, none⟩ = some (u108001) := (blk_cell BK1007.out 1).trans rfl; have hfz41_0 := blk_frozen BK1007.out 0; have hfz41_1 := blk_frozen BK1007.out 1; have hcz42_0 : w39.cell? ⟨gb1018, 0, none⟩ = some (.int .i64 ((rd_T49 l0_1 x28_2).f0)) := (blk_cell BK1018.out 0).trans rfl; have hcz42_1 : w39.cell? ⟨gb1018, 1, none⟩ = some (.slice Ao37 t1005.length co37) := (blk_cell BK1018.out 1).trans rfl; have hfz42_0 := blk_frozen BK1018.out 0; have hfz42_1 := blk_frozen BK1018.out 1) | ((with_reducible refine gate_builtin (b := .append) (xs := #[.tmp 37, .tmp 39]) rfl ?_); at_builtin; refine Kd.S_append k49 (w0 := w) w.heap.size rfl (.tmp 37) (.tmp 39) 23 49 (.agg #[(.int .i64 0), (.slice none 0 0)]) 32 rfl Try.underlying23 info49 rfl (by decide) (by omega) u108001 x1004_2 (⟨(rd_T49 l0_1 x28_2).f0, t1005⟩ : S49) [.int .i64 ((rd_T49 l0_1 x28_2).f0), .slice Ao37 t1005.length co37] (fun k_ => k_ ≠ gb1018) (fun k_ => some k_ = (.slice Ao37 t1005.length co37 : Value).ownBlock) rfl rfl ?aP (fun k_ hk_ => ((Kd.R_mono (ok' := fun k_ => ((fun k_ => k_ ≠ gb1018)) k_ ∧ some k_ ≠ (u108001 : Value).ownBlock) (Kd.R_types (Kd.R_apart' (HO1020.out) (Kd.S_typed HO_1004.out) (by decide)) BK1018.out (by decide)) (fun k_ hk => ⟨hk.2, hk.1.2⟩))).1 k_ hk_.symm) ?aF ?aO ?aB ?aS ?aL ?_; (case aP => exact k49_mkM _ _ _ (⟨(rd_T49 l0_1 x28_2).f0, t1005⟩ : S49) (Kd.R_mono (Kd.R_tight rfl (Kd.R_mono (ok' := fun k_ => ((fun k_ => k_ ≠ gb1018)) k_ ∧ some k_ ≠ (u108001 : Value).ownBlock) (Kd.R_types (Kd.R_apart' (HO1020.out) (Kd.S_typed HO_1004.out) (by decide)) BK1018.out (by decide)) (fun k_ hk => ⟨hk.2, hk.1.2⟩))) (fun _ h_ => h_))); (case aB => exact (by repeat (first | (with_reducible first | exact HB.out | apply below_alloc | apply pbdN | apply bdr1 | refine below_set ?_ GE1006.out | refine below_set ?_ GE1007.out | refine below_set ?_ GE1018.out) | exact HB.out))); (case aF => exact (fun k_ hk => Kd.freshB (g := gb1018) (o := .cells #[.int .i64 ((rd_T49 l0_1 x28_2).f0), .slice Ao37 t1005.length co37] 49 (0, 0)) (by (with_reducible repeat (first | refine blk_drewN ?_ _ | refine blk_drew ?_ | refine blk_alloc ?_ _)); exact BK1018.out) k_ hk)); (case aO => exact (by (with_reducible repeat (first | apply Kd.S_alloc | apply Kd.S_drewN | apply Kd.S_drew)); exact Kd.S_mono HO_1004.out (fun k_ hk => ⟨hk.2, fun e_ => hk.1 e_⟩))); (case aS => exact (below_size (by repeat (first | (with_reducible first | exact HB.out | apply below_alloc | apply pbdN | apply bdr1 | refine below_set ?_ GE1006.out | refine below_set ?_ GE1007.out | refine below_set ?_ GE1018.out) | exact HB.out)))); (case aL => have := LMc31.out; omega); intro v1021 w43 ho hb hg hat; (first | (simp only [Int.reduceToNat] at ho; rw [← Ny1016.out] at ho) | rw [← Ny1016.out] at ho); have n0_ := Aside0.mk (Kd.S_over' (by (with_reducible repeat (first | apply Kd.S_alloc | apply Kd.S_drewN | apply Kd.S_drew)); exact HO_1002.out) (Kd.S_typed (by (with_reducible repeat (first | apply Kd.S_alloc | apply Kd.S_drewN | apply Kd.S_drew)); exact HO_1004.out)) (by decide) hg); have n1_ := Aside0.mk (blk_grown (g := gb1006) (o := .cells #[.slice A0_0 l0_0.length c0_0, .slice (some ad1017) l0_1.length c0_1] 25 (0, 0)) (by (with_reducible repeat (first | refine blk_drewN ?_ _ | refine blk_drew ?_ | refine blk_alloc ?_ _)); exact BK1006.out) hg (Kd.S_ne HO_1004.out BK1006.out (by decide))); have n2_ := Aside0.mk (blk_grown (g := gb1007) (o := .cells #[u108000, u108001] 25 (0, 0)) (by (with_reducible repeat (first | refine blk_drewN ?_ _ | refine blk_drew ?_ | refine blk_alloc ?_ _)); exact BK1007.out) hg (Kd.S_ne HO_1004.out BK1007.out (by decide))); have n3_ := Aside0.mk (blk_grown (g := gb1018) (o := .cells #[.int .i64 ((rd_T49 l0_1 x28_2).f0), .slice Ao37 t1005.length co37] 49 (0, 0)) (by (with_reducible repeat (first | refine blk_drewN ?_ _ | refine blk_drew ?_ | refine blk_alloc ?_ _)); exact BK1018.out) hg (Kd.S_away HO_1004.out (fun _ hk => hk.2))); have n4_ := Aside0.mk (hb); have n5_ := Aside0.mk (ho); clear HO_1002; clear BK1006; clear BK1007; clear BK1018; clear HB; clear HO_1004; clear HO1020; have HO_1002 := n0_; have BK1006 := n1_; have BK1007 := n2_; have BK1018 := n3_; have HB := n4_; have HO1022 := n5_; clear n0_ n1_ n2_ n3_ n4_ n5_; clear ho hb hg hat; obtain ⟨Ao44, co44, eo44⟩ := Kd.S_slice HO1022.out; subst eo44; have hcz45_0 : w43.cell? ⟨gb1007, 0, none⟩ = some (u108000) := (blk_cell BK1007.out 0).trans rfl; have hcz45_1 : w43.cell? ⟨gb1007, 1, none⟩ = some (u108001) := (blk_cell BK1007.out 1).trans rfl; have hfz45_0 := blk_frozen BK1007.out 0; have hfz45_1 := blk_frozen BK1007.out 1))
                    go_roundg k2
                    case measure => have := HK1.out; have := HK2.out; omega
                    case rel => exact ⟨(wrap64 (x28_2 + 1)), (y1016), (.slice Ao44 y1016.length co44), (by first | rfl | (simp; done) | (simp [*]; done)), H', ⟨by have := HK1.out; have := HK2.out; omega⟩, ⟨by (with_reducible repeat (first | apply Kd.S_alloc | apply Kd.S_drewN | apply Kd.S_drew)); exact Kd.S_mono (Kd.S_far (p := ⟨gb1007, 1, none⟩) (Kd.S_types HO_1002.out BK1007.out (by decide)) (fun _ hk => hk.2) (.slice Ao44 y1016.length co44)) (fun _ hk => trivial)⟩, ⟨by (with_reducible repeat (first | apply Kd.S_alloc | apply Kd.S_drewN | apply Kd.S_drew)); exact Kd.S_mono (Kd.S_far (p := ⟨gb1007, 1, none⟩) (Kd.S_types HO1022.out BK1007.out (by decide)) (fun _ hk => hk.2) (.slice Ao44 y1016.length co44)) (fun _ hk => trivial)⟩, ⟨by (with_reducible repeat (first | refine blk_drewN ?_ _ | refine blk_drew ?_ | refine blk_alloc ?_ _)); refine blk_far ?_ NB1006_107.out _; (with_reducible repeat (first | refine blk_drewN ?_ _ | refine blk_drew ?_ | refine blk_alloc ?_ _)); exact BK1006.out⟩, ⟨by (with_reducible repeat (first | refine blk_drewN ?_ _ | refine blk_drew ?_ | refine blk_alloc ?_ _)); refine blk_put (cs := #[u108000, u108001]) ?_ 1 _ rfl; (with_reducible repeat (first | refine blk_drewN ?_ _ | refine blk_drew ?_ | refine blk_alloc ?_ _)); exact BK1007.out⟩, ⟨by repeat (first | (with_reducible first | exact HB.out | apply below_alloc | apply pbdN | apply bdr1 | refine below_set ?_ GE1006.out | refine below_set ?_ GE1007.out | refine below_set ?_ GE1018.out) | exact HB.out)⟩⟩
                  · rw [if_neg c31] at H
                    exact absurd H (by simp)
                · rw [if_neg c29] at H
                  exact absurd H (by simp)
              · rw [if_neg c28] at H
                exact absurd H (by simp)
            · rw [if_neg c27] at H
              have c27b0 : decide (x28_2 < (l0_1.length : Int)) = false := decide_eq_false c27
              clear c27
              simp only [Option.some.injEq, Prod.mk.injEq] at H
              obtain ⟨rfl, rfl⟩ := H
              have hnb46 := NB1007_106.out
              have hnc46 := NB1006_107.out
              have hcz47_0 : wr.cell? ⟨gb1007, 0, none⟩ = some (u108000) := (blk_cell BK1007.out 0).trans rfl
              have hcz47_1 : wr.cell? ⟨gb1007, 1, none⟩ = some (u108001) := (blk_cell BK1007.out 1).trans rfl
              have hfz47_0 := blk_frozen BK1007.out 0
              have hfz47_1 := blk_frozen BK1007.out 1
              obtain ⟨Ao48, co48, eo48⟩ := Kd.S_slice HO_1002.out
              subst eo48
              obtain ⟨Ao49, co49, eo49⟩ := Kd.S_slice HO_1004.out
              subst eo49
              go_wp2
              refine bodyPost_ret (results_cell_row rfl _ _ gb1007 25 #[.slice Ao48 x1002_1.length co48, .slice Ao49 x1004_2.length co49] (0, 0) _ rfl (by (with_reducible repeat (first | refine blk_drewN ?_ _ | refine blk_drew ?_ | refine blk_alloc ?_ _)); refine blk_put (cs := #[.slice Ao48 x1002_1.length co48, .slice Ao49 x1004_2.length co49]) ?_ 1 _ rfl; (with_reducible repeat (first | refine blk_drewN ?_ _ | refine blk_drew ?_ | refine blk_alloc ?_ _)); refine blk_put (cs := #[.slice Ao48 x1002_1.length co48, .slice Ao49 x1004_2.length co49]) ?_ 0 _ rfl; (with_reducible repeat (first | refine blk_drewN ?_ _ | refine blk_drew ?_ | refine blk_alloc ?_ _)); exact BK1007.out) Try.underlying25 rfl (by kernel_rfl)) rfl ?_
              exact ⟨_, _, by first | rfl | (simp [errW_none, errW_some] <;> rfl) | (simp [*, errW_none, errW_some] <;> rfl), by (with_reducible repeat (first | apply Kd.S_alloc | apply Kd.S_drewN | apply Kd.S_drew)); exact Kd.S_mono (Kd.S_far (p := ⟨gb1007, 1, none⟩) (Kd.S_far (p := ⟨gb1007, 0, none⟩) (Kd.S_types HO_1002.out BK1007.out (by decide)) (fun _ hk => hk.2) (.slice Ao48 x1002_1.length co48)) (fun _ hk => hk.2) (.slice Ao49 x1004_2.length co49)) (fun _ hk => trivial), by (with_reducible repeat (first | apply Kd.S_alloc | apply Kd.S_drewN | apply Kd.S_drew)); exact Kd.S_mono (Kd.S_far (p := ⟨gb1007, 1, none⟩) (Kd.S_far (p := ⟨gb1007, 0, none⟩) (Kd.S_types HO_1004.out BK1007.out (by decide)) (fun _ hk => hk.2) (.slice Ao48 x1002_1.length co48)) (fun _ hk => hk.2) (.slice Ao49 x1004_2.length co49)) (fun _ hk => trivial), by repeat (first | (with_reducible first | exact HB.out | apply below_alloc | apply pbdN | apply bdr1 | refine below_set ?_ GE1006.out | refine below_set ?_ GE1007.out) | exact HB.out)⟩
end Go.Proofs.Ytdkjhcdniepbhaa.P
end
section
set_option linter.unusedVariables false
set_option linter.unusedSimpArgs false
namespace Go.Proofs.Ytdkjhcdniepbhaa.P
open Go.RowKit Go.Proofs.PrintWords Go.Proofs.PrintLast Go.Proofs.PrintMore
attribute [local go_sem] max2_int min2_int max_two min_two max_three min_three max_four min_four
def catamaranref03_Full.l0 : Nat → Int → List Bool → Int → Option (List Int)
  | 0, _, _, _ => none
  | k + 1, x0, x3, x4 => if x4 < x0 then (if 0 ≤ x4 then (if x4 < (x3.length : Int) then (catamaranref03_Full.l0 k x0 (x3.set (x4 : Int).toNat true) (wrap64 (x4 + 1))) else (none)) else (none)) else ((catamaranref03_Made.f k x0 x3).bind fun t1000 => (some t1000))
def catamaranref03_Full.f (k : Nat) (a0 : Int) : Option (List Int) := if 0 ≤ a0 then (if (a0 : Int).toNat ≤ 281474976710656 then (catamaranref03_Full.l0 k a0 (List.replicate (a0 : Int).toNat false) 0) else (none)) else (none)
theorem catamaranref03_Full.mono_l : ∀ k, (∀ y0 y1 y2, LeO (catamaranref03_Full.l0 k y0 y1 y2) (catamaranref03_Full.l0 (k + 1) y0 y1 y2))
  | 0 => fun _ _ _ r h => by simp [catamaranref03_Full.l0] at h
  | k + 1 => by
    have ih0 := catamaranref03_Full.mono_l k
    · intro y0 y1 y2
      unfold catamaranref03_Full.l0
      repeat' first
      | (with_reducible exact ih0 _ _ _)
      | (with_reducible exact catamaranref03_Made.mono _ _ _)
      | (with_reducible exact LeO.refl _)
      | (with_reducible exact LeO.none _)
      | (with_reducible refine LeO.ite ?_ ?_)
      | (with_reducible refine LeO.bind ?_ (fun _ => ?_))
      | exact ih0 _ _ _
      | exact catamaranref03_Made.mono _ _ _
      | exact LeO.none _
      | refine LeO.ite ?_ ?_
      | refine LeO.bind ?_ (fun _ => ?_)
theorem catamaranref03_Full.mono : ∀ a0 k, LeO (catamaranref03_Full.f k a0) (catamaranref03_Full.f (k + 1) a0) := by
  intro a0 k
  have ih0 := catamaranref03_Full.mono_l k
  unfold catamaranref03_Full.f
  repeat' first
      | (with_reducible exact ih0 _ _ _)
      | (with_reducible exact catamaranref03_Made.mono _ _ _)
      | (with_reducible exact LeO.refl _)
      | (with_reducible exact LeO.none _)
      | (with_reducible refine LeO.ite ?_ ?_)
      | (with_reducible refine LeO.bind ?_ (fun _ => ?_))
      | exact ih0 _ _ _
      | exact catamaranref03_Made.mono _ _ _
      | exact LeO.none _
      | refine LeO.ite ?_ ?_
      | refine LeO.bind ?_ (fun _ => ?_)
set_option maxHeartbeats 8000000 in
set_option maxRecDepth 100000 in
theorem catamaranref03_Full.calls (k : Nat) (a0 : Int) (r : List Int) (w : World) (h : catamaranref03_Full.f k a0 = some r) :
    Calls Try.prog 136 #[.int .i64 a0] w fun e w' => ∃ v0_ : Value, e = .returned (v0_) ∧ Kd.R (Kd.int .u8) 5 w' w.heap.size (fun _ => True) v0_ r ∧ Below w.heap.size w w' := by
  have HB := Aside0.mk (Below.refl w.heap.size w)
  have H : (if 0 ≤ a0 then (if (a0 : Int).toNat ≤ 281474976710656 then (catamaranref03_Full.l0 k a0 (List.replicate (a0 : Int).toNat false) 0) else (none)) else (none)) = some r := h
  clear h
  by_cases c2 : 0 ≤ a0
  · rw [if_pos c2] at H
    have c2b0 := eq_true c2
    have c2b1 : decide (0 ≤ a0) = true := decide_eq_true c2
    clear c2
    by_cases c3 : (a0 : Int).toNat ≤ 281474976710656
    · rw [if_pos c3] at H
      have c3b0 := eq_true c3
      have c3b1 : decide ((a0 : Int).toNat ≤ 281474976710656) = true := decide_eq_true c3
      clear c3
      obtain ⟨y1001, hy1001⟩ : ∃ y_ : List Bool, y_ = (List.replicate (a0 : Int).toNat false) := ⟨_, rfl⟩
      replace H : (catamaranref03_Full.l0 k a0 y1001 0) = some r := by first | (rw [hy1001]; with_reducible exact H) | (have H2_ := (Option.bind_some _ _).symm.trans H; rw [hy1001]; with_reducible exact H2_) | (have H2_ := (Option.bind_some _ _).symm.trans H; with_reducible exact H2_) | with_reducible exact H | (rw [hy1001]; exact H) | exact H
      have Ny1001 := Aside0.mk hy1001
      clear hy1001
      have H' := Aside0.mk H
      clear H
      go_enter Try.func136, Try.ntmps136
      go_wp2_with (first | ((with_reducible refine gate_dst (N := 6) rfl ?_); refine Kd.R_make Kd.bool _ 4 rfl (N := 6) rfl 205 _ _ rfl a0 rfl rfl Try.underlying205 (.bool false) 1 info4 rfl (by decide) (by omega) false (ok := fun _ => True) (okp := fun _ => True) rfl (fun _ hk => hk) trivial (of_decide_eq_true (by first | (with_reducible assumption) | assumption)) (Nat.le_trans (Nat.mul_le_mul_right _ (of_decide_eq_true (by first | (with_reducible assumption) | assumption) : a0.toNat ≤ 281474976710656)) (by omega)) (Below.refl _ _) (Nat.le_refl _) ?_; intro v1002 w4 ho5 hb hg_ hnew_; clear hg_ hnew_; (first | rw [← Ny1001.out] at ho5 | (simp only [Int.reduceToNat] at ho5; rw [← Ny1001.out] at ho5)); have n0_ := Aside0.mk (Kd.R_lower ho5 (below_size (by repeat (first | (with_reducible first | exact HB.out | apply below_alloc | apply pbdN | apply bdr1) | exact HB.out)))); have n1_ := Aside0.mk (below_step (by repeat (first | (with_reducible first | exact HB.out | apply below_alloc | apply pbdN | apply bdr1) | exact HB.out)) hb); clear HB; have HO1003 := n0_; have HB := n1_; clear n0_ n1_; clear hb ho5))
      go_loopg [4] k (fun kq v4 w' => ∃ (x3_1 : List Bool) (x4_1 : Int), v4 = .int .i64 x4_1 ∧ Aside0 (catamaranref03_Full.l0 kq a0 x3_1 x4_1 = some r) ∧ Aside0 (kq ≤ k) ∧ Aside0 (Kd.R Kd.bool 4 w' w.heap.size (fun _ => True) v1002 x3_1) ∧ Aside0 (Below w.heap.size w w'))
      case atStart => exact ⟨(y1001), (0), (by first | rfl | (simp; done) | (simp [*]; done)), H', ⟨Nat.le_refl _⟩, ⟨by (with_reducible repeat (first | apply Kd.R_alloc | apply Kd.R_drewN | apply Kd.R_drew)); exact HO1003.out⟩, ⟨by repeat (first | (with_reducible first | exact HB.out | apply below_alloc | apply pbdN | apply bdr1) | exact HB.out)⟩⟩
      case round =>
        clear H'
        try clear c1
        try clear c2
        try clear c2b0
        try clear c2b1
        try clear p2
        try clear c3
        try clear c3b0
        try clear c3b1
        obtain ⟨x3_1, x4_1, rfl, HA, HK1, HO_3, HB⟩ := hrel
        cases gk with
        | zero => exact absurd HA.out (by simp [catamaranref03_Full.l0])
        | succ k1 =>
          have H := HA.out
          clear HA
          simp only [catamaranref03_Full.l0] at H
          by_cases c6 : x4_1 < a0
          · rw [if_pos c6] at H
            have c6b0 : decide (x4_1 < a0) = true := decide_eq_true c6
            clear c6
            by_cases c7 : 0 ≤ x4_1
            · rw [if_pos c7] at H
              have c7b0 : decide (0 ≤ x4_1) = true := decide_eq_true c7
              clear c7
              by_cases c8 : x4_1 < (x3_1.length : Int)
              · rw [if_pos c8] at H
                have c8b0 : decide (x4_1 < (x3_1.length : Int)) = true := decide_eq_true c8
                clear c8
                obtain ⟨y1004, hy1004⟩ : ∃ y_ : List Bool, y_ = (x3_1.set (x4_1 : Int).toNat true) := ⟨_, rfl⟩
                replace H : (catamaranref03_Full.l0 k1 a0 y1004 (wrap64 (x4_1 + 1))) = some r := by first | (rw [hy1004]; with_reducible exact H) | (have H2_ := (Option.bind_some _ _).symm.trans H; rw [hy1004]; with_reducible exact H2_) | (have H2_ := (Option.bind_some _ _).symm.trans H; with_reducible exact H2_) | with_reducible exact H | (rw [hy1004]; exact H) | exact H
                have Ny1004 := Aside0.mk hy1004
                clear hy1004
                have H' := Aside0.mk H
                clear H
                have p9 : 0 ≤ (x4_1 : Int) := of_decide_eq_true (by first | (with_reducible assumption) | assumption)
                have q9 : (x4_1 : Int) < ((x3_1.length : Int) : Int) := of_decide_eq_true (by first | (with_reducible assumption) | assumption)
                obtain ⟨go9, co9, eo9, gb9, gl9, cl9, HG9⟩ := Kd.R_form HO_3.out (by omega)
                (first | cases eo9 | (injection eo9 with ea_ en_ ec_; (first | subst ea_ | (injection ea_ with ea_; subst ea_)); subst ec_; clear en_))
                have GB9 := Aside0.mk gb9
                have GG9 := Aside0.mk HG9
                clear gb9 gl9 HG9
                obtain ⟨hx9_0, hf9_0⟩ := Kd.R_celln false HO_3.out (x4_1 : Int) p9 q9
                replace p9 := eq_true p9
                replace q9 := eq_true q9
                have HP10 := Kd.R_putg HO_3.out (x4_1 : Int) true
                go_wp2_with (first | ((with_reducible refine gate_store (t := 4) (p := 14) rfl ?_); refine store_event (t := 4) (p := 14) (v := ?vo_w11) (w1 := (wr.setCell ⟨go9, (x4_1 : Int).toNat, none⟩ (.bool true))) ?hg ?ho ?hn ?hr ?_; (case ho => rfl); (case hg => rfl); (case hn => rfl); (case hr => first | (go_simp; done) | (go_simp; rfl)); intro w11 hw; have hg : wr.grownBy w11 (some go9) := (by rw [hw]; exact HP10.2); have hp_ : Kd.R Kd.bool 4 w11 w.heap.size (fun _ => True) (.slice (some ⟨go9, 0, none⟩) x3_1.length co9) y1004 := (by rw [hw, Ny1004.out]; exact HP10.1); clear HP10; have n0_ := Aside0.mk (hp_); have n1_ := Aside0.mk ((by rw [hw]; exact below_set (HB.out) GB9.out : Below w.heap.size w w11)); clear HO_3; clear HB; have HO_3 := n0_; have HB := n1_; clear n0_ n1_; clear hg hw hp_))
                go_roundg k1
                case measure => have := HK1.out; omega
                case rel => exact ⟨(y1004), (wrap64 (x4_1 + 1)), (by first | rfl | (simp; done) | (simp [*]; done)), H', ⟨by have := HK1.out; omega⟩, ⟨by (with_reducible repeat (first | apply Kd.R_alloc | apply Kd.R_drewN | apply Kd.R_drew)); exact HO_3.out⟩, ⟨by repeat (first | (with_reducible first | exact HB.out | apply below_alloc | apply pbdN | apply bdr1) | exact HB.out)⟩⟩
              · rw [if_neg c8] at H
                exact absurd H (by simp)
            · rw [if_neg c7] at H
              exact absurd H (by simp)
          · rw [if_neg c6] at H
            have c6b0 : decide (x4_1 < a0) = false := decide_eq_false c6
            clear c6
            replace H := Option.bind_eq_some_iff.mp H
            obtain ⟨t1000, A1005, H⟩ := H
            replace H : (some t1000) = some r := H
            have A12 := Aside0.mk A1005
            clear A1005
            obtain rfl := Option.some.inj H
            obtain ⟨Ao13, co13, eo13⟩ := Kd.R_slice HO_3.out
            subst eo13
            go_wp2_with (first | ((with_reducible refine gate_callee (f := 143) rfl ?_); refine goesL_ (some 17) rfl rfl Try.func143 (by kernel_rfl) rfl #[.int .i64 a0, .slice Ao13 x3_1.length co13] rfl (by (try simp only [List.map_toArray, List.map_cons, List.map_nil]); first | done | rfl | (simp only [List.length_drop, List.length_take]; rfl)) ?_; (with_reducible refine (catamaranref03_Made.calls k1 a0 _ _ x3_1 t1000 _ ?side1 ?side2 A12.out).mono ?_); (case side1 => repeat (first | exact (Kd.R_reads' HO_3.out).2.2 | (with_reducible refine Kd.C_alloc ?_ _) | (with_reducible refine Kd.C_drewN ?_ _) | (with_reducible refine Kd.C_drew ?_))); (case side2 => exact (Kd.R_reads' HO_3.out).2.1); rintro e w14 ⟨v1006, rfl, ho0, hb⟩; refine ⟨_, rfl, ?_⟩; have n0_ := Aside0.mk (Kd.R_below (by (with_reducible repeat (first | apply Kd.R_alloc | apply Kd.R_drewN | apply Kd.R_drew)); exact HO_3.out) hb); have n1_ := Aside0.mk (Kd.R_lower ho0 (below_size (by repeat (first | (with_reducible first | exact HB.out | apply below_alloc | apply pbdN | apply bdr1) | exact HB.out)))); have n2_ := Aside0.mk (below_step (by repeat (first | (with_reducible first | exact HB.out | apply below_alloc | apply pbdN | apply bdr1) | exact HB.out)) hb); clear HO_3; clear HB; have HO_3 := n0_; have HO1007 := n1_; have HB := n2_; clear n0_ n1_ n2_; (try clear hb); (try clear hb2); (try clear hk); (try clear hi); (try clear ho0)))
            go_ret
            exact ⟨_, by first | rfl | (simp [errW_none, errW_some] <;> rfl) | (simp [*, errW_none, errW_some] <;> rfl), by (with_reducible repeat (first | apply Kd.R_alloc | apply Kd.R_drewN | apply Kd.R_drew)); exact HO1007.out, by repeat (first | (with_reducible first | exact HB.out | apply below_alloc | apply pbdN | apply bdr1) | exact HB.out)⟩
    · rw [if_neg c3] at H
      exact absurd H (by simp)
  · rw [if_neg c2] at H
    exact absurd H (by simp)
end Go.Proofs.Ytdkjhcdniepbhaa.P
end
section
set_option linter.unusedVariables false
set_option linter.unusedSimpArgs false
namespace Go.Proofs.Ytdkjhcdniepbhaa.P
open Go.RowKit Go.Proofs.PrintWords Go.Proofs.PrintLast Go.Proofs.PrintMore
attribute [local go_sem] max2_int min2_int max_two min_two max_three min_three max_four min_four
def place_Pages.f (a0_0 : Int) (a0_1 : Int) (a0_2 : Int) (a0_3 : Int) (a0_4 : Int) (a0_5 : Int) : Option (Int × Int) := (hPlaceCheck.f a0_0 a0_1 a0_2 a0_3 a0_4 a0_5).bind fun t1000 => (if t1000 = 0 then ((place_pages.f a0_0 a0_1 a0_2 a0_3 a0_4 a0_5).bind fun t1001 => (some (t1001, 0))) else (some (0, t1000)))
set_option maxHeartbeats 8000000 in
set_option maxRecDepth 100000 in
theorem place_Pages.calls (a0_0 : Int) (a0_1 : Int) (a0_2 : Int) (a0_3 : Int) (a0_4 : Int) (a0_5 : Int) (r1 : Int) (r2 : Int) (w : World) (h : place_Pages.f a0_0 a0_1 a0_2 a0_3 a0_4 a0_5 = some (r1, r2)) :
    Calls Try.prog 77 #[.agg #[.int .i64 a0_0, .int .i64 a0_1, .int .i64 a0_2, .int .i64 a0_3, .int .i64 a0_4, .int .i64 a0_5]] w fun e w' => e = .returned (.tuple #[.int .i64 r1, .int .i64 r2]) ∧ Below w.heap.size w w' := by
  have hu44 := Try.underlying44
  have HB := Aside0.mk (Below.refl w.heap.size w)
  have H : ((hPlaceCheck.f a0_0 a0_1 a0_2 a0_3 a0_4 a0_5).bind fun t1000 => (if t1000 = 0 then ((place_pages.f a0_0 a0_1 a0_2 a0_3 a0_4 a0_5).bind fun t1001 => (some (t1001, 0))) else (some (0, t1000)))) = some (r1, r2) := h
  clear h
  replace H := Option.bind_eq_some_iff.mp H
  obtain ⟨t1000, A20, H⟩ := H
  replace H : (if t1000 = 0 then ((place_pages.f a0_0 a0_1 a0_2 a0_3 a0_4 a0_5).bind fun t1001 => (some (t1001, 0))) else (some (0, t1000))) = some (r1, r2) := H
  have A2 := Aside0.mk A20
  clear A20
  by_cases c3 : t1000 = 0
  · rw [if_pos c3] at H
    have c3b0 : (t1000 == 0) = true := beq_iff_eq.mpr c3
    have c3b1 : (t1000 != 0) = false := bne_eq_false_iff_eq.mpr c3
    clear c3
    replace H := Option.bind_eq_some_iff.mp H
    obtain ⟨t1001, A40, H⟩ := H
    replace H : (some (t1001, 0)) = some (r1, r2) := H
    have A4 := Aside0.mk A40
    clear A40
    simp only [Option.some.injEq, Prod.mk.injEq] at H
    obtain ⟨rfl, rfl⟩ := H
    go_enter Try.func77, Try.ntmps77
    go_wp2_with (first | ((with_reducible refine gate_dst (N := 1) rfl ?_); refine box_event ?hg (N := 1) ?hd (cs := #[.int .i64 a0_0, .int .i64 a0_1, .int .i64 a0_2, .int .i64 a0_3, .int .i64 a0_4, .int .i64 a0_5]) (t := 44) ?hr ?_; (case hd => rfl); (case hg => rfl); (case hr => first | (go_simp; done) | (go_simp; rfl)); intro gb1002 hg w5 hbox hb; have n0_ := Aside0.mk (below_step (by repeat (first | (with_reducible first | exact HB.out | apply below_alloc | apply pbdN | apply bdr1) | exact HB.out)) hb); have n1_ := Aside0.mk (hbox); have n2_ := Aside0.mk ((by rw [hg]; exact (below_size (by repeat (first | (with_reducible first | exact HB.out | apply below_alloc | apply pbdN | apply bdr1) | exact HB.out))) : w.heap.size ≤ gb1002)); have n3_ := Aside0.mk ((by rw [hg]; exact (below_size (by repeat (first | (with_reducible first | exact HB.out | apply below_alloc | apply pbdN | apply bdr1) | exact HB.out))) : w.heap.size ≤ gb1002)); clear HB; have HB := n0_; have BK1002 := n1_; have GW1002 := n2_; have GE1002 := n3_; clear n0_ n1_ n2_ n3_; clear hb hbox hg; have hcz6_0 : w5.cell? ⟨gb1002, 0, none⟩ = some (.int .i64 a0_0) := (blk_cell BK1002.out 0).trans rfl; have hcz6_1 : w5.cell? ⟨gb1002, 1, none⟩ = some (.int .i64 a0_1) := (blk_cell BK1002.out 1).trans rfl; have hcz6_2 : w5.cell? ⟨gb1002, 2, none⟩ = some (.int .i64 a0_2) := (blk_cell BK1002.out 2).trans rfl; have hcz6_3 : w5.cell? ⟨gb1002, 3, none⟩ = some (.int .i64 a0_3) := (blk_cell BK1002.out 3).trans rfl; have hcz6_4 : w5.cell? ⟨gb1002, 4, none⟩ = some (.int .i64 a0_4) := (blk_cell BK1002.out 4).trans rfl; have hcz6_5 : w5.cell? ⟨gb1002, 5, none⟩ = some (.int .i64 a0_5) := (blk_cell BK1002.out 5).trans rfl; have hfz6_0 := blk_frozen BK1002.out 0; have hfz6_1 := blk_frozen BK1002.out 1; have hfz6_2 := blk_frozen BK1002.out 2; have hfz6_3 := blk_frozen BK1002.out 3; have hfz6_4 := blk_frozen BK1002.out 4; have hfz6_5 := blk_frozen BK1002.out 5) | ((with_reducible refine gate_callee (f := 109) rfl ?_); refine goesL_ (some 6) rfl rfl Try.func109 (by kernel_rfl) rfl #[.agg #[.int .i64 a0_0, .int .i64 a0_1, .int .i64 a0_2, .int .i64 a0_3, .int .i64 a0_4, .int .i64 a0_5]] rfl (by (try simp only [List.map_toArray, List.map_cons, List.map_nil]); first | done | rfl | (simp only [List.length_drop, List.length_take]; rfl)) ?_; (with_reducible refine (hPlaceCheck.calls a0_0 a0_1 a0_2 a0_3 a0_4 a0_5 t1000 _ A2.out).mono ?_); rintro e w7 ⟨rfl, hb⟩; refine ⟨_, rfl, ?_⟩; have n0_ := Aside0.mk (blk_below (g := gb1002) (o := .cells #[.int .i64 a0_0, .int .i64 a0_1, .int .i64 a0_2, .int .i64 a0_3, .int .i64 a0_4, .int .i64 a0_5] 44 (0, 0)) (by (with_reducible repeat (first | refine blk_drewN ?_ _ | refine blk_drew ?_ | refine blk_alloc ?_ _)); exact BK1002.out) hb); have n1_ := Aside0.mk (below_step (by repeat (first | (with_reducible first | exact HB.out | apply below_alloc | apply pbdN | apply bdr1 | refine below_set ?_ GE1002.out) | exact HB.out)) hb); clear BK1002; clear HB; have BK1002 := n0_; have HB := n1_; clear n0_ n1_; (try clear hb); (try clear hb2); (try clear hk); (try clear hi); have hcz8_0 : w7.cell? ⟨gb1002, 0, none⟩ = some (.int .i64 a0_0) := (blk_cell BK1002.out 0).trans rfl; have hcz8_1 : w7.cell? ⟨gb1002, 1, none⟩ = some (.int .i64 a0_1) := (blk_cell BK1002.out 1).trans rfl; have hcz8_2 : w7.cell? ⟨gb1002, 2, none⟩ = some (.int .i64 a0_2) := (blk_cell BK1002.out 2).trans rfl; have hcz8_3 : w7.cell? ⟨gb1002, 3, none⟩ = some (.int .i64 a0_3) := (blk_cell BK1002.out 3).trans rfl; have hcz8_4 : w7.cell? ⟨gb1002, 4, none⟩ = some (.int .i64 a0_4) := (blk_cell BK1002.out 4).trans rfl; have hcz8_5 : w7.cell? ⟨gb1002, 5, none⟩ = some (.int .i64 a0_5) := (blk_cell BK1002.out 5).trans rfl; have hfz8_0 := blk_frozen BK1002.out 0; have hfz8_1 := blk_frozen BK1002.out 1; have hfz8_2 := blk_frozen BK1002.out 2; have hfz8_3 := blk_frozen BK1002.out 3; have hfz8_4 := blk_frozen BK1002.out 4; have hfz8_5 := blk_frozen BK1002.out 5) | ((with_reducible refine gate_callee (f := 110) rfl ?_); refine goesL_ (some 11) rfl rfl Try.func110 (by kernel_rfl) rfl #[.agg #[.int .i64 a0_0, .int .i64 a0_1, .int .i64 a0_2, .int .i64 a0_3, .int .i64 a0_4, .int .i64 a0_5]] rfl (by (try simp only [List.map_toArray, List.map_cons, List.map_nil]); first | done | rfl | (simp only [List.length_drop, List.length_take]; rfl)) ?_; (with_reducible refine (place_pages.calls a0_0 a0_1 a0_2 a0_3 a0_4 a0_5 t1001 _ A4.out).mono ?_); rintro e w9 ⟨rfl, hb⟩; refine ⟨_, rfl, ?_⟩; have n0_ := Aside0.mk (blk_below (g := gb1002) (o := .cells #[.int .i64 a0_0, .int .i64 a0_1, .int .i64 a0_2, .int .i64 a0_3, .int .i64 a0_4, .int .i64 a0_5] 44 (0, 0)) (by (with_reducible repeat (first | refine blk_drewN ?_ _ | refine blk_drew ?_ | refine blk_alloc ?_ _)); exact BK1002.out) hb); have n1_ := Aside0.mk (below_step (by repeat (first | (with_reducible first | exact HB.out | apply below_alloc | apply pbdN | apply bdr1 | refine below_set ?_ GE1002.out) | exact HB.out)) hb); clear BK1002; clear HB; have BK1002 := n0_; have HB := n1_; clear n0_ n1_; (try clear hb); (try clear hb2); (try clear hk); (try clear hi)))
    go_ret2
    exact ⟨by first | rfl | (simp [errW_none, errW_some] <;> rfl) | (simp [*, errW_none, errW_some] <;> rfl), by repeat (first | (with_reducible first | exact HB.out | apply below_alloc | apply pbdN | apply bdr1 | refine below_set ?_ GE1002.out) | exact HB.out)⟩
  · rw [if_neg c3] at H
    have c3b0 : (t1000 == 0) = false := beq_eq_false_iff_ne.mpr c3
    have c3b1 : (t1000 != 0) = true := bne_iff_ne.mpr c3
    simp only [Option.some.injEq, Prod.mk.injEq] at H
    obtain ⟨rfl, rfl⟩ := H
    go_enter Try.func77, Try.ntmps77
    go_wp2_with (first | ((with_reducible refine gate_dst (N := 1) rfl ?_); refine box_event ?hg (N := 1) ?hd (cs := #[.int .i64 a0_0, .int .i64 a0_1, .int .i64 a0_2, .int .i64 a0_3, .int .i64 a0_4, .int .i64 a0_5]) (t := 44) ?hr ?_; (case hd => rfl); (case hg => rfl); (case hr => first | (go_simp; done) | (go_simp; rfl)); intro gb1002 hg w10 hbox hb; have n0_ := Aside0.mk (below_step (by repeat (first | (with_reducible first | exact HB.out | apply below_alloc | apply pbdN | apply bdr1) | exact HB.out)) hb); have n1_ := Aside0.mk (hbox); have n2_ := Aside0.mk ((by rw [hg]; exact (below_size (by repeat (first | (with_reducible first | exact HB.out | apply below_alloc | apply pbdN | apply bdr1) | exact HB.out))) : w.heap.size ≤ gb1002)); have n3_ := Aside0.mk ((by rw [hg]; exact (below_size (by repeat (first | (with_reducible first | exact HB.out | apply below_alloc | apply pbdN | apply bdr1) | exact HB.out))) : w.heap.size ≤ gb1002)); clear HB; have HB := n0_; have BK1002 := n1_; have GW1002 := n2_; have GE1002 := n3_; clear n0_ n1_ n2_ n3_; clear hb hbox hg; have hcz11_0 : w10.cell? ⟨gb1002, 0, none⟩ = some (.int .i64 a0_0) := (blk_cell BK1002.out 0).trans rfl; have hcz11_1 : w10.cell? ⟨gb1002, 1, none⟩ = some (.int .i64 a0_1) := (blk_cell BK1002.out 1).trans rfl; have hcz11_2 : w10.cell? ⟨gb1002, 2, none⟩ = some (.int .i64 a0_2) := (blk_cell BK1002.out 2).trans rfl; have hcz11_3 : w10.cell? ⟨gb1002, 3, none⟩ = some (.int .i64 a0_3) := (blk_cell BK1002.out 3).trans rfl; have hcz11_4 : w10.cell? ⟨gb1002, 4, none⟩ = some (.int .i64 a0_4) := (blk_cell BK1002.out 4).trans rfl; have hcz11_5 : w10.cell? ⟨gb1002, 5, none⟩ = some (.int .i64 a0_5) := (blk_cell BK1002.out 5).trans rfl; have hfz11_0 := blk_frozen BK1002.out 0; have hfz11_1 := blk_frozen BK1002.out 1; have hfz11_2 := blk_frozen BK1002.out 2; have hfz11_3 := blk_frozen BK1002.out 3; have hfz11_4 := blk_frozen BK1002.out 4; have hfz11_5 := blk_frozen BK1002.out 5) | ((with_reducible refine gate_callee (f := 109) rfl ?_); refine goesL_ (some 6) rfl rfl Try.func109 (by kernel_rfl) rfl #[.agg #[.int .i64 a0_0, .int .i64 a0_1, .int .i64 a0_2, .int .i64 a0_3, .int .i64 a0_4, .int .i64 a0_5]] rfl (by (try simp only [List.map_toArray, List.map_cons, List.map_nil]); first | done | rfl | (simp only [List.length_drop, List.length_take]; rfl)) ?_; (with_reducible refine (hPlaceCheck.calls a0_0 a0_1 a0_2 a0_3 a0_4 a0_5 t1000 _ A2.out).mono ?_); rintro e w12 ⟨rfl, hb⟩; refine ⟨_, rfl, ?_⟩; have n0_ := Aside0.mk (blk_below (g := gb1002) (o := .cells #[.int .i64 a0_0, .int .i64 a0_1, .int .i64 a0_2, .int .i64 a0_3, .int .i64 a0_4, .int .i64 a0_5] 44 (0, 0)) (by (with_reducible repeat (first | refine blk_drewN ?_ _ | refine blk_drew ?_ | refine blk_alloc ?_ _)); exact BK1002.out) hb); have n1_ := Aside0.mk (below_step (by repeat (first | (with_reducible first | exact HB.out | apply below_alloc | apply pbdN | apply bdr1 | refine below_set ?_ GE1002.out) | exact HB.out)) hb); clear BK1002; clear HB; have BK1002 := n0_; have HB := n1_; clear n0_ n1_; (try clear hb); (try clear hb2); (try clear hk); (try clear hi)))
    go_ret2
    exact ⟨by first | rfl | (simp [errW_none, errW_some] <;> rfl) | (simp [*, errW_none, errW_some] <;> rfl), by repeat (first | (with_reducible first | exact HB.out | apply below_alloc | apply pbdN | apply bdr1 | refine below_set ?_ GE1002.out) | exact HB.out)⟩
end Go.Proofs.Ytdkjhcdniepbhaa.P
end
