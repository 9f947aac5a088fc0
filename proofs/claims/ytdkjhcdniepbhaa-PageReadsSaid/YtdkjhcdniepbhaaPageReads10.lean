/- Part 10 of the proof: PageReads: for every config, disk and pair the program's marks of the pair, or its error, are the document's, the disk stays, and what is answered is new memory; no condition. -/
import Derived.WalkKit
import Derived.ProofKit
import Derived.OpenShut
import Derived.Lib.SmallJoins
import Derived.Deep.Slices
import Derived.Deep.Fields
import Derived.ChangeSame
import Derived.Test.YtdkjhcdniepbhaaPageReads09
section
set_option linter.unusedVariables false
set_option linter.unusedSimpArgs false
namespace Go.Proofs.Ytdkjhcdniepbhaa.P
open Go.RowKit Go.Proofs.PrintWords Go.Proofs.PrintLast Go.Proofs.PrintMore
attribute [local go_sem] max2_int min2_int max_two min_two max_three min_three max_four min_four
mutual
def page_Read.j0 : Nat → Int → List Int → Bool → Int → Int → Int → Int → Int → Int → List (S39) → List (S49) → Option (List Int × Int)
  | 0, _, _, _, _, _, _, _, _, _, _, _ => none
  | k + 1, x2, x6, x25, x1000, x1001, x1002, x1003, x1004, x1005, x1006, x1007 => if x25 = true then (some (([] : List Int), 2)) else ((place_Pages.f x1000 x1001 x1002 x1003 x1004 x1005).bind fun bt1008 => (page_Read.l0 k x2 x6 bt1008.1 0 x1000 x1001 x1002 x1003 x1004 x1005 x1006 x1007))
def page_Read.l0 : Nat → Int → List Int → Int → Int → Int → Int → Int → Int → Int → Int → List (S39) → List (S49) → Option (List Int × Int)
  | 0, _, _, _, _, _, _, _, _, _, _, _, _ => none
  | k + 1, x2, x6, x31, x32, x1000, x1001, x1002, x1003, x1004, x1005, x1006, x1007 => if x32 < x31 then ((hTold.f x1000 x1001 x1002 x1003 x1004 x1005 x1006 x1007 x2 x32).bind fun t1009 => (if x6.length < 140737488355328 then (page_Read.l0 k x2 (x6 ++ [t1009]) x31 (wrap64 (x32 + 1)) x1000 x1001 x1002 x1003 x1004 x1005 x1006 x1007) else (none))) else (some (x6, 0))
end
def page_Read.f (k : Nat) (a0_0 : Int) (a0_1 : Int) (a0_2 : Int) (a0_3 : Int) (a0_4 : Int) (a0_5 : Int) (l1_0 : List (S39)) (l1_1 : List (S49)) (a2 : Int) : Option (List Int × Int) := (track_Check.f a0_0 a0_1 a0_2 a0_3 a0_4 a0_5 l1_0 l1_1).bind fun t1010 => (if t1010 = 0 then (if a2 < 0 then (page_Read.j0 k a2 ([] : List Int) true a0_0 a0_1 a0_2 a0_3 a0_4 a0_5 l1_0 l1_1) else (page_Read.j0 k a2 ([] : List Int) (decide (a2 ≥ a0_0)) a0_0 a0_1 a0_2 a0_3 a0_4 a0_5 l1_0 l1_1)) else (some (([] : List Int), t1010)))
theorem page_Read.mono_l : ∀ k, (∀ y0 y1 y2 y3 y4 y5 y6 y7 y8 y9 y10, LeO (page_Read.j0 k y0 y1 y2 y3 y4 y5 y6 y7 y8 y9 y10) (page_Read.j0 (k + 1) y0 y1 y2 y3 y4 y5 y6 y7 y8 y9 y10)) ∧ (∀ y0 y1 y2 y3 y4 y5 y6 y7 y8 y9 y10 y11, LeO (page_Read.l0 k y0 y1 y2 y3 y4 y5 y6 y7 y8 y9 y10 y11) (page_Read.l0 (k + 1) y0 y1 y2 y3 y4 y5 y6 y7 y8 y9 y10 y11))
  | 0 => ⟨fun _ _ _ _ _ _ _ _ _ _ _ r h => by simp [page_Read.j0] at h, fun _ _ _ _ _ _ _ _ _ _ _ _ r h => by simp [page_Read.l0] at h⟩
  | k + 1 => by
    obtain ⟨ih0, ih1⟩ := page_Read.mono_l k
    refine ⟨?_, ?_⟩
    · intro y0 y1 y2 y3 y4 y5 y6 y7 y8 y9 y10
      unfold page_Read.j0
      repeat' first
      | (with_reducible exact ih0 _ _ _ _ _ _ _ _ _ _ _)
      | (with_reducible exact ih1 _ _ _ _ _ _ _ _ _ _ _ _)
      | (with_reducible exact LeO.refl _)
      | (with_reducible exact LeO.none _)
      | (with_reducible refine LeO.ite ?_ ?_)
      | (with_reducible refine LeO.bind ?_ (fun _ => ?_))
      | exact ih0 _ _ _ _ _ _ _ _ _ _ _
      | exact ih1 _ _ _ _ _ _ _ _ _ _ _ _
      | exact LeO.none _
      | refine LeO.ite ?_ ?_
      | refine LeO.bind ?_ (fun _ => ?_)
    · intro y0 y1 y2 y3 y4 y5 y6 y7 y8 y9 y10 y11
      unfold page_Read.l0
      repeat' first
      | (with_reducible exact ih0 _ _ _ _ _ _ _ _ _ _ _)
      | (with_reducible exact ih1 _ _ _ _ _ _ _ _ _ _ _ _)
      | (with_reducible exact LeO.refl _)
      | (with_reducible exact LeO.none _)
      | (with_reducible refine LeO.ite ?_ ?_)
      | (with_reducible refine LeO.bind ?_ (fun _ => ?_))
      | exact ih0 _ _ _ _ _ _ _ _ _ _ _
      | exact ih1 _ _ _ _ _ _ _ _ _ _ _ _
      | exact LeO.none _
      | refine LeO.ite ?_ ?_
      | refine LeO.bind ?_ (fun _ => ?_)
theorem page_Read.mono : ∀ a0 a1 a2 a3 a4 a5 a6 a7 a8 k, LeO (page_Read.f k a0 a1 a2 a3 a4 a5 a6 a7 a8) (page_Read.f (k + 1) a0 a1 a2 a3 a4 a5 a6 a7 a8) := by
  intro a0 a1 a2 a3 a4 a5 a6 a7 a8 k
  obtain ⟨ih0, ih1⟩ := page_Read.mono_l k
  unfold page_Read.f
  repeat' first
      | (with_reducible exact ih0 _ _ _ _ _ _ _ _ _ _ _)
      | (with_reducible exact ih1 _ _ _ _ _ _ _ _ _ _ _ _)
      | (with_reducible exact LeO.refl _)
      | (with_reducible exact LeO.none _)
      | (with_reducible refine LeO.ite ?_ ?_)
      | (with_reducible refine LeO.bind ?_ (fun _ => ?_))
      | exact ih0 _ _ _ _ _ _ _ _ _ _ _
      | exact ih1 _ _ _ _ _ _ _ _ _ _ _ _
      | exact LeO.none _
      | refine LeO.ite ?_ ?_
      | refine LeO.bind ?_ (fun _ => ?_)
set_option maxHeartbeats 8000000 in
set_option maxRecDepth 100000 in
theorem page_Read.calls (k : Nat) (a0_0 : Int) (a0_1 : Int) (a0_2 : Int) (a0_3 : Int) (a0_4 : Int) (a0_5 : Int) (A1_0 : Option Addr) (c1_0 : Nat) (l1_0 : List (S39)) (A1_1 : Option Addr) (c1_1 : Nat) (l1_1 : List (S49)) (a2 : Int) (r1 : List Int) (r2 : Int) (w : World) (hr1_0 : Kd.C k39 w A1_0 l1_0.length l1_0) (hc1_0 : l1_0.length ≤ c1_0) (hr1_1 : Kd.C k49 w A1_1 l1_1.length l1_1) (hc1_1 : l1_1.length ≤ c1_1) (h : page_Read.f k a0_0 a0_1 a0_2 a0_3 a0_4 a0_5 l1_0 l1_1 a2 = some (r1, r2)) :
    Calls Try.prog 36 #[.agg #[.int .i64 a0_0, .int .i64 a0_1, .int .i64 a0_2, .int .i64 a0_3, .int .i64 a0_4, .int .i64 a0_5], .agg #[.slice A1_0 l1_0.length c1_0, .slice A1_1 l1_1.length c1_1], .int .i64 a2] w fun e w' => ∃ v0_ : Value, e = .returned (.tuple #[v0_, .int .i64 r2]) ∧ Kd.R (Kd.int .u8) 5 w' w.heap.size (fun _ => True) v0_ r1 ∧ Below w.heap.size w w' := by
  have hu44 := Try.underlying44
  have hu25 := Try.underlying25
  have HR1_0 := Aside0.mk hr1_0
  have HC1_0 := Aside0.mk hc1_0
  clear hr1_0 hc1_0
  have HR1_1 := Aside0.mk hr1_1
  have HC1_1 := Aside0.mk hc1_1
  clear hr1_1 hc1_1
  have HB := Aside0.mk (Below.refl w.heap.size w)
  have H : ((track_Check.f a0_0 a0_1 a0_2 a0_3 a0_4 a0_5 l1_0 l1_1).bind fun t1010 => (if t1010 = 0 then (if a2 < 0 then (page_Read.j0 k a2 ([] : List Int) true a0_0 a0_1 a0_2 a0_3 a0_4 a0_5 l1_0 l1_1) else (page_Read.j0 k a2 ([] : List Int) (decide (a2 ≥ a0_0)) a0_0 a0_1 a0_2 a0_3 a0_4 a0_5 l1_0 l1_1)) else (some (([] : List Int), t1010)))) = some (r1, r2) := h
  clear h
  replace H := Option.bind_eq_some_iff.mp H
  obtain ⟨t1010, A40, H⟩ := H
  replace H : (if t1010 = 0 then (if a2 < 0 then (page_Read.j0 k a2 ([] : List Int) true a0_0 a0_1 a0_2 a0_3 a0_4 a0_5 l1_0 l1_1) else (page_Read.j0 k a2 ([] : List Int) (decide (a2 ≥ a0_0)) a0_0 a0_1 a0_2 a0_3 a0_4 a0_5 l1_0 l1_1)) else (some (([] : List Int), t1010))) = some (r1, r2) := H
  have A4 := Aside0.mk A40
  clear A40
  by_cases c5 : t1010 = 0
  · rw [if_pos c5] at H
    have c5b0 : (t1010 == 0) = true := beq_iff_eq.mpr c5
    have c5b1 : (t1010 != 0) = false := bne_eq_false_iff_eq.mpr c5
    clear c5
    have HC6 := Aside0.mk H
    clear H
    go_enter Try.func36, Try.ntmps36
    go_upto_region 4 with (first | ((with_reducible refine gate_dst (N := 3) rfl ?_); refine box_event ?hg (N := 3) ?hd (cs := #[.int .i64 a0_0, .int .i64 a0_1, .int .i64 a0_2, .int .i64 a0_3, .int .i64 a0_4, .int .i64 a0_5]) (t := 44) ?hr ?_; (case hd => rfl); (case hg => rfl); (case hr => first | (go_simp; done) | (go_simp; rfl)); intro gb1011 hg w7 hbox hb; have n0_ := Aside0.mk (below_step (by repeat (first | (with_reducible first | exact HB.out | apply below_alloc | apply pbdN | apply bdr1) | exact HB.out)) hb); have n1_ := Aside0.mk (hbox); have n2_ := Aside0.mk ((by rw [hg]; exact (below_size (by repeat (first | (with_reducible first | exact HB.out | apply below_alloc | apply pbdN | apply bdr1) | exact HB.out))) : w.heap.size ≤ gb1011)); have n3_ := Aside0.mk ((by rw [hg]; exact (below_size (by repeat (first | (with_reducible first | exact HB.out | apply below_alloc | apply pbdN | apply bdr1) | exact HB.out))) : w.heap.size ≤ gb1011)); clear HB; have HB := n0_; have BK1011 := n1_; have GW1011 := n2_; have GE1011 := n3_; clear n0_ n1_ n2_ n3_; clear hb hbox hg) | ((with_reducible refine gate_dst (N := 4) rfl ?_); refine box_event ?hg (N := 4) ?hd (cs := #[.slice A1_0 l1_0.length c1_0, .slice A1_1 l1_1.length c1_1]) (t := 25) ?hr ?_; (case hd => rfl); (case hg => rfl); (case hr => first | (go_simp; done) | (go_simp; rfl)); intro gb1012 hg w8 hbox hb; have n0_ := Aside0.mk (blk_below (g := gb1011) (o := .cells #[.int .i64 a0_0, .int .i64 a0_1, .int .i64 a0_2, .int .i64 a0_3, .int .i64 a0_4, .int .i64 a0_5] 44 (0, 0)) (by (with_reducible repeat (first | refine blk_drewN ?_ _ | refine blk_drew ?_ | refine blk_alloc ?_ _)); exact BK1011.out) hb); have n1_ := Aside0.mk (below_step (by repeat (first | (with_reducible first | exact HB.out | apply below_alloc | apply pbdN | apply bdr1 | refine below_set ?_ GE1011.out) | exact HB.out)) hb); have n2_ := Aside0.mk (hbox); have n3_ := Aside0.mk ((by rw [hg]; exact (below_size (by repeat (first | (with_reducible first | exact HB.out | apply below_alloc | apply pbdN | apply bdr1 | refine below_set ?_ GE1011.out) | exact HB.out))) : w.heap.size ≤ gb1012)); have n4_ := Aside0.mk ((by rw [hg]; exact (below_size (by repeat (first | (with_reducible first | exact HB.out | apply below_alloc | apply pbdN | apply bdr1 | refine below_set ?_ GE1011.out) | exact HB.out))) : w.heap.size ≤ gb1012)); have n5_ := Aside0.mk ((by rw [hg]; exact Nat.ne_of_lt (blk_lt (g := gb1011) (o := .cells #[.int .i64 a0_0, .int .i64 a0_1, .int .i64 a0_2, .int .i64 a0_3, .int .i64 a0_4, .int .i64 a0_5] 44 (0, 0)) (by (with_reducible repeat (first | refine blk_drewN ?_ _ | refine blk_drew ?_ | refine blk_alloc ?_ _)); exact BK1011.out)) : gb1011 ≠ gb1012)); have n6_ := Aside0.mk ((by rw [hg]; exact Nat.ne_of_gt (blk_lt (g := gb1011) (o := .cells #[.int .i64 a0_0, .int .i64 a0_1, .int .i64 a0_2, .int .i64 a0_3, .int .i64 a0_4, .int .i64 a0_5] 44 (0, 0)) (by (with_reducible repeat (first | refine blk_drewN ?_ _ | refine blk_drew ?_ | refine blk_alloc ?_ _)); exact BK1011.out)) : gb1012 ≠ gb1011)); clear BK1011; clear HB; have BK1011 := n0_; have HB := n1_; have BK1012 := n2_; have GW1012 := n3_; have GE1012 := n4_; have NB1011_581 := n5_; have NB1012_580 := n6_; clear n0_ n1_ n2_ n3_ n4_ n5_ n6_; clear hb hbox hg; have hnb9 := NB1011_581.out; have hnc9 := NB1012_580.out; have hcz10_0 : w8.cell? ⟨gb1011, 0, none⟩ = some (.int .i64 a0_0) := (blk_cell BK1011.out 0).trans rfl; have hcz10_1 : w8.cell? ⟨gb1011, 1, none⟩ = some (.int .i64 a0_1) := (blk_cell BK1011.out 1).trans rfl; have hcz10_2 : w8.cell? ⟨gb1011, 2, none⟩ = some (.int .i64 a0_2) := (blk_cell BK1011.out 2).trans rfl; have hcz10_3 : w8.cell? ⟨gb1011, 3, none⟩ = some (.int .i64 a0_3) := (blk_cell BK1011.out 3).trans rfl; have hcz10_4 : w8.cell? ⟨gb1011, 4, none⟩ = some (.int .i64 a0_4) := (blk_cell BK1011.out 4).trans rfl; have hcz10_5 : w8.cell? ⟨gb1011, 5, none⟩ = some (.int .i64 a0_5) := (blk_cell BK1011.out 5).trans rfl; have hfz10_0 := blk_frozen BK1011.out 0; have hfz10_1 := blk_frozen BK1011.out 1; have hfz10_2 := blk_frozen BK1011.out 2; have hfz10_3 := blk_frozen BK1011.out 3; have hfz10_4 := blk_frozen BK1011.out 4; have hfz10_5 := blk_frozen BK1011.out 5; have hcz11_0 : w8.cell? ⟨gb1012, 0, none⟩ = some (.slice A1_0 l1_0.length c1_0) := (blk_cell BK1012.out 0).trans rfl; have hcz11_1 : w8.cell? ⟨gb1012, 1, none⟩ = some (.slice A1_1 l1_1.length c1_1) := (blk_cell BK1012.out 1).trans rfl; have hfz11_0 := blk_frozen BK1012.out 0; have hfz11_1 := blk_frozen BK1012.out 1) | ((with_reducible refine gate_callee (f := 76) rfl ?_); refine goesL_ (some 14) rfl rfl Try.func76 (by kernel_rfl) rfl #[.agg #[.int .i64 a0_0, .int .i64 a0_1, .int .i64 a0_2, .int .i64 a0_3, .int .i64 a0_4, .int .i64 a0_5], .agg #[.slice A1_0 l1_0.length c1_0, .slice A1_1 l1_1.length c1_1]] rfl (by (try simp only [List.map_toArray, List.map_cons, List.map_nil]); first | done | rfl | (simp only [List.length_drop, List.length_take]; rfl)) ?_; (with_reducible refine (track_Check.calls a0_0 a0_1 a0_2 a0_3 a0_4 a0_5 _ _ l1_0 _ _ l1_1 t1010 _ ?side1 ?side2 ?side3 ?side4 A4.out).mono ?_); (case side1 => repeat (first | exact (Kd.C_below HR1_0.out HB.out) | (with_reducible refine Kd.C_alloc ?_ _) | (with_reducible refine Kd.C_drewN ?_ _) | (with_reducible refine Kd.C_drew ?_))); (case side2 => exact HC1_0.out); (case side3 => repeat (first | exact (Kd.C_below HR1_1.out HB.out) | (with_reducible refine Kd.C_alloc ?_ _) | (with_reducible refine Kd.C_drewN ?_ _) | (with_reducible refine Kd.C_drew ?_))); (case side4 => exact HC1_1.out); rintro e w12 ⟨rfl, hb⟩; refine ⟨_, rfl, ?_⟩; have n0_ := Aside0.mk (blk_below (g := gb1011) (o := .cells #[.int .i64 a0_0, .int .i64 a0_1, .int .i64 a0_2, .int .i64 a0_3, .int .i64 a0_4, .int .i64 a0_5] 44 (0, 0)) (by (with_reducible repeat (first | refine blk_drewN ?_ _ | refine blk_drew ?_ | refine blk_alloc ?_ _)); exact BK1011.out) hb); have n1_ := Aside0.mk (blk_below (g := gb1012) (o := .cells #[.slice A1_0 l1_0.length c1_0, .slice A1_1 l1_1.length c1_1] 25 (0, 0)) (by (with_reducible repeat (first | refine blk_drewN ?_ _ | refine blk_drew ?_ | refine blk_alloc ?_ _)); exact BK1012.out) hb); have n2_ := Aside0.mk (below_step (by repeat (first | (with_reducible first | exact HB.out | apply below_alloc | apply pbdN | apply bdr1 | refine below_set ?_ GE1011.out | refine below_set ?_ GE1012.out) | exact HB.out)) hb); clear BK1011; clear BK1012; clear HB; have BK1011 := n0_; have BK1012 := n1_; have HB := n2_; clear n0_ n1_ n2_; (try clear hb); (try clear hb2); (try clear hk); (try clear hi)))
    (try simp only [Act.put, List.setIfInBounds_toArray, List.set_cons_zero, List.set_cons_succ])
    go_cut [25] (fun v25 wc => ∃ (kq : Nat) (x25_5 : Bool), v25 = .bool x25_5 ∧ Aside0 (page_Read.j0 kq a2 ([] : List Int) x25_5 a0_0 a0_1 a0_2 a0_3 a0_4 a0_5 l1_0 l1_1 = some (r1, r2)) ∧ Aside0 (kq ≤ k) ∧ Aside0 (Kd.R (Kd.int .u8) 5 wc w.heap.size (fun _ => True) (.slice none 0 0) ([] : List Int)) ∧ Aside0 (wc.heap[gb1011]? = some (.cells #[.int .i64 a0_0, .int .i64 a0_1, .int .i64 a0_2, .int .i64 a0_3, .int .i64 a0_4, .int .i64 a0_5] 44 (0, 0))) ∧ Aside0 (wc.heap[gb1012]? = some (.cells #[(.slice A1_0 l1_0.length c1_0), (.slice A1_1 l1_1.length c1_1)] 25 (0, 0))) ∧ Aside0 (Below w.heap.size w wc))
    case first =>
      have H := HC6.out
      clear HC6
      by_cases c13 : a2 < 0
      · rw [if_pos c13] at H
        have c13b0 : decide (a2 < 0) = true := decide_eq_true c13
        clear c13
        (first | rw [c13b0] | (simp only [i64_w, i32_w]; rw [c13b0]) | skip)
        have H' := Aside0.mk H
        clear H
        go_wp2
        go_meet
        case rel => exact ⟨_, (true), (by first | rfl | (simp; done) | (simp [*]; done)), H', ⟨by first | omega | exact Nat.le_refl _⟩, ⟨by first | exact Kd.R_nil _ _ _ _ _ | exact Kd.N_nil _ _ _ _ _ | exact Kd.V_nil _ _ _ _ _ | exact Kd.Q_nil _ _ _ _ _ | exact Kd.S_nil _ _ _ _ _⟩, ⟨by (with_reducible repeat (first | refine blk_drewN ?_ _ | refine blk_drew ?_ | refine blk_alloc ?_ _)); exact BK1011.out⟩, ⟨by (with_reducible repeat (first | refine blk_drewN ?_ _ | refine blk_drew ?_ | refine blk_alloc ?_ _)); exact BK1012.out⟩, ⟨by repeat (first | (with_reducible first | exact HB.out | apply below_alloc | apply pbdN | apply bdr1 | refine below_set ?_ GE1011.out | refine below_set ?_ GE1012.out) | exact HB.out)⟩⟩
      · rw [if_neg c13] at H
        have c13b0 : decide (a2 < 0) = false := decide_eq_false c13
        clear c13
        (first | rw [c13b0] | (simp only [i64_w, i32_w]; rw [c13b0]) | skip)
        have H' := Aside0.mk H
        clear H
        have hnb14 := NB1011_581.out
        have hnc14 := NB1012_580.out
        have hcz15_0 : w12.cell? ⟨gb1011, 0, none⟩ = some (.int .i64 a0_0) := (blk_cell BK1011.out 0).trans rfl
        have hcz15_1 : w12.cell? ⟨gb1011, 1, none⟩ = some (.int .i64 a0_1) := (blk_cell BK1011.out 1).trans rfl
        have hcz15_2 : w12.cell? ⟨gb1011, 2, none⟩ = some (.int .i64 a0_2) := (blk_cell BK1011.out 2).trans rfl
        have hcz15_3 : w12.cell? ⟨gb1011, 3, none⟩ = some (.int .i64 a0_3) := (blk_cell BK1011.out 3).trans rfl
        have hcz15_4 : w12.cell? ⟨gb1011, 4, none⟩ = some (.int .i64 a0_4) := (blk_cell BK1011.out 4).trans rfl
        have hcz15_5 : w12.cell? ⟨gb1011, 5, none⟩ = some (.int .i64 a0_5) := (blk_cell BK1011.out 5).trans rfl
        have hfz15_0 := blk_frozen BK1011.out 0
        have hfz15_1 := blk_frozen BK1011.out 1
        have hfz15_2 := blk_frozen BK1011.out 2
        have hfz15_3 := blk_frozen BK1011.out 3
        have hfz15_4 := blk_frozen BK1011.out 4
        have hfz15_5 := blk_frozen BK1011.out 5
        go_wp2
        go_meet
        case rel => exact ⟨_, (decide (a2 ≥ a0_0)), (by first | rfl | (simp; done) | (simp [*]; done)), H', ⟨by first | omega | exact Nat.le_refl _⟩, ⟨by first | exact Kd.R_nil _ _ _ _ _ | exact Kd.N_nil _ _ _ _ _ | exact Kd.V_nil _ _ _ _ _ | exact Kd.Q_nil _ _ _ _ _ | exact Kd.S_nil _ _ _ _ _⟩, ⟨by (with_reducible repeat (first | refine blk_drewN ?_ _ | refine blk_drew ?_ | refine blk_alloc ?_ _)); exact BK1011.out⟩, ⟨by (with_reducible repeat (first | refine blk_drewN ?_ _ | refine blk_drew ?_ | refine blk_alloc ?_ _)); exact BK1012.out⟩, ⟨by repeat (first | (with_reducible first | exact HB.out | apply below_alloc | apply pbdN | apply bdr1 | refine below_set ?_ GE1011.out | refine below_set ?_ GE1012.out) | exact HB.out)⟩⟩
    case rest =>
      clear HC6
      try clear c1
      try clear p2
      try clear c3
      try clear c5
      try clear c5b0
      try clear c5b1
      try clear c7
      try clear c9
      try clear c13
      try clear c13b0
      try clear c14
      try clear hcz10_0
      try clear hcz10_1
      try clear hcz10_2
      try clear hcz10_3
      try clear hcz10_4
      try clear hcz10_5
      try clear hcz11_0
      try clear hcz11_1
      try clear hcz15_0
      try clear hcz15_1
      try clear hcz15_2
      try clear hcz15_3
      try clear hcz15_4
      try clear hcz15_5
      try clear hfz10_0
      try clear hfz10_1
      try clear hfz10_2
      try clear hfz10_3
      try clear hfz10_4
      try clear hfz10_5
      try clear hfz11_0
      try clear hfz11_1
      try clear hfz15_0
      try clear hfz15_1
      try clear hfz15_2
      try clear hfz15_3
      try clear hfz15_4
      try clear hfz15_5
      obtain ⟨kq, x25_5, rfl, HA, HJ5, HO_6, BK1011, BK1012, HB⟩ := hcut
      cases kq with
      | zero => exact absurd HA.out (by simp [page_Read.j0])
      | succ kj5 =>
        have H := HA.out
        clear HA
        simp only [page_Read.j0] at H
        by_cases c16 : x25_5 = true
        · subst c16
          have H1 : (some (([] : List Int), 2)) = some (r1, r2) := by rw [if_pos rfl] at H; exact H
          clear H
          have H := H1
          clear H1
          simp only [Option.some.injEq, Prod.mk.injEq] at H
          obtain ⟨rfl, rfl⟩ := H
          go_wp2
          go_ret2
          exact ⟨_, by first | rfl | (simp [errW_none, errW_some] <;> rfl) | (simp [*, errW_none, errW_some] <;> rfl), by first | exact Kd.R_nil _ _ _ _ _ | exact Kd.N_nil _ _ _ _ _ | exact Kd.V_nil _ _ _ _ _ | exact Kd.Q_nil _ _ _ _ _ | exact Kd.S_nil _ _ _ _ _, by repeat (first | (with_reducible first | exact HB.out | apply below_alloc | apply pbdN | apply bdr1 | refine below_set ?_ GE1011.out | refine below_set ?_ GE1012.out) | exact HB.out)⟩
        · replace c16 := Bool.eq_false_iff.mpr c16
          subst c16
          have H1 : ((place_Pages.f a0_0 a0_1 a0_2 a0_3 a0_4 a0_5).bind fun bt1008 => (page_Read.l0 kj5 a2 ([] : List Int) bt1008.1 0 a0_0 a0_1 a0_2 a0_3 a0_4 a0_5 l1_0 l1_1)) = some (r1, r2) := by rw [if_neg (show ¬ (false = true) by decide)] at H; exact H
          clear H
          have H := H1
          clear H1
          replace H := Option.bind_eq_some_iff.mp H
          obtain ⟨⟨t1008, t1013⟩, A1014, H⟩ := H
          replace H : (page_Read.l0 kj5 a2 ([] : List Int) t1008 0 a0_0 a0_1 a0_2 a0_3 a0_4 a0_5 l1_0 l1_1) = some (r1, r2) := H
          have A17 := Aside0.mk A1014
          clear A1014
          have H' := Aside0.mk H
          clear H
          have hnb18 := NB1011_581.out
          have hnc18 := NB1012_580.out
          have hcz19_0 : wc.cell? ⟨gb1011, 0, none⟩ = some (.int .i64 a0_0) := (blk_cell BK1011.out 0).trans rfl
          have hcz19_1 : wc.cell? ⟨gb1011, 1, none⟩ = some (.int .i64 a0_1) := (blk_cell BK1011.out 1).trans rfl
          have hcz19_2 : wc.cell? ⟨gb1011, 2, none⟩ = some (.int .i64 a0_2) := (blk_cell BK1011.out 2).trans rfl
          have hcz19_3 : wc.cell? ⟨gb1011, 3, none⟩ = some (.int .i64 a0_3) := (blk_cell BK1011.out 3).trans rfl
          have hcz19_4 : wc.cell? ⟨gb1011, 4, none⟩ = some (.int .i64 a0_4) := (blk_cell BK1011.out 4).trans rfl
          have hcz19_5 : wc.cell? ⟨gb1011, 5, none⟩ = some (.int .i64 a0_5) := (blk_cell BK1011.out 5).trans rfl
          have hfz19_0 := blk_frozen BK1011.out 0
          have hfz19_1 := blk_frozen BK1011.out 1
          have hfz19_2 := blk_frozen BK1011.out 2
          have hfz19_3 := blk_frozen BK1011.out 3
          have hfz19_4 := blk_frozen BK1011.out 4
          have hfz19_5 := blk_frozen BK1011.out 5
          go_wp2_with (first | ((with_reducible refine gate_callee (f := 77) rfl ?_); refine goesL_ (some 28) rfl rfl Try.func77 (by kernel_rfl) rfl #[.agg #[.int .i64 a0_0, .int .i64 a0_1, .int .i64 a0_2, .int .i64 a0_3, .int .i64 a0_4, .int .i64 a0_5]] rfl (by (try simp only [List.map_toArray, List.map_cons, List.map_nil]); first | done | rfl | (simp only [List.length_drop, List.length_take]; rfl)) ?_; (with_reducible refine (place_Pages.calls a0_0 a0_1 a0_2 a0_3 a0_4 a0_5 t1008 t1013 _ A17.out).mono ?_); rintro e w20 ⟨rfl, hb⟩; refine ⟨_, rfl, ?_⟩; have n0_ := Aside0.mk (Kd.R_below (by (with_reducible repeat (first | apply Kd.R_alloc | apply Kd.R_drewN | apply Kd.R_drew)); exact HO_6.out) hb); have n1_ := Aside0.mk (blk_below (g := gb1011) (o := .cells #[.int .i64 a0_0, .int .i64 a0_1, .int .i64 a0_2, .int .i64 a0_3, .int .i64 a0_4, .int .i64 a0_5] 44 (0, 0)) (by (with_reducible repeat (first | refine blk_drewN ?_ _ | refine blk_drew ?_ | refine blk_alloc ?_ _)); exact BK1011.out) hb); have n2_ := Aside0.mk (blk_below (g := gb1012) (o := .cells #[.slice A1_0 l1_0.length c1_0, .slice A1_1 l1_1.length c1_1] 25 (0, 0)) (by (with_reducible repeat (first | refine blk_drewN ?_ _ | refine blk_drew ?_ | refine blk_alloc ?_ _)); exact BK1012.out) hb); have n3_ := Aside0.mk (below_step (by repeat (first | (with_reducible first | exact HB.out | apply below_alloc | apply pbdN | apply bdr1 | refine below_set ?_ GE1011.out | refine below_set ?_ GE1012.out) | exact HB.out)) hb); clear HO_6; clear BK1011; clear BK1012; clear HB; have HO_6 := n0_; have BK1011 := n1_; have BK1012 := n2_; have HB := n3_; clear n0_ n1_ n2_ n3_; (try clear hb); (try clear hb2); (try clear hk); (try clear hi)))
          go_loopg [6, 32] kj5 (fun kq v6 v32 w' => ∃ (x6_2 : List Int) (x32_2 : Int), v32 = .int .i64 x32_2 ∧ Aside0 (page_Read.l0 kq a2 x6_2 t1008 x32_2 a0_0 a0_1 a0_2 a0_3 a0_4 a0_5 l1_0 l1_1 = some (r1, r2)) ∧ Aside0 (kq ≤ kj5) ∧ Aside0 (Kd.R (Kd.int .u8) 5 w' w.heap.size (fun _ => True) v6 x6_2) ∧ Aside0 (w'.heap[gb1011]? = some (.cells #[.int .i64 a0_0, .int .i64 a0_1, .int .i64 a0_2, .int .i64 a0_3, .int .i64 a0_4, .int .i64 a0_5] 44 (0, 0))) ∧ Aside0 (w'.heap[gb1012]? = some (.cells #[(.slice A1_0 l1_0.length c1_0), (.slice A1_1 l1_1.length c1_1)] 25 (0, 0))) ∧ Aside0 (Below w.heap.size w w'))
          case atStart => exact ⟨(([] : List Int)), (0), (by first | rfl | (simp; done) | (simp [*]; done)), H', ⟨Nat.le_refl _⟩, ⟨by (with_reducible repeat (first | apply Kd.R_alloc | apply Kd.R_drewN | apply Kd.R_drew)); exact HO_6.out⟩, ⟨by (with_reducible repeat (first | refine blk_drewN ?_ _ | refine blk_drew ?_ | refine blk_alloc ?_ _)); exact BK1011.out⟩, ⟨by (with_reducible repeat (first | refine blk_drewN ?_ _ | refine blk_drew ?_ | refine blk_alloc ?_ _)); exact BK1012.out⟩, ⟨by repeat (first | (with_reducible first | exact HB.out | apply below_alloc | apply pbdN | apply bdr1 | refine below_set ?_ GE1011.out | refine below_set ?_ GE1012.out) | exact HB.out)⟩⟩
          case round =>
            clear H'
            try clear c1
            try clear p2
            try clear c3
            try clear c5
            try clear c5b0
            try clear c5b1
            try clear c7
            try clear c9
            try clear c13
            try clear c13b0
            try clear c14
            try clear c16
            try clear c18
            try clear hcz10_0
            try clear hcz10_1
            try clear hcz10_2
            try clear hcz10_3
            try clear hcz10_4
            try clear hcz10_5
            try clear hcz11_0
            try clear hcz11_1
            try clear hcz15_0
            try clear hcz15_1
            try clear hcz15_2
            try clear hcz15_3
            try clear hcz15_4
            try clear hcz15_5
            try clear hcz19_0
            try clear hcz19_1
            try clear hcz19_2
            try clear hcz19_3
            try clear hcz19_4
            try clear hcz19_5
            try clear hfz10_0
            try clear hfz10_1
            try clear hfz10_2
            try clear hfz10_3
            try clear hfz10_4
            try clear hfz10_5
            try clear hfz11_0
            try clear hfz11_1
            try clear hfz15_0
            try clear hfz15_1
            try clear hfz15_2
            try clear hfz15_3
            try clear hfz15_4
            try clear hfz15_5
            try clear hfz19_0
            try clear hfz19_1
            try clear hfz19_2
            try clear hfz19_3
            try clear hfz19_4
            try clear hfz19_5
            try clear p2
            obtain ⟨x6_2, x32_2, rfl, HA, HK2, HO_6, BK1011, BK1012, HB⟩ := hrel
            cases gk with
            | zero => exact absurd HA.out (by simp [page_Read.l0])
            | succ k2 =>
              have H := HA.out
              clear HA
              simp only [page_Read.l0] at H
              by_cases c21 : x32_2 < t1008
              · rw [if_pos c21] at H
                have c21b0 : decide (x32_2 < t1008) = true := decide_eq_true c21
                clear c21
                replace H := Option.bind_eq_some_iff.mp H
                obtain ⟨t1009, A1015, H⟩ := H
                replace H : (if x6_2.length < 140737488355328 then (page_Read.l0 k2 a2 (x6_2 ++ [t1009]) t1008 (wrap64 (x32_2 + 1)) a0_0 a0_1 a0_2 a0_3 a0_4 a0_5 l1_0 l1_1) else (none)) = some (r1, r2) := H
                have A22 := Aside0.mk A1015
                clear A1015
                by_cases c23 : x6_2.length < 140737488355328
                · rw [if_pos c23] at H
                  have LMc23 := Aside0.mk c23
                  clear c23
                  obtain ⟨y1016, hy1016⟩ : ∃ y_ : List Int, y_ = (x6_2 ++ [t1009]) := ⟨_, rfl⟩
                  replace H : (page_Read.l0 k2 a2 y1016 t1008 (wrap64 (x32_2 + 1)) a0_0 a0_1 a0_2 a0_3 a0_4 a0_5 l1_0 l1_1) = some (r1, r2) := by first | (rw [hy1016]; with_reducible exact H) | (have H2_ := (Option.bind_some _ _).symm.trans H; rw [hy1016]; with_reducible exact H2_) | (have H2_ := (Option.bind_some _ _).symm.trans H; with_reducible exact H2_) | with_reducible exact H | (rw [hy1016]; exact H) | exact H
                  have Ny1016 := Aside0.mk hy1016
                  clear hy1016
                  have H' := Aside0.mk H
                  clear H
                  have hnb24 := NB1011_581.out
                  have hnc24 := NB1012_580.out
                  have hcz25_0 : wr.cell? ⟨gb1011, 0, none⟩ = some (.int .i64 a0_0) := (blk_cell BK1011.out 0).trans rfl
                  have hcz25_1 : wr.cell? ⟨gb1011, 1, none⟩ = some (.int .i64 a0_1) := (blk_cell BK1011.out 1).trans rfl
                  have hcz25_2 : wr.cell? ⟨gb1011, 2, none⟩ = some (.int .i64 a0_2) := (blk_cell BK1011.out 2).trans rfl
                  have hcz25_3 : wr.cell? ⟨gb1011, 3, none⟩ = some (.int .i64 a0_3) := (blk_cell BK1011.out 3).trans rfl
                  have hcz25_4 : wr.cell? ⟨gb1011, 4, none⟩ = some (.int .i64 a0_4) := (blk_cell BK1011.out 4).trans rfl
                  have hcz25_5 : wr.cell? ⟨gb1011, 5, none⟩ = some (.int .i64 a0_5) := (blk_cell BK1011.out 5).trans rfl
                  have hfz25_0 := blk_frozen BK1011.out 0
                  have hfz25_1 := blk_frozen BK1011.out 1
                  have hfz25_2 := blk_frozen BK1011.out 2
                  have hfz25_3 := blk_frozen BK1011.out 3
                  have hfz25_4 := blk_frozen BK1011.out 4
                  have hfz25_5 := blk_frozen BK1011.out 5
                  have hcz26_0 : wr.cell? ⟨gb1012, 0, none⟩ = some (.slice A1_0 l1_0.length c1_0) := (blk_cell BK1012.out 0).trans rfl
                  have hcz26_1 : wr.cell? ⟨gb1012, 1, none⟩ = some (.slice A1_1 l1_1.length c1_1) := (blk_cell BK1012.out 1).trans rfl
                  have hfz26_0 := blk_frozen BK1012.out 0
                  have hfz26_1 := blk_frozen BK1012.out 1
                  go_wp2_with (first | ((with_reducible refine gate_callee (f := 78) rfl ?_); refine goesL_ (some 40) rfl rfl Try.func78 (by kernel_rfl) rfl #[.agg #[.int .i64 a0_0, .int .i64 a0_1, .int .i64 a0_2, .int .i64 a0_3, .int .i64 a0_4, .int .i64 a0_5], .agg #[.slice A1_0 l1_0.length c1_0, .slice A1_1 l1_1.length c1_1], .int .i64 a2, .int .i64 x32_2] rfl (by (try simp only [List.map_toArray, List.map_cons, List.map_nil]); first | done | rfl | (simp only [List.length_drop, List.length_take]; rfl)) ?_; (with_reducible refine (hTold.calls a0_0 a0_1 a0_2 a0_3 a0_4 a0_5 _ _ l1_0 _ _ l1_1 a2 x32_2 t1009 _ ?side1 ?side2 ?side3 ?side4 A22.out).mono ?_); (case side1 => repeat (first | exact (Kd.C_below HR1_0.out HB.out) | (with_reducible refine Kd.C_alloc ?_ _) | (with_reducible refine Kd.C_drewN ?_ _) | (with_reducible refine Kd.C_drew ?_))); (case side2 => exact HC1_0.out); (case side3 => repeat (first | exact (Kd.C_below HR1_1.out HB.out) | (with_reducible refine Kd.C_alloc ?_ _) | (with_reducible refine Kd.C_drewN ?_ _) | (with_reducible refine Kd.C_drew ?_))); (case side4 => exact HC1_1.out); rintro e w27 ⟨rfl, hb⟩; refine ⟨_, rfl, ?_⟩; have n0_ := Aside0.mk (Kd.R_below (by (with_reducible repeat (first | apply Kd.R_alloc | apply Kd.R_drewN | apply Kd.R_drew)); exact HO_6.out) hb); have n1_ := Aside0.mk (blk_below (g := gb1011) (o := .cells #[.int .i64 a0_0, .int .i64 a0_1, .int .i64 a0_2, .int .i64 a0_3, .int .i64 a0_4, .int .i64 a0_5] 44 (0, 0)) (by (with_reducible repeat (first | refine blk_drewN ?_ _ | refine blk_drew ?_ | refine blk_alloc ?_ _)); exact BK1011.out) hb); have n2_ := Aside0.mk (blk_below (g := gb1012) (o := .cells #[.slice A1_0 l1_0.length c1_0, .slice A1_1 l1_1.length c1_1] 25 (0, 0)) (by (with_reducible repeat (first | refine blk_drewN ?_ _ | refine blk_drew ?_ | refine blk_alloc ?_ _)); exact BK1012.out) hb); have n3_ := Aside0.mk (below_step (by repeat (first | (with_reducible first | exact HB.out | apply below_alloc | apply pbdN | apply bdr1 | refine below_set ?_ GE1011.out | refine below_set ?_ GE1012.out) | exact HB.out)) hb); clear HO_6; clear BK1011; clear BK1012; clear HB; have HO_6 := n0_; have BK1011 := n1_; have BK1012 := n2_; have HB := n3_; clear n0_ n1_ n2_ n3_; (try clear hb); (try clear hb2); (try clear hk); (try clear hi)) | ((with_reducible refine gate_builtin (b := .append) (xs := #[.tmp 35, .tmp 41]) rfl ?_); at_builtin; refine Kd.R_append (Kd.int .u8) (w0 := w) w.heap.size rfl (.tmp 35) (.tmp 41) 31 5 (.int .u8 0) 1 rfl Try.underlying31 info5 rfl (by decide) (by omega) u6 x6_2 t1009 [.int .u8 t1009] (fun _ => True) (fun _ => False) rfl rfl ?aP (fun _ hk => hk.elim) ?aF ?aO ?aB ?aS ?aL ?_; (case aP => exact rfl); (case aB => exact (by repeat (first | (with_reducible first | exact HB.out | apply below_alloc | apply pbdN | apply bdr1 | refine below_set ?_ GE1011.out | refine below_set ?_ GE1012.out) | exact HB.out))); (case aF => exact (fun _ _ => trivial)); (case aO => exact (by (with_reducible repeat (first | apply Kd.R_alloc | apply Kd.R_drewN | apply Kd.R_drew)); exact HO_6.out)); (case aS => exact (below_size (by repeat (first | (with_reducible first | exact HB.out | apply below_alloc | apply pbdN | apply bdr1 | refine below_set ?_ GE1011.out | refine below_set ?_ GE1012.out) | exact HB.out)))); (case aL => have := LMc23.out; omega); intro v1017 w28 ho hb hg hat; (first | (simp only [Int.reduceToNat] at ho; rw [← Ny1016.out] at ho) | rw [← Ny1016.out] at ho); have n0_ := Aside0.mk (blk_grown (g := gb1011) (o := .cells #[.int .i64 a0_0, .int .i64 a0_1, .int .i64 a0_2, .int .i64 a0_3, .int .i64 a0_4, .int .i64 a0_5] 44 (0, 0)) (by (with_reducible repeat (first | refine blk_drewN ?_ _ | refine blk_drew ?_ | refine blk_alloc ?_ _)); exact BK1011.out) hg (Kd.R_ne HO_6.out BK1011.out (by decide))); have n1_ := Aside0.mk (blk_grown (g := gb1012) (o := .cells #[.slice A1_0 l1_0.length c1_0, .slice A1_1 l1_1.length c1_1] 25 (0, 0)) (by (with_reducible repeat (first | refine blk_drewN ?_ _ | refine blk_drew ?_ | refine blk_alloc ?_ _)); exact BK1012.out) hg (Kd.R_ne HO_6.out BK1012.out (by decide))); have n2_ := Aside0.mk (hb); have n3_ := Aside0.mk (ho); clear BK1011; clear BK1012; clear HB; clear HO_6; have BK1011 := n0_; have BK1012 := n1_; have HB := n2_; have HO1018 := n3_; clear n0_ n1_ n2_ n3_; clear ho hb hg hat))
                  go_roundg k2
                  case measure => have := HJ5.out; have := HK2.out; omega
                  case rel => exact ⟨(y1016), (wrap64 (x32_2 + 1)), (by first | rfl | (simp; done) | (simp [*]; done)), H', ⟨by have := HJ5.out; have := HK2.out; omega⟩, ⟨by (with_reducible repeat (first | apply Kd.R_alloc | apply Kd.R_drewN | apply Kd.R_drew)); exact HO1018.out⟩, ⟨by (with_reducible repeat (first | refine blk_drewN ?_ _ | refine blk_drew ?_ | refine blk_alloc ?_ _)); exact BK1011.out⟩, ⟨by (with_reducible repeat (first | refine blk_drewN ?_ _ | refine blk_drew ?_ | refine blk_alloc ?_ _)); exact BK1012.out⟩, ⟨by repeat (first | (with_reducible first | exact HB.out | apply below_alloc | apply pbdN | apply bdr1 | refine below_set ?_ GE1011.out | refine below_set ?_ GE1012.out) | exact HB.out)⟩⟩
                · rw [if_neg c23] at H
                  exact absurd H (by simp)
              · rw [if_neg c21] at H
                have c21b0 : decide (x32_2 < t1008) = false := decide_eq_false c21
                clear c21
                simp only [Option.some.injEq, Prod.mk.injEq] at H
                obtain ⟨rfl, rfl⟩ := H
                go_wp2
                go_ret2
                exact ⟨_, by first | rfl | (simp [errW_none, errW_some] <;> rfl) | (simp [*, errW_none, errW_some] <;> rfl), by (with_reducible repeat (first | apply Kd.R_alloc | apply Kd.R_drewN | apply Kd.R_drew)); exact HO_6.out, by repeat (first | (with_reducible first | exact HB.out | apply below_alloc | apply pbdN | apply bdr1 | refine below_set ?_ GE1011.out | refine below_set ?_ GE1012.out) | exact HB.out)⟩
  · rw [if_neg c5] at H
    have c5b0 : (t1010 == 0) = false := beq_eq_false_iff_ne.mpr c5
    have c5b1 : (t1010 != 0) = true := bne_iff_ne.mpr c5
    simp only [Option.some.injEq, Prod.mk.injEq] at H
    obtain ⟨rfl, rfl⟩ := H
    go_enter Try.func36, Try.ntmps36
    go_wp2_with (first | ((with_reducible refine gate_dst (N := 3) rfl ?_); refine box_event ?hg (N := 3) ?hd (cs := #[.int .i64 a0_0, .int .i64 a0_1, .int .i64 a0_2, .int .i64 a0_3, .int .i64 a0_4, .int .i64 a0_5]) (t := 44) ?hr ?_; (case hd => rfl); (case hg => rfl); (case hr => first | (go_simp; done) | (go_simp; rfl)); intro gb1011 hg w29 hbox hb; have n0_ := Aside0.mk (below_step (by repeat (first | (with_reducible first | exact HB.out | apply below_alloc | apply pbdN | apply bdr1) | exact HB.out)) hb); have n1_ := Aside0.mk (hbox); have n2_ := Aside0.mk ((by rw [hg]; exact (below_size (by repeat (first | (with_reducible first | exact HB.out | apply below_alloc | apply pbdN | apply bdr1) | exact HB.out))) : w.heap.size ≤ gb1011)); have n3_ := Aside0.mk ((by rw [hg]; exact (below_size (by repeat (first | (with_reducible first | exact HB.out | apply below_alloc | apply pbdN | apply bdr1) | exact HB.out))) : w.heap.size ≤ gb1011)); clear HB; have HB := n0_; have BK1011 := n1_; have GW1011 := n2_; have GE1011 := n3_; clear n0_ n1_ n2_ n3_; clear hb hbox hg) | ((with_reducible refine gate_dst (N := 4) rfl ?_); refine box_event ?hg (N := 4) ?hd (cs := #[.slice A1_0 l1_0.length c1_0, .slice A1_1 l1_1.length c1_1]) (t := 25) ?hr ?_; (case hd => rfl); (case hg => rfl); (case hr => first | (go_simp; done) | (go_simp; rfl)); intro gb1012 hg w30 hbox hb; have n0_ := Aside0.mk (blk_below (g := gb1011) (o := .cells #[.int .i64 a0_0, .int .i64 a0_1, .int .i64 a0_2, .int .i64 a0_3, .int .i64 a0_4, .int .i64 a0_5] 44 (0, 0)) (by (with_reducible repeat (first | refine blk_drewN ?_ _ | refine blk_drew ?_ | refine blk_alloc ?_ _)); exact BK1011.out) hb); have n1_ := Aside0.mk (below_step (by repeat (first | (with_reducible first | exact HB.out | apply below_alloc | apply pbdN | apply bdr1 | refine below_set ?_ GE1011.out) | exact HB.out)) hb); have n2_ := Aside0.mk (hbox); have n3_ := Aside0.mk ((by rw [hg]; exact (below_size (by repeat (first | (with_reducible first | exact HB.out | apply below_alloc | apply pbdN | apply bdr1 | refine below_set ?_ GE1011.out) | exact HB.out))) : w.heap.size ≤ gb1012)); have n4_ := Aside0.mk ((by rw [hg]; exact (below_size (by repeat (first | (with_reducible first | exact HB.out | apply below_alloc | apply pbdN | apply bdr1 | refine below_set ?_ GE1011.out) | exact HB.out))) : w.heap.size ≤ gb1012)); have n5_ := Aside0.mk ((by rw [hg]; exact Nat.ne_of_lt (blk_lt (g := gb1011) (o := .cells #[.int .i64 a0_0, .int .i64 a0_1, .int .i64 a0_2, .int .i64 a0_3, .int .i64 a0_4, .int .i64 a0_5] 44 (0, 0)) (by (with_reducible repeat (first | refine blk_drewN ?_ _ | refine blk_drew ?_ | refine blk_alloc ?_ _)); exact BK1011.out)) : gb1011 ≠ gb1012)); have n6_ := Aside0.mk ((by rw [hg]; exact Nat.ne_of_gt (blk_lt (g := gb1011) (o := .cells #[.int .i64 a0_0, .int .i64 a0_1, .int .i64 a0_2, .int .i64 a0_3, .int .i64 a0_4, .int .i64 a0_5] 44 (0, 0)) (by (with_reducible repeat (first | refine blk_drewN ?_ _ | refine blk_drew ?_ | refine blk_alloc ?_ _)); exact BK1011.out)) : gb1012 ≠ gb1011)); clear BK1011; clear HB; have BK1011 := n0_; have HB := n1_; have BK1012 := n2_; have GW1012 := n3_; have GE1012 := n4_; have NB1011_581 := n5_; have NB1012_580 := n6_; clear n0_ n1_ n2_ n3_ n4_ n5_ n6_; clear hb hbox hg; have hnb31 := NB1011_581.out; have hnc31 := NB1012_580.out; have hcz32_0 : w30.cell? ⟨gb1011, 0, none⟩ = some (.int .i64 a0_0) := (blk_cell BK1011.out 0).trans rfl; have hcz32_1 : w30.cell? ⟨gb1011, 1, none⟩ = some (.int .i64 a0_1) := (blk_cell BK1011.out 1).trans rfl; have hcz32_2 : w30.cell? ⟨gb1011, 2, none⟩ = some (.int .i64 a0_2) := (blk_cell BK1011.out 2).trans rfl; have hcz32_3 : w30.cell? ⟨gb1011, 3, none⟩ = some (.int .i64 a0_3) := (blk_cell BK1011.out 3).trans rfl; have hcz32_4 : w30.cell? ⟨gb1011, 4, none⟩ = some (.int .i64 a0_4) := (blk_cell BK1011.out 4).trans rfl; have hcz32_5 : w30.cell? ⟨gb1011, 5, none⟩ = some (.int .i64 a0_5) := (blk_cell BK1011.out 5).trans rfl; have hfz32_0 := blk_frozen BK1011.out 0; have hfz32_1 := blk_frozen BK1011.out 1; have hfz32_2 := blk_frozen BK1011.out 2; have hfz32_3 := blk_frozen BK1011.out 3; have hfz32_4 := blk_frozen BK1011.out 4; have hfz32_5 := blk_frozen BK1011.out 5; have hcz33_0 : w30.cell? ⟨gb1012, 0, none⟩ = some (.slice A1_0 l1_0.length c1_0) := (blk_cell BK1012.out 0).trans rfl; have hcz33_1 : w30.cell? ⟨gb1012, 1, none⟩ = some (.slice A1_1 l1_1.length c1_1) := (blk_cell BK1012.out 1).trans rfl; have hfz33_0 := blk_frozen BK1012.out 0; have hfz33_1 := blk_frozen BK1012.out 1) | ((with_reducible refine gate_callee (f := 76) rfl ?_); refine goesL_ (some 14) rfl rfl Try.func76 (by kernel_rfl) rfl #[.agg #[.int .i64 a0_0, .int .i64 a0_1, .int .i64 a0_2, .int .i64 a0_3, .int .i64 a0_4, .int .i64 a0_5], .agg #[.slice A1_0 l1_0.length c1_0, .slice A1_1 l1_1.length c1_1]] rfl (by (try simp only [List.map_toArray, List.map_cons, List.map_nil]); first | done | rfl | (simp only [List.length_drop, List.length_take]; rfl)) ?_; (with_reducible refine (track_Check.calls a0_0 a0_1 a0_2 a0_3 a0_4 a0_5 _ _ l1_0 _ _ l1_1 t1010 _ ?side1 ?side2 ?side3 ?side4 A4.out).mono ?_); (case side1 => repeat (first | exact (Kd.C_below HR1_0.out HB.out) | (with_reducible refine Kd.C_alloc ?_ _) | (with_reducible refine Kd.C_drewN ?_ _) | (with_reducible refine Kd.C_drew ?_))); (case side2 => exact HC1_0.out); (case side3 => repeat (first | exact (Kd.C_below HR1_1.out HB.out) | (with_reducible refine Kd.C_alloc ?_ _) | (with_reducible refine Kd.C_drewN ?_ _) | (with_reducible refine Kd.C_drew ?_))); (case side4 => exact HC1_1.out); rintro e w34 ⟨rfl, hb⟩; refine ⟨_, rfl, ?_⟩; have n0_ := Aside0.mk (blk_below (g := gb1011) (o := .cells #[.int .i64 a0_0, .int .i64 a0_1, .int .i64 a0_2, .int .i64 a0_3, .int .i64 a0_4, .int .i64 a0_5] 44 (0, 0)) (by (with_reducible repeat (first | refine blk_drewN ?_ _ | refine blk_drew ?_ | refine blk_alloc ?_ _)); exact BK1011.out) hb); have n1_ := Aside0.mk (blk_below (g := gb1012) (o := .cells #[.slice A1_0 l1_0.length c1_0, .slice A1_1 l1_1.length c1_1] 25 (0, 0)) (by (with_reducible repeat (first | refine blk_drewN ?_ _ | refine blk_drew ?_ | refine blk_alloc ?_ _)); exact BK1012.out) hb); have n2_ := Aside0.mk (below_step (by repeat (first | (with_reducible first | exact HB.out | apply below_alloc | apply pbdN | apply bdr1 | refine below_set ?_ GE1011.out | refine below_set ?_ GE1012.out) | exact HB.out)) hb); clear BK1011; clear BK1012; clear HB; have BK1011 := n0_; have BK1012 := n1_; have HB := n2_; clear n0_ n1_ n2_; (try clear hb); (try clear hb2); (try clear hk); (try clear hi)))
    go_ret2
    exact ⟨_, by first | rfl | (simp [errW_none, errW_some] <;> rfl) | (simp [*, errW_none, errW_some] <;> rfl), by first | exact Kd.R_nil _ _ _ _ _ | exact Kd.N_nil _ _ _ _ _ | exact Kd.V_nil _ _ _ _ _ | exact Kd.Q_nil _ _ _ _ _ | exact Kd.S_nil _ _ _ _ _, by repeat (first | (with_reducible first | exact HB.out | apply below_alloc | apply pbdN | apply bdr1 | refine below_set ?_ GE1011.out | refine below_set ?_ GE1012.out) | exact HB.out)⟩
end Go.Proofs.Ytdkjhcdniepbhaa.P
end
section
set_option linter.unusedVariables false
set_option linter.unusedSimpArgs false
namespace Go.Proofs.Ytdkjhcdniepbhaa.P
open Go.RowKit Go.Proofs.PrintWords Go.Proofs.PrintLast Go.Proofs.PrintMore
attribute [local go_sem] max2_int min2_int max_two min_two max_three min_three max_four min_four
mutual
def catamaranlaw13_PageReads.j0 : Nat → List Int → Bool → List (S39) → List (S49) → List (S39) → List (S49) → Option (Bool)
  | 0, _, _, _, _, _, _ => none
  | k + 1, x8, x12, x1000, x1001, x1002, x1003 => catamaranlaw13_PageReads.l0 k x8 x12 0 x1000 x1001 x1002 x1003
def catamaranlaw13_PageReads.l0 : Nat → List Int → Bool → Int → List (S39) → List (S49) → List (S39) → List (S49) → Option (Bool)
  | 0, _, _, _, _, _, _, _ => none
  | k + 1, x8, x12, x13, x1000, x1001, x1002, x1003 => if x13 < (x8.length : Int) then (if 0 ≤ x13 then (catamaranlaw13_PageReads.l0 k (x8.set (x13 : Int).toNat (((rd x8 x13) + 1) % 256)) x12 (wrap64 (x13 + 1)) x1000 x1001 x1002 x1003) else (none)) else (if x12 = true then ((hSame.f x1002 x1003 x1000 x1001).bind fun t1004 => (some t1004)) else (some false))
end
def catamaranlaw13_PageReads.f (k : Nat) (a0_0 : Int) (a0_1 : Int) (a0_2 : Int) (a0_3 : Int) (a0_4 : Int) (a0_5 : Int) (l1_0 : List (S39)) (l1_1 : List (S49)) (a2 : Int) : Option (Bool) := (catamaranref05_Great.f k l1_0 l1_1 300).bind fun t1005 => (if t1005 = true then (some true) else ((catamaranref05_Twin.f k l1_0 l1_1).bind fun bt1006 => ((page_Read.f k a0_0 a0_1 a0_2 a0_3 a0_4 a0_5 bt1006.1 bt1006.2 a2).bind fun bt1007 => ((catamaranref13_Read.f k a0_0 a0_1 a0_2 a0_3 a0_4 a0_5 l1_0 l1_1 a2).bind fun bt1008 => (if (strOfNums bt1007.1).toList = (strOfNums bt1008.1).toList then (catamaranlaw13_PageReads.j0 k bt1007.1 (bt1007.2 == bt1008.2) l1_0 l1_1 bt1006.1 bt1006.2) else (catamaranlaw13_PageReads.j0 k bt1007.1 false l1_0 l1_1 bt1006.1 bt1006.2))))))
theorem catamaranlaw13_PageReads.mono_l : ∀ k, (∀ y0 y1 y2 y3 y4 y5, LeO (catamaranlaw13_PageReads.j0 k y0 y1 y2 y3 y4 y5) (catamaranlaw13_PageReads.j0 (k + 1) y0 y1 y2 y3 y4 y5)) ∧ (∀ y0 y1 y2 y3 y4 y5 y6, LeO (catamaranlaw13_PageReads.l0 k y0 y1 y2 y3 y4 y5 y6) (catamaranlaw13_PageReads.l0 (k + 1) y0 y1 y2 y3 y4 y5 y6))
  | 0 => ⟨fun _ _ _ _ _ _ r h => by simp [catamaranlaw13_PageReads.j0] at h, fun _ _ _ _ _ _ _ r h => by simp [catamaranlaw13_PageReads.l0] at h⟩
  | k + 1 => by
    obtain ⟨ih0, ih1⟩ := catamaranlaw13_PageReads.mono_l k
    refine ⟨?_, ?_⟩
    · intro y0 y1 y2 y3 y4 y5
      unfold catamaranlaw13_PageReads.j0
      repeat' first
      | (with_reducible exact ih0 _ _ _ _ _ _)
      | (with_reducible exact ih1 _ _ _ _ _ _ _)
      | (with_reducible exact catamaranref05_Great.mono _ _ _ _)
      | (with_reducible exact catamaranref05_Twin.mono _ _ _)
      | (with_reducible exact catamaranref13_Read.mono _ _ _ _ _ _ _ _ _ _)
      | (with_reducible exact page_Read.mono _ _ _ _ _ _ _ _ _ _)
      | (with_reducible exact LeO.refl _)
      | (with_reducible exact LeO.none _)
      | (with_reducible refine LeO.ite ?_ ?_)
      | (with_reducible refine LeO.bind ?_ (fun _ => ?_))
      | exact ih0 _ _ _ _ _ _
      | exact ih1 _ _ _ _ _ _ _
      | exact catamaranref05_Great.mono _ _ _ _
      | exact catamaranref05_Twin.mono _ _ _
      | exact catamaranref13_Read.mono _ _ _ _ _ _ _ _ _ _
      | exact page_Read.mono _ _ _ _ _ _ _ _ _ _
      | exact LeO.none _
      | refine LeO.ite ?_ ?_
      | refine LeO.bind ?_ (fun _ => ?_)
    · intro y0 y1 y2 y3 y4 y5 y6
      unfold catamaranlaw13_PageReads.l0
      repeat' first
      | (with_reducible exact ih0 _ _ _ _ _ _)
      | (with_reducible exact ih1 _ _ _ _ _ _ _)
      | (with_reducible exact catamaranref05_Great.mono _ _ _ _)
      | (with_reducible exact catamaranref05_Twin.mono _ _ _)
      | (with_reducible exact catamaranref13_Read.mono _ _ _ _ _ _ _ _ _ _)
      | (with_reducible exact page_Read.mono _ _ _ _ _ _ _ _ _ _)
      | (with_reducible exact LeO.refl _)
      | (with_reducible exact LeO.none _)
      | (with_reducible refine LeO.ite ?_ ?_)
      | (with_reducible refine LeO.bind ?_ (fun _ => ?_))
      | exact ih0 _ _ _ _ _ _
      | exact ih1 _ _ _ _ _ _ _
      | exact catamaranref05_Great.mono _ _ _ _
      | exact catamaranref05_Twin.mono _ _ _
      | exact catamaranref13_Read.mono _ _ _ _ _ _ _ _ _ _
      | exact page_Read.mono _ _ _ _ _ _ _ _ _ _
      | exact LeO.none _
      | refine LeO.ite ?_ ?_
      | refine LeO.bind ?_ (fun _ => ?_)
theorem catamaranlaw13_PageReads.mono : ∀ a0 a1 a2 a3 a4 a5 a6 a7 a8 k, LeO (catamaranlaw13_PageReads.f k a0 a1 a2 a3 a4 a5 a6 a7 a8) (catamaranlaw13_PageReads.f (k + 1) a0 a1 a2 a3 a4 a5 a6 a7 a8) := by
  intro a0 a1 a2 a3 a4 a5 a6 a7 a8 k
  obtain ⟨ih0, ih1⟩ := catamaranlaw13_PageReads.mono_l k
  unfold catamaranlaw13_PageReads.f
  repeat' first
      | (with_reducible exact ih0 _ _ _ _ _ _)
      | (with_reducible exact ih1 _ _ _ _ _ _ _)
      | (with_reducible exact catamaranref05_Great.mono _ _ _ _)
      | (with_reducible exact catamaranref05_Twin.mono _ _ _)
      | (with_reducible exact catamaranref13_Read.mono _ _ _ _ _ _ _ _ _ _)
      | (with_reducible exact page_Read.mono _ _ _ _ _ _ _ _ _ _)
      | (with_reducible exact LeO.refl _)
      | (with_reducible exact LeO.none _)
      | (with_reducible refine LeO.ite ?_ ?_)
      | (with_reducible refine LeO.bind ?_ (fun _ => ?_))
      | exact ih0 _ _ _ _ _ _
      | exact ih1 _ _ _ _ _ _ _
      | exact catamaranref05_Great.mono _ _ _ _
      | exact catamaranref05_Twin.mono _ _ _
      | exact catamaranref13_Read.mono _ _ _ _ _ _ _ _ _ _
      | exact page_Read.mono _ _ _ _ _ _ _ _ _ _
      | exact LeO.none _
      | refine LeO.ite ?_ ?_
      | refine LeO.bind ?_ (fun _ => ?_)
set_option maxHeartbeats 8000000 in
set_option maxRecDepth 100000 in
theorem catamaranlaw13_PageReads.calls (k : Nat) (a0_0 : Int) (a0_1 : Int) (a0_2 : Int) (a0_3 : Int) (a0_4 : Int) (a0_5 : Int) (A1_0 : Option Addr) (c1_0 : Nat) (l1_0 : List (S39)) (A1_1 : Option Addr) (c1_1 : Nat) (l1_1 : List (S49)) (a2 : Int) (r : Bool) (w : World) (hr1_0 : Kd.C k39 w A1_0 l1_0.length l1_0) (hc1_0 : l1_0.length ≤ c1_0) (hr1_1 : Kd.C k49 w A1_1 l1_1.length l1_1) (hc1_1 : l1_1.length ≤ c1_1) (h : catamaranlaw13_PageReads.f k a0_0 a0_1 a0_2 a0_3 a0_4 a0_5 l1_0 l1_1 a2 = some r) :
    Calls Try.prog 7 #[.agg #[.int .i64 a0_0, .int .i64 a0_1, .int .i64 a0_2, .int .i64 a0_3, .int .i64 a0_4, .int .i64 a0_5], .agg #[.slice A1_0 l1_0.length c1_0, .slice A1_1 l1_1.length c1_1], .int .i64 a2] w fun e w' => e = .returned (.bool r) ∧ Below w.heap.size w w' := by
  have hu44 := Try.underlying44
  have hu25 := Try.underlying25
  have HR1_0 := Aside0.mk hr1_0
  have HC1_0 := Aside0.mk hc1_0
  clear hr1_0 hc1_0
  have HR1_1 := Aside0.mk hr1_1
  have HC1_1 := Aside0.mk hc1_1
  clear hr1_1 hc1_1
  have HB := Aside0.mk (Below.refl w.heap.size w)
  have H : ((catamaranref05_Great.f k l1_0 l1_1 300).bind fun t1005 => (if t1005 = true then (some true) else ((catamaranref05_Twin.f k l1_0 l1_1).bind fun bt1006 => ((page_Read.f k a0_0 a0_1 a0_2 a0_3 a0_4 a0_5 bt1006.1 bt1006.2 a2).bind fun bt1007 => ((catamaranref13_Read.f k a0_0 a0_1 a0_2 a0_3 a0_4 a0_5 l1_0 l1_1 a2).bind fun bt1008 => (if (strOfNums bt1007.1).toList = (strOfNums bt1008.1).toList then (catamaranlaw13_PageReads.j0 k bt1007.1 (bt1007.2 == bt1008.2) l1_0 l1_1 bt1006.1 bt1006.2) else (catamaranlaw13_PageReads.j0 k bt1007.1 false l1_0 l1_1 bt1006.1 bt1006.2))))))) = some r := h
  clear h
  replace H := Option.bind_eq_some_iff.mp H
  obtain ⟨t1005, A40, H⟩ := H
  replace H : (if t1005 = true then (some true) else ((catamaranref05_Twin.f k l1_0 l1_1).bind fun bt1006 => ((page_Read.f k a0_0 a0_1 a0_2 a0_3 a0_4 a0_5 bt1006.1 bt1006.2 a2).bind fun bt1007 => ((catamaranref13_Read.f k a0_0 a0_1 a0_2 a0_3 a0_4 a0_5 l1_0 l1_1 a2).bind fun bt1008 => (if (strOfNums bt1007.1).toList = (strOfNums bt1008.1).toList then (catamaranlaw13_PageReads.j0 k bt1007.1 (bt1007.2 == bt1008.2) l1_0 l1_1 bt1006.1 bt1006.2) else (catamaranlaw13_PageReads.j0 k bt1007.1 false l1_0 l1_1 bt1006.1 bt1006.2)))))) = some r := H
  have A4 := Aside0.mk A40
  clear A40
  by_cases c5 : t1005 = true
  · subst c5
    have H1 : (some true) = some r := by rw [if_pos rfl] at H; exact H
    clear H
    have H := H1
    clear H1
    obtain rfl := Option.some.inj H
    go_enter Try.func7, Try.ntmps7
    go_wp2_with (first | ((with_reducible refine gate_dst (N := 3) rfl ?_); refine box_event ?hg (N := 3) ?hd (cs := #[.int .i64 a0_0, .int .i64 a0_1, .int .i64 a0_2, .int .i64 a0_3, .int .i64 a0_4, .int .i64 a0_5]) (t := 44) ?hr ?_; (case hd => rfl); (case hg => rfl); (case hr => first | (go_simp; done) | (go_simp; rfl)); intro gb1009 hg w6 hbox hb; have n0_ := Aside0.mk (below_step (by repeat (first | (with_reducible first | exact HB.out | apply below_alloc | apply pbdN | apply bdr1) | exact HB.out)) hb); have n1_ := Aside0.mk (hbox); have n2_ := Aside0.mk ((by rw [hg]; exact (below_size (by repeat (first | (with_reducible first | exact HB.out | apply below_alloc | apply pbdN | apply bdr1) | exact HB.out))) : w.heap.size ≤ gb1009)); have n3_ := Aside0.mk ((by rw [hg]; exact (below_size (by repeat (first | (with_reducible first | exact HB.out | apply below_alloc | apply pbdN | apply bdr1) | exact HB.out))) : w.heap.size ≤ gb1009)); clear HB; have HB := n0_; have BK1009 := n1_; have GW1009 := n2_; have GE1009 := n3_; clear n0_ n1_ n2_ n3_; clear hb hbox hg) | ((with_reducible refine gate_dst (N := 4) rfl ?_); refine box_event ?hg (N := 4) ?hd (cs := #[.slice A1_0 l1_0.length c1_0, .slice A1_1 l1_1.length c1_1]) (t := 25) ?hr ?_; (case hd => rfl); (case hg => rfl); (case hr => first | (go_simp; done) | (go_simp; rfl)); intro gb1010 hg w7 hbox hb; have n0_ := Aside0.mk (blk_below (g := gb1009) (o := .cells #[.int .i64 a0_0, .int .i64 a0_1, .int .i64 a0_2, .int .i64 a0_3, .int .i64 a0_4, .int .i64 a0_5] 44 (0, 0)) (by (with_reducible repeat (first | refine blk_drewN ?_ _ | refine blk_drew ?_ | refine blk_alloc ?_ _)); exact BK1009.out) hb); have n1_ := Aside0.mk (below_step (by repeat (first | (with_reducible first | exact HB.out | apply below_alloc | apply pbdN | apply bdr1 | refine below_set ?_ GE1009.out) | exact HB.out)) hb); have n2_ := Aside0.mk (hbox); have n3_ := Aside0.mk ((by rw [hg]; exact (below_size (by repeat (first | (with_reducible first | exact HB.out | apply below_alloc | apply pbdN | apply bdr1 | refine below_set ?_ GE1009.out) | exact HB.out))) : w.heap.size ≤ gb1010)); have n4_ := Aside0.mk ((by rw [hg]; exact (below_size (by repeat (first | (with_reducible first | exact HB.out | apply below_alloc | apply pbdN | apply bdr1 | refine below_set ?_ GE1009.out) | exact HB.out))) : w.heap.size ≤ gb1010)); have n5_ := Aside0.mk ((by rw [hg]; exact Nat.ne_of_lt (blk_lt (g := gb1009) (o := .cells #[.int .i64 a0_0, .int .i64 a0_1, .int .i64 a0_2, .int .i64 a0_3, .int .i64 a0_4, .int .i64 a0_5] 44 (0, 0)) (by (with_reducible repeat (first | refine blk_drewN ?_ _ | refine blk_drew ?_ | refine blk_alloc ?_ _)); exact BK1009.out)) : gb1009 ≠ gb1010)); have n6_ := Aside0.mk ((by rw [hg]; exact Nat.ne_of_gt (blk_lt (g := gb1009) (o := .cells #[.int .i64 a0_0, .int .i64 a0_1, .int .i64 a0_2, .int .i64 a0_3, .int .i64 a0_4, .int .i64 a0_5] 44 (0, 0)) (by (with_reducible repeat (first | refine blk_drewN ?_ _ | refine blk_drew ?_ | refine blk_alloc ?_ _)); exact BK1009.out)) : gb1010 ≠ gb1009)); clear BK1009; clear HB; have BK1009 := n0_; have HB := n1_; have BK1010 := n2_; have GW1010 := n3_; have GE1010 := n4_; have NB1009_629 := n5_; have NB1010_628 := n6_; clear n0_ n1_ n2_ n3_ n4_ n5_ n6_; clear hb hbox hg; have hnb8 := NB1010_628.out; have hnc8 := NB1009_629.out; have hcz9_0 : w7.cell? ⟨gb1010, 0, none⟩ = some (.slice A1_0 l1_0.length c1_0) := (blk_cell BK1010.out 0).trans rfl; have hcz9_1 : w7.cell? ⟨gb1010, 1, none⟩ = some (.slice A1_1 l1_1.length c1_1) := (blk_cell BK1010.out 1).trans rfl; have hfz9_0 := blk_frozen BK1010.out 0; have hfz9_1 := blk_frozen BK1010.out 1) | ((with_reducible refine gate_callee (f := 24) rfl ?_); refine goesL_ (some 15) rfl rfl Try.func24 (by kernel_rfl) rfl #[.agg #[.slice A1_0 l1_0.length c1_0, .slice A1_1 l1_1.length c1_1], .int .i64 300] rfl (by (try simp only [List.map_toArray, List.map_cons, List.map_nil]); first | done | rfl | (simp only [List.length_drop, List.length_take]; rfl)) ?_; (with_reducible refine (catamaranref05_Great.calls k _ _ l1_0 _ _ l1_1 300 true _ ?side1 ?side2 ?side3 ?side4 A4.out).mono ?_); (case side1 => repeat (first | exact (Kd.C_below HR1_0.out HB.out) | (with_reducible refine Kd.C_alloc ?_ _) | (with_reducible refine Kd.C_drewN ?_ _) | (with_reducible refine Kd.C_drew ?_))); (case side2 => exact HC1_0.out); (case side3 => repeat (first | exact (Kd.C_below HR1_1.out HB.out) | (with_reducible refine Kd.C_alloc ?_ _) | (with_reducible refine Kd.C_drewN ?_ _) | (with_reducible refine Kd.C_drew ?_))); (case side4 => exact HC1_1.out); rintro e w10 ⟨rfl, hb⟩; refine ⟨_, rfl, ?_⟩; have n0_ := Aside0.mk (blk_below (g := gb1009) (o := .cells #[.int .i64 a0_0, .int .i64 a0_1, .int .i64 a0_2, .int .i64 a0_3, .int .i64 a0_4, .int .i64 a0_5] 44 (0, 0)) (by (with_reducible repeat (first | refine blk_drewN ?_ _ | refine blk_drew ?_ | refine blk_alloc ?_ _)); exact BK1009.out) hb); have n1_ := Aside0.mk (blk_below (g := gb1010) (o := .cells #[.slice A1_0 l1_0.length c1_0, .slice A1_1 l1_1.length c1_1] 25 (0, 0)) (by (with_reducible repeat (first | refine blk_drewN ?_ _ | refine blk_drew ?_ | refine blk_alloc ?_ _)); exact BK1010.out) hb); have n2_ := Aside0.mk (below_step (by repeat (first | (with_reducible first | exact HB.out | apply below_alloc | apply pbdN | apply bdr1 | refine below_set ?_ GE1009.out | refine below_set ?_ GE1010.out) | exact HB.out)) hb); clear BK1009; clear BK1010; clear HB; have BK1009 := n0_; have BK1010 := n1_; have HB := n2_; clear n0_ n1_ n2_; (try clear hb); (try clear hb2); (try clear hk); (try clear hi)))
    go_ret
    exact ⟨by first | rfl | (simp [errW_none, errW_some] <;> rfl) | (simp [*, errW_none, errW_some] <;> rfl), by repeat (first | (with_reducible first | exact HB.out | apply below_alloc | apply pbdN | apply bdr1 | refine below_set ?_ GE1009.out | refine below_set ?_ GE1010.out) | exact HB.out)⟩
  · replace c5 := Bool.eq_false_iff.mpr c5
    subst c5
    have H1 : ((catamaranref05_Twin.f k l1_0 l1_1).bind fun bt1006 => ((page_Read.f k a0_0 a0_1 a0_2 a0_3 a0_4 a0_5 bt1006.1 bt1006.2 a2).bind fun bt1007 => ((catamaranref13_Read.f k a0_0 a0_1 a0_2 a0_3 a0_4 a0_5 l1_0 l1_1 a2).bind fun bt1008 => (if (strOfNums bt1007.1).toList = (strOfNums bt1008.1).toList then (catamaranlaw13_PageReads.j0 k bt1007.1 (bt1007.2 == bt1008.2) l1_0 l1_1 bt1006.1 bt1006.2) else (catamaranlaw13_PageReads.j0 k bt1007.1 false l1_0 l1_1 bt1006.1 bt1006.2))))) = some r := by rw [if_neg (show ¬ (false = true) by decide)] at H; exact H
    clear H
    have H := H1
    clear H1
    replace H := Option.bind_eq_some_iff.mp H
    obtain ⟨⟨t1006, t1011⟩, A1012, H⟩ := H
    replace H : ((page_Read.f k a0_0 a0_1 a0_2 a0_3 a0_4 a0_5 t1006 t1011 a2).bind fun bt1007 => ((catamaranref13_Read.f k a0_0 a0_1 a0_2 a0_3 a0_4 a0_5 l1_0 l1_1 a2).bind fun bt1008 => (if (strOfNums bt1007.1).toList = (strOfNums bt1008.1).toList then (catamaranlaw13_PageReads.j0 k bt1007.1 (bt1007.2 == bt1008.2) l1_0 l1_1 t1006 t1011) else (catamaranlaw13_PageReads.j0 k bt1007.1 false l1_0 l1_1 t1006 t1011)))) = some r := H
    have A11 := Aside0.mk A1012
    clear A1012
    replace H := Option.bind_eq_some_iff.mp H
    obtain ⟨⟨t1007, t1013⟩, A1014, H⟩ := H
    replace H : ((catamaranref13_Read.f k a0_0 a0_1 a0_2 a0_3 a0_4 a0_5 l1_0 l1_1 a2).bind fun bt1008 => (if (strOfNums t1007).toList = (strOfNums bt1008.1).toList then (catamaranlaw13_PageReads.j0 k t1007 (t1013 == bt1008.2) l1_0 l1_1 t1006 t1011) else (catamaranlaw13_PageReads.j0 k t1007 false l1_0 l1_1 t1006 t1011))) = some r := H
    have A12 := Aside0.mk A1014
    clear A1014
    replace H := Option.bind_eq_some_iff.mp H
    obtain ⟨⟨t1008, t1015⟩, A1016, H⟩ := H
    replace H : (if (strOfNums t1007).toList = (strOfNums t1008).toList then (catamaranlaw13_PageReads.j0 k t1007 (t1013 == t1015) l1_0 l1_1 t1006 t1011) else (catamaranlaw13_PageReads.j0 k t1007 false l1_0 l1_1 t1006 t1011)) = some r := H
    have A13 := Aside0.mk A1016
    clear A1016
    have HC14 := Aside0.mk H
    clear H
    go_enter Try.func7, Try.ntmps7
    go_upto_region 6 with (first | ((with_reducible refine gate_dst (N := 3) rfl ?_); refine box_event ?hg (N := 3) ?hd (cs := #[.int .i64 a0_0, .int .i64 a0_1, .int .i64 a0_2, .int .i64 a0_3, .int .i64 a0_4, .int .i64 a0_5]) (t := 44) ?hr ?_; (case hd => rfl); (case hg => rfl); (case hr => first | (go_simp; done) | (go_simp; rfl)); intro gb1009 hg w15 hbox hb; have n0_ := Aside0.mk (below_step (by repeat (first | (with_reducible first | exact HB.out | apply below_alloc | apply pbdN | apply bdr1) | exact HB.out)) hb); have n1_ := Aside0.mk (hbox); have n2_ := Aside0.mk ((by rw [hg]; exact (below_size (by repeat (first | (with_reducible first | exact HB.out | apply below_alloc | apply pbdN | apply bdr1) | exact HB.out))) : w.heap.size ≤ gb1009)); have n3_ := Aside0.mk ((by rw [hg]; exact (below_size (by repeat (first | (with_reducible first | exact HB.out | apply below_alloc | apply pbdN | apply bdr1) | exact HB.out))) : w.heap.size ≤ gb1009)); clear HB; have HB := n0_; have BK1009 := n1_; have GW1009 := n2_; have GE1009 := n3_; clear n0_ n1_ n2_ n3_; clear hb hbox hg) | ((with_reducible refine gate_dst (N := 4) rfl ?_); refine box_event ?hg (N := 4) ?hd (cs := #[.slice A1_0 l1_0.length c1_0, .slice A1_1 l1_1.length c1_1]) (t := 25) ?hr ?_; (case hd => rfl); (case hg => rfl); (case hr => first | (go_simp; done) | (go_simp; rfl)); intro gb1010 hg w16 hbox hb; have n0_ := Aside0.mk (blk_below (g := gb1009) (o := .cells #[.int .i64 a0_0, .int .i64 a0_1, .int .i64 a0_2, .int .i64 a0_3, .int .i64 a0_4, .int .i64 a0_5] 44 (0, 0)) (by (with_reducible repeat (first | refine blk_drewN ?_ _ | refine blk_drew ?_ | refine blk_alloc ?_ _)); exact BK1009.out) hb); have n1_ := Aside0.mk (below_step (by repeat (first | (with_reducible first | exact HB.out | apply below_alloc | apply pbdN | apply bdr1 | refine below_set ?_ GE1009.out) | exact HB.out)) hb); have n2_ := Aside0.mk (hbox); have n3_ := Aside0.mk ((by rw [hg]; exact (below_size (by repeat (first | (with_reducible first | exact HB.out | apply below_alloc | apply pbdN | apply bdr1 | refine below_set ?_ GE1009.out) | exact HB.out))) : w.heap.size ≤ gb1010)); have n4_ := Aside0.mk ((by rw [hg]; exact (below_size (by repeat (first | (with_reducible first | exact HB.out | apply below_alloc | apply pbdN | apply bdr1 | refine below_set ?_ GE1009.out) | exact HB.out))) : w.heap.size ≤ gb1010)); have n5_ := Aside0.mk ((by rw [hg]; exact Nat.ne_of_lt (blk_lt (g := gb1009) (o := .cells #[.int .i64 a0_0, .int .i64 a0_1, .int .i64 a0_2, .int .i64 a0_3, .int .i64 a0_4, .int .i64 a0_5] 44 (0, 0)) (by (with_reducible repeat (first | refine blk_drewN ?_ _ | refine blk_drew ?_ | refine blk_alloc ?_ _)); exact BK1009.out)) : gb1009 ≠ gb1010)); have n6_ := Aside0.mk ((by rw [hg]; exact Nat.ne_of_gt (blk_lt (g := gb1009) (o := .cells #[.int .i64 a0_0, .int .i64 a0_1, .int .i64 a0_2, .int .i64 a0_3, .int .i64 a0_4, .int .i64 a0_5] 44 (0, 0)) (by (with_reducible repeat (first | refine blk_drewN ?_ _ | refine blk_drew ?_ | refine blk_alloc ?_ _)); exact BK1009.out)) : gb1010 ≠ gb1009)); clear BK1009; clear HB; have BK1009 := n0_; have HB := n1_; have BK1010 := n2_; have GW1010 := n3_; have GE1010 := n4_; have NB1009_629 := n5_; have NB1010_628 := n6_; clear n0_ n1_ n2_ n3_ n4_ n5_ n6_; clear hb hbox hg; have hnb17 := NB1010_628.out; have hnc17 := NB1009_629.out; have hcz18_0 : w16.cell? ⟨gb1010, 0, none⟩ = some (.slice A1_0 l1_0.length c1_0) := (blk_cell BK1010.out 0).trans rfl; have hcz18_1 : w16.cell? ⟨gb1010, 1, none⟩ = some (.slice A1_1 l1_1.length c1_1) := (blk_cell BK1010.out 1).trans rfl; have hfz18_0 := blk_frozen BK1010.out 0; have hfz18_1 := blk_frozen BK1010.out 1) | ((with_reducible refine gate_callee (f := 24) rfl ?_); refine goesL_ (some 15) rfl rfl Try.func24 (by kernel_rfl) rfl #[.agg #[.slice A1_0 l1_0.length c1_0, .slice A1_1 l1_1.length c1_1], .int .i64 300] rfl (by (try simp only [List.map_toArray, List.map_cons, List.map_nil]); first | done | rfl | (simp only [List.length_drop, List.length_take]; rfl)) ?_; (with_reducible refine (catamaranref05_Great.calls k _ _ l1_0 _ _ l1_1 300 false _ ?side1 ?side2 ?side3 ?side4 A4.out).mono ?_); (case side1 => repeat (first | exact (Kd.C_below HR1_0.out HB.out) | (with_reducible refine Kd.C_alloc ?_ _) | (with_reducible refine Kd.C_drewN ?_ _) | (with_reducible refine Kd.C_drew ?_))); (case side2 => exact HC1_0.out); (case side3 => repeat (first | exact (Kd.C_below HR1_1.out HB.out) | (with_reducible refine Kd.C_alloc ?_ _) | (with_reducible refine Kd.C_drewN ?_ _) | (with_reducible refine Kd.C_drew ?_))); (case side4 => exact HC1_1.out); rintro e w19 ⟨rfl, hb⟩; refine ⟨_, rfl, ?_⟩; have n0_ := Aside0.mk (blk_below (g := gb1009) (o := .cells #[.int .i64 a0_0, .int .i64 a0_1, .int .i64 a0_2, .int .i64 a0_3, .int .i64 a0_4, .int .i64 a0_5] 44 (0, 0)) (by (with_reducible repeat (first | refine blk_drewN ?_ _ | refine blk_drew ?_ | refine blk_alloc ?_ _)); exact BK1009.out) hb); have n1_ := Aside0.mk (blk_below (g := gb1010) (o := .cells #[.slice A1_0 l1_0.length c1_0, .slice A1_1 l1_1.length c1_1] 25 (0, 0)) (by (with_reducible repeat (first | refine blk_drewN ?_ _ | refine blk_drew ?_ | refine blk_alloc ?_ _)); exact BK1010.out) hb); have n2_ := Aside0.mk (below_step (by repeat (first | (with_reducible first | exact HB.out | apply below_alloc | apply pbdN | apply bdr1 | refine below_set ?_ GE1009.out | refine below_set ?_ GE1010.out) | exact HB.out)) hb); clear BK1009; clear BK1010; clear HB; have BK1009 := n0_; have BK1010 := n1_; have HB := n2_; clear n0_ n1_ n2_; (try clear hb); (try clear hb2); (try clear hk); (try clear hi); have hcz20_0 : w19.cell? ⟨gb1010, 0, none⟩ = some (.slice A1_0 l1_0.length c1_0) := (blk_cell BK1010.out 0).trans rfl; have hcz20_1 : w19.cell? ⟨gb1010, 1, none⟩ = some (.slice A1_1 l1_1.length c1_1) := (blk_cell BK1010.out 1).trans rfl; have hfz20_0 := blk_frozen BK1010.out 0; have hfz20_1 := blk_frozen BK1010.out 1) | ((with_reducible refine gate_callee (f := 25) rfl ?_); refine goesL_ (some 17) rfl rfl Try.func25 (by kernel_rfl) rfl #[.agg #[.slice A1_0 l1_0.length c1_0, .slice A1_1 l1_1.length c1_1]] rfl (by (try simp only [List.map_toArray, List.map_cons, List.map_nil]); first | done | rfl | (simp only [List.length_drop, List.length_take]; rfl)) ?_; (with_reducible refine (catamaranref05_Twin.calls k _ _ l1_0 _ _ l1_1 t1006 t1011 _ ?side1 ?side2 ?side3 ?side4 A11.out).mono ?_); (case side1 => repeat (first | exact (Kd.C_below HR1_0.out HB.out) | (with_reducible refine Kd.C_alloc ?_ _) | (with_reducible refine Kd.C_drewN ?_ _) | (with_reducible refine Kd.C_drew ?_))); (case side2 => exact HC1_0.out); (case side3 => repeat (first | exact (Kd.C_below HR1_1.out HB.out) | (with_reducible refine Kd.C_alloc ?_ _) | (with_reducible refine Kd.C_drewN ?_ _) | (with_reducible refine Kd.C_drew ?_))); (case side4 => exact HC1_1.out); rintro e w21 ⟨v1017, v1018, rfl, ho0, ho1, hb⟩; refine ⟨_, rfl, ?_⟩; have n0_ := Aside0.mk (Kd.S_lower ho0 (below_size (by repeat (first | (with_reducible first | exact HB.out | apply below_alloc | apply pbdN | apply bdr1 | refine below_set ?_ GE1009.out | refine below_set ?_ GE1010.out) | exact HB.out)))); have n1_ := Aside0.mk (Kd.S_lower ho1 (below_size (by repeat (first | (with_reducible first | exact HB.out | apply below_alloc | apply pbdN | apply bdr1 | refine below_set ?_ GE1009.out | refine below_set ?_ GE1010.out) | exact HB.out)))); have n2_ := Aside0.mk (blk_below (g := gb1009) (o := .cells #[.int .i64 a0_0, .int .i64 a0_1, .int .i64 a0_2, .int .i64 a0_3, .int .i64 a0_4, .int .i64 a0_5] 44 (0, 0)) (by (with_reducible repeat (first | refine blk_drewN ?_ _ | refine blk_drew ?_ | refine blk_alloc ?_ _)); exact BK1009.out) hb); have n3_ := Aside0.mk (blk_below (g := gb1010) (o := .cells #[.slice A1_0 l1_0.length c1_0, .slice A1_1 l1_1.length c1_1] 25 (0, 0)) (by (with_reducible repeat (first | refine blk_drewN ?_ _ | refine blk_drew ?_ | refine blk_alloc ?_ _)); exact BK1010.out) hb); have n4_ := Aside0.mk (below_step (by repeat (first | (with_reducible first | exact HB.out | apply below_alloc | apply pbdN | apply bdr1 | refine below_set ?_ GE1009.out | refine below_set ?_ GE1010.out) | exact HB.out)) hb); clear BK1009; clear BK1010; clear HB; have HO1019 := n0_; have HO1020 := n1_; have BK1009 := n2_; have BK1010 := n3_; have HB := n4_; clear n0_ n1_ n2_ n3_ n4_; (try clear hb); (try clear hb2); (try clear hk); (try clear hi); (try clear ho0); (try clear ho1)) | ((with_reducible refine gate_dst (N := 7) rfl ?_); refine box_event ?hg (N := 7) ?hd (cs := #[.slice none 0 0, .slice none 0 0]) (t := 25) ?hr ?_; (case hd => rfl); (case hg => rfl); (case hr => first | (go_simp; done) | (go_simp; rfl)); intro gb1021 hg w22 hbox hb; have n0_ := Aside0.mk (Kd.S_below (by (with_reducible repeat (first | apply Kd.S_alloc | apply Kd.S_drewN | apply Kd.S_drew)); exact HO1019.out) hb); have n1_ := Aside0.mk (Kd.S_below (by (with_reducible repeat (first | apply Kd.S_alloc | apply Kd.S_drewN | apply Kd.S_drew)); exact HO1020.out) hb); have n2_ := Aside0.mk (blk_below (g := gb1009) (o := .cells #[.int .i64 a0_0, .int .i64 a0_1, .int .i64 a0_2, .int .i64 a0_3, .int .i64 a0_4, .int .i64 a0_5] 44 (0, 0)) (by (with_reducible repeat (first | refine blk_drewN ?_ _ | refine blk_drew ?_ | refine blk_alloc ?_ _)); exact BK1009.out) hb); have n3_ := Aside0.mk (blk_below (g := gb1010) (o := .cells #[.slice A1_0 l1_0.length c1_0, .slice A1_1 l1_1.length c1_1] 25 (0, 0)) (by (with_reducible repeat (first | refine blk_drewN ?_ _ | refine blk_drew ?_ | refine blk_alloc ?_ _)); exact BK1010.out) hb); have n4_ := Aside0.mk (below_step (by repeat (first | (with_reducible first | exact HB.out | apply below_alloc | apply pbdN | apply bdr1 | refine below_set ?_ GE1009.out | refine below_set ?_ GE1010.out) | exact HB.out)) hb); have n5_ := Aside0.mk (hbox); have n6_ := Aside0.mk ((by rw [hg]; exact (below_size (by repeat (first | (with_reducible first | exact HB.out | apply below_alloc | apply pbdN | apply bdr1 | refine below_set ?_ GE1009.out | refine below_set ?_ GE1010.out) | exact HB.out))) : w.heap.size ≤ gb1021)); have n7_ := Aside0.mk ((by rw [hg]; exact (below_size (by repeat (first | (with_reducible first | exact HB.out | apply below_alloc | apply pbdN | apply bdr1 | refine below_set ?_ GE1009.out | refine below_set ?_ GE1010.out) | exact HB.out))) : w.heap.size ≤ gb1021)); have n8_ := Aside0.mk ((by rw [hg]; exact Nat.ne_of_lt (blk_lt (g := gb1009) (o := .cells #[.int .i64 a0_0, .int .i64 a0_1, .int .i64 a0_2, .int .i64 a0_3, .int .i64 a0_4, .int .i64 a0_5] 44 (0, 0)) (by (with_reducible repeat (first | refine blk_drewN ?_ _ | refine blk_drew ?_ | refine blk_alloc ?_ _)); exact BK1009.out)) : gb1009 ≠ gb1021)); have n9_ := Aside0.mk ((by rw [hg]; exact Nat.ne_of_gt (blk_lt (g := gb1009) (o := .cells #[.int .i64 a0_0, .int .i64 a0_1, .int .i64 a0_2, .int .i64 a0_3, .int .i64 a0_4, .int .i64 a0_5] 44 (0, 0)) (by (with_reducible repeat (first | refine blk_drewN ?_ _ | refine blk_drew ?_ | refine blk_alloc ?_ _)); exact BK1009.out)) : gb1021 ≠ gb1009)); have n10_ := Aside0.mk ((by rw [hg]; exact Nat.ne_of_lt (blk_lt (g := gb1010) (o := .cells #[.slice A1_0 l1_0.length c1_0, .slice A1_1 l1_1.length c1_1] 25 (0, 0)) (by (with_reducible repeat (first | refine blk_drewN ?_ _ | refine blk_drew ?_ | refine blk_alloc ?_ _)); exact BK1010.out)) : gb1010 ≠ gb1021)); have n11_ := Aside0.mk ((by rw [hg]; exact Nat.ne_of_gt (blk_lt (g := gb1010) (o := .cells #[.slice A1_0 l1_0.length c1_0, .slice A1_1 l1_1.length c1_1] 25 (0, 0)) (by (with_reducible repeat (first | refine blk_drewN ?_ _ | refine blk_drew ?_ | refine blk_alloc ?_ _)); exact BK1010.out)) : gb1021 ≠ gb1010)); clear HO1019; clear HO1020; clear BK1009; clear BK1010; clear HB; have HO1019 := n0_; have HO1020 := n1_; have BK1009 := n2_; have BK1010 := n3_; have HB := n4_; have BK1021 := n5_; have GW1021 := n6_; have GE1021 := n7_; have NB1009_637 := n8_; have NB1021_628 := n9_; have NB1010_637 := n10_; have NB1021_629 := n11_; clear n0_ n1_ n2_ n3_ n4_ n5_ n6_ n7_ n8_ n9_ n10_ n11_; clear hb hbox hg; obtain ⟨Ao23, co23, eo23⟩ := Kd.S_slice HO1019.out; subst eo23; have hnb24 := NB1021_628.out; have hnc24 := NB1009_637.out; have hnb25 := NB1021_629.out; have hnc25 := NB1010_637.out; have hcz26_0 : w22.cell? ⟨gb1021, 0, none⟩ = some (.slice none 0 0) := (blk_cell BK1021.out 0).trans rfl; have hcz26_1 : w22.cell? ⟨gb1021, 1, none⟩ = some (.slice none 0 0) := (blk_cell BK1021.out 1).trans rfl; have hfz26_0 := blk_frozen BK1021.out 0; have hfz26_1 := blk_frozen BK1021.out 1; obtain ⟨Ao27, co27, eo27⟩ := Kd.S_slice HO1020.out; subst eo27; have hcz28_0 : w22.cell? ⟨gb1009, 0, none⟩ = some (.int .i64 a0_0) := (blk_cell BK1009.out 0).trans rfl; have hcz28_1 : w22.cell? ⟨gb1009, 1, none⟩ = some (.int .i64 a0_1) := (blk_cell BK1009.out 1).trans rfl; have hcz28_2 : w22.cell? ⟨gb1009, 2, none⟩ = some (.int .i64 a0_2) := (blk_cell BK1009.out 2).trans rfl; have hcz28_3 : w22.cell? ⟨gb1009, 3, none⟩ = some (.int .i64 a0_3) := (blk_cell BK1009.out 3).trans rfl; have hcz28_4 : w22.cell? ⟨gb1009, 4, none⟩ = some (.int .i64 a0_4) := (blk_cell BK1009.out 4).trans rfl; have hcz28_5 : w22.cell? ⟨gb1009, 5, none⟩ = some (.int .i64 a0_5) := (blk_cell BK1009.out 5).trans rfl; have hfz28_0 := blk_frozen BK1009.out 0; have hfz28_1 := blk_frozen BK1009.out 1; have hfz28_2 := blk_frozen BK1009.out 2; have hfz28_3 := blk_frozen BK1009.out 3; have hfz28_4 := blk_frozen BK1009.out 4; have hfz28_5 := blk_frozen BK1009.out 5) | ((with_reducible refine gate_callee (f := 36) rfl ?_); refine goesL_ (some 22) rfl rfl Try.func36 (by kernel_rfl) rfl #[.agg #[.int .i64 a0_0, .int .i64 a0_1, .int .i64 a0_2, .int .i64 a0_3, .int .i64 a0_4, .int .i64 a0_5], .agg #[.slice Ao23 t1006.length co23, .slice Ao27 t1011.length co27], .int .i64 a2] rfl (by (try simp only [List.map_toArray, List.map_cons, List.map_nil]); first | done | rfl | (simp only [List.length_drop, List.length_take]; rfl)) ?_; (with_reducible refine (page_Read.calls k a0_0 a0_1 a0_2 a0_3 a0_4 a0_5 _ _ t1006 _ _ t1011 a2 t1007 t1013 _ ?side1 ?side2 ?side3 ?side4 A12.out).mono ?_); (case side1 => refine (Kd.S_reads' (e := 39) (base := w.heap.size) (ok := fun k_ => True) (n := t1006.length) (c := co23) ?_).2.2; exact (by (with_reducible repeat (first | apply Kd.S_alloc | apply Kd.S_drewN | apply Kd.S_drew)); exact (Kd.S_mono (Kd.S_far (p := ⟨gb1021, 1, none⟩) (Kd.S_far (p := ⟨gb1021, 0, none⟩) (Kd.S_types HO1019.out BK1021.out (by decide)) (fun _ hk => hk.2) (.slice Ao23 t1006.length co23)) (fun _ hk => hk.2) (.slice Ao27 t1011.length co27)) (fun _ h_ => h_.1)))); (case side2 => exact (Kd.S_reads' HO1019.out).2.1); (case side3 => refine (Kd.S_reads' (e := 49) (base := w.heap.size) (ok := fun k_ => True) (n := t1011.length) (c := co27) ?_).2.2; exact (by (with_reducible repeat (first | apply Kd.S_alloc | apply Kd.S_drewN | apply Kd.S_drew)); exact (Kd.S_mono (Kd.S_far (p := ⟨gb1021, 1, none⟩) (Kd.S_far (p := ⟨gb1021, 0, none⟩) (Kd.S_types HO1020.out BK1021.out (by decide)) (fun _ hk => hk.2) (.slice Ao23 t1006.length co23)) (fun _ hk => hk.2) (.slice Ao27 t1011.length co27)) (fun _ h_ => h_.1)))); (case side4 => exact (Kd.S_reads' HO1020.out).2.1); rintro e w29 ⟨v1022, rfl, ho0, hb⟩; refine ⟨_, rfl, ?_⟩; have n0_ := Aside0.mk (Kd.S_elder' (by (with_reducible repeat (first | apply Kd.S_alloc | apply Kd.S_drewN | apply Kd.S_drew)); exact (Kd.S_mono (Kd.S_far (p := ⟨gb1021, 1, none⟩) (Kd.S_far (p := ⟨gb1021, 0, none⟩) (Kd.S_types HO1019.out BK1021.out (by decide)) (fun _ hk => hk.2) (.slice Ao23 t1006.length co23)) (fun _ hk => hk.2) (.slice Ao27 t1011.length co27)) (fun _ h_ => h_.1))) (Kd.R_base ho0) hb); have n1_ := Aside0.mk (Kd.S_elder' (by (with_reducible repeat (first | apply Kd.S_alloc | apply Kd.S_drewN | apply Kd.S_drew)); exact (Kd.S_mono (Kd.S_far (p := ⟨gb1021, 1, none⟩) (Kd.S_far (p := ⟨gb1021, 0, none⟩) (Kd.S_types HO1020.out BK1021.out (by decide)) (fun _ hk => hk.2) (.slice Ao23 t1006.length co23)) (fun _ hk => hk.2) (.slice Ao27 t1011.length co27)) (fun _ h_ => h_.1))) (Kd.R_base ho0) hb); have n2_ := Aside0.mk (Kd.R_lower ho0 (below_size (by repeat (first | (with_reducible first | exact HB.out | apply below_alloc | apply pbdN | apply bdr1 | refine below_set ?_ GE1009.out | refine below_set ?_ GE1010.out | refine below_set ?_ GE1021.out) | exact HB.out)))); have n3_ := Aside0.mk (blk_below (g := gb1009) (o := .cells #[.int .i64 a0_0, .int .i64 a0_1, .int .i64 a0_2, .int .i64 a0_3, .int .i64 a0_4, .int .i64 a0_5] 44 (0, 0)) (by (with_reducible repeat (first | refine blk_drewN ?_ _ | refine blk_drew ?_ | refine blk_alloc ?_ _)); refine blk_far ?_ NB1009_637.out _; (with_reducible repeat (first | refine blk_drewN ?_ _ | refine blk_drew ?_ | refine blk_alloc ?_ _)); refine blk_far ?_ NB1009_637.out _; (with_reducible repeat (first | refine blk_drewN ?_ _ | refine blk_drew ?_ | refine blk_alloc ?_ _)); exact BK1009.out) hb); have n4_ := Aside0.mk (blk_below (g := gb1010) (o := .cells #[.slice A1_0 l1_0.length c1_0, .slice A1_1 l1_1.length c1_1] 25 (0, 0)) (by (with_reducible repeat (first | refine blk_drewN ?_ _ | refine blk_drew ?_ | refine blk_alloc ?_ _)); refine blk_far ?_ NB1010_637.out _; (with_reducible repeat (first | refine blk_drewN ?_ _ | refine blk_drew ?_ | refine blk_alloc ?_ _)); refine blk_far ?_ NB1010_637.out _; (with_reducible repeat (first | refine blk_drewN ?_ _ | refine blk_drew ?_ | refine blk_alloc ?_ _)); exact BK1010.out) hb); have n5_ := Aside0.mk (blk_below (g := gb1021) (o := .cells #[.slice Ao23 t1006.length co23, .slice Ao27 t1011.length co27] 25 (0, 0)) (by (with_reducible repeat (first | refine blk_drewN ?_ _ | refine blk_drew ?_ | refine blk_alloc ?_ _)); refine blk_put (cs := #[.slice Ao23 t1006.length co23, .slice none 0 0]) ?_ 1 _ rfl; (with_reducible repeat (first | refine blk_drewN ?_ _ | refine blk_drew ?_ | refine blk_alloc ?_ _)); refine blk_put (cs := #[.slice none 0 0, .slice none 0 0]) ?_ 0 _ rfl; (with_reducible repeat (first | refine blk_drewN ?_ _ | refine blk_drew ?_ | refine blk_alloc ?_ _)); exact BK1021.out) hb); have n6_ := Aside0.mk (below_step (by repeat (first | (with_reducible first | exact HB.out | apply below_alloc | apply pbdN | apply bdr1 | refine below_set ?_ GE1009.out | refine below_set ?_ GE1010.out | refine below_set ?_ GE1021.out) | exact HB.out)) hb); clear HO1019; clear HO1020; clear BK1009; clear BK1010; clear BK1021; clear HB; have HO1019 := n0_; have HO1020 := n1_; have HO1023 := n2_; have BK1009 := n3_; have BK1010 := n4_; have BK1021 := n5_; have HB := n6_; clear n0_ n1_ n2_ n3_ n4_ n5_ n6_; (try clear hb); (try clear hb2); (try clear hk); (try clear hi); (try clear ho0); have hcz30_0 : w29.cell? ⟨gb1009, 0, none⟩ = some (.int .i64 a0_0) := (blk_cell BK1009.out 0).trans rfl; have hcz30_1 : w29.cell? ⟨gb1009, 1, none⟩ = some (.int .i64 a0_1) := (blk_cell BK1009.out 1).trans rfl; have hcz30_2 : w29.cell? ⟨gb1009, 2, none⟩ = some (.int .i64 a0_2) := (blk_cell BK1009.out 2).trans rfl; have hcz30_3 : w29.cell? ⟨gb1009, 3, none⟩ = some (.int .i64 a0_3) := (blk_cell BK1009.out 3).trans rfl; have hcz30_4 : w29.cell? ⟨gb1009, 4, none⟩ = some (.int .i64 a0_4) := (blk_cell BK1009.out 4).trans rfl; have hcz30_5 : w29.cell? ⟨gb1009, 5, none⟩ = some (.int .i64 a0_5) := (blk_cell BK1009.out 5).trans rfl; have hfz30_0 := blk_frozen BK1009.out 0; have hfz30_1 := blk_frozen BK1009.out 1; have hfz30_2 := blk_frozen BK1009.out 2; have hfz30_3 := blk_frozen BK1009.out 3; have hfz30_4 := blk_frozen BK1009.out 4; have hfz30_5 := blk_frozen BK1009.out 5; have hcz31_0 : w29.cell? ⟨gb1010, 0, none⟩ = some (.slice A1_0 l1_0.length c1_0) := (blk_cell BK1010.out 0).trans rfl; have hcz31_1 : w29.cell? ⟨gb1010, 1, none⟩ = some (.slice A1_1 l1_1.length c1_1) := (blk_cell BK1010.out 1).trans rfl; have hfz31_0 := blk_frozen BK1010.out 0; have hfz31_1 := blk_frozen BK1010.out 1) | ((with_reducible refine gate_callee (f := 37) rfl ?_); refine goesL_ (some 29) rfl rfl Try.func37 (by kernel_rfl) rfl #[.agg #[.int .i64 a0_0, .int .i64 a0_1, .int .i64 a0_2, .int .i64 a0_3, .int .i64 a0_4, .int .i64 a0_5], .agg #[.slice A1_0 l1_0.length c1_0, .slice A1_1 l1_1.length c1_1], .int .i64 a2] rfl (by (try simp only [List.map_toArray, List.map_cons, List.map_nil]); first | done | rfl | (simp only [List.length_drop, List.length_take]; rfl)) ?_; (with_reducible refine (catamaranref13_Read.calls k a0_0 a0_1 a0_2 a0_3 a0_4 a0_5 _ _ l1_0 _ _ l1_1 a2 t1008 t1015 _ ?side1 ?side2 ?side3 ?side4 A13.out).mono ?_); (case side1 => repeat (first | exact (Kd.C_below HR1_0.out HB.out) | (with_reducible refine Kd.C_alloc ?_ _) | (with_reducible refine Kd.C_drewN ?_ _) | (with_reducible refine Kd.C_drew ?_))); (case side2 => exact HC1_0.out); (case side3 => repeat (first | exact (Kd.C_below HR1_1.out HB.out) | (with_reducible refine Kd.C_alloc ?_ _) | (with_reducible refine Kd.C_drewN ?_ _) | (with_reducible refine Kd.C_drew ?_))); (case side4 => exact HC1_1.out); rintro e w32 ⟨v1024, rfl, ho0, hb⟩; refine ⟨_, rfl, ?_⟩; have n0_ := Aside0.mk (Kd.S_elder' (by (with_reducible repeat (first | apply Kd.S_alloc | apply Kd.S_drewN | apply Kd.S_drew)); exact HO1019.out) (Kd.R_base ho0) hb); have n1_ := Aside0.mk (Kd.S_elder' (by (with_reducible repeat (first | apply Kd.S_alloc | apply Kd.S_drewN | apply Kd.S_drew)); exact HO1020.out) (Kd.R_base ho0) hb); have n2_ := Aside0.mk (Kd.R_elder' (by (with_reducible repeat (first | apply Kd.R_alloc | apply Kd.R_drewN | apply Kd.R_drew)); exact HO1023.out) (Kd.R_base ho0) hb); have n3_ := Aside0.mk (Kd.R_lower (Kd.R_new' ho0 (Kd.R_lt (by (with_reducible repeat (first | apply Kd.R_alloc | apply Kd.R_drewN | apply Kd.R_drew)); exact HO1023.out))) (below_size (by repeat (first | (with_reducible first | exact HB.out | apply below_alloc | apply pbdN | apply bdr1 | refine below_set ?_ GE1009.out | refine below_set ?_ GE1010.out | refine below_set ?_ GE1021.out) | exact HB.out)))); have n4_ := Aside0.mk (blk_below (g := gb1009) (o := .cells #[.int .i64 a0_0, .int .i64 a0_1, .int .i64 a0_2, .int .i64 a0_3, .int .i64 a0_4, .int .i64 a0_5] 44 (0, 0)) (by (with_reducible repeat (first | refine blk_drewN ?_ _ | refine blk_drew ?_ | refine blk_alloc ?_ _)); exact BK1009.out) hb); have n5_ := Aside0.mk (blk_below (g := gb1010) (o := .cells #[.slice A1_0 l1_0.length c1_0, .slice A1_1 l1_1.length c1_1] 25 (0, 0)) (by (with_reducible repeat (first | refine blk_drewN ?_ _ | refine blk_drew ?_ | refine blk_alloc ?_ _)); exact BK1010.out) hb); have n6_ := Aside0.mk (blk_below (g := gb1021) (o := .cells #[.slice Ao23 t1006.length co23, .slice Ao27 t1011.length co27] 25 (0, 0)) (by (with_reducible repeat (first | refine blk_drewN ?_ _ | refine blk_drew ?_ | refine blk_alloc ?_ _)); exact BK1021.out) hb); have n7_ := Aside0.mk (below_step (by repeat (first | (with_reducible first | exact HB.out | apply below_alloc | apply pbdN | apply bdr1 | refine below_set ?_ GE1009.out | refine below_set ?_ GE1010.out | refine below_set ?_ GE1021.out) | exact HB.out)) hb); clear HO1019; clear HO1020; clear HO1023; clear BK1009; clear BK1010; clear BK1021; clear HB; have HO1019 := n0_; have HO1020 := n1_; have HO1023 := n2_; have HO1025 := n3_; have BK1009 := n4_; have BK1010 := n5_; have BK1021 := n6_; have HB := n7_; clear n0_ n1_ n2_ n3_ n4_ n5_ n6_ n7_; (try clear hb); (try clear hb2); (try clear hk); (try clear hi); (try clear ho0)))
    (try simp only [Act.put, List.setIfInBounds_toArray, List.set_cons_zero, List.set_cons_succ])
    go_cut [12] (fun v12 wc => ∃ (kq : Nat) (x12_13 : Bool), v12 = .bool x12_13 ∧ Aside0 (catamaranlaw13_PageReads.j0 kq t1007 x12_13 l1_0 l1_1 t1006 t1011 = some r) ∧ Aside0 (kq ≤ k) ∧ Aside0 (Kd.R (Kd.int .u8) 5 wc w.heap.size (fun _ => True) v1022 t1007) ∧ Aside0 (Kd.S k39 39 wc w.heap.size (fun k_ => some k_ ≠ (v1022 : Value).ownBlock) (.slice Ao23 t1006.length co23) t1006) ∧ Aside0 (Kd.S k49 49 wc w.heap.size (fun k_ => some k_ ≠ (v1022 : Value).ownBlock) (.slice Ao27 t1011.length co27) t1011) ∧ Aside0 (wc.heap[gb1009]? = some (.cells #[.int .i64 a0_0, .int .i64 a0_1, .int .i64 a0_2, .int .i64 a0_3, .int .i64 a0_4, .int .i64 a0_5] 44 (0, 0))) ∧ Aside0 (wc.heap[gb1010]? = some (.cells #[(.slice A1_0 l1_0.length c1_0), (.slice A1_1 l1_1.length c1_1)] 25 (0, 0))) ∧ Aside0 (wc.heap[gb1021]? = some (.cells #[(.slice Ao23 t1006.length co23), (.slice Ao27 t1011.length co27)] 25 (0, 0))) ∧ Aside0 (Below w.heap.size w wc))
    case first =>
      have H := HC14.out
      clear HC14
      by_cases c33 : (strOfNums t1007).toList = (strOfNums t1008).toList
      · rw [if_pos c33] at H
        have c33b0 : ((strOfNums t1007).toList == (strOfNums t1008).toList) = true := beq_iff_eq.mpr c33
        have c33b1 : ((strOfNums t1007).toList != (strOfNums t1008).toList) = false := bne_eq_false_iff_eq.mpr c33
        clear c33
        (first | rw [c33b0] | (simp only [i64_w, i32_w]; rw [c33b0]) | skip)
        have H' := Aside0.mk H
        clear H
        have hcv34 := own_string (P := Try.prog) Try.underlying31 Try.underlying5 Try.underlying9 (Kd.own_of_R HO1023.out)
        have hcv35 := own_string (P := Try.prog) Try.underlying31 Try.underlying5 Try.underlying9 (Kd.own_of_R HO1025.out)
        go_wp2
        go_meet
        case rel => exact ⟨_, ((t1013 == t1015)), (by first | rfl | (simp; done) | (simp [*]; done)), H', ⟨by first | omega | exact Nat.le_refl _⟩, ⟨by (with_reducible repeat (first | apply Kd.R_alloc | apply Kd.R_drewN | apply Kd.R_drew)); exact Kd.R_mono HO1023.out (fun _ hk => trivial)⟩, ⟨by (with_reducible repeat (first | apply Kd.S_alloc | apply Kd.S_drewN | apply Kd.S_drew)); exact Kd.S_mono HO1019.out (fun _ hk => hk.1.2)⟩, ⟨by (with_reducible repeat (first | apply Kd.S_alloc | apply Kd.S_drewN | apply Kd.S_drew)); exact Kd.S_mono HO1020.out (fun _ hk => hk.1.2)⟩, ⟨by (with_reducible repeat (first | refine blk_drewN ?_ _ | refine blk_drew ?_ | refine blk_alloc ?_ _)); exact BK1009.out⟩, ⟨by (with_reducible repeat (first | refine blk_drewN ?_ _ | refine blk_drew ?_ | refine blk_alloc ?_ _)); exact BK1010.out⟩, ⟨by (with_reducible repeat (first | refine blk_drewN ?_ _ | refine blk_drew ?_ | refine blk_alloc ?_ _)); exact BK1021.out⟩, ⟨by repeat (first | (with_reducible first | exact HB.out | apply below_alloc | apply pbdN | apply bdr1 | refine below_set ?_ GE1009.out | refine below_set ?_ GE1010.out | refine below_set ?_ GE1021.out) | exact HB.out)⟩⟩
      · rw [if_neg c33] at H
        have c33b0 : ((strOfNums t1007).toList == (strOfNums t1008).toList) = false := beq_eq_false_iff_ne.mpr c33
        have c33b1 : ((strOfNums t1007).toList != (strOfNums t1008).toList) = true := bne_iff_ne.mpr c33
        (first | rw [c33b0] | (simp only [i64_w, i32_w]; rw [c33b0]) | skip)
        have H' := Aside0.mk H
        clear H
        have hcv36 := own_string (P := Try.prog) Try.underlying31 Try.underlying5 Try.underlying9 (Kd.own_of_R HO1023.out)
        have hcv37 := own_string (P := Try.prog) Try.underlying31 Try.underlying5 Try.underlying9 (Kd.own_of_R HO1025.out)
        go_wp2
        go_meet
        case rel => exact ⟨_, (false), (by first | rfl | (simp; done) | (simp [*]; done)), H', ⟨by first | omega | exact Nat.le_refl _⟩, ⟨by (with_reducible repeat (first | apply Kd.R_alloc | apply Kd.R_drewN | apply Kd.R_drew)); exact Kd.R_mono HO1023.out (fun _ hk => trivial)⟩, ⟨by (with_reducible repeat (first | apply Kd.S_alloc | apply Kd.S_drewN | apply Kd.S_drew)); exact Kd.S_mono HO1019.out (fun _ hk => hk.1.2)⟩, ⟨by (with_reducible repeat (first | apply Kd.S_alloc | apply Kd.S_drewN | apply Kd.S_drew)); exact Kd.S_mono HO1020.out (fun _ hk => hk.1.2)⟩, ⟨by (with_reducible repeat (first | refine blk_drewN ?_ _ | refine blk_drew ?_ | refine blk_alloc ?_ _)); exact BK1009.out⟩, ⟨by (with_reducible repeat (first | refine blk_drewN ?_ _ | refine blk_drew ?_ | refine blk_alloc ?_ _)); exact BK1010.out⟩, ⟨by (with_reducible repeat (first | refine blk_drewN ?_ _ | refine blk_drew ?_ | refine blk_alloc ?_ _)); exact BK1021.out⟩, ⟨by repeat (first | (with_reducible first | exact HB.out | apply below_alloc | apply pbdN | apply bdr1 | refine below_set ?_ GE1009.out | refine below_set ?_ GE1010.out | refine below_set ?_ GE1021.out) | exact HB.out)⟩⟩
    case rest =>
      clear HC14
      try clear c1
      try clear c2
      try clear p2
      try clear c3
      try clear hcv3
      try clear c5
      try clear c7
      try clear c8
      try clear c17
      try clear c24
      try clear c25
      try clear c33
      try clear c33b0
      try clear c33b1
      try clear hcv34
      try clear hcv35
      try clear c36
      try clear hcv36
      try clear c37
      try clear hcv37
      try clear hcz18_0
      try clear hcz18_1
      try clear hcz20_0
      try clear hcz20_1
      try clear hcz26_0
      try clear hcz26_1
      try clear hcz28_0
      try clear hcz28_1
      try clear hcz28_2
      try clear hcz28_3
      try clear hcz28_4
      try clear hcz28_5
      try clear hcz30_0
      try clear hcz30_1
      try clear hcz30_2
      try clear hcz30_3
      try clear hcz30_4
      try clear hcz30_5
      try clear hcz31_0
      try clear hcz31_1
      try clear hcz9_0
      try clear hcz9_1
      try clear hfz18_0
      try clear hfz18_1
      try clear hfz20_0
      try clear hfz20_1
      try clear hfz26_0
      try clear hfz26_1
      try clear hfz28_0
      try clear hfz28_1
      try clear hfz28_2
      try clear hfz28_3
      try clear hfz28_4
      try clear hfz28_5
      try clear hfz30_0
      try clear hfz30_1
      try clear hfz30_2
      try clear hfz30_3
      try clear hfz30_4
      try clear hfz30_5
      try clear hfz31_0
      try clear hfz31_1
      try clear hfz9_0
      try clear hfz9_1
      obtain ⟨kq, x12_13, rfl, HA, HJ13, HO_8, HO_1002, HO_1003, BK1009, BK1010, BK1021, HB⟩ := hcut
      cases kq with
      | zero => exact absurd HA.out (by simp [catamaranlaw13_PageReads.j0])
      | succ kj13 =>
        have H := HA.out
        clear HA
        simp only [catamaranlaw13_PageReads.j0] at H
        have H' := Aside0.mk H
        clear H
        go_wp2
        go_loopg [13] kj13 (fun kq v13 w' => ∃ (x8_2 : List Int) (x13_2 : Int), v13 = .int .i64 x13_2 ∧ Aside0 (catamaranlaw13_PageReads.l0 kq x8_2 x12_13 x13_2 l1_0 l1_1 t1006 t1011 = some r) ∧ Aside0 (kq ≤ kj13) ∧ Aside0 (Kd.R (Kd.int .u8) 5 w' w.heap.size (fun _ => True) v1022 x8_2) ∧ Aside0 (Kd.S k39 39 w' w.heap.size (fun k_ => some k_ ≠ (v1022 : Value).ownBlock) (.slice Ao23 t1006.length co23) t1006) ∧ Aside0 (Kd.S k49 49 w' w.heap.size (fun k_ => some k_ ≠ (v1022 : Value).ownBlock) (.slice Ao27 t1011.length co27) t1011) ∧ Aside0 (w'.heap[gb1009]? = some (.cells #[.int .i64 a0_0, .int .i64 a0_1, .int .i64 a0_2, .int .i64 a0_3, .int .i64 a0_4, .int .i64 a0_5] 44 (0, 0))) ∧ Aside0 (w'.heap[gb1010]? = some (.cells #[(.slice A1_0 l1_0.length c1_0), (.slice A1_1 l1_1.length c1_1)] 25 (0, 0))) ∧ Aside0 (w'.heap[gb1021]? = some (.cells #[(.slice Ao23 t1006.length co23), (.slice Ao27 t1011.length co27)] 25 (0, 0))) ∧ Aside0 (Below w.heap.size w w'))
        case atStart => exact ⟨(t1007), (0), (by first | rfl | (simp; done) | (simp [*]; done)), H', ⟨Nat.le_refl _⟩, ⟨by (with_reducible repeat (first | apply Kd.R_alloc | apply Kd.R_drewN | apply Kd.R_drew)); exact HO_8.out⟩, ⟨by (with_reducible repeat (first | apply Kd.S_alloc | apply Kd.S_drewN | apply Kd.S_drew)); exact HO_1002.out⟩, ⟨by (with_reducible repeat (first | apply Kd.S_alloc | apply Kd.S_drewN | apply Kd.S_drew)); exact HO_1003.out⟩, ⟨by (with_reducible repeat (first | refine blk_drewN ?_ _ | refine blk_drew ?_ | refine blk_alloc ?_ _)); exact BK1009.out⟩, ⟨by (with_reducible repeat (first | refine blk_drewN ?_ _ | refine blk_drew ?_ | refine blk_alloc ?_ _)); exact BK1010.out⟩, ⟨by (with_reducible repeat (first | refine blk_drewN ?_ _ | refine blk_drew ?_ | refine blk_alloc ?_ _)); exact BK1021.out⟩, ⟨by repeat (first | (with_reducible first | exact HB.out | apply below_alloc | apply pbdN | apply bdr1 | refine below_set ?_ GE1009.out | refine below_set ?_ GE1010.out | refine below_set ?_ GE1021.out) | exact HB.out)⟩⟩
        case round =>
          clear H'
          try clear c1
          try clear c2
          try clear p2
          try clear c3
          try clear hcv3
          try clear c5
          try clear c7
          try clear c8
          try clear c17
          try clear c24
          try clear c25
          try clear c33
          try clear c33b0
          try clear c33b1
          try clear hcv34
          try clear hcv35
          try clear c36
          try clear hcv36
          try clear c37
          try clear hcv37
          try clear hcz18_0
          try clear hcz18_1
          try clear hcz20_0
          try clear hcz20_1
          try clear hcz26_0
          try clear hcz26_1
          try clear hcz28_0
          try clear hcz28_1
          try clear hcz28_2
          try clear hcz28_3
          try clear hcz28_4
          try clear hcz28_5
          try clear hcz30_0
          try clear hcz30_1
          try clear hcz30_2
          try clear hcz30_3
          try clear hcz30_4
          try clear hcz30_5
          try clear hcz31_0
          try clear hcz31_1
          try clear hcz9_0
          try clear hcz9_1
          try clear hfz18_0
          try clear hfz18_1
          try clear hfz20_0
          try clear hfz20_1
          try clear hfz26_0
          try clear hfz26_1
          try clear hfz28_0
          try clear hfz28_1
          try clear hfz28_2
          try clear hfz28_3
          try clear hfz28_4
          try clear hfz28_5
          try clear hfz30_0
          try clear hfz30_1
          try clear hfz30_2
          try clear hfz30_3
          try clear hfz30_4
          try clear hfz30_5
          try clear hfz31_0
          try clear hfz31_1
          try clear hfz9_0
          try clear hfz9_1
          try clear p2
          obtain ⟨x8_2, x13_2, rfl, HA, HK2, HO_8, HO_1002, HO_1003, BK1009, BK1010, BK1021, HB⟩ := hrel
          cases gk with
          | zero => exact absurd HA.out (by simp [catamaranlaw13_PageReads.l0])
          | succ k2 =>
            have H := HA.out
            clear HA
            simp only [catamaranlaw13_PageReads.l0] at H
            by_cases c38 : x13_2 < (x8_2.length : Int)
            · rw [if_pos c38] at H
              have c38b0 : decide (x13_2 < (x8_2.length : Int)) = true := decide_eq_true c38
              clear c38
              by_cases c39 : 0 ≤ x13_2
              · rw [if_pos c39] at H
                have c39b0 : decide (0 ≤ x13_2) = true := decide_eq_true c39
                clear c39
                obtain ⟨y1026, hy1026⟩ : ∃ y_ : List Int, y_ = (x8_2.set (x13_2 : Int).toNat (((rd x8_2 x13_2) + 1) % 256)) := ⟨_, rfl⟩
                replace H : (catamaranlaw13_PageReads.l0 k2 y1026 x12_13 (wrap64 (x13_2 + 1)) l1_0 l1_1 t1006 t1011) = some r := by first | (rw [hy1026]; with_reducible exact H) | (have H2_ := (Option.bind_some _ _).symm.trans H; rw [hy1026]; with_reducible exact H2_) | (have H2_ := (Option.bind_some _ _).symm.trans H; with_reducible exact H2_) | with_reducible exact H | (rw [hy1026]; exact H) | exact H
                have Ny1026 := Aside0.mk hy1026
                clear hy1026
                have H' := Aside0.mk H
                clear H
                obtain ⟨Ao41, co41, eo41⟩ := Kd.R_slice HO_8.out
                subst eo41
                have p1027 : 0 ≤ (x13_2 : Int) := of_decide_eq_true (by first | (with_reducible assumption) | assumption)
                have q1027 : x13_2 < (x8_2.length : Int) := of_decide_eq_true (by first | (with_reducible assumption) | assumption)
                obtain ⟨ad1027, e1027, hx1027_0⟩ := Kd.at_int (Kd.R_reads' HO_8.out).2.2 x13_2 p1027 q1027
                cases e1027
                replace p1027 := eq_true p1027
                replace q1027 := eq_true q1027
                have p40 : 0 ≤ (x13_2 : Int) := of_decide_eq_true (by first | (with_reducible assumption) | assumption)
                have q40 : (x13_2 : Int) < ((x8_2.length : Int) : Int) := of_decide_eq_true (by first | (with_reducible assumption) | assumption)
                obtain ⟨go40, co40, eo40, gb40, gl40, cl40, HG40⟩ := Kd.R_form HO_8.out (by omega)
                (first | cases eo40 | (injection eo40 with ea_ en_ ec_; (first | subst ea_ | (injection ea_ with ea_; subst ea_)); subst ec_; clear en_))
                have GB40 := Aside0.mk gb40
                have GG40 := Aside0.mk HG40
                clear gb40 gl40 HG40
                (first | simp only [add_plain] at hx1027_0 | skip)
                obtain ⟨hx40_0, hf40_0⟩ := Kd.R_celln 0 HO_8.out (x13_2 : Int) p40 q40
                replace p40 := eq_true p40
                replace q40 := eq_true q40
                have HP42 := Kd.R_putg HO_8.out (x13_2 : Int) (((rd x8_2 x13_2) + 1) % 256)
                go_wp2_with (first | ((with_reducible refine gate_store (t := 5) (p := 55) rfl ?_); refine store_event (t := 5) (p := 55) (v := ?vo_w43) (w1 := (wr.setCell ⟨go40, (x13_2 : Int).toNat, none⟩ (.int .u8 (((rd x8_2 x13_2) + 1) % 256)))) ?hg ?ho ?hn ?hr ?_; (case ho => rfl); (case hg => rfl); (case hn => rfl); (case hr => first | (go_simp; done) | (go_simp; rfl)); intro w43 hw; have hg : wr.grownBy w43 (some go40) := (by rw [hw]; exact HP42.2); have hp_ : Kd.R (Kd.int .u8) 5 w43 w.heap.size (fun _ => True) (.slice (some ⟨go40, 0, none⟩) x8_2.length co41) y1026 := (by rw [hw, Ny1026.out]; exact HP42.1); clear HP42; have n0_ := Aside0.mk (hp_); have n1_ := Aside0.mk (Kd.S_after (v := (.slice (some ⟨go40, 0, none⟩) x8_2.length co41)) (v1 := (.slice (some ⟨go40, 0, none⟩) x8_2.length co41)) (ok := (fun _ => True)) (by (with_reducible repeat (first | apply Kd.S_alloc | apply Kd.S_drewN | apply Kd.S_drew)); exact Kd.S_mono HO_1002.out (fun _ hk => ⟨trivial, hk⟩)) hg (.inl rfl)); have n2_ := Aside0.mk (Kd.S_after (v := (.slice (some ⟨go40, 0, none⟩) x8_2.length co41)) (v1 := (.slice (some ⟨go40, 0, none⟩) x8_2.length co41)) (ok := (fun _ => True)) (by (with_reducible repeat (first | apply Kd.S_alloc | apply Kd.S_drewN | apply Kd.S_drew)); exact Kd.S_mono HO_1003.out (fun _ hk => ⟨trivial, hk⟩)) hg (.inl rfl)); have n3_ := Aside0.mk (blk_grown (g := gb1009) (o := .cells #[.int .i64 a0_0, .int .i64 a0_1, .int .i64 a0_2, .int .i64 a0_3, .int .i64 a0_4, .int .i64 a0_5] 44 (0, 0)) (by (with_reducible repeat (first | refine blk_drewN ?_ _ | refine blk_drew ?_ | refine blk_alloc ?_ _)); exact BK1009.out) hg (Kd.R_ne HO_8.out BK1009.out (by decide))); have n4_ := Aside0.mk (blk_grown (g := gb1010) (o := .cells #[.slice A1_0 l1_0.length c1_0, .slice A1_1 l1_1.length c1_1] 25 (0, 0)) (by (with_reducible repeat (first | refine blk_drewN ?_ _ | refine blk_drew ?_ | refine blk_alloc ?_ _)); exact BK1010.out) hg (Kd.R_ne HO_8.out BK1010.out (by decide))); have n5_ := Aside0.mk (blk_grown (g := gb1021) (o := .cells #[.slice Ao23 t1006.length co23, .slice Ao27 t1011.length co27] 25 (0, 0)) (by (with_reducible repeat (first | refine blk_drewN ?_ _ | refine blk_drew ?_ | refine blk_alloc ?_ _)); exact BK1021.out) hg (Kd.R_ne HO_8.out BK1021.out (by decide))); have n6_ := Aside0.mk ((by rw [hw]; exact below_set (HB.out) GB40.out : Below w.heap.size w w43)); clear HO_8; clear HO_1002; clear HO_1003; clear BK1009; clear BK1010; clear BK1021; clear HB; have HO_8 := n0_; have HO_1002 := n1_; have HO_1003 := n2_; have BK1009 := n3_; have BK1010 := n4_; have BK1021 := n5_; have HB := n6_; clear n0_ n1_ n2_ n3_ n4_ n5_ n6_; clear hg hw hp_))
                go_roundg k2
                case measure => have := HJ13.out; have := HK2.out; omega
                case rel => exact ⟨(y1026), (wrap64 (x13_2 + 1)), (by first | rfl | (simp; done) | (simp [*]; done)), H', ⟨by have := HJ13.out; have := HK2.out; omega⟩, ⟨by (with_reducible repeat (first | apply Kd.R_alloc | apply Kd.R_drewN | apply Kd.R_drew)); exact HO_8.out⟩, ⟨by (with_reducible repeat (first | apply Kd.S_alloc | apply Kd.S_drewN | apply Kd.S_drew)); exact Kd.S_mono HO_1002.out (fun _ hk => hk.2)⟩, ⟨by (with_reducible repeat (first | apply Kd.S_alloc | apply Kd.S_drewN | apply Kd.S_drew)); exact Kd.S_mono HO_1003.out (fun _ hk => hk.2)⟩, ⟨by (with_reducible repeat (first | refine blk_drewN ?_ _ | refine blk_drew ?_ | refine blk_alloc ?_ _)); exact BK1009.out⟩, ⟨by (with_reducible repeat (first | refine blk_drewN ?_ _ | refine blk_drew ?_ | refine blk_alloc ?_ _)); exact BK1010.out⟩, ⟨by (with_reducible repeat (first | refine blk_drewN ?_ _ | refine blk_drew ?_ | refine blk_alloc ?_ _)); exact BK1021.out⟩, ⟨by repeat (first | (with_reducible first | exact HB.out | apply below_alloc | apply pbdN | apply bdr1 | refine below_set ?_ GE1009.out | refine below_set ?_ GE1010.out | refine below_set ?_ GE1021.out) | exact HB.out)⟩⟩
              · rw [if_neg c39] at H
                exact absurd H (by simp)
            · rw [if_neg c38] at H
              have c38b0 : decide (x13_2 < (x8_2.length : Int)) = false := decide_eq_false c38
              clear c38
              by_cases c44 : x12_13 = true
              · subst c44
                have H1 : ((hSame.f t1006 t1011 l1_0 l1_1).bind fun t1004 => (some t1004)) = some r := by rw [if_pos rfl] at H; exact H
                clear H
                have H := H1
                clear H1
                replace H := Option.bind_eq_some_iff.mp H
                obtain ⟨t1004, A1028, H⟩ := H
                replace H : (some t1004) = some r := H
                have A45 := Aside0.mk A1028
                clear A1028
                obtain rfl := Option.some.inj H
                obtain ⟨Ao46, co46, eo46⟩ := Kd.R_slice HO_8.out
                subst eo46
                have hnb47 := NB1021_628.out
                have hnc47 := NB1009_637.out
                have hnb48 := NB1021_629.out
                have hnc48 := NB1010_637.out
                have hcz49_0 : wr.cell? ⟨gb1021, 0, none⟩ = some (.slice Ao23 t1006.length co23) := (blk_cell BK1021.out 0).trans rfl
                have hcz49_1 : wr.cell? ⟨gb1021, 1, none⟩ = some (.slice Ao27 t1011.length co27) := (blk_cell BK1021.out 1).trans rfl
                have hfz49_0 := blk_frozen BK1021.out 0
                have hfz49_1 := blk_frozen BK1021.out 1
                have hnb50 := NB1010_628.out
                have hnc50 := NB1009_629.out
                have hcz51_0 : wr.cell? ⟨gb1010, 0, none⟩ = some (.slice A1_0 l1_0.length c1_0) := (blk_cell BK1010.out 0).trans rfl
                have hcz51_1 : wr.cell? ⟨gb1010, 1, none⟩ = some (.slice A1_1 l1_1.length c1_1) := (blk_cell BK1010.out 1).trans rfl
                have hfz51_0 := blk_frozen BK1010.out 0
                have hfz51_1 := blk_frozen BK1010.out 1
                go_wp2_with (first | (go_at_call 30; (with_reducible refine (hSame.calls _ _ t1006 _ _ t1011 _ _ l1_0 _ _ l1_1 t1004 _ ?side1 ?side2 ?side3 ?side4 ?side5 ?side6 ?side7 ?side8 A45.out).mono ?_); (case side1 => repeat (first | exact (Kd.S_reads' HO_1002.out).2.2 | (with_reducible refine Kd.C_alloc ?_ _) | (with_reducible refine Kd.C_drewN ?_ _) | (with_reducible refine Kd.C_drew ?_))); (case side2 => exact (Kd.S_reads' HO_1002.out).2.1); (case side3 => repeat (first | exact (Kd.S_reads' HO_1003.out).2.2 | (with_reducible refine Kd.C_alloc ?_ _) | (with_reducible refine Kd.C_drewN ?_ _) | (with_reducible refine Kd.C_drew ?_))); (case side4 => exact (Kd.S_reads' HO_1003.out).2.1); (case side5 => repeat (first | exact (Kd.C_below HR1_0.out HB.out) | (with_reducible refine Kd.C_alloc ?_ _) | (with_reducible refine Kd.C_drewN ?_ _) | (with_reducible refine Kd.C_drew ?_))); (case side6 => exact HC1_0.out); (case side7 => repeat (first | exact (Kd.C_below HR1_1.out HB.out) | (with_reducible refine Kd.C_alloc ?_ _) | (with_reducible refine Kd.C_drewN ?_ _) | (with_reducible refine Kd.C_drew ?_))); (case side8 => exact HC1_1.out); rintro e w52 ⟨rfl, hb⟩; have n0_ := Aside0.mk (Kd.R_below (by (with_reducible repeat (first | apply Kd.R_alloc | apply Kd.R_drewN | apply Kd.R_drew)); exact HO_8.out) hb); have n1_ := Aside0.mk (Kd.S_below (by (with_reducible repeat (first | apply Kd.S_alloc | apply Kd.S_drewN | apply Kd.S_drew)); exact HO_1002.out) hb); have n2_ := Aside0.mk (Kd.S_below (by (with_reducible repeat (first | apply Kd.S_alloc | apply Kd.S_drewN | apply Kd.S_drew)); exact HO_1003.out) hb); have n3_ := Aside0.mk (blk_below (g := gb1009) (o := .cells #[.int .i64 a0_0, .int .i64 a0_1, .int .i64 a0_2, .int .i64 a0_3, .int .i64 a0_4, .int .i64 a0_5] 44 (0, 0)) (by (with_reducible repeat (first | refine blk_drewN ?_ _ | refine blk_drew ?_ | refine blk_alloc ?_ _)); exact BK1009.out) hb); have n4_ := Aside0.mk (blk_below (g := gb1010) (o := .cells #[.slice A1_0 l1_0.length c1_0, .slice A1_1 l1_1.length c1_1] 25 (0, 0)) (by (with_reducible repeat (first | refine blk_drewN ?_ _ | refine blk_drew ?_ | refine blk_alloc ?_ _)); exact BK1010.out) hb); have n5_ := Aside0.mk (blk_below (g := gb1021) (o := .cells #[.slice Ao23 t1006.length co23, .slice Ao27 t1011.length co27] 25 (0, 0)) (by (with_reducible repeat (first | refine blk_drewN ?_ _ | refine blk_drew ?_ | refine blk_alloc ?_ _)); exact BK1021.out) hb); have n6_ := Aside0.mk (below_step (by repeat (first | (with_reducible first | exact HB.out | apply below_alloc | apply pbdN | apply bdr1 | refine below_set ?_ GE1009.out | refine below_set ?_ GE1010.out | refine below_set ?_ GE1021.out) | exact HB.out)) hb); clear HO_8; clear HO_1002; clear HO_1003; clear BK1009; clear BK1010; clear BK1021; clear HB; have HO_8 := n0_; have HO_1002 := n1_; have HO_1003 := n2_; have BK1009 := n3_; have BK1010 := n4_; have BK1021 := n5_; have HB := n6_; clear n0_ n1_ n2_ n3_ n4_ n5_ n6_; (try clear hb); (try clear hb2); (try clear hk); (try clear hi)))
                go_ret
                exact ⟨by first | rfl | (simp [errW_none, errW_some] <;> rfl) | (simp [*, errW_none, errW_some] <;> rfl), by repeat (first | (with_reducible first | exact HB.out | apply below_alloc | apply pbdN | apply bdr1 | refine below_set ?_ GE1009.out | refine below_set ?_ GE1010.out | refine below_set ?_ GE1021.out) | exact HB.out)⟩
              · replace c44 := Bool.eq_false_iff.mpr c44
                subst c44
                have H1 : (some false) = some r := by rw [if_neg (show ¬ (false = true) by decide)] at H; exact H
                clear H
                have H := H1
                clear H1
                obtain rfl := Option.some.inj H
                obtain ⟨Ao53, co53, eo53⟩ := Kd.R_slice HO_8.out
                subst eo53
                go_wp2
                go_ret
                exact ⟨by first | rfl | (simp [errW_none, errW_some] <;> rfl) | (simp [*, errW_none, errW_some] <;> rfl), by repeat (first | (with_reducible first | exact HB.out | apply below_alloc | apply pbdN | apply bdr1 | refine below_set ?_ GE1009.out | refine below_set ?_ GE1010.out | refine below_set ?_ GE1021.out) | exact HB.out)⟩
end Go.Proofs.Ytdkjhcdniepbhaa.P
end
section
set_option linter.unusedVariables false
set_option linter.unusedSimpArgs false
namespace Go.Proofs.Ytdkjhcdniepbhaa.P
open Go.RowKit Go.Proofs.PrintWords Go.Proofs.PrintLast Go.Proofs.PrintMore
attribute [local go_sem] max2_int min2_int max_two min_two max_three min_three max_four min_four
theorem pages07_is {t : Int} (h : 1 ≤ t ∧ t ≤ 16) (p a m w q : Int) : place_pages.f p t a m w q = some (pgs t) := by
  unfold place_pages.f
  rw [wrap_small (a := t + 8) (by omega) (by omega), wrap_small (a := t + 8 - 1) (by omega) (by omega), Int.tdiv_eq_ediv_of_nonneg (by omega), wrap_small (by omega) (by omega)]
  unfold pgs
  split
  · rw [show (t + 8 - 1) / 8 = 1 by omega]
  · rw [show (t + 8 - 1) / 8 = 2 by omega]
theorem pread_l0 {p t a m w q : Int} {l0 : List S39} {l1 : List S49} (h : okSite p t a m w q l0 l1 = true) {pair : Int} (hpr : 0 ≤ pair ∧ pair < p) : ∀ (d k n : Nat), (pgs t).toNat = n + d → d < k → page_Read.l0 k pair (pgMarks p t a l0 l1 pair n) (pgs t) (n : Int) p t a m w q l0 l1 = some (pgMarks p t a l0 l1 pair (pgs t).toNat, 0)
  | 0, k, n, hn, hk => by
    obtain ⟨k, rfl⟩ : ∃ m, k = m + 1 := ⟨k - 1, by omega⟩
    simp only [page_Read.l0]
    rw [if_neg (by omega), show n = (pgs t).toNat by omega]
  | d + 1, k, n, hn, hk => by
    obtain ⟨k, rfl⟩ : ∃ m, k = m + 1 := ⟨k - 1, by omega⟩
    have hp := pgs_bound t
    simp only [page_Read.l0]
    rw [if_pos (by omega), told_is h ⟨hpr, by omega, by omega⟩, Option.bind_some, if_pos (by rw [pgMarks_len]; omega), wrap_succ (by omega), ← pgMarks_succ]
    exact pread_l0 h hpr d k (n + 1) (by omega) (by omega)
theorem pRead_is (k : Nat) (hk : 10 ≤ k) (p t a m w q : Int) (l0 : List S39) (l1 : List S49) (pair : Int) : page_Read.f k p t a m w q l0 l1 pair = some (pRead p t a m w q l0 l1 pair) := by
  obtain ⟨k, rfl⟩ : ∃ m, k = m + 1 := ⟨k - 1, by omega⟩
  unfold page_Read.f pRead
  rw [tCheck_is, Option.bind_some]
  cases h : okSite p t a m w q l0 l1
  · rfl
  · simp only [if_true]
    obtain ⟨hc, hn, hok⟩ := okSite_parts h
    have hb := (okCfg_iff p t a m w q).1 hc
    by_cases h1 : pair < 0
    · rw [if_pos h1, if_neg (by omega)]
      simp [page_Read.j0]
    · rw [if_neg h1]
      simp only [page_Read.j0]
      by_cases h2 : pair ≥ p
      · rw [if_pos (decide_eq_true h2), if_neg (by omega)]
      · rw [if_neg (by simpa using h2), if_pos (by omega)]
        unfold place_Pages.f hPlaceCheck.f
        rw [hc]
        simp only [if_true, Option.bind_some]
        rw [pages07_is hb.2.1, Option.bind_some, Option.bind_some]
        exact pread_l0 h (by omega) (pgs t).toNat k 0 (by omega) (by have := pgs_bound t; omega)
theorem pr_l0 (l0 : List S39) (l1 : List S49) : ∀ (d k n : Nat) (x : List Int), x.length = n + d → d < k → x.length ≤ 100000 → catamaranlaw13_PageReads.l0 k x true (n : Int) l0 l1 l0 l1 = some true
  | 0, k, n, x, hn, hk, hx => by
    obtain ⟨k, rfl⟩ : ∃ m, k = m + 1 := ⟨k - 1, by omega⟩
    simp only [catamaranlaw13_PageReads.l0]
    rw [if_neg (by omega), if_pos trivial]
    unfold hSame.f
    rw [dSame_refl, Option.bind_some]
  | d + 1, k, n, x, hn, hk, hx => by
    obtain ⟨k, rfl⟩ : ∃ m, k = m + 1 := ⟨k - 1, by omega⟩
    simp only [catamaranlaw13_PageReads.l0]
    rw [if_pos (by omega), if_pos (by omega), wrap_succ (by omega)]
    exact pr_l0 l0 l1 d k (n + 1) _ (by rw [List.length_set]; omega) (by omega) (by rw [List.length_set]; exact hx)
theorem pRead_len (p t a m w q : Int) (l0 : List S39) (l1 : List S49) (pair : Int) : (pRead p t a m w q l0 l1 pair).1.length ≤ 2 := by
  have hp := pgs_bound t
  unfold pRead
  split
  · split
    · simp only [pgMarks_len]; omega
    · simp
  · simp
theorem lawPR_pure (p t a m w q : Int) (l0 : List S39) (l1 : List S49) (hby : bytesD l0 l1) (pair : Int) : catamaranlaw13_PageReads.f 3000 p t a m w q l0 l1 pair = some true := by
  unfold catamaranlaw13_PageReads.f
  obtain ⟨gb, hgr, hn⟩ := great_is l0 l1 300 (by omega) 3000 (by omega)
  rw [show ((300 : Nat) : Int) = 300 from rfl] at hgr
  rw [hgr, Option.bind_some]
  cases gb with
  | true => rfl
  | false =>
    obtain ⟨n0, n1, n2, n3⟩ := hn rfl
    rw [if_neg (by simp), rTwin_is 3000 l0 l1 (by omega) (by omega) (by omega) (fun s hs => by have := n2 s hs; omega) (fun s hs => by have := n3 s hs; omega), Option.bind_some]
    simp only []
    rw [pRead_is 3000 (by omega), Option.bind_some, rPRead_is 3000 (by omega) p t a m w q l0 l1 hby, Option.bind_some, if_pos rfl, show ((pRead p t a m w q l0 l1 pair).2 == (pRead p t a m w q l0 l1 pair).2) = true from beq_self_eq_true _, show (3000 : Nat) = 2999 + 1 from rfl]
    simp only [catamaranlaw13_PageReads.j0]
    have hl := pRead_len p t a m w q l0 l1 pair
    exact pr_l0 l0 l1 (pRead p t a m w q l0 l1 pair).1.length 2999 0 _ (by omega) (by omega) (by omega)
end Go.Proofs.Ytdkjhcdniepbhaa.P
end
section
set_option linter.unusedVariables false
set_option linter.unusedSimpArgs false
namespace Go.Proofs.Ytdkjhcdniepbhaa.P
open Go.RowKit Go.Proofs.PrintWords Go.Proofs.PrintLast Go.Proofs.PrintMore
attribute [local go_sem] max2_int min2_int max_two min_two max_three min_three max_four min_four
open Go.ChangeShapes Go.WideShapes Go.Deep Go.Joins
section
variable {H : Type} {enc : TypeId × Value → H} {w : World} {base : Nat}
theorem list_of {α : Type} (n : Nat) (p : Nat → α → Prop) (h : ∀ i, i < n → ∃ x, p i x) : ∃ l : List α, l.length = n ∧ ∀ i x, l[i]? = some x → p i x := by
  induction n with
  | zero => exact ⟨[], rfl, fun i x hx => by simp at hx⟩
  | succ n ih =>
    obtain ⟨l, hl, hp⟩ := ih fun i hi => h i (by omega)
    obtain ⟨x, hx⟩ := h n (by omega)
    refine ⟨l ++ [x], by simp [hl], fun i y hy => ?_⟩
    by_cases hi : i < l.length
    · rw [List.getElem?_append_left hi] at hy
      exact hp i y hy
    · rw [List.getElem?_append_right (by omega)] at hy
      have : i - l.length = 0 := by
        have := (List.getElem?_eq_some_iff.1 hy).1
        simp at this
        omega
      rw [this] at hy
      simp at hy
      subst hy
      rw [show i = n by omega]
      exact hx
theorem byte_of_wf {n : Int} (h : (Lit.int .u8 n).wf = true) : 0 ≤ n ∧ n ≤ 255 := by
  have h : (decide ((0 : Int) ≤ n) && decide (n ≤ 255)) = true := h
  simpa using h
theorem open_text {n : Nat} {v : Value} {y : DataW H × List MemPlace} (h : DataW.trod enc Try.prog w base (fun _ => true) true n 31 [v] = some y) :
    ∃ (A : Option Addr) (c : Nat) (l : List Int), v = .slice A l.length c ∧ l.length ≤ c ∧ Kd.C (Kd.int .u8) w A l.length l ∧ byteL l := by
  have fin : ∀ (a : Option Addr) (len cap : Nat) (zs : List Int), ((a = none ∧ len = 0 ∧ cap = 0 ∧ zs = []) ∨ ∃ x, a = some x ∧ len ≤ cap ∧ cap ≤ maxLen ∧ zs.length = cap ∧ (∀ i, i < zs.length → w.cell? (x.add i) = some (.int .u8 (zs.getD i 0))) ∧ ∀ n ∈ zs, (Lit.int .u8 n).wf = true) → [v] = [.slice a len cap] →
      ∃ (A : Option Addr) (c : Nat) (l : List Int), v = .slice A l.length c ∧ l.length ≤ c ∧ Kd.C (Kd.int .u8) w A l.length l ∧ byteL l := by
    intro a len cap zs hr hv
    obtain ⟨l, rfl, hr, hm, hw, hc⟩ := ReadsInt.ofRowC hr
    exact ⟨a, cap, l, by simpa using hv, hc, Kd.C_of_reads (d := (0 : Int)) (h1 := fun _ => rfl) hr, fun n hn => byte_of_wf (hw n hn)⟩
  rcases open_ints Try.underlying31 Try.underlying5 (by kernel_rfl) h with ⟨hcs, _⟩ | ⟨x, l, c, zs, hcs, _, hl, hm, hz, _, hcell, hwz⟩
  · exact fin none 0 0 [] (.inl ⟨rfl, rfl, rfl, rfl⟩) hcs
  · exact fin (some x) l c zs (.inr ⟨x, rfl, hl, hm, by simpa using hz, hcell, hwz⟩) hcs
theorem cells2 {w : World} {base : Nat} {a : Addr} {cs : List Value} (h : w.cells? base a 2 = some cs) : ∃ u v, cs = [u, v] ∧ w.cell? (a.add 0) = some u ∧ w.cell? (a.add 1) = some v := by
  obtain ⟨_, hl, hat⟩ := World.cells?_some h
  match cs, hl with
  | [u, v], _ => exact ⟨u, v, rfl, by have := hat 0 (by omega); simpa using this, by have := hat 1 (by omega); simpa using this⟩
theorem open_secs {n : Nat} {v : Value} {y : DataW H × List MemPlace} (h : DataW.trod enc Try.prog w base (fun _ => true) true n 22 [v] = some y) :
    ∃ (A : Option Addr) (c : Nat) (l : List S39), v = .slice A l.length c ∧ l.length ≤ c ∧ Kd.C k39 w A l.length l ∧ ∀ s ∈ l, byteL s.f0 := by
  have hC : Try.prog.cellsOf 39 = 2 := by kernel_rfl
  rcases Go.Deep.open_slice Try.underlying22 h with ⟨hcs, _⟩ | ⟨a, len, cap, m, n', D, Pl, hcs, hb, hl, hm, hmm, hx, hi⟩
  · obtain rfl : v = .slice none 0 0 := by simpa using hcs
    exact ⟨none, 0, [], rfl, Nat.le_refl _, ⟨rfl, by simp, fun h => absurd h (by simp)⟩, by simp⟩
  · obtain rfl : v = .slice (some a) len cap := by simpa using hcs
    have hm2 : cap ≤ 9223372036854775807 := by have : maxLen ≤ 9223372036854775807 := by decide +kernel
                                               omega
    obtain ⟨l, hll, hp⟩ := list_of len (fun i (s : S39) => ∃ cs, cs.length = 2 ∧ k39.K w s cs ∧ (∀ j u, cs[j]? = some u → w.cell? (a.add (i * 2 + j)) = some u) ∧ byteL s.f0) fun i hil => by
      obtain ⟨cs', hc, ht⟩ := hi i (by rw [hmm]; simp; omega)
      rw [hC] at hc
      obtain ⟨u, x, rfl, h0, h1⟩ := cells2 hc
      obtain ⟨y0, y1, n2, _, _, q0, q1⟩ := trod_struct2 Try.underlying39 ht
      have e0 : Try.prog.cellsOf 31 = 1 := by kernel_rfl
      have e1 : Try.prog.cellsOf 4 = 1 := by kernel_rfl
      simp only [e0, e1, List.drop_zero, List.drop_succ_cons, List.take_succ_cons, List.take_zero] at q0 q1
      obtain ⟨A1, c1, b, rfl, hbc, hbC, hby⟩ := open_text q0
      obtain ⟨bb, hbb, _⟩ := DataW.trod_bool Try.underlying4 q1
      obtain rfl : x = .bool bb := by simpa using hbb
      refine ⟨⟨b, bb⟩, [.slice A1 b.length c1, .bool bb], rfl, k39_mk w ⟨b, bb⟩ hbc hbC, fun j u hj => ?_, hby⟩
      rw [← Go.Deep.add_add]
      match j, hj with
      | 0, hj => rw [h0]; simpa using hj
      | 1, hj => rw [h1]; simpa using hj
      | j + 2, hj => simp at hj
    subst hll
    refine ⟨some a, cap, l, rfl, hl, ⟨rfl, by omega, fun _ => ⟨a, rfl, fun j s hs => ?_⟩⟩, fun s hs => ?_⟩
    · obtain ⟨cs, h1, h2, h3, _⟩ := hp j s hs
      exact ⟨cs, h1, h2, h3⟩
    · obtain ⟨j, hj, rfl⟩ := List.mem_iff_getElem.1 hs
      exact (hp j _ (List.getElem?_eq_getElem hj)).choose_spec.2.2.2
theorem open_pends {n : Nat} {v : Value} {y : DataW H × List MemPlace} (h : DataW.trod enc Try.prog w base (fun _ => true) true n 23 [v] = some y) :
    ∃ (A : Option Addr) (c : Nat) (l : List S49), v = .slice A l.length c ∧ l.length ≤ c ∧ Kd.C k49 w A l.length l ∧ ∀ s ∈ l, byteL s.f1 := by
  have hC : Try.prog.cellsOf 49 = 2 := by kernel_rfl
  rcases Go.Deep.open_slice Try.underlying23 h with ⟨hcs, _⟩ | ⟨a, len, cap, m, n', D, Pl, hcs, hb, hl, hm, hmm, hx, hi⟩
  · obtain rfl : v = .slice none 0 0 := by simpa using hcs
    exact ⟨none, 0, [], rfl, Nat.le_refl _, ⟨rfl, by simp, fun h => absurd h (by simp)⟩, by simp⟩
  · obtain rfl : v = .slice (some a) len cap := by simpa using hcs
    have hm2 : cap ≤ 9223372036854775807 := by have : maxLen ≤ 9223372036854775807 := by decide +kernel
                                               omega
    obtain ⟨l, hll, hp⟩ := list_of len (fun i (s : S49) => ∃ cs, cs.length = 2 ∧ k49.K w s cs ∧ (∀ j u, cs[j]? = some u → w.cell? (a.add (i * 2 + j)) = some u) ∧ byteL s.f1) fun i hil => by
      obtain ⟨cs', hc, ht⟩ := hi i (by rw [hmm]; simp; omega)
      rw [hC] at hc
      obtain ⟨u, x, rfl, h0, h1⟩ := cells2 hc
      obtain ⟨y0, y1, n2, _, _, q0, q1⟩ := trod_struct2 Try.underlying49 ht
      have e0 : Try.prog.cellsOf 31 = 1 := by kernel_rfl
      have e1 : Try.prog.cellsOf 3 = 1 := by kernel_rfl
      simp only [e0, e1, List.drop_zero, List.drop_succ_cons, List.take_succ_cons, List.take_zero] at q0 q1
      obtain ⟨A1, c1, b, rfl, hbc, hbC, hby⟩ := open_text q1
      obtain ⟨bb, hbb, _⟩ := DataW.trod_int Try.underlying3 q0
      obtain rfl : u = .int .i64 bb := by simpa using hbb
      refine ⟨⟨bb, b⟩, [.int .i64 bb, .slice A1 b.length c1], rfl, k49_mk w ⟨bb, b⟩ hbc hbC, fun j u hj => ?_, hby⟩
      rw [← Go.Deep.add_add]
      match j, hj with
      | 0, hj => rw [h0]; simpa using hj
      | 1, hj => rw [h1]; simpa using hj
      | j + 2, hj => simp at hj
    subst hll
    refine ⟨some a, cap, l, rfl, hl, ⟨rfl, by omega, fun _ => ⟨a, rfl, fun j s hs => ?_⟩⟩, fun s hs => ?_⟩
    · obtain ⟨cs, h1, h2, h3, _⟩ := hp j s hs
      exact ⟨cs, h1, h2, h3⟩
    · obtain ⟨j, hj, rfl⟩ := List.mem_iff_getElem.1 hs
      exact (hp j _ (List.getElem?_eq_getElem hj)).choose_spec.2.2.2
set_option maxRecDepth 100000 in
theorem open_disk {r : Reach} {b0 : Nat} {v : Value} {d : DataW H} {p : List MemPlace} (hv : Value.okWide Try.prog w r b0 25 v) (h : DataW.Trod enc Try.prog w base (fun _ => true) true 25 v d p) :
    ∃ (A0 : Option Addr) (c0 : Nat) (l0 : List S39) (A1 : Option Addr) (c1 : Nat) (l1 : List S49), v = .agg #[.slice A0 l0.length c0, .slice A1 l1.length c1] ∧ l0.length ≤ c0 ∧ Kd.C k39 w A0 l0.length l0 ∧ l1.length ≤ c1 ∧ Kd.C k49 w A1 l1.length l1 ∧ bytesD l0 l1 := by
  obtain ⟨v0, v1, y0, y1, n, rfl, _, _, h0, h1⟩ := open_agg2 Try.underlying25 (by kernel_rfl) (by kernel_rfl) hv h
  obtain ⟨A0, c0, l0, rfl, a1, a2, a3⟩ := open_secs h0
  obtain ⟨A1, c1, l1, rfl, b1, b2, b3⟩ := open_pends h1
  exact ⟨A0, c0, l0, A1, c1, l1, rfl, a1, a2, b1, b2, a3, b3⟩
end
section
variable {H : Type} {enc : TypeId × Value → H} {w : World} {base : Nat}
end
end Go.Proofs.Ytdkjhcdniepbhaa.P
end
