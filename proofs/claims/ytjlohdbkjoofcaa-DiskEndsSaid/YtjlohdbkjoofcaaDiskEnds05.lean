/- Part 5 of the proof: catamaranlaw05.DiskEnds returns true for every two disks, fates and number, and its arguments read afterwards as they read before; no condition. -/
import Derived.Test.YtjlohdbkjoofcaaDiskEnds04
section
set_option linter.unusedVariables false
set_option linter.unusedSimpArgs false
namespace Go.Proofs.Ytjlohdbkjoofcaa.P
open Go.RowKit Go.Proofs.PrintWords Go.Proofs.PrintLast Go.Proofs.PrintMore
attribute [local go_sem] max2_int min2_int max_two min_two max_three min_three max_four min_four
mutual
def catamaranref05_Great.l0 : Nat → Int → Int → List (S52) → List (S65) → Option (Bool)
  | 0, _, _, _, _ => none
  | k + 1, x1, x5, x102000, x102001 => if x5 < (x102000.length : Int) then (catamaranref05_Great.j1 k x1 x5 (decide (x5 < x1)) x102000 x102001) else (catamaranref05_Great.j1 k x1 x5 false x102000 x102001)
def catamaranref05_Great.j1 : Nat → Int → Int → Bool → List (S52) → List (S65) → Option (Bool)
  | 0, _, _, _, _, _ => none
  | k + 1, x1, x5, x16, x102000, x102001 => if x16 = true then (if 0 ≤ x5 then (if x5 < (x102000.length : Int) then (if (((rd_T52 x102000 x5).f0).length : Int) > 100 then (some true) else (catamaranref05_Great.l0 k x1 (wrap64 (x5 + 1)) x102000 x102001)) else (none)) else (none)) else (catamaranref05_Great.l1 k x1 0 x102000 x102001)
def catamaranref05_Great.l1 : Nat → Int → Int → List (S52) → List (S65) → Option (Bool)
  | 0, _, _, _, _ => none
  | k + 1, x1, x6, x102000, x102001 => if x6 < (x102001.length : Int) then (catamaranref05_Great.j3 k x1 x6 (decide (x6 < 100)) x102000 x102001) else (catamaranref05_Great.j3 k x1 x6 false x102000 x102001)
def catamaranref05_Great.j3 : Nat → Int → Int → Bool → List (S52) → List (S65) → Option (Bool)
  | 0, _, _, _, _, _ => none
  | k + 1, x1, x6, x35, x102000, x102001 => if x35 = true then (if 0 ≤ x6 then (if x6 < (x102001.length : Int) then (if (((rd_T65 x102001 x6).f1).length : Int) > 100 then (some true) else (catamaranref05_Great.l1 k x1 (wrap64 (x6 + 1)) x102000 x102001)) else (none)) else (none)) else (if (x102000.length : Int) > x1 then (some true) else (some (decide ((x102001.length : Int) > 100))))
end
def catamaranref05_Great.f (k : Nat) (l0_0 : List (S52)) (l0_1 : List (S65)) (a1 : Int) : Option (Bool) := catamaranref05_Great.l0 k a1 0 l0_0 l0_1
theorem catamaranref05_Great.mono_l : ∀ k, (∀ y0 y1 y2 y3, LeO (catamaranref05_Great.l0 k y0 y1 y2 y3) (catamaranref05_Great.l0 (k + 1) y0 y1 y2 y3)) ∧ (∀ y0 y1 y2 y3 y4, LeO (catamaranref05_Great.j1 k y0 y1 y2 y3 y4) (catamaranref05_Great.j1 (k + 1) y0 y1 y2 y3 y4)) ∧ (∀ y0 y1 y2 y3, LeO (catamaranref05_Great.l1 k y0 y1 y2 y3) (catamaranref05_Great.l1 (k + 1) y0 y1 y2 y3)) ∧ (∀ y0 y1 y2 y3 y4, LeO (catamaranref05_Great.j3 k y0 y1 y2 y3 y4) (catamaranref05_Great.j3 (k + 1) y0 y1 y2 y3 y4))
  | 0 => ⟨fun _ _ _ _ r h => by simp [catamaranref05_Great.l0] at h, fun _ _ _ _ _ r h => by simp [catamaranref05_Great.j1] at h, fun _ _ _ _ r h => by simp [catamaranref05_Great.l1] at h, fun _ _ _ _ _ r h => by simp [catamaranref05_Great.j3] at h⟩
  | k + 1 => by
    obtain ⟨ih0, ih1, ih2, ih3⟩ := catamaranref05_Great.mono_l k
    refine ⟨?_, ?_, ?_, ?_⟩
    · intro y0 y1 y2 y3
      unfold catamaranref05_Great.l0
      repeat' first
      | (with_reducible exact ih0 _ _ _ _)
      | (with_reducible exact ih1 _ _ _ _ _)
      | (with_reducible exact ih2 _ _ _ _)
      | (with_reducible exact ih3 _ _ _ _ _)
      | (with_reducible exact LeO.refl _)
      | (with_reducible exact LeO.none _)
      | (with_reducible refine LeO.ite ?_ ?_)
      | (with_reducible refine LeO.bind ?_ (fun _ => ?_))
      | exact ih0 _ _ _ _
      | exact ih1 _ _ _ _ _
      | exact ih2 _ _ _ _
      | exact ih3 _ _ _ _ _
      | exact LeO.none _
      | refine LeO.ite ?_ ?_
      | refine LeO.bind ?_ (fun _ => ?_)
    · intro y0 y1 y2 y3 y4
      unfold catamaranref05_Great.j1
      repeat' first
      | (with_reducible exact ih0 _ _ _ _)
      | (with_reducible exact ih1 _ _ _ _ _)
      | (with_reducible exact ih2 _ _ _ _)
      | (with_reducible exact ih3 _ _ _ _ _)
      | (with_reducible exact LeO.refl _)
      | (with_reducible exact LeO.none _)
      | (with_reducible refine LeO.ite ?_ ?_)
      | (with_reducible refine LeO.bind ?_ (fun _ => ?_))
      | exact ih0 _ _ _ _
      | exact ih1 _ _ _ _ _
      | exact ih2 _ _ _ _
      | exact ih3 _ _ _ _ _
      | exact LeO.none _
      | refine LeO.ite ?_ ?_
      | refine LeO.bind ?_ (fun _ => ?_)
    · intro y0 y1 y2 y3
      unfold catamaranref05_Great.l1
      repeat' first
      | (with_reducible exact ih0 _ _ _ _)
      | (with_reducible exact ih1 _ _ _ _ _)
      | (with_reducible exact ih2 _ _ _ _)
      | (with_reducible exact ih3 _ _ _ _ _)
      | (with_reducible exact LeO.refl _)
      | (with_reducible exact LeO.none _)
      | (with_reducible refine LeO.ite ?_ ?_)
      | (with_reducible refine LeO.bind ?_ (fun _ => ?_))
      | exact ih0 _ _ _ _
      | exact ih1 _ _ _ _ _
      | exact ih2 _ _ _ _
      | exact ih3 _ _ _ _ _
      | exact LeO.none _
      | refine LeO.ite ?_ ?_
      | refine LeO.bind ?_ (fun _ => ?_)
    · intro y0 y1 y2 y3 y4
      unfold catamaranref05_Great.j3
      repeat' first
      | (with_reducible exact ih0 _ _ _ _)
      | (with_reducible exact ih1 _ _ _ _ _)
      | (with_reducible exact ih2 _ _ _ _)
      | (with_reducible exact ih3 _ _ _ _ _)
      | (with_reducible exact LeO.refl _)
      | (with_reducible exact LeO.none _)
      | (with_reducible refine LeO.ite ?_ ?_)
      | (with_reducible refine LeO.bind ?_ (fun _ => ?_))
      | exact ih0 _ _ _ _
      | exact ih1 _ _ _ _ _
      | exact ih2 _ _ _ _
      | exact ih3 _ _ _ _ _
      | exact LeO.none _
      | refine LeO.ite ?_ ?_
      | refine LeO.bind ?_ (fun _ => ?_)
theorem catamaranref05_Great.mono : ∀ a0 a1 a2 k, LeO (catamaranref05_Great.f k a0 a1 a2) (catamaranref05_Great.f (k + 1) a0 a1 a2) := by
  intro a0 a1 a2 k
  obtain ⟨ih0, ih1, ih2, ih3⟩ := catamaranref05_Great.mono_l k
  unfold catamaranref05_Great.f
  repeat' first
      | (with_reducible exact ih0 _ _ _ _)
      | (with_reducible exact ih1 _ _ _ _ _)
      | (with_reducible exact ih2 _ _ _ _)
      | (with_reducible exact ih3 _ _ _ _ _)
      | (with_reducible exact LeO.refl _)
      | (with_reducible exact LeO.none _)
      | (with_reducible refine LeO.ite ?_ ?_)
      | (with_reducible refine LeO.bind ?_ (fun _ => ?_))
      | exact ih0 _ _ _ _
      | exact ih1 _ _ _ _ _
      | exact ih2 _ _ _ _
      | exact ih3 _ _ _ _ _
      | exact LeO.none _
      | refine LeO.ite ?_ ?_
      | refine LeO.bind ?_ (fun _ => ?_)
set_option maxHeartbeats 8000000 in
set_option maxRecDepth 100000 in
theorem catamaranref05_Great.calls (k : Nat) (A0_0 : Option Addr) (c0_0 : Nat) (l0_0 : List (S52)) (A0_1 : Option Addr) (c0_1 : Nat) (l0_1 : List (S65)) (a1 : Int) (r : Bool) (w : World) (hr0_0 : Kd.C k52 w A0_0 l0_0.length l0_0) (hc0_0 : l0_0.length ≤ c0_0) (hr0_1 : Kd.C k65 w A0_1 l0_1.length l0_1) (hc0_1 : l0_1.length ≤ c0_1) (h : catamaranref05_Great.f k l0_0 l0_1 a1 = some r) :
    Calls Try.prog 30 #[.agg #[.slice A0_0 l0_0.length c0_0, .slice A0_1 l0_1.length c0_1], .int .i64 a1] w fun e w' => e = .returned (.bool r) ∧ Below w.heap.size w w' := by
  have hu25 := Try.underlying25
  have HR0_0 := Aside0.mk hr0_0
  have HC0_0 := Aside0.mk hc0_0
  clear hr0_0 hc0_0
  have HR0_1 := Aside0.mk hr0_1
  have HC0_1 := Aside0.mk hc0_1
  clear hr0_1 hc0_1
  have HB := Aside0.mk (Below.refl w.heap.size w)
  have H : (catamaranref05_Great.l0 k a1 0 l0_0 l0_1) = some r := h
  clear h
  have H' := Aside0.mk H
  clear H
  go_enter Try.func30, Try.ntmps30
  go_wp2_with (first | ((with_reducible refine gate_dst (N := 2) rfl ?_); refine box_event ?hg (N := 2) ?hd (cs := #[.slice A0_0 l0_0.length c0_0, .slice A0_1 l0_1.length c0_1]) (t := 25) ?hr ?_; (case hd => rfl); (case hg => rfl); (case hr => first | (go_simp; done) | (go_simp; rfl)); intro gb101 hg w3 hbox hb; have n0_ := Aside0.mk (below_step (by repeat (first | (with_reducible first | exact HB.out | apply below_alloc | apply pw_below_drewN | apply below_drew1) | exact HB.out)) hb); have n1_ := Aside0.mk (hbox); have n2_ := Aside0.mk ((by rw [hg]; exact (below_size (by repeat (first | (with_reducible first | exact HB.out | apply below_alloc | apply pw_below_drewN | apply below_drew1) | exact HB.out))) : w.heap.size ≤ gb101)); have n3_ := Aside0.mk ((by rw [hg]; exact (below_size (by repeat (first | (with_reducible first | exact HB.out | apply below_alloc | apply pw_below_drewN | apply below_drew1) | exact HB.out))) : w.heap.size ≤ gb101)); clear HB; have HB := n0_; have BK101 := n1_; have GW101 := n2_; have GE101 := n3_; clear n0_ n1_ n2_ n3_; clear hb hbox hg))
  go_loopg [5] k (fun kq v5 w' => ∃ (x5_1 : Int), v5 = .int .i64 x5_1 ∧ Aside0 (catamaranref05_Great.l0 kq a1 x5_1 l0_0 l0_1 = some r) ∧ Aside0 (kq ≤ k) ∧ Aside0 (w'.heap[gb101]? = some (.cells #[(.slice A0_0 l0_0.length c0_0), (.slice A0_1 l0_1.length c0_1)] 25 (0, 0))) ∧ Aside0 (Below w.heap.size w w'))
  case atStart => exact ⟨(0), (by first | rfl | (simp; done) | (simp [*]; done)), H', ⟨Nat.le_refl _⟩, ⟨by (with_reducible repeat (first | refine blk_drewN ?_ _ | refine blk_drew ?_ | refine blk_alloc ?_ _)); exact BK101.out⟩, ⟨by repeat (first | (with_reducible first | exact HB.out | apply below_alloc | apply pw_below_drewN | apply below_drew1 | refine below_set ?_ GE101.out) | exact HB.out)⟩⟩
  case round =>
    clear H'
    try clear p2
    try clear c3
    obtain ⟨x5_1, rfl, HA, HK1, BK101, HB⟩ := hrel
    cases gk with
    | zero => exact absurd HA.out (by simp [catamaranref05_Great.l0])
    | succ k1 =>
      have H := HA.out
      clear HA
      simp only [catamaranref05_Great.l0] at H
      have HC4 := Aside0.mk H
      clear H
      go_upto_region 2 with (fail)
      go_cut [16] (fun v16 wc => ∃ (kq : Nat) (x16_3 : Bool), v16 = .bool x16_3 ∧ Aside0 (catamaranref05_Great.j1 kq a1 x5_1 x16_3 l0_0 l0_1 = some r) ∧ Aside0 (kq ≤ k1) ∧ Aside0 (wc.heap[gb101]? = some (.cells #[(.slice A0_0 l0_0.length c0_0), (.slice A0_1 l0_1.length c0_1)] 25 (0, 0))) ∧ Aside0 (Below w.heap.size w wc))
      case first =>
        have H := HC4.out
        clear HC4
        by_cases c5 : x5_1 < (l0_0.length : Int)
        · rw [if_pos c5] at H
          have c5b0 : decide (x5_1 < (l0_0.length : Int)) = true := decide_eq_true c5
          clear c5
          (first | rw [c5b0] | (simp only [i64_w, i32_w]; rw [c5b0]) | skip)
          have H' := Aside0.mk H
          clear H
          have hcz6_0 : wr.cell? ⟨gb101, 0, none⟩ = some (.slice A0_0 l0_0.length c0_0) := (blk_cell BK101.out 0).trans rfl
          have hcz6_1 : wr.cell? ⟨gb101, 1, none⟩ = some (.slice A0_1 l0_1.length c0_1) := (blk_cell BK101.out 1).trans rfl
          have hfz6_0 := blk_frozen BK101.out 0
          have hfz6_1 := blk_frozen BK101.out 1
          go_wp2
          go_meet
          case rel => exact ⟨_, (decide (x5_1 < a1)), (by first | rfl | (simp; done) | (simp [*]; done)), H', ⟨by have := HK1.out; first | omega | exact Nat.le_refl _⟩, ⟨by (with_reducible repeat (first | refine blk_drewN ?_ _ | refine blk_drew ?_ | refine blk_alloc ?_ _)); exact BK101.out⟩, ⟨by repeat (first | (with_reducible first | exact HB.out | apply below_alloc | apply pw_below_drewN | apply below_drew1 | refine below_set ?_ GE101.out) | exact HB.out)⟩⟩
        · rw [if_neg c5] at H
          have c5b0 : decide (x5_1 < (l0_0.length : Int)) = false := decide_eq_false c5
          clear c5
          (first | rw [c5b0] | (simp only [i64_w, i32_w]; rw [c5b0]) | skip)
          have H' := Aside0.mk H
          clear H
          have hcz7_0 : wr.cell? ⟨gb101, 0, none⟩ = some (.slice A0_0 l0_0.length c0_0) := (blk_cell BK101.out 0).trans rfl
          have hcz7_1 : wr.cell? ⟨gb101, 1, none⟩ = some (.slice A0_1 l0_1.length c0_1) := (blk_cell BK101.out 1).trans rfl
          have hfz7_0 := blk_frozen BK101.out 0
          have hfz7_1 := blk_frozen BK101.out 1
          go_wp2
          go_meet
          case rel => exact ⟨_, (false), (by first | rfl | (simp; done) | (simp [*]; done)), H', ⟨by have := HK1.out; first | omega | exact Nat.le_refl _⟩, ⟨by (with_reducible repeat (first | refine blk_drewN ?_ _ | refine blk_drew ?_ | refine blk_alloc ?_ _)); exact BK101.out⟩, ⟨by repeat (first | (with_reducible first | exact HB.out | apply below_alloc | apply pw_below_drewN | apply below_drew1 | refine below_set ?_ GE101.out) | exact HB.out)⟩⟩
      case rest =>
        clear HC4
        try clear p2
        try clear c3
        try clear c5
        try clear c5b0
        try clear hcz6_0
        try clear hcz6_1
        try clear hcz7_0
        try clear hcz7_1
        try clear hfz6_0
        try clear hfz6_1
        try clear hfz7_0
        try clear hfz7_1
        try clear p2
        obtain ⟨kq, x16_3, rfl, HA, HJ3, BK101, HB⟩ := hcut
        cases kq with
        | zero => exact absurd HA.out (by simp [catamaranref05_Great.j1])
        | succ kj3 =>
          have H := HA.out
          clear HA
          simp only [catamaranref05_Great.j1] at H
          by_cases c8 : x16_3 = true
          · subst c8
            have H1 : (if 0 ≤ x5_1 then (if x5_1 < (l0_0.length : Int) then (if (((rd_T52 l0_0 x5_1).f0).length : Int) > 100 then (some true) else (catamaranref05_Great.l0 kj3 a1 (wrap64 (x5_1 + 1)) l0_0 l0_1)) else (none)) else (none)) = some r := by rw [if_pos rfl] at H; exact H
            clear H
            have H := H1
            clear H1
            by_cases c9 : 0 ≤ x5_1
            · rw [if_pos c9] at H
              have c9b0 : decide (0 ≤ x5_1) = true := decide_eq_true c9
              clear c9
              by_cases c10 : x5_1 < (l0_0.length : Int)
              · rw [if_pos c10] at H
                have c10b0 : decide (x5_1 < (l0_0.length : Int)) = true := decide_eq_true c10
                clear c10
                by_cases c11 : (((rd_T52 l0_0 x5_1).f0).length : Int) > 100
                · rw [if_pos c11] at H
                  have c11b0 : decide (100 < (((rd_T52 l0_0 x5_1).f0).length : Int)) = true := decide_eq_true c11
                  have c11b1 : decide (100 < ((rd_T52 l0_0 x5_1).f0).length) = true := decide_eq_true (by omega)
                  clear c11
                  obtain rfl := Option.some.inj H
                  have hcz12_0 : wc.cell? ⟨gb101, 0, none⟩ = some (.slice A0_0 l0_0.length c0_0) := (blk_cell BK101.out 0).trans rfl
                  have hcz12_1 : wc.cell? ⟨gb101, 1, none⟩ = some (.slice A0_1 l0_1.length c0_1) := (blk_cell BK101.out 1).trans rfl
                  have hfz12_0 := blk_frozen BK101.out 0
                  have hfz12_1 := blk_frozen BK101.out 1
                  have p102 : 0 ≤ (x5_1 : Int) := of_decide_eq_true (by first | (with_reducible assumption) | assumption)
                  have q102 : x5_1 < (l0_0.length : Int) := of_decide_eq_true (by first | (with_reducible assumption) | assumption)
                  obtain ⟨ad102, A102_0, c102_0, e102, hx102_0, hx102_1, hl102_0, hi102_0⟩ := at_T52 HR0_0.out x5_1 p102 q102
                  cases e102
                  replace hx102_0 := (HB.out.cell (World.block_lt_of_cell? w _ hx102_0)).trans hx102_0
                  replace hx102_1 := (HB.out.cell (World.block_lt_of_cell? w _ hx102_1)).trans hx102_1
                  have HR102_0 := Aside0.mk hi102_0
                  have HC102_0 := Aside0.mk hl102_0
                  clear hi102_0 hl102_0
                  replace p102 := eq_true p102
                  replace q102 := eq_true q102
                  go_wp2
                  go_ret
                  exact ⟨by first | rfl | (simp [errW_none, errW_some] <;> rfl) | (simp [*, errW_none, errW_some] <;> rfl), by repeat (first | (with_reducible first | exact HB.out | apply below_alloc | apply pw_below_drewN | apply below_drew1 | refine below_set ?_ GE101.out) | exact HB.out)⟩
                · rw [if_neg c11] at H
                  have c11b0 : decide (100 < (((rd_T52 l0_0 x5_1).f0).length : Int)) = false := decide_eq_false c11
                  have c11b1 : decide (100 < ((rd_T52 l0_0 x5_1).f0).length) = false := decide_eq_false (by omega)
                  clear c11
                  have H' := Aside0.mk H
                  clear H
                  have hcz13_0 : wc.cell? ⟨gb101, 0, none⟩ = some (.slice A0_0 l0_0.length c0_0) := (blk_cell BK101.out 0).trans rfl
                  have hcz13_1 : wc.cell? ⟨gb101, 1, none⟩ = some (.slice A0_1 l0_1.length c0_1) := (blk_cell BK101.out 1).trans rfl
                  have hfz13_0 := blk_frozen BK101.out 0
                  have hfz13_1 := blk_frozen BK101.out 1
                  have p102 : 0 ≤ (x5_1 : Int) := of_decide_eq_true (by first | (with_reducible assumption) | assumption)
                  have q102 : x5_1 < (l0_0.length : Int) := of_decide_eq_true (by first | (with_reducible assumption) | assumption)
                  obtain ⟨ad102, A102_0, c102_0, e102, hx102_0, hx102_1, hl102_0, hi102_0⟩ := at_T52 HR0_0.out x5_1 p102 q102
                  cases e102
                  replace hx102_0 := (HB.out.cell (World.block_lt_of_cell? w _ hx102_0)).trans hx102_0
                  replace hx102_1 := (HB.out.cell (World.block_lt_of_cell? w _ hx102_1)).trans hx102_1
                  have HR102_0 := Aside0.mk hi102_0
                  have HC102_0 := Aside0.mk hl102_0
                  clear hi102_0 hl102_0
                  replace p102 := eq_true p102
                  replace q102 := eq_true q102
                  go_wp2
                  go_roundg kj3
                  case measure => have := HK1.out; have := HJ3.out; omega
                  case rel => exact ⟨(wrap64 (x5_1 + 1)), (by first | rfl | (simp; done) | (simp [*]; done)), H', ⟨by have := HK1.out; have := HJ3.out; omega⟩, ⟨by (with_reducible repeat (first | refine blk_drewN ?_ _ | refine blk_drew ?_ | refine blk_alloc ?_ _)); exact BK101.out⟩, ⟨by repeat (first | (with_reducible first | exact HB.out | apply below_alloc | apply pw_below_drewN | apply below_drew1 | refine below_set ?_ GE101.out) | exact HB.out)⟩⟩
              · rw [if_neg c10] at H
                exact absurd H (by simp)
            · rw [if_neg c9] at H
              exact absurd H (by simp)
          · replace c8 := Bool.eq_false_iff.mpr c8
            subst c8
            have H1 : (catamaranref05_Great.l1 kj3 a1 0 l0_0 l0_1) = some r := by rw [if_neg (show ¬ (false = true) by decide)] at H; exact H
            clear H
            have H := H1
            clear H1
            have H' := Aside0.mk H
            clear H
            go_wp2
            go_loopg [6] kj3 (fun kq v6 w' => ∃ (x6_3 : Int), v6 = .int .i64 x6_3 ∧ Aside0 (catamaranref05_Great.l1 kq a1 x6_3 l0_0 l0_1 = some r) ∧ Aside0 (kq ≤ kj3) ∧ Aside0 (w'.heap[gb101]? = some (.cells #[(.slice A0_0 l0_0.length c0_0), (.slice A0_1 l0_1.length c0_1)] 25 (0, 0))) ∧ Aside0 (Below w.heap.size w w'))
            case atStart => exact ⟨(0), (by first | rfl | (simp; done) | (simp [*]; done)), H', ⟨Nat.le_refl _⟩, ⟨by (with_reducible repeat (first | refine blk_drewN ?_ _ | refine blk_drew ?_ | refine blk_alloc ?_ _)); exact BK101.out⟩, ⟨by repeat (first | (with_reducible first | exact HB.out | apply below_alloc | apply pw_below_drewN | apply below_drew1 | refine below_set ?_ GE101.out) | exact HB.out)⟩⟩
            case round =>
              clear H'
              try clear c1
              try clear p1
              try clear q1
              try clear hx1
              try clear p2
              try clear c3
              try clear c5
              try clear c5b0
              try clear p6
              try clear c8
              try clear c9
              try clear c9b0
              try clear c10
              try clear c10b0
              try clear p10
              try clear q10
              try clear hx10
              try clear c11
              try clear c11b0
              try clear c11b1
              try clear hcz12_0
              try clear hcz12_1
              try clear hcz13_0
              try clear hcz13_1
              try clear hcz6_0
              try clear hcz6_1
              try clear hcz7_0
              try clear hcz7_1
              try clear hfz12_0
              try clear hfz12_1
              try clear hfz13_0
              try clear hfz13_1
              try clear hfz6_0
              try clear hfz6_1
              try clear hfz7_0
              try clear hfz7_1
              try clear hx102_0
              try clear hx102_1
              try clear p102
              try clear p2
              try clear q102
              obtain ⟨x6_3, rfl, HA, HK3, BK101, HB⟩ := hrel
              cases gk with
              | zero => exact absurd HA.out (by simp [catamaranref05_Great.l1])
              | succ k3 =>
                have H := HA.out
                clear HA
                simp only [catamaranref05_Great.l1] at H
                have HC14 := Aside0.mk H
                clear H
                go_upto_region 7 with (fail)
                go_cut [35] (fun v35 wc => ∃ (kq : Nat) (x35_13 : Bool), v35 = .bool x35_13 ∧ Aside0 (catamaranref05_Great.j3 kq a1 x6_3 x35_13 l0_0 l0_1 = some r) ∧ Aside0 (kq ≤ k3) ∧ Aside0 (wc.heap[gb101]? = some (.cells #[(.slice A0_0 l0_0.length c0_0), (.slice A0_1 l0_1.length c0_1)] 25 (0, 0))) ∧ Aside0 (Below w.heap.size w wc))
                case first =>
                  have H := HC14.out
                  clear HC14
                  by_cases c15 : x6_3 < (l0_1.length : Int)
                  · rw [if_pos c15] at H
                    have c15b0 : decide (x6_3 < (l0_1.length : Int)) = true := decide_eq_true c15
                    clear c15
                    (first | rw [c15b0] | (simp only [i64_w, i32_w]; rw [c15b0]) | skip)
                    have H' := Aside0.mk H
                    clear H
                    have hcz16_0 : wr.cell? ⟨gb101, 0, none⟩ = some (.slice A0_0 l0_0.length c0_0) := (blk_cell BK101.out 0).trans rfl
                    have hcz16_1 : wr.cell? ⟨gb101, 1, none⟩ = some (.slice A0_1 l0_1.length c0_1) := (blk_cell BK101.out 1).trans rfl
                    have hfz16_0 := blk_frozen BK101.out 0
                    have hfz16_1 := blk_frozen BK101.out 1
                    go_wp2
                    go_meet
                    case rel => exact ⟨_, (decide (x6_3 < 100)), (by first | rfl | (simp; done) | (simp [*]; done)), H', ⟨by have := HK1.out; have := HJ3.out; have := HK3.out; first | omega | exact Nat.le_refl _⟩, ⟨by (with_reducible repeat (first | refine blk_drewN ?_ _ | refine blk_drew ?_ | refine blk_alloc ?_ _)); exact BK101.out⟩, ⟨by repeat (first | (with_reducible first | exact HB.out | apply below_alloc | apply pw_below_drewN | apply below_drew1 | refine below_set ?_ GE101.out) | exact HB.out)⟩⟩
                  · rw [if_neg c15] at H
                    have c15b0 : decide (x6_3 < (l0_1.length : Int)) = false := decide_eq_false c15
                    clear c15
                    (first | rw [c15b0] | (simp only [i64_w, i32_w]; rw [c15b0]) | skip)
                    have H' := Aside0.mk H
                    clear H
                    have hcz17_0 : wr.cell? ⟨gb101, 0, none⟩ = some (.slice A0_0 l0_0.length c0_0) := (blk_cell BK101.out 0).trans rfl
                    have hcz17_1 : wr.cell? ⟨gb101, 1, none⟩ = some (.slice A0_1 l0_1.length c0_1) := (blk_cell BK101.out 1).trans rfl
                    have hfz17_0 := blk_frozen BK101.out 0
                    have hfz17_1 := blk_frozen BK101.out 1
                    go_wp2
                    go_meet
                    case rel => exact ⟨_, (false), (by first | rfl | (simp; done) | (simp [*]; done)), H', ⟨by have := HK1.out; have := HJ3.out; have := HK3.out; first | omega | exact Nat.le_refl _⟩, ⟨by (with_reducible repeat (first | refine blk_drewN ?_ _ | refine blk_drew ?_ | refine blk_alloc ?_ _)); exact BK101.out⟩, ⟨by repeat (first | (with_reducible first | exact HB.out | apply below_alloc | apply pw_below_drewN | apply below_drew1 | refine below_set ?_ GE101.out) | exact HB.out)⟩⟩
                case rest =>
                  clear HC14
                  try clear c1
                  try clear p1
                  try clear q1
                  try clear hx1
                  try clear p2
                  try clear c3
                  try clear c5
                  try clear c5b0
                  try clear p6
                  try clear c8
                  try clear c9
                  try clear c9b0
                  try clear c10
                  try clear c10b0
                  try clear p10
                  try clear q10
                  try clear hx10
                  try clear c11
                  try clear c11b0
                  try clear c11b1
                  try clear c15
                  try clear c15b0
                  try clear hcz12_0
                  try clear hcz12_1
                  try clear hcz13_0
                  try clear hcz13_1
                  try clear hcz16_0
                  try clear hcz16_1
                  try clear hcz17_0
                  try clear hcz17_1
                  try clear hcz6_0
                  try clear hcz6_1
                  try clear hcz7_0
                  try clear hcz7_1
                  try clear hfz12_0
                  try clear hfz12_1
                  try clear hfz13_0
                  try clear hfz13_1
                  try clear hfz16_0
                  try clear hfz16_1
                  try clear hfz17_0
                  try clear hfz17_1
                  try clear hfz6_0
                  try clear hfz6_1
                  try clear hfz7_0
                  try clear hfz7_1
                  try clear hx102_0
                  try clear hx102_1
                  try clear p1
                  try clear p10
                  try clear p102
                  try clear p2
                  try clear p6
                  try clear q1
                  try clear q10
                  try clear q102
                  obtain ⟨kq, x35_13, rfl, HA, HJ13, BK101, HB⟩ := hcut
                  cases kq with
                  | zero => exact absurd HA.out (by simp [catamaranref05_Great.j3])
                  | succ kj13 =>
                    have H := HA.out
                    clear HA
                    simp only [catamaranref05_Great.j3] at H
                    by_cases c18 : x35_13 = true
                    · subst c18
                      have H1 : (if 0 ≤ x6_3 then (if x6_3 < (l0_1.length : Int) then (if (((rd_T65 l0_1 x6_3).f1).length : Int) > 100 then (some true) else (catamaranref05_Great.l1 kj13 a1 (wrap64 (x6_3 + 1)) l0_0 l0_1)) else (none)) else (none)) = some r := by rw [if_pos rfl] at H; exact H
                      clear H
                      have H := H1
                      clear H1
                      by_cases c19 : 0 ≤ x6_3
                      · rw [if_pos c19] at H
                        have c19b0 : decide (0 ≤ x6_3) = true := decide_eq_true c19
                        clear c19
                        by_cases c20 : x6_3 < (l0_1.length : Int)
                        · rw [if_pos c20] at H
                          have c20b0 : decide (x6_3 < (l0_1.length : Int)) = true := decide_eq_true c20
                          clear c20
                          by_cases c21 : (((rd_T65 l0_1 x6_3).f1).length : Int) > 100
                          · rw [if_pos c21] at H
                            have c21b0 : decide (100 < (((rd_T65 l0_1 x6_3).f1).length : Int)) = true := decide_eq_true c21
                            have c21b1 : decide (100 < ((rd_T65 l0_1 x6_3).f1).length) = true := decide_eq_true (by omega)
                            clear c21
                            obtain rfl := Option.some.inj H
                            have hcz22_0 : wc.cell? ⟨gb101, 0, none⟩ = some (.slice A0_0 l0_0.length c0_0) := (blk_cell BK101.out 0).trans rfl
                            have hcz22_1 : wc.cell? ⟨gb101, 1, none⟩ = some (.slice A0_1 l0_1.length c0_1) := (blk_cell BK101.out 1).trans rfl
                            have hfz22_0 := blk_frozen BK101.out 0
                            have hfz22_1 := blk_frozen BK101.out 1
                            have p103 : 0 ≤ (x6_3 : Int) := of_decide_eq_true (by first | (with_reducible assumption) | assumption)
                            have q103 : x6_3 < (l0_1.length : Int) := of_decide_eq_true (by first | (with_reducible assumption) | assumption)
                            obtain ⟨ad103, A103_1, c103_1, e103, hx103_0, hx103_1, hl103_1, hi103_1⟩ := at_T65 HR0_1.out x6_3 p103 q103
                            cases e103
                            replace hx103_0 := (HB.out.cell (World.block_lt_of_cell? w _ hx103_0)).trans hx103_0
                            replace hx103_1 := (HB.out.cell (World.block_lt_of_cell? w _ hx103_1)).trans hx103_1
                            have HR103_1 := Aside0.mk hi103_1
                            have HC103_1 := Aside0.mk hl103_1
                            clear hi103_1 hl103_1
                            replace p103 := eq_true p103
                            replace q103 := eq_true q103
                            go_wp2
                            go_ret
                            exact ⟨by first | rfl | (simp [errW_none, errW_some] <;> rfl) | (simp [*, errW_none, errW_some] <;> rfl), by repeat (first | (with_reducible first | exact HB.out | apply below_alloc | apply pw_below_drewN | apply below_drew1 | refine below_set ?_ GE101.out) | exact HB.out)⟩
                          · rw [if_neg c21] at H
                            have c21b0 : decide (100 < (((rd_T65 l0_1 x6_3).f1).length : Int)) = false := decide_eq_false c21
                            have c21b1 : decide (100 < ((rd_T65 l0_1 x6_3).f1).length) = false := decide_eq_false (by omega)
                            clear c21
                            have H' := Aside0.mk H
                            clear H
                            have hcz23_0 : wc.cell? ⟨gb101, 0, none⟩ = some (.slice A0_0 l0_0.length c0_0) := (blk_cell BK101.out 0).trans rfl
                            have hcz23_1 : wc.cell? ⟨gb101, 1, none⟩ = some (.slice A0_1 l0_1.length c0_1) := (blk_cell BK101.out 1).trans rfl
                            have hfz23_0 := blk_frozen BK101.out 0
                            have hfz23_1 := blk_frozen BK101.out 1
                            have p103 : 0 ≤ (x6_3 : Int) := of_decide_eq_true (by first | (with_reducible assumption) | assumption)
                            have q103 : x6_3 < (l0_1.length : Int) := of_decide_eq_true (by first | (with_reducible assumption) | assumption)
                            obtain ⟨ad103, A103_1, c103_1, e103, hx103_0, hx103_1, hl103_1, hi103_1⟩ := at_T65 HR0_1.out x6_3 p103 q103
                            cases e103
                            replace hx103_0 := (HB.out.cell (World.block_lt_of_cell? w _ hx103_0)).trans hx103_0
                            replace hx103_1 := (HB.out.cell (World.block_lt_of_cell? w _ hx103_1)).trans hx103_1
                            have HR103_1 := Aside0.mk hi103_1
                            have HC103_1 := Aside0.mk hl103_1
                            clear hi103_1 hl103_1
                            replace p103 := eq_true p103
                            replace q103 := eq_true q103
                            go_wp2
                            go_roundg kj13
                            case measure => have := HK1.out; have := HJ3.out; have := HK3.out; have := HJ13.out; omega
                            case rel => exact ⟨(wrap64 (x6_3 + 1)), (by first | rfl | (simp; done) | (simp [*]; done)), H', ⟨by have := HK1.out; have := HJ3.out; have := HK3.out; have := HJ13.out; omega⟩, ⟨by (with_reducible repeat (first | refine blk_drewN ?_ _ | refine blk_drew ?_ | refine blk_alloc ?_ _)); exact BK101.out⟩, ⟨by repeat (first | (with_reducible first | exact HB.out | apply below_alloc | apply pw_below_drewN | apply below_drew1 | refine below_set ?_ GE101.out) | exact HB.out)⟩⟩
                        · rw [if_neg c20] at H
                          exact absurd H (by simp)
                      · rw [if_neg c19] at H
                        exact absurd H (by simp)
                    · replace c18 := Bool.eq_false_iff.mpr c18
                      subst c18
                      have H1 : (if (l0_0.length : Int) > a1 then (some true) else (some (decide ((l0_1.length : Int) > 100)))) = some r := by rw [if_neg (show ¬ (false = true) by decide)] at H; exact H
                      clear H
                      have H := H1
                      clear H1
                      by_cases c24 : (l0_0.length : Int) > a1
                      · rw [if_pos c24] at H
                        have c24b0 : decide (a1 < (l0_0.length : Int)) = true := decide_eq_true c24
                        clear c24
                        obtain rfl := Option.some.inj H
                        have hcz25_0 : wc.cell? ⟨gb101, 0, none⟩ = some (.slice A0_0 l0_0.length c0_0) := (blk_cell BK101.out 0).trans rfl
                        have hcz25_1 : wc.cell? ⟨gb101, 1, none⟩ = some (.slice A0_1 l0_1.length c0_1) := (blk_cell BK101.out 1).trans rfl
                        have hfz25_0 := blk_frozen BK101.out 0
                        have hfz25_1 := blk_frozen BK101.out 1
                        go_wp2
                        go_ret
                        exact ⟨by first | rfl | (simp [errW_none, errW_some] <;> rfl) | (simp [*, errW_none, errW_some] <;> rfl), by repeat (first | (with_reducible first | exact HB.out | apply below_alloc | apply pw_below_drewN | apply below_drew1 | refine below_set ?_ GE101.out) | exact HB.out)⟩
                      · rw [if_neg c24] at H
                        have c24b0 : decide (a1 < (l0_0.length : Int)) = false := decide_eq_false c24
                        clear c24
                        obtain rfl := Option.some.inj H
                        have hcz26_0 : wc.cell? ⟨gb101, 0, none⟩ = some (.slice A0_0 l0_0.length c0_0) := (blk_cell BK101.out 0).trans rfl
                        have hcz26_1 : wc.cell? ⟨gb101, 1, none⟩ = some (.slice A0_1 l0_1.length c0_1) := (blk_cell BK101.out 1).trans rfl
                        have hfz26_0 := blk_frozen BK101.out 0
                        have hfz26_1 := blk_frozen BK101.out 1
                        go_wp2
                        go_ret
                        exact ⟨by first | rfl | (simp [errW_none, errW_some] <;> rfl) | (simp [*, errW_none, errW_some] <;> rfl), by repeat (first | (with_reducible first | exact HB.out | apply below_alloc | apply pw_below_drewN | apply below_drew1 | refine below_set ?_ GE101.out) | exact HB.out)⟩
end Go.Proofs.Ytjlohdbkjoofcaa.P
end
section
set_option linter.unusedVariables false
set_option linter.unusedSimpArgs false
namespace Go.Proofs.Ytjlohdbkjoofcaa.P
open Go.RowKit Go.Proofs.PrintWords Go.Proofs.PrintLast Go.Proofs.PrintMore
attribute [local go_sem] max2_int min2_int max_two min_two max_three min_three max_four min_four
def catamaranref05_asked.f (k : Nat) (l0_0 : List (S52)) (l0_1 : List (S65)) (a1 : Int) : Option (Int) := (catamaranref05_May.f k l0_0 l0_1).bind fun t162 => (if t162 = true then (if a1 < 0 then (some 2) else (if a1 ≥ (l0_0.length : Int) then (some 2) else (some 0))) else (some 8))
theorem catamaranref05_asked.mono : ∀ a0 a1 a2 k, LeO (catamaranref05_asked.f k a0 a1 a2) (catamaranref05_asked.f (k + 1) a0 a1 a2) := by
  intro a0 a1 a2 k
  unfold catamaranref05_asked.f
  repeat' first
      | (with_reducible exact catamaranref05_May.mono _ _ _)
      | (with_reducible exact LeO.refl _)
      | (with_reducible exact LeO.none _)
      | (with_reducible refine LeO.ite ?_ ?_)
      | (with_reducible refine LeO.bind ?_ (fun _ => ?_))
      | exact catamaranref05_May.mono _ _ _
      | exact LeO.none _
      | refine LeO.ite ?_ ?_
      | refine LeO.bind ?_ (fun _ => ?_)
end Go.Proofs.Ytjlohdbkjoofcaa.P
end
section
set_option linter.unusedVariables false
set_option linter.unusedSimpArgs false
namespace Go.Proofs.Ytjlohdbkjoofcaa.P
open Go.RowKit Go.Proofs.PrintWords Go.Proofs.PrintLast Go.Proofs.PrintMore
attribute [local go_sem] max2_int min2_int max_two min_two max_three min_three max_four min_four
def catamaranref05_Read.f (k : Nat) (l0_0 : List (S52)) (l0_1 : List (S65)) (a1 : Int) : Option (List Int × Int) := (catamaranref05_asked.f k l0_0 l0_1 a1).bind fun t208 => (if t208 = 0 then ((catamaranref05_Got.f k l0_0 l0_1 a1).bind fun bt209 => (if bt209.2 = true then (some (bt209.1, 0)) else (some (([] : List Int), 50)))) else (some (([] : List Int), t208)))
theorem catamaranref05_Read.mono : ∀ a0 a1 a2 k, LeO (catamaranref05_Read.f k a0 a1 a2) (catamaranref05_Read.f (k + 1) a0 a1 a2) := by
  intro a0 a1 a2 k
  unfold catamaranref05_Read.f
  repeat' first
      | (with_reducible exact catamaranref05_Got.mono _ _ _ _)
      | (with_reducible exact catamaranref05_asked.mono _ _ _ _)
      | (with_reducible exact LeO.refl _)
      | (with_reducible exact LeO.none _)
      | (with_reducible refine LeO.ite ?_ ?_)
      | (with_reducible refine LeO.bind ?_ (fun _ => ?_))
      | exact catamaranref05_Got.mono _ _ _ _
      | exact catamaranref05_asked.mono _ _ _ _
      | exact LeO.none _
      | refine LeO.ite ?_ ?_
      | refine LeO.bind ?_ (fun _ => ?_)
end Go.Proofs.Ytjlohdbkjoofcaa.P
end
section
set_option linter.unusedVariables false
set_option linter.unusedSimpArgs false
namespace Go.Proofs.Ytjlohdbkjoofcaa.P
open Go.RowKit Go.Proofs.PrintWords Go.Proofs.PrintLast Go.Proofs.PrintMore
attribute [local go_sem] max2_int min2_int max_two min_two max_three min_three max_four min_four
mutual
def catamaranref05_Twin.l0 : Nat → Int → List (S52) → List (S65) → List (S52) → Option ((List (S52)) × (List (S65)))
  | 0, _, _, _, _ => none
  | k + 1, x4, x105000, x105001, x107000 => if x4 < (x105000.length : Int) then ((some (([] : List Int) : List Int)).bind fun y107 => (if 0 ≤ x4 then (if y107.length + ((rd_T52 x105000 x4).f0).length < 140737488355328 then (if x107000.length < 4398046511104 then (catamaranref05_Twin.l0 k (wrap64 (x4 + 1)) x105000 x105001 (x107000 ++ [(⟨(y107 ++ ((rd_T52 x105000 x4).f0)), (rd_T52 x105000 x4).f1⟩ : S52)])) else (none)) else (none)) else (none))) else (catamaranref05_Twin.l1 k 0 x105000 x105001 x107000 ([] : List (S65)))
def catamaranref05_Twin.l1 : Nat → Int → List (S52) → List (S65) → List (S52) → List (S65) → Option ((List (S52)) × (List (S65)))
  | 0, _, _, _, _, _ => none
  | k + 1, x5, x105000, x105001, x107000, x107001 => if x5 < (x105001.length : Int) then (if 0 ≤ x5 then ((some (([] : List Int) : List Int)).bind fun y119 => (if y119.length + ((rd_T65 x105001 x5).f1).length < 140737488355328 then (if x107001.length < 4398046511104 then (catamaranref05_Twin.l1 k (wrap64 (x5 + 1)) x105000 x105001 x107000 (x107001 ++ [(⟨(rd_T65 x105001 x5).f0, (y119 ++ ((rd_T65 x105001 x5).f1))⟩ : S65)])) else (none)) else (none))) else (none)) else (some (x107000, x107001))
end
def catamaranref05_Twin.f (k : Nat) (l0_0 : List (S52)) (l0_1 : List (S65)) : Option ((List (S52)) × (List (S65))) := catamaranref05_Twin.l0 k 0 l0_0 l0_1 ([] : List (S52))
theorem catamaranref05_Twin.mono_l : ∀ k, (∀ y0 y1 y2 y3, LeO (catamaranref05_Twin.l0 k y0 y1 y2 y3) (catamaranref05_Twin.l0 (k + 1) y0 y1 y2 y3)) ∧ (∀ y0 y1 y2 y3 y4, LeO (catamaranref05_Twin.l1 k y0 y1 y2 y3 y4) (catamaranref05_Twin.l1 (k + 1) y0 y1 y2 y3 y4))
  | 0 => ⟨fun _ _ _ _ r h => by simp [catamaranref05_Twin.l0] at h, fun _ _ _ _ _ r h => by simp [catamaranref05_Twin.l1] at h⟩
  | k + 1 => by
    obtain ⟨ih0, ih1⟩ := catamaranref05_Twin.mono_l k
    refine ⟨?_, ?_⟩
    · intro y0 y1 y2 y3
      unfold catamaranref05_Twin.l0
      repeat' first
      | (with_reducible exact ih0 _ _ _ _)
      | (with_reducible exact ih1 _ _ _ _ _)
      | (with_reducible exact LeO.refl _)
      | (with_reducible exact LeO.none _)
      | (with_reducible refine LeO.ite ?_ ?_)
      | (with_reducible refine LeO.bind ?_ (fun _ => ?_))
      | exact ih0 _ _ _ _
      | exact ih1 _ _ _ _ _
      | exact LeO.none _
      | refine LeO.ite ?_ ?_
      | refine LeO.bind ?_ (fun _ => ?_)
    · intro y0 y1 y2 y3 y4
      unfold catamaranref05_Twin.l1
      repeat' first
      | (with_reducible exact ih0 _ _ _ _)
      | (with_reducible exact ih1 _ _ _ _ _)
      | (with_reducible exact LeO.refl _)
      | (with_reducible exact LeO.none _)
      | (with_reducible refine LeO.ite ?_ ?_)
      | (with_reducible refine LeO.bind ?_ (fun _ => ?_))
      | exact ih0 _ _ _ _
      | exact ih1 _ _ _ _ _
      | exact LeO.none _
      | refine LeO.ite ?_ ?_
      | refine LeO.bind ?_ (fun _ => ?_)
theorem catamaranref05_Twin.mono : ∀ a0 a1 k, LeO (catamaranref05_Twin.f k a0 a1) (catamaranref05_Twin.f (k + 1) a0 a1) := by
  intro a0 a1 k
  obtain ⟨ih0, ih1⟩ := catamaranref05_Twin.mono_l k
  unfold catamaranref05_Twin.f
  repeat' first
      | (with_reducible exact ih0 _ _ _ _)
      | (with_reducible exact ih1 _ _ _ _ _)
      | (with_reducible exact LeO.refl _)
      | (with_reducible exact LeO.none _)
      | (with_reducible refine LeO.ite ?_ ?_)
      | (with_reducible refine LeO.bind ?_ (fun _ => ?_))
      | exact ih0 _ _ _ _
      | exact ih1 _ _ _ _ _
      | exact LeO.none _
      | refine LeO.ite ?_ ?_
      | refine LeO.bind ?_ (fun _ => ?_)
def catamaranref05_Twin.T5 : Bool × List (List Nat × List Nat) := (true, [([], []), ([0], [0]), ([], []), ([], []), ([3], [3]), ([], []), ([4, 5], [4, 5]), ([6], [6]), ([7], [7]), ([2, 8], [2, 8]), ([], []), ([10], [10]), ([], []), ([11, 12], [11, 12]), ([13], [13]), ([14], [14]), ([9, 15], [9, 15]), ([16], [16]), ([1, 17, 9], [1, 17]), ([0, 1, 2, 3, 4, 5, 6, 7, 8, 9, 10, 11, 12, 13, 14, 15, 16, 17, 18], []), ([19, 18, 18, 0, 1, 2, 3, 4, 5, 6, 7, 8, 9, 10, 11, 12, 13, 14, 15, 16, 17, 18], [18, 19])])
def catamaranref05_Twin.B5 : List Nat := [0, 1, 0, 0, 8, 0, 56, 120, 248, 508, 0, 1024, 0, 7168, 15360, 31744, 65532, 131068, 262143, 524287, 1048575]
theorem catamaranref05_Twin.tab5 : rtab .any (opsOf Try.f31 5) = catamaranref05_Twin.T5 := by kernel_rfl
theorem catamaranref05_Twin.bits5 : waitsOk catamaranref05_Twin.T5.2 catamaranref05_Twin.B5 = true := by kernel_rfl
def catamaranref05_Twin.T9 : Bool × List (List Nat × List Nat) := (true, [([], []), ([0], [0]), ([], []), ([2], [2]), ([], []), ([3, 4], [3, 4]), ([5], [5]), ([6], [6]), ([], []), ([], []), ([9], [9]), ([], []), ([10, 11], [10, 11]), ([12], [12]), ([13], [13]), ([8, 14], [8, 14]), ([7, 15], [7, 15]), ([16], [16]), ([1, 17, 15], [1, 17]), ([0, 1, 2, 3, 4, 5, 6, 7, 8, 9, 10, 11, 12, 13, 14, 15, 16, 17, 18], []), ([19, 18, 18, 0, 1, 2, 3, 4, 5, 6, 7, 8, 9, 10, 11, 12, 13, 14, 15, 16, 17, 18], [18, 19])])
def catamaranref05_Twin.B9 : List Nat := [0, 1, 0, 4, 0, 28, 60, 124, 0, 0, 512, 0, 3584, 7680, 15872, 32512, 65532, 131068, 262143, 524287, 1048575]
theorem catamaranref05_Twin.tab9 : rtab .any (opsOf Try.f31 9) = catamaranref05_Twin.T9 := by kernel_rfl
theorem catamaranref05_Twin.bits9 : waitsOk catamaranref05_Twin.T9.2 catamaranref05_Twin.B9 = true := by kernel_rfl
set_option maxHeartbeats 8000000 in
set_option maxRecDepth 100000 in
theorem catamaranref05_Twin.calls (k : Nat) (A0_0 : Option Addr) (c0_0 : Nat) (l0_0 : List (S52)) (A0_1 : Option Addr) (c0_1 : Nat) (l0_1 : List (S65)) (r1 : List (S52)) (r2 : List (S65)) (w : World) (hr0_0 : Kd.C k52 w A0_0 l0_0.length l0_0) (hc0_0 : l0_0.length ≤ c0_0) (hr0_1 : Kd.C k65 w A0_1 l0_1.length l0_1) (hc0_1 : l0_1.length ≤ c0_1) (h : catamaranref05_Twin.f k l0_0 l0_1 = some (r1, r2)) :
    Calls Try.prog 31 #[.agg #[.slice A0_0 l0_0.length c0_0, .slice A0_1 l0_1.length c0_1]] w fun e w' => ∃ v0_ v1_ : Value, e = .returned (.agg #[v0_, v1_]) ∧ Kd.S k52 52 w' w.heap.size (fun _ => True) v0_ r1 ∧ Kd.S k65 65 w' w.heap.size (fun _ => True) v1_ r2 ∧ Below w.heap.size w w' := by
  have hu25 := Try.underlying25
  have hu52 := Try.underlying52
  have hu65 := Try.underlying65
  have HR0_0 := Aside0.mk hr0_0
  have HC0_0 := Aside0.mk hc0_0
  clear hr0_0 hc0_0
  have HR0_1 := Aside0.mk hr0_1
  have HC0_1 := Aside0.mk hc0_1
  clear hr0_1 hc0_1
  have HB := Aside0.mk (Below.refl w.heap.size w)
  have H : (catamaranref05_Twin.l0 k 0 l0_0 l0_1 ([] : List (S52))) = some (r1, r2) := h
  clear h
  have H' := Aside0.mk H
  clear H
  go_enter Try.func31, Try.ntmps31
  go_wp2_with (first | ((with_reducible refine gate_dst (N := 1) rfl ?_); refine box_event ?hg (N := 1) ?hd (cs := #[.slice A0_0 l0_0.length c0_0, .slice A0_1 l0_1.length c0_1]) (t := 25) ?hr ?_; (case hd => rfl); (case hg => rfl); (case hr => first | (go_simp; done) | (go_simp; rfl)); intro gb104 hg w2 hbox hb; have n0_ := Aside0.mk (below_step (by repeat (first | (with_reducible first | exact HB.out | apply below_alloc | apply pw_below_drewN | apply below_drew1) | exact HB.out)) hb); have n1_ := Aside0.mk (hbox); have n2_ := Aside0.mk ((by rw [hg]; exact (below_size (by repeat (first | (with_reducible first | exact HB.out | apply below_alloc | apply pw_below_drewN | apply below_drew1) | exact HB.out))) : w.heap.size ≤ gb104)); have n3_ := Aside0.mk ((by rw [hg]; exact (below_size (by repeat (first | (with_reducible first | exact HB.out | apply below_alloc | apply pw_below_drewN | apply below_drew1) | exact HB.out))) : w.heap.size ≤ gb104)); clear HB; have HB := n0_; have BK104 := n1_; have GW104 := n2_; have GE104 := n3_; clear n0_ n1_ n2_ n3_; clear hb hbox hg) | ((with_reducible refine gate_dst (N := 2) rfl ?_); refine box_event ?hg (N := 2) ?hd (cs := #[.slice none 0 0, .slice none 0 0]) (t := 25) ?hr ?_; (case hd => rfl); (case hg => rfl); (case hr => first | (go_simp; done) | (go_simp; rfl)); intro gb105 hg w3 hbox hb; have n0_ := Aside0.mk (blk_below (g := gb104) (o := .cells #[.slice A0_0 l0_0.length c0_0, .slice A0_1 l0_1.length c0_1] 25 (0, 0)) (by (with_reducible repeat (first | refine blk_drewN ?_ _ | refine blk_drew ?_ | refine blk_alloc ?_ _)); exact BK104.out) hb); have n1_ := Aside0.mk (below_step (by repeat (first | (with_reducible first | exact HB.out | apply below_alloc | apply pw_below_drewN | apply below_drew1 | refine below_set ?_ GE104.out) | exact HB.out)) hb); have n2_ := Aside0.mk (hbox); have n3_ := Aside0.mk ((by rw [hg]; exact (below_size (by repeat (first | (with_reducible first | exact HB.out | apply below_alloc | apply pw_below_drewN | apply below_drew1 | refine below_set ?_ GE104.out) | exact HB.out))) : w.heap.size ≤ gb105)); have n4_ := Aside0.mk ((by rw [hg]; exact (below_size (by repeat (first | (with_reducible first | exact HB.out | apply below_alloc | apply pw_below_drewN | apply below_drew1 | refine below_set ?_ GE104.out) | exact HB.out))) : w.heap.size ≤ gb105)); have n5_ := Aside0.mk ((by rw [hg]; exact Nat.ne_of_lt (blk_lt (g := gb104) (o := .cells #[.slice A0_0 l0_0.length c0_0, .slice A0_1 l0_1.length c0_1] 25 (0, 0)) (by (with_reducible repeat (first | refine blk_drewN ?_ _ | refine blk_drew ?_ | refine blk_alloc ?_ _)); exact BK104.out)) : gb104 ≠ gb105)); have n6_ := Aside0.mk ((by rw [hg]; exact Nat.ne_of_gt (blk_lt (g := gb104) (o := .cells #[.slice A0_0 l0_0.length c0_0, .slice A0_1 l0_1.length c0_1] 25 (0, 0)) (by (with_reducible repeat (first | refine blk_drewN ?_ _ | refine blk_drew ?_ | refine blk_alloc ?_ _)); exact BK104.out)) : gb105 ≠ gb104)); clear BK104; clear HB; have BK104 := n0_; have HB := n1_; have BK105 := n2_; have GW105 := n3_; have GE105 := n4_; have NB104_105 := n5_; have NB105_104 := n6_; clear n0_ n1_ n2_ n3_ n4_ n5_ n6_; clear hb hbox hg) | ((with_reducible refine gate_dst (N := 3) rfl ?_); refine box_event ?hg (N := 3) ?hd (cs := #[.slice none 0 0, .slice none 0 0]) (t := 25) ?hr ?_; (case hd => rfl); (case hg => rfl); (case hr => first | (go_simp; done) | (go_simp; rfl)); intro gb106 hg w4 hbox hb; have n0_ := Aside0.mk (blk_below (g := gb104) (o := .cells #[.slice A0_0 l0_0.length c0_0, .slice A0_1 l0_1.length c0_1] 25 (0, 0)) (by (with_reducible repeat (first | refine blk_drewN ?_ _ | refine blk_drew ?_ | refine blk_alloc ?_ _)); exact BK104.out) hb); have n1_ := Aside0.mk (blk_below (g := gb105) (o := .cells #[.slice none 0 0, .slice none 0 0] 25 (0, 0)) (by (with_reducible repeat (first | refine blk_drewN ?_ _ | refine blk_drew ?_ | refine blk_alloc ?_ _)); exact BK105.out) hb); have n2_ := Aside0.mk (below_step (by repeat (first | (with_reducible first | exact HB.out | apply below_alloc | apply pw_below_drewN | apply below_drew1 | refine below_set ?_ GE104.out | refine below_set ?_ GE105.out) | exact HB.out)) hb); have n3_ := Aside0.mk (hbox); have n4_ := Aside0.mk ((by rw [hg]; exact (below_size (by repeat (first | (with_reducible first | exact HB.out | apply below_alloc | apply pw_below_drewN | apply below_drew1 | refine below_set ?_ GE104.out | refine below_set ?_ GE105.out) | exact HB.out))) : w.heap.size ≤ gb106)); have n5_ := Aside0.mk ((by rw [hg]; exact (below_size (by repeat (first | (with_reducible first | exact HB.out | apply below_alloc | apply pw_below_drewN | apply below_drew1 | refine below_set ?_ GE104.out | refine below_set ?_ GE105.out) | exact HB.out))) : w.heap.size ≤ gb106)); have n6_ := Aside0.mk ((by rw [hg]; exact Nat.ne_of_lt (blk_lt (g := gb104) (o := .cells #[.slice A0_0 l0_0.length c0_0, .slice A0_1 l0_1.length c0_1] 25 (0, 0)) (by (with_reducible repeat (first | refine blk_drewN ?_ _ | refine blk_drew ?_ | refine blk_alloc ?_ _)); exact BK104.out)) : gb104 ≠ gb106)); have n7_ := Aside0.mk ((by rw [hg]; exact Nat.ne_of_gt (blk_lt (g := gb104) (o := .cells #[.slice A0_0 l0_0.length c0_0, .slice A0_1 l0_1.length c0_1] 25 (0, 0)) (by (with_reducible repeat (first | refine blk_drewN ?_ _ | refine blk_drew ?_ | refine blk_alloc ?_ _)); exact BK104.out)) : gb106 ≠ gb104)); have n8_ := Aside0.mk ((by rw [hg]; exact Nat.ne_of_lt (blk_lt (g := gb105) (o := .cells #[.slice none 0 0, .slice none 0 0] 25 (0, 0)) (by (with_reducible repeat (first | refine blk_drewN ?_ _ | refine blk_drew ?_ | refine blk_alloc ?_ _)); exact BK105.out)) : gb105 ≠ gb106)); have n9_ := Aside0.mk ((by rw [hg]; exact Nat.ne_of_gt (blk_lt (g := gb105) (o := .cells #[.slice none 0 0, .slice none 0 0] 25 (0, 0)) (by (with_reducible repeat (first | refine blk_drewN ?_ _ | refine blk_drew ?_ | refine blk_alloc ?_ _)); exact BK105.out)) : gb106 ≠ gb105)); clear BK104; clear BK105; clear HB; have BK104 := n0_; have BK105 := n1_; have HB := n2_; have BK106 := n3_; have GW106 := n4_; have GE106 := n5_; have NB104_106 := n6_; have NB106_104 := n7_; have NB105_106 := n8_; have NB106_105 := n9_; clear n0_ n1_ n2_ n3_ n4_ n5_ n6_ n7_ n8_ n9_; clear hb hbox hg))
  go_loopg [4] k (fun kq v4 w' => ∃ (x4_1 : Int) (x107000_1 : List (S52)) (u107000 : Value), v4 = .int .i64 x4_1 ∧ Aside0 (catamaranref05_Twin.l0 kq x4_1 l0_0 l0_1 x107000_1 = some (r1, r2)) ∧ Aside0 (kq ≤ k) ∧ Aside0 (Kd.S k52 52 w' w.heap.size (fun _ => True) u107000 x107000_1) ∧ Aside0 (w'.heap[gb104]? = some (.cells #[(.slice A0_0 l0_0.length c0_0), (.slice A0_1 l0_1.length c0_1)] 25 (0, 0))) ∧ Aside0 (w'.heap[gb105]? = some (.cells #[(.slice none 0 0), (.slice none 0 0)] 25 (0, 0))) ∧ Aside0 (w'.heap[gb106]? = some (.cells #[u107000, (.slice none 0 0)] 25 (0, 0))) ∧ Aside0 (Below w.heap.size w w'))
  case atStart => exact ⟨(0), (([] : List (S52))), (.slice none 0 0), (by first | rfl | (simp; done) | (simp [*]; done)), H', ⟨Nat.le_refl _⟩, ⟨by first | exact Kd.S_nil _ _ _ _ _ | exact Kd.N_nil _ _ _ _ _ | exact Kd.V_nil _ _ _ _ _ | exact Kd.Q_nil _ _ _ _ _ | exact Kd.R_nil _ _ _ _ _⟩, ⟨by (with_reducible repeat (first | refine blk_drewN ?_ _ | refine blk_drew ?_ | refine blk_alloc ?_ _)); exact BK104.out⟩, ⟨by (with_reducible repeat (first | refine blk_drewN ?_ _ | refine blk_drew ?_ | refine blk_alloc ?_ _)); exact BK105.out⟩, ⟨by (with_reducible repeat (first | refine blk_drewN ?_ _ | refine blk_drew ?_ | refine blk_alloc ?_ _)); exact BK106.out⟩, ⟨by repeat (first | (with_reducible first | exact HB.out | apply below_alloc | apply pw_below_drewN | apply below_drew1 | refine below_set ?_ GE104.out | refine below_set ?_ GE105.out | refine below_set ?_ GE106.out) | exact HB.out)⟩⟩
  case round =>
    clear H'
    try clear p2
    try clear c3
    obtain ⟨x4_1, x107000_1, u107000, rfl, HA, HK1, HO_107000, BK104, BK105, BK106, HB⟩ := hrel
    cases gk with
    | zero => exact absurd HA.out (by simp [catamaranref05_Twin.l0])
    | succ k1 =>
      have H := HA.out
      clear HA
      simp only [catamaranref05_Twin.l0] at H
      by_cases c5 : x4_1 < (l0_0.length : Int)
      · rw [if_pos c5] at H
        have c5b0 : decide (x4_1 < (l0_0.length : Int)) = true := decide_eq_true c5
        clear c5
        obtain ⟨y107, hy107⟩ : ∃ y_ : List Int, y_ = (([] : List Int)) := ⟨_, rfl⟩
        replace H : (if 0 ≤ x4_1 then (if y107.length + ((rd_T52 l0_0 x4_1).f0).length < 140737488355328 then (if x107000_1.length < 4398046511104 then (catamaranref05_Twin.l0 k1 (wrap64 (x4_1 + 1)) l0_0 l0_1 (x107000_1 ++ [(⟨(y107 ++ ((rd_T52 l0_0 x4_1).f0)), (rd_T52 l0_0 x4_1).f1⟩ : S52)])) else (none)) else (none)) else (none)) = some (r1, r2) := by first | (rw [hy107]; with_reducible exact H) | (have H2_ := (Option.bind_some _ _).symm.trans H; rw [hy107]; with_reducible exact H2_) | (have H2_ := (Option.bind_some _ _).symm.trans H; with_reducible exact H2_) | with_reducible exact H | (rw [hy107]; exact H) | exact H
        have Ny107 := Aside0.mk hy107
        clear hy107
        by_cases c6 : 0 ≤ x4_1
        · rw [if_pos c6] at H
          have c6b0 : decide (0 ≤ x4_1) = true := decide_eq_true c6
          clear c6
          by_cases c7 : y107.length + ((rd_T52 l0_0 x4_1).f0).length < 140737488355328
          · rw [if_pos c7] at H
            have LMc7 := Aside0.mk c7
            clear c7
            obtain ⟨y111, hy111⟩ : ∃ y_ : List Int, y_ = (y107 ++ ((rd_T52 l0_0 x4_1).f0)) := ⟨_, rfl⟩
            replace H : (if x107000_1.length < 4398046511104 then (catamaranref05_Twin.l0 k1 (wrap64 (x4_1 + 1)) l0_0 l0_1 (x107000_1 ++ [(⟨y111, (rd_T52 l0_0 x4_1).f1⟩ : S52)])) else (none)) = some (r1, r2) := by first | (rw [hy111]; with_reducible exact H) | (have H2_ := (Option.bind_some _ _).symm.trans H; rw [hy111]; with_reducible exact H2_) | (have H2_ := (Option.bind_some _ _).symm.trans H; with_reducible exact H2_) | with_reducible exact H | (rw [hy111]; exact H) | exact H
            have Ny111 := Aside0.mk hy111
            clear hy111
            by_cases c8 : x107000_1.length < 4398046511104
            · rw [if_pos c8] at H
              have LMc8 := Aside0.mk c8
              clear c8
              obtain ⟨y115, hy115⟩ : ∃ y_ : List (S52), y_ = (x107000_1 ++ [(⟨y111, (rd_T52 l0_0 x4_1).f1⟩ : S52)]) := ⟨_, rfl⟩
              replace H : (catamaranref05_Twin.l0 k1 (wrap64 (x4_1 + 1)) l0_0 l0_1 y115) = some (r1, r2) := by first | (rw [hy115]; with_reducible exact H) | (have H2_ := (Option.bind_some _ _).symm.trans H; rw [hy115]; with_reducible exact H2_) | (have H2_ := (Option.bind_some _ _).symm.trans H; with_reducible exact H2_) | with_reducible exact H | (rw [hy115]; exact H) | exact H
              have Ny115 := Aside0.mk hy115
              clear hy115
              have H' := Aside0.mk H
              clear H
              have hnb9 := NB104_105.out
              have hnc9 := NB105_104.out
              have hnb10 := NB104_106.out
              have hnc10 := NB106_104.out
              have hcz11_0 : wr.cell? ⟨gb104, 0, none⟩ = some (.slice A0_0 l0_0.length c0_0) := (blk_cell BK104.out 0).trans rfl
              have hcz11_1 : wr.cell? ⟨gb104, 1, none⟩ = some (.slice A0_1 l0_1.length c0_1) := (blk_cell BK104.out 1).trans rfl
              have hfz11_0 := blk_frozen BK104.out 0
              have hfz11_1 := blk_frozen BK104.out 1
              try go_wp2
              have n0_ := Aside0.mk (Kd.S_drew HO_107000.out)
              have n1_ := Aside0.mk (blk_drew BK104.out)
              have n2_ := Aside0.mk (blk_drew BK105.out)
              have n3_ := Aside0.mk (blk_drew BK106.out)
              have n4_ := Aside0.mk (below_drew1 HB.out)
              clear HO_107000
              clear BK104
              clear BK105
              clear BK106
              clear HB
              have HO_107000 := n0_
              have BK104 := n1_
              have BK105 := n2_
              have BK106 := n3_
              have HB := n4_
              clear n0_ n1_ n2_ n3_ n4_
              have p110 : 0 ≤ (x4_1 : Int) := of_decide_eq_true (by first | (with_reducible assumption) | assumption)
              have q110 : x4_1 < (l0_0.length : Int) := of_decide_eq_true (by first | (with_reducible assumption) | assumption)
              obtain ⟨ad110, A110_0, c110_0, e110, hx110_0, hx110_1, hl110_0, hi110_0⟩ := at_T52 HR0_0.out x4_1 p110 q110
              have hw110_1 := hx110_1
              have hw110_0 := hx110_0
              cases e110
              replace hx110_0 := (HB.out.cell (World.block_lt_of_cell? w _ hx110_0)).trans hx110_0
              replace hx110_1 := (HB.out.cell (World.block_lt_of_cell? w _ hx110_1)).trans hx110_1
              have HR110_0 := Aside0.mk hi110_0
              have HC110_0 := Aside0.mk hl110_0
              clear hi110_0 hl110_0
              replace p110 := eq_true p110
              replace q110 := eq_true q110
              have p114 : 0 ≤ (x4_1 : Int) := of_decide_eq_true (by first | (with_reducible assumption) | assumption)
              have q114 : x4_1 < (l0_0.length : Int) := of_decide_eq_true (by first | (with_reducible assumption) | assumption)
              obtain ⟨ad114, A114_0, c114_0, e114, hx114_0, hx114_1, hl114_0, hi114_0⟩ := at_T52 HR0_0.out x4_1 p114 q114
              have hw114_1 := hx114_1
              have hw114_0 := hx114_0
              obtain rfl : ad110 = ad114 := (by injection e114)
              replace hx114_0 := (HB.out.cell (World.block_lt_of_cell? w _ hx114_0)).trans hx114_0
              replace hx114_1 := (HB.out.cell (World.block_lt_of_cell? w _ hx114_1)).trans hx114_1
              have HR114_0 := Aside0.mk hi114_0
              have HC114_0 := Aside0.mk hl114_0
              clear hi114_0 hl114_0
              replace p114 := eq_true p114
              replace q114 := eq_true q114
              have ea_ := Option.some.inj (hx110_0.symm.trans hx114_0)
              injection ea_ with ea_ en_ ec_
              subst ea_
              subst ec_
              clear en_
              refine start_ (n := 21) (S := fun w' => w'.cell? ⟨gb106, 0, none⟩ = some (u107000) ∧ w'.cell? ⟨gb106, 1, none⟩ = some (.slice none 0 0) ∧ w'.cell? ⟨gb104, 0, none⟩ = some (.slice (some ad110) l0_0.length c0_0) ∧ w'.cell? ⟨gb104, 1, none⟩ = some (.slice A0_1 l0_1.length c0_1) ∧ w'.cell? (ad110.add ((x4_1).toNat * 2)) = some (.slice A110_0 ((rd_T52 l0_0 x4_1).f0).length c110_0) ∧ w'.cell? ⟨(ad110.add ((x4_1).toNat * 2)).block, (ad110.add ((x4_1).toNat * 2)).off + 1, none⟩ = some (.bool ((rd_T52 l0_0 x4_1).f1)) ∧ w'.cell? (ad110.add ((x4_1).toNat * 2)) = some (.slice A110_0 ((rd_T52 l0_0 x4_1).f0).length c110_0) ∧ w'.cell? ⟨(ad110.add ((x4_1).toNat * 2)).block, (ad110.add ((x4_1).toNat * 2)).off + 1, none⟩ = some (.bool ((rd_T52 l0_0 x4_1).f1))) (ds := [20]) #[false, false, false, false, false, false, false, false, false, false, false, false, false, false, false, false, false, false, false, false, false] (by kernel_rfl) rfl rfl ⟨(blk_cell BK106.out 0).trans rfl, (blk_cell BK106.out 1).trans rfl, (blk_cell BK104.out 0).trans rfl, (blk_cell BK104.out 1).trans rfl, ((HB.out.cell (World.block_lt_of_cell? w _ hw110_0)).trans hw110_0), ((HB.out.cell (World.block_lt_of_cell? w _ hw110_1)).trans hw110_1), ((HB.out.cell (World.block_lt_of_cell? w _ hw114_0)).trans hw114_0), ((HB.out.cell (World.block_lt_of_cell? w _ hw114_1)).trans hw114_1)⟩ (fun hHeld => ?_); refine with_tabW catamaranref05_Twin.tab5 catamaranref05_Twin.bits5 (fun HT_ HW_ => ?_)
              generalize wr.drew = w12 at HO_107000 BK104 BK105 BK106 HB HR110_0 HR114_0 hx110_0 hx110_1 hx114_0 hx114_1 hHeld ⊢
              refine pure_ (i := 0) (N := some 13) (v := ?_) (a' := ?_) #[true, false, false, false, false, false, false, false, false, false, false, false, false, false, false, false, false, false, false, false, false] rfl rfl (any_of HT_.out (by kernel_rfl)) (fun _ _ _ h => h) (Or.inl ⟨by rfl, ?_⟩) ?_ ?_
              rotate_left
              · intro w'
                go_simp
                with_reducible rfl
              rotate_left
              · simp only [Act.put, List.setIfInBounds_toArray, List.set_cons_zero, List.set_cons_succ, i64_w, i32_w]
                rfl
              refine pure_ (i := 3) (N := some 16) (v := ?_) (a' := ?_) #[true, false, false, true, false, false, false, false, false, false, false, false, false, false, false, false, false, false, false, false, false] rfl rfl (any_of HT_.out (by kernel_rfl)) (fun _ _ _ h => h) (Or.inl ⟨by rfl, ?_⟩) ?_ ?_
              rotate_left
              · intro w'
                go_simp
                with_reducible rfl
              rotate_left
              · simp only [Act.put, List.setIfInBounds_toArray, List.set_cons_zero, List.set_cons_succ, i64_w, i32_w]
                rfl
              refine pure_ (i := 5) (N := some 18) (v := ?_) (a' := ?_) #[true, false, false, true, false, true, false, false, false, false, false, false, false, false, false, false, false, false, false, false, false] rfl rfl (any_of HT_.out (by kernel_rfl)) (fun _ _ _ h => h) (Or.inl ⟨by rfl, ?_⟩) ?_ ?_
              rotate_left
              · intro w'
                go_simp
                with_reducible rfl
              rotate_left
              · simp only [Act.put, List.setIfInBounds_toArray, List.set_cons_zero, List.set_cons_succ, i64_w, i32_w]
                rfl
              refine pure_ (i := 10) (N := some 23) (v := ?_) (a' := ?_) #[true, false, false, true, false, true, false, false, false, false, true, false, false, false, false, false, false, false, false, false, false] rfl rfl (any_of HT_.out (by kernel_rfl)) (fun _ _ _ h => h) (Or.inl ⟨by rfl, ?_⟩) ?_ ?_
              rotate_left
              · intro w'
                go_simp
                with_reducible rfl
              rotate_left
              · simp only [Act.put, List.setIfInBounds_toArray, List.set_cons_zero, List.set_cons_succ, i64_w, i32_w]
                rfl
              refine pure_ (i := 12) (N := some 25) (v := ?_) (a' := ?_) #[true, false, false, true, false, true, false, false, false, false, true, false, true, false, false, false, false, false, false, false, false] rfl rfl (any_of HT_.out (by kernel_rfl)) (fun _ _ _ h => h) (Or.inl ⟨by rfl, ?_⟩) ?_ ?_
              rotate_left
              · intro w'
                go_simp
                with_reducible rfl
              rotate_left
              · simp only [Act.put, List.setIfInBounds_toArray, List.set_cons_zero, List.set_cons_succ, i64_w, i32_w]
                rfl
              refine take_ (i := 1) (N := some 14) (v := ?_) (a' := ?_) #[true, true, false, true, false, true, false, false, false, false, true, false, true, false, false, false, false, false, false, false, false] rfl rfl (take_ofW HT_.out HW_.out (by kernel_rfl)) (fun _ _ _ h => h) (Or.inl ⟨by rfl, ?_⟩) hHeld ?_ ?_
              rotate_left
              · rintro w' ⟨s0, s1, s2, s3, s4, s5, s6, s7⟩
                go_simp
                with_reducible rfl
              rotate_left
              · simp only [Act.put, List.setIfInBounds_toArray, List.set_cons_zero, List.set_cons_succ, i64_w, i32_w]
                rfl
              refine take_ (i := 4) (N := some 17) (v := ?_) (a' := ?_) #[true, true, false, true, true, true, false, false, false, false, true, false, true, false, false, false, false, false, false, false, false] rfl rfl (take_ofW HT_.out HW_.out (by kernel_rfl)) (fun _ _ _ h => h) (Or.inl ⟨by rfl, ?_⟩) hHeld ?_ ?_
              rotate_left
              · rintro w' ⟨s0, s1, s2, s3, s4, s5, s6, s7⟩
                go_simp
                with_reducible rfl
              rotate_left
              · simp only [Act.put, List.setIfInBounds_toArray, List.set_cons_zero, List.set_cons_succ, i64_w, i32_w]
                rfl
              refine pure_ (i := 6) (N := some 19) (v := ?_) (a' := ?_) #[true, true, false, true, true, true, true, false, false, false, true, false, true, false, false, false, false, false, false, false, false] rfl rfl (any_of HT_.out (by kernel_rfl)) (fun _ _ _ h => h) (Or.inl ⟨by rfl, ?_⟩) ?_ ?_
              rotate_left
              · intro w'
                go_simp
                with_reducible rfl
              rotate_left
              · simp only [Act.put, List.setIfInBounds_toArray, List.set_cons_zero, List.set_cons_succ, i64_w, i32_w]
                rfl
              refine pure_ (i := 7) (N := some 20) (v := ?_) (a' := ?_) #[true, true, false, true, true, true, true, true, false, false, true, false, true, false, false, false, false, false, false, false, false] rfl rfl (any_of HT_.out (by kernel_rfl)) (fun _ _ _ h => h) (Or.inl ⟨by rfl, ?_⟩) ?_ ?_
              rotate_left
              · intro w'
                go_simp
                with_reducible rfl
              rotate_left
              · simp only [Act.put, List.setIfInBounds_toArray, List.set_cons_zero, List.set_cons_succ, i64_w, i32_w]
                rfl
              refine take_ (i := 8) (N := some 21) (v := ?_) (a' := ?_) #[true, true, false, true, true, true, true, true, true, false, true, false, true, false, false, false, false, false, false, false, false] rfl rfl (take_ofW HT_.out HW_.out (by kernel_rfl)) (fun _ _ _ h => h) (Or.inl ⟨by rfl, ?_⟩) hHeld ?_ ?_
              rotate_left
              · rintro w' ⟨s0, s1, s2, s3, s4, s5, s6, s7⟩
                go_simp
                with_reducible rfl
              rotate_left
              · simp only [Act.put, List.setIfInBounds_toArray, List.set_cons_zero, List.set_cons_succ, i64_w, i32_w]
                rfl
              refine take_ (i := 11) (N := some 24) (v := ?_) (a' := ?_) #[true, true, false, true, true, true, true, true, true, false, true, true, true, false, false, false, false, false, false, false, false] rfl rfl (take_ofW HT_.out HW_.out (by kernel_rfl)) (fun _ _ _ h => h) (Or.inl ⟨by rfl, ?_⟩) hHeld ?_ ?_
              rotate_left
              · rintro w' ⟨s0, s1, s2, s3, s4, s5, s6, s7⟩
                go_simp
                with_reducible rfl
              rotate_left
              · simp only [Act.put, List.setIfInBounds_toArray, List.set_cons_zero, List.set_cons_succ, i64_w, i32_w]
                rfl
              refine pure_ (i := 13) (N := some 26) (v := ?_) (a' := ?_) #[true, true, false, true, true, true, true, true, true, false, true, true, true, true, false, false, false, false, false, false, false] rfl rfl (any_of HT_.out (by kernel_rfl)) (fun _ _ _ h => h) (Or.inl ⟨by rfl, ?_⟩) ?_ ?_
              rotate_left
              · intro w'
                go_simp
                with_reducible rfl
              rotate_left
              · simp only [Act.put, List.setIfInBounds_toArray, List.set_cons_zero, List.set_cons_succ, i64_w, i32_w]
                rfl
              refine pure_ (i := 14) (N := some 27) (v := ?_) (a' := ?_) #[true, true, false, true, true, true, true, true, true, false, true, true, true, true, true, false, false, false, false, false, false] rfl rfl (any_of HT_.out (by kernel_rfl)) (fun _ _ _ h => h) (Or.inl ⟨by rfl, ?_⟩) ?_ ?_
              rotate_left
              · intro w'
                go_simp
                with_reducible rfl
              rotate_left
              · simp only [Act.put, List.setIfInBounds_toArray, List.set_cons_zero, List.set_cons_succ, i64_w, i32_w]
                rfl
              refine take_ (i := 15) (N := some 28) (v := ?_) (a' := ?_) #[true, true, false, true, true, true, true, true, true, false, true, true, true, true, true, true, false, false, false, false, false] rfl rfl (take_ofW HT_.out HW_.out (by kernel_rfl)) (fun _ _ _ h => h) (Or.inl ⟨by rfl, ?_⟩) hHeld ?_ ?_
              rotate_left
              · rintro w' ⟨s0, s1, s2, s3, s4, s5, s6, s7⟩
                go_simp
                with_reducible rfl
              rotate_left
              · simp only [Act.put, List.setIfInBounds_toArray, List.set_cons_zero, List.set_cons_succ, i64_w, i32_w]
                rfl
              refine one_ (i := 2) (N := some 15) #[true, true, true, true, true, true, true, true, true, false, true, true, true, true, true, true, false, false, false, false, false] rfl rfl (one_of HT_.out (by kernel_rfl)) (by decide) (fun K hK => ?_)
              refine Kd.R_lit_step (Kd.int .u8) _ 5 ?hg (N := 15) ?hd (xs := ([] : List Int)) (inner := []) (ok := fun _ => True) (okp := fun _ => True) ?hr ?hp (fun _ hk => hk) trivial (Below.refl _ _) (Nat.le_refl _) (by simp) ?_; (case hd => rfl); (case hg => rfl); (case hr => first | (go_simp; done) | (go_simp; rfl)); (case hp => exact (Reps.none _ _))
              intro v108 w13 ho14 hb hg_ hnew_
              clear hg_ hnew_
              (first | rw [← Ny107.out] at ho14 | (simp only [Int.reduceToNat] at ho14; rw [← Ny107.out] at ho14))
              have n0_ := Aside0.mk (Kd.S_elder' (by (with_reducible repeat (first | apply Kd.S_alloc | apply Kd.S_drewN | apply Kd.S_drew)); exact HO_107000.out) (Kd.R_base ho14) hb)
              have n1_ := Aside0.mk (Kd.R_lower ho14 (below_size (by repeat (first | (with_reducible first | exact HB.out | apply below_alloc | apply pw_below_drewN | apply below_drew1 | refine below_set ?_ GE104.out | refine below_set ?_ GE105.out | refine below_set ?_ GE106.out) | exact HB.out))))
              have n2_ := Aside0.mk (blk_below (g := gb104) (o := .cells #[.slice (some ad110) l0_0.length c0_0, .slice A0_1 l0_1.length c0_1] 25 (0, 0)) (by (with_reducible repeat (first | refine blk_drewN ?_ _ | refine blk_drew ?_ | refine blk_alloc ?_ _)); exact BK104.out) hb)
              have n3_ := Aside0.mk (blk_below (g := gb105) (o := .cells #[.slice none 0 0, .slice none 0 0] 25 (0, 0)) (by (with_reducible repeat (first | refine blk_drewN ?_ _ | refine blk_drew ?_ | refine blk_alloc ?_ _)); exact BK105.out) hb)
              have n4_ := Aside0.mk (blk_below (g := gb106) (o := .cells #[u107000, .slice none 0 0] 25 (0, 0)) (by (with_reducible repeat (first | refine blk_drewN ?_ _ | refine blk_drew ?_ | refine blk_alloc ?_ _)); exact BK106.out) hb)
              have n5_ := Aside0.mk (below_step (by repeat (first | (with_reducible first | exact HB.out | apply below_alloc | apply pw_below_drewN | apply below_drew1 | refine below_set ?_ GE104.out | refine below_set ?_ GE105.out | refine below_set ?_ GE106.out) | exact HB.out)) hb)
              clear HO_107000
              clear BK104
              clear BK105
              clear BK106
              clear HB
              have HO_107000 := n0_
              have HO109 := n1_
              have BK104 := n2_
              have BK105 := n3_
              have BK106 := n4_
              have HB := n5_
              clear n0_ n1_ n2_ n3_ n4_ n5_
              clear hb ho14
              refine hK.out _ _ ⟨(blk_cell BK106.out 0).trans rfl, (blk_cell BK106.out 1).trans rfl, (blk_cell BK104.out 0).trans rfl, (blk_cell BK104.out 1).trans rfl, ((HB.out.cell (World.block_lt_of_cell? w _ hw110_0)).trans hw110_0), ((HB.out.cell (World.block_lt_of_cell? w _ hw110_1)).trans hw110_1), ((HB.out.cell (World.block_lt_of_cell? w _ hw114_0)).trans hw114_0), ((HB.out.cell (World.block_lt_of_cell? w _ hw114_1)).trans hw114_1)⟩ (fun hHeld => ?_)
              clear hK K
              refine norm_ (a' := ?_) ?_ ?_
              rotate_left
              · show Act.put _ (some 15) _ = _
                simp only [Act.put, List.setIfInBounds_toArray, List.set_cons_zero, List.set_cons_succ, i64_w, i32_w]
                rfl
              refine one_ (i := 9) (N := some 22) #[true, true, true, true, true, true, true, true, true, true, true, true, true, true, true, true, false, false, false, false, false] rfl rfl (one_of HT_.out (by kernel_rfl)) (by decide) (fun K hK => ?_)
              refine Kd.R_append_rows_step (Kd.int .u8) (w0 := w) w.heap.size (by rfl) (.tmp 15) (.tmp 21) 26 5 (.int .u8 0) 1 rfl Try.underlying26 info5 rfl (by decide) (by omega) v108 y107 ((rd_T52 l0_0 x4_1).f0) _ _ _ (fun _ => True) (fun _ => False) rfl rfl ?aO ?aR (fun _ _ h => h) (fun _ h => h.elim) ?aF ?aB ?aS ?aL ?_
              (case aR => repeat (first | exact (Kd.C_below HR110_0.out HB.out) | (with_reducible refine Kd.C_alloc ?_ _) | (with_reducible refine Kd.C_drewN ?_ _) | (with_reducible refine Kd.C_drew ?_)))
              (case aB => exact (by repeat (first | (with_reducible first | exact HB.out | apply below_alloc | apply pw_below_drewN | apply below_drew1 | refine below_set ?_ GE104.out | refine below_set ?_ GE105.out | refine below_set ?_ GE106.out) | exact HB.out)))
              (case aF => exact (fun _ _ => trivial))
              (case aO => exact (by (with_reducible repeat (first | apply Kd.R_alloc | apply Kd.R_drewN | apply Kd.R_drew)); exact HO109.out))
              (case aS => exact (below_size (by repeat (first | (with_reducible first | exact HB.out | apply below_alloc | apply pw_below_drewN | apply below_drew1 | refine below_set ?_ GE104.out | refine below_set ?_ GE105.out | refine below_set ?_ GE106.out) | exact HB.out))))
              (case aL => have := LMc7.out; omega)
              intro v112 w15 ho hb hg hat
              rw [← Ny111.out] at ho
              have n0_ := Aside0.mk (Kd.S_after (ok := (fun _ => True)) (by (with_reducible repeat (first | apply Kd.S_alloc | apply Kd.S_drewN | apply Kd.S_drew)); exact HO_107000.out) hg hat)
              have n1_ := Aside0.mk (blk_grown (g := gb104) (o := .cells #[.slice (some ad110) l0_0.length c0_0, .slice A0_1 l0_1.length c0_1] 25 (0, 0)) (by (with_reducible repeat (first | refine blk_drewN ?_ _ | refine blk_drew ?_ | refine blk_alloc ?_ _)); exact BK104.out) hg (Kd.R_ne HO109.out BK104.out (by decide)))
              have n2_ := Aside0.mk (blk_grown (g := gb105) (o := .cells #[.slice none 0 0, .slice none 0 0] 25 (0, 0)) (by (with_reducible repeat (first | refine blk_drewN ?_ _ | refine blk_drew ?_ | refine blk_alloc ?_ _)); exact BK105.out) hg (Kd.R_ne HO109.out BK105.out (by decide)))
              have n3_ := Aside0.mk (blk_grown (g := gb106) (o := .cells #[u107000, .slice none 0 0] 25 (0, 0)) (by (with_reducible repeat (first | refine blk_drewN ?_ _ | refine blk_drew ?_ | refine blk_alloc ?_ _)); exact BK106.out) hg (Kd.R_ne HO109.out BK106.out (by decide)))
              have n4_ := Aside0.mk (hb)
              have n5_ := Aside0.mk (ho)
              clear HO_107000
              clear BK104
              clear BK105
              clear BK106
              clear HB
              clear HO109
              have HO_107000 := n0_
              have BK104 := n1_
              have BK105 := n2_
              have BK106 := n3_
              have HB := n4_
              have HO113 := n5_
              clear n0_ n1_ n2_ n3_ n4_ n5_
              clear ho hb hg hat
              obtain ⟨Ao16, co16, eo16⟩ := Kd.R_slice HO113.out
              (first | subst eo16 | (injection eo16 with f1_ f2_ f3_; have f4_ := f1_.symm; have f5_ := f3_.symm; clear f1_ f2_ f3_; subst f4_; subst f5_))
              refine hK.out _ _ ⟨(blk_cell BK106.out 0).trans rfl, (blk_cell BK106.out 1).trans rfl, (blk_cell BK104.out 0).trans rfl, (blk_cell BK104.out 1).trans rfl, ((HB.out.cell (World.block_lt_of_cell? w _ hw110_0)).trans hw110_0), ((HB.out.cell (World.block_lt_of_cell? w _ hw110_1)).trans hw110_1), ((HB.out.cell (World.block_lt_of_cell? w _ hw114_0)).trans hw114_0), ((HB.out.cell (World.block_lt_of_cell? w _ hw114_1)).trans hw114_1)⟩ (fun hHeld => ?_)
              clear hK K
              refine norm_ (a' := ?_) ?_ ?_
              rotate_left
              · show Act.put _ (some 22) _ = _
                simp only [Act.put, List.setIfInBounds_toArray, List.set_cons_zero, List.set_cons_succ, i64_w, i32_w]
                rfl
              refine pure_ (i := 16) (N := some 29) (v := ?_) (a' := ?_) #[true, true, true, true, true, true, true, true, true, true, true, true, true, true, true, true, true, false, false, false, false] rfl rfl (any_of HT_.out (by kernel_rfl)) (fun _ _ _ h => h) (Or.inl ⟨by rfl, ?_⟩) ?_ ?_
              rotate_left
              · intro w'
                go_simp
                with_reducible rfl
              rotate_left
              · simp only [Act.put, List.setIfInBounds_toArray, List.set_cons_zero, List.set_cons_succ, i64_w, i32_w]
                rfl
              refine one_ (i := 17) (N := some 30) #[true, true, true, true, true, true, true, true, true, true, true, true, true, true, true, true, true, true, false, false, false] rfl rfl (one_of HT_.out (by kernel_rfl)) (by decide) (fun K hK => ?_)
              refine value_ (w1 := ?_) (v := ?_) (by rfl) rfl ?_ ?_
              rotate_left 2
              · go_simp
                constructor
                · rfl
                · rfl
              refine hK.out _ _ ⟨(blk_cell (blk_alloc BK106.out _) 0).trans rfl, (blk_cell (blk_alloc BK106.out _) 1).trans rfl, (blk_cell (blk_alloc BK104.out _) 0).trans rfl, (blk_cell (blk_alloc BK104.out _) 1).trans rfl, (World.cell?_alloc_lt _ _ _ (World.block_lt_of_cell? _ _ (((HB.out.cell (World.block_lt_of_cell? w _ hw110_0)).trans hw110_0)))).trans (((HB.out.cell (World.block_lt_of_cell? w _ hw110_0)).trans hw110_0)), (World.cell?_alloc_lt _ _ _ (World.block_lt_of_cell? _ _ (((HB.out.cell (World.block_lt_of_cell? w _ hw110_1)).trans hw110_1)))).trans (((HB.out.cell (World.block_lt_of_cell? w _ hw110_1)).trans hw110_1)), (World.cell?_alloc_lt _ _ _ (World.block_lt_of_cell? _ _ (((HB.out.cell (World.block_lt_of_cell? w _ hw114_0)).trans hw114_0)))).trans (((HB.out.cell (World.block_lt_of_cell? w _ hw114_0)).trans hw114_0)), (World.cell?_alloc_lt _ _ _ (World.block_lt_of_cell? _ _ (((HB.out.cell (World.block_lt_of_cell? w _ hw114_1)).trans hw114_1)))).trans (((HB.out.cell (World.block_lt_of_cell? w _ hw114_1)).trans hw114_1))⟩ (fun hHeld => ?_)
              clear hK K
              refine norm_ (a' := ?_) ?_ ?_
              rotate_left
              · show Act.put _ (some 30) _ = _
                simp only [Act.put, List.setIfInBounds_toArray, List.set_cons_zero, List.set_cons_succ, i64_w, i32_w]
                rfl
              refine one_ (i := 18) (N := some 31) #[true, true, true, true, true, true, true, true, true, true, true, true, true, true, true, true, true, true, true, false, false] rfl rfl (one_of HT_.out (by kernel_rfl)) (by decide) (fun K hK => ?_)
              refine Kd.S_append_step k52 (w0 := w) w.heap.size (by rfl) (.tmp 14) (.tmp 30) 22 52 (.agg #[(.slice none 0 0), (.bool false)]) 32 rfl Try.underlying22 info52 rfl (by decide) (by omega) u107000 x107000_1 (⟨y111, (rd_T52 l0_0 x4_1).f1⟩ : S52) [.slice Ao16 y111.length co16, .bool ((rd_T52 l0_0 x4_1).f1)] (fun _ => True) (fun k_ => some k_ = (.slice Ao16 y111.length co16 : Value).ownBlock) rfl rfl ?aP (fun k_ hk_ => ((Kd.R_mono (ok' := fun k_ => ((fun _ => True)) k_ ∧ some k_ ≠ (u107000 : Value).ownBlock) (Kd.R_apart' (HO113.out) (Kd.S_typed HO_107000.out) (by decide)) (fun k_ hk => ⟨trivial, hk.2⟩))).1 k_ hk_.symm) ?aF ?aO ?aB ?aS ?aL ?_
              (case aP => exact k52_mkM _ _ _ (⟨y111, (rd_T52 l0_0 x4_1).f1⟩ : S52) (Kd.R_mono (Kd.R_tight rfl (Kd.R_mono (ok' := fun k_ => ((fun _ => True)) k_ ∧ some k_ ≠ (u107000 : Value).ownBlock) (Kd.R_apart' (HO113.out) (Kd.S_typed HO_107000.out) (by decide)) (fun k_ hk => ⟨trivial, hk.2⟩))) (fun _ h_ => h_)))
              (case aB => exact (by repeat (first | (with_reducible first | exact HB.out | apply below_alloc | apply pw_below_drewN | apply below_drew1 | refine below_set ?_ GE104.out | refine below_set ?_ GE105.out | refine below_set ?_ GE106.out) | exact HB.out)))
              (case aF => exact (fun _ _ => trivial))
              (case aO => exact (by (with_reducible repeat (first | apply Kd.S_alloc | apply Kd.S_drewN | apply Kd.S_drew)); exact Kd.S_mono HO_107000.out (fun k_ hk => ⟨trivial, fun e_ => hk.2 e_⟩)))
              (case aS => exact (below_size (by repeat (first | (with_reducible first | exact HB.out | apply below_alloc | apply pw_below_drewN | apply below_drew1 | refine below_set ?_ GE104.out | refine below_set ?_ GE105.out | refine below_set ?_ GE106.out) | exact HB.out))))
              (case aL => have := LMc8.out; omega)
              intro v116 w17 ho hb hg hat
              rw [← Ny115.out] at ho
              have n0_ := Aside0.mk (blk_grown (g := gb104) (o := .cells #[.slice (some ad110) l0_0.length c0_0, .slice A0_1 l0_1.length c0_1] 25 (0, 0)) (by (with_reducible repeat (first | refine blk_drewN ?_ _ | refine blk_drew ?_ | refine blk_alloc ?_ _)); exact BK104.out) hg (Kd.S_ne HO_107000.out BK104.out (by decide)))
              have n1_ := Aside0.mk (blk_grown (g := gb105) (o := .cells #[.slice none 0 0, .slice none 0 0] 25 (0, 0)) (by (with_reducible repeat (first | refine blk_drewN ?_ _ | refine blk_drew ?_ | refine blk_alloc ?_ _)); exact BK105.out) hg (Kd.S_ne HO_107000.out BK105.out (by decide)))
              have n2_ := Aside0.mk (blk_grown (g := gb106) (o := .cells #[u107000, .slice none 0 0] 25 (0, 0)) (by (with_reducible repeat (first | refine blk_drewN ?_ _ | refine blk_drew ?_ | refine blk_alloc ?_ _)); exact BK106.out) hg (Kd.S_ne HO_107000.out BK106.out (by decide)))
              have n3_ := Aside0.mk (hb)
              have n4_ := Aside0.mk (ho)
              clear BK104
              clear BK105
              clear BK106
              clear HB
              clear HO_107000
              clear HO113
              have BK104 := n0_
              have BK105 := n1_
              have BK106 := n2_
              have HB := n3_
              have HO117 := n4_
              clear n0_ n1_ n2_ n3_ n4_
              clear ho hb hg hat
              obtain ⟨Ao18, co18, eo18⟩ := Kd.S_slice HO117.out
              (first | subst eo18 | (injection eo18 with f1_ f2_ f3_; have f4_ := f1_.symm; have f5_ := f3_.symm; clear f1_ f2_ f3_; subst f4_; subst f5_))
              refine hK.out _ _ ⟨(blk_cell BK106.out 0).trans rfl, (blk_cell BK106.out 1).trans rfl, (blk_cell BK104.out 0).trans rfl, (blk_cell BK104.out 1).trans rfl, ((HB.out.cell (World.block_lt_of_cell? w _ hw110_0)).trans hw110_0), ((HB.out.cell (World.block_lt_of_cell? w _ hw110_1)).trans hw110_1), ((HB.out.cell (World.block_lt_of_cell? w _ hw114_0)).trans hw114_0), ((HB.out.cell (World.block_lt_of_cell? w _ hw114_1)).trans hw114_1)⟩ (fun hHeld => ?_)
              clear hK K
              refine norm_ (a' := ?_) ?_ ?_
              rotate_left
              · show Act.put _ (some 31) _ = _
                simp only [Act.put, List.setIfInBounds_toArray, List.set_cons_zero, List.set_cons_succ, i64_w, i32_w]
                rfl
              refine pure_ (i := 19) (N := some 32) (v := ?_) (a' := ?_) #[true, true, true, true, true, true, true, true, true, true, true, true, true, true, true, true, true, true, true, true, false] rfl rfl (any_of HT_.out (by kernel_rfl)) (fun _ _ _ h => h) (Or.inl ⟨by rfl, ?_⟩) ?_ ?_
              rotate_left
              · intro w'
                go_simp
                with_reducible rfl
              rotate_left
              · simp only [Act.put, List.setIfInBounds_toArray, List.set_cons_zero, List.set_cons_succ, i64_w, i32_w]
                rfl
              refine last_ (i := 20) (N := none) #[true, true, true, true, true, true, true, true, true, true, true, true, true, true, true, true, true, true, true, true, true] rfl rfl (one_of HT_.out (by kernel_rfl)) (by decide) (fun K hK => ?_)
              have hs19 : w17.cell? ⟨gb106, 0, none⟩ = some (u107000) := (blk_cell BK106.out 0).trans rfl
              have hfs19 := blk_frozen BK106.out 0
              have hns19_0 := NB104_106.out
              have hns19_1 := NB105_106.out
              have hms19_0 := NB106_104.out
              have hms19_1 := NB106_105.out
              refine skip_ (w1 := ?_) (by rfl) rfl ?_ ?_
              rotate_left
              · go_simp
                rfl
              refine hK.out _ _ ?_
              clear hK K
              refine done_ (done_of HT_.out (by kernel_rfl)) ?_
              try go_wp2
              go_roundg k1
              case measure => have := HK1.out; omega
              case rel => exact ⟨(wrap64 (x4_1 + 1)), (y115), (.slice Ao18 y115.length co18), (by first | rfl | (simp; done) | (simp [*]; done)), H', ⟨by have := HK1.out; omega⟩, ⟨by (with_reducible repeat (first | apply Kd.S_alloc | apply Kd.S_drewN | apply Kd.S_drew)); exact Kd.S_mono (Kd.S_far (p := ⟨gb106, 0, none⟩) (Kd.S_types HO117.out BK106.out (by decide)) (fun _ hk => hk.2) (.slice Ao18 y115.length co18)) (fun _ hk => trivial)⟩, ⟨by (with_reducible repeat (first | refine blk_drewN ?_ _ | refine blk_drew ?_ | refine blk_alloc ?_ _)); refine blk_far ?_ NB104_106.out _; (with_reducible repeat (first | refine blk_drewN ?_ _ | refine blk_drew ?_ | refine blk_alloc ?_ _)); exact BK104.out⟩, ⟨by (with_reducible repeat (first | refine blk_drewN ?_ _ | refine blk_drew ?_ | refine blk_alloc ?_ _)); refine blk_far ?_ NB105_106.out _; (with_reducible repeat (first | refine blk_drewN ?_ _ | refine blk_drew ?_ | refine blk_alloc ?_ _)); exact BK105.out⟩, ⟨by (with_reducible repeat (first | refine blk_drewN ?_ _ | refine blk_drew ?_ | refine blk_alloc ?_ _)); refine blk_put (cs := #[u107000, .slice none 0 0]) ?_ 0 _ rfl; (with_reducible repeat (first | refine blk_drewN ?_ _ | refine blk_drew ?_ | refine blk_alloc ?_ _)); exact BK106.out⟩, ⟨by repeat (first | (with_reducible first | exact HB.out | apply below_alloc | apply pw_below_drewN | apply below_drew1 | refine below_set ?_ GE104.out | refine below_set ?_ GE105.out | refine below_set ?_ GE106.out) | exact HB.out)⟩⟩
            · rw [if_neg c8] at H
              exact absurd H (by simp)
          · rw [if_neg c7] at H
            exact absurd H (by simp)
        · rw [if_neg c6] at H
          exact absurd H (by simp)
      · rw [if_neg c5] at H
        have c5b0 : decide (x4_1 < (l0_0.length : Int)) = false := decide_eq_false c5
        clear c5
        have H' := Aside0.mk H
        clear H
        have hnb20 := NB104_105.out
        have hnc20 := NB105_104.out
        have hnb21 := NB104_106.out
        have hnc21 := NB106_104.out
        have hcz22_0 : wr.cell? ⟨gb104, 0, none⟩ = some (.slice A0_0 l0_0.length c0_0) := (blk_cell BK104.out 0).trans rfl
        have hcz22_1 : wr.cell? ⟨gb104, 1, none⟩ = some (.slice A0_1 l0_1.length c0_1) := (blk_cell BK104.out 1).trans rfl
        have hfz22_0 := blk_frozen BK104.out 0
        have hfz22_1 := blk_frozen BK104.out 1
        go_wp2
        go_loopg [5] k1 (fun kq v5 w' => ∃ (x5_2 : Int) (x107001_2 : List (S65)) (u107001 : Value), v5 = .int .i64 x5_2 ∧ Aside0 (catamaranref05_Twin.l1 kq x5_2 l0_0 l0_1 x107000_1 x107001_2 = some (r1, r2)) ∧ Aside0 (kq ≤ k1) ∧ Aside0 (Kd.S k52 52 w' w.heap.size (fun _ => True) u107000 x107000_1) ∧ Aside0 (Kd.S k65 65 w' w.heap.size (fun _ => True) u107001 x107001_2) ∧ Aside0 (w'.heap[gb104]? = some (.cells #[(.slice A0_0 l0_0.length c0_0), (.slice A0_1 l0_1.length c0_1)] 25 (0, 0))) ∧ Aside0 (w'.heap[gb105]? = some (.cells #[(.slice none 0 0), (.slice none 0 0)] 25 (0, 0))) ∧ Aside0 (w'.heap[gb106]? = some (.cells #[u107000, u107001] 25 (0, 0))) ∧ Aside0 (Below w.heap.size w w'))
        case atStart => exact ⟨(0), (([] : List (S65))), (.slice none 0 0), (by first | rfl | (simp; done) | (simp [*]; done)), H', ⟨Nat.le_refl _⟩, ⟨by (with_reducible repeat (first | apply Kd.S_alloc | apply Kd.S_drewN | apply Kd.S_drew)); exact HO_107000.out⟩, ⟨by first | exact Kd.S_nil _ _ _ _ _ | exact Kd.N_nil _ _ _ _ _ | exact Kd.V_nil _ _ _ _ _ | exact Kd.Q_nil _ _ _ _ _ | exact Kd.R_nil _ _ _ _ _⟩, ⟨by (with_reducible repeat (first | refine blk_drewN ?_ _ | refine blk_drew ?_ | refine blk_alloc ?_ _)); exact BK104.out⟩, ⟨by (with_reducible repeat (first | refine blk_drewN ?_ _ | refine blk_drew ?_ | refine blk_alloc ?_ _)); exact BK105.out⟩, ⟨by (with_reducible repeat (first | refine blk_drewN ?_ _ | refine blk_drew ?_ | refine blk_alloc ?_ _)); exact BK106.out⟩, ⟨by repeat (first | (with_reducible first | exact HB.out | apply below_alloc | apply pw_below_drewN | apply below_drew1 | refine below_set ?_ GE104.out | refine below_set ?_ GE105.out | refine below_set ?_ GE106.out) | exact HB.out)⟩⟩
        case round =>
          clear H'
          try clear c1
          try clear p1
          try clear q1
          try clear hx1
          try clear c2
          try clear p2
          try clear c3
          try clear c5
          try clear c5b0
          try clear c6
          try clear c6b0
          try clear p6
          try clear c7
          try clear c8
          try clear c9
          try clear c10
          try clear c11
          try clear p11
          try clear q11
          try clear hx11
          try clear c20
          try clear c21
          try clear hcz11_0
          try clear hcz11_1
          try clear hcz22_0
          try clear hcz22_1
          try clear hfz11_0
          try clear hfz11_1
          try clear hfz22_0
          try clear hfz22_1
          try clear hx110_0
          try clear hx110_1
          try clear hx114_0
          try clear hx114_1
          try clear p110
          try clear p114
          try clear p2
          try clear q110
          try clear q114
          obtain ⟨x5_2, x107001_2, u107001, rfl, HA, HK2, HO_107000, HO_107001, BK104, BK105, BK106, HB⟩ := hrel
          cases gk with
          | zero => exact absurd HA.out (by simp [catamaranref05_Twin.l1])
          | succ k2 =>
            have H := HA.out
            clear HA
            simp only [catamaranref05_Twin.l1] at H
            by_cases c23 : x5_2 < (l0_1.length : Int)
            · rw [if_pos c23] at H
              have c23b0 : decide (x5_2 < (l0_1.length : Int)) = true := decide_eq_true c23
              clear c23
              by_cases c24 : 0 ≤ x5_2
              · rw [if_pos c24] at H
                have c24b0 : decide (0 ≤ x5_2) = true := decide_eq_true c24
                clear c24
                obtain ⟨y119, hy119⟩ : ∃ y_ : List Int, y_ = (([] : List Int)) := ⟨_, rfl⟩
                replace H : (if y119.length + ((rd_T65 l0_1 x5_2).f1).length < 140737488355328 then (if x107001_2.length < 4398046511104 then (catamaranref05_Twin.l1 k2 (wrap64 (x5_2 + 1)) l0_0 l0_1 x107000_1 (x107001_2 ++ [(⟨(rd_T65 l0_1 x5_2).f0, (y119 ++ ((rd_T65 l0_1 x5_2).f1))⟩ : S65)])) else (none)) else (none)) = some (r1, r2) := by first | (rw [hy119]; with_reducible exact H) | (have H2_ := (Option.bind_some _ _).symm.trans H; rw [hy119]; with_reducible exact H2_) | (have H2_ := (Option.bind_some _ _).symm.trans H; with_reducible exact H2_) | with_reducible exact H | (rw [hy119]; exact H) | exact H
                have Ny119 := Aside0.mk hy119
                clear hy119
                by_cases c25 : y119.length + ((rd_T65 l0_1 x5_2).f1).length < 140737488355328
                · rw [if_pos c25] at H
                  have LMc25 := Aside0.mk c25
                  clear c25
                  obtain ⟨y123, hy123⟩ : ∃ y_ : List Int, y_ = (y119 ++ ((rd_T65 l0_1 x5_2).f1)) := ⟨_, rfl⟩
                  replace H : (if x107001_2.length < 4398046511104 then (catamaranref05_Twin.l1 k2 (wrap64 (x5_2 + 1)) l0_0 l0_1 x107000_1 (x107001_2 ++ [(⟨(rd_T65 l0_1 x5_2).f0, y123⟩ : S65)])) else (none)) = some (r1, r2) := by first | (rw [hy123]; with_reducible exact H) | (have H2_ := (Option.bind_some _ _).symm.trans H; rw [hy123]; with_reducible exact H2_) | (have H2_ := (Option.bind_some _ _).symm.trans H; with_reducible exact H2_) | with_reducible exact H | (rw [hy123]; exact H) | exact H
                  have Ny123 := Aside0.mk hy123
                  clear hy123
                  by_cases c26 : x107001_2.length < 4398046511104
                  · rw [if_pos c26] at H
                    have LMc26 := Aside0.mk c26
                    clear c26
                    obtain ⟨y126, hy126⟩ : ∃ y_ : List (S65), y_ = (x107001_2 ++ [(⟨(rd_T65 l0_1 x5_2).f0, y123⟩ : S65)]) := ⟨_, rfl⟩
                    replace H : (catamaranref05_Twin.l1 k2 (wrap64 (x5_2 + 1)) l0_0 l0_1 x107000_1 y126) = some (r1, r2) := by first | (rw [hy126]; with_reducible exact H) | (have H2_ := (Option.bind_some _ _).symm.trans H; rw [hy126]; with_reducible exact H2_) | (have H2_ := (Option.bind_some _ _).symm.trans H; with_reducible exact H2_) | with_reducible exact H | (rw [hy126]; exact H) | exact H
                    have Ny126 := Aside0.mk hy126
                    clear hy126
                    have H' := Aside0.mk H
                    clear H
                    have hnb27 := NB104_105.out
                    have hnc27 := NB105_104.out
                    have hnb28 := NB104_106.out
                    have hnc28 := NB106_104.out
                    have hcz29_0 : wr.cell? ⟨gb104, 0, none⟩ = some (.slice A0_0 l0_0.length c0_0) := (blk_cell BK104.out 0).trans rfl
                    have hcz29_1 : wr.cell? ⟨gb104, 1, none⟩ = some (.slice A0_1 l0_1.length c0_1) := (blk_cell BK104.out 1).trans rfl
                    have hfz29_0 := blk_frozen BK104.out 0
                    have hfz29_1 := blk_frozen BK104.out 1
                    try go_wp2
                    have n0_ := Aside0.mk (Kd.S_drew HO_107000.out)
                    have n1_ := Aside0.mk (Kd.S_drew HO_107001.out)
                    have n2_ := Aside0.mk (blk_drew BK104.out)
                    have n3_ := Aside0.mk (blk_drew BK105.out)
                    have n4_ := Aside0.mk (blk_drew BK106.out)
                    have n5_ := Aside0.mk (below_drew1 HB.out)
                    clear HO_107000
                    clear HO_107001
                    clear BK104
                    clear BK105
                    clear BK106
                    clear HB
                    have HO_107000 := n0_
                    have HO_107001 := n1_
                    have BK104 := n2_
                    have BK105 := n3_
                    have BK106 := n4_
                    have HB := n5_
                    clear n0_ n1_ n2_ n3_ n4_ n5_
                    have p118 : 0 ≤ (x5_2 : Int) := of_decide_eq_true (by first | (with_reducible assumption) | assumption)
                    have q118 : x5_2 < (l0_1.length : Int) := of_decide_eq_true (by first | (with_reducible assumption) | assumption)
                    obtain ⟨ad118, A118_1, c118_1, e118, hx118_0, hx118_1, hl118_1, hi118_1⟩ := at_T65 HR0_1.out x5_2 p118 q118
                    have hw118_1 := hx118_1
                    have hw118_0 := hx118_0
                    cases e118
                    replace hx118_0 := (HB.out.cell (World.block_lt_of_cell? w _ hx118_0)).trans hx118_0
                    replace hx118_1 := (HB.out.cell (World.block_lt_of_cell? w _ hx118_1)).trans hx118_1
                    have HR118_1 := Aside0.mk hi118_1
                    have HC118_1 := Aside0.mk hl118_1
                    clear hi118_1 hl118_1
                    replace p118 := eq_true p118
                    replace q118 := eq_true q118
                    have p122 : 0 ≤ (x5_2 : Int) := of_decide_eq_true (by first | (with_reducible assumption) | assumption)
                    have q122 : x5_2 < (l0_1.length : Int) := of_decide_eq_true (by first | (with_reducible assumption) | assumption)
                    obtain ⟨ad122, A122_1, c122_1, e122, hx122_0, hx122_1, hl122_1, hi122_1⟩ := at_T65 HR0_1.out x5_2 p122 q122
                    have hw122_1 := hx122_1
                    have hw122_0 := hx122_0
                    obtain rfl : ad118 = ad122 := (by injection e122)
                    replace hx122_0 := (HB.out.cell (World.block_lt_of_cell? w _ hx122_0)).trans hx122_0
                    replace hx122_1 := (HB.out.cell (World.block_lt_of_cell? w _ hx122_1)).trans hx122_1
                    have HR122_1 := Aside0.mk hi122_1
                    have HC122_1 := Aside0.mk hl122_1
                    clear hi122_1 hl122_1
                    replace p122 := eq_true p122
                    replace q122 := eq_true q122
                    have ea_ := Option.some.inj (hx118_1.symm.trans hx122_1)
                    injection ea_ with ea_ en_ ec_
                    subst ea_
                    subst ec_
                    clear en_
                    refine start_ (n := 21) (S := fun w' => w'.cell? ⟨gb106, 0, none⟩ = some (u107000) ∧ w'.cell? ⟨gb106, 1, none⟩ = some (u107001) ∧ w'.cell? ⟨gb104, 0, none⟩ = some (.slice A0_0 l0_0.length c0_0) ∧ w'.cell? ⟨gb104, 1, none⟩ = some (.slice (some ad118) l0_1.length c0_1) ∧ w'.cell? (ad118.add ((x5_2).toNat * 2)) = some (.int .i64 ((rd_T65 l0_1 x5_2).f0)) ∧ w'.cell? ⟨(ad118.add ((x5_2).toNat * 2)).block, (ad118.add ((x5_2).toNat * 2)).off + 1, none⟩ = some (.slice A118_1 ((rd_T65 l0_1 x5_2).f1).length c118_1) ∧ w'.cell? (ad118.add ((x5_2).toNat * 2)) = some (.int .i64 ((rd_T65 l0_1 x5_2).f0)) ∧ w'.cell? ⟨(ad118.add ((x5_2).toNat * 2)).block, (ad118.add ((x5_2).toNat * 2)).off + 1, none⟩ = some (.slice A118_1 ((rd_T65 l0_1 x5_2).f1).length c118_1)) (ds := [20]) #[false, false, false, false, false, false, false, false, false, false, false, false, false, false, false, false, false, false, false, false, false] (by kernel_rfl) rfl rfl ⟨(blk_cell BK106.out 0).trans rfl, (blk_cell BK106.out 1).trans rfl, (blk_cell BK104.out 0).trans rfl, (blk_cell BK104.out 1).trans rfl, ((HB.out.cell (World.block_lt_of_cell? w _ hw118_0)).trans hw118_0), ((HB.out.cell (World.block_lt_of_cell? w _ hw118_1)).trans hw118_1), ((HB.out.cell (World.block_lt_of_cell? w _ hw122_0)).trans hw122_0), ((HB.out.cell (World.block_lt_of_cell? w _ hw122_1)).trans hw122_1)⟩ (fun hHeld => ?_); refine with_tabW catamaranref05_Twin.tab9 catamaranref05_Twin.bits9 (fun HT_ HW_ => ?_)
                    generalize wr.drew = w30 at HO_107000 HO_107001 BK104 BK105 BK106 HB HR118_1 HR122_1 hx118_0 hx118_1 hx122_0 hx122_1 hHeld ⊢
                    refine pure_ (i := 0) (N := some 40) (v := ?_) (a' := ?_) #[true, false, false, false, false, false, false, false, false, false, false, false, false, false, false, false, false, false, false, false, false] rfl rfl (any_of HT_.out (by kernel_rfl)) (fun _ _ _ h => h) (Or.inl ⟨by rfl, ?_⟩) ?_ ?_
                    rotate_left
                    · intro w'
                      go_simp
                      with_reducible rfl
                    rotate_left
                    · simp only [Act.put, List.setIfInBounds_toArray, List.set_cons_zero, List.set_cons_succ, i64_w, i32_w]
                      rfl
                    refine pure_ (i := 2) (N := some 42) (v := ?_) (a' := ?_) #[true, false, true, false, false, false, false, false, false, false, false, false, false, false, false, false, false, false, false, false, false] rfl rfl (any_of HT_.out (by kernel_rfl)) (fun _ _ _ h => h) (Or.inl ⟨by rfl, ?_⟩) ?_ ?_
                    rotate_left
                    · intro w'
                      go_simp
                      with_reducible rfl
                    rotate_left
                    · simp only [Act.put, List.setIfInBounds_toArray, List.set_cons_zero, List.set_cons_succ, i64_w, i32_w]
                      rfl
                    refine pure_ (i := 4) (N := some 44) (v := ?_) (a' := ?_) #[true, false, true, false, true, false, false, false, false, false, false, false, false, false, false, false, false, false, false, false, false] rfl rfl (any_of HT_.out (by kernel_rfl)) (fun _ _ _ h => h) (Or.inl ⟨by rfl, ?_⟩) ?_ ?_
                    rotate_left
                    · intro w'
                      go_simp
                      with_reducible rfl
                    rotate_left
                    · simp only [Act.put, List.setIfInBounds_toArray, List.set_cons_zero, List.set_cons_succ, i64_w, i32_w]
                      rfl
                    refine pure_ (i := 9) (N := some 49) (v := ?_) (a' := ?_) #[true, false, true, false, true, false, false, false, false, true, false, false, false, false, false, false, false, false, false, false, false] rfl rfl (any_of HT_.out (by kernel_rfl)) (fun _ _ _ h => h) (Or.inl ⟨by rfl, ?_⟩) ?_ ?_
                    rotate_left
                    · intro w'
                      go_simp
                      with_reducible rfl
                    rotate_left
                    · simp only [Act.put, List.setIfInBounds_toArray, List.set_cons_zero, List.set_cons_succ, i64_w, i32_w]
                      rfl
                    refine pure_ (i := 11) (N := some 51) (v := ?_) (a' := ?_) #[true, false, true, false, true, false, false, false, false, true, false, true, false, false, false, false, false, false, false, false, false] rfl rfl (any_of HT_.out (by kernel_rfl)) (fun _ _ _ h => h) (Or.inl ⟨by rfl, ?_⟩) ?_ ?_
                    rotate_left
                    · intro w'
                      go_simp
                      with_reducible rfl
                    rotate_left
                    · simp only [Act.put, List.setIfInBounds_toArray, List.set_cons_zero, List.set_cons_succ, i64_w, i32_w]
                      rfl
                    refine take_ (i := 1) (N := some 41) (v := ?_) (a' := ?_) #[true, true, true, false, true, false, false, false, false, true, false, true, false, false, false, false, false, false, false, false, false] rfl rfl (take_ofW HT_.out HW_.out (by kernel_rfl)) (fun _ _ _ h => h) (Or.inl ⟨by rfl, ?_⟩) hHeld ?_ ?_
                    rotate_left
                    · rintro w' ⟨s0, s1, s2, s3, s4, s5, s6, s7⟩
                      go_simp
                      with_reducible rfl
                    rotate_left
                    · simp only [Act.put, List.setIfInBounds_toArray, List.set_cons_zero, List.set_cons_succ, i64_w, i32_w]
                      rfl
                    refine take_ (i := 3) (N := some 43) (v := ?_) (a' := ?_) #[true, true, true, true, true, false, false, false, false, true, false, true, false, false, false, false, false, false, false, false, false] rfl rfl (take_ofW HT_.out HW_.out (by kernel_rfl)) (fun _ _ _ h => h) (Or.inl ⟨by rfl, ?_⟩) hHeld ?_ ?_
                    rotate_left
                    · rintro w' ⟨s0, s1, s2, s3, s4, s5, s6, s7⟩
                      go_simp
                      with_reducible rfl
                    rotate_left
                    · simp only [Act.put, List.setIfInBounds_toArray, List.set_cons_zero, List.set_cons_succ, i64_w, i32_w]
                      rfl
                    refine pure_ (i := 5) (N := some 45) (v := ?_) (a' := ?_) #[true, true, true, true, true, true, false, false, false, true, false, true, false, false, false, false, false, false, false, false, false] rfl rfl (any_of HT_.out (by kernel_rfl)) (fun _ _ _ h => h) (Or.inl ⟨by rfl, ?_⟩) ?_ ?_
                    rotate_left
                    · intro w'
                      go_simp
                      with_reducible rfl
                    rotate_left
                    · simp only [Act.put, List.setIfInBounds_toArray, List.set_cons_zero, List.set_cons_succ, i64_w, i32_w]
                      rfl
                    refine pure_ (i := 6) (N := some 46) (v := ?_) (a' := ?_) #[true, true, true, true, true, true, true, false, false, true, false, true, false, false, false, false, false, false, false, false, false] rfl rfl (any_of HT_.out (by kernel_rfl)) (fun _ _ _ h => h) (Or.inl ⟨by rfl, ?_⟩) ?_ ?_
                    rotate_left
                    · intro w'
                      go_simp
                      with_reducible rfl
                    rotate_left
                    · simp only [Act.put, List.setIfInBounds_toArray, List.set_cons_zero, List.set_cons_succ, i64_w, i32_w]
                      rfl
                    refine take_ (i := 7) (N := some 47) (v := ?_) (a' := ?_) #[true, true, true, true, true, true, true, true, false, true, false, true, false, false, false, false, false, false, false, false, false] rfl rfl (take_ofW HT_.out HW_.out (by kernel_rfl)) (fun _ _ _ h => h) (Or.inl ⟨by rfl, ?_⟩) hHeld ?_ ?_
                    rotate_left
                    · rintro w' ⟨s0, s1, s2, s3, s4, s5, s6, s7⟩
                      go_simp
                      with_reducible rfl
                    rotate_left
                    · simp only [Act.put, List.setIfInBounds_toArray, List.set_cons_zero, List.set_cons_succ, i64_w, i32_w]
                      rfl
                    refine take_ (i := 10) (N := some 50) (v := ?_) (a' := ?_) #[true, true, true, true, true, true, true, true, false, true, true, true, false, false, false, false, false, false, false, false, false] rfl rfl (take_ofW HT_.out HW_.out (by kernel_rfl)) (fun _ _ _ h => h) (Or.inl ⟨by rfl, ?_⟩) hHeld ?_ ?_
                    rotate_left
                    · rintro w' ⟨s0, s1, s2, s3, s4, s5, s6, s7⟩
                      go_simp
                      with_reducible rfl
                    rotate_left
                    · simp only [Act.put, List.setIfInBounds_toArray, List.set_cons_zero, List.set_cons_succ, i64_w, i32_w]
                      rfl
                    refine pure_ (i := 12) (N := some 52) (v := ?_) (a' := ?_) #[true, true, true, true, true, true, true, true, false, true, true, true, true, false, false, false, false, false, false, false, false] rfl rfl (any_of HT_.out (by kernel_rfl)) (fun _ _ _ h => h) (Or.inl ⟨by rfl, ?_⟩) ?_ ?_
                    rotate_left
                    · intro w'
                      go_simp
                      with_reducible rfl
                    rotate_left
                    · simp only [Act.put, List.setIfInBounds_toArray, List.set_cons_zero, List.set_cons_succ, i64_w, i32_w]
                      rfl
                    refine pure_ (i := 13) (N := some 53) (v := ?_) (a' := ?_) #[true, true, true, true, true, true, true, true, false, true, true, true, true, true, false, false, false, false, false, false, false] rfl rfl (any_of HT_.out (by kernel_rfl)) (fun _ _ _ h => h) (Or.inl ⟨by rfl, ?_⟩) ?_ ?_
                    rotate_left
                    · intro w'
                      go_simp
                      with_reducible rfl
                    rotate_left
                    · simp only [Act.put, List.setIfInBounds_toArray, List.set_cons_zero, List.set_cons_succ, i64_w, i32_w]
                      rfl
                    refine take_ (i := 14) (N := some 54) (v := ?_) (a' := ?_) #[true, true, true, true, true, true, true, true, false, true, true, true, true, true, true, false, false, false, false, false, false] rfl rfl (take_ofW HT_.out HW_.out (by kernel_rfl)) (fun _ _ _ h => h) (Or.inl ⟨by rfl, ?_⟩) hHeld ?_ ?_
                    rotate_left
                    · rintro w' ⟨s0, s1, s2, s3, s4, s5, s6, s7⟩
                      go_simp
                      with_reducible rfl
                    rotate_left
                    · simp only [Act.put, List.setIfInBounds_toArray, List.set_cons_zero, List.set_cons_succ, i64_w, i32_w]
                      rfl
                    refine one_ (i := 8) (N := some 48) #[true, true, true, true, true, true, true, true, true, true, true, true, true, true, true, false, false, false, false, false, false] rfl rfl (one_of HT_.out (by kernel_rfl)) (by decide) (fun K hK => ?_)
                    refine Kd.R_lit_step (Kd.int .u8) _ 5 ?hg (N := 48) ?hd (xs := ([] : List Int)) (inner := []) (ok := fun _ => True) (okp := fun _ => True) ?hr ?hp (fun _ hk => hk) trivial (Below.refl _ _) (Nat.le_refl _) (by simp) ?_; (case hd => rfl); (case hg => rfl); (case hr => first | (go_simp; done) | (go_simp; rfl)); (case hp => exact (Reps.none _ _))
                    intro v120 w31 ho32 hb hg_ hnew_
                    clear hg_ hnew_
                    (first | rw [← Ny119.out] at ho32 | (simp only [Int.reduceToNat] at ho32; rw [← Ny119.out] at ho32))
                    have n0_ := Aside0.mk (Kd.S_elder' (by (with_reducible repeat (first | apply Kd.S_alloc | apply Kd.S_drewN | apply Kd.S_drew)); exact HO_107000.out) (Kd.R_base ho32) hb)
                    have n1_ := Aside0.mk (Kd.S_elder' (by (with_reducible repeat (first | apply Kd.S_alloc | apply Kd.S_drewN | apply Kd.S_drew)); exact HO_107001.out) (Kd.R_base ho32) hb)
                    have n2_ := Aside0.mk (Kd.R_lower ho32 (below_size (by repeat (first | (with_reducible first | exact HB.out | apply below_alloc | apply pw_below_drewN | apply below_drew1 | refine below_set ?_ GE104.out | refine below_set ?_ GE105.out | refine below_set ?_ GE106.out) | exact HB.out))))
                    have n3_ := Aside0.mk (blk_below (g := gb104) (o := .cells #[.slice A0_0 l0_0.length c0_0, .slice (some ad118) l0_1.length c0_1] 25 (0, 0)) (by (with_reducible repeat (first | refine blk_drewN ?_ _ | refine blk_drew ?_ | refine blk_alloc ?_ _)); exact BK104.out) hb)
                    have n4_ := Aside0.mk (blk_below (g := gb105) (o := .cells #[.slice none 0 0, .slice none 0 0] 25 (0, 0)) (by (with_reducible repeat (first | refine blk_drewN ?_ _ | refine blk_drew ?_ | refine blk_alloc ?_ _)); exact BK105.out) hb)
                    have n5_ := Aside0.mk (blk_below (g := gb106) (o := .cells #[u107000, u107001] 25 (0, 0)) (by (with_reducible repeat (first | refine blk_drewN ?_ _ | refine blk_drew ?_ | refine blk_alloc ?_ _)); exact BK106.out) hb)
                    have n6_ := Aside0.mk (below_step (by repeat (first | (with_reducible first | exact HB.out | apply below_alloc | apply pw_below_drewN | apply below_drew1 | refine below_set ?_ GE104.out | refine below_set ?_ GE105.out | refine below_set ?_ GE106.out) | exact HB.out)) hb)
                    clear HO_107000
                    clear HO_107001
                    clear BK104
                    clear BK105
                    clear BK106
                    clear HB
                    have HO_107000 := n0_
                    have HO_107001 := n1_
                    have HO121 := n2_
                    have BK104 := n3_
                    have BK105 := n4_
                    have BK106 := n5_
                    have HB := n6_
                    clear n0_ n1_ n2_ n3_ n4_ n5_ n6_
                    clear hb ho32
                    refine hK.out _ _ ⟨(blk_cell BK106.out 0).trans rfl, (blk_cell BK106.out 1).trans rfl, (blk_cell BK104.out 0).trans rfl, (blk_cell BK104.out 1).trans rfl, ((HB.out.cell (World.block_lt_of_cell? w _ hw118_0)).trans hw118_0), ((HB.out.cell (World.block_lt_of_cell? w _ hw118_1)).trans hw118_1), ((HB.out.cell (World.block_lt_of_cell? w _ hw122_0)).trans hw122_0), ((HB.out.cell (World.block_lt_of_cell? w _ hw122_1)).trans hw122_1)⟩ (fun hHeld => ?_)
                    clear hK K
                    refine norm_ (a' := ?_) ?_ ?_
                    rotate_left
                    · show Act.put _ (some 48) _ = _
                      simp only [Act.put, List.setIfInBounds_toArray, List.set_cons_zero, List.set_cons_succ, i64_w, i32_w]
                      rfl
                    refine one_ (i := 15) (N := some 55) #[true, true, true, true, true, true, true, true, true, true, true, true, true, true, true, true, false, false, false, false, false] rfl rfl (one_of HT_.out (by kernel_rfl)) (by decide) (fun K hK => ?_)
                    refine Kd.R_append_rows_step (Kd.int .u8) (w0 := w) w.heap.size (by rfl) (.tmp 48) (.tmp 54) 26 5 (.int .u8 0) 1 rfl Try.underlying26 info5 rfl (by decide) (by omega) v120 y119 ((rd_T65 l0_1 x5_2).f1) _ _ _ (fun _ => True) (fun _ => False) rfl rfl ?aO ?aR (fun _ _ h => h) (fun _ h => h.elim) ?aF ?aB ?aS ?aL ?_
                    (case aR => repeat (first | exact (Kd.C_below HR122_1.out HB.out) | (with_reducible refine Kd.C_alloc ?_ _) | (with_reducible refine Kd.C_drewN ?_ _) | (with_reducible refine Kd.C_drew ?_)))
                    (case aB => exact (by repeat (first | (with_reducible first | exact HB.out | apply below_alloc | apply pw_below_drewN | apply below_drew1 | refine below_set ?_ GE104.out | refine below_set ?_ GE105.out | refine below_set ?_ GE106.out) | exact HB.out)))
                    (case aF => exact (fun _ _ => trivial))
                    (case aO => exact (by (with_reducible repeat (first | apply Kd.R_alloc | apply Kd.R_drewN | apply Kd.R_drew)); exact HO121.out))
                    (case aS => exact (below_size (by repeat (first | (with_reducible first | exact HB.out | apply below_alloc | apply pw_below_drewN | apply below_drew1 | refine below_set ?_ GE104.out | refine below_set ?_ GE105.out | refine below_set ?_ GE106.out) | exact HB.out))))
                    (case aL => have := LMc25.out; omega)
                    intro v124 w33 ho hb hg hat
                    rw [← Ny123.out] at ho
                    have n0_ := Aside0.mk (Kd.S_after (ok := (fun _ => True)) (by (with_reducible repeat (first | apply Kd.S_alloc | apply Kd.S_drewN | apply Kd.S_drew)); exact HO_107000.out) hg hat)
                    have n1_ := Aside0.mk (Kd.S_after (ok := (fun _ => True)) (by (with_reducible repeat (first | apply Kd.S_alloc | apply Kd.S_drewN | apply Kd.S_drew)); exact HO_107001.out) hg hat)
                    have n2_ := Aside0.mk (blk_grown (g := gb104) (o := .cells #[.slice A0_0 l0_0.length c0_0, .slice (some ad118) l0_1.length c0_1] 25 (0, 0)) (by (with_reducible repeat (first | refine blk_drewN ?_ _ | refine blk_drew ?_ | refine blk_alloc ?_ _)); exact BK104.out) hg (Kd.R_ne HO121.out BK104.out (by decide)))
                    have n3_ := Aside0.mk (blk_grown (g := gb105) (o := .cells #[.slice none 0 0, .slice none 0 0] 25 (0, 0)) (by (with_reducible repeat (first | refine blk_drewN ?_ _ | refine blk_drew ?_ | refine blk_alloc ?_ _)); exact BK105.out) hg (Kd.R_ne HO121.out BK105.out (by decide)))
                    have n4_ := Aside0.mk (blk_grown (g := gb106) (o := .cells #[u107000, u107001] 25 (0, 0)) (by (with_reducible repeat (first | refine blk_drewN ?_ _ | refine blk_drew ?_ | refine blk_alloc ?_ _)); exact BK106.out) hg (Kd.R_ne HO121.out BK106.out (by decide)))
                    have n5_ := Aside0.mk (hb)
                    have n6_ := Aside0.mk (ho)
                    clear HO_107000
                    clear HO_107001
                    clear BK104
                    clear BK105
                    clear BK106
                    clear HB
                    clear HO121
                    have HO_107000 := n0_
                    have HO_107001 := n1_
                    have BK104 := n2_
                    have BK105 := n3_
                    have BK106 := n4_
                    have HB := n5_
                    have HO125 := n6_
                    clear n0_ n1_ n2_ n3_ n4_ n5_ n6_
                    clear ho hb hg hat
                    obtain ⟨Ao34, co34, eo34⟩ := Kd.R_slice HO125.out
                    (first | subst eo34 | (injection eo34 with f1_ f2_ f3_; have f4_ := f1_.symm; have f5_ := f3_.symm; clear f1_ f2_ f3_; subst f4_; subst f5_))
                    refine hK.out _ _ ⟨(blk_cell BK106.out 0).trans rfl, (blk_cell BK106.out 1).trans rfl, (blk_cell BK104.out 0).trans rfl, (blk_cell BK104.out 1).trans rfl, ((HB.out.cell (World.block_lt_of_cell? w _ hw118_0)).trans hw118_0), ((HB.out.cell (World.block_lt_of_cell? w _ hw118_1)).trans hw118_1), ((HB.out.cell (World.block_lt_of_cell? w _ hw122_0)).trans hw122_0), ((HB.out.cell (World.block_lt_of_cell? w _ hw122_1)).trans hw122_1)⟩ (fun hHeld => ?_)
                    clear hK K
                    refine norm_ (a' := ?_) ?_ ?_
                    rotate_left
                    · show Act.put _ (some 55) _ = _
                      simp only [Act.put, List.setIfInBounds_toArray, List.set_cons_zero, List.set_cons_succ, i64_w, i32_w]
                      rfl
                    refine pure_ (i := 16) (N := some 56) (v := ?_) (a' := ?_) #[true, true, true, true, true, true, true, true, true, true, true, true, true, true, true, true, true, false, false, false, false] rfl rfl (any_of HT_.out (by kernel_rfl)) (fun _ _ _ h => h) (Or.inl ⟨by rfl, ?_⟩) ?_ ?_
                    rotate_left
                    · intro w'
                      go_simp
                      with_reducible rfl
                    rotate_left
                    · simp only [Act.put, List.setIfInBounds_toArray, List.set_cons_zero, List.set_cons_succ, i64_w, i32_w]
                      rfl
                    refine one_ (i := 17) (N := some 57) #[true, true, true, true, true, true, true, true, true, true, true, true, true, true, true, true, true, true, false, false, false] rfl rfl (one_of HT_.out (by kernel_rfl)) (by decide) (fun K hK => ?_)
                    refine value_ (w1 := ?_) (v := ?_) (by rfl) rfl ?_ ?_
                    rotate_left 2
                    · go_simp
                      constructor
                      · rfl
                      · rfl
                    refine hK.out _ _ ⟨(blk_cell (blk_alloc BK106.out _) 0).trans rfl, (blk_cell (blk_alloc BK106.out _) 1).trans rfl, (blk_cell (blk_alloc BK104.out _) 0).trans rfl, (blk_cell (blk_alloc BK104.out _) 1).trans rfl, (World.cell?_alloc_lt _ _ _ (World.block_lt_of_cell? _ _ (((HB.out.cell (World.block_lt_of_cell? w _ hw118_0)).trans hw118_0)))).trans (((HB.out.cell (World.block_lt_of_cell? w _ hw118_0)).trans hw118_0)), (World.cell?_alloc_lt _ _ _ (World.block_lt_of_cell? _ _ (((HB.out.cell (World.block_lt_of_cell? w _ hw118_1)).trans hw118_1)))).trans (((HB.out.cell (World.block_lt_of_cell? w _ hw118_1)).trans hw118_1)), (World.cell?_alloc_lt _ _ _ (World.block_lt_of_cell? _ _ (((HB.out.cell (World.block_lt_of_cell? w _ hw122_0)).trans hw122_0)))).trans (((HB.out.cell (World.block_lt_of_cell? w _ hw122_0)).trans hw122_0)), (World.cell?_alloc_lt _ _ _ (World.block_lt_of_cell? _ _ (((HB.out.cell (World.block_lt_of_cell? w _ hw122_1)).trans hw122_1)))).trans (((HB.out.cell (World.block_lt_of_cell? w _ hw122_1)).trans hw122_1))⟩ (fun hHeld => ?_)
                    clear hK K
                    refine norm_ (a' := ?_) ?_ ?_
                    rotate_left
                    · show Act.put _ (some 57) _ = _
                      simp only [Act.put, List.setIfInBounds_toArray, List.set_cons_zero, List.set_cons_succ, i64_w, i32_w]
                      rfl
                    refine one_ (i := 18) (N := some 58) #[true, true, true, true, true, true, true, true, true, true, true, true, true, true, true, true, true, true, true, false, false] rfl rfl (one_of HT_.out (by kernel_rfl)) (by decide) (fun K hK => ?_)
                    refine Kd.S_append_step k65 (w0 := w) w.heap.size (by rfl) (.tmp 41) (.tmp 57) 23 65 (.agg #[(.int .i64 0), (.slice none 0 0)]) 32 rfl Try.underlying23 info65 rfl (by decide) (by omega) u107001 x107001_2 (⟨(rd_T65 l0_1 x5_2).f0, y123⟩ : S65) [.int .i64 ((rd_T65 l0_1 x5_2).f0), .slice Ao34 y123.length co34] (fun _ => True) (fun k_ => some k_ = (.slice Ao34 y123.length co34 : Value).ownBlock) rfl rfl ?aP (fun k_ hk_ => ((Kd.R_mono (ok' := fun k_ => ((fun _ => True)) k_ ∧ some k_ ≠ (u107001 : Value).ownBlock) (Kd.R_apart' (HO125.out) (Kd.S_typed HO_107001.out) (by decide)) (fun k_ hk => ⟨trivial, hk.2⟩))).1 k_ hk_.symm) ?aF ?aO ?aB ?aS ?aL ?_
                    (case aP => exact k65_mkM _ _ _ (⟨(rd_T65 l0_1 x5_2).f0, y123⟩ : S65) (Kd.R_mono (Kd.R_tight rfl (Kd.R_mono (ok' := fun k_ => ((fun _ => True)) k_ ∧ some k_ ≠ (u107001 : Value).ownBlock) (Kd.R_apart' (HO125.out) (Kd.S_typed HO_107001.out) (by decide)) (fun k_ hk => ⟨trivial, hk.2⟩))) (fun _ h_ => h_)))
                    (case aB => exact (by repeat (first | (with_reducible first | exact HB.out | apply below_alloc | apply pw_below_drewN | apply below_drew1 | refine below_set ?_ GE104.out | refine below_set ?_ GE105.out | refine below_set ?_ GE106.out) | exact HB.out)))
                    (case aF => exact (fun _ _ => trivial))
                    (case aO => exact (by (with_reducible repeat (first | apply Kd.S_alloc | apply Kd.S_drewN | apply Kd.S_drew)); exact Kd.S_mono HO_107001.out (fun k_ hk => ⟨trivial, fun e_ => hk.2 e_⟩)))
                    (case aS => exact (below_size (by repeat (first | (with_reducible first | exact HB.out | apply below_alloc | apply pw_below_drewN | apply below_drew1 | refine below_set ?_ GE104.out | refine below_set ?_ GE105.out | refine below_set ?_ GE106.out) | exact HB.out))))
                    (case aL => have := LMc26.out; omega)
                    intro v127 w35 ho hb hg hat
                    rw [← Ny126.out] at ho
                    have n0_ := Aside0.mk (Kd.S_over' (by (with_reducible repeat (first | apply Kd.S_alloc | apply Kd.S_drewN | apply Kd.S_drew)); exact HO_107000.out) (Kd.S_typed (by (with_reducible repeat (first | apply Kd.S_alloc | apply Kd.S_drewN | apply Kd.S_drew)); exact HO_107001.out)) (by decide) hg)
                    have n1_ := Aside0.mk (blk_grown (g := gb104) (o := .cells #[.slice A0_0 l0_0.length c0_0, .slice (some ad118) l0_1.length c0_1] 25 (0, 0)) (by (with_reducible repeat (first | refine blk_drewN ?_ _ | refine blk_drew ?_ | refine blk_alloc ?_ _)); exact BK104.out) hg (Kd.S_ne HO_107001.out BK104.out (by decide)))
                    have n2_ := Aside0.mk (blk_grown (g := gb105) (o := .cells #[.slice none 0 0, .slice none 0 0] 25 (0, 0)) (by (with_reducible repeat (first | refine blk_drewN ?_ _ | refine blk_drew ?_ | refine blk_alloc ?_ _)); exact BK105.out) hg (Kd.S_ne HO_107001.out BK105.out (by decide)))
                    have n3_ := Aside0.mk (blk_grown (g := gb106) (o := .cells #[u107000, u107001] 25 (0, 0)) (by (with_reducible repeat (first | refine blk_drewN ?_ _ | refine blk_drew ?_ | refine blk_alloc ?_ _)); exact BK106.out) hg (Kd.S_ne HO_107001.out BK106.out (by decide)))
                    have n4_ := Aside0.mk (hb)
                    have n5_ := Aside0.mk (ho)
                    clear HO_107000
                    clear BK104
                    clear BK105
                    clear BK106
                    clear HB
                    clear HO_107001
                    clear HO125
                    have HO_107000 := n0_
                    have BK104 := n1_
                    have BK105 := n2_
                    have BK106 := n3_
                    have HB := n4_
                    have HO128 := n5_
                    clear n0_ n1_ n2_ n3_ n4_ n5_
                    clear ho hb hg hat
                    obtain ⟨Ao36, co36, eo36⟩ := Kd.S_slice HO128.out
                    (first | subst eo36 | (injection eo36 with f1_ f2_ f3_; have f4_ := f1_.symm; have f5_ := f3_.symm; clear f1_ f2_ f3_; subst f4_; subst f5_))
                    refine hK.out _ _ ⟨(blk_cell BK106.out 0).trans rfl, (blk_cell BK106.out 1).trans rfl, (blk_cell BK104.out 0).trans rfl, (blk_cell BK104.out 1).trans rfl, ((HB.out.cell (World.block_lt_of_cell? w _ hw118_0)).trans hw118_0), ((HB.out.cell (World.block_lt_of_cell? w _ hw118_1)).trans hw118_1), ((HB.out.cell (World.block_lt_of_cell? w _ hw122_0)).trans hw122_0), ((HB.out.cell (World.block_lt_of_cell? w _ hw122_1)).trans hw122_1)⟩ (fun hHeld => ?_)
                    clear hK K
                    refine norm_ (a' := ?_) ?_ ?_
                    rotate_left
                    · show Act.put _ (some 58) _ = _
                      simp only [Act.put, List.setIfInBounds_toArray, List.set_cons_zero, List.set_cons_succ, i64_w, i32_w]
                      rfl
                    refine pure_ (i := 19) (N := some 59) (v := ?_) (a' := ?_) #[true, true, true, true, true, true, true, true, true, true, true, true, true, true, true, true, true, true, true, true, false] rfl rfl (any_of HT_.out (by kernel_rfl)) (fun _ _ _ h => h) (Or.inl ⟨by rfl, ?_⟩) ?_ ?_
                    rotate_left
                    · intro w'
                      go_simp
                      with_reducible rfl
                    rotate_left
                    · simp only [Act.put, List.setIfInBounds_toArray, List.set_cons_zero, List.set_cons_succ, i64_w, i32_w]
                      rfl
                    refine last_ (i := 20) (N := none) #[true, true, true, true, true, true, true, true, true, true, true, true, true, true, true, true, true, true, true, true, true] rfl rfl (one_of HT_.out (by kernel_rfl)) (by decide) (fun K hK => ?_)
                    have hs37 : w35.cell? ⟨gb106, 1, none⟩ = some (u107001) := (blk_cell BK106.out 1).trans rfl
                    have hfs37 := blk_frozen BK106.out 1
                    have hns37_0 := NB104_106.out
                    have hns37_1 := NB105_106.out
                    have hms37_0 := NB106_104.out
                    have hms37_1 := NB106_105.out
                    refine skip_ (w1 := ?_) (by rfl) rfl ?_ ?_
                    rotate_left
                    · go_simp
                      rfl
                    refine hK.out _ _ ?_
                    clear hK K
                    refine done_ (done_of HT_.out (by kernel_rfl)) ?_
                    try go_wp2
                    go_roundg k2
                    case measure => have := HK1.out; have := HK2.out; omega
                    case rel => exact ⟨(wrap64 (x5_2 + 1)), (y126), (.slice Ao36 y126.length co36), (by first | rfl | (simp; done) | (simp [*]; done)), H', ⟨by have := HK1.out; have := HK2.out; omega⟩, ⟨by (with_reducible repeat (first | apply Kd.S_alloc | apply Kd.S_drewN | apply Kd.S_drew)); exact Kd.S_mono (Kd.S_far (p := ⟨gb106, 1, none⟩) (Kd.S_types HO_107000.out BK106.out (by decide)) (fun _ hk => hk.2) (.slice Ao36 y126.length co36)) (fun _ hk => trivial)⟩, ⟨by (with_reducible repeat (first | apply Kd.S_alloc | apply Kd.S_drewN | apply Kd.S_drew)); exact Kd.S_mono (Kd.S_far (p := ⟨gb106, 1, none⟩) (Kd.S_types HO128.out BK106.out (by decide)) (fun _ hk => hk.2) (.slice Ao36 y126.length co36)) (fun _ hk => trivial)⟩, ⟨by (with_reducible repeat (first | refine blk_drewN ?_ _ | refine blk_drew ?_ | refine blk_alloc ?_ _)); refine blk_far ?_ NB104_106.out _; (with_reducible repeat (first | refine blk_drewN ?_ _ | refine blk_drew ?_ | refine blk_alloc ?_ _)); exact BK104.out⟩, ⟨by (with_reducible repeat (first | refine blk_drewN ?_ _ | refine blk_drew ?_ | refine blk_alloc ?_ _)); refine blk_far ?_ NB105_106.out _; (with_reducible repeat (first | refine blk_drewN ?_ _ | refine blk_drew ?_ | refine blk_alloc ?_ _)); exact BK105.out⟩, ⟨by (with_reducible repeat (first | refine blk_drewN ?_ _ | refine blk_drew ?_ | refine blk_alloc ?_ _)); refine blk_put (cs := #[u107000, u107001]) ?_ 1 _ rfl; (with_reducible repeat (first | refine blk_drewN ?_ _ | refine blk_drew ?_ | refine blk_alloc ?_ _)); exact BK106.out⟩, ⟨by repeat (first | (with_reducible first | exact HB.out | apply below_alloc | apply pw_below_drewN | apply below_drew1 | refine below_set ?_ GE104.out | refine below_set ?_ GE105.out | refine below_set ?_ GE106.out) | exact HB.out)⟩⟩
                  · rw [if_neg c26] at H
                    exact absurd H (by simp)
                · rw [if_neg c25] at H
                  exact absurd H (by simp)
              · rw [if_neg c24] at H
                exact absurd H (by simp)
            · rw [if_neg c23] at H
              have c23b0 : decide (x5_2 < (l0_1.length : Int)) = false := decide_eq_false c23
              clear c23
              simp only [Option.some.injEq, Prod.mk.injEq] at H
              obtain ⟨rfl, rfl⟩ := H
              have hnb38 := NB104_105.out
              have hnc38 := NB105_104.out
              have hnb39 := NB104_106.out
              have hnc39 := NB106_104.out
              have hcz40_0 : wr.cell? ⟨gb104, 0, none⟩ = some (.slice A0_0 l0_0.length c0_0) := (blk_cell BK104.out 0).trans rfl
              have hcz40_1 : wr.cell? ⟨gb104, 1, none⟩ = some (.slice A0_1 l0_1.length c0_1) := (blk_cell BK104.out 1).trans rfl
              have hfz40_0 := blk_frozen BK104.out 0
              have hfz40_1 := blk_frozen BK104.out 1
              have hnb41 := NB106_105.out
              have hnc41 := NB105_106.out
              have hcz42_0 : wr.cell? ⟨gb106, 0, none⟩ = some (u107000) := (blk_cell BK106.out 0).trans rfl
              have hcz42_1 : wr.cell? ⟨gb106, 1, none⟩ = some (u107001) := (blk_cell BK106.out 1).trans rfl
              have hfz42_0 := blk_frozen BK106.out 0
              have hfz42_1 := blk_frozen BK106.out 1
              obtain ⟨Ao43, co43, eo43⟩ := Kd.S_slice HO_107000.out
              subst eo43
              have hcz44_0 : wr.cell? ⟨gb105, 0, none⟩ = some (.slice none 0 0) := (blk_cell BK105.out 0).trans rfl
              have hcz44_1 : wr.cell? ⟨gb105, 1, none⟩ = some (.slice none 0 0) := (blk_cell BK105.out 1).trans rfl
              have hfz44_0 := blk_frozen BK105.out 0
              have hfz44_1 := blk_frozen BK105.out 1
              obtain ⟨Ao45, co45, eo45⟩ := Kd.S_slice HO_107001.out
              subst eo45
              go_wp2
              refine bodyPost_ret (results_cell_row rfl _ _ gb105 25 #[.slice Ao43 x107000_1.length co43, .slice Ao45 x107001_2.length co45] (0, 0) _ rfl (by (with_reducible repeat (first | refine blk_drewN ?_ _ | refine blk_drew ?_ | refine blk_alloc ?_ _)); refine blk_put (cs := #[.slice Ao43 x107000_1.length co43, .slice none 0 0]) ?_ 1 _ rfl; (with_reducible repeat (first | refine blk_drewN ?_ _ | refine blk_drew ?_ | refine blk_alloc ?_ _)); refine blk_put (cs := #[.slice none 0 0, .slice none 0 0]) ?_ 0 _ rfl; (with_reducible repeat (first | refine blk_drewN ?_ _ | refine blk_drew ?_ | refine blk_alloc ?_ _)); exact BK105.out) Try.underlying25 rfl (by kernel_rfl)) rfl ?_
              exact ⟨_, _, by first | rfl | (simp [errW_none, errW_some] <;> rfl) | (simp [*, errW_none, errW_some] <;> rfl), by (with_reducible repeat (first | apply Kd.S_alloc | apply Kd.S_drewN | apply Kd.S_drew)); exact Kd.S_mono (Kd.S_far (p := ⟨gb105, 1, none⟩) (Kd.S_far (p := ⟨gb105, 0, none⟩) (Kd.S_types HO_107000.out BK105.out (by decide)) (fun _ hk => hk.2) (.slice Ao43 x107000_1.length co43)) (fun _ hk => hk.2) (.slice Ao45 x107001_2.length co45)) (fun _ hk => trivial), by (with_reducible repeat (first | apply Kd.S_alloc | apply Kd.S_drewN | apply Kd.S_drew)); exact Kd.S_mono (Kd.S_far (p := ⟨gb105, 1, none⟩) (Kd.S_far (p := ⟨gb105, 0, none⟩) (Kd.S_types HO_107001.out BK105.out (by decide)) (fun _ hk => hk.2) (.slice Ao43 x107000_1.length co43)) (fun _ hk => hk.2) (.slice Ao45 x107001_2.length co45)) (fun _ hk => trivial), by repeat (first | (with_reducible first | exact HB.out | apply below_alloc | apply pw_below_drewN | apply below_drew1 | refine below_set ?_ GE104.out | refine below_set ?_ GE105.out | refine below_set ?_ GE106.out) | exact HB.out)⟩
end Go.Proofs.Ytjlohdbkjoofcaa.P
end
section
set_option linter.unusedVariables false
set_option linter.unusedSimpArgs false
namespace Go.Proofs.Ytjlohdbkjoofcaa.P
open Go.RowKit Go.Proofs.PrintWords Go.Proofs.PrintLast Go.Proofs.PrintMore
attribute [local go_sem] max2_int min2_int max_two min_two max_three min_three max_four min_four
def catamaranref05_Waits.f (k : Nat) (l0_0 : List (S52)) (l0_1 : List (S65)) (a1 : Int) : Option (Bool × Int) := (catamaranref05_asked.f k l0_0 l0_1 a1).bind fun t216 => (if t216 = 0 then ((catamaranref05_Pending.f k l0_0 l0_1 a1).bind fun t217 => (some (t217, 0))) else (some (false, t216)))
theorem catamaranref05_Waits.mono : ∀ a0 a1 a2 k, LeO (catamaranref05_Waits.f k a0 a1 a2) (catamaranref05_Waits.f (k + 1) a0 a1 a2) := by
  intro a0 a1 a2 k
  unfold catamaranref05_Waits.f
  repeat' first
      | (with_reducible exact catamaranref05_Pending.mono _ _ _ _)
      | (with_reducible exact catamaranref05_asked.mono _ _ _ _)
      | (with_reducible exact LeO.refl _)
      | (with_reducible exact LeO.none _)
      | (with_reducible refine LeO.ite ?_ ?_)
      | (with_reducible refine LeO.bind ?_ (fun _ => ?_))
      | exact catamaranref05_Pending.mono _ _ _ _
      | exact catamaranref05_asked.mono _ _ _ _
      | exact LeO.none _
      | refine LeO.ite ?_ ?_
      | refine LeO.bind ?_ (fun _ => ?_)
end Go.Proofs.Ytjlohdbkjoofcaa.P
end
section
set_option linter.unusedVariables false
set_option linter.unusedSimpArgs false
namespace Go.Proofs.Ytjlohdbkjoofcaa.P
open Go.RowKit Go.Proofs.PrintWords Go.Proofs.PrintLast Go.Proofs.PrintMore
attribute [local go_sem] max2_int min2_int max_two min_two max_three min_three max_four min_four
def catamaranref05_With.f (k : Nat) (l0_0 : List (S52)) (l0_1 : List (S65)) (a1 : Int) (l2 : List Int) : Option ((List (S52)) × (List (S65))) := (catamaranref05_Twin.f k l0_0 l0_1).bind fun bt165 => ((some (([] : List Int) : List Int)).bind fun y172 => (if y172.length + l2.length < 140737488355328 then (if bt165.2.length < 4398046511104 then (some (bt165.1, (bt165.2 ++ [(⟨a1, (y172 ++ l2)⟩ : S65)]))) else (none)) else (none)))
theorem catamaranref05_With.mono : ∀ a0 a1 a2 a3 k, LeO (catamaranref05_With.f k a0 a1 a2 a3) (catamaranref05_With.f (k + 1) a0 a1 a2 a3) := by
  intro a0 a1 a2 a3 k
  unfold catamaranref05_With.f
  repeat' first
      | (with_reducible exact catamaranref05_Twin.mono _ _ _)
      | (with_reducible exact LeO.refl _)
      | (with_reducible exact LeO.none _)
      | (with_reducible refine LeO.ite ?_ ?_)
      | (with_reducible refine LeO.bind ?_ (fun _ => ?_))
      | exact catamaranref05_Twin.mono _ _ _
      | exact LeO.none _
      | refine LeO.ite ?_ ?_
      | refine LeO.bind ?_ (fun _ => ?_)
end Go.Proofs.Ytjlohdbkjoofcaa.P
end
section
set_option linter.unusedVariables false
set_option linter.unusedSimpArgs false
namespace Go.Proofs.Ytjlohdbkjoofcaa.P
open Go.RowKit Go.Proofs.PrintWords Go.Proofs.PrintLast Go.Proofs.PrintMore
attribute [local go_sem] max2_int min2_int max_two min_two max_three min_three max_four min_four
def catamaranref05_Write.f (k : Nat) (l0_0 : List (S52)) (l0_1 : List (S65)) (a1 : Int) (l2 : List Int) : Option ((List (S52)) × (List (S65)) × Int) := (catamaranref05_asked.f k l0_0 l0_1 a1).bind fun t183 => (if t183 = 0 then (if (l2.length : Int) = 32 then (if (l0_1.length : Int) ≥ 64 then (some (([] : List (S52)), ([] : List (S65)), 9)) else ((catamaranref05_With.f k l0_0 l0_1 a1 l2).bind fun bt184 => (some (bt184.1, bt184.2, 0)))) else (some (([] : List (S52)), ([] : List (S65)), 2))) else (some (([] : List (S52)), ([] : List (S65)), t183)))
theorem catamaranref05_Write.mono : ∀ a0 a1 a2 a3 k, LeO (catamaranref05_Write.f k a0 a1 a2 a3) (catamaranref05_Write.f (k + 1) a0 a1 a2 a3) := by
  intro a0 a1 a2 a3 k
  unfold catamaranref05_Write.f
  repeat' first
      | (with_reducible exact catamaranref05_With.mono _ _ _ _ _)
      | (with_reducible exact catamaranref05_asked.mono _ _ _ _)
      | (with_reducible exact LeO.refl _)
      | (with_reducible exact LeO.none _)
      | (with_reducible refine LeO.ite ?_ ?_)
      | (with_reducible refine LeO.bind ?_ (fun _ => ?_))
      | exact catamaranref05_With.mono _ _ _ _ _
      | exact catamaranref05_asked.mono _ _ _ _
      | exact LeO.none _
      | refine LeO.ite ?_ ?_
      | refine LeO.bind ?_ (fun _ => ?_)
end Go.Proofs.Ytjlohdbkjoofcaa.P
end
section
set_option linter.unusedVariables false
set_option linter.unusedSimpArgs false
namespace Go.Proofs.Ytjlohdbkjoofcaa.P
open Go.RowKit Go.Proofs.PrintWords Go.Proofs.PrintLast Go.Proofs.PrintMore
attribute [local go_sem] max2_int min2_int max_two min_two max_three min_three max_four min_four
theorem ByteVal.of_R' {w : World} {base : Nat} {ok : Nat → Prop} {A : Option Addr} {n c : Nat} {xs : List Int} (h : (Kd.int .u8).R 5 w base ok (.slice A n c) xs) : n = xs.length ∧ xs.length ≤ c ∧ ByteVal w base A xs := by
  obtain ⟨A1, c1, e, hc, hv⟩ := ByteVal.of_R h
  injection e with e1 e2 e3
  subst e1 e2 e3
  exact ⟨rfl, hc, hv⟩
def SecMid (w : World) (lo g c k : Nat) (l : List S52) : Prop :=
  l.length ≤ c ∧ c ≤ maxLen ∧ lo ≤ g ∧ ∃ (cs : Array Value) (t : Nat → Nat), w.heap[g]? = some (.cells cs 52 (0, 0)) ∧ cs.size = c * 2 ∧ ∀ i s, l[i]? = some s → ∃ A' c', cs[i * 2]? = some (.slice A' s.f0.length c') ∧ cs[i * 2 + 1]? = some (.bool s.f1) ∧ s.f0.length ≤ c' ∧ ByteVal w lo A' s.f0 ∧ (i < k → (Kd.int .u8).R 5 w lo (fun j => t j = i) (.slice A' s.f0.length c') s.f0)
section
variable {w w' : World} {lo g c k : Nat} {l : List S52}
theorem SecMid.of_S {base : Nat} {ok : Nat → Prop} {v : Value} {xs : List S52} (h : Kd.S k52 52 w base ok v xs) (hn : 0 < xs.length) : ∃ g c, v = .slice (some ⟨g, 0, none⟩) xs.length c ∧ SecMid w base g c 0 xs := by
  obtain ⟨_, inner, ho, hr⟩ := Kd.S_R h
  rcases ho.2 with ⟨e, hi⟩ | ⟨g, cap, cur, he, hb, hh, h1, h2, h3, h4⟩
  · omega
  · refine ⟨g, cap, he, h1, h2, hb, cur, id, hh, h3, fun i s hs => ?_⟩
    obtain ⟨hi, rfl⟩ := List.getElem?_eq_some_iff.1 hs
    obtain ⟨u, v, hM, c0, c1⟩ := rows_at (show Reps (k52.M w base _) 2 xs inner from hr) h4.symm hi
    obtain ⟨v0, e, hR⟩ := k52_openM hM
    injection e with e1 e
    injection e with e2 _
    subst e1 e2
    obtain ⟨A', c', rfl, hc', hb'⟩ := ByteVal.of_R hR
    exact ⟨A', c', c0, c1, hc', hb', fun hi => absurd hi (Nat.not_lt_zero _)⟩
theorem SecMid.at (h : SecMid w lo g c k l) : ∃ cs, w.heap[g]? = some (.cells cs 52 (0, 0)) := by
  obtain ⟨_, _, _, cs, _, hb, _⟩ := h
  exact ⟨cs, hb⟩
theorem SecMid.C (h : SecMid w lo g c k l) : k52.C w (some ⟨g, 0, none⟩) l.length l := by
  obtain ⟨h1, h2, h3, cs, t, hb, hz, hc⟩ := h
  refine ⟨rfl, Nat.le_trans h1 (Nat.le_trans h2 (by decide)), fun hn => ?_⟩
  refine ⟨_, rfl, fun j s hj => ?_⟩
  obtain ⟨A', c, c0, c1, hl, hv, _⟩ := hc j s hj
  refine ⟨[.slice A' s.f0.length c, .bool s.f1], rfl, k52_mk w s hl hv.C, fun i u hu => ?_⟩
  rw [add_plain, blk_cell hb]
  match i, hu with
  | 0, hu => rw [show j * k52.sz + 0 = j * 2 from rfl, c0]; simpa using hu
  | 1, hu => rw [show j * k52.sz + 1 = j * 2 + 1 from rfl, c1]; simpa using hu
  | i + 2, hu => simp at hu
theorem SecMid.below (h : SecMid w lo g c k l) (hb : Below w.heap.size w w') : SecMid w' lo g c k l := by
  obtain ⟨h1, h2, h3, cs, t, hh, hz, hc⟩ := h
  refine ⟨h1, h2, h3, cs, t, blk_below hh hb, hz, fun i s hs => ?_⟩
  obtain ⟨A', c', c0, c1, hl, hv, ht⟩ := hc i s hs
  exact ⟨A', c', c0, c1, hl, hv.below hb, fun hi => Kd.R_below (ht hi) hb⟩
theorem SecMid.far (h : SecMid w lo g c k l) {p : Addr} {t : Nat} {cs : Array Value} (hb : w.heap[p.block]? = some (.cells cs t (0, 0))) (h5 : t ≠ 5) (h52 : t ≠ 52) (u : Value) : SecMid (w.setCell p u) lo g c k l := by
  obtain ⟨h1, h2, h3, cs', t', hh, hz, hc⟩ := h
  refine ⟨h1, h2, h3, cs', t', blk_far hh (fun e => by subst e; rw [hb] at hh; injection hh with hh; injection hh with _ hh _; exact h52 hh) _, hz, fun i s hs => ?_⟩
  obtain ⟨A', c', c0, c1, hl, hv, ht⟩ := hc i s hs
  refine ⟨A', c', c0, c1, hl, hv.far hb h5 u, fun hi => ?_⟩
  exact Kd.R_mono (Kd.R_far (Kd.R_types (ht hi) hb (fun q hq => by
    have : q = 5 := by simpa [Kd.int, Kd.scalar] using hq
    omega)) (fun _ hk => hk.2) u) (fun _ hk => hk.1)
theorem SecMid.put {i : Nat} (h : SecMid w lo g c 0 l) (hi : i < l.length) {s : S52} {A' : Option Addr} {c' : Nat} (hc : s.f0.length ≤ c') (hv : ByteVal w lo A' s.f0) :
    SecMid ((w.setCell ⟨g, i * 2, none⟩ (.slice A' s.f0.length c')).setCell ⟨g, i * 2 + 1, none⟩ (.bool s.f1)) lo g c 0 (l.set i s) := by
  obtain ⟨h1, h2, h3, cs, t, b, hz, d⟩ := h
  refine ⟨by rw [List.length_set]; exact h1, h2, h3, ?_⟩
  have b1 := blk_set b (i * 2) (.slice A' s.f0.length c')
  have b2 := blk_set b1 (i * 2 + 1) (.bool s.f1)
  have keep : ∀ {A'' : Option Addr} {x : List Int}, ByteVal w lo A'' x → ByteVal ((w.setCell ⟨g, i * 2, none⟩ (.slice A' s.f0.length c')).setCell ⟨g, i * 2 + 1, none⟩ (.bool s.f1)) lo A'' x := fun hx => (hx.far (p := ⟨g, i * 2, none⟩) b (by decide) _).far (p := ⟨g, i * 2 + 1, none⟩) b1 (by decide) _
  refine ⟨_, t, b2, by simpa using hz, fun j x hx => ?_⟩
  obtain ⟨_, c1', d0, d1, _, _⟩ := d i _ (List.getElem?_eq_getElem hi)
  have z0 := (Array.getElem?_eq_some_iff.1 d0).1
  have z1 := (Array.getElem?_eq_some_iff.1 d1).1
  by_cases hij : j = i
  · subst hij
    rw [List.getElem?_set_self hi] at hx
    injection hx with hx
    subst hx
    refine ⟨A', c', ?_, ?_, hc, keep hv, fun hi => absurd hi (Nat.not_lt_zero _)⟩
    · rw [Array.getElem?_setIfInBounds, if_neg (by omega), Array.getElem?_setIfInBounds, if_pos rfl, if_pos z0]
    · rw [Array.getElem?_setIfInBounds, if_pos rfl, if_pos (by simpa using z1)]
  · rw [List.getElem?_set_ne (fun e => hij e.symm)] at hx
    obtain ⟨A'', c'', e0, e1, hl, hvv, _⟩ := d j x hx
    refine ⟨A'', c'', ?_, ?_, hl, keep hvv, fun hi => absurd hi (Nat.not_lt_zero _)⟩
    · rw [Array.getElem?_setIfInBounds, if_neg (by omega), Array.getElem?_setIfInBounds, if_neg (by omega), e0]
    · rw [Array.getElem?_setIfInBounds, if_neg (by omega), Array.getElem?_setIfInBounds, if_neg (by omega), e1]
theorem SecMid.step {W0 : World} {s : S52} {A' : Option Addr} {c' : Nat} {ok : Nat → Prop} (h : SecMid W0 lo g c k l) (hlo : lo ≤ W0.heap.size) (hb : Below W0.heap.size W0 w) (hs : l[k]? = some s) (hr : (Kd.int .u8).R 5 w W0.heap.size ok (.slice A' s.f0.length c') s.f0) :
    SecMid (w.setCell ⟨g, k * 2, none⟩ (.slice A' s.f0.length c')) lo g c (k + 1) l := by
  obtain ⟨h1, h2, h3, cs, t, b0, hz, d⟩ := h
  have b := blk_below b0 hb
  refine ⟨h1, h2, h3, _, (fun j => if j < W0.heap.size then t j else k), blk_set b _ _, by simpa using hz, fun i x hx => ?_⟩
  have h5 : ∀ q, q ∈ 5 :: (Kd.int .u8).E → q ≠ 52 := fun q hq => by
    have : q = 5 := by simpa [Kd.int, Kd.scalar] using hq
    omega
  obtain ⟨A0, c0', d0, d1, hl, hv, ht⟩ := d i x hx
  by_cases hik : i = k
  · subst hik
    rw [hs] at hx
    injection hx with hx
    subst hx
    obtain ⟨_, hl', hv'⟩ := ByteVal.of_R' hr
    have z0 := (Array.getElem?_eq_some_iff.1 d0).1
    refine ⟨A', c', ?_, ?_, hl', (hv'.lower hlo).far (p := ⟨g, i * 2, none⟩) b (by decide) _, fun _ => ?_⟩
    · rw [Array.getElem?_setIfInBounds, if_pos rfl, if_pos z0]
    · rw [Array.getElem?_setIfInBounds, if_neg (by omega), d1]
    · refine Kd.R_mono (Kd.R_set (Kd.R_lower (Kd.R_bound hr) hlo) b h5 _ _) (fun j hj => ?_)
      show (if j < W0.heap.size then t j else i) = i
      rw [if_neg (by have := hj.2.1; omega)]
  · refine ⟨A0, c0', ?_, ?_, hl, (hv.below hb).far (p := ⟨g, k * 2, none⟩) b (by decide) _, fun hlt => ?_⟩
    · rw [Array.getElem?_setIfInBounds, if_neg (by omega), d0]
    · rw [Array.getElem?_setIfInBounds, if_neg (by omega), d1]
    · have hlt : i < k := by omega
      refine Kd.R_mono (Kd.R_set (Kd.R_below (Kd.R_bound (ht hlt)) hb) b h5 _ _) (fun j hj => ?_)
      show (if j < W0.heap.size then t j else k) = i
      rw [if_pos hj.2.2.1]
      exact hj.1
theorem SecMid.S (h : SecMid w lo g c l.length l) : Kd.S k52 52 w lo (fun _ => True) (.slice (some ⟨g, 0, none⟩) l.length c) l := by
  obtain ⟨h1, h2, h3, cs, t, b, hz, d⟩ := h
  have hin : (cs.toList.take (l.length * 2)).length = l.length * 2 := by
    have e : cs.toList.length = cs.size := Array.length_toList
    rw [List.length_take, e]
    omega
  refine ⟨t, fun _ _ => trivial, cs.toList.take (l.length * 2), ?_, ?_⟩
  · rw [List.length_zipIdx]
    exact ⟨hin, .inr ⟨g, c, cs, rfl, h3, b, h1, h2, hz, rfl⟩⟩
  · refine ⟨by rw [List.length_zipIdx]; exact hin, fun j p hj => ?_⟩
    rw [List.getElem?_zipIdx, Nat.zero_add] at hj
    obtain ⟨s, hs, rfl⟩ : ∃ s, l[j]? = some s ∧ (s, j) = p := by
      cases hq : l[j]? with
      | none => rw [hq] at hj; simp at hj
      | some s => rw [hq] at hj; exact ⟨s, rfl, by simpa using hj⟩
    obtain ⟨hj1, _⟩ := List.getElem?_eq_some_iff.1 hs
    obtain ⟨A', c', d0, d1, hl, hv, ht⟩ := d j s hs
    have hcs : ((cs.toList.take (l.length * 2)).drop (j * 2)).take 2 = [.slice A' s.f0.length c', .bool s.f1] := by
      have e0 : (cs.toList.take (l.length * 2))[j * 2]? = some (.slice A' s.f0.length c') := by rw [List.getElem?_take, if_pos (by omega), Array.getElem?_toList, d0]
      have e1 : (cs.toList.take (l.length * 2))[j * 2 + 1]? = some (.bool s.f1) := by rw [List.getElem?_take, if_pos (by omega), Array.getElem?_toList, d1]
      obtain ⟨q0, e0⟩ := List.getElem?_eq_some_iff.1 e0
      obtain ⟨q1, e1⟩ := List.getElem?_eq_some_iff.1 e1
      rw [List.drop_eq_getElem_cons q0, List.drop_eq_getElem_cons q1, e0, e1]
      rfl
    show k52.M w lo (fun k_ => (True ∧ some k_ ≠ _) ∧ t k_ = j) s (((cs.toList.take (l.length * 2)).drop (j * 2)).take 2)
    rw [hcs]
    refine k52_mkM _ _ _ s (Kd.R_mono (Kd.R_types (ht hj1) b (t := 52) (fun q hq => ?_)) (fun j' hj' => ⟨⟨trivial, ?_⟩, hj'.1⟩))
    · have : q = 5 := by simpa [Kd.int, Kd.scalar] using hq
      omega
    · intro e
      have e : j' = g := by simpa [Value.ownBlock] using e
      exact hj'.2 e
end
theorem SecMid.lower {w : World} {lo lo' g c k : Nat} {l : List S52} (h : SecMid w lo g c k l) (hl : lo' ≤ lo) : SecMid w lo' g c k l := by
  obtain ⟨h1, h2, h3, cs, t, hh, hz, hc⟩ := h
  refine ⟨h1, h2, Nat.le_trans hl h3, cs, t, hh, hz, fun i s hs => ?_⟩
  obtain ⟨A', c', c0, c1, hle, hv, ht⟩ := hc i s hs
  exact ⟨A', c', c0, c1, hle, hv.lower hl, fun hi => Kd.R_lower (ht hi) hl⟩
theorem PendVal.lower {w : World} {lo lo' : Nat} {A : Option Addr} {l : List S65} (h : PendVal w lo A l) (hl : lo' ≤ lo) : PendVal w lo' A l := by
  refine ⟨h.1, fun hn => ?_⟩
  obtain ⟨g, cs, e, a, b, d⟩ := h.2 hn
  refine ⟨g, cs, e, Nat.le_trans hl a, b, fun i s hs => ?_⟩
  obtain ⟨A', c, c0, c1, hle, hv⟩ := d i s hs
  exact ⟨A', c, c0, c1, hle, hv.lower hl⟩
theorem SecMid.cells {w : World} {lo g c k : Nat} {l : List S52} (h : SecMid w lo g c k l) {i : Nat} (hi : i < l.length) : ∃ v0 v1 : Value, w.cell? ⟨g, i * 2, none⟩ = some v0 ∧ w.cell? ⟨g, i * 2 + 1, none⟩ = some v1 ∧ w.frozen? ⟨g, i * 2, none⟩ = false ∧ w.frozen? ⟨g, i * 2 + 1, none⟩ = false := by
  obtain ⟨h1, h2, h3, cs, t, hh, hz, hc⟩ := h
  obtain ⟨A', c', d0, d1, _⟩ := hc i _ (List.getElem?_eq_getElem hi)
  exact ⟨_, _, (blk_cell hh _).trans d0, (blk_cell hh _).trans d1, blk_frozen hh _, blk_frozen hh _⟩
structure CrashRel (w wr : World) (gs co1 g7 : Nat) (Ao2 : Option Addr) (co2 n0 : Nat) (l : List S52) (l1 : List S65) : Prop where
  sec : SecMid wr w.heap.size gs co1 0 l
  pend : PendVal wr w.heap.size Ao2 l1
  box : wr.heap[g7]? = some (.cells #[.slice (some ⟨gs, 0, none⟩) n0 co1, .slice Ao2 l1.length co2] 25 (0, 0))
  res : wr.heap[w.heap.size + 1]? = some (.cells #[.slice none 0 0, .slice none 0 0] 25 (0, 0))
  bel : Below w.heap.size w wr
section
variable {w wr : World} {gs co1 g7 : Nat} {Ao2 : Option Addr} {co2 n0 : Nat} {l : List S52} {l1 : List S65}
theorem CrashRel.below {W : World} (h : CrashRel w wr gs co1 g7 Ao2 co2 n0 l l1) (hb : Below wr.heap.size wr W) : CrashRel w W gs co1 g7 Ao2 co2 n0 l l1 :=
  ⟨h.sec.below hb, h.pend.below hb, blk_below h.box hb, blk_below h.res hb, below_step h.bel hb⟩
theorem CrashRel.put {i : Nat} (h : CrashRel w wr gs co1 g7 Ao2 co2 n0 l l1) (hi : i < l.length) {s : S52} {A' : Option Addr} {c' : Nat} (hc : s.f0.length ≤ c') (hv : ByteVal wr w.heap.size A' s.f0) :
    CrashRel w ((wr.setCell ⟨gs, i * 2, none⟩ (.slice A' s.f0.length c')).setCell ⟨gs, i * 2 + 1, none⟩ (.bool s.f1)) gs co1 g7 Ao2 co2 n0 (l.set i s) l1 := by
  obtain ⟨cs, hg⟩ := h.sec.at
  have hg1 := blk_set hg (i * 2) (.slice A' s.f0.length c')
  have hlo : w.heap.size ≤ gs := h.sec.2.2.1
  have n7 : g7 ≠ gs := blk_ne h.box hg (by decide)
  have nz : w.heap.size + 1 ≠ gs := blk_ne h.res hg (by decide)
  exact ⟨h.sec.put hi hc hv, (h.pend.far (p := ⟨gs, i * 2, none⟩) hg (by decide) (by decide) _).far (p := ⟨gs, i * 2 + 1, none⟩) hg1 (by decide) (by decide) _, blk_far (blk_far h.box n7 _) n7 _, blk_far (blk_far h.res nz _) nz _, below_set (below_set h.bel hlo) hlo⟩
end
structure CrashRel2 (w wr : World) (gs co1 g7 : Nat) (Ao2 : Option Addr) (co2 n0 n1 k : Nat) (l : List S52) : Prop where
  sec : SecMid wr w.heap.size gs co1 k l
  box : wr.heap[g7]? = some (.cells #[.slice (some ⟨gs, 0, none⟩) n0 co1, .slice Ao2 n1 co2] 25 (0, 0))
  res : wr.heap[w.heap.size + 1]? = some (.cells #[.slice none 0 0, .slice none 0 0] 25 (0, 0))
  bel : Below w.heap.size w wr
section
variable {w wr : World} {gs co1 g7 : Nat} {Ao2 : Option Addr} {co2 n0 n1 k : Nat} {l : List S52}
theorem CrashRel2.below {W : World} (h : CrashRel2 w wr gs co1 g7 Ao2 co2 n0 n1 k l) (hb : Below wr.heap.size wr W) : CrashRel2 w W gs co1 g7 Ao2 co2 n0 n1 k l :=
  ⟨h.sec.below hb, blk_below h.box hb, blk_below h.res hb, below_step h.bel hb⟩
theorem CrashRel2.step {w4 : World} (h : CrashRel2 w wr gs co1 g7 Ao2 co2 n0 n1 k l) (hb : Below wr.heap.size wr w4) {s : S52} {A' : Option Addr} {c' : Nat} {ok : Nat → Prop} (hs : l[k]? = some s) (hr : (Kd.int .u8).R 5 w4 wr.heap.size ok (.slice A' s.f0.length c') s.f0) :
    CrashRel2 w (w4.setCell ⟨gs, k * 2, none⟩ (.slice A' s.f0.length c')) gs co1 g7 Ao2 co2 n0 n1 (k + 1) l := by
  have h4 := h.below hb
  obtain ⟨cs, hg⟩ := h4.sec.at
  have n7 : g7 ≠ gs := blk_ne h4.box hg (by decide)
  have nz : w.heap.size + 1 ≠ gs := blk_ne h4.res hg (by decide)
  exact ⟨h.sec.step (below_size h.bel) hb hs hr, blk_far h4.box n7 _, blk_far h4.res nz _, below_set h4.bel h.sec.2.2.1⟩
end
theorem SecMid.text {w : World} {lo g c k : Nat} {l : List S52} (h : SecMid w lo g c k l) {i : Nat} (hi : i < l.length) : ∃ (A' : Option Addr) (c' : Nat), w.cell? ⟨g, i * 2, none⟩ = some (.slice A' (l[i]).f0.length c') ∧ (l[i]).f0.length ≤ c' ∧ ByteVal w lo A' (l[i]).f0 := by
  obtain ⟨h1, h2, h3, cs, t, hh, hz, hc⟩ := h
  obtain ⟨A', c', d0, d1, e, hv, _⟩ := hc i _ (List.getElem?_eq_getElem hi)
  exact ⟨_, _, (blk_cell hh _).trans d0, e, hv⟩
theorem SecMid.of_R {w : World} {base : Nat} {ok : Nat → Prop} {v : Value} {xs : List S52} (h : Kd.R k52 52 w base ok v xs) (hn : 0 < xs.length) : ∃ g c, v = .slice (some ⟨g, 0, none⟩) xs.length c ∧ SecMid w base g c 0 xs := by
  obtain ⟨_, inner, ho, hr⟩ := h
  rcases ho.2 with ⟨e, hi⟩ | ⟨g, cap, cur, he, hb, hh, h1, h2, h3, h4⟩
  · omega
  · refine ⟨g, cap, he, h1, h2, hb, cur, id, hh, h3, fun i s hs => ?_⟩
    obtain ⟨hi, rfl⟩ := List.getElem?_eq_some_iff.1 hs
    obtain ⟨u, v, hM, c0, c1⟩ := rows_at (show Reps (k52.M w base _) 2 xs inner from hr) h4.symm hi
    obtain ⟨v0, e, hR⟩ := k52_openM hM
    injection e with e1 e
    injection e with e2 _
    subst e1 e2
    obtain ⟨A', c', rfl, hc', hb'⟩ := ByteVal.of_R hR
    exact ⟨A', c', c0, c1, hc', hb', fun hi => absurd hi (Nat.not_lt_zero _)⟩
theorem SecMid.renew {w : World} {lo g c k : Nat} {l : List S52} {W0 : World} {s s0 : S52} {A' : Option Addr} {c' : Nat} {ok : Nat → Prop} (h : SecMid W0 lo g c k l) (hlo : lo ≤ W0.heap.size) (hb : Below W0.heap.size W0 w) (hs : l[k]? = some s0) (hm : s.f1 = s0.f1) (hr : (Kd.int .u8).R 5 w W0.heap.size ok (.slice A' s.f0.length c') s.f0) :
    SecMid (w.setCell ⟨g, k * 2, none⟩ (.slice A' s.f0.length c')) lo g c (k + 1) (l.set k s) := by
  obtain ⟨h1, h2, h3, cs, t, b0, hz, d⟩ := h
  have b := blk_below b0 hb
  refine ⟨by rw [List.length_set]; exact h1, h2, h3, _, (fun j => if j < W0.heap.size then t j else k), blk_set b _ _, by simpa using hz, fun i x hx => ?_⟩
  have h5 : ∀ q, q ∈ 5 :: (Kd.int .u8).E → q ≠ 52 := fun q hq => by
    have : q = 5 := by simpa [Kd.int, Kd.scalar] using hq
    omega
  have hkl := (List.getElem?_eq_some_iff.1 hs).1
  by_cases hik : i = k
  · subst hik
    rw [List.getElem?_set_self hkl] at hx
    injection hx with hx
    subst hx
    obtain ⟨A0, c0', d0, d1, hl, hv, ht⟩ := d i s0 hs
    obtain ⟨_, hl', hv'⟩ := ByteVal.of_R' hr
    have z0 := (Array.getElem?_eq_some_iff.1 d0).1
    refine ⟨A', c', ?_, ?_, hl', (hv'.lower hlo).far (p := ⟨g, i * 2, none⟩) b (by decide) _, fun _ => ?_⟩
    · rw [Array.getElem?_setIfInBounds, if_pos rfl, if_pos z0]
    · rw [Array.getElem?_setIfInBounds, if_neg (by omega), d1, hm]
    · refine Kd.R_mono (Kd.R_set (Kd.R_lower (Kd.R_bound hr) hlo) b h5 _ _) (fun j hj => ?_)
      show (if j < W0.heap.size then t j else i) = i
      rw [if_neg (by have := hj.2.1; omega)]
  · rw [List.getElem?_set_ne (fun e => hik e.symm)] at hx
    obtain ⟨A0, c0', d0, d1, hl, hv, ht⟩ := d i x hx
    refine ⟨A0, c0', ?_, ?_, hl, (hv.below hb).far (p := ⟨g, k * 2, none⟩) b (by decide) _, fun hlt => ?_⟩
    · rw [Array.getElem?_setIfInBounds, if_neg (by omega), d0]
    · rw [Array.getElem?_setIfInBounds, if_neg (by omega), d1]
    · have hlt : i < k := by omega
      refine Kd.R_mono (Kd.R_set (Kd.R_below (Kd.R_bound (ht hlt)) hb) b h5 _ _) (fun j hj => ?_)
      show (if j < W0.heap.size then t j else k) = i
      rw [if_pos hj.2.2.1]
      exact hj.1
end Go.Proofs.Ytjlohdbkjoofcaa.P
end
section
set_option linter.unusedVariables false
set_option linter.unusedSimpArgs false
namespace Go.Proofs.Ytjlohdbkjoofcaa.P
open Go.RowKit Go.Proofs.PrintWords Go.Proofs.PrintLast Go.Proofs.PrintMore
attribute [local go_sem] max2_int min2_int max_two min_two max_three min_three max_four min_four
def dNew (n : Int) : List S52 × List S65 × Int := if 1 ≤ n ∧ n ≤ 1024 then (List.replicate n.toNat ⟨zero32, false⟩, [], 0) else ([], [], 2)
def hNew.f (a0 : Int) : Option (List S52 × List S65 × Int) := some (dNew a0)
structure NewRel (w wr : World) (g c g4 n k : Nat) : Prop where
  sec : ∃ l : List S52, l.length = n ∧ (∀ i, i < k → l[i]? = some ⟨zero32, false⟩) ∧ (∀ i, k ≤ i → i < n → l[i]? = some ⟨[], false⟩) ∧ SecMid wr w.heap.size g c k l
  box : wr.heap[g4]? = some (.cells #[.slice (some ⟨g, 0, none⟩) n c, .slice none 0 0] 25 (0, 0))
  res : wr.heap[w.heap.size]? = some (.cells #[.slice none 0 0, .slice none 0 0] 25 (0, 0))
  bel : Below w.heap.size w wr
theorem NewRel.step {w wr w4 : World} {g c g4 n k : Nat} {A' : Option Addr} {c' : Nat} {ok : Nat → Prop} (h : NewRel w wr g c g4 n k) (hb : Below wr.heap.size wr w4) (hk : k < n) (hr : (Kd.int .u8).R 5 w4 wr.heap.size ok (.slice A' zero32.length c') zero32) :
    NewRel w (w4.setCell ⟨g, k * 2, none⟩ (.slice A' zero32.length c')) g c g4 n (k + 1) := by
  obtain ⟨l, hl, h1, h2, hs⟩ := h.sec
  have hb4 := blk_below h.box hb
  have hr4 := blk_below h.res hb
  obtain ⟨cs, hg0⟩ := hs.at
  have hg := blk_below hg0 hb
  have n4 : g4 ≠ g := blk_ne hb4 hg (by decide)
  have nz : w.heap.size ≠ g := blk_ne hr4 hg (by decide)
  refine ⟨⟨l.set k ⟨zero32, false⟩, by rw [List.length_set]; exact hl, fun i hi => ?_, fun i h3 h4 => ?_, hs.renew (s := ⟨zero32, false⟩) (below_size h.bel) hb (h2 k (Nat.le_refl _) hk) rfl hr⟩, blk_far hb4 n4 _, blk_far hr4 nz _, below_set (below_step h.bel hb) hs.2.2.1⟩
  · by_cases e : i = k
    · subst e; exact List.getElem?_set_self (by omega)
    · rw [List.getElem?_set_ne (fun e' => e e'.symm)]; exact h1 i (by omega)
  · rw [List.getElem?_set_ne (by omega)]; exact h2 i (by omega) h4
theorem NewRel.below {w wr W : World} {g c g4 n k : Nat} (h : NewRel w wr g c g4 n k) (hb : Below wr.heap.size wr W) : NewRel w W g c g4 n k := by
  obtain ⟨l, hl, h1, h2, hs⟩ := h.sec
  exact ⟨⟨l, hl, h1, h2, hs.below hb⟩, blk_below h.box hb, blk_below h.res hb, below_step h.bel hb⟩
def hNew.T7 : Bool × List (List Nat × List Nat) := (true, [([], []), ([0], [0]), ([], []), ([], []), ([1, 2, 0, 1, 2, 3], [1, 2]), ([4, 0, 1, 2, 3], [4]), ([5, 3, 0, 1, 2, 3], [3, 5])])
def hNew.B7 : List Nat := [0, 1, 0, 0, 15, 31, 63]
theorem hNew.tab7 : rtab .any (opsOf Try.f42 7) = hNew.T7 := by kernel_rfl
theorem hNew.bits7 : waitsOk hNew.T7.2 hNew.B7 = true := by kernel_rfl
set_option maxHeartbeats 4000000 in
set_option maxRecDepth 100000 in
theorem hNew.calls (a0 : Int) (r1 : List S52) (r2 : List S65) (r3 : Int) (w : World) (h : hNew.f a0 = some (r1, r2, r3)) :
    Calls Try.prog 42 #[.int .i64 a0] w fun e w' => ∃ v0_ v1_ : Value, e = .returned (.tuple #[.agg #[v0_, v1_], .int .i64 r3]) ∧ Kd.S k52 52 w' w.heap.size (fun _ => True) v0_ r1 ∧ Kd.S k65 65 w' w.heap.size (fun _ => True) v1_ r2 ∧ Below w.heap.size w w' := by
  have hu25 := Try.underlying25
  have H : Aside0 (dNew a0 = (r1, r2, r3)) := ⟨by unfold hNew.f at h; injection h⟩
  clear h
  have HB := Aside0.mk (below_alloc (Below.refl w.heap.size w) (.cells #[.slice none 0 0, .slice none 0 0] 25))
  have HZ := Aside0.mk (heap_alloc_new w (.cells #[.slice none 0 0, .slice none 0 0] 25))
  by_cases hn : 1 ≤ a0 ∧ a0 ≤ 1024
  rotate_left
  · obtain ⟨rfl, rfl, rfl⟩ : [] = r1 ∧ [] = r2 ∧ 2 = r3 := by have hd := H.out; unfold dNew at hd; rw [if_neg hn] at hd; simpa using hd
    clear H
    by_cases h1 : a0 < 1
    · go_enter Try.func42, Try.ntmps42
      go_wp2_with fail
      refine bodyPost_ret (results_ct rfl _ _ w.heap.size 25 #[.slice none 0 0, .slice none 0 0] (0, 0) _ rfl HZ.out Try.underlying25 rfl (by kernel_rfl)) rfl ?_
      exact ⟨_, _, rfl, Kd.S_nil _ _ _ _ _, Kd.S_nil _ _ _ _ _, HB.out⟩
    · have h2 : a0 > 1024 := by omega
      go_enter Try.func42, Try.ntmps42
      go_wp2_with fail
      refine bodyPost_ret (results_ct rfl _ _ w.heap.size 25 #[.slice none 0 0, .slice none 0 0] (0, 0) _ rfl HZ.out Try.underlying25 rfl (by kernel_rfl)) rfl ?_
      exact ⟨_, _, rfl, Kd.S_nil _ _ _ _ _, Kd.S_nil _ _ _ _ _, HB.out⟩
  · obtain ⟨n, rfl⟩ := Int.eq_ofNat_of_zero_le (show 0 ≤ a0 by omega)
    obtain ⟨rfl, rfl, rfl⟩ : List.replicate n ⟨zero32, false⟩ = r1 ∧ [] = r2 ∧ 0 = r3 := by have hd := H.out; unfold dNew at hd; rw [if_pos hn] at hd; simpa using hd
    clear H
    have hn1 : 1 ≤ n := by omega
    have hn2 : n ≤ 1024 := by omega
    have hn3 : ¬ (n : Int) < 1 := by omega
    have hn4 : ¬ (n : Int) > 1024 := by omega
    clear hn
    go_enter Try.func42, Try.ntmps42
    go_wp2_with (first
      | ((with_reducible refine gate_dst (N := 14) rfl ?_); refine Kd.R_make k52 (w0 := w) w.heap.size 52 rfl (N := 14) rfl 22 _ _ rfl n rfl rfl Try.underlying22 (.agg #[(.slice none 0 0), (.bool false)]) 32 info52 rfl (by decide) (by decide) z52 (ok := fun _ => True) (okp := fun _ => True) (k52_mkM _ _ _ z52 (Kd.R_nil _ _ _ _ _)) (fun _ hk => hk) trivial (by omega) (by omega) HB.out (below_size HB.out) ?_; intro v2 w2 ho2 hb2 hg2 hnew2; obtain ⟨gs, c2, e2, hs2⟩ := SecMid.of_R ho2 (by rw [List.length_replicate]; exact hn1); rw [List.length_replicate] at e2; subst e2; have HS2 := Aside0.mk hs2; have HB2 := Aside0.mk hb2; have HZ2 := Aside0.mk ((hg2.block _ (blk_lt HZ.out) (by simp)).trans HZ.out); clear ho2 hb2 hg2 hnew2 hs2))
    have HX := Aside0.mk (show NewRel w (w2.alloc (.cells #[.slice (some ⟨gs, 0, none⟩) n c2, .slice none 0 0] 25)) gs c2 w2.heap.size n 0 from ⟨⟨_, List.length_replicate .., fun i hi => absurd hi (Nat.not_lt_zero _), fun i _ hi => by rw [List.getElem?_replicate, if_pos (by exact hi)]; rfl, HS2.out.below (below_alloc (Below.refl _ _) (.cells #[.slice (some ⟨gs, 0, none⟩) n c2, .slice none 0 0] 25))⟩, heap_alloc_new w2 (.cells #[.slice (some ⟨gs, 0, none⟩) n c2, .slice none 0 0] 25), blk_alloc HZ2.out (.cells #[.slice (some ⟨gs, 0, none⟩) n c2, .slice none 0 0] 25), below_alloc HB2.out (.cells #[.slice (some ⟨gs, 0, none⟩) n c2, .slice none 0 0] 25)⟩)
    have HNE := Aside0.mk (show w2.heap.size ≠ w.heap.size from Nat.ne_of_gt (blk_lt HZ2.out))
    have HG4 := Aside0.mk (below_size HB2.out)
    clear HB2 HZ2 HS2 HB HZ
    generalize w2.alloc (.cells #[.slice (some ⟨gs, 0, none⟩) n c2, .slice none 0 0] 25) = W3 at HX ⊢
    generalize w2.heap.size = g4 at HX HNE HG4 ⊢
    go_loopw [19] (fun i wr => ∃ k : Nat, k ≤ n ∧ i = .int .i64 k ∧ Aside0 (NewRel w wr gs c2 g4 n k)) (fun i _ => n - (intOf i).toNat)
    case atStart => exact ⟨0, Nat.zero_le _, rfl, HX⟩
    case round =>
      clear HX
      obtain ⟨k, hk, rfl, HX⟩ := hrel
      by_cases hlt : k < n
      · have hk0 : 0 ≤ (k : Int) := by omega
        have hk1 : (k : Int) < n := by omega
        have HSS := Aside0.mk (show ∀ W : World, Below wr.heap.size wr W → W.cell? ⟨g4, 0, none⟩ = some (.slice (some ⟨gs, 0, none⟩) n c2) from fun W hb => (blk_cell (blk_below HX.out.box hb) 0).trans rfl)
        obtain ⟨l, hl, _, _, hsec⟩ := HX.out.sec
        have HSC := Aside0.mk hsec
        have HLL := Aside0.mk hl
        clear hl hsec
        go_wp2_with fail
        refine start_ (n := 7) (S := fun w' => w'.cell? ⟨g4, 0, none⟩ = some (.slice (some ⟨gs, 0, none⟩) n c2)) (ds := [6]) #[false, false, false, false, false, false, false] (by kernel_rfl) rfl rfl (by exact HSS.out _ (below_drew1 (Below.refl _ _))) (fun hHeld => ?_); refine with_tabW hNew.tab7 hNew.bits7 (fun HT_ HW_ => ?_)
        refine pure_ (i := 0) (N := some 22) (v := ?_) (a' := ?_) #[true, false, false, false, false, false, false] rfl rfl (any_of HT_.out (by kernel_rfl)) (fun _ _ _ h => h) (Or.inl ⟨by rfl, ?_⟩) ?_ ?_
        rotate_left
        · intro w'
          go_simp
          with_reducible rfl
        rotate_left
        · simp only [Act.put, List.setIfInBounds_toArray, List.set_cons_zero, List.set_cons_succ, i64_w, i32_w]
          rfl
        refine take_ (i := 1) (N := some 23) (v := ?_) (a' := ?_) #[true, true, false, false, false, false, false] rfl rfl (take_ofW HT_.out HW_.out (by kernel_rfl)) (fun _ _ _ h => h) (Or.inl ⟨by rfl, ?_⟩) hHeld ?_ ?_
        rotate_left
        · rintro w' s0
          go_simp
          with_reducible rfl
        rotate_left
        · simp only [Act.put, List.setIfInBounds_toArray, List.set_cons_zero, List.set_cons_succ, i64_w, i32_w]
          rfl
        refine pure_ (i := 2) (N := some 24) (v := ?_) (a' := ?_) #[true, true, true, false, false, false, false] rfl rfl (any_of HT_.out (by kernel_rfl)) (fun _ _ _ h => h) (Or.inl ⟨by rfl, ?_⟩) ?_ ?_
        rotate_left
        · intro w'
          go_simp
          with_reducible rfl
        rotate_left
        · simp only [Act.put, List.setIfInBounds_toArray, List.set_cons_zero, List.set_cons_succ, i64_w, i32_w]
          rfl
        refine one_ (i := 3) (N := some 25) #[true, true, true, true, false, false, false] rfl rfl (one_of HT_.out (by kernel_rfl)) (by decide) (fun K hK => ?_)
        refine Kd.R_make_step (Kd.int .u8) (w0 := wr.drew) wr.drew.heap.size 5 rfl (N := 25) rfl 26 _ _ rfl 32 rfl rfl Try.underlying26 (.int .u8 0) 1 info5 rfl (by decide) (by decide) 0 (ok := fun _ => True) (okp := fun _ => True) rfl (fun _ hk => hk) trivial (by omega) (by omega) (Below.refl _ _) (Nat.le_refl _) ?_
        intro v4 w4 ho4 hb4 hg4 hnew4
        have HB4 := Aside0.mk (below_step (below_drew1 (Below.refl wr.heap.size wr)) hb4)
        obtain ⟨A4, c4, e4⟩ := Kd.R_slice ho4
        subst e4
        have HX4 := Aside0.mk (NewRel.step (HX.out.below (below_drew1 (Below.refl _ _))) hb4 hlt ho4)
        obtain ⟨v0, v1, hw0, hw1, hfw0, hfw1⟩ := (HSC.out.below HB4.out).cells (i := k) (by rw [HLL.out]; exact hlt)
        clear ho4 hb4 hg4 hnew4
        refine hK.out _ _ (by exact HSS.out _ HB4.out) (fun hHeld => ?_)
        clear hK K
        refine norm_ (a' := ?_) ?_ ?_
        rotate_left
        · show Act.put _ (some 25) _ = _
          simp only [Act.put, List.setIfInBounds_toArray, List.set_cons_zero, List.set_cons_succ, i64_w, i32_w]
          rfl
        refine pure_ (i := 4) (N := some 26) (v := ?_) (a' := ?_) #[true, true, true, true, true, false, false] rfl rfl (any_of HT_.out (by kernel_rfl)) (fun _ _ _ h => h) (Or.inl ⟨by rfl, ?_⟩) ?_ ?_
        rotate_left
        · intro w'
          go_simp
          with_reducible rfl
        rotate_left
        · simp only [Act.put, List.setIfInBounds_toArray, List.set_cons_zero, List.set_cons_succ, i64_w, i32_w]
          rfl
        refine pure_ (i := 5) (N := some 27) (v := ?_) (a' := ?_) #[true, true, true, true, true, true, false] rfl rfl (any_of HT_.out (by kernel_rfl)) (fun _ _ _ h => h) (Or.inl ⟨by rfl, ?_⟩) ?_ ?_
        rotate_left
        · intro w'
          go_simp
          with_reducible rfl
        rotate_left
        · simp only [Act.put, List.setIfInBounds_toArray, List.set_cons_zero, List.set_cons_succ, i64_w, i32_w]
          rfl
        refine last_ (i := 6) (N := none) #[true, true, true, true, true, true, true] rfl rfl (one_of HT_.out (by kernel_rfl)) (by decide) (fun K hK => ?_)
        refine skip_ (w1 := ?_) (by rfl) rfl ?_ ?_
        rotate_left
        · go_simp
          rfl
        refine hK.out _ _ ?_
        refine done_ (done_of HT_.out (by kernel_rfl)) ?_
        clear hw0 hw1 hfw0 hfw1
        try go_wp2
        go_roundw
        case rel => exact ⟨k + 1, by omega, by go_num, HX4⟩
        case measure => simp [intOf]; omega
      · obtain rfl : k = n := by omega
        obtain ⟨l, hl, hall, _, hsec⟩ := HX.out.sec
        obtain rfl : l = List.replicate k ⟨zero32, false⟩ := List.eq_replicate_iff.2 ⟨hl, fun b hb => by obtain ⟨i, hi, rfl⟩ := List.mem_iff_getElem.1 hb; have := hall i (by omega); rw [List.getElem?_eq_getElem hi] at this; exact Option.some.inj this⟩
        have HSC := Aside0.mk hsec
        clear hl hall hsec
        have hq0 : wr.cell? ⟨g4, 0, none⟩ = some (.slice (some ⟨gs, 0, none⟩) k c2) := (blk_cell HX.out.box 0).trans rfl
        have hq1 : wr.cell? ⟨g4, 1, none⟩ = some (.slice none 0 0) := (blk_cell HX.out.box 1).trans rfl
        have hy0 : wr.cell? ⟨w.heap.size, 0, none⟩ = some (.slice none 0 0) := (blk_cell HX.out.res 0).trans rfl
        have hy1 : wr.cell? ⟨w.heap.size, 1, none⟩ = some (.slice none 0 0) := (blk_cell HX.out.res 1).trans rfl
        have hf0 := blk_frozen HX.out.res 0
        have hf1 := blk_frozen HX.out.res 1
        go_wp2_with fail
        have hr1 := blk_put (cs := #[.slice none 0 0, .slice none 0 0]) HX.out.res 0 (.slice (some ⟨gs, 0, none⟩) k c2) rfl
        have hr2 := blk_put (cs := #[.slice (some ⟨gs, 0, none⟩) k c2, .slice none 0 0]) hr1 1 (.slice none 0 0) rfl
        have hs2 := (HSC.out.far (p := ⟨w.heap.size, 0, none⟩) HX.out.res (by decide) (by decide) (.slice (some ⟨gs, 0, none⟩) k c2)).far (p := ⟨w.heap.size, 1, none⟩) hr1 (by decide) (by decide) (.slice none 0 0)
        have hs3 := SecMid.S (l := List.replicate k ⟨zero32, false⟩) (by rw [List.length_replicate]; exact hs2)
        rw [List.length_replicate] at hs3
        refine bodyPost_ret (results_ct rfl _ _ w.heap.size 25 #[.slice (some ⟨gs, 0, none⟩) k c2, .slice none 0 0] (0, 0) _ rfl hr2 Try.underlying25 rfl (by kernel_rfl)) rfl ?_
        exact ⟨_, _, rfl, hs3, Kd.S_nil _ _ _ _ _, below_set (below_set HX.out.bel (Nat.le_refl _)) (Nat.le_refl _)⟩
end Go.Proofs.Ytjlohdbkjoofcaa.P
end
section
set_option linter.unusedVariables false
set_option linter.unusedSimpArgs false
namespace Go.Proofs.Ytjlohdbkjoofcaa.P
open Go.RowKit Go.Proofs.PrintWords Go.Proofs.PrintLast Go.Proofs.PrintMore
attribute [local go_sem] max2_int min2_int max_two min_two max_three min_three max_four min_four
set_option maxHeartbeats 4000000 in
set_option maxRecDepth 100000 in
theorem hEqS.calls (A : Option Addr) (c : Nat) (x : S52) (B : Option Addr) (d : Nat) (y : S52) (w : World) (hx : Kd.C (Kd.int .u8) w A x.f0.length x.f0) (hc : x.f0.length ≤ c) (hy : Kd.C (Kd.int .u8) w B y.f0.length y.f0) (hd : y.f0.length ≤ d) :
    Calls Try.prog 133 #[.agg #[.slice A x.f0.length c, .bool x.f1], .agg #[.slice B y.f0.length d, .bool y.f1]] w fun e w' => e = .returned (.bool (sEq x y)) ∧ Below w.heap.size w w' := by
  have hu := Try.underlying52
  have HX := Aside0.mk hx
  have HY := Aside0.mk hy
  have HC := Aside0.mk hc
  have HD := Aside0.mk hd
  clear hx hy hc hd
  have HB := Aside0.mk (below_alloc (below_alloc (Below.refl w.heap.size w) (.cells #[.slice A x.f0.length c, .bool x.f1] 52)) (.cells #[.slice B y.f0.length d, .bool y.f1] 52))
  cases ht : (x.f1 == y.f1) with
  | false =>
    rw [show sEq x y = false by simp [sEq, ht]]
    go_enter Try.func133, Try.ntmps133
    go_wp2_with fail
    go_ret
    exact ⟨rfl, HB.out⟩
  | true =>
    rw [show sEq x y = ((strOfNums x.f0).toList == (strOfNums y.f0).toList) by simp [sEq, ht]]
    go_enter Try.func133, Try.ntmps133
    go_wp2_with (go_at_call 125; refine (bytes_Equal.calls A c x.f0 B d y.f0 ((strOfNums x.f0).toList == (strOfNums y.f0).toList) _ (Kd.C_below HX.out HB.out) HC.out (Kd.C_below HY.out HB.out) HD.out rfl).mono ?_; rintro e w1 ⟨rfl, hq⟩; have HB1 := Aside0.mk (below_step HB.out hq.below); clear hq)
    go_ret
    exact ⟨rfl, HB1.out⟩
set_option maxHeartbeats 4000000 in
set_option maxRecDepth 100000 in
theorem hEqP.calls (A : Option Addr) (c : Nat) (x : S65) (B : Option Addr) (d : Nat) (y : S65) (w : World) (hx : Kd.C (Kd.int .u8) w A x.f1.length x.f1) (hc : x.f1.length ≤ c) (hy : Kd.C (Kd.int .u8) w B y.f1.length y.f1) (hd : y.f1.length ≤ d) :
    Calls Try.prog 135 #[.agg #[.int .i64 x.f0, .slice A x.f1.length c], .agg #[.int .i64 y.f0, .slice B y.f1.length d]] w fun e w' => e = .returned (.bool (pEq x y)) ∧ Below w.heap.size w w' := by
  have hu := Try.underlying65
  have HX := Aside0.mk hx
  have HY := Aside0.mk hy
  have HC := Aside0.mk hc
  have HD := Aside0.mk hd
  clear hx hy hc hd
  have HB := Aside0.mk (below_alloc (below_alloc (Below.refl w.heap.size w) (.cells #[.int .i64 x.f0, .slice A x.f1.length c] 65)) (.cells #[.int .i64 y.f0, .slice B y.f1.length d] 65))
  cases ht : (x.f0 == y.f0) with
  | false =>
    rw [show pEq x y = false by simp [pEq, ht]]
    go_enter Try.func135, Try.ntmps135
    go_wp2_with fail
    go_ret
    exact ⟨rfl, HB.out⟩
  | true =>
    rw [show pEq x y = ((strOfNums x.f1).toList == (strOfNums y.f1).toList) by simp [pEq, ht]]
    go_enter Try.func135, Try.ntmps135
    go_wp2_with (go_at_call 125; refine (bytes_Equal.calls A c x.f1 B d y.f1 ((strOfNums x.f1).toList == (strOfNums y.f1).toList) _ (Kd.C_below HX.out HB.out) HC.out (Kd.C_below HY.out HB.out) HD.out rfl).mono ?_; rintro e w1 ⟨rfl, hq⟩; have HB1 := Aside0.mk (below_step HB.out hq.below); clear hq)
    go_ret
    exact ⟨rfl, HB1.out⟩
set_option maxHeartbeats 8000000 in
set_option maxRecDepth 100000 in
theorem hEF0.calls (A : Option Addr) (c : Nat) (l : List S52) (B : Option Addr) (d : Nat) (m : List S52) (w : World) (hl : Kd.C k52 w A l.length l) (hm : Kd.C k52 w B m.length m) :
    Calls Try.prog 132 #[.slice A l.length c, .slice B m.length d, .func (.func 133) #[] #[]] w fun e w' => e = .returned (.bool (decide (l.length = m.length) && allTo l.length (fun i => sEq (rd_T52 l (i : Int)) (rd_T52 m (i : Int))))) ∧ Below w.heap.size w w' := by
  have hu := Try.underlying52
  have HL := Aside0.mk hl
  have HM := Aside0.mk hm
  have HX := Aside0.mk hl.2.1
  clear hl hm
  by_cases hlen : l.length = m.length
  rotate_left
  · rw [show (decide (l.length = m.length) && allTo l.length (fun i => sEq (rd_T52 l (i : Int)) (rd_T52 m (i : Int)))) = false by simp [hlen]]
    have hb : ((l.length : Int) != (m.length : Int)) = true := by rw [bne_iff_ne]; omega
    clear hlen
    go_enter Try.func132, Try.ntmps132
    go_wp2_with fail
    go_ret
    exact ⟨rfl, Below.refl _ _⟩
  · rw [show (decide (l.length = m.length) && allTo l.length (fun i => sEq (rd_T52 l (i : Int)) (rd_T52 m (i : Int)))) = allTo l.length (fun i => sEq (rd_T52 l (i : Int)) (rd_T52 m (i : Int))) by simp [hlen]]
    have hb : ((l.length : Int) != (m.length : Int)) = false := by rw [hlen]; exact bne_self_eq_false _
    have HE := Aside0.mk hlen
    clear hlen
    obtain ⟨R, hR⟩ : ∃ R, allTo l.length (fun i => sEq (rd_T52 l (i : Int)) (rd_T52 m (i : Int))) = R := ⟨_, rfl⟩
    rw [hR]
    have HR := Aside0.mk hR
    clear hR
    go_enter Try.func132, Try.ntmps132
    go_wp2_with fail
    go_loopw [17] (fun i wr => ∃ k : Nat, k ≤ l.length ∧ i = .int .i64 k ∧ Aside0 (allTo k (fun i => sEq (rd_T52 l (i : Int)) (rd_T52 m (i : Int))) = true) ∧ Aside0 (Below w.heap.size w wr)) (fun i _ => l.length - (intOf i).toNat)
    case atStart => exact ⟨0, Nat.zero_le _, rfl, ⟨rfl⟩, ⟨Below.refl _ _⟩⟩
    case round =>
      obtain ⟨k, hk, rfl, HP, HB⟩ := hrel
      have hmx := HX.out
      by_cases hlt : k < l.length
      · have hlt' : k < m.length := by rw [← HE.out]; exact hlt
        have r0 : 0 ≤ (k : Int) := by omega
        have r1 : (k : Int) < l.length := by omega
        have r2 : (k : Int) < m.length := by omega
        obtain ⟨pa, P, p, rfl, hxb, hxo, hxl, hxC⟩ := at_T52 (Kd.C_below HL.out HB.out) (k : Int) r0 r1
        obtain ⟨pb, Q, q, rfl, hyb, hyo, hyl, hyC⟩ := at_T52 (Kd.C_below HM.out HB.out) (k : Int) r0 r2
        simp only [Int.toNat_natCast] at hxb hxo hyb hyo
        have HSN := Aside0.mk (show sEq (rd_T52 l (k : Int)) (rd_T52 m (k : Int)) = sEq (rd_T52 l (k : Int)) (rd_T52 m (k : Int)) from rfl)
        obtain ⟨X, hX⟩ : ∃ X, rd_T52 l (k : Int) = X := ⟨_, rfl⟩
        obtain ⟨Y, hY⟩ : ∃ X, rd_T52 m (k : Int) = X := ⟨_, rfl⟩
        have HEX := Aside0.mk hX
        have HEY := Aside0.mk hY
        rw [hX] at hxb hxo hxl hxC
        rw [hY] at hyb hyo hyl hyC
        have HXC := Aside0.mk hxC
        have HYC := Aside0.mk hyC
        have HXL := Aside0.mk hxl
        have HYL := Aside0.mk hyl
        have l0 := World.block_lt_of_cell? wr _ hxb
        have l1 := World.block_lt_of_cell? wr _ hxo
        have l2 := World.block_lt_of_cell? wr _ hyb
        have l3 := World.block_lt_of_cell? wr _ hyo
        have BX := Aside0.mk (below_alloc (below_alloc (Below.refl wr.heap.size wr) (.cells #[.slice P X.f0.length p, .bool X.f1] 52)) (.cells #[.slice Q Y.f0.length q, .bool Y.f1] 52))
        clear HSN hX hY hxC hyC hxl hyl
        cases he : sEq X Y with
        | false =>
          obtain rfl : false = R := by rw [← HR.out]; exact (allTo_false hlt (by show sEq _ _ = false; rw [HEX.out, HEY.out, he])).symm
          go_wp2_with (go_at_call 133; refine (hEqS.calls P p X Q q Y _ (Kd.C_below HXC.out BX.out) HXL.out (Kd.C_below HYC.out BX.out) HYL.out).mono ?_; rintro e w1 ⟨rfl, hb1⟩; rw [he]; have HB1 := Aside0.mk (below_step (below_step HB.out BX.out) hb1); clear hb1)
          go_ret
          exact ⟨rfl, HB1.out⟩
        | true =>
          go_wp2_with (go_at_call 133; refine (hEqS.calls P p X Q q Y _ (Kd.C_below HXC.out BX.out) HXL.out (Kd.C_below HYC.out BX.out) HYL.out).mono ?_; rintro e w1 ⟨rfl, hb1⟩; rw [he]; have HB1 := Aside0.mk (below_step (below_step HB.out BX.out) hb1); clear hb1)
          go_roundw
          case rel => exact ⟨k + 1, by omega, by go_num, ⟨by rw [allTo_succ, HP.out, Bool.true_and]; show sEq _ _ = true; rw [HEX.out, HEY.out, he]⟩, HB1⟩
          case measure => simp [intOf]; omega
      · obtain rfl : k = l.length := by omega
        obtain rfl : true = R := by rw [← HR.out]; exact HP.out.symm
        go_wp2_with fail
        go_ret
        exact ⟨rfl, HB.out⟩
set_option maxHeartbeats 8000000 in
set_option maxRecDepth 100000 in
theorem hEF1.calls (A : Option Addr) (c : Nat) (l : List S65) (B : Option Addr) (d : Nat) (m : List S65) (w : World) (hl : Kd.C k65 w A l.length l) (hm : Kd.C k65 w B m.length m) :
    Calls Try.prog 134 #[.slice A l.length c, .slice B m.length d, .func (.func 135) #[] #[]] w fun e w' => e = .returned (.bool (decide (l.length = m.length) && allTo l.length (fun i => pEq (rd_T65 l (i : Int)) (rd_T65 m (i : Int))))) ∧ Below w.heap.size w w' := by
  have hu := Try.underlying65
  have HL := Aside0.mk hl
  have HM := Aside0.mk hm
  have HX := Aside0.mk hl.2.1
  clear hl hm
  by_cases hlen : l.length = m.length
  rotate_left
  · rw [show (decide (l.length = m.length) && allTo l.length (fun i => pEq (rd_T65 l (i : Int)) (rd_T65 m (i : Int)))) = false by simp [hlen]]
    have hb : ((l.length : Int) != (m.length : Int)) = true := by rw [bne_iff_ne]; omega
    clear hlen
    go_enter Try.func134, Try.ntmps134
    go_wp2_with fail
    go_ret
    exact ⟨rfl, Below.refl _ _⟩
  · rw [show (decide (l.length = m.length) && allTo l.length (fun i => pEq (rd_T65 l (i : Int)) (rd_T65 m (i : Int)))) = allTo l.length (fun i => pEq (rd_T65 l (i : Int)) (rd_T65 m (i : Int))) by simp [hlen]]
    have hb : ((l.length : Int) != (m.length : Int)) = false := by rw [hlen]; exact bne_self_eq_false _
    have HE := Aside0.mk hlen
    clear hlen
    obtain ⟨R, hR⟩ : ∃ R, allTo l.length (fun i => pEq (rd_T65 l (i : Int)) (rd_T65 m (i : Int))) = R := ⟨_, rfl⟩
    rw [hR]
    have HR := Aside0.mk hR
    clear hR
    go_enter Try.func134, Try.ntmps134
    go_wp2_with fail
    go_loopw [17] (fun i wr => ∃ k : Nat, k ≤ l.length ∧ i = .int .i64 k ∧ Aside0 (allTo k (fun i => pEq (rd_T65 l (i : Int)) (rd_T65 m (i : Int))) = true) ∧ Aside0 (Below w.heap.size w wr)) (fun i _ => l.length - (intOf i).toNat)
    case atStart => exact ⟨0, Nat.zero_le _, rfl, ⟨rfl⟩, ⟨Below.refl _ _⟩⟩
    case round =>
      obtain ⟨k, hk, rfl, HP, HB⟩ := hrel
      have hmx := HX.out
      by_cases hlt : k < l.length
      · have hlt' : k < m.length := by rw [← HE.out]; exact hlt
        have r0 : 0 ≤ (k : Int) := by omega
        have r1 : (k : Int) < l.length := by omega
        have r2 : (k : Int) < m.length := by omega
        obtain ⟨pa, P, p, rfl, hxb, hxo, hxl, hxC⟩ := at_T65 (Kd.C_below HL.out HB.out) (k : Int) r0 r1
        obtain ⟨pb, Q, q, rfl, hyb, hyo, hyl, hyC⟩ := at_T65 (Kd.C_below HM.out HB.out) (k : Int) r0 r2
        simp only [Int.toNat_natCast] at hxb hxo hyb hyo
        have HSN := Aside0.mk (show pEq (rd_T65 l (k : Int)) (rd_T65 m (k : Int)) = pEq (rd_T65 l (k : Int)) (rd_T65 m (k : Int)) from rfl)
        obtain ⟨X, hX⟩ : ∃ X, rd_T65 l (k : Int) = X := ⟨_, rfl⟩
        obtain ⟨Y, hY⟩ : ∃ X, rd_T65 m (k : Int) = X := ⟨_, rfl⟩
        have HEX := Aside0.mk hX
        have HEY := Aside0.mk hY
        rw [hX] at hxb hxo hxl hxC
        rw [hY] at hyb hyo hyl hyC
        have HXC := Aside0.mk hxC
        have HYC := Aside0.mk hyC
        have HXL := Aside0.mk hxl
        have HYL := Aside0.mk hyl
        have l0 := World.block_lt_of_cell? wr _ hxb
        have l1 := World.block_lt_of_cell? wr _ hxo
        have l2 := World.block_lt_of_cell? wr _ hyb
        have l3 := World.block_lt_of_cell? wr _ hyo
        have BX := Aside0.mk (below_alloc (below_alloc (Below.refl wr.heap.size wr) (.cells #[.int .i64 X.f0, .slice P X.f1.length p] 65)) (.cells #[.int .i64 Y.f0, .slice Q Y.f1.length q] 65))
        clear HSN hX hY hxC hyC hxl hyl
        cases he : pEq X Y with
        | false =>
          obtain rfl : false = R := by rw [← HR.out]; exact (allTo_false hlt (by show pEq _ _ = false; rw [HEX.out, HEY.out, he])).symm
          go_wp2_with (go_at_call 135; refine (hEqP.calls P p X Q q Y _ (Kd.C_below HXC.out BX.out) HXL.out (Kd.C_below HYC.out BX.out) HYL.out).mono ?_; rintro e w1 ⟨rfl, hb1⟩; rw [he]; have HB1 := Aside0.mk (below_step (below_step HB.out BX.out) hb1); clear hb1)
          go_ret
          exact ⟨rfl, HB1.out⟩
        | true =>
          go_wp2_with (go_at_call 135; refine (hEqP.calls P p X Q q Y _ (Kd.C_below HXC.out BX.out) HXL.out (Kd.C_below HYC.out BX.out) HYL.out).mono ?_; rintro e w1 ⟨rfl, hb1⟩; rw [he]; have HB1 := Aside0.mk (below_step (below_step HB.out BX.out) hb1); clear hb1)
          go_roundw
          case rel => exact ⟨k + 1, by omega, by go_num, ⟨by rw [allTo_succ, HP.out, Bool.true_and]; show pEq _ _ = true; rw [HEX.out, HEY.out, he]⟩, HB1⟩
          case measure => simp [intOf]; omega
      · obtain rfl : k = l.length := by omega
        obtain rfl : true = R := by rw [← HR.out]; exact HP.out.symm
        go_wp2_with fail
        go_ret
        exact ⟨rfl, HB.out⟩
def hSameX.f (l0 : List S52) (l1 : List S65) (m0 : List S52) (m1 : List S65) : Option Bool := some (dSame l0 l1 m0 m1)
set_option maxHeartbeats 4000000 in
set_option maxRecDepth 100000 in
theorem hSameX.calls (A0_0 : Option Addr) (c0_0 : Nat) (l0_0 : List S52) (A0_1 : Option Addr) (c0_1 : Nat) (l0_1 : List S65) (A1_0 : Option Addr) (c1_0 : Nat) (l1_0 : List S52) (A1_1 : Option Addr) (c1_1 : Nat) (l1_1 : List S65) (r : Bool) (w : World) (hr0_0 : Kd.C k52 w A0_0 l0_0.length l0_0) (hc0_0 : l0_0.length ≤ c0_0) (hr0_1 : Kd.C k65 w A0_1 l0_1.length l0_1) (hc0_1 : l0_1.length ≤ c0_1) (hr1_0 : Kd.C k52 w A1_0 l1_0.length l1_0) (hc1_0 : l1_0.length ≤ c1_0) (hr1_1 : Kd.C k65 w A1_1 l1_1.length l1_1) (hc1_1 : l1_1.length ≤ c1_1) (h : hSameX.f l0_0 l0_1 l1_0 l1_1 = some r) :
    Calls Try.prog 53 #[.agg #[.slice A0_0 l0_0.length c0_0, .slice A0_1 l0_1.length c0_1], .agg #[.slice A1_0 l1_0.length c1_0, .slice A1_1 l1_1.length c1_1]] w fun e w' => e = .returned (.bool r) ∧ Below w.heap.size w w' := by
  have hu25 := Try.underlying25
  have H : Aside0 (dSame l0_0 l0_1 l1_0 l1_1 = r) := ⟨by unfold hSameX.f at h; injection h⟩
  have HR0 := Aside0.mk hr0_0
  have HR1 := Aside0.mk hr0_1
  have HS0 := Aside0.mk hr1_0
  have HS1 := Aside0.mk hr1_1
  clear h hr0_0 hr0_1 hr1_0 hr1_1 hc0_0 hc0_1 hc1_0 hc1_1
  have HB0 := Aside0.mk (below_alloc (below_alloc (Below.refl w.heap.size w) (.cells #[.slice A0_0 l0_0.length c0_0, .slice A0_1 l0_1.length c0_1] 25)) (.cells #[.slice A1_0 l1_0.length c1_0, .slice A1_1 l1_1.length c1_1] 25))
  have HK0 := Aside0.mk (blk_alloc (heap_alloc_new w (.cells #[.slice A0_0 l0_0.length c0_0, .slice A0_1 l0_1.length c0_1] 25)) (.cells #[.slice A1_0 l1_0.length c1_0, .slice A1_1 l1_1.length c1_1] 25))
  have HL0 := Aside0.mk (heap_alloc_at w (.cells #[.slice A0_0 l0_0.length c0_0, .slice A0_1 l0_1.length c0_1] 25) (.cells #[.slice A1_0 l1_0.length c1_0, .slice A1_1 l1_1.length c1_1] 25) (w.heap.size + 1) rfl)
  obtain ⟨p, hp⟩ : ∃ p, (decide (l0_0.length = l1_0.length) && allTo l0_0.length (fun i => sEq (rd_T52 l0_0 (i : Int)) (rd_T52 l1_0 (i : Int)))) = p := ⟨_, rfl⟩
  obtain ⟨q, hq⟩ : ∃ p, (decide (l0_1.length = l1_1.length) && allTo l0_1.length (fun i => pEq (rd_T65 l0_1 (i : Int)) (rd_T65 l1_1 (i : Int)))) = p := ⟨_, rfl⟩
  have HQP := Aside0.mk hp
  have HQQ := Aside0.mk hq
  have HV := Aside0.mk (show (p && q) = r by
    rw [← H.out, ← hp, ← hq]
    unfold dSame
    cases decide (l0_0.length = l1_0.length) <;> cases decide (l0_1.length = l1_1.length) <;> simp)
  clear hp hq H
  cases p with
  | false =>
    obtain rfl : false = r := by rw [← HV.out]; rfl
    go_enter Try.func53, Try.ntmps53
    go_wp2_with (go_at_call 132; refine (hEF0.calls A0_0 c0_0 l0_0 A1_0 c1_0 l1_0 _ (Kd.C_below HR0.out HB0.out) (Kd.C_below HS0.out HB0.out)).mono ?_; rintro e w1 ⟨rfl, hb1⟩; rw [HQP.out]; have HB1 := Aside0.mk (below_step HB0.out hb1); clear hb1)
    go_ret
    exact ⟨rfl, HB1.out⟩
  | true =>
    obtain rfl : q = r := by rw [← HV.out]; rfl
    go_enter Try.func53, Try.ntmps53
    go_wp2_with (first
      | (go_at_call 132; refine (hEF0.calls A0_0 c0_0 l0_0 A1_0 c1_0 l1_0 _ (Kd.C_below HR0.out HB0.out) (Kd.C_below HS0.out HB0.out)).mono ?_; rintro e w1 ⟨rfl, hb1⟩; rw [HQP.out]; have HB1 := Aside0.mk (below_step HB0.out hb1); have hq1 : w1.cell? ⟨w.heap.size, 1, none⟩ = some (.slice A0_1 l0_1.length c0_1) := (blk_cell (blk_below HK0.out hb1) 1).trans rfl; have hq3 : w1.cell? ⟨w.heap.size + 1, 1, none⟩ = some (.slice A1_1 l1_1.length c1_1) := (blk_cell (blk_below HL0.out hb1) 1).trans rfl; clear hb1)
      | (go_at_call 134; refine (hEF1.calls A0_1 c0_1 l0_1 A1_1 c1_1 l1_1 _ (Kd.C_below HR1.out HB1.out) (Kd.C_below HS1.out HB1.out)).mono ?_; rintro e w2 ⟨rfl, hb2⟩; rw [HQQ.out]; have HB2 := Aside0.mk (below_step HB1.out hb2); clear hb2))
    go_ret
    exact ⟨rfl, HB2.out⟩
end Go.Proofs.Ytjlohdbkjoofcaa.P
end
