/- Part 3 of the proof: catamaranlaw05.DiskReads returns true for every disk, two sectors and bytes, and its arguments read afterwards as they read before; no condition. -/
import Derived.Deep.CutBlock
import Derived.Laws.CopyOwn
import Derived.Laws.BitsAllLaws
import Derived.Test.YtjlohdbkjoofcaaDiskReads2
section
set_option linter.unusedVariables false
set_option linter.unusedSimpArgs false
namespace Go.Proofs.Ytjlohdbkjoofcaa.P
open Go.RowKit Go.Proofs.PrintWords Go.Proofs.PrintLast Go.Proofs.PrintMore
attribute [local go_sem] max2_int min2_int max_two min_two max_three min_three max_four min_four
def catamaranref05_Write.f (k : Nat) (l0_0 : List (S52)) (l0_1 : List (S65)) (a1 : Int) (l2 : List Int) : Option ((List (S52)) × (List (S65)) × Int) := (catamaranref05_asked.f k l0_0 l0_1 a1).bind fun t183 => (if t183 = 0 then (if (l2.length : Int) = 32 then (if (l0_1.length : Int) ≥ 64 then (some (([] : List (S52)), ([] : List (S65)), 9)) else ((catamaranref05_With.f k l0_0 l0_1 a1 l2).bind fun bt184 => (some (bt184.1, bt184.2, 0)))) else (some (([] : List (S52)), ([] : List (S65)), 2))) else (some (([] : List (S52)), ([] : List (S65)), t183)))
theorem catamaranref05_Write.mono : ∀ a0 a1 a2 a3 k, LeO (catamaranref05_Write.f k a0 a1 a2 a3) (catamaranref05_Write.f (k + 1) a0 a1 a2 a3) := by
  intro a0 a1 a2 a3 k
  unfold catamaranref05_Write.f
  repeat' first
      | (with_reducible exact catamaranref05_With.mono _ _ _ _ _)
      | (with_reducible exact catamaranref05_asked.mono _ _ _ _)
      | (with_reducible exact LeO.refl _)
      | (with_reducible exact LeO.none _)
      | (with_reducible refine LeO.ite ?_ ?_)
      | (with_reducible refine LeO.bind ?_ (fun _ => ?_))
      | exact catamaranref05_With.mono _ _ _ _ _
      | exact catamaranref05_asked.mono _ _ _ _
      | exact LeO.none _
      | refine LeO.ite ?_ ?_
      | refine LeO.bind ?_ (fun _ => ?_)
set_option maxHeartbeats 8000000 in
set_option maxRecDepth 100000 in
theorem catamaranref05_Write.calls (k : Nat) (A0_0 : Option Addr) (c0_0 : Nat) (l0_0 : List (S52)) (A0_1 : Option Addr) (c0_1 : Nat) (l0_1 : List (S65)) (a1 : Int) (A2 : Option Addr) (c2 : Nat) (l2 : List Int) (r1 : List (S52)) (r2 : List (S65)) (r3 : Int) (w : World) (hr0_0 : Kd.C k52 w A0_0 l0_0.length l0_0) (hc0_0 : l0_0.length ≤ c0_0) (hr0_1 : Kd.C k65 w A0_1 l0_1.length l0_1) (hc0_1 : l0_1.length ≤ c0_1) (hr2 : Kd.C (Kd.int .u8) w A2 l2.length l2) (hc2 : l2.length ≤ c2) (h : catamaranref05_Write.f k l0_0 l0_1 a1 l2 = some (r1, r2, r3)) :
    Calls Try.prog 33 #[.agg #[.slice A0_0 l0_0.length c0_0, .slice A0_1 l0_1.length c0_1], .int .i64 a1, .slice A2 l2.length c2] w fun e w' => ∃ v0_ v1_ : Value, e = .returned (.tuple #[.agg #[v0_, v1_], .int .i64 r3]) ∧ Kd.S k52 52 w' w.heap.size (fun _ => True) v0_ r1 ∧ Kd.S k65 65 w' w.heap.size (fun _ => True) v1_ r2 ∧ Below w.heap.size w w' := by
  have hu25 := Try.underlying25
  have HR0_0 := Aside0.mk hr0_0
  have HC0_0 := Aside0.mk hc0_0
  clear hr0_0 hc0_0
  have HR0_1 := Aside0.mk hr0_1
  have HC0_1 := Aside0.mk hc0_1
  clear hr0_1 hc0_1
  have HR2 := Aside0.mk hr2
  have HC2 := Aside0.mk hc2
  clear hr2 hc2
  have HB := Aside0.mk (Below.refl w.heap.size w)
  have H : ((catamaranref05_asked.f k l0_0 l0_1 a1).bind fun t183 => (if t183 = 0 then (if (l2.length : Int) = 32 then (if (l0_1.length : Int) ≥ 64 then (some (([] : List (S52)), ([] : List (S65)), 9)) else ((catamaranref05_With.f k l0_0 l0_1 a1 l2).bind fun bt184 => (some (bt184.1, bt184.2, 0)))) else (some (([] : List (S52)), ([] : List (S65)), 2))) else (some (([] : List (S52)), ([] : List (S65)), t183)))) = some (r1, r2, r3) := h
  clear h
  replace H := Option.bind_eq_some_iff.mp H
  obtain ⟨t183, A40, H⟩ := H
  replace H : (if t183 = 0 then (if (l2.length : Int) = 32 then (if (l0_1.length : Int) ≥ 64 then (some (([] : List (S52)), ([] : List (S65)), 9)) else ((catamaranref05_With.f k l0_0 l0_1 a1 l2).bind fun bt184 => (some (bt184.1, bt184.2, 0)))) else (some (([] : List (S52)), ([] : List (S65)), 2))) else (some (([] : List (S52)), ([] : List (S65)), t183))) = some (r1, r2, r3) := H
  have A4 := Aside0.mk A40
  clear A40
  by_cases c5 : t183 = 0
  · rw [if_pos c5] at H
    have c5b0 : (t183 == 0) = true := beq_iff_eq.mpr c5
    have c5b1 : (t183 != 0) = false := bne_eq_false_iff_eq.mpr c5
    clear c5
    by_cases c6 : (l2.length : Int) = 32
    · rw [if_pos c6] at H
      have c6b0 : ((l2.length : Int) == 32) = true := beq_iff_eq.mpr c6
      have c6b1 : ((l2.length : Int) != 32) = false := bne_eq_false_iff_eq.mpr c6
      clear c6
      by_cases c7 : (l0_1.length : Int) ≥ 64
      · rw [if_pos c7] at H
        have c7b0 : decide (64 ≤ (l0_1.length : Int)) = true := decide_eq_true c7
        have c7b1 : decide (64 ≤ l0_1.length) = true := decide_eq_true (by omega)
        clear c7
        simp only [Option.some.injEq, Prod.mk.injEq] at H
        obtain ⟨rfl, rfl, rfl⟩ := H
        go_enter Try.func33, Try.ntmps33
        go_wp2_with (first | ((with_reducible refine gate_dst (N := 3) rfl ?_); refine box_event ?hg (N := 3) ?hd (cs := #[.slice A0_0 l0_0.length c0_0, .slice A0_1 l0_1.length c0_1]) (t := 25) ?hr ?_; (case hd => rfl); (case hg => rfl); (case hr => first | (go_simp; done) | (go_simp; rfl)); intro gb181 hg w8 hbox hb; have n0_ := Aside0.mk (below_step (by repeat (first | (with_reducible first | exact HB.out | apply below_alloc | apply pw_below_drewN | apply below_drew1) | exact HB.out)) hb); have n1_ := Aside0.mk (hbox); have n2_ := Aside0.mk ((by rw [hg]; exact (below_size (by repeat (first | (with_reducible first | exact HB.out | apply below_alloc | apply pw_below_drewN | apply below_drew1) | exact HB.out))) : w.heap.size ≤ gb181)); have n3_ := Aside0.mk ((by rw [hg]; exact (below_size (by repeat (first | (with_reducible first | exact HB.out | apply below_alloc | apply pw_below_drewN | apply below_drew1) | exact HB.out))) : w.heap.size ≤ gb181)); clear HB; have HB := n0_; have BK181 := n1_; have GW181 := n2_; have GE181 := n3_; clear n0_ n1_ n2_ n3_; clear hb hbox hg) | ((with_reducible refine gate_dst (N := 6) rfl ?_); refine box_event ?hg (N := 6) ?hd (cs := #[.slice none 0 0, .slice none 0 0]) (t := 25) ?hr ?_; (case hd => rfl); (case hg => rfl); (case hr => first | (go_simp; done) | (go_simp; rfl)); intro gb182 hg w9 hbox hb; have n0_ := Aside0.mk (blk_below (g := gb181) (o := .cells #[.slice A0_0 l0_0.length c0_0, .slice A0_1 l0_1.length c0_1] 25 (0, 0)) (by (with_reducible repeat (first | refine blk_drewN ?_ _ | refine blk_drew ?_ | refine blk_alloc ?_ _)); exact BK181.out) hb); have n1_ := Aside0.mk (below_step (by repeat (first | (with_reducible first | exact HB.out | apply below_alloc | apply pw_below_drewN | apply below_drew1 | refine below_set ?_ GE181.out) | exact HB.out)) hb); have n2_ := Aside0.mk (hbox); have n3_ := Aside0.mk ((by rw [hg]; exact (below_size (by repeat (first | (with_reducible first | exact HB.out | apply below_alloc | apply pw_below_drewN | apply below_drew1 | refine below_set ?_ GE181.out) | exact HB.out))) : w.heap.size ≤ gb182)); have n4_ := Aside0.mk ((by rw [hg]; exact (below_size (by repeat (first | (with_reducible first | exact HB.out | apply below_alloc | apply pw_below_drewN | apply below_drew1 | refine below_set ?_ GE181.out) | exact HB.out))) : w.heap.size ≤ gb182)); have n5_ := Aside0.mk ((by rw [hg]; exact Nat.ne_of_lt (blk_lt (g := gb181) (o := .cells #[.slice A0_0 l0_0.length c0_0, .slice A0_1 l0_1.length c0_1] 25 (0, 0)) (by (with_reducible repeat (first | refine blk_drewN ?_ _ | refine blk_drew ?_ | refine blk_alloc ?_ _)); exact BK181.out)) : gb181 ≠ gb182)); have n6_ := Aside0.mk ((by rw [hg]; exact Nat.ne_of_gt (blk_lt (g := gb181) (o := .cells #[.slice A0_0 l0_0.length c0_0, .slice A0_1 l0_1.length c0_1] 25 (0, 0)) (by (with_reducible repeat (first | refine blk_drewN ?_ _ | refine blk_drew ?_ | refine blk_alloc ?_ _)); exact BK181.out)) : gb182 ≠ gb181)); clear BK181; clear HB; have BK181 := n0_; have HB := n1_; have BK182 := n2_; have GW182 := n3_; have GE182 := n4_; have NB181_182 := n5_; have NB182_181 := n6_; clear n0_ n1_ n2_ n3_ n4_ n5_ n6_; clear hb hbox hg; have hnb10 := NB181_182.out; have hnc10 := NB182_181.out; have hcz11_0 : w9.cell? ⟨gb181, 0, none⟩ = some (.slice A0_0 l0_0.length c0_0) := (blk_cell BK181.out 0).trans rfl; have hcz11_1 : w9.cell? ⟨gb181, 1, none⟩ = some (.slice A0_1 l0_1.length c0_1) := (blk_cell BK181.out 1).trans rfl; have hfz11_0 := blk_frozen BK181.out 0; have hfz11_1 := blk_frozen BK181.out 1) | ((with_reducible refine gate_callee (f := 120) rfl ?_); refine goesL_ (some 11) rfl rfl Try.func120 (by kernel_rfl) rfl #[.agg #[.slice A0_0 l0_0.length c0_0, .slice A0_1 l0_1.length c0_1], .int .i64 a1] rfl (by (try simp only [List.map_toArray, List.map_cons, List.map_nil]); first | done | rfl | (simp only [List.length_drop, List.length_take]; rfl)) ?_; (with_reducible refine (catamaranref05_asked.calls k _ _ l0_0 _ _ l0_1 a1 t183 _ ?side1 ?side2 ?side3 ?side4 A4.out).mono ?_); (case side1 => repeat (first | exact (Kd.C_below HR0_0.out HB.out) | (with_reducible refine Kd.C_alloc ?_ _) | (with_reducible refine Kd.C_drewN ?_ _) | (with_reducible refine Kd.C_drew ?_))); (case side2 => exact HC0_0.out); (case side3 => repeat (first | exact (Kd.C_below HR0_1.out HB.out) | (with_reducible refine Kd.C_alloc ?_ _) | (with_reducible refine Kd.C_drewN ?_ _) | (with_reducible refine Kd.C_drew ?_))); (case side4 => exact HC0_1.out); rintro e w12 ⟨rfl, hb⟩; refine ⟨_, rfl, ?_⟩; have n0_ := Aside0.mk (blk_below (g := gb181) (o := .cells #[.slice A0_0 l0_0.length c0_0, .slice A0_1 l0_1.length c0_1] 25 (0, 0)) (by (with_reducible repeat (first | refine blk_drewN ?_ _ | refine blk_drew ?_ | refine blk_alloc ?_ _)); exact BK181.out) hb); have n1_ := Aside0.mk (blk_below (g := gb182) (o := .cells #[.slice none 0 0, .slice none 0 0] 25 (0, 0)) (by (with_reducible repeat (first | refine blk_drewN ?_ _ | refine blk_drew ?_ | refine blk_alloc ?_ _)); exact BK182.out) hb); have n2_ := Aside0.mk (below_step (by repeat (first | (with_reducible first | exact HB.out | apply below_alloc | apply pw_below_drewN | apply below_drew1 | refine below_set ?_ GE181.out | refine below_set ?_ GE182.out) | exact HB.out)) hb); clear BK181; clear BK182; clear HB; have BK181 := n0_; have BK182 := n1_; have HB := n2_; clear n0_ n1_ n2_; (try clear hb); (try clear hb2); (try clear hk); (try clear hi); have hcz13_0 : w12.cell? ⟨gb181, 0, none⟩ = some (.slice A0_0 l0_0.length c0_0) := (blk_cell BK181.out 0).trans rfl; have hcz13_1 : w12.cell? ⟨gb181, 1, none⟩ = some (.slice A0_1 l0_1.length c0_1) := (blk_cell BK181.out 1).trans rfl; have hfz13_0 := blk_frozen BK181.out 0; have hfz13_1 := blk_frozen BK181.out 1; have hcz14_0 : w12.cell? ⟨gb182, 0, none⟩ = some (.slice none 0 0) := (blk_cell BK182.out 0).trans rfl; have hcz14_1 : w12.cell? ⟨gb182, 1, none⟩ = some (.slice none 0 0) := (blk_cell BK182.out 1).trans rfl; have hfz14_0 := blk_frozen BK182.out 0; have hfz14_1 := blk_frozen BK182.out 1))
        refine bodyPost_ret (results_ct rfl _ _ gb182 25 #[.slice none 0 0, .slice none 0 0] (0, 0) _ rfl (by (with_reducible repeat (first | refine blk_drewN ?_ _ | refine blk_drew ?_ | refine blk_alloc ?_ _)); refine blk_put (cs := #[.slice none 0 0, .slice none 0 0]) ?_ 1 _ rfl; (with_reducible repeat (first | refine blk_drewN ?_ _ | refine blk_drew ?_ | refine blk_alloc ?_ _)); refine blk_put (cs := #[.slice none 0 0, .slice none 0 0]) ?_ 0 _ rfl; (with_reducible repeat (first | refine blk_drewN ?_ _ | refine blk_drew ?_ | refine blk_alloc ?_ _)); exact BK182.out) Try.underlying25 rfl (by kernel_rfl)) rfl ?_
        exact ⟨_, _, by first | rfl | (simp [errW_none, errW_some] <;> rfl) | (simp [*, errW_none, errW_some] <;> rfl), by first | exact Kd.S_nil _ _ _ _ _ | exact Kd.N_nil _ _ _ _ _ | exact Kd.V_nil _ _ _ _ _ | exact Kd.Q_nil _ _ _ _ _ | exact Kd.R_nil _ _ _ _ _, by first | exact Kd.S_nil _ _ _ _ _ | exact Kd.N_nil _ _ _ _ _ | exact Kd.V_nil _ _ _ _ _ | exact Kd.Q_nil _ _ _ _ _ | exact Kd.R_nil _ _ _ _ _, by repeat (first | (with_reducible first | exact HB.out | apply below_alloc | apply pw_below_drewN | apply below_drew1 | refine below_set ?_ GE181.out | refine below_set ?_ GE182.out) | exact HB.out)⟩
      · rw [if_neg c7] at H
        have c7b0 : decide (64 ≤ (l0_1.length : Int)) = false := decide_eq_false c7
        have c7b1 : decide (64 ≤ l0_1.length) = false := decide_eq_false (by omega)
        clear c7
        replace H := Option.bind_eq_some_iff.mp H
        obtain ⟨⟨t184, t187⟩, A150, H⟩ := H
        replace H : (some (t184, t187, 0)) = some (r1, r2, r3) := H
        have A15 := Aside0.mk A150
        clear A150
        simp only [Option.some.injEq, Prod.mk.injEq] at H
        obtain ⟨rfl, rfl, rfl⟩ := H
        go_enter Try.func33, Try.ntmps33
        go_wp2_with (first | ((with_reducible refine gate_dst (N := 3) rfl ?_); refine box_event ?hg (N := 3) ?hd (cs := #[.slice A0_0 l0_0.length c0_0, .slice A0_1 l0_1.length c0_1]) (t := 25) ?hr ?_; (case hd => rfl); (case hg => rfl); (case hr => first | (go_simp; done) | (go_simp; rfl)); intro gb181 hg w16 hbox hb; have n0_ := Aside0.mk (below_step (by repeat (first | (with_reducible first | exact HB.out | apply below_alloc | apply pw_below_drewN | apply below_drew1) | exact HB.out)) hb); have n1_ := Aside0.mk (hbox); have n2_ := Aside0.mk ((by rw [hg]; exact (below_size (by repeat (first | (with_reducible first | exact HB.out | apply below_alloc | apply pw_below_drewN | apply below_drew1) | exact HB.out))) : w.heap.size ≤ gb181)); have n3_ := Aside0.mk ((by rw [hg]; exact (below_size (by repeat (first | (with_reducible first | exact HB.out | apply below_alloc | apply pw_below_drewN | apply below_drew1) | exact HB.out))) : w.heap.size ≤ gb181)); clear HB; have HB := n0_; have BK181 := n1_; have GW181 := n2_; have GE181 := n3_; clear n0_ n1_ n2_ n3_; clear hb hbox hg) | ((with_reducible refine gate_dst (N := 6) rfl ?_); refine box_event ?hg (N := 6) ?hd (cs := #[.slice none 0 0, .slice none 0 0]) (t := 25) ?hr ?_; (case hd => rfl); (case hg => rfl); (case hr => first | (go_simp; done) | (go_simp; rfl)); intro gb182 hg w17 hbox hb; have n0_ := Aside0.mk (blk_below (g := gb181) (o := .cells #[.slice A0_0 l0_0.length c0_0, .slice A0_1 l0_1.length c0_1] 25 (0, 0)) (by (with_reducible repeat (first | refine blk_drewN ?_ _ | refine blk_drew ?_ | refine blk_alloc ?_ _)); exact BK181.out) hb); have n1_ := Aside0.mk (below_step (by repeat (first | (with_reducible first | exact HB.out | apply below_alloc | apply pw_below_drewN | apply below_drew1 | refine below_set ?_ GE181.out) | exact HB.out)) hb); have n2_ := Aside0.mk (hbox); have n3_ := Aside0.mk ((by rw [hg]; exact (below_size (by repeat (first | (with_reducible first | exact HB.out | apply below_alloc | apply pw_below_drewN | apply below_drew1 | refine below_set ?_ GE181.out) | exact HB.out))) : w.heap.size ≤ gb182)); have n4_ := Aside0.mk ((by rw [hg]; exact (below_size (by repeat (first | (with_reducible first | exact HB.out | apply below_alloc | apply pw_below_drewN | apply below_drew1 | refine below_set ?_ GE181.out) | exact HB.out))) : w.heap.size ≤ gb182)); have n5_ := Aside0.mk ((by rw [hg]; exact Nat.ne_of_lt (blk_lt (g := gb181) (o := .cells #[.slice A0_0 l0_0.length c0_0, .slice A0_1 l0_1.length c0_1] 25 (0, 0)) (by (with_reducible repeat (first | refine blk_drewN ?_ _ | refine blk_drew ?_ | refine blk_alloc ?_ _)); exact BK181.out)) : gb181 ≠ gb182)); have n6_ := Aside0.mk ((by rw [hg]; exact Nat.ne_of_gt (blk_lt (g := gb181) (o := .cells #[.slice A0_0 l0_0.length c0_0, .slice A0_1 l0_1.length c0_1] 25 (0, 0)) (by (with_reducible repeat (first | refine blk_drewN ?_ _ | refine blk_drew ?_ | refine blk_alloc ?_ _)); exact BK181.out)) : gb182 ≠ gb181)); clear BK181; clear HB; have BK181 := n0_; have HB := n1_; have BK182 := n2_; have GW182 := n3_; have GE182 := n4_; have NB181_182 := n5_; have NB182_181 := n6_; clear n0_ n1_ n2_ n3_ n4_ n5_ n6_; clear hb hbox hg; have hnb18 := NB181_182.out; have hnc18 := NB182_181.out; have hcz19_0 : w17.cell? ⟨gb181, 0, none⟩ = some (.slice A0_0 l0_0.length c0_0) := (blk_cell BK181.out 0).trans rfl; have hcz19_1 : w17.cell? ⟨gb181, 1, none⟩ = some (.slice A0_1 l0_1.length c0_1) := (blk_cell BK181.out 1).trans rfl; have hfz19_0 := blk_frozen BK181.out 0; have hfz19_1 := blk_frozen BK181.out 1) | ((with_reducible refine gate_callee (f := 120) rfl ?_); refine goesL_ (some 11) rfl rfl Try.func120 (by kernel_rfl) rfl #[.agg #[.slice A0_0 l0_0.length c0_0, .slice A0_1 l0_1.length c0_1], .int .i64 a1] rfl (by (try simp only [List.map_toArray, List.map_cons, List.map_nil]); first | done | rfl | (simp only [List.length_drop, List.length_take]; rfl)) ?_; (with_reducible refine (catamaranref05_asked.calls k _ _ l0_0 _ _ l0_1 a1 t183 _ ?side1 ?side2 ?side3 ?side4 A4.out).mono ?_); (case side1 => repeat (first | exact (Kd.C_below HR0_0.out HB.out) | (with_reducible refine Kd.C_alloc ?_ _) | (with_reducible refine Kd.C_drewN ?_ _) | (with_reducible refine Kd.C_drew ?_))); (case side2 => exact HC0_0.out); (case side3 => repeat (first | exact (Kd.C_below HR0_1.out HB.out) | (with_reducible refine Kd.C_alloc ?_ _) | (with_reducible refine Kd.C_drewN ?_ _) | (with_reducible refine Kd.C_drew ?_))); (case side4 => exact HC0_1.out); rintro e w20 ⟨rfl, hb⟩; refine ⟨_, rfl, ?_⟩; have n0_ := Aside0.mk (blk_below (g := gb181) (o := .cells #[.slice A0_0 l0_0.length c0_0, .slice A0_1 l0_1.length c0_1] 25 (0, 0)) (by (with_reducible repeat (first | refine blk_drewN ?_ _ | refine blk_drew ?_ | refine blk_alloc ?_ _)); exact BK181.out) hb); have n1_ := Aside0.mk (blk_below (g := gb182) (o := .cells #[.slice none 0 0, .slice none 0 0] 25 (0, 0)) (by (with_reducible repeat (first | refine blk_drewN ?_ _ | refine blk_drew ?_ | refine blk_alloc ?_ _)); exact BK182.out) hb); have n2_ := Aside0.mk (below_step (by repeat (first | (with_reducible first | exact HB.out | apply below_alloc | apply pw_below_drewN | apply below_drew1 | refine below_set ?_ GE181.out | refine below_set ?_ GE182.out) | exact HB.out)) hb); clear BK181; clear BK182; clear HB; have BK181 := n0_; have BK182 := n1_; have HB := n2_; clear n0_ n1_ n2_; (try clear hb); (try clear hb2); (try clear hk); (try clear hi); have hcz21_0 : w20.cell? ⟨gb181, 0, none⟩ = some (.slice A0_0 l0_0.length c0_0) := (blk_cell BK181.out 0).trans rfl; have hcz21_1 : w20.cell? ⟨gb181, 1, none⟩ = some (.slice A0_1 l0_1.length c0_1) := (blk_cell BK181.out 1).trans rfl; have hfz21_0 := blk_frozen BK181.out 0; have hfz21_1 := blk_frozen BK181.out 1) | ((with_reducible refine gate_callee (f := 121) rfl ?_); refine goesL_ (some 28) rfl rfl Try.func121 (by kernel_rfl) rfl #[.agg #[.slice A0_0 l0_0.length c0_0, .slice A0_1 l0_1.length c0_1], .int .i64 a1, .slice A2 l2.length c2] rfl (by (try simp only [List.map_toArray, List.map_cons, List.map_nil]); first | done | rfl | (simp only [List.length_drop, List.length_take]; rfl)) ?_; (with_reducible refine (catamaranref05_With.calls k _ _ l0_0 _ _ l0_1 a1 _ _ l2 t184 t187 _ ?side1 ?side2 ?side3 ?side4 ?side5 ?side6 A15.out).mono ?_); (case side1 => repeat (first | exact (Kd.C_below HR0_0.out HB.out) | (with_reducible refine Kd.C_alloc ?_ _) | (with_reducible refine Kd.C_drewN ?_ _) | (with_reducible refine Kd.C_drew ?_))); (case side2 => exact HC0_0.out); (case side3 => repeat (first | exact (Kd.C_below HR0_1.out HB.out) | (with_reducible refine Kd.C_alloc ?_ _) | (with_reducible refine Kd.C_drewN ?_ _) | (with_reducible refine Kd.C_drew ?_))); (case side4 => exact HC0_1.out); (case side5 => repeat (first | exact (Kd.C_below HR2.out HB.out) | (with_reducible refine Kd.C_alloc ?_ _) | (with_reducible refine Kd.C_drewN ?_ _) | (with_reducible refine Kd.C_drew ?_))); (case side6 => exact HC2.out); rintro e w22 ⟨v185, v188, rfl, ho0, ho1, hb⟩; refine ⟨_, rfl, ?_⟩; have n0_ := Aside0.mk (Kd.S_lower ho0 (below_size (by repeat (first | (with_reducible first | exact HB.out | apply below_alloc | apply pw_below_drewN | apply below_drew1 | refine below_set ?_ GE181.out | refine below_set ?_ GE182.out) | exact HB.out)))); have n1_ := Aside0.mk (Kd.S_lower ho1 (below_size (by repeat (first | (with_reducible first | exact HB.out | apply below_alloc | apply pw_below_drewN | apply below_drew1 | refine below_set ?_ GE181.out | refine below_set ?_ GE182.out) | exact HB.out)))); have n2_ := Aside0.mk (blk_below (g := gb181) (o := .cells #[.slice A0_0 l0_0.length c0_0, .slice A0_1 l0_1.length c0_1] 25 (0, 0)) (by (with_reducible repeat (first | refine blk_drewN ?_ _ | refine blk_drew ?_ | refine blk_alloc ?_ _)); exact BK181.out) hb); have n3_ := Aside0.mk (blk_below (g := gb182) (o := .cells #[.slice none 0 0, .slice none 0 0] 25 (0, 0)) (by (with_reducible repeat (first | refine blk_drewN ?_ _ | refine blk_drew ?_ | refine blk_alloc ?_ _)); exact BK182.out) hb); have n4_ := Aside0.mk (below_step (by repeat (first | (with_reducible first | exact HB.out | apply below_alloc | apply pw_below_drewN | apply below_drew1 | refine below_set ?_ GE181.out | refine below_set ?_ GE182.out) | exact HB.out)) hb); clear BK181; clear BK182; clear HB; have HO186 := n0_; have HO189 := n1_; have BK181 := n2_; have BK182 := n3_; have HB := n4_; clear n0_ n1_ n2_ n3_ n4_; (try clear hb); (try clear hb2); (try clear hk); (try clear hi); (try clear ho0); (try clear ho1); obtain ⟨Ao23, co23, eo23⟩ := Kd.S_slice HO186.out; subst eo23; have hcz24_0 : w22.cell? ⟨gb182, 0, none⟩ = some (.slice none 0 0) := (blk_cell BK182.out 0).trans rfl; have hcz24_1 : w22.cell? ⟨gb182, 1, none⟩ = some (.slice none 0 0) := (blk_cell BK182.out 1).trans rfl; have hfz24_0 := blk_frozen BK182.out 0; have hfz24_1 := blk_frozen BK182.out 1; obtain ⟨Ao25, co25, eo25⟩ := Kd.S_slice HO189.out; subst eo25))
        refine bodyPost_ret (results_ct rfl _ _ gb182 25 #[.slice Ao23 t184.length co23, .slice Ao25 t187.length co25] (0, 0) _ rfl (by (with_reducible repeat (first | refine blk_drewN ?_ _ | refine blk_drew ?_ | refine blk_alloc ?_ _)); refine blk_put (cs := #[.slice Ao23 t184.length co23, .slice none 0 0]) ?_ 1 _ rfl; (with_reducible repeat (first | refine blk_drewN ?_ _ | refine blk_drew ?_ | refine blk_alloc ?_ _)); refine blk_put (cs := #[.slice none 0 0, .slice none 0 0]) ?_ 0 _ rfl; (with_reducible repeat (first | refine blk_drewN ?_ _ | refine blk_drew ?_ | refine blk_alloc ?_ _)); exact BK182.out) Try.underlying25 rfl (by kernel_rfl)) rfl ?_
        exact ⟨_, _, by first | rfl | (simp [errW_none, errW_some] <;> rfl) | (simp [*, errW_none, errW_some] <;> rfl), by (with_reducible repeat (first | apply Kd.S_alloc | apply Kd.S_drewN | apply Kd.S_drew)); exact Kd.S_mono (Kd.S_far (p := ⟨gb182, 1, none⟩) (Kd.S_far (p := ⟨gb182, 0, none⟩) (Kd.S_types HO186.out BK182.out (by decide)) (fun _ hk => hk.2) (.slice Ao23 t184.length co23)) (fun _ hk => hk.2) (.slice Ao25 t187.length co25)) (fun _ hk => trivial), by (with_reducible repeat (first | apply Kd.S_alloc | apply Kd.S_drewN | apply Kd.S_drew)); exact Kd.S_mono (Kd.S_far (p := ⟨gb182, 1, none⟩) (Kd.S_far (p := ⟨gb182, 0, none⟩) (Kd.S_types HO189.out BK182.out (by decide)) (fun _ hk => hk.2) (.slice Ao23 t184.length co23)) (fun _ hk => hk.2) (.slice Ao25 t187.length co25)) (fun _ hk => trivial), by repeat (first | (with_reducible first | exact HB.out | apply below_alloc | apply pw_below_drewN | apply below_drew1 | refine below_set ?_ GE181.out | refine below_set ?_ GE182.out) | exact HB.out)⟩
    · rw [if_neg c6] at H
      have c6b0 : ((l2.length : Int) == 32) = false := beq_eq_false_iff_ne.mpr c6
      have c6b1 : ((l2.length : Int) != 32) = true := bne_iff_ne.mpr c6
      simp only [Option.some.injEq, Prod.mk.injEq] at H
      obtain ⟨rfl, rfl, rfl⟩ := H
      go_enter Try.func33, Try.ntmps33
      go_wp2_with (first | ((with_reducible refine gate_dst (N := 3) rfl ?_); refine box_event ?hg (N := 3) ?hd (cs := #[.slice A0_0 l0_0.length c0_0, .slice A0_1 l0_1.length c0_1]) (t := 25) ?hr ?_; (case hd => rfl); (case hg => rfl); (case hr => first | (go_simp; done) | (go_simp; rfl)); intro gb181 hg w26 hbox hb; have n0_ := Aside0.mk (below_step (by repeat (first | (with_reducible first | exact HB.out | apply below_alloc | apply pw_below_drewN | apply below_drew1) | exact HB.out)) hb); have n1_ := Aside0.mk (hbox); have n2_ := Aside0.mk ((by rw [hg]; exact (below_size (by repeat (first | (with_reducible first | exact HB.out | apply below_alloc | apply pw_below_drewN | apply below_drew1) | exact HB.out))) : w.heap.size ≤ gb181)); have n3_ := Aside0.mk ((by rw [hg]; exact (below_size (by repeat (first | (with_reducible first | exact HB.out | apply below_alloc | apply pw_below_drewN | apply below_drew1) | exact HB.out))) : w.heap.size ≤ gb181)); clear HB; have HB := n0_; have BK181 := n1_; have GW181 := n2_; have GE181 := n3_; clear n0_ n1_ n2_ n3_; clear hb hbox hg) | ((with_reducible refine gate_dst (N := 6) rfl ?_); refine box_event ?hg (N := 6) ?hd (cs := #[.slice none 0 0, .slice none 0 0]) (t := 25) ?hr ?_; (case hd => rfl); (case hg => rfl); (case hr => first | (go_simp; done) | (go_simp; rfl)); intro gb182 hg w27 hbox hb; have n0_ := Aside0.mk (blk_below (g := gb181) (o := .cells #[.slice A0_0 l0_0.length c0_0, .slice A0_1 l0_1.length c0_1] 25 (0, 0)) (by (with_reducible repeat (first | refine blk_drewN ?_ _ | refine blk_drew ?_ | refine blk_alloc ?_ _)); exact BK181.out) hb); have n1_ := Aside0.mk (below_step (by repeat (first | (with_reducible first | exact HB.out | apply below_alloc | apply pw_below_drewN | apply below_drew1 | refine below_set ?_ GE181.out) | exact HB.out)) hb); have n2_ := Aside0.mk (hbox); have n3_ := Aside0.mk ((by rw [hg]; exact (below_size (by repeat (first | (with_reducible first | exact HB.out | apply below_alloc | apply pw_below_drewN | apply below_drew1 | refine below_set ?_ GE181.out) | exact HB.out))) : w.heap.size ≤ gb182)); have n4_ := Aside0.mk ((by rw [hg]; exact (below_size (by repeat (first | (with_reducible first | exact HB.out | apply below_alloc | apply pw_below_drewN | apply below_drew1 | refine below_set ?_ GE181.out) | exact HB.out))) : w.heap.size ≤ gb182)); have n5_ := Aside0.mk ((by rw [hg]; exact Nat.ne_of_lt (blk_lt (g := gb181) (o := .cells #[.slice A0_0 l0_0.length c0_0, .slice A0_1 l0_1.length c0_1] 25 (0, 0)) (by (with_reducible repeat (first | refine blk_drewN ?_ _ | refine blk_drew ?_ | refine blk_alloc ?_ _)); exact BK181.out)) : gb181 ≠ gb182)); have n6_ := Aside0.mk ((by rw [hg]; exact Nat.ne_of_gt (blk_lt (g := gb181) (o := .cells #[.slice A0_0 l0_0.length c0_0, .slice A0_1 l0_1.length c0_1] 25 (0, 0)) (by (with_reducible repeat (first | refine blk_drewN ?_ _ | refine blk_drew ?_ | refine blk_alloc ?_ _)); exact BK181.out)) : gb182 ≠ gb181)); clear BK181; clear HB; have BK181 := n0_; have HB := n1_; have BK182 := n2_; have GW182 := n3_; have GE182 := n4_; have NB181_182 := n5_; have NB182_181 := n6_; clear n0_ n1_ n2_ n3_ n4_ n5_ n6_; clear hb hbox hg; have hnb28 := NB181_182.out; have hnc28 := NB182_181.out; have hcz29_0 : w27.cell? ⟨gb181, 0, none⟩ = some (.slice A0_0 l0_0.length c0_0) := (blk_cell BK181.out 0).trans rfl; have hcz29_1 : w27.cell? ⟨gb181, 1, none⟩ = some (.slice A0_1 l0_1.length c0_1) := (blk_cell BK181.out 1).trans rfl; have hfz29_0 := blk_frozen BK181.out 0; have hfz29_1 := blk_frozen BK181.out 1) | ((with_reducible refine gate_callee (f := 120) rfl ?_); refine goesL_ (some 11) rfl rfl Try.func120 (by kernel_rfl) rfl #[.agg #[.slice A0_0 l0_0.length c0_0, .slice A0_1 l0_1.length c0_1], .int .i64 a1] rfl (by (try simp only [List.map_toArray, List.map_cons, List.map_nil]); first | done | rfl | (simp only [List.length_drop, List.length_take]; rfl)) ?_; (with_reducible refine (catamaranref05_asked.calls k _ _ l0_0 _ _ l0_1 a1 t183 _ ?side1 ?side2 ?side3 ?side4 A4.out).mono ?_); (case side1 => repeat (first | exact (Kd.C_below HR0_0.out HB.out) | (with_reducible refine Kd.C_alloc ?_ _) | (with_reducible refine Kd.C_drewN ?_ _) | (with_reducible refine Kd.C_drew ?_))); (case side2 => exact HC0_0.out); (case side3 => repeat (first | exact (Kd.C_below HR0_1.out HB.out) | (with_reducible refine Kd.C_alloc ?_ _) | (with_reducible refine Kd.C_drewN ?_ _) | (with_reducible refine Kd.C_drew ?_))); (case side4 => exact HC0_1.out); rintro e w30 ⟨rfl, hb⟩; refine ⟨_, rfl, ?_⟩; have n0_ := Aside0.mk (blk_below (g := gb181) (o := .cells #[.slice A0_0 l0_0.length c0_0, .slice A0_1 l0_1.length c0_1] 25 (0, 0)) (by (with_reducible repeat (first | refine blk_drewN ?_ _ | refine blk_drew ?_ | refine blk_alloc ?_ _)); exact BK181.out) hb); have n1_ := Aside0.mk (blk_below (g := gb182) (o := .cells #[.slice none 0 0, .slice none 0 0] 25 (0, 0)) (by (with_reducible repeat (first | refine blk_drewN ?_ _ | refine blk_drew ?_ | refine blk_alloc ?_ _)); exact BK182.out) hb); have n2_ := Aside0.mk (below_step (by repeat (first | (with_reducible first | exact HB.out | apply below_alloc | apply pw_below_drewN | apply below_drew1 | refine below_set ?_ GE181.out | refine below_set ?_ GE182.out) | exact HB.out)) hb); clear BK181; clear BK182; clear HB; have BK181 := n0_; have BK182 := n1_; have HB := n2_; clear n0_ n1_ n2_; (try clear hb); (try clear hb2); (try clear hk); (try clear hi); have hcz31_0 : w30.cell? ⟨gb182, 0, none⟩ = some (.slice none 0 0) := (blk_cell BK182.out 0).trans rfl; have hcz31_1 : w30.cell? ⟨gb182, 1, none⟩ = some (.slice none 0 0) := (blk_cell BK182.out 1).trans rfl; have hfz31_0 := blk_frozen BK182.out 0; have hfz31_1 := blk_frozen BK182.out 1))
      refine bodyPost_ret (results_ct rfl _ _ gb182 25 #[.slice none 0 0, .slice none 0 0] (0, 0) _ rfl (by (with_reducible repeat (first | refine blk_drewN ?_ _ | refine blk_drew ?_ | refine blk_alloc ?_ _)); refine blk_put (cs := #[.slice none 0 0, .slice none 0 0]) ?_ 1 _ rfl; (with_reducible repeat (first | refine blk_drewN ?_ _ | refine blk_drew ?_ | refine blk_alloc ?_ _)); refine blk_put (cs := #[.slice none 0 0, .slice none 0 0]) ?_ 0 _ rfl; (with_reducible repeat (first | refine blk_drewN ?_ _ | refine blk_drew ?_ | refine blk_alloc ?_ _)); exact BK182.out) Try.underlying25 rfl (by kernel_rfl)) rfl ?_
      exact ⟨_, _, by first | rfl | (simp [errW_none, errW_some] <;> rfl) | (simp [*, errW_none, errW_some] <;> rfl), by first | exact Kd.S_nil _ _ _ _ _ | exact Kd.N_nil _ _ _ _ _ | exact Kd.V_nil _ _ _ _ _ | exact Kd.Q_nil _ _ _ _ _ | exact Kd.R_nil _ _ _ _ _, by first | exact Kd.S_nil _ _ _ _ _ | exact Kd.N_nil _ _ _ _ _ | exact Kd.V_nil _ _ _ _ _ | exact Kd.Q_nil _ _ _ _ _ | exact Kd.R_nil _ _ _ _ _, by repeat (first | (with_reducible first | exact HB.out | apply below_alloc | apply pw_below_drewN | apply below_drew1 | refine below_set ?_ GE181.out | refine below_set ?_ GE182.out) | exact HB.out)⟩
  · rw [if_neg c5] at H
    have c5b0 : (t183 == 0) = false := beq_eq_false_iff_ne.mpr c5
    have c5b1 : (t183 != 0) = true := bne_iff_ne.mpr c5
    simp only [Option.some.injEq, Prod.mk.injEq] at H
    obtain ⟨rfl, rfl, rfl⟩ := H
    go_enter Try.func33, Try.ntmps33
    go_wp2_with (first | ((with_reducible refine gate_dst (N := 3) rfl ?_); refine box_event ?hg (N := 3) ?hd (cs := #[.slice A0_0 l0_0.length c0_0, .slice A0_1 l0_1.length c0_1]) (t := 25) ?hr ?_; (case hd => rfl); (case hg => rfl); (case hr => first | (go_simp; done) | (go_simp; rfl)); intro gb181 hg w32 hbox hb; have n0_ := Aside0.mk (below_step (by repeat (first | (with_reducible first | exact HB.out | apply below_alloc | apply pw_below_drewN | apply below_drew1) | exact HB.out)) hb); have n1_ := Aside0.mk (hbox); have n2_ := Aside0.mk ((by rw [hg]; exact (below_size (by repeat (first | (with_reducible first | exact HB.out | apply below_alloc | apply pw_below_drewN | apply below_drew1) | exact HB.out))) : w.heap.size ≤ gb181)); have n3_ := Aside0.mk ((by rw [hg]; exact (below_size (by repeat (first | (with_reducible first | exact HB.out | apply below_alloc | apply pw_below_drewN | apply below_drew1) | exact HB.out))) : w.heap.size ≤ gb181)); clear HB; have HB := n0_; have BK181 := n1_; have GW181 := n2_; have GE181 := n3_; clear n0_ n1_ n2_ n3_; clear hb hbox hg) | ((with_reducible refine gate_dst (N := 6) rfl ?_); refine box_event ?hg (N := 6) ?hd (cs := #[.slice none 0 0, .slice none 0 0]) (t := 25) ?hr ?_; (case hd => rfl); (case hg => rfl); (case hr => first | (go_simp; done) | (go_simp; rfl)); intro gb182 hg w33 hbox hb; have n0_ := Aside0.mk (blk_below (g := gb181) (o := .cells #[.slice A0_0 l0_0.length c0_0, .slice A0_1 l0_1.length c0_1] 25 (0, 0)) (by (with_reducible repeat (first | refine blk_drewN ?_ _ | refine blk_drew ?_ | refine blk_alloc ?_ _)); exact BK181.out) hb); have n1_ := Aside0.mk (below_step (by repeat (first | (with_reducible first | exact HB.out | apply below_alloc | apply pw_below_drewN | apply below_drew1 | refine below_set ?_ GE181.out) | exact HB.out)) hb); have n2_ := Aside0.mk (hbox); have n3_ := Aside0.mk ((by rw [hg]; exact (below_size (by repeat (first | (with_reducible first | exact HB.out | apply below_alloc | apply pw_below_drewN | apply below_drew1 | refine below_set ?_ GE181.out) | exact HB.out))) : w.heap.size ≤ gb182)); have n4_ := Aside0.mk ((by rw [hg]; exact (below_size (by repeat (first | (with_reducible first | exact HB.out | apply below_alloc | apply pw_below_drewN | apply below_drew1 | refine below_set ?_ GE181.out) | exact HB.out))) : w.heap.size ≤ gb182)); have n5_ := Aside0.mk ((by rw [hg]; exact Nat.ne_of_lt (blk_lt (g := gb181) (o := .cells #[.slice A0_0 l0_0.length c0_0, .slice A0_1 l0_1.length c0_1] 25 (0, 0)) (by (with_reducible repeat (first | refine blk_drewN ?_ _ | refine blk_drew ?_ | refine blk_alloc ?_ _)); exact BK181.out)) : gb181 ≠ gb182)); have n6_ := Aside0.mk ((by rw [hg]; exact Nat.ne_of_gt (blk_lt (g := gb181) (o := .cells #[.slice A0_0 l0_0.length c0_0, .slice A0_1 l0_1.length c0_1] 25 (0, 0)) (by (with_reducible repeat (first | refine blk_drewN ?_ _ | refine blk_drew ?_ | refine blk_alloc ?_ _)); exact BK181.out)) : gb182 ≠ gb181)); clear BK181; clear HB; have BK181 := n0_; have HB := n1_; have BK182 := n2_; have GW182 := n3_; have GE182 := n4_; have NB181_182 := n5_; have NB182_181 := n6_; clear n0_ n1_ n2_ n3_ n4_ n5_ n6_; clear hb hbox hg; have hnb34 := NB181_182.out; have hnc34 := NB182_181.out; have hcz35_0 : w33.cell? ⟨gb181, 0, none⟩ = some (.slice A0_0 l0_0.length c0_0) := (blk_cell BK181.out 0).trans rfl; have hcz35_1 : w33.cell? ⟨gb181, 1, none⟩ = some (.slice A0_1 l0_1.length c0_1) := (blk_cell BK181.out 1).trans rfl; have hfz35_0 := blk_frozen BK181.out 0; have hfz35_1 := blk_frozen BK181.out 1) | ((with_reducible refine gate_callee (f := 120) rfl ?_); refine goesL_ (some 11) rfl rfl Try.func120 (by kernel_rfl) rfl #[.agg #[.slice A0_0 l0_0.length c0_0, .slice A0_1 l0_1.length c0_1], .int .i64 a1] rfl (by (try simp only [List.map_toArray, List.map_cons, List.map_nil]); first | done | rfl | (simp only [List.length_drop, List.length_take]; rfl)) ?_; (with_reducible refine (catamaranref05_asked.calls k _ _ l0_0 _ _ l0_1 a1 t183 _ ?side1 ?side2 ?side3 ?side4 A4.out).mono ?_); (case side1 => repeat (first | exact (Kd.C_below HR0_0.out HB.out) | (with_reducible refine Kd.C_alloc ?_ _) | (with_reducible refine Kd.C_drewN ?_ _) | (with_reducible refine Kd.C_drew ?_))); (case side2 => exact HC0_0.out); (case side3 => repeat (first | exact (Kd.C_below HR0_1.out HB.out) | (with_reducible refine Kd.C_alloc ?_ _) | (with_reducible refine Kd.C_drewN ?_ _) | (with_reducible refine Kd.C_drew ?_))); (case side4 => exact HC0_1.out); rintro e w36 ⟨rfl, hb⟩; refine ⟨_, rfl, ?_⟩; have n0_ := Aside0.mk (blk_below (g := gb181) (o := .cells #[.slice A0_0 l0_0.length c0_0, .slice A0_1 l0_1.length c0_1] 25 (0, 0)) (by (with_reducible repeat (first | refine blk_drewN ?_ _ | refine blk_drew ?_ | refine blk_alloc ?_ _)); exact BK181.out) hb); have n1_ := Aside0.mk (blk_below (g := gb182) (o := .cells #[.slice none 0 0, .slice none 0 0] 25 (0, 0)) (by (with_reducible repeat (first | refine blk_drewN ?_ _ | refine blk_drew ?_ | refine blk_alloc ?_ _)); exact BK182.out) hb); have n2_ := Aside0.mk (below_step (by repeat (first | (with_reducible first | exact HB.out | apply below_alloc | apply pw_below_drewN | apply below_drew1 | refine below_set ?_ GE181.out | refine below_set ?_ GE182.out) | exact HB.out)) hb); clear BK181; clear BK182; clear HB; have BK181 := n0_; have BK182 := n1_; have HB := n2_; clear n0_ n1_ n2_; (try clear hb); (try clear hb2); (try clear hk); (try clear hi); have hcz37_0 : w36.cell? ⟨gb182, 0, none⟩ = some (.slice none 0 0) := (blk_cell BK182.out 0).trans rfl; have hcz37_1 : w36.cell? ⟨gb182, 1, none⟩ = some (.slice none 0 0) := (blk_cell BK182.out 1).trans rfl; have hfz37_0 := blk_frozen BK182.out 0; have hfz37_1 := blk_frozen BK182.out 1))
    refine bodyPost_ret (results_ct rfl _ _ gb182 25 #[.slice none 0 0, .slice none 0 0] (0, 0) _ rfl (by (with_reducible repeat (first | refine blk_drewN ?_ _ | refine blk_drew ?_ | refine blk_alloc ?_ _)); refine blk_put (cs := #[.slice none 0 0, .slice none 0 0]) ?_ 1 _ rfl; (with_reducible repeat (first | refine blk_drewN ?_ _ | refine blk_drew ?_ | refine blk_alloc ?_ _)); refine blk_put (cs := #[.slice none 0 0, .slice none 0 0]) ?_ 0 _ rfl; (with_reducible repeat (first | refine blk_drewN ?_ _ | refine blk_drew ?_ | refine blk_alloc ?_ _)); exact BK182.out) Try.underlying25 rfl (by kernel_rfl)) rfl ?_
    exact ⟨_, _, by first | rfl | (simp [errW_none, errW_some] <;> rfl) | (simp [*, errW_none, errW_some] <;> rfl), by first | exact Kd.S_nil _ _ _ _ _ | exact Kd.N_nil _ _ _ _ _ | exact Kd.V_nil _ _ _ _ _ | exact Kd.Q_nil _ _ _ _ _ | exact Kd.R_nil _ _ _ _ _, by first | exact Kd.S_nil _ _ _ _ _ | exact Kd.N_nil _ _ _ _ _ | exact Kd.V_nil _ _ _ _ _ | exact Kd.Q_nil _ _ _ _ _ | exact Kd.R_nil _ _ _ _ _, by repeat (first | (with_reducible first | exact HB.out | apply below_alloc | apply pw_below_drewN | apply below_drew1 | refine below_set ?_ GE181.out | refine below_set ?_ GE182.out) | exact HB.out)⟩
end Go.Proofs.Ytjlohdbkjoofcaa.P
end
section
set_option linter.unusedVariables false
set_option linter.unusedSimpArgs false
namespace Go.Proofs.Ytjlohdbkjoofcaa.P
open Go.RowKit Go.Proofs.PrintWords Go.Proofs.PrintLast Go.Proofs.PrintMore
attribute [local go_sem] max2_int min2_int max_two min_two max_three min_three max_four min_four
theorem rd52_at {l : List S52} {n : Nat} (hn : n < l.length) : rd_T52 l (n : Int) = l[n] := by unfold rd_T52; rw [List.getD_eq_getElem?_getD]; simp [hn]
theorem rd65_at {l : List S65} {n : Nat} (hn : n < l.length) : rd_T65 l (n : Int) = l[n] := by unfold rd_T65; rw [List.getD_eq_getElem?_getD]; simp [hn]
theorem rd_at {l : List Int} {n : Nat} (hn : n < l.length) : rd l (n : Int) = l[n] := by unfold rd; rw [List.getD_eq_getElem?_getD]; simp [hn]
theorem wrap_succ {n : Nat} (h : n ≤ 1000000000) : wrap64 ((n : Int) + 1) = ((n + 1 : Nat) : Int) := by unfold wrap64; omega
theorem great_l1 (l0 : List S52) (l1 : List S65) (m : Int) : ∀ (d k n : Nat), 100 ≤ n + d → n ≤ 100 → 2 * d + 2 ≤ k → ∃ b, catamaranref05_Great.l1 k m (n : Int) l0 l1 = some b ∧ (b = false → (l0.length : Int) ≤ m ∧ l1.length ≤ 100 ∧ ∀ i, n ≤ i → (hi : i < l1.length) → (l1[i]).f1.length ≤ 100)
  | d, k, n, h, h2, hk => by
    obtain ⟨k, rfl⟩ : ∃ k', k = k' + 2 := ⟨k - 2, by omega⟩
    unfold catamaranref05_Great.l1
    by_cases hn : n < l1.length
    · rw [if_pos (by omega)]
      unfold catamaranref05_Great.j3
      by_cases h100 : n < 100
      · rw [if_pos (by simp; omega), if_pos (by omega), if_pos (by omega), rd65_at hn]
        by_cases hb : ((l1[n]).f1.length : Int) > 100
        · rw [if_pos hb]
          exact ⟨true, rfl, fun h => by cases h⟩
        · rw [if_neg hb, wrap_succ (by omega)]
          obtain ⟨b, e, hbb⟩ := great_l1 l0 l1 m (d - 1) k (n + 1) (by omega) (by omega) (by omega)
          refine ⟨b, e, fun h => ?_⟩
          obtain ⟨p1, p2, p3⟩ := hbb h
          refine ⟨p1, p2, fun i hi hil => ?_⟩
          by_cases hin : i = n
          · subst hin; omega
          · exact p3 i (by omega) hil
      · rw [if_neg (by simp; omega)]
        by_cases hl : (l0.length : Int) > m
        · rw [if_pos hl]; exact ⟨true, rfl, fun h => by cases h⟩
        · rw [if_neg hl]
          exact ⟨_, rfl, fun h => by have := of_decide_eq_false h; omega⟩
    · rw [if_neg (by omega)]
      unfold catamaranref05_Great.j3
      rw [if_neg (by simp)]
      by_cases hl : (l0.length : Int) > m
      · rw [if_pos hl]; exact ⟨true, rfl, fun h => by cases h⟩
      · rw [if_neg hl]
        exact ⟨_, rfl, fun h => by have := of_decide_eq_false h; exact ⟨by omega, by omega, fun i hi hil => by omega⟩⟩
set_option maxRecDepth 20000 in
theorem great_l0 (l0 : List S52) (l1 : List S65) (m : Nat) (hm : m ≤ 1000) : ∀ (d k n : Nat), m ≤ n + d → n ≤ m → 2 * d + 204 ≤ k → ∃ b, catamaranref05_Great.l0 k (m : Int) (n : Int) l0 l1 = some b ∧ (b = false → l0.length ≤ m ∧ l1.length ≤ 100 ∧ (∀ i, n ≤ i → (hi : i < l0.length) → (l0[i]).f0.length ≤ 100) ∧ ∀ p ∈ l1, p.f1.length ≤ 100)
  | d, k, n, h, h2, hk => by
    obtain ⟨k, rfl⟩ : ∃ k', k = k' + 2 := ⟨k - 2, by omega⟩
    have hend : ∃ b, catamaranref05_Great.l1 k (m : Int) 0 l0 l1 = some b ∧ (b = false → l0.length ≤ m ∧ l1.length ≤ 100 ∧ ∀ p ∈ l1, p.f1.length ≤ 100) := by
      obtain ⟨b, e, hb⟩ := great_l1 l0 l1 m 100 k 0 (by omega) (by omega) (by omega)
      refine ⟨b, e, fun h => ?_⟩
      obtain ⟨p1, p2, p3⟩ := hb h
      refine ⟨by omega, p2, fun p hp => ?_⟩
      obtain ⟨i, hi, rfl⟩ := List.mem_iff_getElem.1 hp
      exact p3 i (by omega) hi
    unfold catamaranref05_Great.l0
    by_cases hn : n < l0.length
    · rw [if_pos (by omega)]
      unfold catamaranref05_Great.j1
      by_cases h100 : n < m
      · rw [if_pos (by simp; omega), if_pos (by omega), if_pos (by omega), rd52_at hn]
        by_cases hb : ((l0[n]).f0.length : Int) > 100
        · rw [if_pos hb]
          exact ⟨true, rfl, fun h => by cases h⟩
        · rw [if_neg hb, wrap_succ (by omega)]
          obtain ⟨b, e, hbb⟩ := great_l0 l0 l1 m hm (d - 1) k (n + 1) (by omega) (by omega) (by omega)
          refine ⟨b, e, fun h => ?_⟩
          obtain ⟨p1, p2, p3, p4⟩ := hbb h
          refine ⟨p1, p2, fun i hi hil => ?_, p4⟩
          by_cases hin : i = n
          · subst hin; omega
          · exact p3 i (by omega) hil
      · rw [if_neg (by simp; omega)]
        obtain ⟨b, e, hb⟩ := hend
        exact ⟨b, e, fun h => by obtain ⟨p1, p2, p3⟩ := hb h; exact ⟨p1, p2, fun i hi hil => by omega, p3⟩⟩
    · rw [if_neg (by omega)]
      unfold catamaranref05_Great.j1
      rw [if_neg (by simp)]
      obtain ⟨b, e, hb⟩ := great_l1 l0 l1 m 100 k 0 (by omega) (by omega) (by omega)
      refine ⟨b, e, fun h => ?_⟩
      obtain ⟨p1, p2, p3⟩ := hb h
      refine ⟨by omega, p2, fun i hi hil => by omega, fun p hp => ?_⟩
      obtain ⟨i, hi, rfl⟩ := List.mem_iff_getElem.1 hp
      exact p3 i (by omega) hi
theorem great_is (l0 : List S52) (l1 : List S65) (m : Nat) (hm : m ≤ 1000) (k : Nat) (hk : 2 * m + 204 ≤ k) : ∃ b, catamaranref05_Great.f k l0 l1 (m : Int) = some b ∧ (b = false → l0.length ≤ m ∧ l1.length ≤ 100 ∧ (∀ s ∈ l0, s.f0.length ≤ 100) ∧ ∀ p ∈ l1, p.f1.length ≤ 100) := by
  obtain ⟨b, e, hb⟩ := great_l0 l0 l1 m hm m k 0 (by omega) (by omega) hk
  refine ⟨b, e, fun h => ?_⟩
  obtain ⟨p1, p2, p3, p4⟩ := hb h
  refine ⟨p1, p2, fun p hp => ?_, p4⟩
  obtain ⟨i, hi, rfl⟩ := List.mem_iff_getElem.1 hp
  exact p3 i (by omega) hi
def byteL (b : List Int) : Prop := ∀ n ∈ b, 0 ≤ n ∧ n ≤ 255
def bytesD (l0 : List S52) (l1 : List S65) : Prop := (∀ s ∈ l0, byteL s.f0) ∧ ∀ p ∈ l1, byteL p.f1
theorem lastP_snoc (l : List S65) (p : S65) (a : Int) : lastP (l ++ [p]) a = if p.f0 = a then some p else lastP l a := by
  unfold lastP
  rw [List.reverse_append]
  simp only [List.reverse_cons, List.reverse_nil, List.nil_append, List.singleton_append, List.find?_cons]
  by_cases h : p.f0 = a
  · simp [h]
  · rw [if_neg h, (beq_eq_false_iff_ne.2 h)]
end Go.Proofs.Ytjlohdbkjoofcaa.P
end
section
set_option linter.unusedVariables false
set_option linter.unusedSimpArgs false
namespace Go.Proofs.Ytjlohdbkjoofcaa.P
open Go.RowKit Go.Proofs.PrintWords Go.Proofs.PrintLast Go.Proofs.PrintMore
attribute [local go_sem] max2_int min2_int max_two min_two max_three min_three max_four min_four
def fateOf (l : List S52) (p : S65) (f : Int) : List S52 := if Int.tmod f 3 = 1 then l.set p.f0.toNat ⟨p.f1, false⟩ else if Int.tmod f 3 = 2 then l.set p.f0.toNat ⟨zero32, true⟩ else l
def crashTo (l0 : List S52) (l1 : List S65) (fates : List Int) : Nat → List S52
  | 0 => l0
  | k + 1 => fateOf (crashTo l0 l1 fates k) (rd_T65 l1 (k : Int)) (rd fates (k : Int))
theorem fateOf_length (l : List S52) (p : S65) (f : Int) : (fateOf l p f).length = l.length := by
  unfold fateOf
  split
  · exact List.length_set ..
  · split
    · exact List.length_set ..
    · rfl
theorem crashTo_length (l0 : List S52) (l1 : List S65) (fates : List Int) : ∀ k, (crashTo l0 l1 fates k).length = l0.length
  | 0 => rfl
  | k + 1 => (fateOf_length _ _ _).trans (crashTo_length l0 l1 fates k)
def dBehind (l0 : List S52) (l1 : List S65) (fates : List Int) : List S52 := crashTo l0 l1 fates (min l1.length fates.length)
theorem dBehind_length (l0 : List S52) (l1 : List S65) (fates : List Int) : (dBehind l0 l1 fates).length = l0.length := crashTo_length ..
def dCrash (l0 : List S52) (l1 : List S65) (fates : List Int) : List S52 × List S65 × Int := if okDisk l0 l1 = true then (dBehind l0 l1 fates, [], 0) else ([], [], 8)
def dFlush (l0 : List S52) (l1 : List S65) : List S52 × List S65 × Int := dCrash l0 l1 (List.replicate l1.length 1)
theorem okSec_pend {l0 : List S52} {l1 : List S65} (h : okDisk l0 l1 = true) {p : S65} (hp : p ∈ l1) : okSec ⟨p.f1, false⟩ = true := by
  have := (okDisk_pend h p hp).1
  simp [okSec, okLen, this]
theorem okSec_bad : okSec ⟨zero32, true⟩ = true := by simp [okSec, okLen, zero32]
theorem okDisk_all {l0 : List S52} {l1 : List S65} (h : okDisk l0 l1 = true) (s : S52) (hs : s ∈ l0) : okSec s = true := by
  simp only [okDisk, Bool.and_eq_true, List.all_eq_true] at h
  exact h.1.2 s hs
theorem fateOf_all {q : S52 → Prop} {l : List S52} {p : S65} {f : Int} (hl : ∀ s ∈ l, q s) (h1 : q ⟨p.f1, false⟩) (h2 : q ⟨zero32, true⟩) : ∀ s ∈ fateOf l p f, q s := by
  intro s hs
  unfold fateOf at hs
  split at hs
  · rcases List.mem_or_eq_of_mem_set hs with h | rfl
    · exact hl s h
    · exact h1
  · split at hs
    · rcases List.mem_or_eq_of_mem_set hs with h | rfl
      · exact hl s h
      · exact h2
    · exact hl s hs
theorem crashTo_all {q : S52 → Prop} {l0 : List S52} {l1 : List S65} (fates : List Int) (hl : ∀ s ∈ l0, q s) (h1 : ∀ p ∈ l1, q ⟨p.f1, false⟩) (h2 : q ⟨zero32, true⟩) : ∀ k, k ≤ l1.length → ∀ s ∈ crashTo l0 l1 fates k, q s
  | 0, _ => hl
  | k + 1, hk => fateOf_all (crashTo_all fates hl h1 h2 k (by omega)) (h1 _ (by rw [rd65_at (by omega : k < l1.length)]; exact List.getElem_mem _)) h2
theorem dBehind_all {q : S52 → Prop} {l0 : List S52} {l1 : List S65} (fates : List Int) (hl : ∀ s ∈ l0, q s) (h1 : ∀ p ∈ l1, q ⟨p.f1, false⟩) (h2 : q ⟨zero32, true⟩) : ∀ s ∈ dBehind l0 l1 fates, q s := crashTo_all fates hl h1 h2 _ (Nat.min_le_left _ _)
theorem dBehind_ok {l0 : List S52} {l1 : List S65} (fates : List Int) (h : okDisk l0 l1 = true) : okDisk (dBehind l0 l1 fates) [] = true := by
  have hl := okDisk_len h
  have ha := dBehind_all (q := fun s => okSec s = true) fates (okDisk_all h) (fun p hp => okSec_pend h hp) okSec_bad
  unfold okDisk
  rw [dBehind_length]
  simp only [Bool.and_eq_true, decide_eq_true_eq, List.all_eq_true]
  exact ⟨⟨⟨⟨hl.1, hl.2.1⟩, by simp⟩, ha⟩, by simp⟩
theorem flush_at {l0 : List S52} {l1 : List S65} {fates : List Int} (h : ∀ p ∈ l1, 0 ≤ p.f0 ∧ p.f0 < l0.length) (a : Nat) : ∀ k, k ≤ l1.length → (∀ j, j < k → rd fates (j : Int) = 1) → (crashTo l0 l1 fates k)[a]? = match lastP (l1.take k) (a : Int) with | some p => some ⟨p.f1, false⟩ | none => l0[a]?
  | 0, _, _ => rfl
  | k + 1, hk, hf => by
    have hk' : k < l1.length := by omega
    have hm := List.getElem_mem hk'
    have ih := flush_at h a k (by omega) (fun j hj => hf j (by omega))
    have hz := crashTo_length l0 l1 fates k
    have hb := h _ hm
    unfold crashTo
    rw [rd65_at hk', hf k (by omega), List.take_succ_eq_append_getElem hk', lastP_snoc]
    unfold fateOf
    rw [if_pos (by decide)]
    by_cases e : (l1[k]).f0 = (a : Int)
    · rw [if_pos e, show (l1[k]).f0.toNat = a by omega, List.getElem?_set_self (by omega)]
    · rw [if_neg e, List.getElem?_set_ne (by omega)]
      exact ih
theorem dFlush_at {l0 : List S52} {l1 : List S65} (h : okDisk l0 l1 = true) (a : Nat) : (dBehind l0 l1 (List.replicate l1.length 1))[a]? = match lastP l1 (a : Int) with | some p => some ⟨p.f1, false⟩ | none => l0[a]? := by
  unfold dBehind
  rw [List.length_replicate, Nat.min_self, flush_at (fun p hp => (okDisk_pend h p hp).2) a l1.length (Nat.le_refl _) (fun j hj => by rw [rd_at (by rw [List.length_replicate]; exact hj), List.getElem_replicate]), List.take_length]
end Go.Proofs.Ytjlohdbkjoofcaa.P
end
section
set_option linter.unusedVariables false
set_option linter.unusedSimpArgs false
namespace Go.Proofs.Ytjlohdbkjoofcaa.P
open Go.RowKit Go.Proofs.PrintWords Go.Proofs.PrintLast Go.Proofs.PrintMore
attribute [local go_sem] max2_int min2_int max_two min_two max_three min_three max_four min_four
structure Btw (lo hi : Nat) (w w' : World) : Prop where
  os : w'.os = w.os
  tape : w'.tape = w.tape
  output : w'.output = w.output
  size : w.heap.size ≤ w'.heap.size
  block : ∀ k, k < w.heap.size → (k < lo ∨ hi ≤ k) → w'.heap[k]? = w.heap[k]?
theorem Btw.refl (lo hi : Nat) (w : World) : Btw lo hi w w := ⟨rfl, rfl, rfl, Nat.le_refl _, fun _ _ _ => rfl⟩
theorem Btw.trans {lo hi : Nat} {a b c : World} (h : Btw lo hi a b) (k : Btw lo hi b c) : Btw lo hi a c :=
  ⟨k.os.trans h.os, k.tape.trans h.tape, k.output.trans h.output, Nat.le_trans h.size k.size, fun i hi ho => (k.block i (Nat.lt_of_lt_of_le hi h.size) ho).trans (h.block i hi ho)⟩
theorem Btw.alloc {lo hi : Nat} {a w : World} (h : Btw lo hi a w) (o : Obj) : Btw lo hi a (w.alloc o) :=
  h.trans ⟨rfl, rfl, rfl, by simp, fun k hk _ => Below.heap_alloc _ _ _ hk⟩
theorem Btw.drew {lo hi : Nat} {a w : World} (h : Btw lo hi a w) : Btw lo hi a w.drew := ⟨h.os, h.tape, h.output, h.size, h.block⟩
theorem Btw.set {lo hi : Nat} {a w : World} (h : Btw lo hi a w) {p : Addr} (h1 : lo ≤ p.block) (h2 : p.block < hi) (u : Value) : Btw lo hi a (w.setCell p u) :=
  h.trans ⟨rfl, rfl, rfl, by simp [World.setCell], fun k hk ho => Below.heap_setCell _ _ _ _ (by omega)⟩
theorem Btw.below {lo hi : Nat} {a w : World} (h : Btw lo hi a w) (hl : lo ≤ a.heap.size) : Below lo a w := ⟨h.os, h.tape, h.output, h.size, fun k hk => h.block k (by omega) (.inl hk)⟩
def ByteRow (w : World) (lo hi : Nat) (A : Option Addr) (n : Nat) : Prop :=
  n ≤ 9223372036854775807 ∧ (0 < n → ∃ g cs, A = some ⟨g, 0, none⟩ ∧ lo ≤ g ∧ g < hi ∧ w.heap[g]? = some (.cells cs 5 (0, 0)) ∧ ∀ i, i < n → ∃ x, cs[i]? = some (.int .u8 x))
theorem ByteRow.set {w : World} {lo hi : Nat} {A : Option Addr} {n : Nat} (h : ByteRow w lo hi A n) {g i : Nat} {cs : Array Value} (hb : w.heap[g]? = some (.cells cs 5 (0, 0))) (x : Int) : ByteRow (w.setCell ⟨g, i, none⟩ (.int .u8 x)) lo hi A n := by
  refine ⟨h.1, fun hn => ?_⟩
  obtain ⟨g', cs', rfl, h1, h2, h3, h4⟩ := h.2 hn
  by_cases hg : g' = g
  · subst hg
    rw [hb] at h3
    injection h3 with h3
    injection h3 with h3 _ _
    subst h3
    refine ⟨g', _, rfl, h1, h2, blk_set hb i _, fun j hj => ?_⟩
    obtain ⟨y, hy⟩ := h4 j hj
    rw [Array.getElem?_setIfInBounds]
    split
    · rename_i e
      subst e
      rw [if_pos (Array.getElem?_eq_some_iff.1 hy).1]
      exact ⟨x, rfl⟩
    · exact ⟨y, hy⟩
  · exact ⟨g', cs', rfl, h1, h2, blk_far h3 hg _, h4⟩
theorem ByteRow.far {w : World} {lo hi : Nat} {A : Option Addr} {n : Nat} (h : ByteRow w lo hi A n) {p : Addr} {t : Nat} {cs : Array Value} (hb : w.heap[p.block]? = some (.cells cs t (0, 0))) (ht : t ≠ 5) (u : Value) : ByteRow (w.setCell p u) lo hi A n := by
  refine ⟨h.1, fun hn => ?_⟩
  obtain ⟨g', cs', rfl, h1, h2, h3, h4⟩ := h.2 hn
  exact ⟨g', cs', rfl, h1, h2, blk_far h3 (fun e => by subst e; rw [hb] at h3; injection h3 with h3; injection h3 with _ h3 _; exact ht h3) _, h4⟩
theorem ByteRow.mono {w : World} {lo hi lo' hi' : Nat} {A : Option Addr} {n : Nat} (h : ByteRow w lo hi A n) (h1 : lo' ≤ lo) (h2 : hi ≤ hi') : ByteRow w lo' hi' A n :=
  ⟨h.1, fun hn => by obtain ⟨g, cs, e, a, b, c, d⟩ := h.2 hn; exact ⟨g, cs, e, by omega, by omega, c, d⟩⟩
def SecRow (w : World) (lo hi : Nat) (A : Option Addr) (n : Nat) : Prop :=
  n ≤ 9223372036854775807 ∧ (0 < n → ∃ g cs, A = some ⟨g, 0, none⟩ ∧ lo ≤ g ∧ g < hi ∧ w.heap[g]? = some (.cells cs 52 (0, 0)) ∧ ∀ i, i < n → ∃ A' m c b, cs[i * 2]? = some (.slice A' m c) ∧ cs[i * 2 + 1]? = some (.bool b) ∧ ByteRow w lo hi A' m)
def PendRow (w : World) (lo hi : Nat) (A : Option Addr) (n : Nat) : Prop :=
  n ≤ 9223372036854775807 ∧ (0 < n → ∃ g cs, A = some ⟨g, 0, none⟩ ∧ lo ≤ g ∧ g < hi ∧ w.heap[g]? = some (.cells cs 65 (0, 0)) ∧ ∀ i, i < n → ∃ x A' m c, cs[i * 2]? = some (.int .i64 x) ∧ cs[i * 2 + 1]? = some (.slice A' m c) ∧ ByteRow w lo hi A' m)
section
variable {w w' : World} {lo hi : Nat} {A : Option Addr} {n : Nat}
theorem SecRow.set (h : SecRow w lo hi A n) {g i : Nat} {cs : Array Value} (hb : w.heap[g]? = some (.cells cs 5 (0, 0))) (x : Int) : SecRow (w.setCell ⟨g, i, none⟩ (.int .u8 x)) lo hi A n := by
  refine ⟨h.1, fun hn => ?_⟩
  obtain ⟨g', cs', e, h1, h2, h3, h4⟩ := h.2 hn
  refine ⟨g', cs', e, h1, h2, blk_far h3 (fun e => by subst e; rw [hb] at h3; injection h3 with h3; injection h3 with _ h3 _; cases h3) _, fun j hj => ?_⟩
  obtain ⟨A', m, c, b, c0, c1, hr⟩ := h4 j hj
  exact ⟨A', m, c, b, c0, c1, hr.set hb x⟩
theorem PendRow.set (h : PendRow w lo hi A n) {g i : Nat} {cs : Array Value} (hb : w.heap[g]? = some (.cells cs 5 (0, 0))) (x : Int) : PendRow (w.setCell ⟨g, i, none⟩ (.int .u8 x)) lo hi A n := by
  refine ⟨h.1, fun hn => ?_⟩
  obtain ⟨g', cs', e, h1, h2, h3, h4⟩ := h.2 hn
  refine ⟨g', cs', e, h1, h2, blk_far h3 (fun e => by subst e; rw [hb] at h3; injection h3 with h3; injection h3 with _ h3 _; cases h3) _, fun j hj => ?_⟩
  obtain ⟨x', A', m, c, c0, c1, hr⟩ := h4 j hj
  exact ⟨x', A', m, c, c0, c1, hr.set hb x⟩
end
theorem rows_at {α : Type} {R : α → List Value → Prop} {xs : List α} {inner : List Value} (h : Reps R 2 xs inner) {cur : Array Value} {k : Nat} (hp : inner = cur.toList.take k) {i : Nat} (hi : i < xs.length) :
    ∃ u v, R (xs[i]) [u, v] ∧ cur[i * 2]? = some u ∧ cur[i * 2 + 1]? = some v := by
  have hr := h.2 i _ (List.getElem?_eq_getElem hi)
  have hl : i * 2 + 2 ≤ inner.length := by rw [h.1]; omega
  have e : (inner.drop (i * 2)).take 2 = [inner[i * 2], inner[i * 2 + 1]] := by
    rw [List.drop_eq_getElem_cons (by omega), List.drop_eq_getElem_cons (by omega)]
    rfl
  rw [e] at hr
  have key : ∀ j (hj : j < inner.length), cur[j]? = some inner[j] := by
    intro j hj
    have : (cur.toList.take k)[j]? = some inner[j] := by rw [← hp]; exact List.getElem?_eq_getElem hj
    rw [List.getElem?_take] at this
    split at this
    · rw [← Array.getElem?_toList]; exact this
    · cases this
  exact ⟨_, _, hr, key _ (by omega), key _ (by omega)⟩
end Go.Proofs.Ytjlohdbkjoofcaa.P
end
section
set_option linter.unusedVariables false
set_option linter.unusedSimpArgs false
namespace Go.Proofs.Ytjlohdbkjoofcaa.P
open Go.RowKit Go.Proofs.PrintWords Go.Proofs.PrintLast Go.Proofs.PrintMore
attribute [local go_sem] max2_int min2_int max_two min_two max_three min_three max_four min_four
def ByteVal (w : World) (lo : Nat) (A : Option Addr) (b : List Int) : Prop :=
  b.length ≤ 9223372036854775807 ∧ (0 < b.length → ∃ g cs, A = some ⟨g, 0, none⟩ ∧ lo ≤ g ∧ w.heap[g]? = some (.cells cs 5 (0, 0)) ∧ ∀ i, i < b.length → cs[i]? = some (.int .u8 (b.getD i 0)))
def SecVal (w : World) (lo : Nat) (A : Option Addr) (l : List S52) : Prop :=
  l.length ≤ 9223372036854775807 ∧ (0 < l.length → ∃ g cs, A = some ⟨g, 0, none⟩ ∧ lo ≤ g ∧ w.heap[g]? = some (.cells cs 52 (0, 0)) ∧ ∀ i s, l[i]? = some s → ∃ A' c, cs[i * 2]? = some (.slice A' s.f0.length c) ∧ cs[i * 2 + 1]? = some (.bool s.f1) ∧ s.f0.length ≤ c ∧ ByteVal w lo A' s.f0)
def PendVal (w : World) (lo : Nat) (A : Option Addr) (l : List S65) : Prop :=
  l.length ≤ 9223372036854775807 ∧ (0 < l.length → ∃ g cs, A = some ⟨g, 0, none⟩ ∧ lo ≤ g ∧ w.heap[g]? = some (.cells cs 65 (0, 0)) ∧ ∀ i s, l[i]? = some s → ∃ A' c, cs[i * 2]? = some (.int .i64 s.f0) ∧ cs[i * 2 + 1]? = some (.slice A' s.f1.length c) ∧ s.f1.length ≤ c ∧ ByteVal w lo A' s.f1)
section
variable {w w' : World} {lo : Nat} {A : Option Addr}
theorem ByteVal.of_R {base : Nat} {ok : Nat → Prop} {v : Value} {xs : List Int} (h : (Kd.int .u8).R 5 w base ok v xs) : ∃ A c, v = .slice A xs.length c ∧ xs.length ≤ c ∧ ByteVal w base A xs := by
  obtain ⟨A, c, rfl, hc, hr⟩ := Kd.R_reads h
  refine ⟨A, c, rfl, hc, hr.2.1, fun hn => ?_⟩
  obtain ⟨_, inner, ho, hrep⟩ := h
  rcases ho.2 with ⟨e, hi⟩ | ⟨g, cap, cur, he, hb, hh, h1, h2, h3, h4⟩
  · injection e with _ e _
    omega
  · injection he with he _ _
    subst he
    refine ⟨g, cur, rfl, hb, hh, fun i hi => ?_⟩
    obtain ⟨ad, cs, e, hl, hK, hcs⟩ := Kd.C_get hr (0 : Int) (i : Int) (by omega) (by omega)
    injection e with e
    subst e
    have hK : cs = [.int .u8 (xs.getD (i : Int).toNat 0)] := hK
    subst hK
    have := hcs 0 _ rfl
    rw [add_plain, blk_cell hh] at this
    simpa [Kd.int, Kd.scalar] using this
theorem ByteVal.C {b : List Int} (h : ByteVal w lo A b) : (Kd.int .u8).C w A b.length b := by
  refine ⟨rfl, h.1, fun hn => ?_⟩
  obtain ⟨g, cs, rfl, _, hb, hc⟩ := h.2 hn
  refine ⟨_, rfl, fun j p hj => ⟨[.int .u8 p], rfl, rfl, fun i u hu => ?_⟩⟩
  have hi : i = 0 := by
    have := (List.getElem?_eq_some_iff.1 hu).1
    simpa using this
  subst hi
  have hu : u = .int .u8 p := by simpa using hu.symm
  subst hu
  have hlt := (List.getElem?_eq_some_iff.1 hj).1
  have := hc j hlt
  rw [add_plain, blk_cell hb]
  simp only [Kd.int, Kd.scalar, Nat.mul_one, Nat.add_zero, Nat.zero_add]
  rw [this, List.getD_eq_getElem?_getD, hj]
  rfl
theorem ByteVal.below {b : List Int} (h : ByteVal w lo A b) (hb : Below w.heap.size w w') : ByteVal w' lo A b :=
  ⟨h.1, fun hn => by obtain ⟨g, cs, e, a, c, d⟩ := h.2 hn; exact ⟨g, cs, e, a, blk_below c hb, d⟩⟩
theorem ByteVal.far {b : List Int} (h : ByteVal w lo A b) {p : Addr} {t : Nat} {cs : Array Value} (hb : w.heap[p.block]? = some (.cells cs t (0, 0))) (ht : t ≠ 5) (u : Value) : ByteVal (w.setCell p u) lo A b :=
  ⟨h.1, fun hn => by
    obtain ⟨g, cs', e, a, c, d⟩ := h.2 hn
    exact ⟨g, cs', e, a, blk_far c (fun e => by subst e; rw [hb] at c; injection c with c; injection c with _ c _; exact ht c) _, d⟩⟩
theorem ByteVal.lower {b : List Int} {lo' : Nat} (h : ByteVal w lo A b) (hl : lo' ≤ lo) : ByteVal w lo' A b :=
  ⟨h.1, fun hn => by obtain ⟨g, cs, e, a, c, d⟩ := h.2 hn; exact ⟨g, cs, e, Nat.le_trans hl a, c, d⟩⟩
theorem PendVal.of_S {base : Nat} {ok : Nat → Prop} {v : Value} {xs : List S65} (h : Kd.S k65 65 w base ok v xs) : ∃ A c, v = .slice A xs.length c ∧ xs.length ≤ c ∧ PendVal w base A xs := by
  obtain ⟨A, c, rfl, hc, hrd⟩ := Kd.S_reads h
  refine ⟨A, c, rfl, hc, hrd.2.1, fun hn => ?_⟩
  obtain ⟨_, inner, ho, hr⟩ := Kd.S_R h
  rcases ho.2 with ⟨e, hi⟩ | ⟨g, cap, cur, he, hb, hh, h1, h2, h3, h4⟩
  · omega
  · injection he with he _ _
    subst he
    refine ⟨g, cur, rfl, hb, hh, fun i s hs => ?_⟩
    obtain ⟨hi, rfl⟩ := List.getElem?_eq_some_iff.1 hs
    obtain ⟨u, v, hM, c0, c1⟩ := rows_at (show Reps (k65.M w base _) 2 xs inner from hr) h4.symm hi
    obtain ⟨v0, e, hR⟩ := k65_openM hM
    injection e with e1 e
    injection e with e2 _
    subst e1 e2
    obtain ⟨A', c', rfl, hc', hb'⟩ := ByteVal.of_R hR
    exact ⟨A', c', c0, c1, hc', hb'⟩
theorem SecVal.C {l : List S52} (h : SecVal w lo A l) : k52.C w A l.length l := by
  refine ⟨rfl, h.1, fun hn => ?_⟩
  obtain ⟨g, cs, rfl, _, hb, hc⟩ := h.2 hn
  refine ⟨_, rfl, fun j s hj => ?_⟩
  obtain ⟨A', c, c0, c1, hl, hv⟩ := hc j s hj
  refine ⟨[.slice A' s.f0.length c, .bool s.f1], rfl, k52_mk w s hl hv.C, fun i u hu => ?_⟩
  rw [add_plain, blk_cell hb]
  match i, hu with
  | 0, hu => rw [show j * k52.sz + 0 = j * 2 from rfl, c0]; simpa using hu
  | 1, hu => rw [show j * k52.sz + 1 = j * 2 + 1 from rfl, c1]; simpa using hu
  | i + 2, hu => simp at hu
theorem PendVal.C {l : List S65} (h : PendVal w lo A l) : k65.C w A l.length l := by
  refine ⟨rfl, h.1, fun hn => ?_⟩
  obtain ⟨g, cs, rfl, _, hb, hc⟩ := h.2 hn
  refine ⟨_, rfl, fun j s hj => ?_⟩
  obtain ⟨A', c, c0, c1, hl, hv⟩ := hc j s hj
  refine ⟨[.int .i64 s.f0, .slice A' s.f1.length c], rfl, k65_mk w s hl hv.C, fun i u hu => ?_⟩
  rw [add_plain, blk_cell hb]
  match i, hu with
  | 0, hu => rw [show j * k65.sz + 0 = j * 2 from rfl, c0]; simpa using hu
  | 1, hu => rw [show j * k65.sz + 1 = j * 2 + 1 from rfl, c1]; simpa using hu
  | i + 2, hu => simp at hu
theorem SecVal.below {l : List S52} (h : SecVal w lo A l) (hb : Below w.heap.size w w') : SecVal w' lo A l :=
  ⟨h.1, fun hn => by
    obtain ⟨g, cs, e, a, b, d⟩ := h.2 hn
    refine ⟨g, cs, e, a, blk_below b hb, fun i s hs => ?_⟩
    obtain ⟨A', c, c0, c1, hl, hv⟩ := d i s hs
    exact ⟨A', c, c0, c1, hl, hv.below hb⟩⟩
theorem PendVal.below {l : List S65} (h : PendVal w lo A l) (hb : Below w.heap.size w w') : PendVal w' lo A l :=
  ⟨h.1, fun hn => by
    obtain ⟨g, cs, e, a, b, d⟩ := h.2 hn
    refine ⟨g, cs, e, a, blk_below b hb, fun i s hs => ?_⟩
    obtain ⟨A', c, c0, c1, hl, hv⟩ := d i s hs
    exact ⟨A', c, c0, c1, hl, hv.below hb⟩⟩
theorem SecVal.far {l : List S52} (h : SecVal w lo A l) {p : Addr} {t : Nat} {cs : Array Value} (hb : w.heap[p.block]? = some (.cells cs t (0, 0))) (h5 : t ≠ 5) (h52 : t ≠ 52) (u : Value) : SecVal (w.setCell p u) lo A l :=
  ⟨h.1, fun hn => by
    obtain ⟨g, cs', e, a, b, d⟩ := h.2 hn
    refine ⟨g, cs', e, a, blk_far b (fun e => by subst e; rw [hb] at b; injection b with b; injection b with _ b _; exact h52 b) _, fun i s hs => ?_⟩
    obtain ⟨A', c, c0, c1, hl, hv⟩ := d i s hs
    exact ⟨A', c, c0, c1, hl, hv.far hb h5 u⟩⟩
theorem PendVal.far {l : List S65} (h : PendVal w lo A l) {p : Addr} {t : Nat} {cs : Array Value} (hb : w.heap[p.block]? = some (.cells cs t (0, 0))) (h5 : t ≠ 5) (h65 : t ≠ 65) (u : Value) : PendVal (w.setCell p u) lo A l :=
  ⟨h.1, fun hn => by
    obtain ⟨g, cs', e, a, b, d⟩ := h.2 hn
    refine ⟨g, cs', e, a, blk_far b (fun e => by subst e; rw [hb] at b; injection b with b; injection b with _ b _; exact h65 b) _, fun i s hs => ?_⟩
    obtain ⟨A', c, c0, c1, hl, hv⟩ := d i s hs
    exact ⟨A', c, c0, c1, hl, hv.far hb h5 u⟩⟩
theorem SecVal.put {l : List S52} {g i : Nat} (h : SecVal w lo (some ⟨g, 0, none⟩) l) (hi : i < l.length) {s : S52} {A' : Option Addr} {c : Nat} (hc : s.f0.length ≤ c) (hv : ByteVal w lo A' s.f0) :
    SecVal ((w.setCell ⟨g, i * 2, none⟩ (.slice A' s.f0.length c)).setCell ⟨g, i * 2 + 1, none⟩ (.bool s.f1)) lo (some ⟨g, 0, none⟩) (l.set i s) := by
  refine ⟨by rw [List.length_set]; exact h.1, fun hn => ?_⟩
  obtain ⟨g', cs, e, a, b, d⟩ := h.2 (by omega)
  have hg : g' = g := by injection e with e; injection e with e; exact e.symm
  subst hg
  have b1 := blk_set b (i * 2) (.slice A' s.f0.length c)
  have b2 := blk_set b1 (i * 2 + 1) (.bool s.f1)
  have keep : ∀ {A'' : Option Addr} {x : List Int}, ByteVal w lo A'' x → ByteVal ((w.setCell ⟨g', i * 2, none⟩ (.slice A' s.f0.length c)).setCell ⟨g', i * 2 + 1, none⟩ (.bool s.f1)) lo A'' x := fun hx => (hx.far (p := ⟨g', i * 2, none⟩) b (by decide) _).far (p := ⟨g', i * 2 + 1, none⟩) b1 (by decide) _
  refine ⟨g', _, rfl, a, b2, fun j x hx => ?_⟩
  obtain ⟨_, c1', d0, d1, _, _⟩ := d i _ (List.getElem?_eq_getElem hi)
  have z0 := (Array.getElem?_eq_some_iff.1 d0).1
  have z1 := (Array.getElem?_eq_some_iff.1 d1).1
  by_cases hij : j = i
  · subst hij
    rw [List.getElem?_set_self hi] at hx
    injection hx with hx
    subst hx
    refine ⟨A', c, ?_, ?_, hc, keep hv⟩
    · rw [Array.getElem?_setIfInBounds, if_neg (by omega), Array.getElem?_setIfInBounds, if_pos rfl, if_pos z0]
    · rw [Array.getElem?_setIfInBounds, if_pos rfl, if_pos (by simpa using z1)]
  · rw [List.getElem?_set_ne (fun e => hij e.symm)] at hx
    obtain ⟨A'', c'', e0, e1, hl, hvv⟩ := d j x hx
    refine ⟨A'', c'', ?_, ?_, hl, keep hvv⟩
    · rw [Array.getElem?_setIfInBounds, if_neg (by omega), Array.getElem?_setIfInBounds, if_neg (by omega), e0]
    · rw [Array.getElem?_setIfInBounds, if_neg (by omega), Array.getElem?_setIfInBounds, if_neg (by omega), e1]
end
end Go.Proofs.Ytjlohdbkjoofcaa.P
end
section
set_option linter.unusedVariables false
set_option linter.unusedSimpArgs false
namespace Go.Proofs.Ytjlohdbkjoofcaa.P
open Go.RowKit Go.Proofs.PrintWords Go.Proofs.PrintLast Go.Proofs.PrintMore
attribute [local go_sem] max2_int min2_int max_two min_two max_three min_three max_four min_four
theorem ByteVal.of_R' {w : World} {base : Nat} {ok : Nat → Prop} {A : Option Addr} {n c : Nat} {xs : List Int} (h : (Kd.int .u8).R 5 w base ok (.slice A n c) xs) : n = xs.length ∧ xs.length ≤ c ∧ ByteVal w base A xs := by
  obtain ⟨A1, c1, e, hc, hv⟩ := ByteVal.of_R h
  injection e with e1 e2 e3
  subst e1 e2 e3
  exact ⟨rfl, hc, hv⟩
def SecMid (w : World) (lo g c k : Nat) (l : List S52) : Prop :=
  l.length ≤ c ∧ c ≤ maxLen ∧ lo ≤ g ∧ ∃ (cs : Array Value) (t : Nat → Nat), w.heap[g]? = some (.cells cs 52 (0, 0)) ∧ cs.size = c * 2 ∧ ∀ i s, l[i]? = some s → ∃ A' c', cs[i * 2]? = some (.slice A' s.f0.length c') ∧ cs[i * 2 + 1]? = some (.bool s.f1) ∧ s.f0.length ≤ c' ∧ ByteVal w lo A' s.f0 ∧ (i < k → (Kd.int .u8).R 5 w lo (fun j => t j = i) (.slice A' s.f0.length c') s.f0)
section
variable {w w' : World} {lo g c k : Nat} {l : List S52}
theorem SecMid.of_S {base : Nat} {ok : Nat → Prop} {v : Value} {xs : List S52} (h : Kd.S k52 52 w base ok v xs) (hn : 0 < xs.length) : ∃ g c, v = .slice (some ⟨g, 0, none⟩) xs.length c ∧ SecMid w base g c 0 xs := by
  obtain ⟨_, inner, ho, hr⟩ := Kd.S_R h
  rcases ho.2 with ⟨e, hi⟩ | ⟨g, cap, cur, he, hb, hh, h1, h2, h3, h4⟩
  · omega
  · refine ⟨g, cap, he, h1, h2, hb, cur, id, hh, h3, fun i s hs => ?_⟩
    obtain ⟨hi, rfl⟩ := List.getElem?_eq_some_iff.1 hs
    obtain ⟨u, v, hM, c0, c1⟩ := rows_at (show Reps (k52.M w base _) 2 xs inner from hr) h4.symm hi
    obtain ⟨v0, e, hR⟩ := k52_openM hM
    injection e with e1 e
    injection e with e2 _
    subst e1 e2
    obtain ⟨A', c', rfl, hc', hb'⟩ := ByteVal.of_R hR
    exact ⟨A', c', c0, c1, hc', hb', fun hi => absurd hi (Nat.not_lt_zero _)⟩
theorem SecMid.at (h : SecMid w lo g c k l) : ∃ cs, w.heap[g]? = some (.cells cs 52 (0, 0)) := by
  obtain ⟨_, _, _, cs, _, hb, _⟩ := h
  exact ⟨cs, hb⟩
theorem SecMid.C (h : SecMid w lo g c k l) : k52.C w (some ⟨g, 0, none⟩) l.length l := by
  obtain ⟨h1, h2, h3, cs, t, hb, hz, hc⟩ := h
  refine ⟨rfl, Nat.le_trans h1 (Nat.le_trans h2 (by decide)), fun hn => ?_⟩
  refine ⟨_, rfl, fun j s hj => ?_⟩
  obtain ⟨A', c, c0, c1, hl, hv, _⟩ := hc j s hj
  refine ⟨[.slice A' s.f0.length c, .bool s.f1], rfl, k52_mk w s hl hv.C, fun i u hu => ?_⟩
  rw [add_plain, blk_cell hb]
  match i, hu with
  | 0, hu => rw [show j * k52.sz + 0 = j * 2 from rfl, c0]; simpa using hu
  | 1, hu => rw [show j * k52.sz + 1 = j * 2 + 1 from rfl, c1]; simpa using hu
  | i + 2, hu => simp at hu
theorem SecMid.below (h : SecMid w lo g c k l) (hb : Below w.heap.size w w') : SecMid w' lo g c k l := by
  obtain ⟨h1, h2, h3, cs, t, hh, hz, hc⟩ := h
  refine ⟨h1, h2, h3, cs, t, blk_below hh hb, hz, fun i s hs => ?_⟩
  obtain ⟨A', c', c0, c1, hl, hv, ht⟩ := hc i s hs
  exact ⟨A', c', c0, c1, hl, hv.below hb, fun hi => Kd.R_below (ht hi) hb⟩
theorem SecMid.far (h : SecMid w lo g c k l) {p : Addr} {t : Nat} {cs : Array Value} (hb : w.heap[p.block]? = some (.cells cs t (0, 0))) (h5 : t ≠ 5) (h52 : t ≠ 52) (u : Value) : SecMid (w.setCell p u) lo g c k l := by
  obtain ⟨h1, h2, h3, cs', t', hh, hz, hc⟩ := h
  refine ⟨h1, h2, h3, cs', t', blk_far hh (fun e => by subst e; rw [hb] at hh; injection hh with hh; injection hh with _ hh _; exact h52 hh) _, hz, fun i s hs => ?_⟩
  obtain ⟨A', c', c0, c1, hl, hv, ht⟩ := hc i s hs
  refine ⟨A', c', c0, c1, hl, hv.far hb h5 u, fun hi => ?_⟩
  exact Kd.R_mono (Kd.R_far (Kd.R_types (ht hi) hb (fun q hq => by
    have : q = 5 := by simpa [Kd.int, Kd.scalar] using hq
    omega)) (fun _ hk => hk.2) u) (fun _ hk => hk.1)
theorem SecMid.put {i : Nat} (h : SecMid w lo g c 0 l) (hi : i < l.length) {s : S52} {A' : Option Addr} {c' : Nat} (hc : s.f0.length ≤ c') (hv : ByteVal w lo A' s.f0) :
    SecMid ((w.setCell ⟨g, i * 2, none⟩ (.slice A' s.f0.length c')).setCell ⟨g, i * 2 + 1, none⟩ (.bool s.f1)) lo g c 0 (l.set i s) := by
  obtain ⟨h1, h2, h3, cs, t, b, hz, d⟩ := h
  refine ⟨by rw [List.length_set]; exact h1, h2, h3, ?_⟩
  have b1 := blk_set b (i * 2) (.slice A' s.f0.length c')
  have b2 := blk_set b1 (i * 2 + 1) (.bool s.f1)
  have keep : ∀ {A'' : Option Addr} {x : List Int}, ByteVal w lo A'' x → ByteVal ((w.setCell ⟨g, i * 2, none⟩ (.slice A' s.f0.length c')).setCell ⟨g, i * 2 + 1, none⟩ (.bool s.f1)) lo A'' x := fun hx => (hx.far (p := ⟨g, i * 2, none⟩) b (by decide) _).far (p := ⟨g, i * 2 + 1, none⟩) b1 (by decide) _
  refine ⟨_, t, b2, by simpa using hz, fun j x hx => ?_⟩
  obtain ⟨_, c1', d0, d1, _, _⟩ := d i _ (List.getElem?_eq_getElem hi)
  have z0 := (Array.getElem?_eq_some_iff.1 d0).1
  have z1 := (Array.getElem?_eq_some_iff.1 d1).1
  by_cases hij : j = i
  · subst hij
    rw [List.getElem?_set_self hi] at hx
    injection hx with hx
    subst hx
    refine ⟨A', c', ?_, ?_, hc, keep hv, fun hi => absurd hi (Nat.not_lt_zero _)⟩
    · rw [Array.getElem?_setIfInBounds, if_neg (by omega), Array.getElem?_setIfInBounds, if_pos rfl, if_pos z0]
    · rw [Array.getElem?_setIfInBounds, if_pos rfl, if_pos (by simpa using z1)]
  · rw [List.getElem?_set_ne (fun e => hij e.symm)] at hx
    obtain ⟨A'', c'', e0, e1, hl, hvv, _⟩ := d j x hx
    refine ⟨A'', c'', ?_, ?_, hl, keep hvv, fun hi => absurd hi (Nat.not_lt_zero _)⟩
    · rw [Array.getElem?_setIfInBounds, if_neg (by omega), Array.getElem?_setIfInBounds, if_neg (by omega), e0]
    · rw [Array.getElem?_setIfInBounds, if_neg (by omega), Array.getElem?_setIfInBounds, if_neg (by omega), e1]
theorem SecMid.step {W0 : World} {s : S52} {A' : Option Addr} {c' : Nat} {ok : Nat → Prop} (h : SecMid W0 lo g c k l) (hlo : lo ≤ W0.heap.size) (hb : Below W0.heap.size W0 w) (hs : l[k]? = some s) (hr : (Kd.int .u8).R 5 w W0.heap.size ok (.slice A' s.f0.length c') s.f0) :
    SecMid (w.setCell ⟨g, k * 2, none⟩ (.slice A' s.f0.length c')) lo g c (k + 1) l := by
  obtain ⟨h1, h2, h3, cs, t, b0, hz, d⟩ := h
  have b := blk_below b0 hb
  refine ⟨h1, h2, h3, _, (fun j => if j < W0.heap.size then t j else k), blk_set b _ _, by simpa using hz, fun i x hx => ?_⟩
  have h5 : ∀ q, q ∈ 5 :: (Kd.int .u8).E → q ≠ 52 := fun q hq => by
    have : q = 5 := by simpa [Kd.int, Kd.scalar] using hq
    omega
  obtain ⟨A0, c0', d0, d1, hl, hv, ht⟩ := d i x hx
  by_cases hik : i = k
  · subst hik
    rw [hs] at hx
    injection hx with hx
    subst hx
    obtain ⟨_, hl', hv'⟩ := ByteVal.of_R' hr
    have z0 := (Array.getElem?_eq_some_iff.1 d0).1
    refine ⟨A', c', ?_, ?_, hl', (hv'.lower hlo).far (p := ⟨g, i * 2, none⟩) b (by decide) _, fun _ => ?_⟩
    · rw [Array.getElem?_setIfInBounds, if_pos rfl, if_pos z0]
    · rw [Array.getElem?_setIfInBounds, if_neg (by omega), d1]
    · refine Kd.R_mono (Kd.R_set (Kd.R_lower (Kd.R_bound hr) hlo) b h5 _ _) (fun j hj => ?_)
      show (if j < W0.heap.size then t j else i) = i
      rw [if_neg (by have := hj.2.1; omega)]
  · refine ⟨A0, c0', ?_, ?_, hl, (hv.below hb).far (p := ⟨g, k * 2, none⟩) b (by decide) _, fun hlt => ?_⟩
    · rw [Array.getElem?_setIfInBounds, if_neg (by omega), d0]
    · rw [Array.getElem?_setIfInBounds, if_neg (by omega), d1]
    · have hlt : i < k := by omega
      refine Kd.R_mono (Kd.R_set (Kd.R_below (Kd.R_bound (ht hlt)) hb) b h5 _ _) (fun j hj => ?_)
      show (if j < W0.heap.size then t j else k) = i
      rw [if_pos hj.2.2.1]
      exact hj.1
theorem SecMid.S (h : SecMid w lo g c l.length l) : Kd.S k52 52 w lo (fun _ => True) (.slice (some ⟨g, 0, none⟩) l.length c) l := by
  obtain ⟨h1, h2, h3, cs, t, b, hz, d⟩ := h
  have hin : (cs.toList.take (l.length * 2)).length = l.length * 2 := by
    have e : cs.toList.length = cs.size := Array.length_toList
    rw [List.length_take, e]
    omega
  refine ⟨t, fun _ _ => trivial, cs.toList.take (l.length * 2), ?_, ?_⟩
  · rw [List.length_zipIdx]
    exact ⟨hin, .inr ⟨g, c, cs, rfl, h3, b, h1, h2, hz, rfl⟩⟩
  · refine ⟨by rw [List.length_zipIdx]; exact hin, fun j p hj => ?_⟩
    rw [List.getElem?_zipIdx, Nat.zero_add] at hj
    obtain ⟨s, hs, rfl⟩ : ∃ s, l[j]? = some s ∧ (s, j) = p := by
      cases hq : l[j]? with
      | none => rw [hq] at hj; simp at hj
      | some s => rw [hq] at hj; exact ⟨s, rfl, by simpa using hj⟩
    obtain ⟨hj1, _⟩ := List.getElem?_eq_some_iff.1 hs
    obtain ⟨A', c', d0, d1, hl, hv, ht⟩ := d j s hs
    have hcs : ((cs.toList.take (l.length * 2)).drop (j * 2)).take 2 = [.slice A' s.f0.length c', .bool s.f1] := by
      have e0 : (cs.toList.take (l.length * 2))[j * 2]? = some (.slice A' s.f0.length c') := by rw [List.getElem?_take, if_pos (by omega), Array.getElem?_toList, d0]
      have e1 : (cs.toList.take (l.length * 2))[j * 2 + 1]? = some (.bool s.f1) := by rw [List.getElem?_take, if_pos (by omega), Array.getElem?_toList, d1]
      obtain ⟨q0, e0⟩ := List.getElem?_eq_some_iff.1 e0
      obtain ⟨q1, e1⟩ := List.getElem?_eq_some_iff.1 e1
      rw [List.drop_eq_getElem_cons q0, List.drop_eq_getElem_cons q1, e0, e1]
      rfl
    show k52.M w lo (fun k_ => (True ∧ some k_ ≠ _) ∧ t k_ = j) s (((cs.toList.take (l.length * 2)).drop (j * 2)).take 2)
    rw [hcs]
    refine k52_mkM _ _ _ s (Kd.R_mono (Kd.R_types (ht hj1) b (t := 52) (fun q hq => ?_)) (fun j' hj' => ⟨⟨trivial, ?_⟩, hj'.1⟩))
    · have : q = 5 := by simpa [Kd.int, Kd.scalar] using hq
      omega
    · intro e
      have e : j' = g := by simpa [Value.ownBlock] using e
      exact hj'.2 e
end
theorem SecMid.lower {w : World} {lo lo' g c k : Nat} {l : List S52} (h : SecMid w lo g c k l) (hl : lo' ≤ lo) : SecMid w lo' g c k l := by
  obtain ⟨h1, h2, h3, cs, t, hh, hz, hc⟩ := h
  refine ⟨h1, h2, Nat.le_trans hl h3, cs, t, hh, hz, fun i s hs => ?_⟩
  obtain ⟨A', c', c0, c1, hle, hv, ht⟩ := hc i s hs
  exact ⟨A', c', c0, c1, hle, hv.lower hl, fun hi => Kd.R_lower (ht hi) hl⟩
theorem PendVal.lower {w : World} {lo lo' : Nat} {A : Option Addr} {l : List S65} (h : PendVal w lo A l) (hl : lo' ≤ lo) : PendVal w lo' A l := by
  refine ⟨h.1, fun hn => ?_⟩
  obtain ⟨g, cs, e, a, b, d⟩ := h.2 hn
  refine ⟨g, cs, e, Nat.le_trans hl a, b, fun i s hs => ?_⟩
  obtain ⟨A', c, c0, c1, hle, hv⟩ := d i s hs
  exact ⟨A', c, c0, c1, hle, hv.lower hl⟩
theorem SecMid.cells {w : World} {lo g c k : Nat} {l : List S52} (h : SecMid w lo g c k l) {i : Nat} (hi : i < l.length) : ∃ v0 v1 : Value, w.cell? ⟨g, i * 2, none⟩ = some v0 ∧ w.cell? ⟨g, i * 2 + 1, none⟩ = some v1 ∧ w.frozen? ⟨g, i * 2, none⟩ = false ∧ w.frozen? ⟨g, i * 2 + 1, none⟩ = false := by
  obtain ⟨h1, h2, h3, cs, t, hh, hz, hc⟩ := h
  obtain ⟨A', c', d0, d1, _⟩ := hc i _ (List.getElem?_eq_getElem hi)
  exact ⟨_, _, (blk_cell hh _).trans d0, (blk_cell hh _).trans d1, blk_frozen hh _, blk_frozen hh _⟩
structure CrashRel (w wr : World) (gs co1 g7 : Nat) (Ao2 : Option Addr) (co2 n0 : Nat) (l : List S52) (l1 : List S65) : Prop where
  sec : SecMid wr w.heap.size gs co1 0 l
  pend : PendVal wr w.heap.size Ao2 l1
  box : wr.heap[g7]? = some (.cells #[.slice (some ⟨gs, 0, none⟩) n0 co1, .slice Ao2 l1.length co2] 25 (0, 0))
  res : wr.heap[w.heap.size + 1]? = some (.cells #[.slice none 0 0, .slice none 0 0] 25 (0, 0))
  bel : Below w.heap.size w wr
section
variable {w wr : World} {gs co1 g7 : Nat} {Ao2 : Option Addr} {co2 n0 : Nat} {l : List S52} {l1 : List S65}
theorem CrashRel.below {W : World} (h : CrashRel w wr gs co1 g7 Ao2 co2 n0 l l1) (hb : Below wr.heap.size wr W) : CrashRel w W gs co1 g7 Ao2 co2 n0 l l1 :=
  ⟨h.sec.below hb, h.pend.below hb, blk_below h.box hb, blk_below h.res hb, below_step h.bel hb⟩
theorem CrashRel.put {i : Nat} (h : CrashRel w wr gs co1 g7 Ao2 co2 n0 l l1) (hi : i < l.length) {s : S52} {A' : Option Addr} {c' : Nat} (hc : s.f0.length ≤ c') (hv : ByteVal wr w.heap.size A' s.f0) :
    CrashRel w ((wr.setCell ⟨gs, i * 2, none⟩ (.slice A' s.f0.length c')).setCell ⟨gs, i * 2 + 1, none⟩ (.bool s.f1)) gs co1 g7 Ao2 co2 n0 (l.set i s) l1 := by
  obtain ⟨cs, hg⟩ := h.sec.at
  have hg1 := blk_set hg (i * 2) (.slice A' s.f0.length c')
  have hlo : w.heap.size ≤ gs := h.sec.2.2.1
  have n7 : g7 ≠ gs := blk_ne h.box hg (by decide)
  have nz : w.heap.size + 1 ≠ gs := blk_ne h.res hg (by decide)
  exact ⟨h.sec.put hi hc hv, (h.pend.far (p := ⟨gs, i * 2, none⟩) hg (by decide) (by decide) _).far (p := ⟨gs, i * 2 + 1, none⟩) hg1 (by decide) (by decide) _, blk_far (blk_far h.box n7 _) n7 _, blk_far (blk_far h.res nz _) nz _, below_set (below_set h.bel hlo) hlo⟩
end
structure CrashRel2 (w wr : World) (gs co1 g7 : Nat) (Ao2 : Option Addr) (co2 n0 n1 k : Nat) (l : List S52) : Prop where
  sec : SecMid wr w.heap.size gs co1 k l
  box : wr.heap[g7]? = some (.cells #[.slice (some ⟨gs, 0, none⟩) n0 co1, .slice Ao2 n1 co2] 25 (0, 0))
  res : wr.heap[w.heap.size + 1]? = some (.cells #[.slice none 0 0, .slice none 0 0] 25 (0, 0))
  bel : Below w.heap.size w wr
section
variable {w wr : World} {gs co1 g7 : Nat} {Ao2 : Option Addr} {co2 n0 n1 k : Nat} {l : List S52}
theorem CrashRel2.below {W : World} (h : CrashRel2 w wr gs co1 g7 Ao2 co2 n0 n1 k l) (hb : Below wr.heap.size wr W) : CrashRel2 w W gs co1 g7 Ao2 co2 n0 n1 k l :=
  ⟨h.sec.below hb, blk_below h.box hb, blk_below h.res hb, below_step h.bel hb⟩
theorem CrashRel2.step {w4 : World} (h : CrashRel2 w wr gs co1 g7 Ao2 co2 n0 n1 k l) (hb : Below wr.heap.size wr w4) {s : S52} {A' : Option Addr} {c' : Nat} {ok : Nat → Prop} (hs : l[k]? = some s) (hr : (Kd.int .u8).R 5 w4 wr.heap.size ok (.slice A' s.f0.length c') s.f0) :
    CrashRel2 w (w4.setCell ⟨gs, k * 2, none⟩ (.slice A' s.f0.length c')) gs co1 g7 Ao2 co2 n0 n1 (k + 1) l := by
  have h4 := h.below hb
  obtain ⟨cs, hg⟩ := h4.sec.at
  have n7 : g7 ≠ gs := blk_ne h4.box hg (by decide)
  have nz : w.heap.size + 1 ≠ gs := blk_ne h4.res hg (by decide)
  exact ⟨h.sec.step (below_size h.bel) hb hs hr, blk_far h4.box n7 _, blk_far h4.res nz _, below_set h4.bel h.sec.2.2.1⟩
end
theorem SecMid.text {w : World} {lo g c k : Nat} {l : List S52} (h : SecMid w lo g c k l) {i : Nat} (hi : i < l.length) : ∃ (A' : Option Addr) (c' : Nat), w.cell? ⟨g, i * 2, none⟩ = some (.slice A' (l[i]).f0.length c') ∧ (l[i]).f0.length ≤ c' ∧ ByteVal w lo A' (l[i]).f0 := by
  obtain ⟨h1, h2, h3, cs, t, hh, hz, hc⟩ := h
  obtain ⟨A', c', d0, d1, e, hv, _⟩ := hc i _ (List.getElem?_eq_getElem hi)
  exact ⟨_, _, (blk_cell hh _).trans d0, e, hv⟩
theorem SecMid.of_R {w : World} {base : Nat} {ok : Nat → Prop} {v : Value} {xs : List S52} (h : Kd.R k52 52 w base ok v xs) (hn : 0 < xs.length) : ∃ g c, v = .slice (some ⟨g, 0, none⟩) xs.length c ∧ SecMid w base g c 0 xs := by
  obtain ⟨_, inner, ho, hr⟩ := h
  rcases ho.2 with ⟨e, hi⟩ | ⟨g, cap, cur, he, hb, hh, h1, h2, h3, h4⟩
  · omega
  · refine ⟨g, cap, he, h1, h2, hb, cur, id, hh, h3, fun i s hs => ?_⟩
    obtain ⟨hi, rfl⟩ := List.getElem?_eq_some_iff.1 hs
    obtain ⟨u, v, hM, c0, c1⟩ := rows_at (show Reps (k52.M w base _) 2 xs inner from hr) h4.symm hi
    obtain ⟨v0, e, hR⟩ := k52_openM hM
    injection e with e1 e
    injection e with e2 _
    subst e1 e2
    obtain ⟨A', c', rfl, hc', hb'⟩ := ByteVal.of_R hR
    exact ⟨A', c', c0, c1, hc', hb', fun hi => absurd hi (Nat.not_lt_zero _)⟩
theorem SecMid.renew {w : World} {lo g c k : Nat} {l : List S52} {W0 : World} {s s0 : S52} {A' : Option Addr} {c' : Nat} {ok : Nat → Prop} (h : SecMid W0 lo g c k l) (hlo : lo ≤ W0.heap.size) (hb : Below W0.heap.size W0 w) (hs : l[k]? = some s0) (hm : s.f1 = s0.f1) (hr : (Kd.int .u8).R 5 w W0.heap.size ok (.slice A' s.f0.length c') s.f0) :
    SecMid (w.setCell ⟨g, k * 2, none⟩ (.slice A' s.f0.length c')) lo g c (k + 1) (l.set k s) := by
  obtain ⟨h1, h2, h3, cs, t, b0, hz, d⟩ := h
  have b := blk_below b0 hb
  refine ⟨by rw [List.length_set]; exact h1, h2, h3, _, (fun j => if j < W0.heap.size then t j else k), blk_set b _ _, by simpa using hz, fun i x hx => ?_⟩
  have h5 : ∀ q, q ∈ 5 :: (Kd.int .u8).E → q ≠ 52 := fun q hq => by
    have : q = 5 := by simpa [Kd.int, Kd.scalar] using hq
    omega
  have hkl := (List.getElem?_eq_some_iff.1 hs).1
  by_cases hik : i = k
  · subst hik
    rw [List.getElem?_set_self hkl] at hx
    injection hx with hx
    subst hx
    obtain ⟨A0, c0', d0, d1, hl, hv, ht⟩ := d i s0 hs
    obtain ⟨_, hl', hv'⟩ := ByteVal.of_R' hr
    have z0 := (Array.getElem?_eq_some_iff.1 d0).1
    refine ⟨A', c', ?_, ?_, hl', (hv'.lower hlo).far (p := ⟨g, i * 2, none⟩) b (by decide) _, fun _ => ?_⟩
    · rw [Array.getElem?_setIfInBounds, if_pos rfl, if_pos z0]
    · rw [Array.getElem?_setIfInBounds, if_neg (by omega), d1, hm]
    · refine Kd.R_mono (Kd.R_set (Kd.R_lower (Kd.R_bound hr) hlo) b h5 _ _) (fun j hj => ?_)
      show (if j < W0.heap.size then t j else i) = i
      rw [if_neg (by have := hj.2.1; omega)]
  · rw [List.getElem?_set_ne (fun e => hik e.symm)] at hx
    obtain ⟨A0, c0', d0, d1, hl, hv, ht⟩ := d i x hx
    refine ⟨A0, c0', ?_, ?_, hl, (hv.below hb).far (p := ⟨g, k * 2, none⟩) b (by decide) _, fun hlt => ?_⟩
    · rw [Array.getElem?_setIfInBounds, if_neg (by omega), d0]
    · rw [Array.getElem?_setIfInBounds, if_neg (by omega), d1]
    · have hlt : i < k := by omega
      refine Kd.R_mono (Kd.R_set (Kd.R_below (Kd.R_bound (ht hlt)) hb) b h5 _ _) (fun j hj => ?_)
      show (if j < W0.heap.size then t j else k) = i
      rw [if_pos hj.2.2.1]
      exact hj.1
end Go.Proofs.Ytjlohdbkjoofcaa.P
end
section
set_option linter.unusedVariables false
set_option linter.unusedSimpArgs false
namespace Go.Proofs.Ytjlohdbkjoofcaa.P
open Go.RowKit Go.Proofs.PrintWords Go.Proofs.PrintLast Go.Proofs.PrintMore
attribute [local go_sem] max2_int min2_int max_two min_two max_three min_three max_four min_four
def hCrash.f (l0 : List S52) (l1 : List S65) (fates : List Int) : Option (List S52 × List S65 × Int) := some (dCrash l0 l1 fates)
def hCrash.T13 : Bool × List (List Nat × List Nat) := (true, [([], []), ([0], [0]), ([], []), ([2], [2]), ([], []), ([4], [4]), ([1, 3, 0, 1, 2, 3, 4, 5], [1, 3]), ([6, 5, 4, 0, 1, 2, 3, 4, 5], [5, 6])])
def hCrash.B13 : List Nat := [0, 1, 0, 4, 0, 16, 63, 127]
theorem hCrash.tab13 : rtab .any (opsOf Try.f49 13) = hCrash.T13 := by kernel_rfl
theorem hCrash.bits13 : waitsOk hCrash.T13.2 hCrash.B13 = true := by kernel_rfl
def hCrash.T18 : Bool × List (List Nat × List Nat) := (true, [([], []), ([0], [0]), ([], []), ([], []), ([3], [3]), ([], []), ([4, 5], [4, 5]), ([6], [6]), ([7], [7]), ([8], [8]), ([1, 2, 0, 1, 2, 3, 4, 5, 6, 7, 8, 9], [1, 2]), ([10, 0, 1, 2, 3, 4, 5, 6, 7, 8, 9], [10]), ([11, 9, 9, 0, 1, 2, 3, 4, 5, 6, 7, 8, 9], [9, 11])])
def hCrash.B18 : List Nat := [0, 1, 0, 0, 8, 0, 56, 120, 248, 504, 1023, 2047, 4095]
theorem hCrash.tab18 : rtab .any (opsOf Try.f49 18) = hCrash.T18 := by kernel_rfl
theorem hCrash.bits18 : waitsOk hCrash.T18.2 hCrash.B18 = true := by kernel_rfl
set_option maxHeartbeats 8000000 in
set_option maxRecDepth 100000 in
theorem hCrash.calls (A0_0 : Option Addr) (c0_0 : Nat) (l0_0 : List S52) (A0_1 : Option Addr) (c0_1 : Nat) (l0_1 : List S65) (A1 : Option Addr) (c1 : Nat) (l1 : List Int) (r1 : List S52) (r2 : List S65) (r3 : Int) (w : World) (hr0_0 : Kd.C k52 w A0_0 l0_0.length l0_0) (hc0_0 : l0_0.length ≤ c0_0) (hr0_1 : Kd.C k65 w A0_1 l0_1.length l0_1) (hc0_1 : l0_1.length ≤ c0_1) (hr1 : Kd.C (Kd.int .u8) w A1 l1.length l1) (hc1 : l1.length ≤ c1) (h : hCrash.f l0_0 l0_1 l1 = some (r1, r2, r3)) :
    Calls Try.prog 49 #[.agg #[.slice A0_0 l0_0.length c0_0, .slice A0_1 l0_1.length c0_1], .slice A1 l1.length c1] w fun e w' => ∃ v0_ v1_ : Value, e = .returned (.tuple #[.agg #[v0_, v1_], .int .i64 r3]) ∧ Kd.S k52 52 w' w.heap.size (fun _ => True) v0_ r1 ∧ Kd.S k65 65 w' w.heap.size (fun _ => True) v1_ r2 ∧ Below w.heap.size w w' := by
  have hu25 := Try.underlying25
  have hu52 := Try.underlying52
  have hu65 := Try.underlying65
  have H : Aside0 (dCrash l0_0 l0_1 l1 = (r1, r2, r3)) := ⟨by unfold hCrash.f at h; injection h⟩
  have HR0 := Aside0.mk hr0_0
  have HR1 := Aside0.mk hr0_1
  have HR2 := Aside0.mk hr1
  have HC0 := Aside0.mk hc0_0
  have HC1 := Aside0.mk hc0_1
  have HC2 := Aside0.mk hc1
  clear h hr0_0 hr0_1 hr1 hc0_0 hc0_1 hc1
  have HB0 := Aside0.mk (below_alloc (below_alloc (Below.refl w.heap.size w) (.cells #[.slice A0_0 l0_0.length c0_0, .slice A0_1 l0_1.length c0_1] 25)) (.cells #[.slice none 0 0, .slice none 0 0] 25))
  have HK0 := Aside0.mk (blk_alloc (heap_alloc_new w (.cells #[.slice A0_0 l0_0.length c0_0, .slice A0_1 l0_1.length c0_1] 25)) (.cells #[.slice none 0 0, .slice none 0 0] 25))
  have HL0 := Aside0.mk (heap_alloc_at w (.cells #[.slice A0_0 l0_0.length c0_0, .slice A0_1 l0_1.length c0_1] 25) (.cells #[.slice none 0 0, .slice none 0 0] 25) (w.heap.size + 1) rfl)
  cases hok : okDisk l0_0 l0_1 with
  | false =>
    obtain ⟨rfl, rfl, rfl⟩ : [] = r1 ∧ [] = r2 ∧ 8 = r3 := by have hd := H.out; unfold dCrash at hd; rw [hok] at hd; simpa using hd
    have HCH := Aside0.mk (show hCheck.f l0_0 l0_1 = some 8 by unfold hCheck.f; rw [hok]; rfl)
    clear H hok
    go_enter Try.func49, Try.ntmps49
    go_wp2_with (go_at_call 39; refine (hCheck.calls A0_0 c0_0 l0_0 A0_1 c0_1 l0_1 8 _ (Kd.C_below HR0.out HB0.out) HC0.out (Kd.C_below HR1.out HB0.out) HC1.out HCH.out).mono ?_; rintro e w1 ⟨rfl, hb1⟩; have HB1 := Aside0.mk (below_step HB0.out hb1); have HL1 := Aside0.mk (blk_below HL0.out hb1); have hy0 : w1.cell? ⟨w.heap.size + 1, 0, none⟩ = some (.slice none 0 0) := (blk_cell HL1.out 0).trans rfl; have hy1 : w1.cell? ⟨w.heap.size + 1, 1, none⟩ = some (.slice none 0 0) := (blk_cell HL1.out 1).trans rfl; have hf0 := blk_frozen HL1.out 0; have hf1 := blk_frozen HL1.out 1; clear hb1)
    refine bodyPost_ret (results_ct rfl _ _ (w.heap.size + 1) 25 #[.slice none 0 0, .slice none 0 0] (0, 0) _ rfl (blk_put (cs := #[.slice none 0 0, .slice none 0 0]) (blk_put (cs := #[.slice none 0 0, .slice none 0 0]) HL1.out 0 _ rfl) 1 _ rfl) Try.underlying25 rfl (by kernel_rfl)) rfl ?_
    exact ⟨_, _, rfl, Kd.S_nil _ _ _ _ _, Kd.S_nil _ _ _ _ _, below_set (below_set HB1.out (Nat.le_succ _)) (Nat.le_succ _)⟩
  | true =>
    obtain ⟨rfl, rfl, rfl⟩ : dBehind l0_0 l0_1 l1 = r1 ∧ [] = r2 ∧ 0 = r3 := by have hd := H.out; unfold dCrash at hd; rw [hok, if_pos rfl] at hd; simpa using hd
    have HCH := Aside0.mk (show hCheck.f l0_0 l0_1 = some 0 by unfold hCheck.f; rw [hok]; rfl)
    have HOK := Aside0.mk hok
    have HN0 := Aside0.mk (okDisk_len hok)
    clear H hok
    go_enter Try.func49, Try.ntmps49
    go_upto_block 0 with (first
      | (go_at_call 39; refine (hCheck.calls A0_0 c0_0 l0_0 A0_1 c0_1 l0_1 0 _ (Kd.C_below HR0.out HB0.out) HC0.out (Kd.C_below HR1.out HB0.out) HC1.out HCH.out).mono ?_; rintro e w1 ⟨rfl, hb1⟩; have HB1 := Aside0.mk (below_step HB0.out hb1); have HK1 := Aside0.mk (blk_below HK0.out hb1); have HL1 := Aside0.mk (blk_below HL0.out hb1); have hq0 : w1.cell? ⟨w.heap.size, 0, none⟩ = some (.slice A0_0 l0_0.length c0_0) := (blk_cell HK1.out 0).trans rfl; have hq1 : w1.cell? ⟨w.heap.size, 1, none⟩ = some (.slice A0_1 l0_1.length c0_1) := (blk_cell HK1.out 1).trans rfl; clear hb1)
      | (go_at_call 52; refine (disk_Twin.calls 1200 A0_0 c0_0 l0_0 A0_1 c0_1 l0_1 l0_0 l0_1 _ (Kd.C_below HR0.out HB1.out) HC0.out (Kd.C_below HR1.out HB1.out) HC1.out (okDisk_twin HOK.out)).mono ?_; rintro e w2 ⟨v1, v2, rfl, ho1, ho2, hb2⟩; obtain ⟨gs, co1, eo1, hs1⟩ := SecMid.of_S ho1 HN0.out.1; subst eo1; obtain ⟨Ao2, co2, eo2, hco2, hs2⟩ := PendVal.of_S ho2; subst eo2; have HB2 := Aside0.mk (below_step HB1.out hb2); have HL2 := Aside0.mk (blk_below HL1.out hb2); have HS := Aside0.mk (SecMid.lower hs1 (below_size HB1.out)); have HP := Aside0.mk (PendVal.lower hs2 (below_size HB1.out)); clear hb2 ho1 ho2 hs1 hs2 hco2 hq0 hq1))
    have HX3 := Aside0.mk (show CrashRel w (w2.alloc (.cells #[.slice (some ⟨gs, 0, none⟩) l0_0.length co1, .slice Ao2 l0_1.length co2] 25)) gs co1 w2.heap.size Ao2 co2 l0_0.length l0_0 l0_1 from ⟨HS.out.below (below_alloc (Below.refl _ _) (.cells #[.slice (some ⟨gs, 0, none⟩) l0_0.length co1, .slice Ao2 l0_1.length co2] 25)), HP.out.below (below_alloc (Below.refl _ _) (.cells #[.slice (some ⟨gs, 0, none⟩) l0_0.length co1, .slice Ao2 l0_1.length co2] 25)), heap_alloc_new w2 (.cells #[.slice (some ⟨gs, 0, none⟩) l0_0.length co1, .slice Ao2 l0_1.length co2] 25), blk_alloc HL2.out (.cells #[.slice (some ⟨gs, 0, none⟩) l0_0.length co1, .slice Ao2 l0_1.length co2] 25), below_alloc HB2.out (.cells #[.slice (some ⟨gs, 0, none⟩) l0_0.length co1, .slice Ao2 l0_1.length co2] 25)⟩)
    clear HS HP HK0 HL0 HB0 HK1 HL1
    generalize w2.alloc (.cells #[.slice (some ⟨gs, 0, none⟩) l0_0.length co1, .slice Ao2 l0_1.length co2] 25) = W3 at HX3 ⊢
    have HG7 := Aside0.mk (below_size HB2.out)
    have HNE := Aside0.mk (show w2.heap.size ≠ w.heap.size + 1 from Nat.ne_of_gt (blk_lt HL2.out))
    generalize w2.heap.size = g7 at HX3 HNE HG7 ⊢
    clear HB2 HB1 HCH HL2
    go_cut [] from 22 to 55 (fun wr => Aside0 (CrashRel w wr gs co1 g7 Ao2 co2 l0_0.length (crashTo l0_0 l0_1 l1 (min l0_1.length l1.length)) l0_1))
    case first =>
      go_wp2_with fail
      go_loopw [22] (fun i wr => ∃ k : Nat, k ≤ l0_1.length ∧ k ≤ l1.length ∧ i = .int .i64 k ∧ Aside0 (CrashRel w wr gs co1 g7 Ao2 co2 l0_0.length (crashTo l0_0 l0_1 l1 k) l0_1)) (fun i _ => l0_1.length - (intOf i).toNat)
      case atStart => exact ⟨0, Nat.zero_le _, Nat.zero_le _, rfl, HX3⟩
      case round =>
        clear HX3
        obtain ⟨k, hk0, hk1, rfl, HX⟩ := hrel
        by_cases hlt : k < l0_1.length
        · obtain ⟨gp, pcs, rfl, hp1, hp2, hp3⟩ := HX.out.pend.2 (by omega)
          obtain ⟨Ap, cp, d0, d1, hcp, hpv⟩ := hp3 k _ (List.getElem?_eq_getElem hlt)
          have hpd := okDisk_pend HOK.out _ (List.getElem_mem hlt)
          rw [← rd65_at hlt] at d0 d1 hcp hpv hpd
          obtain ⟨pa, pb, hpq⟩ : ∃ pa pb, rd_T65 l0_1 (k : Int) = ⟨pa, pb⟩ := ⟨_, _, rfl⟩
          rw [hpq] at d0 d1 hcp hpv hpd
          replace hpd : pb.length = 32 ∧ 0 ≤ pa ∧ pa < l0_0.length := hpd
          have hn64 := HN0.out.2.2
          have HPQ := Aside0.mk hpq
          have HPV := Aside0.mk hpv
          have HPD := Aside0.mk hpd
          have HCP := Aside0.mk hcp
          have hz20 : wr.cell? ⟨gp, k * 2, none⟩ = some (.int .i64 pa) := (blk_cell hp2 _).trans d0
          have hz21 : wr.cell? ⟨gp, k * 2 + 1, none⟩ = some (.slice Ap pb.length cp) := (blk_cell hp2 _).trans d1
          clear hp1 hp2 hp3 d0 d1 hpd hpv hcp hpq
          by_cases hlt1 : k < l1.length
          · obtain ⟨ad, rfl, had⟩ := Kd.at_int (Kd.C_below HR2.out HX.out.bel) (k : Int) (by omega) (by omega)
            simp only [Int.toNat_natCast] at had
            have hal := World.block_lt_of_cell? wr _ had
            have hk0' : 0 ≤ (k : Int) := by omega
            have hk1' : (k : Int) < l1.length := by omega
            have hk2' : (k : Int) < l0_1.length := by omega
            have hq0 : wr.cell? ⟨g7, 0, none⟩ = some (.slice (some ⟨gs, 0, none⟩) l0_0.length co1) := (blk_cell HX.out.box 0).trans rfl
            have hql : g7 < wr.heap.size := blk_lt HX.out.box
            have hpd2 := HPD.out.2.1
            have hpd3 := HPD.out.2.2
            have hsl : gs < wr.heap.size := by obtain ⟨_, hh⟩ := HX.out.sec.at; exact blk_lt hh
            obtain ⟨v0, v1, hw0, hw1, hfw0, hfw1⟩ := HX.out.sec.cells (i := pa.toNat) (by rw [crashTo_length]; omega)
            by_cases h1 : Int.tmod (rd l1 (k : Int)) 3 = 1
            · have h1b : (Int.tmod (rd l1 (k : Int)) 3 == 1) = true := beq_iff_eq.2 h1
              have H1 := Aside0.mk h1
              clear h1
              go_wp2_with fail
              go_roundw
              case rel =>
                refine ⟨k + 1, by omega, by omega, by go_num, ⟨?_⟩⟩
                rw [show crashTo l0_0 l0_1 l1 (k + 1) = (crashTo l0_0 l0_1 l1 k).set pa.toNat ⟨pb, false⟩ by show fateOf _ _ _ = _; unfold fateOf; rw [HPQ.out, if_pos H1.out]]
                exact CrashRel.below (HX.out.put (i := pa.toNat) (s := ⟨pb, false⟩) (by rw [crashTo_length]; omega) HCP.out HPV.out) (below_alloc (Below.refl _ _) _)
              case measure => simp [intOf]; omega
            · have h1b : (Int.tmod (rd l1 (k : Int)) 3 == 1) = false := beq_eq_false_iff_ne.2 h1
              have H1 := Aside0.mk h1
              clear h1
              by_cases h2 : Int.tmod (rd l1 (k : Int)) 3 = 2
              · have h2b : (Int.tmod (rd l1 (k : Int)) 3 == 2) = true := beq_iff_eq.2 h2
                have H2 := Aside0.mk h2
                clear h2
                go_wp2_with fail
                have HXb := Aside0.mk (HX.out.below (below_alloc (Below.refl _ _) (.cells #[.int .i64 pa, .slice Ap pb.length cp] 65)))
                have H9 := Aside0.mk (heap_alloc_new wr (.cells #[.int .i64 pa, .slice Ap pb.length cp] 65))
                clear HX hz20 hz21 hal hq0 hql hsl hw0 hw1 hfw0 hfw1 had
                generalize wr.alloc (.cells #[.int .i64 pa, .slice Ap pb.length cp] 65) = Wb at HXb H9 ⊢
                generalize wr.heap.size = g9 at H9 ⊢
                have HSS := Aside0.mk (show ∀ W : World, Below Wb.heap.size Wb W → W.cell? ⟨g7, 0, none⟩ = some (.slice (some ⟨gs, 0, none⟩) l0_0.length co1) ∧ W.cell? ⟨g9, 0, none⟩ = some (.int .i64 pa) from fun W hb => ⟨(blk_cell (blk_below HXb.out.box hb) 0).trans rfl, (blk_cell (blk_below H9.out hb) 0).trans rfl⟩)
                refine start_ (n := 8) (S := fun w' => w'.cell? ⟨g7, 0, none⟩ = some (.slice (some ⟨gs, 0, none⟩) l0_0.length co1) ∧ w'.cell? ⟨g9, 0, none⟩ = some (.int .i64 pa)) (ds := [7]) #[false, false, false, false, false, false, false, false] (by kernel_rfl) rfl rfl (by exact HSS.out _ (below_drew1 (Below.refl _ _))) (fun hHeld => ?_); refine with_tabW hCrash.tab13 hCrash.bits13 (fun HT_ HW_ => ?_)
                refine pure_ (i := 0) (N := some 48) (v := ?_) (a' := ?_) #[true, false, false, false, false, false, false, false] rfl rfl (any_of HT_.out (by kernel_rfl)) (fun _ _ _ h => h) (Or.inl ⟨by rfl, ?_⟩) ?_ ?_
                rotate_left
                · intro w'
                  go_simp
                  with_reducible rfl
                rotate_left
                · simp only [Act.put, List.setIfInBounds_toArray, List.set_cons_zero, List.set_cons_succ, i64_w, i32_w]
                  rfl
                refine take_ (i := 1) (N := some 49) (v := ?_) (a' := ?_) #[true, true, false, false, false, false, false, false] rfl rfl (take_ofW HT_.out HW_.out (by kernel_rfl)) (fun _ _ _ h => h) (Or.inl ⟨by rfl, ?_⟩) hHeld ?_ ?_
                rotate_left
                · rintro w' ⟨s0, s1⟩
                  go_simp
                  with_reducible rfl
                rotate_left
                · simp only [Act.put, List.setIfInBounds_toArray, List.set_cons_zero, List.set_cons_succ, i64_w, i32_w]
                  rfl
                refine pure_ (i := 2) (N := some 50) (v := ?_) (a' := ?_) #[true, true, true, false, false, false, false, false] rfl rfl (any_of HT_.out (by kernel_rfl)) (fun _ _ _ h => h) (Or.inl ⟨by rfl, ?_⟩) ?_ ?_
                rotate_left
                · intro w'
                  go_simp
                  with_reducible rfl
                rotate_left
                · simp only [Act.put, List.setIfInBounds_toArray, List.set_cons_zero, List.set_cons_succ, i64_w, i32_w]
                  rfl
                refine take_ (i := 3) (N := some 51) (v := ?_) (a' := ?_) #[true, true, true, true, false, false, false, false] rfl rfl (take_ofW HT_.out HW_.out (by kernel_rfl)) (fun _ _ _ h => h) (Or.inl ⟨by rfl, ?_⟩) hHeld ?_ ?_
                rotate_left
                · rintro w' ⟨s0, s1⟩
                  go_simp
                  with_reducible rfl
                rotate_left
                · simp only [Act.put, List.setIfInBounds_toArray, List.set_cons_zero, List.set_cons_succ, i64_w, i32_w]
                  rfl
                refine one_ (i := 4) (N := some 52) #[true, true, true, true, true, false, false, false] rfl rfl (one_of HT_.out (by kernel_rfl)) (by decide) (fun K hK => ?_)
                refine goes_ Try.func126 (by kernel_rfl) rfl #[] (by rfl) rfl rfl (by (try simp only [List.map_toArray, List.map_cons, List.map_nil]); first | done | rfl | (simp only [List.length_drop, List.length_take]; rfl)) ?_
                refine (disk_none.calls zero32 _ (by unfold disk_none.f zero32; rw [if_pos (by decide)])).mono ?_
                rintro e w4 ⟨v4, rfl, ho4, hb4⟩
                obtain ⟨A4, c4, rfl, hc4, hv4⟩ := ByteVal.of_R ho4
                refine ⟨_, rfl, ?_⟩
                have HB4 := Aside0.mk (below_step (below_drew1 (Below.refl Wb.heap.size Wb)) hb4)
                have HX4 := Aside0.mk (HXb.out.below HB4.out)
                have HV4 := Aside0.mk (ByteVal.lower hv4 (show w.heap.size ≤ Wb.drew.heap.size from below_size (below_drew1 HXb.out.bel)))
                have HC4 := Aside0.mk hc4
                have hz32 : zero32.length = 32 := rfl
                clear hv4 ho4 hb4 hc4
                refine hK.out _ _ (by exact HSS.out _ HB4.out) (fun hHeld => ?_)
                clear hK K
                refine norm_ (a' := ?_) ?_ ?_
                rotate_left
                · show Act.put _ (some 52) _ = _
                  simp only [Act.put, List.setIfInBounds_toArray, List.set_cons_zero, List.set_cons_succ, i64_w, i32_w]
                  rfl
                refine pure_ (i := 5) (N := some 53) (v := ?_) (a' := ?_) #[true, true, true, true, true, true, false, false] rfl rfl (any_of HT_.out (by kernel_rfl)) (fun _ _ _ h => h) (Or.inl ⟨by rfl, ?_⟩) ?_ ?_
                rotate_left
                · intro w'
                  go_simp
                  with_reducible rfl
                rotate_left
                · simp only [Act.put, List.setIfInBounds_toArray, List.set_cons_zero, List.set_cons_succ, i64_w, i32_w]
                  rfl
                refine pure_ (i := 6) (N := some 54) (v := ?_) (a' := ?_) #[true, true, true, true, true, true, true, false] rfl rfl (any_of HT_.out (by kernel_rfl)) (fun _ _ _ h => h) (Or.inl ⟨by rfl, ?_⟩) ?_ ?_
                rotate_left
                · intro w'
                  go_simp
                  with_reducible rfl
                rotate_left
                · simp only [Act.put, List.setIfInBounds_toArray, List.set_cons_zero, List.set_cons_succ, i64_w, i32_w]
                  rfl
                refine last_ (i := 7) (N := none) #[true, true, true, true, true, true, true, true] rfl rfl (one_of HT_.out (by kernel_rfl)) (by decide) (fun K hK => ?_)
                obtain ⟨v0, v1, hw0, hw1, hfw0, hfw1⟩ := HX4.out.sec.cells (i := pa.toNat) (by rw [crashTo_length]; omega)
                refine skip_ (w1 := ?_) (by rfl) rfl ?_ ?_
                rotate_left
                · go_simp
                  rfl
                refine hK.out _ _ ?_
                refine done_ (done_of HT_.out (by kernel_rfl)) ?_
                try go_wp2
                go_roundw
                case rel =>
                  refine ⟨k + 1, by omega, by omega, by go_num, ⟨?_⟩⟩
                  rw [show crashTo l0_0 l0_1 l1 (k + 1) = (crashTo l0_0 l0_1 l1 k).set pa.toNat ⟨zero32, true⟩ by show fateOf _ _ _ = _; unfold fateOf; rw [HPQ.out, if_neg H1.out, if_pos H2.out]]
                  exact HX4.out.put (i := pa.toNat) (s := ⟨zero32, true⟩) (by rw [crashTo_length]; omega) HC4.out HV4.out
                case measure => simp [intOf]; omega
              · have h2b : (Int.tmod (rd l1 (k : Int)) 3 == 2) = false := beq_eq_false_iff_ne.2 h2
                have H2 := Aside0.mk h2
                clear h2
                go_wp2_with fail
                go_roundw
                case rel =>
                  refine ⟨k + 1, by omega, by omega, by go_num, ⟨?_⟩⟩
                  rw [show crashTo l0_0 l0_1 l1 (k + 1) = crashTo l0_0 l0_1 l1 k by show fateOf _ _ _ = _; unfold fateOf; rw [if_neg H1.out, if_neg H2.out]]
                  exact CrashRel.below HX.out (below_alloc (Below.refl _ _) _)
                case measure => simp [intOf]; omega
          · have hkn : ((k : Nat) : Int) ≥ l1.length := by omega
            go_wp2_with fail
            go_meet
            rw [show min l0_1.length l1.length = k by omega]
            exact ⟨CrashRel.below HX.out (below_alloc (Below.refl _ _) _)⟩
        · go_wp2_with fail
          go_meet
          rw [show min l0_1.length l1.length = k by omega]
          exact HX
    case rest =>
      have HX := hcut
      clear hcut HX3
      rw [show crashTo l0_0 l0_1 l1 (min l0_1.length l1.length) = dBehind l0_0 l0_1 l1 from rfl] at HX
      have hq0 : wc.cell? ⟨g7, 0, none⟩ = some (.slice (some ⟨gs, 0, none⟩) l0_0.length co1) := (blk_cell HX.out.box 0).trans rfl
      have HX2 := Aside0.mk (show CrashRel2 w wc gs co1 g7 Ao2 co2 l0_0.length l0_1.length 0 (dBehind l0_0 l0_1 l1) from ⟨HX.out.sec, HX.out.box, HX.out.res, HX.out.bel⟩)
      clear HX
      have HDL := Aside0.mk (dBehind_length l0_0 l0_1 l1)
      have HDO := Aside0.mk (dBehind_ok l1 HOK.out)
      generalize hLL : dBehind l0_0 l0_1 l1 = L at HX2 HDL HDO
      have HLL := Aside0.mk hLL
      clear hLL
      go_wp2_with fail
      go_loopw [59] (fun i wr => ∃ k : Nat, k ≤ l0_0.length ∧ i = .int .i64 k ∧ Aside0 (CrashRel2 w wr gs co1 g7 Ao2 co2 l0_0.length l0_1.length k L)) (fun i _ => l0_0.length - (intOf i).toNat)
      case atStart => exact ⟨0, Nat.zero_le _, rfl, HX2⟩
      case round =>
        clear HX2 hq0
        obtain ⟨k, hk0, rfl, HX⟩ := hrel
        have hn10 := HN0.out.2.1
        by_cases hlt : k < l0_0.length
        · have hlL : k < L.length := by rw [HDL.out]; exact hlt
          obtain ⟨A', c', d0, hc', hv'⟩ := HX.out.sec.text hlL
          have HV := Aside0.mk hv'
          have HC' := Aside0.mk hc'
          have H32 := Aside0.mk (okDisk_sec HDO.out _ (List.getElem_mem hlL))
          have HGL := Aside0.mk (List.getElem?_eq_getElem hlL)
          have HD0 := Aside0.mk d0
          generalize L[k] = s at HV HC' H32 HGL HD0
          clear d0 hc' hv'
          have hk0' : 0 ≤ (k : Int) := by omega
          have hk1' : (k : Int) < l0_0.length := by omega
          have HSS := Aside0.mk (show ∀ W : World, Below wr.heap.size wr W → W.cell? ⟨g7, 0, none⟩ = some (.slice (some ⟨gs, 0, none⟩) l0_0.length co1) ∧ W.cell? ⟨gs, k * 2, none⟩ = some (.slice A' s.f0.length c') from fun W hb => ⟨(blk_cell (blk_below HX.out.box hb) 0).trans rfl, (hb.cell (World.block_lt_of_cell? wr _ HD0.out)).trans HD0.out⟩)
          go_wp2_with fail
          refine start_ (n := 13) (S := fun w' => w'.cell? ⟨g7, 0, none⟩ = some (.slice (some ⟨gs, 0, none⟩) l0_0.length co1) ∧ w'.cell? ⟨gs, k * 2, none⟩ = some (.slice A' s.f0.length c')) (ds := [12]) #[false, false, false, false, false, false, false, false, false, false, false, false, false] (by kernel_rfl) rfl rfl (by exact HSS.out _ (below_drew1 (Below.refl _ _))) (fun hHeld => ?_); refine with_tabW hCrash.tab18 hCrash.bits18 (fun HT_ HW_ => ?_)
          refine pure_ (i := 0) (N := some 62) (v := ?_) (a' := ?_) #[true, false, false, false, false, false, false, false, false, false, false, false, false] rfl rfl (any_of HT_.out (by kernel_rfl)) (fun _ _ _ h => h) (Or.inl ⟨by rfl, ?_⟩) ?_ ?_
          rotate_left
          · intro w'
            go_simp
            with_reducible rfl
          rotate_left
          · simp only [Act.put, List.setIfInBounds_toArray, List.set_cons_zero, List.set_cons_succ, i64_w, i32_w]
            rfl
          refine take_ (i := 1) (N := some 63) (v := ?_) (a' := ?_) #[true, true, false, false, false, false, false, false, false, false, false, false, false] rfl rfl (take_ofW HT_.out HW_.out (by kernel_rfl)) (fun _ _ _ h => h) (Or.inl ⟨by rfl, ?_⟩) hHeld ?_ ?_
          rotate_left
          · rintro w' ⟨s0, s1⟩
            go_simp
            with_reducible rfl
          rotate_left
          · simp only [Act.put, List.setIfInBounds_toArray, List.set_cons_zero, List.set_cons_succ, i64_w, i32_w]
            rfl
          refine pure_ (i := 2) (N := some 64) (v := ?_) (a' := ?_) #[true, true, true, false, false, false, false, false, false, false, false, false, false] rfl rfl (any_of HT_.out (by kernel_rfl)) (fun _ _ _ h => h) (Or.inl ⟨by rfl, ?_⟩) ?_ ?_
          rotate_left
          · intro w'
            go_simp
            with_reducible rfl
          rotate_left
          · simp only [Act.put, List.setIfInBounds_toArray, List.set_cons_zero, List.set_cons_succ, i64_w, i32_w]
            rfl
          refine pure_ (i := 3) (N := some 65) (v := ?_) (a' := ?_) #[true, true, true, true, false, false, false, false, false, false, false, false, false] rfl rfl (any_of HT_.out (by kernel_rfl)) (fun _ _ _ h => h) (Or.inl ⟨by rfl, ?_⟩) ?_ ?_
          rotate_left
          · intro w'
            go_simp
            with_reducible rfl
          rotate_left
          · simp only [Act.put, List.setIfInBounds_toArray, List.set_cons_zero, List.set_cons_succ, i64_w, i32_w]
            rfl
          refine take_ (i := 4) (N := some 66) (v := ?_) (a' := ?_) #[true, true, true, true, true, false, false, false, false, false, false, false, false] rfl rfl (take_ofW HT_.out HW_.out (by kernel_rfl)) (fun _ _ _ h => h) (Or.inl ⟨by rfl, ?_⟩) hHeld ?_ ?_
          rotate_left
          · rintro w' ⟨s0, s1⟩
            go_simp
            with_reducible rfl
          rotate_left
          · simp only [Act.put, List.setIfInBounds_toArray, List.set_cons_zero, List.set_cons_succ, i64_w, i32_w]
            rfl
          refine pure_ (i := 5) (N := some 67) (v := ?_) (a' := ?_) #[true, true, true, true, true, true, false, false, false, false, false, false, false] rfl rfl (any_of HT_.out (by kernel_rfl)) (fun _ _ _ h => h) (Or.inl ⟨by rfl, ?_⟩) ?_ ?_
          rotate_left
          · intro w'
            go_simp
            with_reducible rfl
          rotate_left
          · simp only [Act.put, List.setIfInBounds_toArray, List.set_cons_zero, List.set_cons_succ, i64_w, i32_w]
            rfl
          refine pure_ (i := 6) (N := some 68) (v := ?_) (a' := ?_) #[true, true, true, true, true, true, true, false, false, false, false, false, false] rfl rfl (any_of HT_.out (by kernel_rfl)) (fun _ _ _ h => h) (Or.inl ⟨by rfl, ?_⟩) ?_ ?_
          rotate_left
          · intro w'
            go_simp
            with_reducible rfl
          rotate_left
          · simp only [Act.put, List.setIfInBounds_toArray, List.set_cons_zero, List.set_cons_succ, i64_w, i32_w]
            rfl
          refine pure_ (i := 7) (N := some 69) (v := ?_) (a' := ?_) #[true, true, true, true, true, true, true, true, false, false, false, false, false] rfl rfl (any_of HT_.out (by kernel_rfl)) (fun _ _ _ h => h) (Or.inl ⟨by rfl, ?_⟩) ?_ ?_
          rotate_left
          · intro w'
            go_simp
            with_reducible rfl
          rotate_left
          · simp only [Act.put, List.setIfInBounds_toArray, List.set_cons_zero, List.set_cons_succ, i64_w, i32_w]
            rfl
          refine take_ (i := 8) (N := some 70) (v := ?_) (a' := ?_) #[true, true, true, true, true, true, true, true, true, false, false, false, false] rfl rfl (take_ofW HT_.out HW_.out (by kernel_rfl)) (fun _ _ _ h => h) (Or.inl ⟨by rfl, ?_⟩) hHeld ?_ ?_
          rotate_left
          · rintro w' ⟨s0, s1⟩
            go_simp
            with_reducible rfl
          rotate_left
          · simp only [Act.put, List.setIfInBounds_toArray, List.set_cons_zero, List.set_cons_succ, i64_w, i32_w]
            rfl
          refine one_ (i := 9) (N := some 71) #[true, true, true, true, true, true, true, true, true, true, false, false, false] rfl rfl (one_of HT_.out (by kernel_rfl)) (by decide) (fun K hK => ?_)
          refine goes_ Try.func119 (by kernel_rfl) rfl #[.slice A' s.f0.length c'] (by rfl) rfl rfl (by (try simp only [List.map_toArray, List.map_cons, List.map_nil]); first | done | rfl | (simp only [List.length_drop, List.length_take]; rfl)) ?_
          refine (hClone.calls A' c' s.f0 s.f0 wr.drew (Kd.C_below HV.out.C (below_drew1 (Below.refl _ _))) HC'.out (clone32 H32.out)).mono ?_
          rintro e w4 ⟨v4, rfl, ho4, hb4⟩
          obtain ⟨A4, c4, e4⟩ := Kd.R_slice ho4
          subst e4
          refine ⟨_, rfl, ?_⟩
          have HB4 := Aside0.mk (below_step (below_drew1 (Below.refl wr.heap.size wr)) hb4)
          have HX4 := Aside0.mk ((HX.out.below (below_drew1 (Below.refl _ _))).step hb4 HGL.out ho4)
          have hw0 : w4.cell? ⟨gs, k * 2, none⟩ = some (.slice A' s.f0.length c') := (HSS.out _ HB4.out).2
          have hfw0 : w4.frozen? ⟨gs, k * 2, none⟩ = false := by obtain ⟨_, hh⟩ := (HX.out.below HB4.out).sec.at; exact blk_frozen hh _
          clear ho4 hb4
          refine hK.out _ _ (by exact HSS.out _ HB4.out) (fun hHeld => ?_)
          clear hK K
          refine norm_ (a' := ?_) ?_ ?_
          rotate_left
          · show Act.put _ (some 71) _ = _
            simp only [Act.put, List.setIfInBounds_toArray, List.set_cons_zero, List.set_cons_succ, i64_w, i32_w]
            rfl
          refine pure_ (i := 10) (N := some 72) (v := ?_) (a' := ?_) #[true, true, true, true, true, true, true, true, true, true, true, false, false] rfl rfl (any_of HT_.out (by kernel_rfl)) (fun _ _ _ h => h) (Or.inl ⟨by rfl, ?_⟩) ?_ ?_
          rotate_left
          · intro w'
            go_simp
            with_reducible rfl
          rotate_left
          · simp only [Act.put, List.setIfInBounds_toArray, List.set_cons_zero, List.set_cons_succ, i64_w, i32_w]
            rfl
          refine pure_ (i := 11) (N := some 73) (v := ?_) (a' := ?_) #[true, true, true, true, true, true, true, true, true, true, true, true, false] rfl rfl (any_of HT_.out (by kernel_rfl)) (fun _ _ _ h => h) (Or.inl ⟨by rfl, ?_⟩) ?_ ?_
          rotate_left
          · intro w'
            go_simp
            with_reducible rfl
          rotate_left
          · simp only [Act.put, List.setIfInBounds_toArray, List.set_cons_zero, List.set_cons_succ, i64_w, i32_w]
            rfl
          refine last_ (i := 12) (N := none) #[true, true, true, true, true, true, true, true, true, true, true, true, true] rfl rfl (one_of HT_.out (by kernel_rfl)) (by decide) (fun K hK => ?_)
          refine skip_ (w1 := ?_) (by rfl) rfl ?_ ?_
          rotate_left
          · go_simp
            rfl
          refine hK.out _ _ ?_
          refine done_ (done_of HT_.out (by kernel_rfl)) ?_
          clear hw0 hfw0
          try go_wp2
          go_roundw
          case rel => exact ⟨k + 1, by omega, by go_num, HX4⟩
          case measure => simp [intOf]; omega
        · obtain rfl : k = l0_0.length := by omega
          have HG := Aside0.mk HX.out.sec.at
          have hq0 : wr.cell? ⟨g7, 0, none⟩ = some (.slice (some ⟨gs, 0, none⟩) l0_0.length co1) := (blk_cell HX.out.box 0).trans rfl
          have hq1 : wr.cell? ⟨g7, 1, none⟩ = some (.slice Ao2 l0_1.length co2) := (blk_cell HX.out.box 1).trans rfl
          have hfq := blk_frozen HX.out.box 1
          have hy0 : wr.cell? ⟨w.heap.size + 1, 0, none⟩ = some (.slice none 0 0) := (blk_cell HX.out.res 0).trans rfl
          have hy1 : wr.cell? ⟨w.heap.size + 1, 1, none⟩ = some (.slice none 0 0) := (blk_cell HX.out.res 1).trans rfl
          have hf0 := blk_frozen HX.out.res 0
          have hf1 := blk_frozen HX.out.res 1
          have hne : g7 ≠ w.heap.size + 1 := HNE.out
          have hne' := Ne.symm hne
          go_wp2_with fail
          obtain ⟨_, hgs⟩ := HG.out
          have n7 : g7 ≠ gs := blk_ne HX.out.box hgs (by decide)
          have nz : w.heap.size + 1 ≠ gs := blk_ne HX.out.res hgs (by decide)
          have hr1 := blk_far HX.out.res (p := ⟨g7, 1, none⟩) hne' (.slice none 0 0)
          have hr2 := blk_put (cs := #[.slice none 0 0, .slice none 0 0]) hr1 0 (.slice (some ⟨gs, 0, none⟩) l0_0.length co1) rfl
          have hs1 := HX.out.sec.far (p := ⟨g7, 1, none⟩) HX.out.box (by decide) (by decide) (.slice none 0 0)
          have hs2 := hs1.far (p := ⟨w.heap.size + 1, 0, none⟩) hr1 (by decide) (by decide) (.slice (some ⟨gs, 0, none⟩) l0_0.length co1)
          have hs3 := hs2.far (p := ⟨w.heap.size + 1, 1, none⟩) hr2 (by decide) (by decide) (.slice none 0 0)
          rw [← HDL.out] at hs3
          have hs4 := hs3.S
          rw [HDL.out, ← HLL.out] at hs4
          refine bodyPost_ret (results_ct rfl _ _ (w.heap.size + 1) 25 #[.slice (some ⟨gs, 0, none⟩) l0_0.length co1, .slice none 0 0] (0, 0) _ rfl (blk_put (cs := #[.slice (some ⟨gs, 0, none⟩) l0_0.length co1, .slice none 0 0]) hr2 1 _ rfl) Try.underlying25 rfl (by kernel_rfl)) rfl ?_
          exact ⟨_, _, rfl, hs4, Kd.S_nil _ _ _ _ _, below_set (below_set (below_set HX.out.bel HG7.out) (Nat.le_succ _)) (Nat.le_succ _)⟩
end Go.Proofs.Ytjlohdbkjoofcaa.P
end
section
set_option linter.unusedVariables false
set_option linter.unusedSimpArgs false
namespace Go.Proofs.Ytjlohdbkjoofcaa.P
open Go.RowKit Go.Proofs.PrintWords Go.Proofs.PrintLast Go.Proofs.PrintMore
attribute [local go_sem] max2_int min2_int max_two min_two max_three min_three max_four min_four
theorem dAsked_zero {l0 : List S52} {l1 : List S65} {a : Int} (h : okDisk l0 l1 = true) (h0 : 0 ≤ a) (h1 : a < l0.length) : dAsked l0 l1 a = 0 := by
  unfold dAsked
  rw [h, if_pos rfl, if_neg (by omega), if_neg (by omega)]
theorem dAsked_congr {l0 m0 : List S52} {l1 m1 : List S65} (h : okDisk l0 l1 = okDisk m0 m1) (hl : l0.length = m0.length) (a : Int) : dAsked l0 l1 a = dAsked m0 m1 a := by
  unfold dAsked
  rw [h, hl]
theorem okDisk_snoc {l0 : List S52} {l1 : List S65} {a : Int} {b : List Int} (h : okDisk l0 l1 = true) (h0 : 0 ≤ a) (h1 : a < l0.length) (hb : b.length = 32) (hn : l1.length ≠ 64) : okDisk l0 (l1 ++ [⟨a, b⟩]) = true := by
  have hl := okDisk_len h
  unfold okDisk at h ⊢
  simp only [Bool.and_eq_true, decide_eq_true_eq, List.length_append, List.length_singleton, List.all_append, List.all_cons, List.all_nil, Bool.and_true] at h ⊢
  refine ⟨⟨⟨h.1.1.1, by omega⟩, h.1.2⟩, h.2, ?_⟩
  simp [okPend, okLen, hb, h0, h1]
theorem dWrite_ok {l0 x0 : List S52} {l1 x1 : List S65} {a : Int} {b : List Int} (h : dWrite l0 l1 a b = (x0, x1, 0)) : okDisk l0 l1 = true ∧ 0 ≤ a ∧ a < l0.length ∧ b.length = 32 ∧ l1.length ≠ 64 ∧ x0 = l0 ∧ x1 = l1 ++ [⟨a, b⟩] := by
  unfold dWrite at h
  by_cases h0 : dAsked l0 l1 a = 0
  · rw [if_pos h0] at h
    obtain ⟨hok, k0, k1⟩ := dAsked_ok h0
    by_cases h1 : b.length = 32
    · rw [if_pos h1] at h
      by_cases h2 : l1.length = 64
      · rw [if_pos h2] at h
        simp at h
      · rw [if_neg h2] at h
        obtain ⟨rfl, rfl⟩ : l0 = x0 ∧ l1 ++ [⟨a, b⟩] = x1 := by simpa using h
        exact ⟨hok, k0, k1, h1, h2, rfl, rfl⟩
    · rw [if_neg h1] at h
      simp at h
  · rw [if_neg h0] at h
    have h : dAsked l0 l1 a = 0 := by simpa using congrArg (fun x => x.2.2) h
    exact absurd h h0
theorem dWrite_bad {l0 x0 : List S52} {l1 x1 : List S65} {a e : Int} {b : List Int} (h : dWrite l0 l1 a b = (x0, x1, e)) (he : e ≠ 0) : x0 = [] ∧ x1 = [] := by
  unfold dWrite at h
  split at h
  · split at h
    · split at h
      · injection h with h1 h; injection h with h2 _; exact ⟨h1.symm, h2.symm⟩
      · injection h with _ h; injection h with _ h3; exact absurd h3.symm he
    · injection h with h1 h; injection h with h2 _; exact ⟨h1.symm, h2.symm⟩
  · injection h with h1 h; injection h with h2 _; exact ⟨h1.symm, h2.symm⟩
theorem dRead_snoc_self {l0 : List S52} {l1 : List S65} {a : Int} {b : List Int} (h : okDisk l0 (l1 ++ [⟨a, b⟩]) = true) (h0 : 0 ≤ a) (h1 : a < l0.length) : dRead l0 (l1 ++ [⟨a, b⟩]) a = (b, 0) := by
  unfold dRead
  rw [if_pos (dAsked_zero h h0 h1), lastP_snoc, if_pos rfl]
theorem dRead_snoc_other {l0 : List S52} {l1 : List S65} {a o : Int} {b : List Int} (h : okDisk l0 l1 = okDisk l0 (l1 ++ [⟨a, b⟩])) (ho : a ≠ o) : dRead l0 l1 o = dRead l0 (l1 ++ [⟨a, b⟩]) o := by
  unfold dRead
  rw [dAsked_congr h rfl, lastP_snoc, if_neg (c := a = o) ho]
theorem dWaits_snoc {l0 : List S52} {l1 : List S65} {a : Int} {b : List Int} (h : okDisk l0 (l1 ++ [⟨a, b⟩]) = true) (h0 : 0 ≤ a) (h1 : a < l0.length) : dWaits l0 (l1 ++ [⟨a, b⟩]) a = (true, 0) := by
  unfold dWaits
  rw [if_pos (dAsked_zero h h0 h1), lastP_snoc, if_pos rfl]
  rfl
theorem dCrash_of {l0 : List S52} {l1 : List S65} (fates : List Int) (h : okDisk l0 l1 = true) : dCrash l0 l1 fates = (dBehind l0 l1 fates, [], 0) := by unfold dCrash; rw [if_pos h]
theorem rd52_get {l : List S52} {a : Int} (h0 : 0 ≤ a) (h1 : a < l.length) : l[a.toNat]? = some (rd_T52 l a) := by
  have : a.toNat < l.length := by omega
  unfold rd_T52
  rw [List.getD_eq_getElem?_getD, List.getElem?_eq_getElem this]
  rfl
theorem dRead_flush {l0 : List S52} {l1 : List S65} (h : okDisk l0 l1 = true) (o : Int) : dRead l0 l1 o = dRead (dBehind l0 l1 (List.replicate l1.length 1)) [] o := by
  have h2 := dBehind_ok (List.replicate l1.length 1) h
  have hz := dBehind_length l0 l1 (List.replicate l1.length 1)
  have ha : dAsked l0 l1 o = dAsked (dBehind l0 l1 (List.replicate l1.length 1)) [] o := dAsked_congr (h.trans h2.symm) hz.symm o
  unfold dRead
  rw [← ha]
  by_cases h0 : dAsked l0 l1 o = 0
  · rw [if_pos h0, if_pos h0]
    obtain ⟨_, k0, k1⟩ := dAsked_ok h0
    have e := dFlush_at h o.toNat
    rw [rd52_get k0 (by rw [hz]; exact k1), show ((o.toNat : Nat) : Int) = o by omega] at e
    show _ = if (rd_T52 _ o).f1 = true then _ else _
    cases hp : lastP l1 o with
    | some p =>
      rw [hp] at e
      injection e with e
      rw [e]
      rfl
    | none =>
      rw [hp, rd52_get k0 k1] at e
      injection e with e
      rw [e]
  · rw [if_neg h0, if_neg h0]
end Go.Proofs.Ytjlohdbkjoofcaa.P
end
section
set_option linter.unusedVariables false
set_option linter.unusedSimpArgs false
namespace Go.Proofs.Ytjlohdbkjoofcaa.P
open Go.RowKit Go.Proofs.PrintWords Go.Proofs.PrintLast Go.Proofs.PrintMore
attribute [local go_sem] max2_int min2_int max_two min_two max_three min_three max_four min_four
def dNew (n : Int) : List S52 × List S65 × Int := if 1 ≤ n ∧ n ≤ 1024 then (List.replicate n.toNat ⟨zero32, false⟩, [], 0) else ([], [], 2)
def hNew.f (a0 : Int) : Option (List S52 × List S65 × Int) := some (dNew a0)
structure NewRel (w wr : World) (g c g4 n k : Nat) : Prop where
  sec : ∃ l : List S52, l.length = n ∧ (∀ i, i < k → l[i]? = some ⟨zero32, false⟩) ∧ (∀ i, k ≤ i → i < n → l[i]? = some ⟨[], false⟩) ∧ SecMid wr w.heap.size g c k l
  box : wr.heap[g4]? = some (.cells #[.slice (some ⟨g, 0, none⟩) n c, .slice none 0 0] 25 (0, 0))
  res : wr.heap[w.heap.size]? = some (.cells #[.slice none 0 0, .slice none 0 0] 25 (0, 0))
  bel : Below w.heap.size w wr
theorem NewRel.step {w wr w4 : World} {g c g4 n k : Nat} {A' : Option Addr} {c' : Nat} {ok : Nat → Prop} (h : NewRel w wr g c g4 n k) (hb : Below wr.heap.size wr w4) (hk : k < n) (hr : (Kd.int .u8).R 5 w4 wr.heap.size ok (.slice A' zero32.length c') zero32) :
    NewRel w (w4.setCell ⟨g, k * 2, none⟩ (.slice A' zero32.length c')) g c g4 n (k + 1) := by
  obtain ⟨l, hl, h1, h2, hs⟩ := h.sec
  have hb4 := blk_below h.box hb
  have hr4 := blk_below h.res hb
  obtain ⟨cs, hg0⟩ := hs.at
  have hg := blk_below hg0 hb
  have n4 : g4 ≠ g := blk_ne hb4 hg (by decide)
  have nz : w.heap.size ≠ g := blk_ne hr4 hg (by decide)
  refine ⟨⟨l.set k ⟨zero32, false⟩, by rw [List.length_set]; exact hl, fun i hi => ?_, fun i h3 h4 => ?_, hs.renew (s := ⟨zero32, false⟩) (below_size h.bel) hb (h2 k (Nat.le_refl _) hk) rfl hr⟩, blk_far hb4 n4 _, blk_far hr4 nz _, below_set (below_step h.bel hb) hs.2.2.1⟩
  · by_cases e : i = k
    · subst e; exact List.getElem?_set_self (by omega)
    · rw [List.getElem?_set_ne (fun e' => e e'.symm)]; exact h1 i (by omega)
  · rw [List.getElem?_set_ne (by omega)]; exact h2 i (by omega) h4
theorem NewRel.below {w wr W : World} {g c g4 n k : Nat} (h : NewRel w wr g c g4 n k) (hb : Below wr.heap.size wr W) : NewRel w W g c g4 n k := by
  obtain ⟨l, hl, h1, h2, hs⟩ := h.sec
  exact ⟨⟨l, hl, h1, h2, hs.below hb⟩, blk_below h.box hb, blk_below h.res hb, below_step h.bel hb⟩
def hNew.T7 : Bool × List (List Nat × List Nat) := (true, [([], []), ([0], [0]), ([], []), ([], []), ([1, 2, 0, 1, 2, 3], [1, 2]), ([4, 0, 1, 2, 3], [4]), ([5, 3, 0, 1, 2, 3], [3, 5])])
def hNew.B7 : List Nat := [0, 1, 0, 0, 15, 31, 63]
theorem hNew.tab7 : rtab .any (opsOf Try.f42 7) = hNew.T7 := by kernel_rfl
theorem hNew.bits7 : waitsOk hNew.T7.2 hNew.B7 = true := by kernel_rfl
set_option maxHeartbeats 4000000 in
set_option maxRecDepth 100000 in
theorem hNew.calls (a0 : Int) (r1 : List S52) (r2 : List S65) (r3 : Int) (w : World) (h : hNew.f a0 = some (r1, r2, r3)) :
    Calls Try.prog 42 #[.int .i64 a0] w fun e w' => ∃ v0_ v1_ : Value, e = .returned (.tuple #[.agg #[v0_, v1_], .int .i64 r3]) ∧ Kd.S k52 52 w' w.heap.size (fun _ => True) v0_ r1 ∧ Kd.S k65 65 w' w.heap.size (fun _ => True) v1_ r2 ∧ Below w.heap.size w w' := by
  have hu25 := Try.underlying25
  have H : Aside0 (dNew a0 = (r1, r2, r3)) := ⟨by unfold hNew.f at h; injection h⟩
  clear h
  have HB := Aside0.mk (below_alloc (Below.refl w.heap.size w) (.cells #[.slice none 0 0, .slice none 0 0] 25))
  have HZ := Aside0.mk (heap_alloc_new w (.cells #[.slice none 0 0, .slice none 0 0] 25))
  by_cases hn : 1 ≤ a0 ∧ a0 ≤ 1024
  rotate_left
  · obtain ⟨rfl, rfl, rfl⟩ : [] = r1 ∧ [] = r2 ∧ 2 = r3 := by have hd := H.out; unfold dNew at hd; rw [if_neg hn] at hd; simpa using hd
    clear H
    by_cases h1 : a0 < 1
    · go_enter Try.func42, Try.ntmps42
      go_wp2_with fail
      refine bodyPost_ret (results_ct rfl _ _ w.heap.size 25 #[.slice none 0 0, .slice none 0 0] (0, 0) _ rfl HZ.out Try.underlying25 rfl (by kernel_rfl)) rfl ?_
      exact ⟨_, _, rfl, Kd.S_nil _ _ _ _ _, Kd.S_nil _ _ _ _ _, HB.out⟩
    · have h2 : a0 > 1024 := by omega
      go_enter Try.func42, Try.ntmps42
      go_wp2_with fail
      refine bodyPost_ret (results_ct rfl _ _ w.heap.size 25 #[.slice none 0 0, .slice none 0 0] (0, 0) _ rfl HZ.out Try.underlying25 rfl (by kernel_rfl)) rfl ?_
      exact ⟨_, _, rfl, Kd.S_nil _ _ _ _ _, Kd.S_nil _ _ _ _ _, HB.out⟩
  · obtain ⟨n, rfl⟩ := Int.eq_ofNat_of_zero_le (show 0 ≤ a0 by omega)
    obtain ⟨rfl, rfl, rfl⟩ : List.replicate n ⟨zero32, false⟩ = r1 ∧ [] = r2 ∧ 0 = r3 := by have hd := H.out; unfold dNew at hd; rw [if_pos hn] at hd; simpa using hd
    clear H
    have hn1 : 1 ≤ n := by omega
    have hn2 : n ≤ 1024 := by omega
    have hn3 : ¬ (n : Int) < 1 := by omega
    have hn4 : ¬ (n : Int) > 1024 := by omega
    clear hn
    go_enter Try.func42, Try.ntmps42
    go_wp2_with (first
      | ((with_reducible refine gate_dst (N := 14) rfl ?_); refine Kd.R_make k52 (w0 := w) w.heap.size 52 rfl (N := 14) rfl 22 _ _ rfl n rfl rfl Try.underlying22 (.agg #[(.slice none 0 0), (.bool false)]) 32 info52 rfl (by decide) (by decide) z52 (ok := fun _ => True) (okp := fun _ => True) (k52_mkM _ _ _ z52 (Kd.R_nil _ _ _ _ _)) (fun _ hk => hk) trivial (by omega) (by omega) HB.out (below_size HB.out) ?_; intro v2 w2 ho2 hb2 hg2 hnew2; obtain ⟨gs, c2, e2, hs2⟩ := SecMid.of_R ho2 (by rw [List.length_replicate]; exact hn1); rw [List.length_replicate] at e2; subst e2; have HS2 := Aside0.mk hs2; have HB2 := Aside0.mk hb2; have HZ2 := Aside0.mk ((hg2.block _ (blk_lt HZ.out) (by simp)).trans HZ.out); clear ho2 hb2 hg2 hnew2 hs2))
    have HX := Aside0.mk (show NewRel w (w2.alloc (.cells #[.slice (some ⟨gs, 0, none⟩) n c2, .slice none 0 0] 25)) gs c2 w2.heap.size n 0 from ⟨⟨_, List.length_replicate .., fun i hi => absurd hi (Nat.not_lt_zero _), fun i _ hi => by rw [List.getElem?_replicate, if_pos (by exact hi)]; rfl, HS2.out.below (below_alloc (Below.refl _ _) (.cells #[.slice (some ⟨gs, 0, none⟩) n c2, .slice none 0 0] 25))⟩, heap_alloc_new w2 (.cells #[.slice (some ⟨gs, 0, none⟩) n c2, .slice none 0 0] 25), blk_alloc HZ2.out (.cells #[.slice (some ⟨gs, 0, none⟩) n c2, .slice none 0 0] 25), below_alloc HB2.out (.cells #[.slice (some ⟨gs, 0, none⟩) n c2, .slice none 0 0] 25)⟩)
    have HNE := Aside0.mk (show w2.heap.size ≠ w.heap.size from Nat.ne_of_gt (blk_lt HZ2.out))
    have HG4 := Aside0.mk (below_size HB2.out)
    clear HB2 HZ2 HS2 HB HZ
    generalize w2.alloc (.cells #[.slice (some ⟨gs, 0, none⟩) n c2, .slice none 0 0] 25) = W3 at HX ⊢
    generalize w2.heap.size = g4 at HX HNE HG4 ⊢
    go_loopw [19] (fun i wr => ∃ k : Nat, k ≤ n ∧ i = .int .i64 k ∧ Aside0 (NewRel w wr gs c2 g4 n k)) (fun i _ => n - (intOf i).toNat)
    case atStart => exact ⟨0, Nat.zero_le _, rfl, HX⟩
    case round =>
      clear HX
      obtain ⟨k, hk, rfl, HX⟩ := hrel
      by_cases hlt : k < n
      · have hk0 : 0 ≤ (k : Int) := by omega
        have hk1 : (k : Int) < n := by omega
        have HSS := Aside0.mk (show ∀ W : World, Below wr.heap.size wr W → W.cell? ⟨g4, 0, none⟩ = some (.slice (some ⟨gs, 0, none⟩) n c2) from fun W hb => (blk_cell (blk_below HX.out.box hb) 0).trans rfl)
        obtain ⟨l, hl, _, _, hsec⟩ := HX.out.sec
        have HSC := Aside0.mk hsec
        have HLL := Aside0.mk hl
        clear hl hsec
        go_wp2_with fail
        refine start_ (n := 7) (S := fun w' => w'.cell? ⟨g4, 0, none⟩ = some (.slice (some ⟨gs, 0, none⟩) n c2)) (ds := [6]) #[false, false, false, false, false, false, false] (by kernel_rfl) rfl rfl (by exact HSS.out _ (below_drew1 (Below.refl _ _))) (fun hHeld => ?_); refine with_tabW hNew.tab7 hNew.bits7 (fun HT_ HW_ => ?_)
        refine pure_ (i := 0) (N := some 22) (v := ?_) (a' := ?_) #[true, false, false, false, false, false, false] rfl rfl (any_of HT_.out (by kernel_rfl)) (fun _ _ _ h => h) (Or.inl ⟨by rfl, ?_⟩) ?_ ?_
        rotate_left
        · intro w'
          go_simp
          with_reducible rfl
        rotate_left
        · simp only [Act.put, List.setIfInBounds_toArray, List.set_cons_zero, List.set_cons_succ, i64_w, i32_w]
          rfl
        refine take_ (i := 1) (N := some 23) (v := ?_) (a' := ?_) #[true, true, false, false, false, false, false] rfl rfl (take_ofW HT_.out HW_.out (by kernel_rfl)) (fun _ _ _ h => h) (Or.inl ⟨by rfl, ?_⟩) hHeld ?_ ?_
        rotate_left
        · rintro w' s0
          go_simp
          with_reducible rfl
        rotate_left
        · simp only [Act.put, List.setIfInBounds_toArray, List.set_cons_zero, List.set_cons_succ, i64_w, i32_w]
          rfl
        refine pure_ (i := 2) (N := some 24) (v := ?_) (a' := ?_) #[true, true, true, false, false, false, false] rfl rfl (any_of HT_.out (by kernel_rfl)) (fun _ _ _ h => h) (Or.inl ⟨by rfl, ?_⟩) ?_ ?_
        rotate_left
        · intro w'
          go_simp
          with_reducible rfl
        rotate_left
        · simp only [Act.put, List.setIfInBounds_toArray, List.set_cons_zero, List.set_cons_succ, i64_w, i32_w]
          rfl
        refine one_ (i := 3) (N := some 25) #[true, true, true, true, false, false, false] rfl rfl (one_of HT_.out (by kernel_rfl)) (by decide) (fun K hK => ?_)
        refine Kd.R_make_step (Kd.int .u8) (w0 := wr.drew) wr.drew.heap.size 5 rfl (N := 25) rfl 26 _ _ rfl 32 rfl rfl Try.underlying26 (.int .u8 0) 1 info5 rfl (by decide) (by decide) 0 (ok := fun _ => True) (okp := fun _ => True) rfl (fun _ hk => hk) trivial (by omega) (by omega) (Below.refl _ _) (Nat.le_refl _) ?_
        intro v4 w4 ho4 hb4 hg4 hnew4
        have HB4 := Aside0.mk (below_step (below_drew1 (Below.refl wr.heap.size wr)) hb4)
        obtain ⟨A4, c4, e4⟩ := Kd.R_slice ho4
        subst e4
        have HX4 := Aside0.mk (NewRel.step (HX.out.below (below_drew1 (Below.refl _ _))) hb4 hlt ho4)
        obtain ⟨v0, v1, hw0, hw1, hfw0, hfw1⟩ := (HSC.out.below HB4.out).cells (i := k) (by rw [HLL.out]; exact hlt)
        clear ho4 hb4 hg4 hnew4
        refine hK.out _ _ (by exact HSS.out _ HB4.out) (fun hHeld => ?_)
        clear hK K
        refine norm_ (a' := ?_) ?_ ?_
        rotate_left
        · show Act.put _ (some 25) _ = _
          simp only [Act.put, List.setIfInBounds_toArray, List.set_cons_zero, List.set_cons_succ, i64_w, i32_w]
          rfl
        refine pure_ (i := 4) (N := some 26) (v := ?_) (a' := ?_) #[true, true, true, true, true, false, false] rfl rfl (any_of HT_.out (by kernel_rfl)) (fun _ _ _ h => h) (Or.inl ⟨by rfl, ?_⟩) ?_ ?_
        rotate_left
        · intro w'
          go_simp
          with_reducible rfl
        rotate_left
        · simp only [Act.put, List.setIfInBounds_toArray, List.set_cons_zero, List.set_cons_succ, i64_w, i32_w]
          rfl
        refine pure_ (i := 5) (N := some 27) (v := ?_) (a' := ?_) #[true, true, true, true, true, true, false] rfl rfl (any_of HT_.out (by kernel_rfl)) (fun _ _ _ h => h) (Or.inl ⟨by rfl, ?_⟩) ?_ ?_
        rotate_left
        · intro w'
          go_simp
          with_reducible rfl
        rotate_left
        · simp only [Act.put, List.setIfInBounds_toArray, List.set_cons_zero, List.set_cons_succ, i64_w, i32_w]
          rfl
        refine last_ (i := 6) (N := none) #[true, true, true, true, true, true, true] rfl rfl (one_of HT_.out (by kernel_rfl)) (by decide) (fun K hK => ?_)
        refine skip_ (w1 := ?_) (by rfl) rfl ?_ ?_
        rotate_left
        · go_simp
          rfl
        refine hK.out _ _ ?_
        refine done_ (done_of HT_.out (by kernel_rfl)) ?_
        clear hw0 hw1 hfw0 hfw1
        try go_wp2
        go_roundw
        case rel => exact ⟨k + 1, by omega, by go_num, HX4⟩
        case measure => simp [intOf]; omega
      · obtain rfl : k = n := by omega
        obtain ⟨l, hl, hall, _, hsec⟩ := HX.out.sec
        obtain rfl : l = List.replicate k ⟨zero32, false⟩ := List.eq_replicate_iff.2 ⟨hl, fun b hb => by obtain ⟨i, hi, rfl⟩ := List.mem_iff_getElem.1 hb; have := hall i (by omega); rw [List.getElem?_eq_getElem hi] at this; exact Option.some.inj this⟩
        have HSC := Aside0.mk hsec
        clear hl hall hsec
        have hq0 : wr.cell? ⟨g4, 0, none⟩ = some (.slice (some ⟨gs, 0, none⟩) k c2) := (blk_cell HX.out.box 0).trans rfl
        have hq1 : wr.cell? ⟨g4, 1, none⟩ = some (.slice none 0 0) := (blk_cell HX.out.box 1).trans rfl
        have hy0 : wr.cell? ⟨w.heap.size, 0, none⟩ = some (.slice none 0 0) := (blk_cell HX.out.res 0).trans rfl
        have hy1 : wr.cell? ⟨w.heap.size, 1, none⟩ = some (.slice none 0 0) := (blk_cell HX.out.res 1).trans rfl
        have hf0 := blk_frozen HX.out.res 0
        have hf1 := blk_frozen HX.out.res 1
        go_wp2_with fail
        have hr1 := blk_put (cs := #[.slice none 0 0, .slice none 0 0]) HX.out.res 0 (.slice (some ⟨gs, 0, none⟩) k c2) rfl
        have hr2 := blk_put (cs := #[.slice (some ⟨gs, 0, none⟩) k c2, .slice none 0 0]) hr1 1 (.slice none 0 0) rfl
        have hs2 := (HSC.out.far (p := ⟨w.heap.size, 0, none⟩) HX.out.res (by decide) (by decide) (.slice (some ⟨gs, 0, none⟩) k c2)).far (p := ⟨w.heap.size, 1, none⟩) hr1 (by decide) (by decide) (.slice none 0 0)
        have hs3 := SecMid.S (l := List.replicate k ⟨zero32, false⟩) (by rw [List.length_replicate]; exact hs2)
        rw [List.length_replicate] at hs3
        refine bodyPost_ret (results_ct rfl _ _ w.heap.size 25 #[.slice (some ⟨gs, 0, none⟩) k c2, .slice none 0 0] (0, 0) _ rfl hr2 Try.underlying25 rfl (by kernel_rfl)) rfl ?_
        exact ⟨_, _, rfl, hs3, Kd.S_nil _ _ _ _ _, below_set (below_set HX.out.bel (Nat.le_refl _)) (Nat.le_refl _)⟩
end Go.Proofs.Ytjlohdbkjoofcaa.P
end
section
set_option linter.unusedVariables false
set_option linter.unusedSimpArgs false
namespace Go.Proofs.Ytjlohdbkjoofcaa.P
open Go.RowKit Go.Proofs.PrintWords Go.Proofs.PrintLast Go.Proofs.PrintMore
attribute [local go_sem] max2_int min2_int max_two min_two max_three min_three max_four min_four
def catamaranlaw05_of.l0 : Nat → Int → List Int → Int → Option (List Int)
  | 0, _, _, _ => none
  | k + 1, x0, x3, x4 => if x4 < (x3.length : Int) then (if 0 ≤ x4 then (catamaranlaw05_of.l0 k x0 (x3.set (x4 : Int).toNat x0) (wrap64 (x4 + 1))) else (none)) else (some x3)
def catamaranlaw05_of.f (k : Nat) (a0 : Int) : Option (List Int) := if 32 ≤ 281474976710656 then (catamaranlaw05_of.l0 k a0 (List.replicate 32 0) 0) else (none)
theorem catamaranlaw05_of.mono_l : ∀ k, (∀ y0 y1 y2, LeO (catamaranlaw05_of.l0 k y0 y1 y2) (catamaranlaw05_of.l0 (k + 1) y0 y1 y2))
  | 0 => fun _ _ _ r h => by simp [catamaranlaw05_of.l0] at h
  | k + 1 => by
    have ih0 := catamaranlaw05_of.mono_l k
    · intro y0 y1 y2
      unfold catamaranlaw05_of.l0
      repeat' first
      | (with_reducible exact ih0 _ _ _)
      | (with_reducible exact LeO.refl _)
      | (with_reducible exact LeO.none _)
      | (with_reducible refine LeO.ite ?_ ?_)
      | (with_reducible refine LeO.bind ?_ (fun _ => ?_))
      | exact ih0 _ _ _
      | exact LeO.none _
      | refine LeO.ite ?_ ?_
      | refine LeO.bind ?_ (fun _ => ?_)
theorem catamaranlaw05_of.mono : ∀ a0 k, LeO (catamaranlaw05_of.f k a0) (catamaranlaw05_of.f (k + 1) a0) := by
  intro a0 k
  have ih0 := catamaranlaw05_of.mono_l k
  unfold catamaranlaw05_of.f
  repeat' first
      | (with_reducible exact ih0 _ _ _)
      | (with_reducible exact LeO.refl _)
      | (with_reducible exact LeO.none _)
      | (with_reducible refine LeO.ite ?_ ?_)
      | (with_reducible refine LeO.bind ?_ (fun _ => ?_))
      | exact ih0 _ _ _
      | exact LeO.none _
      | refine LeO.ite ?_ ?_
      | refine LeO.bind ?_ (fun _ => ?_)
set_option maxHeartbeats 8000000 in
set_option maxRecDepth 100000 in
theorem catamaranlaw05_of.calls (k : Nat) (a0 : Int) (r : List Int) (w : World) (h : catamaranlaw05_of.f k a0 = some r) :
    Calls Try.prog 44 #[.int .u8 a0] w fun e w' => ∃ v0_ : Value, e = .returned (v0_) ∧ Kd.R (Kd.int .u8) 5 w' w.heap.size (fun _ => True) v0_ r ∧ Below w.heap.size w w' := by
  have HB := Aside0.mk (Below.refl w.heap.size w)
  have H : (if 32 ≤ 281474976710656 then (catamaranlaw05_of.l0 k a0 (List.replicate 32 0) 0) else (none)) = some r := h
  clear h
  by_cases c2 : 32 ≤ 281474976710656
  · rw [if_pos c2] at H
    have c2b0 := eq_true c2
    have c2b1 : decide (32 ≤ 281474976710656) = true := decide_eq_true c2
    clear c2
    obtain ⟨y266, hy266⟩ : ∃ y_ : List Int, y_ = (List.replicate 32 0) := ⟨_, rfl⟩
    replace H : (catamaranlaw05_of.l0 k a0 y266 0) = some r := by first | (rw [hy266]; with_reducible exact H) | (have H2_ := (Option.bind_some _ _).symm.trans H; rw [hy266]; with_reducible exact H2_) | (have H2_ := (Option.bind_some _ _).symm.trans H; with_reducible exact H2_) | with_reducible exact H | (rw [hy266]; exact H) | exact H
    have Ny266 := Aside0.mk hy266
    clear hy266
    have H' := Aside0.mk H
    clear H
    go_enter Try.func44, Try.ntmps44
    go_wp2_with (first | ((with_reducible refine gate_dst (N := 5) rfl ?_); refine Kd.R_make (Kd.int .u8) _ 5 rfl (N := 5) rfl 26 _ _ rfl 32 rfl rfl Try.underlying26 (.int .u8 0) 1 info5 rfl (by decide) (by omega) 0 (ok := fun _ => True) (okp := fun _ => True) rfl (fun _ hk => hk) trivial (by omega) (by omega) (Below.refl _ _) (Nat.le_refl _) ?_; intro v267 w3 ho4 hb hg_ hnew_; clear hg_ hnew_; (first | rw [← Ny266.out] at ho4 | (simp only [Int.reduceToNat] at ho4; rw [← Ny266.out] at ho4)); have n0_ := Aside0.mk (Kd.R_lower ho4 (below_size (by repeat (first | (with_reducible first | exact HB.out | apply below_alloc | apply pw_below_drewN | apply below_drew1) | exact HB.out)))); have n1_ := Aside0.mk (below_step (by repeat (first | (with_reducible first | exact HB.out | apply below_alloc | apply pw_below_drewN | apply below_drew1) | exact HB.out)) hb); clear HB; have HO268 := n0_; have HB := n1_; clear n0_ n1_; clear hb ho4))
    go_loopg [4] k (fun kq v4 w' => ∃ (x3_1 : List Int) (x4_1 : Int), v4 = .int .i64 x4_1 ∧ Aside0 (catamaranlaw05_of.l0 kq a0 x3_1 x4_1 = some r) ∧ Aside0 (kq ≤ k) ∧ Aside0 (Kd.R (Kd.int .u8) 5 w' w.heap.size (fun _ => True) v267 x3_1) ∧ Aside0 (Below w.heap.size w w'))
    case atStart => exact ⟨(y266), (0), (by first | rfl | (simp; done) | (simp [*]; done)), H', ⟨Nat.le_refl _⟩, ⟨by (with_reducible repeat (first | apply Kd.R_alloc | apply Kd.R_drewN | apply Kd.R_drew)); exact HO268.out⟩, ⟨by repeat (first | (with_reducible first | exact HB.out | apply below_alloc | apply pw_below_drewN | apply below_drew1) | exact HB.out)⟩⟩
    case round =>
      clear H'
      try clear c2
      try clear c2b0
      try clear c2b1
      try clear p2
      try clear c4
      obtain ⟨x3_1, x4_1, rfl, HA, HK1, HO_3, HB⟩ := hrel
      cases gk with
      | zero => exact absurd HA.out (by simp [catamaranlaw05_of.l0])
      | succ k1 =>
        have H := HA.out
        clear HA
        simp only [catamaranlaw05_of.l0] at H
        by_cases c5 : x4_1 < (x3_1.length : Int)
        · rw [if_pos c5] at H
          have c5b0 : decide (x4_1 < (x3_1.length : Int)) = true := decide_eq_true c5
          clear c5
          by_cases c6 : 0 ≤ x4_1
          · rw [if_pos c6] at H
            have c6b0 : decide (0 ≤ x4_1) = true := decide_eq_true c6
            clear c6
            obtain ⟨y269, hy269⟩ : ∃ y_ : List Int, y_ = (x3_1.set (x4_1 : Int).toNat a0) := ⟨_, rfl⟩
            replace H : (catamaranlaw05_of.l0 k1 a0 y269 (wrap64 (x4_1 + 1))) = some r := by first | (rw [hy269]; with_reducible exact H) | (have H2_ := (Option.bind_some _ _).symm.trans H; rw [hy269]; with_reducible exact H2_) | (have H2_ := (Option.bind_some _ _).symm.trans H; with_reducible exact H2_) | with_reducible exact H | (rw [hy269]; exact H) | exact H
            have Ny269 := Aside0.mk hy269
            clear hy269
            have H' := Aside0.mk H
            clear H
            obtain ⟨Ao8, co8, eo8⟩ := Kd.R_slice HO_3.out
            subst eo8
            have p7 : 0 ≤ (x4_1 : Int) := of_decide_eq_true (by first | (with_reducible assumption) | assumption)
            have q7 : (x4_1 : Int) < ((x3_1.length : Int) : Int) := of_decide_eq_true (by first | (with_reducible assumption) | assumption)
            obtain ⟨go7, co7, eo7, gb7, gl7, cl7, HG7⟩ := Kd.R_form HO_3.out (by omega)
            (first | cases eo7 | (injection eo7 with ea_ en_ ec_; (first | subst ea_ | (injection ea_ with ea_; subst ea_)); subst ec_; clear en_))
            have GB7 := Aside0.mk gb7
            have GG7 := Aside0.mk HG7
            clear gb7 gl7 HG7
            obtain ⟨hx7_0, hf7_0⟩ := Kd.R_celln 0 HO_3.out (x4_1 : Int) p7 q7
            replace p7 := eq_true p7
            replace q7 := eq_true q7
            have HP9 := Kd.R_putg HO_3.out (x4_1 : Int) a0
            go_wp2_with (first | ((with_reducible refine gate_store (t := 5) (p := 15) rfl ?_); refine store_event (t := 5) (p := 15) (v := ?vo_w10) (w1 := (wr.setCell ⟨go7, (x4_1 : Int).toNat, none⟩ (.int .u8 a0))) ?hg ?ho ?hn ?hr ?_; (case ho => rfl); (case hg => rfl); (case hn => rfl); (case hr => first | (go_simp; done) | (go_simp; rfl)); intro w10 hw; have hg : wr.grownBy w10 (some go7) := (by rw [hw]; exact HP9.2); have hp_ : Kd.R (Kd.int .u8) 5 w10 w.heap.size (fun _ => True) (.slice (some ⟨go7, 0, none⟩) x3_1.length co8) y269 := (by rw [hw, Ny269.out]; exact HP9.1); clear HP9; have n0_ := Aside0.mk (hp_); have n1_ := Aside0.mk ((by rw [hw]; exact below_set (HB.out) GB7.out : Below w.heap.size w w10)); clear HO_3; clear HB; have HO_3 := n0_; have HB := n1_; clear n0_ n1_; clear hg hw hp_))
            go_roundg k1
            case measure => have := HK1.out; omega
            case rel => exact ⟨(y269), (wrap64 (x4_1 + 1)), (by first | rfl | (simp; done) | (simp [*]; done)), H', ⟨by have := HK1.out; omega⟩, ⟨by (with_reducible repeat (first | apply Kd.R_alloc | apply Kd.R_drewN | apply Kd.R_drew)); exact HO_3.out⟩, ⟨by repeat (first | (with_reducible first | exact HB.out | apply below_alloc | apply pw_below_drewN | apply below_drew1) | exact HB.out)⟩⟩
          · rw [if_neg c6] at H
            exact absurd H (by simp)
        · rw [if_neg c5] at H
          have c5b0 : decide (x4_1 < (x3_1.length : Int)) = false := decide_eq_false c5
          clear c5
          obtain rfl := Option.some.inj H
          obtain ⟨Ao11, co11, eo11⟩ := Kd.R_slice HO_3.out
          subst eo11
          go_wp2
          go_ret
          exact ⟨_, by first | rfl | (simp [errW_none, errW_some] <;> rfl) | (simp [*, errW_none, errW_some] <;> rfl), by (with_reducible repeat (first | apply Kd.R_alloc | apply Kd.R_drewN | apply Kd.R_drew)); exact HO_3.out, by repeat (first | (with_reducible first | exact HB.out | apply below_alloc | apply pw_below_drewN | apply below_drew1) | exact HB.out)⟩
  · rw [if_neg c2] at H
    exact absurd H (by simp)
end Go.Proofs.Ytjlohdbkjoofcaa.P
end
section
set_option linter.unusedVariables false
set_option linter.unusedSimpArgs false
namespace Go.Proofs.Ytjlohdbkjoofcaa.P
open Go.RowKit Go.Proofs.PrintWords Go.Proofs.PrintLast Go.Proofs.PrintMore
attribute [local go_sem] max2_int min2_int max_two min_two max_three min_three max_four min_four
def twoS : List S52 := [⟨zero32, false⟩, ⟨zero32, false⟩]
def of32 (c : Int) : List Int := List.replicate 32 c
def two0 : List S65 := []
def two1 : List S65 := [⟨1, of32 120⟩]
def two2 : List S65 := [⟨1, of32 120⟩, ⟨1, of32 121⟩]
def hTwo.f : Option (List S52 × List S65 × Bool) := some (twoS, two2, true)
theorem two_new : hNew.f 2 = some (twoS, two0, 0) := by kernel_rfl
theorem two_of120 : catamaranlaw05_of.f 50 120 = some (of32 120) := by kernel_rfl
theorem two_of121 : catamaranlaw05_of.f 50 121 = some (of32 121) := by kernel_rfl
theorem two_w1 : hWrite.f twoS two0 1 (of32 120) = some (twoS, two1, 0) := by kernel_rfl
theorem two_w2 : hWrite.f twoS two1 1 (of32 121) = some (twoS, two2, 0) := by kernel_rfl
def hTwo.T2 : Bool × List (List Nat × List Nat) := (true, [([], []), ([], []), ([0, 1, 1], [0, 1]), ([2], [2]), ([3], [3]), ([3], [3]), ([], []), ([6, 4, 2, 0, 1, 2, 3, 4, 6], [4, 6]), ([5, 7, 0, 1, 2, 3, 4, 5, 6, 7], [5])])
def hTwo.B2 : List Nat := [0, 0, 3, 7, 15, 15, 0, 95, 255]
theorem hTwo.tab2 : rtab .any (opsOf Try.f43 2) = hTwo.T2 := by kernel_rfl
theorem hTwo.bits2 : waitsOk hTwo.T2.2 hTwo.B2 = true := by kernel_rfl
def hTwo.T3 : Bool × List (List Nat × List Nat) := (true, [([], []), ([], []), ([0, 1, 1], [0, 1]), ([2], [2]), ([3], [3]), ([3], [3]), ([], []), ([6, 4, 2, 0, 1, 2, 3, 4, 6], [4, 6]), ([5, 7, 0, 1, 2, 3, 4, 5, 6, 7], [5])])
def hTwo.B3 : List Nat := [0, 0, 3, 7, 15, 15, 0, 95, 255]
theorem hTwo.tab3 : rtab .any (opsOf Try.f43 3) = hTwo.T3 := by kernel_rfl
theorem hTwo.bits3 : waitsOk hTwo.T3.2 hTwo.B3 = true := by kernel_rfl
set_option maxHeartbeats 8000000 in
set_option maxRecDepth 100000 in
theorem hTwo.calls (r1 : List S52) (r2 : List S65) (r3 : Bool) (w : World) (h : hTwo.f = some (r1, r2, r3)) :
    Calls Try.prog 43 #[] w fun e w' => ∃ v0_ v1_ : Value, e = .returned (.tuple #[.agg #[v0_, v1_], .bool r3]) ∧ Kd.S k52 52 w' w.heap.size (fun _ => True) v0_ r1 ∧ Kd.S k65 65 w' w.heap.size (fun _ => True) v1_ r2 ∧ Below w.heap.size w w' := by
  have hu25 := Try.underlying25
  obtain ⟨rfl, rfl, rfl⟩ : twoS = r1 ∧ two2 = r2 ∧ true = r3 := by unfold hTwo.f at h; injection h with h; injection h with h1 h; injection h with h2 h3; exact ⟨h1, h2, h3⟩
  clear h
  have HB := Aside0.mk (below_alloc (Below.refl w.heap.size w) (.cells #[.slice none 0 0, .slice none 0 0] 25))
  have HZ := Aside0.mk (heap_alloc_new w (.cells #[.slice none 0 0, .slice none 0 0] 25))
  go_enter Try.func43, Try.ntmps43
  go_upto_region 2 with (go_at_call 42; refine (hNew.calls 2 twoS two0 0 _ two_new).mono ?_; rintro e w1 ⟨v1, v2, rfl, ho1, ho2, hb1⟩; obtain ⟨Q1, q1, e1⟩ := Kd.S_slice ho1; subst e1; obtain ⟨Q2, q2, e2⟩ := Kd.S_slice ho2; subst e2; have HB1 := Aside0.mk (below_step HB.out hb1); have HZ1 := Aside0.mk (blk_below HZ.out hb1); have HQ1 := Aside0.mk (Kd.S_lower ho1 (below_size HB.out)); have HQ2 := Aside0.mk (Kd.S_lower ho2 (below_size HB.out)); clear ho1 ho2 hb1)
  have HB := Aside0.mk (below_alloc HB1.out (.cells #[.slice Q1 twoS.length q1, .slice Q2 two0.length q2] 25))
  replace HQ1 := Aside0.mk (Kd.S_alloc HQ1.out (.cells #[.slice Q1 twoS.length q1, .slice Q2 two0.length q2] 25))
  replace HQ2 := Aside0.mk (Kd.S_alloc HQ2.out (.cells #[.slice Q1 twoS.length q1, .slice Q2 two0.length q2] 25))
  have HZ := Aside0.mk (blk_alloc HZ1.out (.cells #[.slice Q1 twoS.length q1, .slice Q2 two0.length q2] 25))
  have H2 := Aside0.mk (heap_alloc_new w1 (.cells #[.slice Q1 twoS.length q1, .slice Q2 two0.length q2] 25))
  clear HB1 HZ1
  generalize w1.alloc (.cells #[.slice Q1 twoS.length q1, .slice Q2 two0.length q2] 25) = W0 at HB HQ1 HQ2 HZ H2 ⊢
  generalize w1.heap.size = g2 at H2 ⊢
  have HSS := Aside0.mk (show ∀ W : World, Below W0.heap.size W0 W → W.cell? ⟨g2, 0, none⟩ = some (.slice Q1 twoS.length q1) ∧ W.cell? ⟨g2, 1, none⟩ = some (.slice Q2 two0.length q2) from fun W hb => ⟨(blk_cell (blk_below H2.out hb) 0).trans rfl, (blk_cell (blk_below H2.out hb) 1).trans rfl⟩)
  go_cut [4, 5] from 12 to 17 (fun s4 s5 wx => ∃ (g4 : Nat) (X1 : Option Addr) (x1 : Nat) (X2 : Option Addr) (x2 : Nat), s4 = .pointer (some ⟨g4, 0, none⟩) ∧ s5 = .int .i64 0 ∧ Aside0 (wx.heap[g4]? = some (.cells #[.slice X1 twoS.length x1, .slice X2 two1.length x2] 25 (0, 0))) ∧ Aside0 (Kd.S k52 52 wx w.heap.size (fun _ => True) (.slice X1 twoS.length x1) twoS) ∧ Aside0 (Kd.S k65 65 wx w.heap.size (fun _ => True) (.slice X2 two1.length x2) two1) ∧ Aside0 (wx.heap[w.heap.size]? = some (.cells #[.slice none 0 0, .slice none 0 0] 25 (0, 0))) ∧ Aside0 (Below w.heap.size w wx))
  case first =>
    refine start_ (n := 9) (S := fun w' => w'.cell? ⟨g2, 0, none⟩ = some (.slice Q1 twoS.length q1) ∧ w'.cell? ⟨g2, 1, none⟩ = some (.slice Q2 two0.length q2)) (ds := [7]) #[false, false, false, false, false, false, false, false, false] (by kernel_rfl) rfl rfl (by exact HSS.out _ (below_drew1 (Below.refl _ _))) (fun hHeld => ?_); refine with_tabW hTwo.tab2 hTwo.bits2 (fun HT_ HW_ => ?_)
    have HD := Aside0.mk (below_drew1 (Below.refl W0.heap.size W0))
    replace HB := Aside0.mk (below_step HB.out (below_drew1 (Below.refl W0.heap.size W0)))
    replace HZ := Aside0.mk (blk_below HZ.out (below_drew1 (Below.refl W0.heap.size W0)))
    replace HQ1 := Aside0.mk (Kd.S_below HQ1.out (below_drew1 (Below.refl W0.heap.size W0)))
    replace HQ2 := Aside0.mk (Kd.S_below HQ2.out (below_drew1 (Below.refl W0.heap.size W0)))
    generalize W0.drew = Wd at HD HB HZ HQ1 HQ2 hHeld ⊢
    refine take_ (i := 0) (N := some 13) (v := ?_) (a' := ?_) #[true, false, false, false, false, false, false, false, false] rfl rfl (take_ofW HT_.out HW_.out (by kernel_rfl)) (fun _ _ _ h => h) (Or.inl ⟨by rfl, ?_⟩) hHeld ?_ ?_
    rotate_left
    · rintro w' ⟨s0, s1⟩
      go_simp
      with_reducible rfl
    rotate_left
    · simp only [Act.put, List.setIfInBounds_toArray, List.set_cons_zero, List.set_cons_succ, i64_w, i32_w]
      rfl
    refine two_ (i := 1) (j := 6) (Ni := some 14) (Nj := some 4) #[true, true, false, false, false, false, false, false, false] #[true, false, false, false, false, false, true, false, false] rfl rfl rfl rfl (two_of HT_.out (by kernel_rfl)) (by decide) (by decide) (fun K hK => ?_) (fun K hK => ?_)
    · skip
      refine goes_ Try.func44 (by kernel_rfl) rfl #[.int .u8 120] (by rfl) rfl rfl (by (try simp only [List.map_toArray, List.map_cons, List.map_nil]); first | done | rfl | (simp only [List.length_drop, List.length_take]; rfl)) ?_
      refine (catamaranlaw05_of.calls 50 120 (of32 120) Wd two_of120).mono ?_
      rintro e Wc1 ⟨v1, rfl, ho, hA⟩
      obtain ⟨Y, y, e1⟩ := Kd.R_slice ho
      subst e1
      have HY := Aside0.mk ho
      clear ho
      refine ⟨_, rfl, ?_⟩
      replace HB := Aside0.mk (below_step HB.out hA)
      replace HZ := Aside0.mk (blk_below HZ.out hA)
      replace HQ1 := Aside0.mk (Kd.S_below HQ1.out hA)
      replace HQ2 := Aside0.mk (Kd.S_below HQ2.out hA)
      replace HD := Aside0.mk (below_step HD.out hA)
      clear hA hHeld
      refine hK.out _ _ (by exact HSS.out _ HD.out) (fun hHeld => ?_)
      clear hK K
      refine norm_ (a' := ?_) ?_ ?_
      rotate_left
      · show Act.put _ (some 14) _ = _
        simp only [Act.put, List.setIfInBounds_toArray, List.set_cons_zero, List.set_cons_succ, i64_w, i32_w]
        rfl
      refine two_ (i := 2) (j := 6) (Ni := some 15) (Nj := some 4) #[true, true, true, false, false, false, false, false, false] #[true, true, false, false, false, false, true, false, false] rfl rfl rfl rfl (two_of HT_.out (by kernel_rfl)) (by decide) (by decide) (fun K hK => ?_) (fun K hK => ?_)
      · skip
        refine goes_ Try.func32 (by kernel_rfl) rfl #[.agg #[.slice Q1 twoS.length q1, .slice Q2 two0.length q2], .int .i64 1, .slice Y (of32 120).length y] (by rfl) rfl rfl (by (try simp only [List.map_toArray, List.map_cons, List.map_nil]); first | done | rfl | (simp only [List.length_drop, List.length_take]; rfl)) ?_
        refine (hWrite.calls Q1 q1 twoS Q2 q2 two0 1 Y y (of32 120) twoS two1 0 Wc1 (Kd.S_reads' HQ1.out).2.2 (Kd.S_reads' HQ1.out).2.1 (Kd.S_reads' HQ2.out).2.2 (Kd.S_reads' HQ2.out).2.1 (Kd.R_reads' HY.out).2.2 (Kd.R_reads' HY.out).2.1 two_w1).mono ?_
        rintro e Wc2 ⟨v1, v2, rfl, ho1, ho2, hA⟩
        obtain ⟨X1, x1, e1⟩ := Kd.S_slice ho1
        subst e1
        obtain ⟨X2, x2, e2⟩ := Kd.S_slice ho2
        subst e2
        have HX1 := Aside0.mk (Kd.S_lower ho1 (below_size HB.out))
        have HX2 := Aside0.mk (Kd.S_lower ho2 (below_size HB.out))
        clear ho1 ho2
        refine ⟨_, rfl, ?_⟩
        replace HB := Aside0.mk (below_step HB.out hA)
        replace HZ := Aside0.mk (blk_below HZ.out hA)
        replace HQ1 := Aside0.mk (Kd.S_below HQ1.out hA)
        replace HQ2 := Aside0.mk (Kd.S_below HQ2.out hA)
        replace HY := Aside0.mk (Kd.R_below HY.out hA)
        replace HD := Aside0.mk (below_step HD.out hA)
        clear hA hHeld
        clear HY
        clear HQ1
        clear HQ2
        refine hK.out _ _ (by exact HSS.out _ HD.out) (fun hHeld => ?_)
        clear hK K
        refine norm_ (a' := ?_) ?_ ?_
        rotate_left
        · show Act.put _ (some 15) _ = _
          simp only [Act.put, List.setIfInBounds_toArray, List.set_cons_zero, List.set_cons_succ, i64_w, i32_w]
          rfl
        refine pure_ (i := 3) (N := some 12) (v := ?_) (a' := ?_) #[true, true, true, true, false, false, false, false, false] rfl rfl (any_of HT_.out (by kernel_rfl)) (fun _ _ _ h => h) (Or.inl ⟨by rfl, ?_⟩) ?_ ?_
        rotate_left
        · intro w'
          go_simp
          with_reducible rfl
        rotate_left
        · simp only [Act.put, List.setIfInBounds_toArray, List.set_cons_zero, List.set_cons_succ, i64_w, i32_w]
          rfl
        refine pure_ (i := 4) (N := some 16) (v := ?_) (a' := ?_) #[true, true, true, true, true, false, false, false, false] rfl rfl (any_of HT_.out (by kernel_rfl)) (fun _ _ _ h => h) (Or.inl ⟨by rfl, ?_⟩) ?_ ?_
        rotate_left
        · intro w'
          go_simp
          with_reducible rfl
        rotate_left
        · simp only [Act.put, List.setIfInBounds_toArray, List.set_cons_zero, List.set_cons_succ, i64_w, i32_w]
          rfl
        refine pure_ (i := 5) (N := some 17) (v := ?_) (a' := ?_) #[true, true, true, true, true, true, false, false, false] rfl rfl (any_of HT_.out (by kernel_rfl)) (fun _ _ _ h => h) (Or.inl ⟨by rfl, ?_⟩) ?_ ?_
        rotate_left
        · intro w'
          go_simp
          with_reducible rfl
        rotate_left
        · simp only [Act.put, List.setIfInBounds_toArray, List.set_cons_zero, List.set_cons_succ, i64_w, i32_w]
          rfl
        refine one_ (i := 6) (N := some 4) #[true, true, true, true, true, true, true, false, false] rfl rfl (one_of HT_.out (by kernel_rfl)) (by decide) (fun K hK => ?_)
        refine value_ (w1 := ?_) (v := ?_) (by rfl) rfl ?_ ?_
        rotate_left 2
        · go_simp
          constructor
          · rfl
          · rfl
        have hA := below_alloc (Below.refl Wc2.heap.size Wc2) (.cells #[.slice none 0 0, .slice none 0 0] 25)
        have H4 := Aside0.mk (heap_alloc_new Wc2 (.cells #[.slice none 0 0, .slice none 0 0] 25))
        have HNE := Aside0.mk (show Wc2.heap.size ≠ w.heap.size from Nat.ne_of_gt (blk_lt HZ.out))
        have HLE := Aside0.mk (show w.heap.size ≤ Wc2.heap.size from below_size HB.out)
        replace HB := Aside0.mk (below_step HB.out hA)
        replace HZ := Aside0.mk (blk_below HZ.out hA)
        replace HX1 := Aside0.mk (Kd.S_below HX1.out hA)
        replace HX2 := Aside0.mk (Kd.S_below HX2.out hA)
        replace HD := Aside0.mk (below_step HD.out hA)
        clear hA hHeld
        generalize Wc2.alloc (.cells #[.slice none 0 0, .slice none 0 0] 25) = Wa3 at HD HB HZ HX1 HX2 H4 ⊢
        generalize Wc2.heap.size = g4 at H4 HNE HLE ⊢
        refine hK.out _ _ (by exact HSS.out _ HD.out) (fun hHeld => ?_)
        clear hK K
        refine norm_ (a' := ?_) ?_ ?_
        rotate_left
        · show Act.put _ (some 4) _ = _
          simp only [Act.put, List.setIfInBounds_toArray, List.set_cons_zero, List.set_cons_succ, i64_w, i32_w]
          rfl
        refine last_ (i := 7) (N := none) #[true, true, true, true, true, true, true, true, false] rfl rfl (one_of HT_.out (by kernel_rfl)) (by decide) (fun K hK => ?_)
        have hz0 : Wa3.cell? ⟨g4, 0, none⟩ = some (.slice none 0 0) := (blk_cell H4.out 0).trans rfl
        have hz1 : Wa3.cell? ⟨g4, 1, none⟩ = some (.slice none 0 0) := (blk_cell H4.out 1).trans rfl
        have hf0 := blk_frozen H4.out 0
        have hf1 := blk_frozen H4.out 1
        refine skip_ (w1 := ?_) (by rfl) rfl ?_ ?_
        rotate_left
        · go_simp
          rfl
        refine hK.out _ _ ?_
        refine pure_ (i := 8) (N := some 5) (v := ?_) (a' := ?_) #[true, true, true, true, true, true, true, true, true] rfl rfl (any_of HT_.out (by kernel_rfl)) (fun _ _ _ h => h) (Or.inl ⟨by rfl, ?_⟩) ?_ ?_
        rotate_left
        · intro w'
          go_simp
          with_reducible rfl
        rotate_left
        · simp only [Act.put, List.setIfInBounds_toArray, List.set_cons_zero, List.set_cons_succ, i64_w, i32_w]
          rfl
        refine done_ (done_of HT_.out (by kernel_rfl)) ?_
        try go_wp2
        go_meet
        have n52 : ∀ q, q ∈ 52 :: k52.E → q ≠ 25 := by decide
        have n65 : ∀ q, q ∈ 65 :: k65.E → q ≠ 25 := by decide
        have hr1 := blk_put (cs := #[.slice none 0 0, .slice none 0 0]) H4.out 0 (.slice X1 twoS.length x1) rfl
        have hr2 := blk_put (cs := #[.slice X1 twoS.length x1, .slice none 0 0]) hr1 1 (.slice X2 two1.length x2) rfl
        exact ⟨g4, X1, x1, X2, x2, rfl, rfl, ⟨hr2⟩, ⟨Kd.S_set (Kd.S_set HX1.out H4.out n52 _ _) hr1 n52 _ _⟩, ⟨Kd.S_set (Kd.S_set HX2.out H4.out n65 _ _) hr1 n65 _ _⟩, ⟨blk_far (blk_far HZ.out HNE.out.symm _) HNE.out.symm _⟩, ⟨below_set (below_set HB.out (by have := below_size HB.out; have := HNE.out; have := HLE.out; omega)) (by have := HLE.out; omega)⟩⟩
      · skip
        refine value_ (w1 := ?_) (v := ?_) (by rfl) rfl ?_ ?_
        rotate_left 2
        · go_simp
          constructor
          · rfl
          · rfl
        have hA := below_alloc (Below.refl Wc1.heap.size Wc1) (.cells #[.slice none 0 0, .slice none 0 0] 25)
        have H4 := Aside0.mk (heap_alloc_new Wc1 (.cells #[.slice none 0 0, .slice none 0 0] 25))
        have HNE := Aside0.mk (show Wc1.heap.size ≠ w.heap.size from Nat.ne_of_gt (blk_lt HZ.out))
        have HLE := Aside0.mk (show w.heap.size ≤ Wc1.heap.size from below_size HB.out)
        replace HB := Aside0.mk (below_step HB.out hA)
        replace HZ := Aside0.mk (blk_below HZ.out hA)
        replace HQ1 := Aside0.mk (Kd.S_below HQ1.out hA)
        replace HQ2 := Aside0.mk (Kd.S_below HQ2.out hA)
        replace HY := Aside0.mk (Kd.R_below HY.out hA)
        replace HD := Aside0.mk (below_step HD.out hA)
        clear hA hHeld
        generalize Wc1.alloc (.cells #[.slice none 0 0, .slice none 0 0] 25) = Wa5 at HD HB HZ HQ1 HQ2 HY H4 ⊢
        generalize Wc1.heap.size = g4 at H4 HNE HLE ⊢
        refine hK.out _ _ (by exact HSS.out _ HD.out) (fun hHeld => ?_)
        clear hK K
        refine norm_ (a' := ?_) ?_ ?_
        rotate_left
        · show Act.put _ (some 4) _ = _
          simp only [Act.put, List.setIfInBounds_toArray, List.set_cons_zero, List.set_cons_succ, i64_w, i32_w]
          rfl
        refine one_ (i := 2) (N := some 15) #[true, true, true, false, false, false, true, false, false] rfl rfl (one_of HT_.out (by kernel_rfl)) (by decide) (fun K hK => ?_)
        refine goes_ Try.func32 (by kernel_rfl) rfl #[.agg #[.slice Q1 twoS.length q1, .slice Q2 two0.length q2], .int .i64 1, .slice Y (of32 120).length y] (by rfl) rfl rfl (by (try simp only [List.map_toArray, List.map_cons, List.map_nil]); first | done | rfl | (simp only [List.length_drop, List.length_take]; rfl)) ?_
        refine (hWrite.calls Q1 q1 twoS Q2 q2 two0 1 Y y (of32 120) twoS two1 0 Wa5 (Kd.S_reads' HQ1.out).2.2 (Kd.S_reads' HQ1.out).2.1 (Kd.S_reads' HQ2.out).2.2 (Kd.S_reads' HQ2.out).2.1 (Kd.R_reads' HY.out).2.2 (Kd.R_reads' HY.out).2.1 two_w1).mono ?_
        rintro e Wc6 ⟨v1, v2, rfl, ho1, ho2, hA⟩
        obtain ⟨X1, x1, e1⟩ := Kd.S_slice ho1
        subst e1
        obtain ⟨X2, x2, e2⟩ := Kd.S_slice ho2
        subst e2
        have HX1 := Aside0.mk (Kd.S_lower ho1 (below_size HB.out))
        have HX2 := Aside0.mk (Kd.S_lower ho2 (below_size HB.out))
        clear ho1 ho2
        refine ⟨_, rfl, ?_⟩
        replace HB := Aside0.mk (below_step HB.out hA)
        replace HZ := Aside0.mk (blk_below HZ.out hA)
        replace HQ1 := Aside0.mk (Kd.S_below HQ1.out hA)
        replace HQ2 := Aside0.mk (Kd.S_below HQ2.out hA)
        replace HY := Aside0.mk (Kd.R_below HY.out hA)
        replace H4 := Aside0.mk (blk_below H4.out hA)
        replace HD := Aside0.mk (below_step HD.out hA)
        clear hA hHeld
        clear HY
        clear HQ1
        clear HQ2
        refine hK.out _ _ (by exact HSS.out _ HD.out) (fun hHeld => ?_)
        clear hK K
        refine norm_ (a' := ?_) ?_ ?_
        rotate_left
        · show Act.put _ (some 15) _ = _
          simp only [Act.put, List.setIfInBounds_toArray, List.set_cons_zero, List.set_cons_succ, i64_w, i32_w]
          rfl
        refine pure_ (i := 3) (N := some 12) (v := ?_) (a' := ?_) #[true, true, true, true, false, false, true, false, false] rfl rfl (any_of HT_.out (by kernel_rfl)) (fun _ _ _ h => h) (Or.inl ⟨by rfl, ?_⟩) ?_ ?_
        rotate_left
        · intro w'
          go_simp
          with_reducible rfl
        rotate_left
        · simp only [Act.put, List.setIfInBounds_toArray, List.set_cons_zero, List.set_cons_succ, i64_w, i32_w]
          rfl
        refine pure_ (i := 4) (N := some 16) (v := ?_) (a' := ?_) #[true, true, true, true, true, false, true, false, false] rfl rfl (any_of HT_.out (by kernel_rfl)) (fun _ _ _ h => h) (Or.inl ⟨by rfl, ?_⟩) ?_ ?_
        rotate_left
        · intro w'
          go_simp
          with_reducible rfl
        rotate_left
        · simp only [Act.put, List.setIfInBounds_toArray, List.set_cons_zero, List.set_cons_succ, i64_w, i32_w]
          rfl
        refine pure_ (i := 5) (N := some 17) (v := ?_) (a' := ?_) #[true, true, true, true, true, true, true, false, false] rfl rfl (any_of HT_.out (by kernel_rfl)) (fun _ _ _ h => h) (Or.inl ⟨by rfl, ?_⟩) ?_ ?_
        rotate_left
        · intro w'
          go_simp
          with_reducible rfl
        rotate_left
        · simp only [Act.put, List.setIfInBounds_toArray, List.set_cons_zero, List.set_cons_succ, i64_w, i32_w]
          rfl
        refine last_ (i := 7) (N := none) #[true, true, true, true, true, true, true, true, false] rfl rfl (one_of HT_.out (by kernel_rfl)) (by decide) (fun K hK => ?_)
        have hz0 : Wc6.cell? ⟨g4, 0, none⟩ = some (.slice none 0 0) := (blk_cell H4.out 0).trans rfl
        have hz1 : Wc6.cell? ⟨g4, 1, none⟩ = some (.slice none 0 0) := (blk_cell H4.out 1).trans rfl
        have hf0 := blk_frozen H4.out 0
        have hf1 := blk_frozen H4.out 1
        refine skip_ (w1 := ?_) (by rfl) rfl ?_ ?_
        rotate_left
        · go_simp
          rfl
        refine hK.out _ _ ?_
        refine pure_ (i := 8) (N := some 5) (v := ?_) (a' := ?_) #[true, true, true, true, true, true, true, true, true] rfl rfl (any_of HT_.out (by kernel_rfl)) (fun _ _ _ h => h) (Or.inl ⟨by rfl, ?_⟩) ?_ ?_
        rotate_left
        · intro w'
          go_simp
          with_reducible rfl
        rotate_left
        · simp only [Act.put, List.setIfInBounds_toArray, List.set_cons_zero, List.set_cons_succ, i64_w, i32_w]
          rfl
        refine done_ (done_of HT_.out (by kernel_rfl)) ?_
        try go_wp2
        go_meet
        have n52 : ∀ q, q ∈ 52 :: k52.E → q ≠ 25 := by decide
        have n65 : ∀ q, q ∈ 65 :: k65.E → q ≠ 25 := by decide
        have hr1 := blk_put (cs := #[.slice none 0 0, .slice none 0 0]) H4.out 0 (.slice X1 twoS.length x1) rfl
        have hr2 := blk_put (cs := #[.slice X1 twoS.length x1, .slice none 0 0]) hr1 1 (.slice X2 two1.length x2) rfl
        exact ⟨g4, X1, x1, X2, x2, rfl, rfl, ⟨hr2⟩, ⟨Kd.S_set (Kd.S_set HX1.out H4.out n52 _ _) hr1 n52 _ _⟩, ⟨Kd.S_set (Kd.S_set HX2.out H4.out n65 _ _) hr1 n65 _ _⟩, ⟨blk_far (blk_far HZ.out HNE.out.symm _) HNE.out.symm _⟩, ⟨below_set (below_set HB.out (by have := below_size HB.out; have := HNE.out; have := HLE.out; omega)) (by have := HLE.out; omega)⟩⟩
    · skip
      refine value_ (w1 := ?_) (v := ?_) (by rfl) rfl ?_ ?_
      rotate_left 2
      · go_simp
        constructor
        · rfl
        · rfl
      have hA := below_alloc (Below.refl Wd.heap.size Wd) (.cells #[.slice none 0 0, .slice none 0 0] 25)
      have H4 := Aside0.mk (heap_alloc_new Wd (.cells #[.slice none 0 0, .slice none 0 0] 25))
      have HNE := Aside0.mk (show Wd.heap.size ≠ w.heap.size from Nat.ne_of_gt (blk_lt HZ.out))
      have HLE := Aside0.mk (show w.heap.size ≤ Wd.heap.size from below_size HB.out)
      replace HB := Aside0.mk (below_step HB.out hA)
      replace HZ := Aside0.mk (blk_below HZ.out hA)
      replace HQ1 := Aside0.mk (Kd.S_below HQ1.out hA)
      replace HQ2 := Aside0.mk (Kd.S_below HQ2.out hA)
      replace HD := Aside0.mk (below_step HD.out hA)
      clear hA hHeld
      generalize Wd.alloc (.cells #[.slice none 0 0, .slice none 0 0] 25) = Wa8 at HD HB HZ HQ1 HQ2 H4 ⊢
      generalize Wd.heap.size = g4 at H4 HNE HLE ⊢
      refine hK.out _ _ (by exact HSS.out _ HD.out) (fun hHeld => ?_)
      clear hK K
      refine norm_ (a' := ?_) ?_ ?_
      rotate_left
      · show Act.put _ (some 4) _ = _
        simp only [Act.put, List.setIfInBounds_toArray, List.set_cons_zero, List.set_cons_succ, i64_w, i32_w]
        rfl
      refine one_ (i := 1) (N := some 14) #[true, true, false, false, false, false, true, false, false] rfl rfl (one_of HT_.out (by kernel_rfl)) (by decide) (fun K hK => ?_)
      refine goes_ Try.func44 (by kernel_rfl) rfl #[.int .u8 120] (by rfl) rfl rfl (by (try simp only [List.map_toArray, List.map_cons, List.map_nil]); first | done | rfl | (simp only [List.length_drop, List.length_take]; rfl)) ?_
      refine (catamaranlaw05_of.calls 50 120 (of32 120) Wa8 two_of120).mono ?_
      rintro e Wc9 ⟨v1, rfl, ho, hA⟩
      obtain ⟨Y, y, e1⟩ := Kd.R_slice ho
      subst e1
      have HY := Aside0.mk ho
      clear ho
      refine ⟨_, rfl, ?_⟩
      replace HB := Aside0.mk (below_step HB.out hA)
      replace HZ := Aside0.mk (blk_below HZ.out hA)
      replace HQ1 := Aside0.mk (Kd.S_below HQ1.out hA)
      replace HQ2 := Aside0.mk (Kd.S_below HQ2.out hA)
      replace H4 := Aside0.mk (blk_below H4.out hA)
      replace HD := Aside0.mk (below_step HD.out hA)
      clear hA hHeld
      refine hK.out _ _ (by exact HSS.out _ HD.out) (fun hHeld => ?_)
      clear hK K
      refine norm_ (a' := ?_) ?_ ?_
      rotate_left
      · show Act.put _ (some 14) _ = _
        simp only [Act.put, List.setIfInBounds_toArray, List.set_cons_zero, List.set_cons_succ, i64_w, i32_w]
        rfl
      refine one_ (i := 2) (N := some 15) #[true, true, true, false, false, false, true, false, false] rfl rfl (one_of HT_.out (by kernel_rfl)) (by decide) (fun K hK => ?_)
      refine goes_ Try.func32 (by kernel_rfl) rfl #[.agg #[.slice Q1 twoS.length q1, .slice Q2 two0.length q2], .int .i64 1, .slice Y (of32 120).length y] (by rfl) rfl rfl (by (try simp only [List.map_toArray, List.map_cons, List.map_nil]); first | done | rfl | (simp only [List.length_drop, List.length_take]; rfl)) ?_
      refine (hWrite.calls Q1 q1 twoS Q2 q2 two0 1 Y y (of32 120) twoS two1 0 Wc9 (Kd.S_reads' HQ1.out).2.2 (Kd.S_reads' HQ1.out).2.1 (Kd.S_reads' HQ2.out).2.2 (Kd.S_reads' HQ2.out).2.1 (Kd.R_reads' HY.out).2.2 (Kd.R_reads' HY.out).2.1 two_w1).mono ?_
      rintro e Wc10 ⟨v1, v2, rfl, ho1, ho2, hA⟩
      obtain ⟨X1, x1, e1⟩ := Kd.S_slice ho1
      subst e1
      obtain ⟨X2, x2, e2⟩ := Kd.S_slice ho2
      subst e2
      have HX1 := Aside0.mk (Kd.S_lower ho1 (below_size HB.out))
      have HX2 := Aside0.mk (Kd.S_lower ho2 (below_size HB.out))
      clear ho1 ho2
      refine ⟨_, rfl, ?_⟩
      replace HB := Aside0.mk (below_step HB.out hA)
      replace HZ := Aside0.mk (blk_below HZ.out hA)
      replace HQ1 := Aside0.mk (Kd.S_below HQ1.out hA)
      replace HQ2 := Aside0.mk (Kd.S_below HQ2.out hA)
      replace H4 := Aside0.mk (blk_below H4.out hA)
      replace HY := Aside0.mk (Kd.R_below HY.out hA)
      replace HD := Aside0.mk (below_step HD.out hA)
      clear hA hHeld
      clear HY
      clear HQ1
      clear HQ2
      refine hK.out _ _ (by exact HSS.out _ HD.out) (fun hHeld => ?_)
      clear hK K
      refine norm_ (a' := ?_) ?_ ?_
      rotate_left
      · show Act.put _ (some 15) _ = _
        simp only [Act.put, List.setIfInBounds_toArray, List.set_cons_zero, List.set_cons_succ, i64_w, i32_w]
        rfl
      refine pure_ (i := 3) (N := some 12) (v := ?_) (a' := ?_) #[true, true, true, true, false, false, true, false, false] rfl rfl (any_of HT_.out (by kernel_rfl)) (fun _ _ _ h => h) (Or.inl ⟨by rfl, ?_⟩) ?_ ?_
      rotate_left
      · intro w'
        go_simp
        with_reducible rfl
      rotate_left
      · simp only [Act.put, List.setIfInBounds_toArray, List.set_cons_zero, List.set_cons_succ, i64_w, i32_w]
        rfl
      refine pure_ (i := 4) (N := some 16) (v := ?_) (a' := ?_) #[true, true, true, true, true, false, true, false, false] rfl rfl (any_of HT_.out (by kernel_rfl)) (fun _ _ _ h => h) (Or.inl ⟨by rfl, ?_⟩) ?_ ?_
      rotate_left
      · intro w'
        go_simp
        with_reducible rfl
      rotate_left
      · simp only [Act.put, List.setIfInBounds_toArray, List.set_cons_zero, List.set_cons_succ, i64_w, i32_w]
        rfl
      refine pure_ (i := 5) (N := some 17) (v := ?_) (a' := ?_) #[true, true, true, true, true, true, true, false, false] rfl rfl (any_of HT_.out (by kernel_rfl)) (fun _ _ _ h => h) (Or.inl ⟨by rfl, ?_⟩) ?_ ?_
      rotate_left
      · intro w'
        go_simp
        with_reducible rfl
      rotate_left
      · simp only [Act.put, List.setIfInBounds_toArray, List.set_cons_zero, List.set_cons_succ, i64_w, i32_w]
        rfl
      refine last_ (i := 7) (N := none) #[true, true, true, true, true, true, true, true, false] rfl rfl (one_of HT_.out (by kernel_rfl)) (by decide) (fun K hK => ?_)
      have hz0 : Wc10.cell? ⟨g4, 0, none⟩ = some (.slice none 0 0) := (blk_cell H4.out 0).trans rfl
      have hz1 : Wc10.cell? ⟨g4, 1, none⟩ = some (.slice none 0 0) := (blk_cell H4.out 1).trans rfl
      have hf0 := blk_frozen H4.out 0
      have hf1 := blk_frozen H4.out 1
      refine skip_ (w1 := ?_) (by rfl) rfl ?_ ?_
      rotate_left
      · go_simp
        rfl
      refine hK.out _ _ ?_
      refine pure_ (i := 8) (N := some 5) (v := ?_) (a' := ?_) #[true, true, true, true, true, true, true, true, true] rfl rfl (any_of HT_.out (by kernel_rfl)) (fun _ _ _ h => h) (Or.inl ⟨by rfl, ?_⟩) ?_ ?_
      rotate_left
      · intro w'
        go_simp
        with_reducible rfl
      rotate_left
      · simp only [Act.put, List.setIfInBounds_toArray, List.set_cons_zero, List.set_cons_succ, i64_w, i32_w]
        rfl
      refine done_ (done_of HT_.out (by kernel_rfl)) ?_
      try go_wp2
      go_meet
      have n52 : ∀ q, q ∈ 52 :: k52.E → q ≠ 25 := by decide
      have n65 : ∀ q, q ∈ 65 :: k65.E → q ≠ 25 := by decide
      have hr1 := blk_put (cs := #[.slice none 0 0, .slice none 0 0]) H4.out 0 (.slice X1 twoS.length x1) rfl
      have hr2 := blk_put (cs := #[.slice X1 twoS.length x1, .slice none 0 0]) hr1 1 (.slice X2 two1.length x2) rfl
      exact ⟨g4, X1, x1, X2, x2, rfl, rfl, ⟨hr2⟩, ⟨Kd.S_set (Kd.S_set HX1.out H4.out n52 _ _) hr1 n52 _ _⟩, ⟨Kd.S_set (Kd.S_set HX2.out H4.out n65 _ _) hr1 n65 _ _⟩, ⟨blk_far (blk_far HZ.out HNE.out.symm _) HNE.out.symm _⟩, ⟨below_set (below_set HB.out (by have := below_size HB.out; have := HNE.out; have := HLE.out; omega)) (by have := HLE.out; omega)⟩⟩
  case rest =>
  clear HB HQ1 HQ2 HZ H2 HSS
  obtain ⟨g2', Q1, q1, Q2, q2, rfl, rfl, H2, HQ1, HQ2, HZ, HB⟩ := hcut
  go_upto_region 3 with fail
  have HSS := Aside0.mk (show ∀ W : World, Below wc.heap.size wc W → W.cell? ⟨g2', 0, none⟩ = some (.slice Q1 twoS.length q1) ∧ W.cell? ⟨g2', 1, none⟩ = some (.slice Q2 two1.length q2) from fun W hb => ⟨(blk_cell (blk_below H2.out hb) 0).trans rfl, (blk_cell (blk_below H2.out hb) 1).trans rfl⟩)
  go_cut [6, 7] from 18 to 23 (fun s4 s5 wx => ∃ (g4 : Nat) (X1 : Option Addr) (x1 : Nat) (X2 : Option Addr) (x2 : Nat), s4 = .pointer (some ⟨g4, 0, none⟩) ∧ s5 = .int .i64 0 ∧ Aside0 (wx.heap[g4]? = some (.cells #[.slice X1 twoS.length x1, .slice X2 two2.length x2] 25 (0, 0))) ∧ Aside0 (Kd.S k52 52 wx w.heap.size (fun _ => True) (.slice X1 twoS.length x1) twoS) ∧ Aside0 (Kd.S k65 65 wx w.heap.size (fun _ => True) (.slice X2 two2.length x2) two2) ∧ Aside0 (wx.heap[w.heap.size]? = some (.cells #[.slice none 0 0, .slice none 0 0] 25 (0, 0))) ∧ Aside0 (Below w.heap.size w wx))
  case first =>
    refine start_ (n := 9) (S := fun w' => w'.cell? ⟨g2', 0, none⟩ = some (.slice Q1 twoS.length q1) ∧ w'.cell? ⟨g2', 1, none⟩ = some (.slice Q2 two1.length q2)) (ds := [7]) #[false, false, false, false, false, false, false, false, false] (by kernel_rfl) rfl rfl (by exact HSS.out _ (below_drew1 (Below.refl _ _))) (fun hHeld => ?_); refine with_tabW hTwo.tab3 hTwo.bits3 (fun HT_ HW_ => ?_)
    have HD := Aside0.mk (below_drew1 (Below.refl wc.heap.size wc))
    replace HB := Aside0.mk (below_step HB.out (below_drew1 (Below.refl wc.heap.size wc)))
    replace HZ := Aside0.mk (blk_below HZ.out (below_drew1 (Below.refl wc.heap.size wc)))
    replace HQ1 := Aside0.mk (Kd.S_below HQ1.out (below_drew1 (Below.refl wc.heap.size wc)))
    replace HQ2 := Aside0.mk (Kd.S_below HQ2.out (below_drew1 (Below.refl wc.heap.size wc)))
    generalize wc.drew = Wd at HD HB HZ HQ1 HQ2 hHeld ⊢
    refine take_ (i := 0) (N := some 19) (v := ?_) (a' := ?_) #[true, false, false, false, false, false, false, false, false] rfl rfl (take_ofW HT_.out HW_.out (by kernel_rfl)) (fun _ _ _ h => h) (Or.inl ⟨by rfl, ?_⟩) hHeld ?_ ?_
    rotate_left
    · rintro w' ⟨s0, s1⟩
      go_simp
      with_reducible rfl
    rotate_left
    · simp only [Act.put, List.setIfInBounds_toArray, List.set_cons_zero, List.set_cons_succ, i64_w, i32_w]
      rfl
    refine two_ (i := 1) (j := 6) (Ni := some 20) (Nj := some 6) #[true, true, false, false, false, false, false, false, false] #[true, false, false, false, false, false, true, false, false] rfl rfl rfl rfl (two_of HT_.out (by kernel_rfl)) (by decide) (by decide) (fun K hK => ?_) (fun K hK => ?_)
    · skip
      refine goes_ Try.func44 (by kernel_rfl) rfl #[.int .u8 121] (by rfl) rfl rfl (by (try simp only [List.map_toArray, List.map_cons, List.map_nil]); first | done | rfl | (simp only [List.length_drop, List.length_take]; rfl)) ?_
      refine (catamaranlaw05_of.calls 50 121 (of32 121) Wd two_of121).mono ?_
      rintro e Wc1 ⟨v1, rfl, ho, hA⟩
      obtain ⟨Y, y, e1⟩ := Kd.R_slice ho
      subst e1
      have HY := Aside0.mk ho
      clear ho
      refine ⟨_, rfl, ?_⟩
      replace HB := Aside0.mk (below_step HB.out hA)
      replace HZ := Aside0.mk (blk_below HZ.out hA)
      replace HQ1 := Aside0.mk (Kd.S_below HQ1.out hA)
      replace HQ2 := Aside0.mk (Kd.S_below HQ2.out hA)
      replace HD := Aside0.mk (below_step HD.out hA)
      clear hA hHeld
      refine hK.out _ _ (by exact HSS.out _ HD.out) (fun hHeld => ?_)
      clear hK K
      refine norm_ (a' := ?_) ?_ ?_
      rotate_left
      · show Act.put _ (some 20) _ = _
        simp only [Act.put, List.setIfInBounds_toArray, List.set_cons_zero, List.set_cons_succ, i64_w, i32_w]
        rfl
      refine two_ (i := 2) (j := 6) (Ni := some 21) (Nj := some 6) #[true, true, true, false, false, false, false, false, false] #[true, true, false, false, false, false, true, false, false] rfl rfl rfl rfl (two_of HT_.out (by kernel_rfl)) (by decide) (by decide) (fun K hK => ?_) (fun K hK => ?_)
      · skip
        refine goes_ Try.func32 (by kernel_rfl) rfl #[.agg #[.slice Q1 twoS.length q1, .slice Q2 two1.length q2], .int .i64 1, .slice Y (of32 121).length y] (by rfl) rfl rfl (by (try simp only [List.map_toArray, List.map_cons, List.map_nil]); first | done | rfl | (simp only [List.length_drop, List.length_take]; rfl)) ?_
        refine (hWrite.calls Q1 q1 twoS Q2 q2 two1 1 Y y (of32 121) twoS two2 0 Wc1 (Kd.S_reads' HQ1.out).2.2 (Kd.S_reads' HQ1.out).2.1 (Kd.S_reads' HQ2.out).2.2 (Kd.S_reads' HQ2.out).2.1 (Kd.R_reads' HY.out).2.2 (Kd.R_reads' HY.out).2.1 two_w2).mono ?_
        rintro e Wc2 ⟨v1, v2, rfl, ho1, ho2, hA⟩
        obtain ⟨X1, x1, e1⟩ := Kd.S_slice ho1
        subst e1
        obtain ⟨X2, x2, e2⟩ := Kd.S_slice ho2
        subst e2
        have HX1 := Aside0.mk (Kd.S_lower ho1 (below_size HB.out))
        have HX2 := Aside0.mk (Kd.S_lower ho2 (below_size HB.out))
        clear ho1 ho2
        refine ⟨_, rfl, ?_⟩
        replace HB := Aside0.mk (below_step HB.out hA)
        replace HZ := Aside0.mk (blk_below HZ.out hA)
        replace HQ1 := Aside0.mk (Kd.S_below HQ1.out hA)
        replace HQ2 := Aside0.mk (Kd.S_below HQ2.out hA)
        replace HY := Aside0.mk (Kd.R_below HY.out hA)
        replace HD := Aside0.mk (below_step HD.out hA)
        clear hA hHeld
        clear HY
        clear HQ1
        clear HQ2
        refine hK.out _ _ (by exact HSS.out _ HD.out) (fun hHeld => ?_)
        clear hK K
        refine norm_ (a' := ?_) ?_ ?_
        rotate_left
        · show Act.put _ (some 21) _ = _
          simp only [Act.put, List.setIfInBounds_toArray, List.set_cons_zero, List.set_cons_succ, i64_w, i32_w]
          rfl
        refine pure_ (i := 3) (N := some 18) (v := ?_) (a' := ?_) #[true, true, true, true, false, false, false, false, false] rfl rfl (any_of HT_.out (by kernel_rfl)) (fun _ _ _ h => h) (Or.inl ⟨by rfl, ?_⟩) ?_ ?_
        rotate_left
        · intro w'
          go_simp
          with_reducible rfl
        rotate_left
        · simp only [Act.put, List.setIfInBounds_toArray, List.set_cons_zero, List.set_cons_succ, i64_w, i32_w]
          rfl
        refine pure_ (i := 4) (N := some 22) (v := ?_) (a' := ?_) #[true, true, true, true, true, false, false, false, false] rfl rfl (any_of HT_.out (by kernel_rfl)) (fun _ _ _ h => h) (Or.inl ⟨by rfl, ?_⟩) ?_ ?_
        rotate_left
        · intro w'
          go_simp
          with_reducible rfl
        rotate_left
        · simp only [Act.put, List.setIfInBounds_toArray, List.set_cons_zero, List.set_cons_succ, i64_w, i32_w]
          rfl
        refine pure_ (i := 5) (N := some 23) (v := ?_) (a' := ?_) #[true, true, true, true, true, true, false, false, false] rfl rfl (any_of HT_.out (by kernel_rfl)) (fun _ _ _ h => h) (Or.inl ⟨by rfl, ?_⟩) ?_ ?_
        rotate_left
        · intro w'
          go_simp
          with_reducible rfl
        rotate_left
        · simp only [Act.put, List.setIfInBounds_toArray, List.set_cons_zero, List.set_cons_succ, i64_w, i32_w]
          rfl
        refine one_ (i := 6) (N := some 6) #[true, true, true, true, true, true, true, false, false] rfl rfl (one_of HT_.out (by kernel_rfl)) (by decide) (fun K hK => ?_)
        refine value_ (w1 := ?_) (v := ?_) (by rfl) rfl ?_ ?_
        rotate_left 2
        · go_simp
          constructor
          · rfl
          · rfl
        have hA := below_alloc (Below.refl Wc2.heap.size Wc2) (.cells #[.slice none 0 0, .slice none 0 0] 25)
        have H4 := Aside0.mk (heap_alloc_new Wc2 (.cells #[.slice none 0 0, .slice none 0 0] 25))
        have HNE := Aside0.mk (show Wc2.heap.size ≠ w.heap.size from Nat.ne_of_gt (blk_lt HZ.out))
        have HLE := Aside0.mk (show w.heap.size ≤ Wc2.heap.size from below_size HB.out)
        replace HB := Aside0.mk (below_step HB.out hA)
        replace HZ := Aside0.mk (blk_below HZ.out hA)
        replace HX1 := Aside0.mk (Kd.S_below HX1.out hA)
        replace HX2 := Aside0.mk (Kd.S_below HX2.out hA)
        replace HD := Aside0.mk (below_step HD.out hA)
        clear hA hHeld
        generalize Wc2.alloc (.cells #[.slice none 0 0, .slice none 0 0] 25) = Wa3 at HD HB HZ HX1 HX2 H4 ⊢
        generalize Wc2.heap.size = g4 at H4 HNE HLE ⊢
        refine hK.out _ _ (by exact HSS.out _ HD.out) (fun hHeld => ?_)
        clear hK K
        refine norm_ (a' := ?_) ?_ ?_
        rotate_left
        · show Act.put _ (some 6) _ = _
          simp only [Act.put, List.setIfInBounds_toArray, List.set_cons_zero, List.set_cons_succ, i64_w, i32_w]
          rfl
        refine last_ (i := 7) (N := none) #[true, true, true, true, true, true, true, true, false] rfl rfl (one_of HT_.out (by kernel_rfl)) (by decide) (fun K hK => ?_)
        have hz0 : Wa3.cell? ⟨g4, 0, none⟩ = some (.slice none 0 0) := (blk_cell H4.out 0).trans rfl
        have hz1 : Wa3.cell? ⟨g4, 1, none⟩ = some (.slice none 0 0) := (blk_cell H4.out 1).trans rfl
        have hf0 := blk_frozen H4.out 0
        have hf1 := blk_frozen H4.out 1
        refine skip_ (w1 := ?_) (by rfl) rfl ?_ ?_
        rotate_left
        · go_simp
          rfl
        refine hK.out _ _ ?_
        refine pure_ (i := 8) (N := some 7) (v := ?_) (a' := ?_) #[true, true, true, true, true, true, true, true, true] rfl rfl (any_of HT_.out (by kernel_rfl)) (fun _ _ _ h => h) (Or.inl ⟨by rfl, ?_⟩) ?_ ?_
        rotate_left
        · intro w'
          go_simp
          with_reducible rfl
        rotate_left
        · simp only [Act.put, List.setIfInBounds_toArray, List.set_cons_zero, List.set_cons_succ, i64_w, i32_w]
          rfl
        refine done_ (done_of HT_.out (by kernel_rfl)) ?_
        try go_wp2
        go_meet
        have n52 : ∀ q, q ∈ 52 :: k52.E → q ≠ 25 := by decide
        have n65 : ∀ q, q ∈ 65 :: k65.E → q ≠ 25 := by decide
        have hr1 := blk_put (cs := #[.slice none 0 0, .slice none 0 0]) H4.out 0 (.slice X1 twoS.length x1) rfl
        have hr2 := blk_put (cs := #[.slice X1 twoS.length x1, .slice none 0 0]) hr1 1 (.slice X2 two2.length x2) rfl
        exact ⟨g4, X1, x1, X2, x2, rfl, rfl, ⟨hr2⟩, ⟨Kd.S_set (Kd.S_set HX1.out H4.out n52 _ _) hr1 n52 _ _⟩, ⟨Kd.S_set (Kd.S_set HX2.out H4.out n65 _ _) hr1 n65 _ _⟩, ⟨blk_far (blk_far HZ.out HNE.out.symm _) HNE.out.symm _⟩, ⟨below_set (below_set HB.out (by have := below_size HB.out; have := HNE.out; have := HLE.out; omega)) (by have := HLE.out; omega)⟩⟩
      · skip
        refine value_ (w1 := ?_) (v := ?_) (by rfl) rfl ?_ ?_
        rotate_left 2
        · go_simp
          constructor
          · rfl
          · rfl
        have hA := below_alloc (Below.refl Wc1.heap.size Wc1) (.cells #[.slice none 0 0, .slice none 0 0] 25)
        have H4 := Aside0.mk (heap_alloc_new Wc1 (.cells #[.slice none 0 0, .slice none 0 0] 25))
        have HNE := Aside0.mk (show Wc1.heap.size ≠ w.heap.size from Nat.ne_of_gt (blk_lt HZ.out))
        have HLE := Aside0.mk (show w.heap.size ≤ Wc1.heap.size from below_size HB.out)
        replace HB := Aside0.mk (below_step HB.out hA)
        replace HZ := Aside0.mk (blk_below HZ.out hA)
        replace HQ1 := Aside0.mk (Kd.S_below HQ1.out hA)
        replace HQ2 := Aside0.mk (Kd.S_below HQ2.out hA)
        replace HY := Aside0.mk (Kd.R_below HY.out hA)
        replace HD := Aside0.mk (below_step HD.out hA)
        clear hA hHeld
        generalize Wc1.alloc (.cells #[.slice none 0 0, .slice none 0 0] 25) = Wa5 at HD HB HZ HQ1 HQ2 HY H4 ⊢
        generalize Wc1.heap.size = g4 at H4 HNE HLE ⊢
        refine hK.out _ _ (by exact HSS.out _ HD.out) (fun hHeld => ?_)
        clear hK K
        refine norm_ (a' := ?_) ?_ ?_
        rotate_left
        · show Act.put _ (some 6) _ = _
          simp only [Act.put, List.setIfInBounds_toArray, List.set_cons_zero, List.set_cons_succ, i64_w, i32_w]
          rfl
        refine one_ (i := 2) (N := some 21) #[true, true, true, false, false, false, true, false, false] rfl rfl (one_of HT_.out (by kernel_rfl)) (by decide) (fun K hK => ?_)
        refine goes_ Try.func32 (by kernel_rfl) rfl #[.agg #[.slice Q1 twoS.length q1, .slice Q2 two1.length q2], .int .i64 1, .slice Y (of32 121).length y] (by rfl) rfl rfl (by (try simp only [List.map_toArray, List.map_cons, List.map_nil]); first | done | rfl | (simp only [List.length_drop, List.length_take]; rfl)) ?_
        refine (hWrite.calls Q1 q1 twoS Q2 q2 two1 1 Y y (of32 121) twoS two2 0 Wa5 (Kd.S_reads' HQ1.out).2.2 (Kd.S_reads' HQ1.out).2.1 (Kd.S_reads' HQ2.out).2.2 (Kd.S_reads' HQ2.out).2.1 (Kd.R_reads' HY.out).2.2 (Kd.R_reads' HY.out).2.1 two_w2).mono ?_
        rintro e Wc6 ⟨v1, v2, rfl, ho1, ho2, hA⟩
        obtain ⟨X1, x1, e1⟩ := Kd.S_slice ho1
        subst e1
        obtain ⟨X2, x2, e2⟩ := Kd.S_slice ho2
        subst e2
        have HX1 := Aside0.mk (Kd.S_lower ho1 (below_size HB.out))
        have HX2 := Aside0.mk (Kd.S_lower ho2 (below_size HB.out))
        clear ho1 ho2
        refine ⟨_, rfl, ?_⟩
        replace HB := Aside0.mk (below_step HB.out hA)
        replace HZ := Aside0.mk (blk_below HZ.out hA)
        replace HQ1 := Aside0.mk (Kd.S_below HQ1.out hA)
        replace HQ2 := Aside0.mk (Kd.S_below HQ2.out hA)
        replace HY := Aside0.mk (Kd.R_below HY.out hA)
        replace H4 := Aside0.mk (blk_below H4.out hA)
        replace HD := Aside0.mk (below_step HD.out hA)
        clear hA hHeld
        clear HY
        clear HQ1
        clear HQ2
        refine hK.out _ _ (by exact HSS.out _ HD.out) (fun hHeld => ?_)
        clear hK K
        refine norm_ (a' := ?_) ?_ ?_
        rotate_left
        · show Act.put _ (some 21) _ = _
          simp only [Act.put, List.setIfInBounds_toArray, List.set_cons_zero, List.set_cons_succ, i64_w, i32_w]
          rfl
        refine pure_ (i := 3) (N := some 18) (v := ?_) (a' := ?_) #[true, true, true, true, false, false, true, false, false] rfl rfl (any_of HT_.out (by kernel_rfl)) (fun _ _ _ h => h) (Or.inl ⟨by rfl, ?_⟩) ?_ ?_
        rotate_left
        · intro w'
          go_simp
          with_reducible rfl
        rotate_left
        · simp only [Act.put, List.setIfInBounds_toArray, List.set_cons_zero, List.set_cons_succ, i64_w, i32_w]
          rfl
        refine pure_ (i := 4) (N := some 22) (v := ?_) (a' := ?_) #[true, true, true, true, true, false, true, false, false] rfl rfl (any_of HT_.out (by kernel_rfl)) (fun _ _ _ h => h) (Or.inl ⟨by rfl, ?_⟩) ?_ ?_
        rotate_left
        · intro w'
          go_simp
          with_reducible rfl
        rotate_left
        · simp only [Act.put, List.setIfInBounds_toArray, List.set_cons_zero, List.set_cons_succ, i64_w, i32_w]
          rfl
        refine pure_ (i := 5) (N := some 23) (v := ?_) (a' := ?_) #[true, true, true, true, true, true, true, false, false] rfl rfl (any_of HT_.out (by kernel_rfl)) (fun _ _ _ h => h) (Or.inl ⟨by rfl, ?_⟩) ?_ ?_
        rotate_left
        · intro w'
          go_simp
          with_reducible rfl
        rotate_left
        · simp only [Act.put, List.setIfInBounds_toArray, List.set_cons_zero, List.set_cons_succ, i64_w, i32_w]
          rfl
        refine last_ (i := 7) (N := none) #[true, true, true, true, true, true, true, true, false] rfl rfl (one_of HT_.out (by kernel_rfl)) (by decide) (fun K hK => ?_)
        have hz0 : Wc6.cell? ⟨g4, 0, none⟩ = some (.slice none 0 0) := (blk_cell H4.out 0).trans rfl
        have hz1 : Wc6.cell? ⟨g4, 1, none⟩ = some (.slice none 0 0) := (blk_cell H4.out 1).trans rfl
        have hf0 := blk_frozen H4.out 0
        have hf1 := blk_frozen H4.out 1
        refine skip_ (w1 := ?_) (by rfl) rfl ?_ ?_
        rotate_left
        · go_simp
          rfl
        refine hK.out _ _ ?_
        refine pure_ (i := 8) (N := some 7) (v := ?_) (a' := ?_) #[true, true, true, true, true, true, true, true, true] rfl rfl (any_of HT_.out (by kernel_rfl)) (fun _ _ _ h => h) (Or.inl ⟨by rfl, ?_⟩) ?_ ?_
        rotate_left
        · intro w'
          go_simp
          with_reducible rfl
        rotate_left
        · simp only [Act.put, List.setIfInBounds_toArray, List.set_cons_zero, List.set_cons_succ, i64_w, i32_w]
          rfl
        refine done_ (done_of HT_.out (by kernel_rfl)) ?_
        try go_wp2
        go_meet
        have n52 : ∀ q, q ∈ 52 :: k52.E → q ≠ 25 := by decide
        have n65 : ∀ q, q ∈ 65 :: k65.E → q ≠ 25 := by decide
        have hr1 := blk_put (cs := #[.slice none 0 0, .slice none 0 0]) H4.out 0 (.slice X1 twoS.length x1) rfl
        have hr2 := blk_put (cs := #[.slice X1 twoS.length x1, .slice none 0 0]) hr1 1 (.slice X2 two2.length x2) rfl
        exact ⟨g4, X1, x1, X2, x2, rfl, rfl, ⟨hr2⟩, ⟨Kd.S_set (Kd.S_set HX1.out H4.out n52 _ _) hr1 n52 _ _⟩, ⟨Kd.S_set (Kd.S_set HX2.out H4.out n65 _ _) hr1 n65 _ _⟩, ⟨blk_far (blk_far HZ.out HNE.out.symm _) HNE.out.symm _⟩, ⟨below_set (below_set HB.out (by have := below_size HB.out; have := HNE.out; have := HLE.out; omega)) (by have := HLE.out; omega)⟩⟩
    · skip
      refine value_ (w1 := ?_) (v := ?_) (by rfl) rfl ?_ ?_
      rotate_left 2
      · go_simp
        constructor
        · rfl
        · rfl
      have hA := below_alloc (Below.refl Wd.heap.size Wd) (.cells #[.slice none 0 0, .slice none 0 0] 25)
      have H4 := Aside0.mk (heap_alloc_new Wd (.cells #[.slice none 0 0, .slice none 0 0] 25))
      have HNE := Aside0.mk (show Wd.heap.size ≠ w.heap.size from Nat.ne_of_gt (blk_lt HZ.out))
      have HLE := Aside0.mk (show w.heap.size ≤ Wd.heap.size from below_size HB.out)
      replace HB := Aside0.mk (below_step HB.out hA)
      replace HZ := Aside0.mk (blk_below HZ.out hA)
      replace HQ1 := Aside0.mk (Kd.S_below HQ1.out hA)
      replace HQ2 := Aside0.mk (Kd.S_below HQ2.out hA)
      replace HD := Aside0.mk (below_step HD.out hA)
      clear hA hHeld
      generalize Wd.alloc (.cells #[.slice none 0 0, .slice none 0 0] 25) = Wa8 at HD HB HZ HQ1 HQ2 H4 ⊢
      generalize Wd.heap.size = g4 at H4 HNE HLE ⊢
      refine hK.out _ _ (by exact HSS.out _ HD.out) (fun hHeld => ?_)
      clear hK K
      refine norm_ (a' := ?_) ?_ ?_
      rotate_left
      · show Act.put _ (some 6) _ = _
        simp only [Act.put, List.setIfInBounds_toArray, List.set_cons_zero, List.set_cons_succ, i64_w, i32_w]
        rfl
      refine one_ (i := 1) (N := some 20) #[true, true, false, false, false, false, true, false, false] rfl rfl (one_of HT_.out (by kernel_rfl)) (by decide) (fun K hK => ?_)
      refine goes_ Try.func44 (by kernel_rfl) rfl #[.int .u8 121] (by rfl) rfl rfl (by (try simp only [List.map_toArray, List.map_cons, List.map_nil]); first | done | rfl | (simp only [List.length_drop, List.length_take]; rfl)) ?_
      refine (catamaranlaw05_of.calls 50 121 (of32 121) Wa8 two_of121).mono ?_
      rintro e Wc9 ⟨v1, rfl, ho, hA⟩
      obtain ⟨Y, y, e1⟩ := Kd.R_slice ho
      subst e1
      have HY := Aside0.mk ho
      clear ho
      refine ⟨_, rfl, ?_⟩
      replace HB := Aside0.mk (below_step HB.out hA)
      replace HZ := Aside0.mk (blk_below HZ.out hA)
      replace HQ1 := Aside0.mk (Kd.S_below HQ1.out hA)
      replace HQ2 := Aside0.mk (Kd.S_below HQ2.out hA)
      replace H4 := Aside0.mk (blk_below H4.out hA)
      replace HD := Aside0.mk (below_step HD.out hA)
      clear hA hHeld
      refine hK.out _ _ (by exact HSS.out _ HD.out) (fun hHeld => ?_)
      clear hK K
      refine norm_ (a' := ?_) ?_ ?_
      rotate_left
      · show Act.put _ (some 20) _ = _
        simp only [Act.put, List.setIfInBounds_toArray, List.set_cons_zero, List.set_cons_succ, i64_w, i32_w]
        rfl
      refine one_ (i := 2) (N := some 21) #[true, true, true, false, false, false, true, false, false] rfl rfl (one_of HT_.out (by kernel_rfl)) (by decide) (fun K hK => ?_)
      refine goes_ Try.func32 (by kernel_rfl) rfl #[.agg #[.slice Q1 twoS.length q1, .slice Q2 two1.length q2], .int .i64 1, .slice Y (of32 121).length y] (by rfl) rfl rfl (by (try simp only [List.map_toArray, List.map_cons, List.map_nil]); first | done | rfl | (simp only [List.length_drop, List.length_take]; rfl)) ?_
      refine (hWrite.calls Q1 q1 twoS Q2 q2 two1 1 Y y (of32 121) twoS two2 0 Wc9 (Kd.S_reads' HQ1.out).2.2 (Kd.S_reads' HQ1.out).2.1 (Kd.S_reads' HQ2.out).2.2 (Kd.S_reads' HQ2.out).2.1 (Kd.R_reads' HY.out).2.2 (Kd.R_reads' HY.out).2.1 two_w2).mono ?_
      rintro e Wc10 ⟨v1, v2, rfl, ho1, ho2, hA⟩
      obtain ⟨X1, x1, e1⟩ := Kd.S_slice ho1
      subst e1
      obtain ⟨X2, x2, e2⟩ := Kd.S_slice ho2
      subst e2
      have HX1 := Aside0.mk (Kd.S_lower ho1 (below_size HB.out))
      have HX2 := Aside0.mk (Kd.S_lower ho2 (below_size HB.out))
      clear ho1 ho2
      refine ⟨_, rfl, ?_⟩
      replace HB := Aside0.mk (below_step HB.out hA)
      replace HZ := Aside0.mk (blk_below HZ.out hA)
      replace HQ1 := Aside0.mk (Kd.S_below HQ1.out hA)
      replace HQ2 := Aside0.mk (Kd.S_below HQ2.out hA)
      replace H4 := Aside0.mk (blk_below H4.out hA)
      replace HY := Aside0.mk (Kd.R_below HY.out hA)
      replace HD := Aside0.mk (below_step HD.out hA)
      clear hA hHeld
      clear HY
      clear HQ1
      clear HQ2
      refine hK.out _ _ (by exact HSS.out _ HD.out) (fun hHeld => ?_)
      clear hK K
      refine norm_ (a' := ?_) ?_ ?_
      rotate_left
      · show Act.put _ (some 21) _ = _
        simp only [Act.put, List.setIfInBounds_toArray, List.set_cons_zero, List.set_cons_succ, i64_w, i32_w]
        rfl
      refine pure_ (i := 3) (N := some 18) (v := ?_) (a' := ?_) #[true, true, true, true, false, false, true, false, false] rfl rfl (any_of HT_.out (by kernel_rfl)) (fun _ _ _ h => h) (Or.inl ⟨by rfl, ?_⟩) ?_ ?_
      rotate_left
      · intro w'
        go_simp
        with_reducible rfl
      rotate_left
      · simp only [Act.put, List.setIfInBounds_toArray, List.set_cons_zero, List.set_cons_succ, i64_w, i32_w]
        rfl
      refine pure_ (i := 4) (N := some 22) (v := ?_) (a' := ?_) #[true, true, true, true, true, false, true, false, false] rfl rfl (any_of HT_.out (by kernel_rfl)) (fun _ _ _ h => h) (Or.inl ⟨by rfl, ?_⟩) ?_ ?_
      rotate_left
      · intro w'
        go_simp
        with_reducible rfl
      rotate_left
      · simp only [Act.put, List.setIfInBounds_toArray, List.set_cons_zero, List.set_cons_succ, i64_w, i32_w]
        rfl
      refine pure_ (i := 5) (N := some 23) (v := ?_) (a' := ?_) #[true, true, true, true, true, true, true, false, false] rfl rfl (any_of HT_.out (by kernel_rfl)) (fun _ _ _ h => h) (Or.inl ⟨by rfl, ?_⟩) ?_ ?_
      rotate_left
      · intro w'
        go_simp
        with_reducible rfl
      rotate_left
      · simp only [Act.put, List.setIfInBounds_toArray, List.set_cons_zero, List.set_cons_succ, i64_w, i32_w]
        rfl
      refine last_ (i := 7) (N := none) #[true, true, true, true, true, true, true, true, false] rfl rfl (one_of HT_.out (by kernel_rfl)) (by decide) (fun K hK => ?_)
      have hz0 : Wc10.cell? ⟨g4, 0, none⟩ = some (.slice none 0 0) := (blk_cell H4.out 0).trans rfl
      have hz1 : Wc10.cell? ⟨g4, 1, none⟩ = some (.slice none 0 0) := (blk_cell H4.out 1).trans rfl
      have hf0 := blk_frozen H4.out 0
      have hf1 := blk_frozen H4.out 1
      refine skip_ (w1 := ?_) (by rfl) rfl ?_ ?_
      rotate_left
      · go_simp
        rfl
      refine hK.out _ _ ?_
      refine pure_ (i := 8) (N := some 7) (v := ?_) (a' := ?_) #[true, true, true, true, true, true, true, true, true] rfl rfl (any_of HT_.out (by kernel_rfl)) (fun _ _ _ h => h) (Or.inl ⟨by rfl, ?_⟩) ?_ ?_
      rotate_left
      · intro w'
        go_simp
        with_reducible rfl
      rotate_left
      · simp only [Act.put, List.setIfInBounds_toArray, List.set_cons_zero, List.set_cons_succ, i64_w, i32_w]
        rfl
      refine done_ (done_of HT_.out (by kernel_rfl)) ?_
      try go_wp2
      go_meet
      have n52 : ∀ q, q ∈ 52 :: k52.E → q ≠ 25 := by decide
      have n65 : ∀ q, q ∈ 65 :: k65.E → q ≠ 25 := by decide
      have hr1 := blk_put (cs := #[.slice none 0 0, .slice none 0 0]) H4.out 0 (.slice X1 twoS.length x1) rfl
      have hr2 := blk_put (cs := #[.slice X1 twoS.length x1, .slice none 0 0]) hr1 1 (.slice X2 two2.length x2) rfl
      exact ⟨g4, X1, x1, X2, x2, rfl, rfl, ⟨hr2⟩, ⟨Kd.S_set (Kd.S_set HX1.out H4.out n52 _ _) hr1 n52 _ _⟩, ⟨Kd.S_set (Kd.S_set HX2.out H4.out n65 _ _) hr1 n65 _ _⟩, ⟨blk_far (blk_far HZ.out HNE.out.symm _) HNE.out.symm _⟩, ⟨below_set (below_set HB.out (by have := below_size HB.out; have := HNE.out; have := HLE.out; omega)) (by have := HLE.out; omega)⟩⟩
  case rest =>
  clear HB HQ1 HQ2 HZ H2 HSS
  obtain ⟨g4, Q1, q1, Q2, q2, rfl, rfl, H2, HQ1, HQ2, HZ, HB⟩ := hcut
  have hc0 : wc.cell? ⟨g4, 0, none⟩ = some (.slice Q1 twoS.length q1) := (blk_cell H2.out 0).trans rfl
  have hc1 : wc.cell? ⟨g4, 1, none⟩ = some (.slice Q2 two2.length q2) := (blk_cell H2.out 1).trans rfl
  have hy0 : wc.cell? ⟨w.heap.size, 0, none⟩ = some (.slice none 0 0) := (blk_cell HZ.out 0).trans rfl
  have hy1 : wc.cell? ⟨w.heap.size, 1, none⟩ = some (.slice none 0 0) := (blk_cell HZ.out 1).trans rfl
  have hf0 := blk_frozen HZ.out 0
  have hf1 := blk_frozen HZ.out 1
  go_wp2_with fail
  have hr1 := blk_put (cs := #[.slice none 0 0, .slice none 0 0]) HZ.out 0 (.slice Q1 twoS.length q1) rfl
  have hr2 := blk_put (cs := #[.slice Q1 twoS.length q1, .slice none 0 0]) hr1 1 (.slice Q2 two2.length q2) rfl
  have n52 : ∀ q, q ∈ 52 :: k52.E → q ≠ 25 := by decide
  have n65 : ∀ q, q ∈ 65 :: k65.E → q ≠ 25 := by decide
  refine bodyPost_ret (results_ct rfl _ _ w.heap.size 25 #[.slice Q1 twoS.length q1, .slice Q2 two2.length q2] (0, 0) _ rfl hr2 Try.underlying25 rfl (by kernel_rfl)) rfl ?_
  exact ⟨_, _, rfl, Kd.S_set (Kd.S_set HQ1.out HZ.out n52 _ _) hr1 n52 _ _, Kd.S_set (Kd.S_set HQ2.out HZ.out n65 _ _) hr1 n65 _ _, below_set (below_set HB.out (Nat.le_refl _)) (Nat.le_refl _)⟩
end Go.Proofs.Ytjlohdbkjoofcaa.P
end
section
set_option linter.unusedVariables false
set_option linter.unusedSimpArgs false
namespace Go.Proofs.Ytjlohdbkjoofcaa.P
open Go.RowKit Go.Proofs.PrintWords Go.Proofs.PrintLast Go.Proofs.PrintMore
attribute [local go_sem] max2_int min2_int max_two min_two max_three min_three max_four min_four
theorem two_ok : okDisk twoS two2 = true := by kernel_rfl
def leaf (l0 : List Int) : List Int × Int := dRead (dBehind twoS two2 l0) [] 1
set_option maxHeartbeats 8000000 in
set_option maxRecDepth 100000 in
theorem hLeaves.calls (A0 : Option Addr) (c0 : Nat) (l0 : List Int) (A1 : Option Addr) (c1 : Nat) (l1 : List Int) (w : World) (hr0 : Kd.C (Kd.int .u8) w A0 l0.length l0) (hc0 : l0.length ≤ c0) (hr1 : Kd.C (Kd.int .u8) w A1 l1.length l1) (hc1 : l1.length ≤ c1) (h : leaf l0 = (l1, 0) ∨ leaf l0 = ([], 50) ∧ l1 = []) :
    Calls Try.prog 46 #[.slice A0 l0.length c0, .slice A1 l1.length c1] w fun e w' => e = .returned (.bool true) ∧ Below w.heap.size w w' := by
  have hu25 := Try.underlying25
  have HR0 := Aside0.mk hr0
  have HR1 := Aside0.mk hr1
  have HC0 := Aside0.mk hc0
  have HC1 := Aside0.mk hc1
  obtain ⟨L, hL⟩ : ∃ L, dBehind twoS two2 l0 = L := ⟨_, rfl⟩
  have FC := Aside0.mk (show hCrash.f twoS two2 l0 = some (L, [], 0) by unfold hCrash.f; rw [dCrash_of _ two_ok, hL])
  have key : ∀ (rb : List Int) (re : Int), leaf l0 = (rb, re) → (re = 0 ∧ rb = l1 ∨ re = 50 ∧ rb = [] ∧ l1 = []) → Calls Try.prog 46 #[.slice A0 l0.length c0, .slice A1 l1.length c1] w fun e w' => e = .returned (.bool true) ∧ Below w.heap.size w w' := by
    intro rb re hre hcase
    have FR := Aside0.mk (show hRead.f L [] 1 = some (rb, re) by unfold hRead.f; rw [← hL]; exact congrArg some hre)
    clear hre h hr0 hr1 hc0 hc1 hL
    have go : ∀ (P : Prop), P = P := fun _ => rfl
    clear go
    rcases hcase with ⟨rfl, rfl⟩ | ⟨rfl, rfl, rfl⟩
    all_goals
      go_enter Try.func46, Try.ntmps46
      go_wp2_with (first
        | (go_at_call 43; refine (hTwo.calls twoS two2 true _ rfl).mono ?_; rintro e w1 ⟨v1, v2, rfl, ho1, ho2, hb1⟩; obtain ⟨T1, t1, e1⟩ := Kd.S_slice ho1; subst e1; obtain ⟨T2, t2, e2⟩ := Kd.S_slice ho2; subst e2; have HB1 := Aside0.mk hb1; have HT1 := Aside0.mk ho1; have HT2 := Aside0.mk ho2; clear ho1 ho2 hb1)
        | (go_at_call 49; have HB2 := Aside0.mk (below_alloc HB1.out (.cells #[.slice T1 twoS.length t1, .slice T2 two2.length t2] 25)); have HU1 := Aside0.mk (Kd.S_reads' (Kd.S_alloc HT1.out (.cells #[.slice T1 twoS.length t1, .slice T2 two2.length t2] 25))).2; have HU2 := Aside0.mk (Kd.S_reads' (Kd.S_alloc HT2.out (.cells #[.slice T1 twoS.length t1, .slice T2 two2.length t2] 25))).2; refine (hCrash.calls T1 t1 twoS T2 t2 two2 A0 c0 l0 L [] 0 _ HU1.out.2 HU1.out.1 HU2.out.2 HU2.out.1 (Kd.C_below HR0.out HB2.out) HC0.out FC.out).mono ?_; rintro e w2 ⟨v1, v2, rfl, ho1, ho2, hb2⟩; obtain ⟨X1, x1, e1⟩ := Kd.S_slice ho1; subst e1; obtain ⟨X2, x2, e2⟩ := Kd.S_slice ho2; subst e2; have HB3 := Aside0.mk (below_step HB2.out hb2); have HX1 := Aside0.mk ho1; have HX2 := Aside0.mk ho2; clear ho1 ho2 hb2)
        | (go_at_call 34; have HB4 := Aside0.mk (below_alloc HB3.out (.cells #[.slice X1 L.length x1, .slice X2 ([] : List S65).length x2] 25)); have HU3 := Aside0.mk (Kd.S_reads' (Kd.S_alloc HX1.out (.cells #[.slice X1 L.length x1, .slice X2 ([] : List S65).length x2] 25))).2; have HU4 := Aside0.mk (Kd.S_reads' (Kd.S_alloc HX2.out (.cells #[.slice X1 L.length x1, .slice X2 ([] : List S65).length x2] 25))).2; refine (hRead.calls X1 x1 L X2 x2 [] 1 _ _ _ HU3.out.2 HU3.out.1 HU4.out.2 HU4.out.1 FR.out).mono ?_; rintro e w3 ⟨v1, rfl, ho1, hb3⟩; obtain ⟨Y, y, e1⟩ := Kd.R_slice ho1; subst e1; have HB5 := Aside0.mk (below_step HB4.out hb3); have hs1 := Kd.C_string (P := Try.prog) (A := Y) (c := y) Try.underlying26 Try.underlying5 Try.underlying9 (Kd.R_reads' ho1).2.2; have hs2 := Kd.C_string (P := Try.prog) (A := A1) (c := c1) Try.underlying26 Try.underlying5 Try.underlying9 (Kd.C_below HR1.out HB5.out); clear ho1 hb3))
      go_ret
      exact ⟨rfl, HB5.out⟩
  rcases h with h | ⟨h, rfl⟩
  · exact key _ _ h (.inl ⟨rfl, rfl⟩)
  · exact key _ _ h (.inr ⟨rfl, rfl, rfl⟩)
end Go.Proofs.Ytjlohdbkjoofcaa.P
end
section
set_option linter.unusedVariables false
set_option linter.unusedSimpArgs false
namespace Go.Proofs.Ytjlohdbkjoofcaa.P
open Go.RowKit Go.Proofs.PrintWords Go.Proofs.PrintLast Go.Proofs.PrintMore
attribute [local go_sem] max2_int min2_int max_two min_two max_three min_three max_four min_four
theorem leaf1 : leaf [1] = (of32 120, 0) := by kernel_rfl
theorem leaf0 : leaf [] = (of32 0, 0) := by kernel_rfl
theorem leaf12 : leaf [1, 2] = ([], 50) := by kernel_rfl
theorem two_of0 : catamaranlaw05_of.f 50 0 = some (of32 0) := by kernel_rfl
theorem two_read : hRead.f twoS two2 1 = some (of32 121, 0) := by kernel_rfl
theorem lit_C {w : World} {g : Nat} (xs : List Int) (hl : xs.length ≤ 9223372036854775807) (h : w.heap[g]? = some (.cells (xs.map (Value.int .u8)).toArray 5 (0, 0))) : Kd.C (Kd.int .u8) w (some ⟨g, 0, none⟩) xs.length xs := by
  refine ⟨rfl, hl, fun hn => ⟨_, rfl, fun j p hj => ⟨[.int .u8 p], rfl, rfl, fun i u hu => ?_⟩⟩⟩
  have hi : i = 0 := by
    have := (List.getElem?_eq_some_iff.1 hu).1
    simpa using this
  subst hi
  have hu : Value.int .u8 p = u := by simpa using hu
  subst hu
  rw [add_plain, blk_cell h]
  simp [Kd.int, Kd.scalar, hj]
theorem nil_C (w : World) : Kd.C (Kd.int .u8) w none ([] : List Int).length [] := ⟨rfl, by simp, fun h => absurd h (by simp)⟩
def hAlive.f : Option Bool := some true
def hAlive.T3 : Bool × List (List Nat × List Nat) := (true, [([], []), ([0], [0]), ([1], [1]), ([2, 1], [1, 2]), ([1, 3], [1, 3]), ([4, 1], [4]), ([5], [5]), ([6, 5], [5, 6]), ([5, 5], [5]), ([8, 5], [5, 8]), ([7, 9, 5], [5, 7, 9]), ([5, 10], [5, 10]), ([11, 8], [11]), ([12], [12]), ([12, 12], [12]), ([13, 14, 14, 12], [12, 13, 14]), ([12, 15], [12, 15]), ([16, 15], [16]), ([17, 17], [17]), ([18, 18, 17], [17, 18]), ([17, 19], [17, 19]), ([20, 19], [20]), ([21], [21]), ([22, 21, 21], [21, 22]), ([21, 23], [21, 23]), ([24, 23, 0, 1, 2, 3, 4, 5, 6, 7, 8, 9, 10, 11, 12, 13, 14, 15, 16, 17, 18, 19, 20, 21, 22, 23, 24], [24])])
def hAlive.B3 : List Nat := [0, 1, 3, 7, 15, 31, 63, 127, 63, 319, 1023, 2047, 4095, 8191, 8191, 32767, 65535, 131071, 262143, 524287, 1048575, 2097151, 4194303, 8388607, 16777215, 33554431]
theorem hAlive.tab3 : rtab .any (opsOf Try.f45 3) = hAlive.T3 := by kernel_rfl
theorem hAlive.bits3 : waitsOk hAlive.T3.2 hAlive.B3 = true := by kernel_rfl
set_option maxHeartbeats 8000000 in
set_option maxRecDepth 100000 in
theorem hAlive.calls (r : Bool) (w : World) (h : hAlive.f = some r) :
    Calls Try.prog 45 #[] w fun e w' => e = .returned (.bool r) ∧ Below w.heap.size w w' := by
  have hu25 := Try.underlying25
  obtain rfl : true = r := by unfold hAlive.f at h; injection h
  clear h
  go_enter Try.func45, Try.ntmps45
  go_wp2_with (first
    | (go_at_call 43; refine (hTwo.calls twoS two2 true _ rfl).mono ?_; rintro e w1 ⟨v1, v2, rfl, ho1, ho2, hb1⟩; obtain ⟨T1, t1, e1⟩ := Kd.S_slice ho1; subst e1; obtain ⟨T2, t2, e2⟩ := Kd.S_slice ho2; subst e2; have HB1 := Aside0.mk hb1; have HT1 := Aside0.mk ho1; have HT2 := Aside0.mk ho2; clear ho1 ho2 hb1)
    | (go_at_call 34; have HB2 := Aside0.mk (below_alloc HB1.out (.cells #[.slice T1 twoS.length t1, .slice T2 two2.length t2] 25)); have HU1 := Aside0.mk (Kd.S_reads' (Kd.S_alloc HT1.out (.cells #[.slice T1 twoS.length t1, .slice T2 two2.length t2] 25))).2; have HU2 := Aside0.mk (Kd.S_reads' (Kd.S_alloc HT2.out (.cells #[.slice T1 twoS.length t1, .slice T2 two2.length t2] 25))).2; refine (hRead.calls T1 t1 twoS T2 t2 two2 1 _ _ _ HU1.out.2 HU1.out.1 HU2.out.2 HU2.out.1 two_read).mono ?_; rintro e w3 ⟨v1, rfl, ho1, hb3⟩; obtain ⟨B, b, e1⟩ := Kd.R_slice ho1; subst e1; have HB := Aside0.mk (below_step HB2.out hb3); have HV := Aside0.mk ho1; clear ho1 hb3 HB1 HT1 HT2 HU1 HU2 HB2))
  have HSS := Aside0.mk (show ∀ W : World, Below w3.heap.size w3 W → (convert 26 9 (.slice B (of32 121).length b)).run Try.prog W = .ok (.string (strOfNums (of32 121))) W from fun W hb => Kd.C_string (P := Try.prog) (A := B) (c := b) Try.underlying26 Try.underlying5 Try.underlying9 (Kd.C_below (Kd.R_reads' HV.out).2.2 hb))
  clear HV
  refine start_ (n := 26) (S := fun w' => (convert 26 9 (.slice B (of32 121).length b)).run Try.prog w' = .ok (.string (strOfNums (of32 121))) w') (ds := []) #[false, false, false, false, false, false, false, false, false, false, false, false, false, false, false, false, false, false, false, false, false, false, false, false, false, false] (by kernel_rfl) rfl rfl (by exact HSS.out _ (below_drew1 (Below.refl _ _))) (fun hHeld => ?_); refine with_tabW hAlive.tab3 hAlive.bits3 (fun HT_ HW_ => ?_)
  have HD := Aside0.mk (below_drew1 (Below.refl w3.heap.size w3))
  replace HB := Aside0.mk (below_step HB.out (below_drew1 (Below.refl w3.heap.size w3)))
  generalize w3.drew = Wd at HD HB hHeld ⊢
  refine pure_ (i := 0) (N := some 14) (v := ?_) (a' := ?_) #[true, false, false, false, false, false, false, false, false, false, false, false, false, false, false, false, false, false, false, false, false, false, false, false, false, false] rfl rfl (any_of HT_.out (by kernel_rfl)) (fun _ _ _ h => h) (Or.inl ⟨by rfl, ?_⟩) ?_ ?_
  rotate_left
  · intro w'
    go_simp
    with_reducible rfl
  rotate_left
  · simp only [Act.put, List.setIfInBounds_toArray, List.set_cons_zero, List.set_cons_succ, i64_w, i32_w]
    rfl
  refine pure_ (i := 1) (N := some 15) (v := ?_) (a' := ?_) #[true, true, false, false, false, false, false, false, false, false, false, false, false, false, false, false, false, false, false, false, false, false, false, false, false, false] rfl rfl (any_of HT_.out (by kernel_rfl)) (fun _ _ _ h => h) (Or.inl ⟨by rfl, ?_⟩) ?_ ?_
  rotate_left
  · intro w'
    go_simp
    with_reducible rfl
  rotate_left
  · simp only [Act.put, List.setIfInBounds_toArray, List.set_cons_zero, List.set_cons_succ, i64_w, i32_w]
    rfl
  refine pure_ (i := 2) (N := some 16) (v := ?_) (a' := ?_) #[true, true, true, false, false, false, false, false, false, false, false, false, false, false, false, false, false, false, false, false, false, false, false, false, false, false] rfl rfl (any_of HT_.out (by kernel_rfl)) (fun _ _ _ h => h) (Or.inl ⟨by rfl, ?_⟩) ?_ ?_
  rotate_left
  · intro w'
    go_simp
    with_reducible rfl
  rotate_left
  · simp only [Act.put, List.setIfInBounds_toArray, List.set_cons_zero, List.set_cons_succ, i64_w, i32_w]
    rfl
  refine pure_ (i := 3) (N := some 17) (v := ?_) (a' := ?_) #[true, true, true, true, false, false, false, false, false, false, false, false, false, false, false, false, false, false, false, false, false, false, false, false, false, false] rfl rfl (any_of HT_.out (by kernel_rfl)) (fun _ _ _ h => h) (Or.inl ⟨by rfl, ?_⟩) ?_ ?_
  rotate_left
  · intro w'
    go_simp
    with_reducible rfl
  rotate_left
  · simp only [Act.put, List.setIfInBounds_toArray, List.set_cons_zero, List.set_cons_succ, i64_w, i32_w]
    rfl
  refine pure_ (i := 4) (N := some 18) (v := ?_) (a' := ?_) #[true, true, true, true, true, false, false, false, false, false, false, false, false, false, false, false, false, false, false, false, false, false, false, false, false, false] rfl rfl (any_of HT_.out (by kernel_rfl)) (fun _ _ _ h => h) (Or.inl ⟨by rfl, ?_⟩) ?_ ?_
  rotate_left
  · intro w'
    go_simp
    with_reducible rfl
  rotate_left
  · simp only [Act.put, List.setIfInBounds_toArray, List.set_cons_zero, List.set_cons_succ, i64_w, i32_w]
    rfl
  refine pure_ (i := 5) (N := some 19) (v := ?_) (a' := ?_) #[true, true, true, true, true, true, false, false, false, false, false, false, false, false, false, false, false, false, false, false, false, false, false, false, false, false] rfl rfl (any_of HT_.out (by kernel_rfl)) (fun _ _ _ h => h) (Or.inl ⟨by rfl, ?_⟩) ?_ ?_
  rotate_left
  · intro w'
    go_simp
    with_reducible rfl
  rotate_left
  · simp only [Act.put, List.setIfInBounds_toArray, List.set_cons_zero, List.set_cons_succ, i64_w, i32_w]
    rfl
  refine pure_ (i := 6) (N := some 20) (v := ?_) (a' := ?_) #[true, true, true, true, true, true, true, false, false, false, false, false, false, false, false, false, false, false, false, false, false, false, false, false, false, false] rfl rfl (any_of HT_.out (by kernel_rfl)) (fun _ _ _ h => h) (Or.inl ⟨by rfl, ?_⟩) ?_ ?_
  rotate_left
  · intro w'
    go_simp
    with_reducible rfl
  rotate_left
  · simp only [Act.put, List.setIfInBounds_toArray, List.set_cons_zero, List.set_cons_succ, i64_w, i32_w]
    rfl
  refine take_ (i := 7) (N := some 21) (v := ?_) (a' := ?_) #[true, true, true, true, true, true, true, true, false, false, false, false, false, false, false, false, false, false, false, false, false, false, false, false, false, false] rfl rfl (take_ofW HT_.out HW_.out (by kernel_rfl)) (fun _ _ _ h => h) (Or.inl ⟨by rfl, ?_⟩) hHeld ?_ ?_
  rotate_left
  · rintro w' s0
    go_simp
    with_reducible rfl
  rotate_left
  · simp only [Act.put, List.setIfInBounds_toArray, List.set_cons_zero, List.set_cons_succ, i64_w, i32_w]
    rfl
  refine one_ (i := 8) (N := some 22) #[true, true, true, true, true, true, true, true, true, false, false, false, false, false, false, false, false, false, false, false, false, false, false, false, false, false] rfl rfl (one_of HT_.out (by kernel_rfl)) (by decide) (fun K hK => ?_)
  refine goes_ Try.func44 (by kernel_rfl) rfl #[.int .u8 121] (by rfl) rfl rfl (by (try simp only [List.map_toArray, List.map_cons, List.map_nil]); first | done | rfl | (simp only [List.length_drop, List.length_take]; rfl)) ?_
  refine (catamaranlaw05_of.calls 50 121 (of32 121) Wd two_of121).mono ?_
  rintro e Wc1 ⟨v1, rfl, ho, hA⟩
  obtain ⟨Y, y, e1⟩ := Kd.R_slice ho
  subst e1
  have HY := Aside0.mk ho
  clear ho
  refine ⟨_, rfl, ?_⟩
  replace HB := Aside0.mk (below_step HB.out hA)
  replace HD := Aside0.mk (below_step HD.out hA)
  clear hA hHeld
  refine hK.out _ _ (by exact HSS.out _ HD.out) (fun hHeld => ?_)
  clear hK K
  refine norm_ (a' := ?_) ?_ ?_
  rotate_left
  · show Act.put _ (some 22) _ = _
    simp only [Act.put, List.setIfInBounds_toArray, List.set_cons_zero, List.set_cons_succ, i64_w, i32_w]
    rfl
  refine one_ (i := 9) (N := some 23) #[true, true, true, true, true, true, true, true, true, true, false, false, false, false, false, false, false, false, false, false, false, false, false, false, false, false] rfl rfl (one_of HT_.out (by kernel_rfl)) (by decide) (fun K hK => ?_)
  have hcv := Kd.C_string (P := Try.prog) (A := Y) (c := y) Try.underlying26 Try.underlying5 Try.underlying9 (Kd.R_reads' HY.out).2.2
  refine value_ (w1 := ?_) (v := ?_) (by rfl) rfl ?_ ?_
  rotate_left 2
  · go_simp
    constructor
    · rfl
    · rfl
  clear hcv hHeld
  clear HY
  refine hK.out _ _ (by exact HSS.out _ HD.out) (fun hHeld => ?_)
  clear hK K
  refine norm_ (a' := ?_) ?_ ?_
  rotate_left
  · show Act.put _ (some 23) _ = _
    simp only [Act.put, List.setIfInBounds_toArray, List.set_cons_zero, List.set_cons_succ, i64_w, i32_w]
    rfl
  refine pure_ (i := 10) (N := some 24) (v := ?_) (a' := ?_) #[true, true, true, true, true, true, true, true, true, true, true, false, false, false, false, false, false, false, false, false, false, false, false, false, false, false] rfl rfl (any_of HT_.out (by kernel_rfl)) (fun _ _ _ h => h) (Or.inl ⟨by rfl, ?_⟩) ?_ ?_
  rotate_left
  · intro w'
    go_simp
    with_reducible rfl
  rotate_left
  · simp only [Act.put, List.setIfInBounds_toArray, List.set_cons_zero, List.set_cons_succ, i64_w, i32_w]
    rfl
  refine pure_ (i := 11) (N := some 25) (v := ?_) (a' := ?_) #[true, true, true, true, true, true, true, true, true, true, true, true, false, false, false, false, false, false, false, false, false, false, false, false, false, false] rfl rfl (any_of HT_.out (by kernel_rfl)) (fun _ _ _ h => h) (Or.inl ⟨by rfl, ?_⟩) ?_ ?_
  rotate_left
  · intro w'
    go_simp
    with_reducible rfl
  rotate_left
  · simp only [Act.put, List.setIfInBounds_toArray, List.set_cons_zero, List.set_cons_succ, i64_w, i32_w]
    rfl
  refine pure_ (i := 12) (N := some 26) (v := ?_) (a' := ?_) #[true, true, true, true, true, true, true, true, true, true, true, true, true, false, false, false, false, false, false, false, false, false, false, false, false, false] rfl rfl (any_of HT_.out (by kernel_rfl)) (fun _ _ _ h => h) (Or.inl ⟨by rfl, ?_⟩) ?_ ?_
  rotate_left
  · intro w'
    go_simp
    with_reducible rfl
  rotate_left
  · simp only [Act.put, List.setIfInBounds_toArray, List.set_cons_zero, List.set_cons_succ, i64_w, i32_w]
    rfl
  refine two_ (i := 13) (j := 14) (Ni := some 27) (Nj := some 28) #[true, true, true, true, true, true, true, true, true, true, true, true, true, true, false, false, false, false, false, false, false, false, false, false, false, false] #[true, true, true, true, true, true, true, true, true, true, true, true, true, false, true, false, false, false, false, false, false, false, false, false, false, false] rfl rfl rfl rfl (two_of HT_.out (by kernel_rfl)) (by decide) (by decide) (fun K hK => ?_) (fun K hK => ?_)
  · skip
    refine value_ (w1 := ?_) (v := ?_) (by rfl) rfl ?_ ?_
    rotate_left 2
    · go_simp
      constructor
      · rfl
      · rfl
    have hA := below_alloc (Below.refl Wc1.heap.size Wc1) (.cells #[.int .u8 1] 5)
    have HLg1 := Aside0.mk (heap_alloc_new Wc1 (.cells #[.int .u8 1] 5))
    replace HB := Aside0.mk (below_step HB.out hA)
    replace HD := Aside0.mk (below_step HD.out hA)
    clear hA hHeld
    generalize Wc1.alloc (.cells #[.int .u8 1] 5) = Wa3 at HD HB HLg1 ⊢
    generalize Wc1.heap.size = g1 at HLg1 ⊢
    refine hK.out _ _ (by exact HSS.out _ HD.out) (fun hHeld => ?_)
    clear hK K
    refine norm_ (a' := ?_) ?_ ?_
    rotate_left
    · show Act.put _ (some 27) _ = _
      simp only [Act.put, List.setIfInBounds_toArray, List.set_cons_zero, List.set_cons_succ, i64_w, i32_w]
      rfl
    refine one_ (i := 14) (N := some 28) #[true, true, true, true, true, true, true, true, true, true, true, true, true, true, true, false, false, false, false, false, false, false, false, false, false, false] rfl rfl (one_of HT_.out (by kernel_rfl)) (by decide) (fun K hK => ?_)
    refine goes_ Try.func44 (by kernel_rfl) rfl #[.int .u8 120] (by rfl) rfl rfl (by (try simp only [List.map_toArray, List.map_cons, List.map_nil]); first | done | rfl | (simp only [List.length_drop, List.length_take]; rfl)) ?_
    refine (catamaranlaw05_of.calls 50 120 (of32 120) Wa3 two_of120).mono ?_
    rintro e Wc4 ⟨v1, rfl, ho, hA⟩
    obtain ⟨X, x, e1⟩ := Kd.R_slice ho
    subst e1
    have HX := Aside0.mk ho
    clear ho
    refine ⟨_, rfl, ?_⟩
    replace HB := Aside0.mk (below_step HB.out hA)
    replace HLg1 := Aside0.mk (blk_below HLg1.out hA)
    replace HD := Aside0.mk (below_step HD.out hA)
    clear hA hHeld
    refine hK.out _ _ (by exact HSS.out _ HD.out) (fun hHeld => ?_)
    clear hK K
    refine norm_ (a' := ?_) ?_ ?_
    rotate_left
    · show Act.put _ (some 28) _ = _
      simp only [Act.put, List.setIfInBounds_toArray, List.set_cons_zero, List.set_cons_succ, i64_w, i32_w]
      rfl
    refine one_ (i := 15) (N := some 29) #[true, true, true, true, true, true, true, true, true, true, true, true, true, true, true, true, false, false, false, false, false, false, false, false, false, false] rfl rfl (one_of HT_.out (by kernel_rfl)) (by decide) (fun K hK => ?_)
    refine goes_ Try.func46 (by kernel_rfl) rfl #[.slice (some ⟨g1, 0, none⟩) 1 1, .slice X (of32 120).length x] (by rfl) rfl rfl (by (try simp only [List.map_toArray, List.map_cons, List.map_nil]); first | done | rfl | (simp only [List.length_drop, List.length_take]; rfl)) ?_
    refine (hLeaves.calls (some ⟨g1, 0, none⟩) 1 [1] X x (of32 120) Wc4 (lit_C [1] (by simp) HLg1.out) (Nat.le_refl _) (Kd.R_reads' HX.out).2.2 (Kd.R_reads' HX.out).2.1 (.inl leaf1)).mono ?_
    rintro e Wc5 ⟨rfl, hA⟩
    refine ⟨_, rfl, ?_⟩
    replace HB := Aside0.mk (below_step HB.out hA)
    replace HLg1 := Aside0.mk (blk_below HLg1.out hA)
    replace HX := Aside0.mk (Kd.R_below HX.out hA)
    replace HD := Aside0.mk (below_step HD.out hA)
    clear hA hHeld
    clear HX
    clear HLg1
    refine hK.out _ _ (by exact HSS.out _ HD.out) (fun hHeld => ?_)
    clear hK K
    refine norm_ (a' := ?_) ?_ ?_
    rotate_left
    · show Act.put _ (some 29) _ = _
      simp only [Act.put, List.setIfInBounds_toArray, List.set_cons_zero, List.set_cons_succ, i64_w, i32_w]
      rfl
    refine pure_ (i := 16) (N := some 30) (v := ?_) (a' := ?_) #[true, true, true, true, true, true, true, true, true, true, true, true, true, true, true, true, true, false, false, false, false, false, false, false, false, false] rfl rfl (any_of HT_.out (by kernel_rfl)) (fun _ _ _ h => h) (Or.inl ⟨by rfl, ?_⟩) ?_ ?_
    rotate_left
    · intro w'
      go_simp
      with_reducible rfl
    rotate_left
    · simp only [Act.put, List.setIfInBounds_toArray, List.set_cons_zero, List.set_cons_succ, i64_w, i32_w]
      rfl
    refine pure_ (i := 17) (N := some 31) (v := ?_) (a' := ?_) #[true, true, true, true, true, true, true, true, true, true, true, true, true, true, true, true, true, true, false, false, false, false, false, false, false, false] rfl rfl (any_of HT_.out (by kernel_rfl)) (fun _ _ _ h => h) (Or.inl ⟨by rfl, ?_⟩) ?_ ?_
    rotate_left
    · intro w'
      go_simp
      with_reducible rfl
    rotate_left
    · simp only [Act.put, List.setIfInBounds_toArray, List.set_cons_zero, List.set_cons_succ, i64_w, i32_w]
      rfl
    refine one_ (i := 18) (N := some 32) #[true, true, true, true, true, true, true, true, true, true, true, true, true, true, true, true, true, true, true, false, false, false, false, false, false, false] rfl rfl (one_of HT_.out (by kernel_rfl)) (by decide) (fun K hK => ?_)
    refine goes_ Try.func44 (by kernel_rfl) rfl #[.int .u8 0] (by rfl) rfl rfl (by (try simp only [List.map_toArray, List.map_cons, List.map_nil]); first | done | rfl | (simp only [List.length_drop, List.length_take]; rfl)) ?_
    refine (catamaranlaw05_of.calls 50 0 (of32 0) Wc5 two_of0).mono ?_
    rintro e Wc6 ⟨v1, rfl, ho, hA⟩
    obtain ⟨Z, z, e1⟩ := Kd.R_slice ho
    subst e1
    have HZ := Aside0.mk ho
    clear ho
    refine ⟨_, rfl, ?_⟩
    replace HB := Aside0.mk (below_step HB.out hA)
    replace HD := Aside0.mk (below_step HD.out hA)
    clear hA hHeld
    refine hK.out _ _ (by exact HSS.out _ HD.out) (fun hHeld => ?_)
    clear hK K
    refine norm_ (a' := ?_) ?_ ?_
    rotate_left
    · show Act.put _ (some 32) _ = _
      simp only [Act.put, List.setIfInBounds_toArray, List.set_cons_zero, List.set_cons_succ, i64_w, i32_w]
      rfl
    refine one_ (i := 19) (N := some 33) #[true, true, true, true, true, true, true, true, true, true, true, true, true, true, true, true, true, true, true, true, false, false, false, false, false, false] rfl rfl (one_of HT_.out (by kernel_rfl)) (by decide) (fun K hK => ?_)
    refine goes_ Try.func46 (by kernel_rfl) rfl #[.slice none 0 0, .slice Z (of32 0).length z] (by rfl) rfl rfl (by (try simp only [List.map_toArray, List.map_cons, List.map_nil]); first | done | rfl | (simp only [List.length_drop, List.length_take]; rfl)) ?_
    refine (hLeaves.calls none 0 [] Z z (of32 0) Wc6 (nil_C _) (Nat.le_refl _) (Kd.R_reads' HZ.out).2.2 (Kd.R_reads' HZ.out).2.1 (.inl leaf0)).mono ?_
    rintro e Wc7 ⟨rfl, hA⟩
    refine ⟨_, rfl, ?_⟩
    replace HB := Aside0.mk (below_step HB.out hA)
    replace HZ := Aside0.mk (Kd.R_below HZ.out hA)
    replace HD := Aside0.mk (below_step HD.out hA)
    clear hA hHeld
    clear HZ
    refine hK.out _ _ (by exact HSS.out _ HD.out) (fun hHeld => ?_)
    clear hK K
    refine norm_ (a' := ?_) ?_ ?_
    rotate_left
    · show Act.put _ (some 33) _ = _
      simp only [Act.put, List.setIfInBounds_toArray, List.set_cons_zero, List.set_cons_succ, i64_w, i32_w]
      rfl
    refine pure_ (i := 20) (N := some 34) (v := ?_) (a' := ?_) #[true, true, true, true, true, true, true, true, true, true, true, true, true, true, true, true, true, true, true, true, true, false, false, false, false, false] rfl rfl (any_of HT_.out (by kernel_rfl)) (fun _ _ _ h => h) (Or.inl ⟨by rfl, ?_⟩) ?_ ?_
    rotate_left
    · intro w'
      go_simp
      with_reducible rfl
    rotate_left
    · simp only [Act.put, List.setIfInBounds_toArray, List.set_cons_zero, List.set_cons_succ, i64_w, i32_w]
      rfl
    refine pure_ (i := 21) (N := some 35) (v := ?_) (a' := ?_) #[true, true, true, true, true, true, true, true, true, true, true, true, true, true, true, true, true, true, true, true, true, true, false, false, false, false] rfl rfl (any_of HT_.out (by kernel_rfl)) (fun _ _ _ h => h) (Or.inl ⟨by rfl, ?_⟩) ?_ ?_
    rotate_left
    · intro w'
      go_simp
      with_reducible rfl
    rotate_left
    · simp only [Act.put, List.setIfInBounds_toArray, List.set_cons_zero, List.set_cons_succ, i64_w, i32_w]
      rfl
    refine one_ (i := 22) (N := some 36) #[true, true, true, true, true, true, true, true, true, true, true, true, true, true, true, true, true, true, true, true, true, true, true, false, false, false] rfl rfl (one_of HT_.out (by kernel_rfl)) (by decide) (fun K hK => ?_)
    refine value_ (w1 := ?_) (v := ?_) (by rfl) rfl ?_ ?_
    rotate_left 2
    · go_simp
      constructor
      · rfl
      · rfl
    have hA := below_alloc (Below.refl Wc7.heap.size Wc7) (.cells #[.int .u8 1, .int .u8 2] 5)
    have HLg2 := Aside0.mk (heap_alloc_new Wc7 (.cells #[.int .u8 1, .int .u8 2] 5))
    replace HB := Aside0.mk (below_step HB.out hA)
    replace HD := Aside0.mk (below_step HD.out hA)
    clear hA hHeld
    generalize Wc7.alloc (.cells #[.int .u8 1, .int .u8 2] 5) = Wa8 at HD HB HLg2 ⊢
    generalize Wc7.heap.size = g2 at HLg2 ⊢
    refine hK.out _ _ (by exact HSS.out _ HD.out) (fun hHeld => ?_)
    clear hK K
    refine norm_ (a' := ?_) ?_ ?_
    rotate_left
    · show Act.put _ (some 36) _ = _
      simp only [Act.put, List.setIfInBounds_toArray, List.set_cons_zero, List.set_cons_succ, i64_w, i32_w]
      rfl
    refine one_ (i := 23) (N := some 37) #[true, true, true, true, true, true, true, true, true, true, true, true, true, true, true, true, true, true, true, true, true, true, true, true, false, false] rfl rfl (one_of HT_.out (by kernel_rfl)) (by decide) (fun K hK => ?_)
    refine goes_ Try.func46 (by kernel_rfl) rfl #[.slice (some ⟨g2, 0, none⟩) 2 2, .slice none 0 0] (by rfl) rfl rfl (by (try simp only [List.map_toArray, List.map_cons, List.map_nil]); first | done | rfl | (simp only [List.length_drop, List.length_take]; rfl)) ?_
    refine (hLeaves.calls (some ⟨g2, 0, none⟩) 2 [1, 2] none 0 [] Wa8 (lit_C [1, 2] (by simp) HLg2.out) (Nat.le_refl _) (nil_C _) (Nat.le_refl _) (.inr ⟨leaf12, rfl⟩)).mono ?_
    rintro e Wc9 ⟨rfl, hA⟩
    refine ⟨_, rfl, ?_⟩
    replace HB := Aside0.mk (below_step HB.out hA)
    replace HLg2 := Aside0.mk (blk_below HLg2.out hA)
    replace HD := Aside0.mk (below_step HD.out hA)
    clear hA hHeld
    clear HLg2
    refine hK.out _ _ (by exact HSS.out _ HD.out) (fun hHeld => ?_)
    clear hK K
    refine norm_ (a' := ?_) ?_ ?_
    rotate_left
    · show Act.put _ (some 37) _ = _
      simp only [Act.put, List.setIfInBounds_toArray, List.set_cons_zero, List.set_cons_succ, i64_w, i32_w]
      rfl
    refine pure_ (i := 24) (N := some 38) (v := ?_) (a' := ?_) #[true, true, true, true, true, true, true, true, true, true, true, true, true, true, true, true, true, true, true, true, true, true, true, true, true, false] rfl rfl (any_of HT_.out (by kernel_rfl)) (fun _ _ _ h => h) (Or.inl ⟨by rfl, ?_⟩) ?_ ?_
    rotate_left
    · intro w'
      go_simp
      with_reducible rfl
    rotate_left
    · simp only [Act.put, List.setIfInBounds_toArray, List.set_cons_zero, List.set_cons_succ, i64_w, i32_w]
      rfl
    refine pure_ (i := 25) (N := some 0) (v := ?_) (a' := ?_) #[true, true, true, true, true, true, true, true, true, true, true, true, true, true, true, true, true, true, true, true, true, true, true, true, true, true] rfl rfl (any_of HT_.out (by kernel_rfl)) (fun _ _ _ h => h) (Or.inl ⟨by rfl, ?_⟩) ?_ ?_
    rotate_left
    · intro w'
      go_simp
      with_reducible rfl
    rotate_left
    · simp only [Act.put, List.setIfInBounds_toArray, List.set_cons_zero, List.set_cons_succ, i64_w, i32_w]
      rfl
    refine done_ (done_of HT_.out (by kernel_rfl)) ?_
    try go_wp2
    go_ret
    exact ⟨rfl, HB.out⟩
  · skip
    refine goes_ Try.func44 (by kernel_rfl) rfl #[.int .u8 120] (by rfl) rfl rfl (by (try simp only [List.map_toArray, List.map_cons, List.map_nil]); first | done | rfl | (simp only [List.length_drop, List.length_take]; rfl)) ?_
    refine (catamaranlaw05_of.calls 50 120 (of32 120) Wc1 two_of120).mono ?_
    rintro e Wc10 ⟨v1, rfl, ho, hA⟩
    obtain ⟨X, x, e1⟩ := Kd.R_slice ho
    subst e1
    have HX := Aside0.mk ho
    clear ho
    refine ⟨_, rfl, ?_⟩
    replace HB := Aside0.mk (below_step HB.out hA)
    replace HD := Aside0.mk (below_step HD.out hA)
    clear hA hHeld
    refine hK.out _ _ (by exact HSS.out _ HD.out) (fun hHeld => ?_)
    clear hK K
    refine norm_ (a' := ?_) ?_ ?_
    rotate_left
    · show Act.put _ (some 28) _ = _
      simp only [Act.put, List.setIfInBounds_toArray, List.set_cons_zero, List.set_cons_succ, i64_w, i32_w]
      rfl
    refine one_ (i := 13) (N := some 27) #[true, true, true, true, true, true, true, true, true, true, true, true, true, true, true, false, false, false, false, false, false, false, false, false, false, false] rfl rfl (one_of HT_.out (by kernel_rfl)) (by decide) (fun K hK => ?_)
    refine value_ (w1 := ?_) (v := ?_) (by rfl) rfl ?_ ?_
    rotate_left 2
    · go_simp
      constructor
      · rfl
      · rfl
    have hA := below_alloc (Below.refl Wc10.heap.size Wc10) (.cells #[.int .u8 1] 5)
    have HLg1 := Aside0.mk (heap_alloc_new Wc10 (.cells #[.int .u8 1] 5))
    replace HB := Aside0.mk (below_step HB.out hA)
    replace HX := Aside0.mk (Kd.R_below HX.out hA)
    replace HD := Aside0.mk (below_step HD.out hA)
    clear hA hHeld
    generalize Wc10.alloc (.cells #[.int .u8 1] 5) = Wa11 at HD HB HX HLg1 ⊢
    generalize Wc10.heap.size = g1 at HLg1 ⊢
    refine hK.out _ _ (by exact HSS.out _ HD.out) (fun hHeld => ?_)
    clear hK K
    refine norm_ (a' := ?_) ?_ ?_
    rotate_left
    · show Act.put _ (some 27) _ = _
      simp only [Act.put, List.setIfInBounds_toArray, List.set_cons_zero, List.set_cons_succ, i64_w, i32_w]
      rfl
    refine one_ (i := 15) (N := some 29) #[true, true, true, true, true, true, true, true, true, true, true, true, true, true, true, true, false, false, false, false, false, false, false, false, false, false] rfl rfl (one_of HT_.out (by kernel_rfl)) (by decide) (fun K hK => ?_)
    refine goes_ Try.func46 (by kernel_rfl) rfl #[.slice (some ⟨g1, 0, none⟩) 1 1, .slice X (of32 120).length x] (by rfl) rfl rfl (by (try simp only [List.map_toArray, List.map_cons, List.map_nil]); first | done | rfl | (simp only [List.length_drop, List.length_take]; rfl)) ?_
    refine (hLeaves.calls (some ⟨g1, 0, none⟩) 1 [1] X x (of32 120) Wa11 (lit_C [1] (by simp) HLg1.out) (Nat.le_refl _) (Kd.R_reads' HX.out).2.2 (Kd.R_reads' HX.out).2.1 (.inl leaf1)).mono ?_
    rintro e Wc12 ⟨rfl, hA⟩
    refine ⟨_, rfl, ?_⟩
    replace HB := Aside0.mk (below_step HB.out hA)
    replace HX := Aside0.mk (Kd.R_below HX.out hA)
    replace HLg1 := Aside0.mk (blk_below HLg1.out hA)
    replace HD := Aside0.mk (below_step HD.out hA)
    clear hA hHeld
    clear HX
    clear HLg1
    refine hK.out _ _ (by exact HSS.out _ HD.out) (fun hHeld => ?_)
    clear hK K
    refine norm_ (a' := ?_) ?_ ?_
    rotate_left
    · show Act.put _ (some 29) _ = _
      simp only [Act.put, List.setIfInBounds_toArray, List.set_cons_zero, List.set_cons_succ, i64_w, i32_w]
      rfl
    refine pure_ (i := 16) (N := some 30) (v := ?_) (a' := ?_) #[true, true, true, true, true, true, true, true, true, true, true, true, true, true, true, true, true, false, false, false, false, false, false, false, false, false] rfl rfl (any_of HT_.out (by kernel_rfl)) (fun _ _ _ h => h) (Or.inl ⟨by rfl, ?_⟩) ?_ ?_
    rotate_left
    · intro w'
      go_simp
      with_reducible rfl
    rotate_left
    · simp only [Act.put, List.setIfInBounds_toArray, List.set_cons_zero, List.set_cons_succ, i64_w, i32_w]
      rfl
    refine pure_ (i := 17) (N := some 31) (v := ?_) (a' := ?_) #[true, true, true, true, true, true, true, true, true, true, true, true, true, true, true, true, true, true, false, false, false, false, false, false, false, false] rfl rfl (any_of HT_.out (by kernel_rfl)) (fun _ _ _ h => h) (Or.inl ⟨by rfl, ?_⟩) ?_ ?_
    rotate_left
    · intro w'
      go_simp
      with_reducible rfl
    rotate_left
    · simp only [Act.put, List.setIfInBounds_toArray, List.set_cons_zero, List.set_cons_succ, i64_w, i32_w]
      rfl
    refine one_ (i := 18) (N := some 32) #[true, true, true, true, true, true, true, true, true, true, true, true, true, true, true, true, true, true, true, false, false, false, false, false, false, false] rfl rfl (one_of HT_.out (by kernel_rfl)) (by decide) (fun K hK => ?_)
    refine goes_ Try.func44 (by kernel_rfl) rfl #[.int .u8 0] (by rfl) rfl rfl (by (try simp only [List.map_toArray, List.map_cons, List.map_nil]); first | done | rfl | (simp only [List.length_drop, List.length_take]; rfl)) ?_
    refine (catamaranlaw05_of.calls 50 0 (of32 0) Wc12 two_of0).mono ?_
    rintro e Wc13 ⟨v1, rfl, ho, hA⟩
    obtain ⟨Z, z, e1⟩ := Kd.R_slice ho
    subst e1
    have HZ := Aside0.mk ho
    clear ho
    refine ⟨_, rfl, ?_⟩
    replace HB := Aside0.mk (below_step HB.out hA)
    replace HD := Aside0.mk (below_step HD.out hA)
    clear hA hHeld
    refine hK.out _ _ (by exact HSS.out _ HD.out) (fun hHeld => ?_)
    clear hK K
    refine norm_ (a' := ?_) ?_ ?_
    rotate_left
    · show Act.put _ (some 32) _ = _
      simp only [Act.put, List.setIfInBounds_toArray, List.set_cons_zero, List.set_cons_succ, i64_w, i32_w]
      rfl
    refine one_ (i := 19) (N := some 33) #[true, true, true, true, true, true, true, true, true, true, true, true, true, true, true, true, true, true, true, true, false, false, false, false, false, false] rfl rfl (one_of HT_.out (by kernel_rfl)) (by decide) (fun K hK => ?_)
    refine goes_ Try.func46 (by kernel_rfl) rfl #[.slice none 0 0, .slice Z (of32 0).length z] (by rfl) rfl rfl (by (try simp only [List.map_toArray, List.map_cons, List.map_nil]); first | done | rfl | (simp only [List.length_drop, List.length_take]; rfl)) ?_
    refine (hLeaves.calls none 0 [] Z z (of32 0) Wc13 (nil_C _) (Nat.le_refl _) (Kd.R_reads' HZ.out).2.2 (Kd.R_reads' HZ.out).2.1 (.inl leaf0)).mono ?_
    rintro e Wc14 ⟨rfl, hA⟩
    refine ⟨_, rfl, ?_⟩
    replace HB := Aside0.mk (below_step HB.out hA)
    replace HZ := Aside0.mk (Kd.R_below HZ.out hA)
    replace HD := Aside0.mk (below_step HD.out hA)
    clear hA hHeld
    clear HZ
    refine hK.out _ _ (by exact HSS.out _ HD.out) (fun hHeld => ?_)
    clear hK K
    refine norm_ (a' := ?_) ?_ ?_
    rotate_left
    · show Act.put _ (some 33) _ = _
      simp only [Act.put, List.setIfInBounds_toArray, List.set_cons_zero, List.set_cons_succ, i64_w, i32_w]
      rfl
    refine pure_ (i := 20) (N := some 34) (v := ?_) (a' := ?_) #[true, true, true, true, true, true, true, true, true, true, true, true, true, true, true, true, true, true, true, true, true, false, false, false, false, false] rfl rfl (any_of HT_.out (by kernel_rfl)) (fun _ _ _ h => h) (Or.inl ⟨by rfl, ?_⟩) ?_ ?_
    rotate_left
    · intro w'
      go_simp
      with_reducible rfl
    rotate_left
    · simp only [Act.put, List.setIfInBounds_toArray, List.set_cons_zero, List.set_cons_succ, i64_w, i32_w]
      rfl
    refine pure_ (i := 21) (N := some 35) (v := ?_) (a' := ?_) #[true, true, true, true, true, true, true, true, true, true, true, true, true, true, true, true, true, true, true, true, true, true, false, false, false, false] rfl rfl (any_of HT_.out (by kernel_rfl)) (fun _ _ _ h => h) (Or.inl ⟨by rfl, ?_⟩) ?_ ?_
    rotate_left
    · intro w'
      go_simp
      with_reducible rfl
    rotate_left
    · simp only [Act.put, List.setIfInBounds_toArray, List.set_cons_zero, List.set_cons_succ, i64_w, i32_w]
      rfl
    refine one_ (i := 22) (N := some 36) #[true, true, true, true, true, true, true, true, true, true, true, true, true, true, true, true, true, true, true, true, true, true, true, false, false, false] rfl rfl (one_of HT_.out (by kernel_rfl)) (by decide) (fun K hK => ?_)
    refine value_ (w1 := ?_) (v := ?_) (by rfl) rfl ?_ ?_
    rotate_left 2
    · go_simp
      constructor
      · rfl
      · rfl
    have hA := below_alloc (Below.refl Wc14.heap.size Wc14) (.cells #[.int .u8 1, .int .u8 2] 5)
    have HLg2 := Aside0.mk (heap_alloc_new Wc14 (.cells #[.int .u8 1, .int .u8 2] 5))
    replace HB := Aside0.mk (below_step HB.out hA)
    replace HD := Aside0.mk (below_step HD.out hA)
    clear hA hHeld
    generalize Wc14.alloc (.cells #[.int .u8 1, .int .u8 2] 5) = Wa15 at HD HB HLg2 ⊢
    generalize Wc14.heap.size = g2 at HLg2 ⊢
    refine hK.out _ _ (by exact HSS.out _ HD.out) (fun hHeld => ?_)
    clear hK K
    refine norm_ (a' := ?_) ?_ ?_
    rotate_left
    · show Act.put _ (some 36) _ = _
      simp only [Act.put, List.setIfInBounds_toArray, List.set_cons_zero, List.set_cons_succ, i64_w, i32_w]
      rfl
    refine one_ (i := 23) (N := some 37) #[true, true, true, true, true, true, true, true, true, true, true, true, true, true, true, true, true, true, true, true, true, true, true, true, false, false] rfl rfl (one_of HT_.out (by kernel_rfl)) (by decide) (fun K hK => ?_)
    refine goes_ Try.func46 (by kernel_rfl) rfl #[.slice (some ⟨g2, 0, none⟩) 2 2, .slice none 0 0] (by rfl) rfl rfl (by (try simp only [List.map_toArray, List.map_cons, List.map_nil]); first | done | rfl | (simp only [List.length_drop, List.length_take]; rfl)) ?_
    refine (hLeaves.calls (some ⟨g2, 0, none⟩) 2 [1, 2] none 0 [] Wa15 (lit_C [1, 2] (by simp) HLg2.out) (Nat.le_refl _) (nil_C _) (Nat.le_refl _) (.inr ⟨leaf12, rfl⟩)).mono ?_
    rintro e Wc16 ⟨rfl, hA⟩
    refine ⟨_, rfl, ?_⟩
    replace HB := Aside0.mk (below_step HB.out hA)
    replace HLg2 := Aside0.mk (blk_below HLg2.out hA)
    replace HD := Aside0.mk (below_step HD.out hA)
    clear hA hHeld
    clear HLg2
    refine hK.out _ _ (by exact HSS.out _ HD.out) (fun hHeld => ?_)
    clear hK K
    refine norm_ (a' := ?_) ?_ ?_
    rotate_left
    · show Act.put _ (some 37) _ = _
      simp only [Act.put, List.setIfInBounds_toArray, List.set_cons_zero, List.set_cons_succ, i64_w, i32_w]
      rfl
    refine pure_ (i := 24) (N := some 38) (v := ?_) (a' := ?_) #[true, true, true, true, true, true, true, true, true, true, true, true, true, true, true, true, true, true, true, true, true, true, true, true, true, false] rfl rfl (any_of HT_.out (by kernel_rfl)) (fun _ _ _ h => h) (Or.inl ⟨by rfl, ?_⟩) ?_ ?_
    rotate_left
    · intro w'
      go_simp
      with_reducible rfl
    rotate_left
    · simp only [Act.put, List.setIfInBounds_toArray, List.set_cons_zero, List.set_cons_succ, i64_w, i32_w]
      rfl
    refine pure_ (i := 25) (N := some 0) (v := ?_) (a' := ?_) #[true, true, true, true, true, true, true, true, true, true, true, true, true, true, true, true, true, true, true, true, true, true, true, true, true, true] rfl rfl (any_of HT_.out (by kernel_rfl)) (fun _ _ _ h => h) (Or.inl ⟨by rfl, ?_⟩) ?_ ?_
    rotate_left
    · intro w'
      go_simp
      with_reducible rfl
    rotate_left
    · simp only [Act.put, List.setIfInBounds_toArray, List.set_cons_zero, List.set_cons_succ, i64_w, i32_w]
      rfl
    refine done_ (done_of HT_.out (by kernel_rfl)) ?_
    try go_wp2
    go_ret
    exact ⟨rfl, HB.out⟩
end Go.Proofs.Ytjlohdbkjoofcaa.P
end
section
set_option linter.unusedVariables false
set_option linter.unusedSimpArgs false
namespace Go.Proofs.Ytjlohdbkjoofcaa.P
open Go.RowKit Go.Proofs.PrintWords Go.Proofs.PrintLast Go.Proofs.PrintMore
attribute [local go_sem] max2_int min2_int max_two min_two max_three min_three max_four min_four
def bits_Mul64.f (a0 : Int) (a1 : Int) : Option (Int × Int) := some (IntKind.u64.wrap ((IntKind.u64.wrap ((IntKind.u64.wrap ((a0 / 4294967296) * (a1 / 4294967296))) + ((IntKind.u64.wrap ((IntKind.u64.wrap ((a0 / 4294967296) * (Go.bits .and .u64 a1 4294967295))) + ((IntKind.u64.wrap ((Go.bits .and .u64 a0 4294967295) * (Go.bits .and .u64 a1 4294967295))) / 4294967296))) / 4294967296))) + ((IntKind.u64.wrap ((Go.bits .and .u64 (IntKind.u64.wrap ((IntKind.u64.wrap ((a0 / 4294967296) * (Go.bits .and .u64 a1 4294967295))) + ((IntKind.u64.wrap ((Go.bits .and .u64 a0 4294967295) * (Go.bits .and .u64 a1 4294967295))) / 4294967296))) 4294967295) + (IntKind.u64.wrap ((Go.bits .and .u64 a0 4294967295) * (a1 / 4294967296))))) / 4294967296)), IntKind.u64.wrap (a0 * a1))
set_option maxHeartbeats 8000000 in
set_option maxRecDepth 100000 in
theorem bits_Mul64.calls (a0 : Int) (a1 : Int) (r1 : Int) (r2 : Int) (w : World) (h : bits_Mul64.f a0 a1 = some (r1, r2)) :
    Calls Try.prog 222 #[.int .u64 a0, .int .u64 a1] w fun e w' => e = .returned (.tuple #[.int .u64 r1, .int .u64 r2]) ∧ Drawn0 w w' := by
  have H : (some (IntKind.u64.wrap ((IntKind.u64.wrap ((IntKind.u64.wrap ((a0 / 4294967296) * (a1 / 4294967296))) + ((IntKind.u64.wrap ((IntKind.u64.wrap ((a0 / 4294967296) * (Go.bits .and .u64 a1 4294967295))) + ((IntKind.u64.wrap ((Go.bits .and .u64 a0 4294967295) * (Go.bits .and .u64 a1 4294967295))) / 4294967296))) / 4294967296))) + ((IntKind.u64.wrap ((Go.bits .and .u64 (IntKind.u64.wrap ((IntKind.u64.wrap ((a0 / 4294967296) * (Go.bits .and .u64 a1 4294967295))) + ((IntKind.u64.wrap ((Go.bits .and .u64 a0 4294967295) * (Go.bits .and .u64 a1 4294967295))) / 4294967296))) 4294967295) + (IntKind.u64.wrap ((Go.bits .and .u64 a0 4294967295) * (a1 / 4294967296))))) / 4294967296)), IntKind.u64.wrap (a0 * a1))) = some (r1, r2) := h
  clear h
  simp only [Option.some.injEq, Prod.mk.injEq] at H
  obtain ⟨rfl, rfl⟩ := H
  go_enter Try.func222, Try.ntmps222
  go_wp2
  go_ret2
  exact ⟨by first | rfl | (simp; done) | (simp [*]; done), by repeat (first | exact Drawn0.refl _ | apply Drawn0.step)⟩
end Go.Proofs.Ytjlohdbkjoofcaa.P
end
section
set_option linter.unusedVariables false
set_option linter.unusedSimpArgs false
namespace Go.Proofs.Ytjlohdbkjoofcaa.P
open Go.RowKit Go.Proofs.PrintWords Go.Proofs.PrintLast Go.Proofs.PrintMore
attribute [local go_sem] max2_int min2_int max_two min_two max_three min_three max_four min_four
def bits_Mul.f (a0 : Int) (a1 : Int) : Option (Int × Int) := (bits_Mul64.f a0 a1).bind fun bt353 => (some (bt353.1, bt353.2))
set_option maxHeartbeats 8000000 in
set_option maxRecDepth 100000 in
theorem bits_Mul.calls (a0 : Int) (a1 : Int) (r1 : Int) (r2 : Int) (w : World) (h : bits_Mul.f a0 a1 = some (r1, r2)) :
    Calls Try.prog 189 #[.int .u64 a0, .int .u64 a1] w fun e w' => e = .returned (.tuple #[.int .u64 r1, .int .u64 r2]) ∧ Drawn0 w w' := by
  have H : ((bits_Mul64.f a0 a1).bind fun bt353 => (some (bt353.1, bt353.2))) = some (r1, r2) := h
  clear h
  replace H := Option.bind_eq_some_iff.mp H
  obtain ⟨⟨t353, t354⟩, A30, H⟩ := H
  replace H : (some (t353, t354)) = some (r1, r2) := H
  have A3 := Aside0.mk A30
  clear A30
  simp only [Option.some.injEq, Prod.mk.injEq] at H
  obtain ⟨rfl, rfl⟩ := H
  go_enter Try.func189, Try.ntmps189
  go_wp2_with (first | ((with_reducible refine gate_callee (f := 222) rfl ?_); refine goesL_ (some 25) rfl rfl Try.func222 (by kernel_rfl) rfl #[.int .u64 a0, .int .u64 a1] rfl (by (try simp only [List.map_toArray, List.map_cons, List.map_nil]); first | done | rfl | (simp only [List.length_drop, List.length_take]; rfl)) ?_; (with_reducible refine (bits_Mul64.calls a0 a1 t353 t354 _ A3.out).mono ?_); rintro e w' ⟨rfl, ⟨nd, rfl⟩⟩; refine ⟨_, rfl, ?_⟩))
  go_ret2
  exact ⟨by first | rfl | (simp; done) | (simp [*]; done), by repeat (first | exact Drawn0.refl _ | apply Drawn0.step)⟩
end Go.Proofs.Ytjlohdbkjoofcaa.P
end
section
set_option linter.unusedVariables false
set_option linter.unusedSimpArgs false
namespace Go.Proofs.Ytjlohdbkjoofcaa.P
open Go.RowKit Go.Proofs.PrintWords Go.Proofs.PrintLast Go.Proofs.PrintMore
attribute [local go_sem] max2_int min2_int max_two min_two max_three min_three max_four min_four
def hRepeat.f (l0 : List Int) (a1 : Int) : Option (List Int) := if l0.length = 1 ∧ 0 ≤ a1 ∧ a1 ≤ 100000 then some (List.replicate a1.toNat (rd l0 0)) else none
theorem mul_one_n (n : Nat) (hn : n ≤ 100000) : bits_Mul.f 1 (n : Int) = some (0, (n : Int)) := by
  unfold bits_Mul.f bits_Mul64.f
  have e1 : Go.bits .and .u64 (1 : Int) 4294967295 = 1 := by rw [u64_and _ _ (by decide) (by decide) (by decide) (by decide)]; rfl
  have e0 : Go.bits .and .u64 (0 : Int) 4294967295 = 0 := by rw [u64_and _ _ (by decide) (by decide) (by decide) (by decide)]; rfl
  have en : Go.bits .and .u64 (n : Int) 4294967295 = n := by
    rw [u64_and _ _ (by omega) (by omega) (by decide) (by decide)]
    show ((n &&& 4294967295 : Nat) : Int) = n
    rw [show 4294967295 = 2 ^ 32 - 1 by decide, Nat.and_two_pow_sub_one_eq_mod]
    omega
  have d1 : (1 : Int) / 4294967296 = 0 := by decide
  have dn : (n : Int) / 4294967296 = 0 := by omega
  have w0 : IntKind.u64.wrap 0 = 0 := by decide
  have wn : IntKind.u64.wrap (n : Int) = n := by simp [IntKind.wrap, IntKind.bits, IntKind.signed]; omega
  have z0 : (0 : Int) / 4294967296 = 0 := by decide
  simp only [e1, en, d1, dn, Int.zero_mul, Int.mul_zero, w0, Int.one_mul, wn, z0, Int.add_zero, e0, Option.bind_some]
def RepRow (w : World) (g n cap k : Nat) (x : Int) : Prop := n ≤ cap ∧ cap ≤ maxLen ∧ ∃ cur : List Value, w.heap[g]? = some (.cells cur.toArray 5 (0, 0)) ∧ cur.length = cap ∧ ∀ i, i < k → cur[i]? = some (.int .u8 x)
theorem RepRow.R {w : World} {g n cap lo : Nat} {x : Int} (h : RepRow w g n cap n x) (hl : lo ≤ g) : Kd.R (Kd.int .u8) 5 w lo (fun _ => True) (.slice (some ⟨g, 0, none⟩) n cap) (List.replicate n x) := by
  obtain ⟨h1, h2, cur, hb, hz, hc⟩ := h
  refine Kd.R_of_own ⟨?_, .inr ⟨g, cap, cur.toArray, ?_, hl, hb, by rw [List.length_replicate]; exact h1, h2, by simpa using hz, ?_⟩⟩ (fun _ _ => trivial)
  · simp [encs]
  · rw [List.length_replicate]
  · refine List.ext_getElem? fun i => ?_
    simp only [List.length_replicate, Nat.mul_one, encs, List.map_replicate]
    rw [List.getElem?_take]
    by_cases hi : i < n
    · rw [if_pos hi, hc i hi, List.getElem?_replicate, if_pos hi]
    · rw [if_neg hi, List.getElem?_eq_none (by simpa using hi)]
theorem RepRow.of_R {w : World} {lo n k b : Nat} {x : Int} {v : Value} {xs : List Int} {ok : Nat → Prop} (h : Kd.R (Kd.int .u8) 5 w lo ok v xs) (hv : v.ownBlock = some b) (hl : xs.length = n) (hk : ∀ i, i < k → xs[i]? = some x) : ∃ cap, v = .slice (some ⟨b, 0, none⟩) n cap ∧ RepRow w b n cap k x ∧ lo ≤ b := by
  have ho := Kd.own_of_R (enc := Value.int .u8) (h1 := fun _ => rfl) h
  rcases ho.2 with ⟨e, _⟩ | ⟨g, cap, cur, e, hb, hh, h1, h2, h3, h4⟩
  · rw [e] at hv
    simp [Value.ownBlock] at hv
  · obtain rfl : g = b := by rw [e] at hv; simpa [Value.ownBlock] using hv
    subst hl
    refine ⟨cap, e, ⟨h1, h2, cur.toList, hh, by simpa using h3, fun i hi => ?_⟩, hb⟩
    have hx := hk i hi
    have hil := (List.getElem?_eq_some_iff.1 hx).1
    have e2 : (cur.toList.take (xs.length * 1))[i]? = (encs (Value.int .u8) xs)[i]? := by rw [h4]
    rw [List.getElem?_take, if_pos (by omega)] at e2
    rw [e2]
    simp [encs, hx]
theorem RepRow.splice {w' : World} {g n cap k : Nat} {x : Int} {cur : List Value} (h1 : n ≤ cap) (h2 : cap ≤ maxLen) (hz : cur.length = cap) (hc : ∀ i, i < k → cur[i]? = some (.int .u8 x)) (hk : k < n) (hb : w'.heap[g]? = some (.cells (splice cur k (List.replicate (min k (n - k)) (.int .u8 x))).toArray 5 (0, 0))) : RepRow w' g n cap (k + min k (n - k)) x := by
  refine ⟨h1, h2, _, hb, ?_, fun i hi => ?_⟩
  · rw [length_splice _ _ _ (by rw [List.length_replicate]; omega)]
    exact hz
  · unfold Go.splice
    by_cases hik : i < k
    · rw [List.getElem?_append_left (by rw [List.length_take]; omega), List.getElem?_take, if_pos hik]
      exact hc i hik
    · rw [List.getElem?_append_right (by rw [List.length_take]; omega), List.length_take, List.getElem?_append_left (by rw [List.length_replicate]; omega), List.getElem?_replicate, if_pos (by omega)]
def hRepeat.T9 : Bool × List (List Nat × List Nat) := (true, [([], []), ([], []), ([], []), ([1, 2], [1, 2]), ([], []), ([], []), ([4, 5], [4, 5]), ([3, 6], [3, 6]), ([0, 7], [0, 7]), ([8, 7, 0, 1, 2, 3, 4, 5, 6, 7, 8], [0, 2, 5, 8])])
def hRepeat.B9 : List Nat := [0, 0, 0, 6, 0, 0, 48, 126, 255, 511]
theorem hRepeat.tab9 : rtab .any (opsOf Try.f128 9) = hRepeat.T9 := by kernel_rfl
theorem hRepeat.bits9 : waitsOk hRepeat.T9.2 hRepeat.B9 = true := by kernel_rfl
set_option maxHeartbeats 4000000 in
set_option maxRecDepth 100000 in
theorem hRepeat.calls (A0 : Option Addr) (c0 : Nat) (l0 : List Int) (a1 : Int) (r : List Int) (w : World) (hr0 : Kd.C (Kd.int .u8) w A0 l0.length l0) (hc0 : l0.length ≤ c0) (h : hRepeat.f l0 a1 = some r) :
    Calls Try.prog 128 #[.slice A0 l0.length c0, .int .i64 a1] w fun e w' => ∃ v0_ : Value, e = .returned v0_ ∧ Kd.R (Kd.int .u8) 5 w' w.heap.size (fun _ => True) v0_ r ∧ Below w.heap.size w w' := by
  unfold hRepeat.f at h
  by_cases hh : l0.length = 1 ∧ 0 ≤ a1 ∧ a1 ≤ 100000
  · rw [if_pos hh] at h
    obtain ⟨h1, h2, h3⟩ := hh
    injection h with h
    subst h
    obtain ⟨n, rfl⟩ := Int.eq_ofNat_of_zero_le h2
    obtain ⟨x, rfl⟩ : ∃ x, l0 = [x] := by
      match l0, h1 with
      | [x], _ => exact ⟨x, rfl⟩
    show Calls _ _ _ _ fun e w' => ∃ v0_ : Value, e = .returned v0_ ∧ Kd.R (Kd.int .u8) 5 w' w.heap.size (fun _ => True) v0_ (List.replicate n x) ∧ Below w.heap.size w w'
    have HR := Aside0.mk hr0
    have hn : n ≤ 100000 := by omega
    have HM := Aside0.mk (mul_one_n n hn)
    have hw1 : IntKind.u64.wrap (n : Int) = n := by simp [IntKind.wrap, IntKind.bits, IntKind.signed]; omega
    have hw2 : IntKind.u64.wrap (1 : Int) = 1 := by decide
    have hw3 : wrap64 (n : Int) = n := by unfold wrap64; omega
    have hn0 : ¬ ((n : Int) < 0) := by omega
    clear hr0 h1 h2 h3
    go_enter Try.func128, Try.ntmps128
    go_upto_block 0 with (first
      | (go_at_call 189; refine (bits_Mul.calls 1 (n : Int) 0 (n : Int) _ HM.out).mono ?_; rintro e w' ⟨rfl, hq⟩; have HB1 := Aside0.mk (Drawn0.below hq); clear hq)
      | ((with_reducible refine gate_dst (N := 30) rfl ?_); refine Kd.R_make (Kd.int .u8) (w0 := w) w.heap.size 5 rfl (N := 30) rfl 26 _ _ rfl n rfl rfl Try.underlying26 (.int .u8 0) 1 info5 rfl (by decide) (by omega) 0 (ok := fun _ => True) (okp := fun _ => True) rfl (fun _ hk => hk) trivial (by omega) (by omega) HB1.out (below_size HB1.out) ?_; intro v2 w2 ho2 hb2 hg2 hnew2; obtain ⟨b2, hv2, hl2⟩ := hnew2; have HO2 := Aside0.mk ho2; have HB2 := Aside0.mk hb2; have HV2 := Aside0.mk hv2; clear ho2 hb2 hg2 hv2 hl2)
      | ((with_reducible refine gate_dst (N := 33) rfl ?_); refine Kd.R_copy (enc := Value.int .u8) (h1 := fun _ => rfl) (0 : Int) (w0 := w) w.heap.size rfl (.tmp 31) (.tmp 32) 26 26 5 rfl Try.underlying26 (by kernel_rfl) v2 (List.replicate n 0) [x] A0 1 c0 (fun _ => True) rfl rfl HO2.out (Kd.C_below HR.out HB2.out) HB2.out (below_size HB2.out) ?_; intro w3 ho3 hb3 hg3; have HO3 := Aside0.mk ho3; have HB3 := Aside0.mk hb3; clear ho3 hb3 hg3))
    obtain ⟨cap, e2, hrow, hlo⟩ := RepRow.of_R (k := min 1 n) HO3.out HV2.out (n := n) (by rw [List.length_append, List.length_take, List.length_drop, List.length_replicate, List.length_singleton]; omega) (x := x) (fun i hi => by
      have : i = 0 := by omega
      subst this
      rw [show min 1 (List.replicate n (0 : Int)).length = 1 by rw [List.length_replicate]; omega]
      rfl)
    subst e2
    have HRW := Aside0.mk hrow
    have HLO := Aside0.mk hlo
    have hcap := hrow.1
    have hmax := hrow.2.1
    clear hrow hlo HO3 HO2 HV2
    obtain ⟨k0, hk0⟩ : ∃ k0, min 1 n = k0 := ⟨_, rfl⟩
    have hk1 : k0 ≤ n := by omega
    have hk2 : 0 < n → 0 < k0 := by omega
    rw [hk0] at HRW ⊢
    clear hk0
    go_wp2_with fail
    go_loopw [8] (fun i wr => ∃ k : Nat, k ≤ n ∧ (0 < n → 0 < k) ∧ i = .int .i64 k ∧ Aside0 (RepRow wr b2 n cap k x) ∧ Aside0 (Below w.heap.size w wr)) (fun i _ => n - (intOf i).toNat)
    case atStart => exact ⟨k0, hk1, hk2, rfl, HRW, HB3⟩
    case round =>
      clear HRW HB3 hk1 hk2
      obtain ⟨k, hk, hkp, rfl, HRW, HB⟩ := hrel
      by_cases hlt : k < n
      · have hne : ¬ cap = k := by omega
        have hne2 : ¬ (cap : Int) = k := by omega
        have hk0' : 0 ≤ (k : Int) := by omega
        have hkc : k ≤ cap := by omega
        have hkc2 : (k : Int) ≤ cap := by omega
        go_wp2_with fail
        refine start_ (n := 10) (S := fun _ => True) (ds := []) #[false, false, false, false, false, false, false, false, false, false] (by kernel_rfl) rfl rfl trivial (fun hHeld => ?_); refine with_tabW hRepeat.tab9 hRepeat.bits9 (fun HT_ HW_ => ?_)
        refine pure_ (i := 0) (N := some 38) (v := ?_) (a' := ?_) #[true, false, false, false, false, false, false, false, false, false] rfl rfl (any_of HT_.out (by kernel_rfl)) (fun _ _ _ h => h) (Or.inl ⟨by rfl, ?_⟩) ?_ ?_
        rotate_left
        · intro w'
          go_simp
          with_reducible rfl
        rotate_left
        · simp only [Act.put, List.setIfInBounds_toArray, List.set_cons_zero, List.set_cons_succ, i64_w, i32_w]
          rfl
        refine pure_ (i := 1) (N := some 39) (v := ?_) (a' := ?_) #[true, true, false, false, false, false, false, false, false, false] rfl rfl (any_of HT_.out (by kernel_rfl)) (fun _ _ _ h => h) (Or.inl ⟨by rfl, ?_⟩) ?_ ?_
        rotate_left
        · intro w'
          go_simp
          with_reducible rfl
        rotate_left
        · simp only [Act.put, List.setIfInBounds_toArray, List.set_cons_zero, List.set_cons_succ, i64_w, i32_w]
          rfl
        refine pure_ (i := 2) (N := some 40) (v := ?_) (a' := ?_) #[true, true, true, false, false, false, false, false, false, false] rfl rfl (any_of HT_.out (by kernel_rfl)) (fun _ _ _ h => h) (Or.inl ⟨by rfl, ?_⟩) ?_ ?_
        rotate_left
        · intro w'
          go_simp
          with_reducible rfl
        rotate_left
        · simp only [Act.put, List.setIfInBounds_toArray, List.set_cons_zero, List.set_cons_succ, i64_w, i32_w]
          rfl
        refine pure_ (i := 3) (N := some 41) (v := ?_) (a' := ?_) #[true, true, true, true, false, false, false, false, false, false] rfl rfl (any_of HT_.out (by kernel_rfl)) (fun _ _ _ h => h) (Or.inl ⟨by rfl, ?_⟩) ?_ ?_
        rotate_left
        · intro w'
          go_simp
          with_reducible rfl
        rotate_left
        · simp only [Act.put, List.setIfInBounds_toArray, List.set_cons_zero, List.set_cons_succ, i64_w, i32_w]
          rfl
        refine pure_ (i := 4) (N := some 42) (v := ?_) (a' := ?_) #[true, true, true, true, true, false, false, false, false, false] rfl rfl (any_of HT_.out (by kernel_rfl)) (fun _ _ _ h => h) (Or.inl ⟨by rfl, ?_⟩) ?_ ?_
        rotate_left
        · intro w'
          go_simp
          with_reducible rfl
        rotate_left
        · simp only [Act.put, List.setIfInBounds_toArray, List.set_cons_zero, List.set_cons_succ, i64_w, i32_w]
          rfl
        refine pure_ (i := 5) (N := some 43) (v := ?_) (a' := ?_) #[true, true, true, true, true, true, false, false, false, false] rfl rfl (any_of HT_.out (by kernel_rfl)) (fun _ _ _ h => h) (Or.inl ⟨by rfl, ?_⟩) ?_ ?_
        rotate_left
        · intro w'
          go_simp
          with_reducible rfl
        rotate_left
        · simp only [Act.put, List.setIfInBounds_toArray, List.set_cons_zero, List.set_cons_succ, i64_w, i32_w]
          rfl
        refine pure_ (i := 6) (N := some 44) (v := ?_) (a' := ?_) #[true, true, true, true, true, true, true, false, false, false] rfl rfl (any_of HT_.out (by kernel_rfl)) (fun _ _ _ h => h) (Or.inl ⟨by rfl, ?_⟩) ?_ ?_
        rotate_left
        · intro w'
          go_simp
          with_reducible rfl
        rotate_left
        · simp only [Act.put, List.setIfInBounds_toArray, List.set_cons_zero, List.set_cons_succ, i64_w, i32_w]
          rfl
        refine one_ (i := 7) (N := some 45) #[true, true, true, true, true, true, true, true, false, false] rfl rfl (one_of HT_.out (by kernel_rfl)) (by decide) (fun K hK => ?_)
        obtain ⟨_, _, cur, hcur, hcz, hcc⟩ := HRW.out
        refine step_copy_splice (by rfl) (.tmp 41) (.tmp 44) 26 26 rfl 5 Try.underlying26 (by kernel_rfl) (some ⟨b2, k, none⟩) (some ⟨b2, 0, none⟩) (n - k) (cap - k) k cap (by rfl) (by rfl) b2 k cur 5 (blk_drew hcur) (List.replicate (min k (n - k)) (.int .u8 x)) (by rw [List.length_replicate]) (fun _ => ⟨rfl, ⟨b2, 0, none⟩, rfl, fun j v hj => ?_⟩) (by rw [List.length_replicate]; omega) (fun v hv => by rw [List.eq_of_mem_replicate hv]; rfl) w.heap.size w (below_drew1 HB.out) HLO.out ?_
        · rw [List.getElem?_replicate] at hj
          by_cases hjm : j < min k (n - k)
          · rw [if_pos hjm] at hj
            injection hj with hj
            subst hj
            rw [add_plain, blk_cell (blk_drew hcur)]
            simpa using hcc j (by omega)
          · rw [if_neg hjm] at hj
            cases hj
        · intro w4 hh4 hb4
          have HB4 := Aside0.mk hb4
          have HR4 := Aside0.mk (RepRow.splice hcap hmax hcz hcc hlt hh4)
          clear hh4 hb4 hcur hcz hcc
          rw [List.length_replicate]
          refine hK.out _ _ trivial (fun hHeld => ?_)
          clear hK K
          refine norm_ (a' := ?_) ?_ ?_
          rotate_left
          · show Act.put _ (some 45) _ = _
            simp only [Act.put, List.setIfInBounds_toArray, List.set_cons_zero, List.set_cons_succ, i64_w, i32_w]
            rfl
          refine pure_ (i := 8) (N := some 46) (v := ?_) (a' := ?_) #[true, true, true, true, true, true, true, true, true, false] rfl rfl (any_of HT_.out (by kernel_rfl)) (fun _ _ _ h => h) (Or.inl ⟨by rfl, ?_⟩) ?_ ?_
          rotate_left
          · intro w'
            go_simp
            with_reducible rfl
          rotate_left
          · simp only [Act.put, List.setIfInBounds_toArray, List.set_cons_zero, List.set_cons_succ, i64_w, i32_w]
            rfl
          refine pure_ (i := 9) (N := some 8) (v := ?_) (a' := ?_) #[true, true, true, true, true, true, true, true, true, true] rfl rfl (any_of HT_.out (by kernel_rfl)) (fun _ _ _ h => h) (Or.inl ⟨by rfl, ?_⟩) ?_ ?_
          rotate_left
          · intro w'
            go_simp
            with_reducible rfl
          rotate_left
          · simp only [Act.put, List.setIfInBounds_toArray, List.set_cons_zero, List.set_cons_succ, i64_w, i32_w]
            rfl
          refine done_ (done_of HT_.out (by kernel_rfl)) ?_
          try go_wp2
          go_roundw
          case rel => exact ⟨k + min k (n - k), by omega, by omega, by rw [show wrap64 ((k : Int) + ((min k (n - k) : Nat) : Int)) = ((k + min k (n - k) : Nat) : Int) by unfold wrap64; omega], HR4, HB4⟩
          case measure => rw [show wrap64 ((k : Int) + ((min k (n - k) : Nat) : Int)) = ((k + min k (n - k) : Nat) : Int) by unfold wrap64; omega]; have := hkp (by omega); simp only [intOf, Int.toNat_natCast]; omega
      · obtain rfl : k = n := by omega
        go_wp2_with fail
        go_ret
        exact ⟨_, rfl, HRW.out.R HLO.out, HB.out⟩
  · rw [if_neg hh] at h
    cases h
end Go.Proofs.Ytjlohdbkjoofcaa.P
end
section
set_option linter.unusedVariables false
set_option linter.unusedSimpArgs false
namespace Go.Proofs.Ytjlohdbkjoofcaa.P
open Go.RowKit Go.Proofs.PrintWords Go.Proofs.PrintLast Go.Proofs.PrintMore
attribute [local go_sem] max2_int min2_int max_two min_two max_three min_three max_four min_four
def hFlush.f (l0 : List S52) (l1 : List S65) : Option (List S52 × List S65 × Int) := if l1.length ≤ 100000 then some (dFlush l0 l1) else none
def hFlush.T2 : Bool × List (List Nat × List Nat) := (true, [([], []), ([], []), ([], []), ([2], [2]), ([3], [3]), ([1, 4], [1, 4]), ([0, 5, 5], [0, 5]), ([6], [6]), ([6], [6]), ([7, 6, 0, 1, 2, 3, 4, 5, 6, 7, 8], [7]), ([8, 9, 0, 1, 2, 3, 4, 5, 6, 7, 8, 9], [8])])
def hFlush.B2 : List Nat := [0, 0, 0, 4, 12, 30, 63, 127, 127, 511, 1023]
theorem hFlush.tab2 : rtab .any (opsOf Try.f47 2) = hFlush.T2 := by kernel_rfl
theorem hFlush.bits2 : waitsOk hFlush.T2.2 hFlush.B2 = true := by kernel_rfl
set_option maxHeartbeats 4000000 in
set_option maxRecDepth 100000 in
theorem hFlush.calls (A0_0 : Option Addr) (c0_0 : Nat) (l0_0 : List S52) (A0_1 : Option Addr) (c0_1 : Nat) (l0_1 : List S65) (r1 : List S52) (r2 : List S65) (r3 : Int) (w : World) (hr0_0 : Kd.C k52 w A0_0 l0_0.length l0_0) (hc0_0 : l0_0.length ≤ c0_0) (hr0_1 : Kd.C k65 w A0_1 l0_1.length l0_1) (hc0_1 : l0_1.length ≤ c0_1) (h : hFlush.f l0_0 l0_1 = some (r1, r2, r3)) :
    Calls Try.prog 47 #[.agg #[.slice A0_0 l0_0.length c0_0, .slice A0_1 l0_1.length c0_1]] w fun e w' => ∃ v0_ v1_ : Value, e = .returned (.tuple #[.agg #[v0_, v1_], .int .i64 r3]) ∧ Kd.S k52 52 w' w.heap.size (fun _ => True) v0_ r1 ∧ Kd.S k65 65 w' w.heap.size (fun _ => True) v1_ r2 ∧ Below w.heap.size w w' := by
  have hu25 := Try.underlying25
  unfold hFlush.f at h
  by_cases hl : l0_1.length ≤ 100000
  · rw [if_pos hl] at h
    injection h with h
    have H := Aside0.mk h
    have HR0 := Aside0.mk hr0_0
    have HR1 := Aside0.mk hr0_1
    have HC0 := Aside0.mk hc0_0
    have HC1 := Aside0.mk hc0_1
    have HL := Aside0.mk hl
    clear h hr0_0 hr0_1 hc0_0 hc0_1 hl
    go_enter Try.func47, Try.ntmps47
    go_wp2_with fail
    have HBx := Aside0.mk (show ∀ W, Below w.heap.size w W → Kd.C k52 W A0_0 l0_0.length l0_0 ∧ Kd.C k65 W A0_1 l0_1.length l0_1 from fun W hb => ⟨Kd.C_below HR0.out hb, Kd.C_below HR1.out hb⟩)
    have HB0 := Aside0.mk (below_alloc (below_alloc (below_alloc (Below.refl w.heap.size w) (.cells #[.slice A0_0 l0_0.length c0_0, .slice A0_1 l0_1.length c0_1] 25)) (.cells #[.slice none 0 0, .slice none 0 0] 25)) (.cells #[.int .u8 1] 160))
    have HK0 := Aside0.mk (blk_alloc (blk_alloc (heap_alloc_new w (.cells #[.slice A0_0 l0_0.length c0_0, .slice A0_1 l0_1.length c0_1] 25)) (.cells #[.slice none 0 0, .slice none 0 0] 25)) (.cells #[.int .u8 1] 160))
    have HZ0 := Aside0.mk (blk_alloc (heap_alloc_at w (.cells #[.slice A0_0 l0_0.length c0_0, .slice A0_1 l0_1.length c0_1] 25) (.cells #[.slice none 0 0, .slice none 0 0] 25) (w.heap.size + 1) rfl) (.cells #[.int .u8 1] 160))
    have HA0 := Aside0.mk (show (((w.alloc (.cells #[.slice A0_0 l0_0.length c0_0, .slice A0_1 l0_1.length c0_1] 25)).alloc (.cells #[.slice none 0 0, .slice none 0 0] 25)).alloc (.cells #[.int .u8 1] 160)).heap[w.heap.size + 1 + 1]? = some (.cells #[.int .u8 1] 160 (0, 0)) by
      have e := heap_alloc_new ((w.alloc (.cells #[.slice A0_0 l0_0.length c0_0, .slice A0_1 l0_1.length c0_1] 25)).alloc (.cells #[.slice none 0 0, .slice none 0 0] 25)) (.cells #[.int .u8 1] 160)
      rwa [show ((w.alloc (.cells #[.slice A0_0 l0_0.length c0_0, .slice A0_1 l0_1.length c0_1] 25)).alloc (.cells #[.slice none 0 0, .slice none 0 0] 25)).heap.size = w.heap.size + 1 + 1 by show ((w.heap.push _).push _).size = _; rw [Array.size_push, Array.size_push]] at e)
    generalize ((w.alloc (.cells #[.slice A0_0 l0_0.length c0_0, .slice A0_1 l0_1.length c0_1] 25)).alloc (.cells #[.slice none 0 0, .slice none 0 0] 25)).alloc (.cells #[.int .u8 1] 160) = W0 at HB0 HK0 HZ0 HA0 ⊢
    have HSS := Aside0.mk (show ∀ W : World, Below W0.heap.size W0 W → W.cell? ⟨w.heap.size, 0, none⟩ = some (.slice A0_0 l0_0.length c0_0) ∧ W.cell? ⟨w.heap.size, 1, none⟩ = some (.slice A0_1 l0_1.length c0_1) from fun W hb => ⟨(blk_cell (blk_below HK0.out hb) 0).trans rfl, (blk_cell (blk_below HK0.out hb) 1).trans rfl⟩)
    refine start_ (n := 11) (S := fun w' => w'.cell? ⟨w.heap.size, 0, none⟩ = some (.slice A0_0 l0_0.length c0_0) ∧ w'.cell? ⟨w.heap.size, 1, none⟩ = some (.slice A0_1 l0_1.length c0_1)) (ds := [9]) #[false, false, false, false, false, false, false, false, false, false, false] (by kernel_rfl) rfl rfl (by exact HSS.out _ (below_drew1 (Below.refl _ _))) (fun hHeld => ?_); refine with_tabW hFlush.tab2 hFlush.bits2 (fun HT_ HW_ => ?_)
    refine take_ (i := 0) (N := some 6) (v := ?_) (a' := ?_) #[true, false, false, false, false, false, false, false, false, false, false] rfl rfl (take_ofW HT_.out HW_.out (by kernel_rfl)) (fun _ _ _ h => h) (Or.inl ⟨by rfl, ?_⟩) hHeld ?_ ?_
    rotate_left
    · rintro w' ⟨s0, s1⟩
      go_simp
      with_reducible rfl
    rotate_left
    · simp only [Act.put, List.setIfInBounds_toArray, List.set_cons_zero, List.set_cons_succ, i64_w, i32_w]
      rfl
    refine pure_ (i := 1) (N := some 7) (v := ?_) (a' := ?_) #[true, true, false, false, false, false, false, false, false, false, false] rfl rfl (any_of HT_.out (by kernel_rfl)) (fun _ _ _ h => h) (Or.inl ⟨by rfl, ?_⟩) ?_ ?_
    rotate_left
    · intro w'
      go_simp
      with_reducible rfl
    rotate_left
    · simp only [Act.put, List.setIfInBounds_toArray, List.set_cons_zero, List.set_cons_succ, i64_w, i32_w]
      rfl
    refine pure_ (i := 2) (N := some 8) (v := ?_) (a' := ?_) #[true, true, true, false, false, false, false, false, false, false, false] rfl rfl (any_of HT_.out (by kernel_rfl)) (fun _ _ _ h => h) (Or.inl ⟨by rfl, ?_⟩) ?_ ?_
    rotate_left
    · intro w'
      go_simp
      with_reducible rfl
    rotate_left
    · simp only [Act.put, List.setIfInBounds_toArray, List.set_cons_zero, List.set_cons_succ, i64_w, i32_w]
      rfl
    refine take_ (i := 3) (N := some 9) (v := ?_) (a' := ?_) #[true, true, true, true, false, false, false, false, false, false, false] rfl rfl (take_ofW HT_.out HW_.out (by kernel_rfl)) (fun _ _ _ h => h) (Or.inl ⟨by rfl, ?_⟩) hHeld ?_ ?_
    rotate_left
    · rintro w' ⟨s0, s1⟩
      go_simp
      with_reducible rfl
    rotate_left
    · simp only [Act.put, List.setIfInBounds_toArray, List.set_cons_zero, List.set_cons_succ, i64_w, i32_w]
      rfl
    refine take_ (i := 4) (N := some 10) (v := ?_) (a' := ?_) #[true, true, true, true, true, false, false, false, false, false, false] rfl rfl (take_ofW HT_.out HW_.out (by kernel_rfl)) (fun _ _ _ h => h) (Or.inl ⟨by rfl, ?_⟩) hHeld ?_ ?_
    rotate_left
    · rintro w' ⟨s0, s1⟩
      go_simp
      with_reducible rfl
    rotate_left
    · simp only [Act.put, List.setIfInBounds_toArray, List.set_cons_zero, List.set_cons_succ, i64_w, i32_w]
      rfl
    refine one_ (i := 5) (N := some 11) #[true, true, true, true, true, true, false, false, false, false, false] rfl rfl (one_of HT_.out (by kernel_rfl)) (by decide) (fun K hK => ?_)
    refine goes_ Try.func128 (by kernel_rfl) rfl #[.slice (some ⟨w.heap.size + 1 + 1, 0, none⟩) 1 1, .int .i64 l0_1.length] (by rfl) rfl rfl (by (try simp only [List.map_toArray, List.map_cons, List.map_nil]); first | done | rfl | (simp only [List.length_drop, List.length_take]; rfl)) ?_
    refine (hRepeat.calls (some ⟨w.heap.size + 1 + 1, 0, none⟩) 1 [1] l0_1.length (List.replicate l0_1.length 1) W0.drew ⟨rfl, by simp, fun _ => ⟨_, rfl, fun j p hj => ⟨[.int .u8 p], rfl, rfl, fun i u hu => ?_⟩⟩⟩ (Nat.le_refl _) (by unfold hRepeat.f; rw [if_pos ⟨rfl, by omega, by have := HL.out; omega⟩]; rfl)).mono ?_
    · have hj0 : j = 0 := by
        have := (List.getElem?_eq_some_iff.1 hj).1
        simpa using this
      have hi0 : i = 0 := by
        have := (List.getElem?_eq_some_iff.1 hu).1
        simpa using this
      subst hj0 hi0
      have hj : 1 = p := by simpa using hj
      have hu : Value.int .u8 p = u := by simpa using hu
      subst hj hu
      rw [add_plain]
      exact (blk_cell (blk_drew HA0.out) 0).trans rfl
    rintro e w1 ⟨v1, rfl, ho1, hb1⟩
    have HB1 := Aside0.mk (below_step (below_drew1 (Below.refl W0.heap.size W0)) hb1)
    obtain ⟨A1, c1, e1, hc1, hr1⟩ := Kd.R_reads ho1
    subst e1
    have HC1' := Aside0.mk hc1
    have HR1' := Aside0.mk hr1
    refine ⟨_, rfl, ?_⟩
    clear ho1 hb1 hc1 hr1
    refine hK.out _ _ (by exact HSS.out _ HB1.out) (fun hHeld => ?_)
    clear hK K
    refine norm_ (a' := ?_) ?_ ?_
    rotate_left
    · show Act.put _ (some 11) _ = _
      simp only [Act.put, List.setIfInBounds_toArray, List.set_cons_zero, List.set_cons_succ, i64_w, i32_w]
      rfl
    refine one_ (i := 6) (N := some 12) #[true, true, true, true, true, true, true, false, false, false, false] rfl rfl (one_of HT_.out (by kernel_rfl)) (by decide) (fun K hK => ?_)
    refine goes_ Try.func49 (by kernel_rfl) rfl #[.agg #[.slice A0_0 l0_0.length c0_0, .slice A0_1 l0_1.length c0_1], .slice A1 (List.replicate l0_1.length (1 : Int)).length c1] (by rfl) rfl rfl (by (try simp only [List.map_toArray, List.map_cons, List.map_nil]); first | done | rfl | (simp only [List.length_drop, List.length_take]; rfl)) ?_
    refine (hCrash.calls A0_0 c0_0 l0_0 A0_1 c0_1 l0_1 A1 c1 (List.replicate l0_1.length 1) r1 r2 r3 w1 (HBx.out _ (below_step HB0.out HB1.out)).1 HC0.out (HBx.out _ (below_step HB0.out HB1.out)).2 HC1.out HR1'.out HC1'.out (by unfold hCrash.f; rw [← H.out]; rfl)).mono ?_
    rintro e w2 ⟨v1, v2, rfl, ho1, ho2, hb2⟩
    refine ⟨_, rfl, ?_⟩
    have HB2 := Aside0.mk (below_step HB1.out hb2)
    have HO1 := Aside0.mk (Kd.S_lower ho1 (below_size (below_step HB0.out HB1.out)))
    have HO2 := Aside0.mk (Kd.S_lower ho2 (below_size (below_step HB0.out HB1.out)))
    obtain ⟨X1, d1, e1⟩ := Kd.S_slice ho1
    subst e1
    obtain ⟨X2, d2, e2⟩ := Kd.S_slice ho2
    subst e2
    clear ho1 ho2 hb2
    refine hK.out _ _ (by exact HSS.out _ HB2.out) (fun hHeld => ?_)
    clear hK K
    refine norm_ (a' := ?_) ?_ ?_
    rotate_left
    · show Act.put _ (some 12) _ = _
      simp only [Act.put, List.setIfInBounds_toArray, List.set_cons_zero, List.set_cons_succ, i64_w, i32_w]
      rfl
    refine pure_ (i := 7) (N := some 13) (v := ?_) (a' := ?_) #[true, true, true, true, true, true, true, true, false, false, false] rfl rfl (any_of HT_.out (by kernel_rfl)) (fun _ _ _ h => h) (Or.inl ⟨by rfl, ?_⟩) ?_ ?_
    rotate_left
    · intro w'
      go_simp
      with_reducible rfl
    rotate_left
    · simp only [Act.put, List.setIfInBounds_toArray, List.set_cons_zero, List.set_cons_succ, i64_w, i32_w]
      rfl
    refine pure_ (i := 8) (N := some 14) (v := ?_) (a' := ?_) #[true, true, true, true, true, true, true, true, true, false, false] rfl rfl (any_of HT_.out (by kernel_rfl)) (fun _ _ _ h => h) (Or.inl ⟨by rfl, ?_⟩) ?_ ?_
    rotate_left
    · intro w'
      go_simp
      with_reducible rfl
    rotate_left
    · simp only [Act.put, List.setIfInBounds_toArray, List.set_cons_zero, List.set_cons_succ, i64_w, i32_w]
      rfl
    have HZ2 := Aside0.mk (blk_below HZ0.out HB2.out)
    have hy0 : w2.cell? ⟨w.heap.size + 1, 0, none⟩ = some (.slice none 0 0) := (blk_cell HZ2.out 0).trans rfl
    have hy1 : w2.cell? ⟨w.heap.size + 1, 1, none⟩ = some (.slice none 0 0) := (blk_cell HZ2.out 1).trans rfl
    have hf0 := blk_frozen HZ2.out 0
    have hf1 := blk_frozen HZ2.out 1
    refine last_ (i := 9) (N := none) #[true, true, true, true, true, true, true, true, true, true, false] rfl rfl (one_of HT_.out (by kernel_rfl)) (by decide) (fun K hK => ?_)
    refine skip_ (w1 := ?_) (by rfl) rfl ?_ ?_
    rotate_left
    · go_simp
      rfl
    refine hK.out _ _ ?_
    refine pure_ (i := 10) (N := some 3) (v := ?_) (a' := ?_) #[true, true, true, true, true, true, true, true, true, true, true] rfl rfl (any_of HT_.out (by kernel_rfl)) (fun _ _ _ h => h) (Or.inl ⟨by rfl, ?_⟩) ?_ ?_
    rotate_left
    · intro w'
      go_simp
      with_reducible rfl
    rotate_left
    · simp only [Act.put, List.setIfInBounds_toArray, List.set_cons_zero, List.set_cons_succ, i64_w, i32_w]
      rfl
    refine done_ (done_of HT_.out (by kernel_rfl)) ?_
    have hr1 := blk_put (cs := #[.slice none 0 0, .slice none 0 0]) HZ2.out 0 (.slice X1 r1.length d1) rfl
    have hr2 := blk_put (cs := #[.slice X1 r1.length d1, .slice none 0 0]) hr1 1 (.slice X2 r2.length d2) rfl
    have n52 : ∀ q, q ∈ 52 :: k52.E → q ≠ 25 := by decide
    have n65 : ∀ q, q ∈ 65 :: k65.E → q ≠ 25 := by decide
    try go_wp2
    refine bodyPost_ret (results_ct rfl _ _ (w.heap.size + 1) 25 #[.slice X1 r1.length d1, .slice X2 r2.length d2] (0, 0) _ rfl hr2 Try.underlying25 rfl (by kernel_rfl)) rfl ?_
    exact ⟨_, _, rfl, Kd.S_set (Kd.S_set HO1.out HZ2.out n52 _ _) hr1 n52 _ _, Kd.S_set (Kd.S_set HO2.out HZ2.out n65 _ _) hr1 n65 _ _, below_set (below_set (below_step HB0.out HB2.out) (Nat.le_succ _)) (Nat.le_succ _)⟩
  · rw [if_neg hl] at h
    cases h
end Go.Proofs.Ytjlohdbkjoofcaa.P
end
