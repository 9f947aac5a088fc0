/- Part 8 of the proof: catamaranlaw05.DiskCrash returns true for every disk, fates and sector, and its arguments read afterwards as they read before; no condition. -/
import Derived.Test.YtjlohdbkjoofcaaDiskCrash07
section
set_option linter.unusedVariables false
set_option linter.unusedSimpArgs false
namespace Go.Proofs.Ytjlohdbkjoofcaa.P
open Go.RowKit Go.Proofs.PrintWords Go.Proofs.PrintLast Go.Proofs.PrintMore
attribute [local go_sem] max2_int min2_int max_two min_two max_three min_three max_four min_four
def law10.T12 : Bool × List (List Nat × List Nat) := (true, [([], []), ([0], [0]), ([], []), ([1, 2], [1, 2]), ([3], [3]), ([], []), ([5], [5]), ([], []), ([6, 7], [6, 7]), ([8], [8]), ([], []), ([], []), ([10, 4, 0, 1, 2, 3, 4, 10, 11], [4, 10]), ([11, 9, 12, 0, 1, 2, 3, 4, 5, 6, 7, 8, 9, 10, 11, 12], [9, 11])])
def law10.B12 : List Nat := [0, 1, 0, 7, 15, 0, 32, 0, 224, 480, 0, 0, 3103, 8191]
theorem law10.tab12 : rtab .any (opsOf Try.f10 12) = law10.T12 := by kernel_rfl
theorem law10.bits12 : waitsOk law10.T12.2 law10.B12 = true := by kernel_rfl
def law10.T20 : Bool × List (List Nat × List Nat) := (true, [([], []), ([0], [0]), ([1], [1]), ([2, 1], [1, 2]), ([1], [1]), ([3, 4, 1], [1, 3, 4]), ([5, 1], [1, 5]), ([6, 1], [1, 6]), ([1], [1]), ([7, 8, 1], [1, 7, 8]), ([9, 1, 1], [1, 9]), ([10], [10]), ([11, 10], [10, 11]), ([12, 10], [10, 12]), ([10, 13, 1], [1, 10, 13]), ([14, 10, 1], [1, 14]), ([15], [15]), ([16, 15], [15, 16]), ([17, 15], [15, 17]), ([15], [15]), ([19, 15], [15, 19]), ([15], [15]), ([20, 21, 15], [15, 20, 21]), ([22, 15], [15, 22]), ([23, 15], [15, 23]), ([24, 15], [15, 24]), ([18, 25, 15], [15, 18, 25]), ([15, 26, 1], [1, 15, 26]), ([1, 27], [1, 27]), ([28, 15, 0, 1, 2, 3, 4, 5, 6, 7, 8, 9, 10, 11, 12, 13, 14, 15, 16, 17, 18, 19, 20, 21, 22, 23, 24, 25, 26, 27, 28], [0, 28])])
def law10.B20 : List Nat := [0, 1, 3, 7, 3, 31, 63, 127, 3, 511, 1023, 2047, 4095, 8191, 16383, 32767, 65535, 131071, 262143, 65535, 589823, 65535, 3735551, 7929855, 16318463, 33095679, 67108863, 134217727, 268435455, 536870911]
theorem law10.tab20 : rtab .any (opsOf Try.f10 20) = law10.T20 := by kernel_rfl
theorem law10.bits20 : waitsOk law10.T20.2 law10.B20 = true := by kernel_rfl
set_option maxHeartbeats 16000000 in
set_option maxRecDepth 100000 in
theorem law10.calls (A0_0 : Option Addr) (c0_0 : Nat) (l0_0 : List S52) (A0_1 : Option Addr) (c0_1 : Nat) (l0_1 : List S65) (A1 : Option Addr) (c1 : Nat) (l1 : List Int) (a2 : Int) (w : World) (hr0_0 : Kd.C k52 w A0_0 l0_0.length l0_0) (hc0_0 : l0_0.length ≤ c0_0) (hr0_1 : Kd.C k65 w A0_1 l0_1.length l0_1) (hc0_1 : l0_1.length ≤ c0_1) (hr1 : Kd.C (Kd.int .u8) w A1 l1.length l1) (hc1 : l1.length ≤ c1) :
    Calls Try.prog 10 #[.agg #[.slice A0_0 l0_0.length c0_0, .slice A0_1 l0_1.length c0_1], .slice A1 l1.length c1, .int .i64 a2] w fun e w' => e = .returned (.bool true) ∧ Below w.heap.size w w' := by
  have hu25 := Try.underlying25
  have hu52 := Try.underlying52
  have hu65 := Try.underlying65
  have HR0 := Aside0.mk hr0_0
  have HR1 := Aside0.mk hr0_1
  have HR2 := Aside0.mk hr1
  have HC0 := Aside0.mk hc0_0
  have HC1 := Aside0.mk hc0_1
  have HC2 := Aside0.mk hc1
  clear hr0_0 hr0_1 hr1 hc0_0 hc0_1 hc1
  obtain ⟨gb, hg, hgb⟩ := great_is l0_0 l0_1 60 (by omega) 400 (by omega)
  have HG := Aside0.mk hg
  clear hg
  cases gb with
  | true =>
    clear hgb
    have TK1 := Aside0.mk (show 0 = 0 from rfl)
    go_enter Try.func10, Try.ntmps10
    go_wp2_with (first
      | (go_at_call 45; clear TK1; have TK2 := Aside0.mk (show 0 = 0 from rfl); refine (hAlive.calls true _ rfl).mono ?_; rintro e w1 ⟨rfl, hb_⟩; have HS1 := Aside0.mk hb_; clear hb_; have hcd0 : w1.cell? ⟨w.heap.size, 0, none⟩ = some (.slice A0_0 l0_0.length c0_0) := (blk_cell (blk_below (heap_alloc_new w (.cells #[.slice A0_0 l0_0.length c0_0, .slice A0_1 l0_1.length c0_1] 25)) (below_step (Below.refl _ _) HS1.out)) 0).trans rfl; have hcd1 : w1.cell? ⟨w.heap.size, 1, none⟩ = some (.slice A0_1 l0_1.length c0_1) := (blk_cell (blk_below (heap_alloc_new w (.cells #[.slice A0_0 l0_0.length c0_0, .slice A0_1 l0_1.length c0_1] 25)) (below_step (Below.refl _ _) HS1.out)) 1).trans rfl; have hld : w.heap.size < w1.heap.size := blk_lt (blk_below (heap_alloc_new w (.cells #[.slice A0_0 l0_0.length c0_0, .slice A0_1 l0_1.length c0_1] 25)) (below_step (Below.refl _ _) HS1.out)))
      | (go_at_call 30; clear TK2; have TK3 := Aside0.mk (show 0 = 0 from rfl); refine (catamaranref05_Great.calls 400 A0_0 c0_0 l0_0 A0_1 c0_1 l0_1 60 _ _ (Kd.C_below HR0.out (below_step (below_alloc (Below.refl _ _) (.cells #[.slice A0_0 l0_0.length c0_0, .slice A0_1 l0_1.length c0_1] 25)) HS1.out)) HC0.out (Kd.C_below HR1.out (below_step (below_alloc (Below.refl _ _) (.cells #[.slice A0_0 l0_0.length c0_0, .slice A0_1 l0_1.length c0_1] 25)) HS1.out)) HC1.out HG.out).mono ?_; rintro e w2 ⟨rfl, hb_⟩; have HS2 := Aside0.mk hb_; clear hcd0 hcd1 hld; clear hb_; have hcd0 : w2.cell? ⟨w.heap.size, 0, none⟩ = some (.slice A0_0 l0_0.length c0_0) := (blk_cell (blk_below (heap_alloc_new w (.cells #[.slice A0_0 l0_0.length c0_0, .slice A0_1 l0_1.length c0_1] 25)) (below_step (below_step (Below.refl _ _) HS1.out) HS2.out)) 0).trans rfl; have hcd1 : w2.cell? ⟨w.heap.size, 1, none⟩ = some (.slice A0_1 l0_1.length c0_1) := (blk_cell (blk_below (heap_alloc_new w (.cells #[.slice A0_0 l0_0.length c0_0, .slice A0_1 l0_1.length c0_1] 25)) (below_step (below_step (Below.refl _ _) HS1.out) HS2.out)) 1).trans rfl; have hld : w.heap.size < w2.heap.size := blk_lt (blk_below (heap_alloc_new w (.cells #[.slice A0_0 l0_0.length c0_0, .slice A0_1 l0_1.length c0_1] 25)) (below_step (below_step (Below.refl _ _) HS1.out) HS2.out))))
    go_ret
    exact ⟨rfl, (below_step (below_step (below_alloc (Below.refl _ _) (.cells #[.slice A0_0 l0_0.length c0_0, .slice A0_1 l0_1.length c0_1] 25)) HS1.out) HS2.out)⟩
  | false =>
  obtain ⟨n0, n1, n2, n3⟩ := hgb rfl
  have HN1 := Aside0.mk n1
  clear hgb n0 n1 n2 n3
  by_cases h200 : 200 < l1.length
  · have h200b : decide ((l1.length : Int) > 200) = true := decide_eq_true (by omega)
    clear h200
    have TK1 := Aside0.mk (show 0 = 0 from rfl)
    go_enter Try.func10, Try.ntmps10
    go_wp2_with (first
      | (go_at_call 45; clear TK1; have TK2 := Aside0.mk (show 0 = 0 from rfl); refine (hAlive.calls true _ rfl).mono ?_; rintro e w1 ⟨rfl, hb_⟩; have HS1 := Aside0.mk hb_; clear hb_; have hcd0 : w1.cell? ⟨w.heap.size, 0, none⟩ = some (.slice A0_0 l0_0.length c0_0) := (blk_cell (blk_below (heap_alloc_new w (.cells #[.slice A0_0 l0_0.length c0_0, .slice A0_1 l0_1.length c0_1] 25)) (below_step (Below.refl _ _) HS1.out)) 0).trans rfl; have hcd1 : w1.cell? ⟨w.heap.size, 1, none⟩ = some (.slice A0_1 l0_1.length c0_1) := (blk_cell (blk_below (heap_alloc_new w (.cells #[.slice A0_0 l0_0.length c0_0, .slice A0_1 l0_1.length c0_1] 25)) (below_step (Below.refl _ _) HS1.out)) 1).trans rfl; have hld : w.heap.size < w1.heap.size := blk_lt (blk_below (heap_alloc_new w (.cells #[.slice A0_0 l0_0.length c0_0, .slice A0_1 l0_1.length c0_1] 25)) (below_step (Below.refl _ _) HS1.out)))
      | (go_at_call 30; clear TK2; have TK3 := Aside0.mk (show 0 = 0 from rfl); refine (catamaranref05_Great.calls 400 A0_0 c0_0 l0_0 A0_1 c0_1 l0_1 60 _ _ (Kd.C_below HR0.out (below_step (below_alloc (Below.refl _ _) (.cells #[.slice A0_0 l0_0.length c0_0, .slice A0_1 l0_1.length c0_1] 25)) HS1.out)) HC0.out (Kd.C_below HR1.out (below_step (below_alloc (Below.refl _ _) (.cells #[.slice A0_0 l0_0.length c0_0, .slice A0_1 l0_1.length c0_1] 25)) HS1.out)) HC1.out HG.out).mono ?_; rintro e w2 ⟨rfl, hb_⟩; have HS2 := Aside0.mk hb_; clear hcd0 hcd1 hld; clear hb_; have hcd0 : w2.cell? ⟨w.heap.size, 0, none⟩ = some (.slice A0_0 l0_0.length c0_0) := (blk_cell (blk_below (heap_alloc_new w (.cells #[.slice A0_0 l0_0.length c0_0, .slice A0_1 l0_1.length c0_1] 25)) (below_step (below_step (Below.refl _ _) HS1.out) HS2.out)) 0).trans rfl; have hcd1 : w2.cell? ⟨w.heap.size, 1, none⟩ = some (.slice A0_1 l0_1.length c0_1) := (blk_cell (blk_below (heap_alloc_new w (.cells #[.slice A0_0 l0_0.length c0_0, .slice A0_1 l0_1.length c0_1] 25)) (below_step (below_step (Below.refl _ _) HS1.out) HS2.out)) 1).trans rfl; have hld : w.heap.size < w2.heap.size := blk_lt (blk_below (heap_alloc_new w (.cells #[.slice A0_0 l0_0.length c0_0, .slice A0_1 l0_1.length c0_1] 25)) (below_step (below_step (Below.refl _ _) HS1.out) HS2.out))))
    go_ret
    exact ⟨rfl, (below_step (below_step (below_alloc (Below.refl _ _) (.cells #[.slice A0_0 l0_0.length c0_0, .slice A0_1 l0_1.length c0_1] 25)) HS1.out) HS2.out)⟩
  have h200b : decide ((l1.length : Int) > 200) = false := decide_eq_false (by omega)
  clear h200
  cases hok : okDisk l0_0 l0_1 with
  | false =>
    have FX := Aside0.mk (show hCrash.f l0_0 l0_1 l1 = some ([], [], 8) by unfold hCrash.f; rw [dCrash_bad _ hok])
    have FY := Aside0.mk (show hFlush.f l0_0 l0_1 = some ([], [], 8) by unfold hFlush.f dFlush; rw [if_pos (by have := HN1.out; omega), dCrash_bad _ hok])
    have FZ := Aside0.mk (show hCrash.f [] [] l1 = some ([], [], 8) by unfold hCrash.f; rw [dCrash_bad _ (by rfl)])
    have FW := Aside0.mk (show hWaits.f l0_0 l0_1 a2 = some (false, 8) by unfold hWaits.f dWaits dAsked; rw [hok]; rfl)
    clear hok
    have TK1 := Aside0.mk (show 0 = 0 from rfl)
    go_enter Try.func10, Try.ntmps10
    go_wp2_with (first
      | (go_at_call 45; clear TK1; have TK2 := Aside0.mk (show 0 = 0 from rfl); refine (hAlive.calls true _ rfl).mono ?_; rintro e w1 ⟨rfl, hb_⟩; have HS1 := Aside0.mk hb_; clear hb_; have hcd0 : w1.cell? ⟨w.heap.size, 0, none⟩ = some (.slice A0_0 l0_0.length c0_0) := (blk_cell (blk_below (heap_alloc_new w (.cells #[.slice A0_0 l0_0.length c0_0, .slice A0_1 l0_1.length c0_1] 25)) (below_step (Below.refl _ _) HS1.out)) 0).trans rfl; have hcd1 : w1.cell? ⟨w.heap.size, 1, none⟩ = some (.slice A0_1 l0_1.length c0_1) := (blk_cell (blk_below (heap_alloc_new w (.cells #[.slice A0_0 l0_0.length c0_0, .slice A0_1 l0_1.length c0_1] 25)) (below_step (Below.refl _ _) HS1.out)) 1).trans rfl; have hld : w.heap.size < w1.heap.size := blk_lt (blk_below (heap_alloc_new w (.cells #[.slice A0_0 l0_0.length c0_0, .slice A0_1 l0_1.length c0_1] 25)) (below_step (Below.refl _ _) HS1.out)))
      | (go_at_call 30; clear TK2; have TK3 := Aside0.mk (show 0 = 0 from rfl); refine (catamaranref05_Great.calls 400 A0_0 c0_0 l0_0 A0_1 c0_1 l0_1 60 _ _ (Kd.C_below HR0.out (below_step (below_alloc (Below.refl _ _) (.cells #[.slice A0_0 l0_0.length c0_0, .slice A0_1 l0_1.length c0_1] 25)) HS1.out)) HC0.out (Kd.C_below HR1.out (below_step (below_alloc (Below.refl _ _) (.cells #[.slice A0_0 l0_0.length c0_0, .slice A0_1 l0_1.length c0_1] 25)) HS1.out)) HC1.out HG.out).mono ?_; rintro e w2 ⟨rfl, hb_⟩; have HS2 := Aside0.mk hb_; clear hcd0 hcd1 hld; clear hb_; have hcd0 : w2.cell? ⟨w.heap.size, 0, none⟩ = some (.slice A0_0 l0_0.length c0_0) := (blk_cell (blk_below (heap_alloc_new w (.cells #[.slice A0_0 l0_0.length c0_0, .slice A0_1 l0_1.length c0_1] 25)) (below_step (below_step (Below.refl _ _) HS1.out) HS2.out)) 0).trans rfl; have hcd1 : w2.cell? ⟨w.heap.size, 1, none⟩ = some (.slice A0_1 l0_1.length c0_1) := (blk_cell (blk_below (heap_alloc_new w (.cells #[.slice A0_0 l0_0.length c0_0, .slice A0_1 l0_1.length c0_1] 25)) (below_step (below_step (Below.refl _ _) HS1.out) HS2.out)) 1).trans rfl; have hld : w.heap.size < w2.heap.size := blk_lt (blk_below (heap_alloc_new w (.cells #[.slice A0_0 l0_0.length c0_0, .slice A0_1 l0_1.length c0_1] 25)) (below_step (below_step (Below.refl _ _) HS1.out) HS2.out)))
      | (go_at_call 49; clear TK3; have TK4 := Aside0.mk (show 0 = 0 from rfl); refine (hCrash.calls A0_0 c0_0 l0_0 A0_1 c0_1 l0_1 A1 c1 l1 ([] : List S52) [] 8 _ (Kd.C_below HR0.out (below_step (below_step (below_alloc (Below.refl _ _) (.cells #[.slice A0_0 l0_0.length c0_0, .slice A0_1 l0_1.length c0_1] 25)) HS1.out) HS2.out)) HC0.out (Kd.C_below HR1.out (below_step (below_step (below_alloc (Below.refl _ _) (.cells #[.slice A0_0 l0_0.length c0_0, .slice A0_1 l0_1.length c0_1] 25)) HS1.out) HS2.out)) HC1.out (Kd.C_below HR2.out (below_step (below_step (below_alloc (Below.refl _ _) (.cells #[.slice A0_0 l0_0.length c0_0, .slice A0_1 l0_1.length c0_1] 25)) HS1.out) HS2.out)) HC2.out FX.out).mono ?_; rintro e w3 ⟨v1, v2, rfl, ho1, ho2, hb_⟩; obtain ⟨Ax0, cx0, e_x0⟩ := Kd.S_slice ho1; subst e_x0; obtain ⟨Ax1, cx1, e_x1⟩ := Kd.S_slice ho2; subst e_x1; have HS3 := Aside0.mk hb_; have Hx0 := Aside0.mk ho1; have Hx1 := Aside0.mk ho2; clear hcd0 hcd1 hld; clear hb_ ho1 ho2; have hcd0 : w3.cell? ⟨w.heap.size, 0, none⟩ = some (.slice A0_0 l0_0.length c0_0) := (blk_cell (blk_below (heap_alloc_new w (.cells #[.slice A0_0 l0_0.length c0_0, .slice A0_1 l0_1.length c0_1] 25)) (below_step (below_step (below_step (Below.refl _ _) HS1.out) HS2.out) HS3.out)) 0).trans rfl; have hcd1 : w3.cell? ⟨w.heap.size, 1, none⟩ = some (.slice A0_1 l0_1.length c0_1) := (blk_cell (blk_below (heap_alloc_new w (.cells #[.slice A0_0 l0_0.length c0_0, .slice A0_1 l0_1.length c0_1] 25)) (below_step (below_step (below_step (Below.refl _ _) HS1.out) HS2.out) HS3.out)) 1).trans rfl; have hld : w.heap.size < w3.heap.size := blk_lt (blk_below (heap_alloc_new w (.cells #[.slice A0_0 l0_0.length c0_0, .slice A0_1 l0_1.length c0_1] 25)) (below_step (below_step (below_step (Below.refl _ _) HS1.out) HS2.out) HS3.out)))
      | (go_at_call 47; clear TK4; have TK5 := Aside0.mk (show 0 = 0 from rfl); refine (hFlush.calls A0_0 c0_0 l0_0 A0_1 c0_1 l0_1 ([] : List S52) [] 8 _ (Kd.C_below HR0.out (below_alloc (below_step (below_step (below_step (below_alloc (Below.refl _ _) (.cells #[.slice A0_0 l0_0.length c0_0, .slice A0_1 l0_1.length c0_1] 25)) HS1.out) HS2.out) HS3.out) (.cells #[.slice Ax0 ([] : List S52).length cx0, .slice Ax1 ([] : List S65).length cx1] 25))) HC0.out (Kd.C_below HR1.out (below_alloc (below_step (below_step (below_step (below_alloc (Below.refl _ _) (.cells #[.slice A0_0 l0_0.length c0_0, .slice A0_1 l0_1.length c0_1] 25)) HS1.out) HS2.out) HS3.out) (.cells #[.slice Ax0 ([] : List S52).length cx0, .slice Ax1 ([] : List S65).length cx1] 25))) HC1.out FY.out).mono ?_; rintro e w4 ⟨v1, v2, rfl, ho1, ho2, hb_⟩; obtain ⟨Ay0, cy0, e_y0⟩ := Kd.S_slice ho1; subst e_y0; obtain ⟨Ay1, cy1, e_y1⟩ := Kd.S_slice ho2; subst e_y1; have HS4 := Aside0.mk hb_; have Hy0 := Aside0.mk ho1; have Hy1 := Aside0.mk ho2; clear hcd0 hcd1 hld; clear hb_ ho1 ho2; have hcd0 : w4.cell? ⟨w.heap.size, 0, none⟩ = some (.slice A0_0 l0_0.length c0_0) := (blk_cell (blk_below (heap_alloc_new w (.cells #[.slice A0_0 l0_0.length c0_0, .slice A0_1 l0_1.length c0_1] 25)) (below_step (below_alloc (below_step (below_step (below_step (Below.refl _ _) HS1.out) HS2.out) HS3.out) (.cells #[.slice Ax0 ([] : List S52).length cx0, .slice Ax1 ([] : List S65).length cx1] 25)) HS4.out)) 0).trans rfl; have hcd1 : w4.cell? ⟨w.heap.size, 1, none⟩ = some (.slice A0_1 l0_1.length c0_1) := (blk_cell (blk_below (heap_alloc_new w (.cells #[.slice A0_0 l0_0.length c0_0, .slice A0_1 l0_1.length c0_1] 25)) (below_step (below_alloc (below_step (below_step (below_step (Below.refl _ _) HS1.out) HS2.out) HS3.out) (.cells #[.slice Ax0 ([] : List S52).length cx0, .slice Ax1 ([] : List S65).length cx1] 25)) HS4.out)) 1).trans rfl; have hld : w.heap.size < w4.heap.size := blk_lt (blk_below (heap_alloc_new w (.cells #[.slice A0_0 l0_0.length c0_0, .slice A0_1 l0_1.length c0_1] 25)) (below_step (below_alloc (below_step (below_step (below_step (Below.refl _ _) HS1.out) HS2.out) HS3.out) (.cells #[.slice Ax0 ([] : List S52).length cx0, .slice Ax1 ([] : List S65).length cx1] 25)) HS4.out)); have hcx0 : w4.cell? ⟨w3.heap.size, 0, none⟩ = some (.slice Ax0 ([] : List S52).length cx0) := (blk_cell (blk_below (heap_alloc_new w3 (.cells #[.slice Ax0 ([] : List S52).length cx0, .slice Ax1 ([] : List S65).length cx1] 25)) (below_step (Below.refl _ _) HS4.out)) 0).trans rfl; have hcx1 : w4.cell? ⟨w3.heap.size, 1, none⟩ = some (.slice Ax1 ([] : List S65).length cx1) := (blk_cell (blk_below (heap_alloc_new w3 (.cells #[.slice Ax0 ([] : List S52).length cx0, .slice Ax1 ([] : List S65).length cx1] 25)) (below_step (Below.refl _ _) HS4.out)) 1).trans rfl; have hlx : w3.heap.size < w4.heap.size := blk_lt (blk_below (heap_alloc_new w3 (.cells #[.slice Ax0 ([] : List S52).length cx0, .slice Ax1 ([] : List S65).length cx1] 25)) (below_step (Below.refl _ _) HS4.out)))
      | (go_at_call 49; clear TK5; have TK6 := Aside0.mk (show 0 = 0 from rfl); refine (hCrash.calls Ay0 cy0 ([] : List S52) Ay1 cy1 ([] : List S65) A1 c1 l1 ([] : List S52) [] 8 _ (Kd.S_reads' (Kd.S_below Hy0.out (below_alloc (Below.refl _ _) (.cells #[.slice Ay0 ([] : List S52).length cy0, .slice Ay1 ([] : List S65).length cy1] 25)))).2.2 (Kd.S_reads' (Kd.S_below Hy0.out (below_alloc (Below.refl _ _) (.cells #[.slice Ay0 ([] : List S52).length cy0, .slice Ay1 ([] : List S65).length cy1] 25)))).2.1 (Kd.S_reads' (Kd.S_below Hy1.out (below_alloc (Below.refl _ _) (.cells #[.slice Ay0 ([] : List S52).length cy0, .slice Ay1 ([] : List S65).length cy1] 25)))).2.2 (Kd.S_reads' (Kd.S_below Hy1.out (below_alloc (Below.refl _ _) (.cells #[.slice Ay0 ([] : List S52).length cy0, .slice Ay1 ([] : List S65).length cy1] 25)))).2.1 (Kd.C_below HR2.out (below_alloc (below_step (below_alloc (below_step (below_step (below_step (below_alloc (Below.refl _ _) (.cells #[.slice A0_0 l0_0.length c0_0, .slice A0_1 l0_1.length c0_1] 25)) HS1.out) HS2.out) HS3.out) (.cells #[.slice Ax0 ([] : List S52).length cx0, .slice Ax1 ([] : List S65).length cx1] 25)) HS4.out) (.cells #[.slice Ay0 ([] : List S52).length cy0, .slice Ay1 ([] : List S65).length cy1] 25))) HC2.out FZ.out).mono ?_; rintro e w5 ⟨v1, v2, rfl, ho1, ho2, hb_⟩; obtain ⟨Az0, cz0, e_z0⟩ := Kd.S_slice ho1; subst e_z0; obtain ⟨Az1, cz1, e_z1⟩ := Kd.S_slice ho2; subst e_z1; have HS5 := Aside0.mk hb_; have Hz0 := Aside0.mk ho1; have Hz1 := Aside0.mk ho2; clear hcd0 hcd1 hcx0 hcx1 hld hlx; clear hb_ ho1 ho2; have hcd0 : w5.cell? ⟨w.heap.size, 0, none⟩ = some (.slice A0_0 l0_0.length c0_0) := (blk_cell (blk_below (heap_alloc_new w (.cells #[.slice A0_0 l0_0.length c0_0, .slice A0_1 l0_1.length c0_1] 25)) (below_step (below_alloc (below_step (below_alloc (below_step (below_step (below_step (Below.refl _ _) HS1.out) HS2.out) HS3.out) (.cells #[.slice Ax0 ([] : List S52).length cx0, .slice Ax1 ([] : List S65).length cx1] 25)) HS4.out) (.cells #[.slice Ay0 ([] : List S52).length cy0, .slice Ay1 ([] : List S65).length cy1] 25)) HS5.out)) 0).trans rfl; have hcd1 : w5.cell? ⟨w.heap.size, 1, none⟩ = some (.slice A0_1 l0_1.length c0_1) := (blk_cell (blk_below (heap_alloc_new w (.cells #[.slice A0_0 l0_0.length c0_0, .slice A0_1 l0_1.length c0_1] 25)) (below_step (below_alloc (below_step (below_alloc (below_step (below_step (below_step (Below.refl _ _) HS1.out) HS2.out) HS3.out) (.cells #[.slice Ax0 ([] : List S52).length cx0, .slice Ax1 ([] : List S65).length cx1] 25)) HS4.out) (.cells #[.slice Ay0 ([] : List S52).length cy0, .slice Ay1 ([] : List S65).length cy1] 25)) HS5.out)) 1).trans rfl; have hld : w.heap.size < w5.heap.size := blk_lt (blk_below (heap_alloc_new w (.cells #[.slice A0_0 l0_0.length c0_0, .slice A0_1 l0_1.length c0_1] 25)) (below_step (below_alloc (below_step (below_alloc (below_step (below_step (below_step (Below.refl _ _) HS1.out) HS2.out) HS3.out) (.cells #[.slice Ax0 ([] : List S52).length cx0, .slice Ax1 ([] : List S65).length cx1] 25)) HS4.out) (.cells #[.slice Ay0 ([] : List S52).length cy0, .slice Ay1 ([] : List S65).length cy1] 25)) HS5.out)); have hcx0 : w5.cell? ⟨w3.heap.size, 0, none⟩ = some (.slice Ax0 ([] : List S52).length cx0) := (blk_cell (blk_below (heap_alloc_new w3 (.cells #[.slice Ax0 ([] : List S52).length cx0, .slice Ax1 ([] : List S65).length cx1] 25)) (below_step (below_alloc (below_step (Below.refl _ _) HS4.out) (.cells #[.slice Ay0 ([] : List S52).length cy0, .slice Ay1 ([] : List S65).length cy1] 25)) HS5.out)) 0).trans rfl; have hcx1 : w5.cell? ⟨w3.heap.size, 1, none⟩ = some (.slice Ax1 ([] : List S65).length cx1) := (blk_cell (blk_below (heap_alloc_new w3 (.cells #[.slice Ax0 ([] : List S52).length cx0, .slice Ax1 ([] : List S65).length cx1] 25)) (below_step (below_alloc (below_step (Below.refl _ _) HS4.out) (.cells #[.slice Ay0 ([] : List S52).length cy0, .slice Ay1 ([] : List S65).length cy1] 25)) HS5.out)) 1).trans rfl; have hlx : w3.heap.size < w5.heap.size := blk_lt (blk_below (heap_alloc_new w3 (.cells #[.slice Ax0 ([] : List S52).length cx0, .slice Ax1 ([] : List S65).length cx1] 25)) (below_step (below_alloc (below_step (Below.refl _ _) HS4.out) (.cells #[.slice Ay0 ([] : List S52).length cy0, .slice Ay1 ([] : List S65).length cy1] 25)) HS5.out)); have hcy0 : w5.cell? ⟨w4.heap.size, 0, none⟩ = some (.slice Ay0 ([] : List S52).length cy0) := (blk_cell (blk_below (heap_alloc_new w4 (.cells #[.slice Ay0 ([] : List S52).length cy0, .slice Ay1 ([] : List S65).length cy1] 25)) (below_step (Below.refl _ _) HS5.out)) 0).trans rfl; have hcy1 : w5.cell? ⟨w4.heap.size, 1, none⟩ = some (.slice Ay1 ([] : List S65).length cy1) := (blk_cell (blk_below (heap_alloc_new w4 (.cells #[.slice Ay0 ([] : List S52).length cy0, .slice Ay1 ([] : List S65).length cy1] 25)) (below_step (Below.refl _ _) HS5.out)) 1).trans rfl; have hly : w4.heap.size < w5.heap.size := blk_lt (blk_below (heap_alloc_new w4 (.cells #[.slice Ay0 ([] : List S52).length cy0, .slice Ay1 ([] : List S65).length cy1] 25)) (below_step (Below.refl _ _) HS5.out)))
      | (go_at_call 36; clear TK6; have TK7 := Aside0.mk (show 0 = 0 from rfl); refine (hWaits.calls A0_0 c0_0 l0_0 A0_1 c0_1 l0_1 a2 false 8 _ (Kd.C_below HR0.out (below_alloc (below_step (below_alloc (below_step (below_alloc (below_step (below_step (below_step (below_alloc (Below.refl _ _) (.cells #[.slice A0_0 l0_0.length c0_0, .slice A0_1 l0_1.length c0_1] 25)) HS1.out) HS2.out) HS3.out) (.cells #[.slice Ax0 ([] : List S52).length cx0, .slice Ax1 ([] : List S65).length cx1] 25)) HS4.out) (.cells #[.slice Ay0 ([] : List S52).length cy0, .slice Ay1 ([] : List S65).length cy1] 25)) HS5.out) (.cells #[.slice Az0 ([] : List S52).length cz0, .slice Az1 ([] : List S65).length cz1] 25))) HC0.out (Kd.C_below HR1.out (below_alloc (below_step (below_alloc (below_step (below_alloc (below_step (below_step (below_step (below_alloc (Below.refl _ _) (.cells #[.slice A0_0 l0_0.length c0_0, .slice A0_1 l0_1.length c0_1] 25)) HS1.out) HS2.out) HS3.out) (.cells #[.slice Ax0 ([] : List S52).length cx0, .slice Ax1 ([] : List S65).length cx1] 25)) HS4.out) (.cells #[.slice Ay0 ([] : List S52).length cy0, .slice Ay1 ([] : List S65).length cy1] 25)) HS5.out) (.cells #[.slice Az0 ([] : List S52).length cz0, .slice Az1 ([] : List S65).length cz1] 25))) HC1.out FW.out).mono ?_; rintro e w6 ⟨rfl, hb_⟩; have HS6 := Aside0.mk hb_; clear hcd0 hcd1 hcx0 hcx1 hcy0 hcy1 hld hlx hly; clear hb_; have hcd0 : w6.cell? ⟨w.heap.size, 0, none⟩ = some (.slice A0_0 l0_0.length c0_0) := (blk_cell (blk_below (heap_alloc_new w (.cells #[.slice A0_0 l0_0.length c0_0, .slice A0_1 l0_1.length c0_1] 25)) (below_step (below_alloc (below_step (below_alloc (below_step (below_alloc (below_step (below_step (below_step (Below.refl _ _) HS1.out) HS2.out) HS3.out) (.cells #[.slice Ax0 ([] : List S52).length cx0, .slice Ax1 ([] : List S65).length cx1] 25)) HS4.out) (.cells #[.slice Ay0 ([] : List S52).length cy0, .slice Ay1 ([] : List S65).length cy1] 25)) HS5.out) (.cells #[.slice Az0 ([] : List S52).length cz0, .slice Az1 ([] : List S65).length cz1] 25)) HS6.out)) 0).trans rfl; have hcd1 : w6.cell? ⟨w.heap.size, 1, none⟩ = some (.slice A0_1 l0_1.length c0_1) := (blk_cell (blk_below (heap_alloc_new w (.cells #[.slice A0_0 l0_0.length c0_0, .slice A0_1 l0_1.length c0_1] 25)) (below_step (below_alloc (below_step (below_alloc (below_step (below_alloc (below_step (below_step (below_step (Below.refl _ _) HS1.out) HS2.out) HS3.out) (.cells #[.slice Ax0 ([] : List S52).length cx0, .slice Ax1 ([] : List S65).length cx1] 25)) HS4.out) (.cells #[.slice Ay0 ([] : List S52).length cy0, .slice Ay1 ([] : List S65).length cy1] 25)) HS5.out) (.cells #[.slice Az0 ([] : List S52).length cz0, .slice Az1 ([] : List S65).length cz1] 25)) HS6.out)) 1).trans rfl; have hld : w.heap.size < w6.heap.size := blk_lt (blk_below (heap_alloc_new w (.cells #[.slice A0_0 l0_0.length c0_0, .slice A0_1 l0_1.length c0_1] 25)) (below_step (below_alloc (below_step (below_alloc (below_step (below_alloc (below_step (below_step (below_step (Below.refl _ _) HS1.out) HS2.out) HS3.out) (.cells #[.slice Ax0 ([] : List S52).length cx0, .slice Ax1 ([] : List S65).length cx1] 25)) HS4.out) (.cells #[.slice Ay0 ([] : List S52).length cy0, .slice Ay1 ([] : List S65).length cy1] 25)) HS5.out) (.cells #[.slice Az0 ([] : List S52).length cz0, .slice Az1 ([] : List S65).length cz1] 25)) HS6.out)); have hcx0 : w6.cell? ⟨w3.heap.size, 0, none⟩ = some (.slice Ax0 ([] : List S52).length cx0) := (blk_cell (blk_below (heap_alloc_new w3 (.cells #[.slice Ax0 ([] : List S52).length cx0, .slice Ax1 ([] : List S65).length cx1] 25)) (below_step (below_alloc (below_step (below_alloc (below_step (Below.refl _ _) HS4.out) (.cells #[.slice Ay0 ([] : List S52).length cy0, .slice Ay1 ([] : List S65).length cy1] 25)) HS5.out) (.cells #[.slice Az0 ([] : List S52).length cz0, .slice Az1 ([] : List S65).length cz1] 25)) HS6.out)) 0).trans rfl; have hcx1 : w6.cell? ⟨w3.heap.size, 1, none⟩ = some (.slice Ax1 ([] : List S65).length cx1) := (blk_cell (blk_below (heap_alloc_new w3 (.cells #[.slice Ax0 ([] : List S52).length cx0, .slice Ax1 ([] : List S65).length cx1] 25)) (below_step (below_alloc (below_step (below_alloc (below_step (Below.refl _ _) HS4.out) (.cells #[.slice Ay0 ([] : List S52).length cy0, .slice Ay1 ([] : List S65).length cy1] 25)) HS5.out) (.cells #[.slice Az0 ([] : List S52).length cz0, .slice Az1 ([] : List S65).length cz1] 25)) HS6.out)) 1).trans rfl; have hlx : w3.heap.size < w6.heap.size := blk_lt (blk_below (heap_alloc_new w3 (.cells #[.slice Ax0 ([] : List S52).length cx0, .slice Ax1 ([] : List S65).length cx1] 25)) (below_step (below_alloc (below_step (below_alloc (below_step (Below.refl _ _) HS4.out) (.cells #[.slice Ay0 ([] : List S52).length cy0, .slice Ay1 ([] : List S65).length cy1] 25)) HS5.out) (.cells #[.slice Az0 ([] : List S52).length cz0, .slice Az1 ([] : List S65).length cz1] 25)) HS6.out)); have hcy0 : w6.cell? ⟨w4.heap.size, 0, none⟩ = some (.slice Ay0 ([] : List S52).length cy0) := (blk_cell (blk_below (heap_alloc_new w4 (.cells #[.slice Ay0 ([] : List S52).length cy0, .slice Ay1 ([] : List S65).length cy1] 25)) (below_step (below_alloc (below_step (Below.refl _ _) HS5.out) (.cells #[.slice Az0 ([] : List S52).length cz0, .slice Az1 ([] : List S65).length cz1] 25)) HS6.out)) 0).trans rfl; have hcy1 : w6.cell? ⟨w4.heap.size, 1, none⟩ = some (.slice Ay1 ([] : List S65).length cy1) := (blk_cell (blk_below (heap_alloc_new w4 (.cells #[.slice Ay0 ([] : List S52).length cy0, .slice Ay1 ([] : List S65).length cy1] 25)) (below_step (below_alloc (below_step (Below.refl _ _) HS5.out) (.cells #[.slice Az0 ([] : List S52).length cz0, .slice Az1 ([] : List S65).length cz1] 25)) HS6.out)) 1).trans rfl; have hly : w4.heap.size < w6.heap.size := blk_lt (blk_below (heap_alloc_new w4 (.cells #[.slice Ay0 ([] : List S52).length cy0, .slice Ay1 ([] : List S65).length cy1] 25)) (below_step (below_alloc (below_step (Below.refl _ _) HS5.out) (.cells #[.slice Az0 ([] : List S52).length cz0, .slice Az1 ([] : List S65).length cz1] 25)) HS6.out)); have hcz0 : w6.cell? ⟨w5.heap.size, 0, none⟩ = some (.slice Az0 ([] : List S52).length cz0) := (blk_cell (blk_below (heap_alloc_new w5 (.cells #[.slice Az0 ([] : List S52).length cz0, .slice Az1 ([] : List S65).length cz1] 25)) (below_step (Below.refl _ _) HS6.out)) 0).trans rfl; have hcz1 : w6.cell? ⟨w5.heap.size, 1, none⟩ = some (.slice Az1 ([] : List S65).length cz1) := (blk_cell (blk_below (heap_alloc_new w5 (.cells #[.slice Az0 ([] : List S52).length cz0, .slice Az1 ([] : List S65).length cz1] 25)) (below_step (Below.refl _ _) HS6.out)) 1).trans rfl; have hlz : w5.heap.size < w6.heap.size := blk_lt (blk_below (heap_alloc_new w5 (.cells #[.slice Az0 ([] : List S52).length cz0, .slice Az1 ([] : List S65).length cz1] 25)) (below_step (Below.refl _ _) HS6.out))))
    go_ret
    exact ⟨rfl, (below_step (below_alloc (below_step (below_alloc (below_step (below_alloc (below_step (below_step (below_step (below_alloc (Below.refl _ _) (.cells #[.slice A0_0 l0_0.length c0_0, .slice A0_1 l0_1.length c0_1] 25)) HS1.out) HS2.out) HS3.out) (.cells #[.slice Ax0 ([] : List S52).length cx0, .slice Ax1 ([] : List S65).length cx1] 25)) HS4.out) (.cells #[.slice Ay0 ([] : List S52).length cy0, .slice Ay1 ([] : List S65).length cy1] 25)) HS5.out) (.cells #[.slice Az0 ([] : List S52).length cz0, .slice Az1 ([] : List S65).length cz1] 25)) HS6.out)⟩
  | true =>
  obtain ⟨L, hL⟩ : ∃ L, dBehind l0_0 l0_1 l1 = L := ⟨_, rfl⟩
  obtain ⟨Y, hY⟩ : ∃ L, dBehind l0_0 l0_1 (List.replicate l0_1.length 1) = L := ⟨_, rfl⟩
  have HLEN := Aside0.mk (show L.length = l0_0.length by rw [← hL]; exact dBehind_length ..)
  have FX := Aside0.mk (show hCrash.f l0_0 l0_1 l1 = some (L, [], 0) by unfold hCrash.f; rw [dCrash_of _ hok, hL])
  have FY := Aside0.mk (show hFlush.f l0_0 l0_1 = some (Y, [], 0) by unfold hFlush.f dFlush; rw [if_pos (by have := HN1.out; omega), dCrash_of _ hok, hY])
  have FZ := Aside0.mk (show hCrash.f Y [] l1 = some (Y, [], 0) by unfold hCrash.f; rw [dCrash_of _ (by rw [← hY]; exact dBehind_ok _ hok), dBehind_nil])
  have FK := Aside0.mk (show hCheck.f L [] = some 0 by unfold hCheck.f; rw [← hL, dBehind_ok _ hok]; rfl)
  obtain ⟨⟨wb, we⟩, hw⟩ : ∃ p, dWaits l0_0 l0_1 a2 = p := ⟨_, rfl⟩
  have FW := Aside0.mk (show hWaits.f l0_0 l0_1 a2 = some (wb, we) by unfold hWaits.f; rw [hw])
  have HOK := Aside0.mk hok
  by_cases hwe : we = 0
  rotate_left
  · have hb1 : (we != 0) = true := bne_iff_ne.2 hwe
    have hb2 : (we == 0) = false := beq_eq_false_iff_ne.2 hwe
    clear hok hL hY hw hwe
    have TK1 := Aside0.mk (show 0 = 0 from rfl)
    go_enter Try.func10, Try.ntmps10
    go_wp2_with (first
      | (go_at_call 45; clear TK1; have TK2 := Aside0.mk (show 0 = 0 from rfl); refine (hAlive.calls true _ rfl).mono ?_; rintro e w1 ⟨rfl, hb_⟩; have HS1 := Aside0.mk hb_; clear hb_; have hcd0 : w1.cell? ⟨w.heap.size, 0, none⟩ = some (.slice A0_0 l0_0.length c0_0) := (blk_cell (blk_below (heap_alloc_new w (.cells #[.slice A0_0 l0_0.length c0_0, .slice A0_1 l0_1.length c0_1] 25)) (below_step (Below.refl _ _) HS1.out)) 0).trans rfl; have hcd1 : w1.cell? ⟨w.heap.size, 1, none⟩ = some (.slice A0_1 l0_1.length c0_1) := (blk_cell (blk_below (heap_alloc_new w (.cells #[.slice A0_0 l0_0.length c0_0, .slice A0_1 l0_1.length c0_1] 25)) (below_step (Below.refl _ _) HS1.out)) 1).trans rfl; have hld : w.heap.size < w1.heap.size := blk_lt (blk_below (heap_alloc_new w (.cells #[.slice A0_0 l0_0.length c0_0, .slice A0_1 l0_1.length c0_1] 25)) (below_step (Below.refl _ _) HS1.out)))
      | (go_at_call 30; clear TK2; have TK3 := Aside0.mk (show 0 = 0 from rfl); refine (catamaranref05_Great.calls 400 A0_0 c0_0 l0_0 A0_1 c0_1 l0_1 60 _ _ (Kd.C_below HR0.out (below_step (below_alloc (Below.refl _ _) (.cells #[.slice A0_0 l0_0.length c0_0, .slice A0_1 l0_1.length c0_1] 25)) HS1.out)) HC0.out (Kd.C_below HR1.out (below_step (below_alloc (Below.refl _ _) (.cells #[.slice A0_0 l0_0.length c0_0, .slice A0_1 l0_1.length c0_1] 25)) HS1.out)) HC1.out HG.out).mono ?_; rintro e w2 ⟨rfl, hb_⟩; have HS2 := Aside0.mk hb_; clear hcd0 hcd1 hld; clear hb_; have hcd0 : w2.cell? ⟨w.heap.size, 0, none⟩ = some (.slice A0_0 l0_0.length c0_0) := (blk_cell (blk_below (heap_alloc_new w (.cells #[.slice A0_0 l0_0.length c0_0, .slice A0_1 l0_1.length c0_1] 25)) (below_step (below_step (Below.refl _ _) HS1.out) HS2.out)) 0).trans rfl; have hcd1 : w2.cell? ⟨w.heap.size, 1, none⟩ = some (.slice A0_1 l0_1.length c0_1) := (blk_cell (blk_below (heap_alloc_new w (.cells #[.slice A0_0 l0_0.length c0_0, .slice A0_1 l0_1.length c0_1] 25)) (below_step (below_step (Below.refl _ _) HS1.out) HS2.out)) 1).trans rfl; have hld : w.heap.size < w2.heap.size := blk_lt (blk_below (heap_alloc_new w (.cells #[.slice A0_0 l0_0.length c0_0, .slice A0_1 l0_1.length c0_1] 25)) (below_step (below_step (Below.refl _ _) HS1.out) HS2.out)))
      | (go_at_call 49; clear TK3; have TK4 := Aside0.mk (show 0 = 0 from rfl); refine (hCrash.calls A0_0 c0_0 l0_0 A0_1 c0_1 l0_1 A1 c1 l1 L [] 0 _ (Kd.C_below HR0.out (below_step (below_step (below_alloc (Below.refl _ _) (.cells #[.slice A0_0 l0_0.length c0_0, .slice A0_1 l0_1.length c0_1] 25)) HS1.out) HS2.out)) HC0.out (Kd.C_below HR1.out (below_step (below_step (below_alloc (Below.refl _ _) (.cells #[.slice A0_0 l0_0.length c0_0, .slice A0_1 l0_1.length c0_1] 25)) HS1.out) HS2.out)) HC1.out (Kd.C_below HR2.out (below_step (below_step (below_alloc (Below.refl _ _) (.cells #[.slice A0_0 l0_0.length c0_0, .slice A0_1 l0_1.length c0_1] 25)) HS1.out) HS2.out)) HC2.out FX.out).mono ?_; rintro e w3 ⟨v1, v2, rfl, ho1, ho2, hb_⟩; obtain ⟨Ax0, cx0, e_x0⟩ := Kd.S_slice ho1; subst e_x0; obtain ⟨Ax1, cx1, e_x1⟩ := Kd.S_slice ho2; subst e_x1; have HS3 := Aside0.mk hb_; have Hx0 := Aside0.mk ho1; have Hx1 := Aside0.mk ho2; clear hcd0 hcd1 hld; clear hb_ ho1 ho2; have hcd0 : w3.cell? ⟨w.heap.size, 0, none⟩ = some (.slice A0_0 l0_0.length c0_0) := (blk_cell (blk_below (heap_alloc_new w (.cells #[.slice A0_0 l0_0.length c0_0, .slice A0_1 l0_1.length c0_1] 25)) (below_step (below_step (below_step (Below.refl _ _) HS1.out) HS2.out) HS3.out)) 0).trans rfl; have hcd1 : w3.cell? ⟨w.heap.size, 1, none⟩ = some (.slice A0_1 l0_1.length c0_1) := (blk_cell (blk_below (heap_alloc_new w (.cells #[.slice A0_0 l0_0.length c0_0, .slice A0_1 l0_1.length c0_1] 25)) (below_step (below_step (below_step (Below.refl _ _) HS1.out) HS2.out) HS3.out)) 1).trans rfl; have hld : w.heap.size < w3.heap.size := blk_lt (blk_below (heap_alloc_new w (.cells #[.slice A0_0 l0_0.length c0_0, .slice A0_1 l0_1.length c0_1] 25)) (below_step (below_step (below_step (Below.refl _ _) HS1.out) HS2.out) HS3.out)))
      | (go_at_call 47; clear TK4; have TK5 := Aside0.mk (show 0 = 0 from rfl); refine (hFlush.calls A0_0 c0_0 l0_0 A0_1 c0_1 l0_1 Y [] 0 _ (Kd.C_below HR0.out (below_alloc (below_step (below_step (below_step (below_alloc (Below.refl _ _) (.cells #[.slice A0_0 l0_0.length c0_0, .slice A0_1 l0_1.length c0_1] 25)) HS1.out) HS2.out) HS3.out) (.cells #[.slice Ax0 L.length cx0, .slice Ax1 ([] : List S65).length cx1] 25))) HC0.out (Kd.C_below HR1.out (below_alloc (below_step (below_step (below_step (below_alloc (Below.refl _ _) (.cells #[.slice A0_0 l0_0.length c0_0, .slice A0_1 l0_1.length c0_1] 25)) HS1.out) HS2.out) HS3.out) (.cells #[.slice Ax0 L.length cx0, .slice Ax1 ([] : List S65).length cx1] 25))) HC1.out FY.out).mono ?_; rintro e w4 ⟨v1, v2, rfl, ho1, ho2, hb_⟩; obtain ⟨Ay0, cy0, e_y0⟩ := Kd.S_slice ho1; subst e_y0; obtain ⟨Ay1, cy1, e_y1⟩ := Kd.S_slice ho2; subst e_y1; have HS4 := Aside0.mk hb_; have Hy0 := Aside0.mk ho1; have Hy1 := Aside0.mk ho2; clear hcd0 hcd1 hld; clear hb_ ho1 ho2; have hcd0 : w4.cell? ⟨w.heap.size, 0, none⟩ = some (.slice A0_0 l0_0.length c0_0) := (blk_cell (blk_below (heap_alloc_new w (.cells #[.slice A0_0 l0_0.length c0_0, .slice A0_1 l0_1.length c0_1] 25)) (below_step (below_alloc (below_step (below_step (below_step (Below.refl _ _) HS1.out) HS2.out) HS3.out) (.cells #[.slice Ax0 L.length cx0, .slice Ax1 ([] : List S65).length cx1] 25)) HS4.out)) 0).trans rfl; have hcd1 : w4.cell? ⟨w.heap.size, 1, none⟩ = some (.slice A0_1 l0_1.length c0_1) := (blk_cell (blk_below (heap_alloc_new w (.cells #[.slice A0_0 l0_0.length c0_0, .slice A0_1 l0_1.length c0_1] 25)) (below_step (below_alloc (below_step (below_step (below_step (Below.refl _ _) HS1.out) HS2.out) HS3.out) (.cells #[.slice Ax0 L.length cx0, .slice Ax1 ([] : List S65).length cx1] 25)) HS4.out)) 1).trans rfl; have hld : w.heap.size < w4.heap.size := blk_lt (blk_below (heap_alloc_new w (.cells #[.slice A0_0 l0_0.length c0_0, .slice A0_1 l0_1.length c0_1] 25)) (below_step (below_alloc (below_step (below_step (below_step (Below.refl _ _) HS1.out) HS2.out) HS3.out) (.cells #[.slice Ax0 L.length cx0, .slice Ax1 ([] : List S65).length cx1] 25)) HS4.out)); have hcx0 : w4.cell? ⟨w3.heap.size, 0, none⟩ = some (.slice Ax0 L.length cx0) := (blk_cell (blk_below (heap_alloc_new w3 (.cells #[.slice Ax0 L.length cx0, .slice Ax1 ([] : List S65).length cx1] 25)) (below_step (Below.refl _ _) HS4.out)) 0).trans rfl; have hcx1 : w4.cell? ⟨w3.heap.size, 1, none⟩ = some (.slice Ax1 ([] : List S65).length cx1) := (blk_cell (blk_below (heap_alloc_new w3 (.cells #[.slice Ax0 L.length cx0, .slice Ax1 ([] : List S65).length cx1] 25)) (below_step (Below.refl _ _) HS4.out)) 1).trans rfl; have hlx : w3.heap.size < w4.heap.size := blk_lt (blk_below (heap_alloc_new w3 (.cells #[.slice Ax0 L.length cx0, .slice Ax1 ([] : List S65).length cx1] 25)) (below_step (Below.refl _ _) HS4.out)))
      | (go_at_call 49; clear TK5; have TK6 := Aside0.mk (show 0 = 0 from rfl); refine (hCrash.calls Ay0 cy0 Y Ay1 cy1 ([] : List S65) A1 c1 l1 Y [] 0 _ (Kd.S_reads' (Kd.S_below Hy0.out (below_alloc (Below.refl _ _) (.cells #[.slice Ay0 Y.length cy0, .slice Ay1 ([] : List S65).length cy1] 25)))).2.2 (Kd.S_reads' (Kd.S_below Hy0.out (below_alloc (Below.refl _ _) (.cells #[.slice Ay0 Y.length cy0, .slice Ay1 ([] : List S65).length cy1] 25)))).2.1 (Kd.S_reads' (Kd.S_below Hy1.out (below_alloc (Below.refl _ _) (.cells #[.slice Ay0 Y.length cy0, .slice Ay1 ([] : List S65).length cy1] 25)))).2.2 (Kd.S_reads' (Kd.S_below Hy1.out (below_alloc (Below.refl _ _) (.cells #[.slice Ay0 Y.length cy0, .slice Ay1 ([] : List S65).length cy1] 25)))).2.1 (Kd.C_below HR2.out (below_alloc (below_step (below_alloc (below_step (below_step (below_step (below_alloc (Below.refl _ _) (.cells #[.slice A0_0 l0_0.length c0_0, .slice A0_1 l0_1.length c0_1] 25)) HS1.out) HS2.out) HS3.out) (.cells #[.slice Ax0 L.length cx0, .slice Ax1 ([] : List S65).length cx1] 25)) HS4.out) (.cells #[.slice Ay0 Y.length cy0, .slice Ay1 ([] : List S65).length cy1] 25))) HC2.out FZ.out).mono ?_; rintro e w5 ⟨v1, v2, rfl, ho1, ho2, hb_⟩; obtain ⟨Az0, cz0, e_z0⟩ := Kd.S_slice ho1; subst e_z0; obtain ⟨Az1, cz1, e_z1⟩ := Kd.S_slice ho2; subst e_z1; have HS5 := Aside0.mk hb_; have Hz0 := Aside0.mk ho1; have Hz1 := Aside0.mk ho2; clear hcd0 hcd1 hcx0 hcx1 hld hlx; clear hb_ ho1 ho2; have hcd0 : w5.cell? ⟨w.heap.size, 0, none⟩ = some (.slice A0_0 l0_0.length c0_0) := (blk_cell (blk_below (heap_alloc_new w (.cells #[.slice A0_0 l0_0.length c0_0, .slice A0_1 l0_1.length c0_1] 25)) (below_step (below_alloc (below_step (below_alloc (below_step (below_step (below_step (Below.refl _ _) HS1.out) HS2.out) HS3.out) (.cells #[.slice Ax0 L.length cx0, .slice Ax1 ([] : List S65).length cx1] 25)) HS4.out) (.cells #[.slice Ay0 Y.length cy0, .slice Ay1 ([] : List S65).length cy1] 25)) HS5.out)) 0).trans rfl; have hcd1 : w5.cell? ⟨w.heap.size, 1, none⟩ = some (.slice A0_1 l0_1.length c0_1) := (blk_cell (blk_below (heap_alloc_new w (.cells #[.slice A0_0 l0_0.length c0_0, .slice A0_1 l0_1.length c0_1] 25)) (below_step (below_alloc (below_step (below_alloc (below_step (below_step (below_step (Below.refl _ _) HS1.out) HS2.out) HS3.out) (.cells #[.slice Ax0 L.length cx0, .slice Ax1 ([] : List S65).length cx1] 25)) HS4.out) (.cells #[.slice Ay0 Y.length cy0, .slice Ay1 ([] : List S65).length cy1] 25)) HS5.out)) 1).trans rfl; have hld : w.heap.size < w5.heap.size := blk_lt (blk_below (heap_alloc_new w (.cells #[.slice A0_0 l0_0.length c0_0, .slice A0_1 l0_1.length c0_1] 25)) (below_step (below_alloc (below_step (below_alloc (below_step (below_step (below_step (Below.refl _ _) HS1.out) HS2.out) HS3.out) (.cells #[.slice Ax0 L.length cx0, .slice Ax1 ([] : List S65).length cx1] 25)) HS4.out) (.cells #[.slice Ay0 Y.length cy0, .slice Ay1 ([] : List S65).length cy1] 25)) HS5.out)); have hcx0 : w5.cell? ⟨w3.heap.size, 0, none⟩ = some (.slice Ax0 L.length cx0) := (blk_cell (blk_below (heap_alloc_new w3 (.cells #[.slice Ax0 L.length cx0, .slice Ax1 ([] : List S65).length cx1] 25)) (below_step (below_alloc (below_step (Below.refl _ _) HS4.out) (.cells #[.slice Ay0 Y.length cy0, .slice Ay1 ([] : List S65).length cy1] 25)) HS5.out)) 0).trans rfl; have hcx1 : w5.cell? ⟨w3.heap.size, 1, none⟩ = some (.slice Ax1 ([] : List S65).length cx1) := (blk_cell (blk_below (heap_alloc_new w3 (.cells #[.slice Ax0 L.length cx0, .slice Ax1 ([] : List S65).length cx1] 25)) (below_step (below_alloc (below_step (Below.refl _ _) HS4.out) (.cells #[.slice Ay0 Y.length cy0, .slice Ay1 ([] : List S65).length cy1] 25)) HS5.out)) 1).trans rfl; have hlx : w3.heap.size < w5.heap.size := blk_lt (blk_below (heap_alloc_new w3 (.cells #[.slice Ax0 L.length cx0, .slice Ax1 ([] : List S65).length cx1] 25)) (below_step (below_alloc (below_step (Below.refl _ _) HS4.out) (.cells #[.slice Ay0 Y.length cy0, .slice Ay1 ([] : List S65).length cy1] 25)) HS5.out)); have hcy0 : w5.cell? ⟨w4.heap.size, 0, none⟩ = some (.slice Ay0 Y.length cy0) := (blk_cell (blk_below (heap_alloc_new w4 (.cells #[.slice Ay0 Y.length cy0, .slice Ay1 ([] : List S65).length cy1] 25)) (below_step (Below.refl _ _) HS5.out)) 0).trans rfl; have hcy1 : w5.cell? ⟨w4.heap.size, 1, none⟩ = some (.slice Ay1 ([] : List S65).length cy1) := (blk_cell (blk_below (heap_alloc_new w4 (.cells #[.slice Ay0 Y.length cy0, .slice Ay1 ([] : List S65).length cy1] 25)) (below_step (Below.refl _ _) HS5.out)) 1).trans rfl; have hly : w4.heap.size < w5.heap.size := blk_lt (blk_below (heap_alloc_new w4 (.cells #[.slice Ay0 Y.length cy0, .slice Ay1 ([] : List S65).length cy1] 25)) (below_step (Below.refl _ _) HS5.out)))
      | (go_at_call 36; clear TK6; have TK7 := Aside0.mk (show 0 = 0 from rfl); refine (hWaits.calls A0_0 c0_0 l0_0 A0_1 c0_1 l0_1 a2 wb we _ (Kd.C_below HR0.out (below_alloc (below_step (below_alloc (below_step (below_alloc (below_step (below_step (below_step (below_alloc (Below.refl _ _) (.cells #[.slice A0_0 l0_0.length c0_0, .slice A0_1 l0_1.length c0_1] 25)) HS1.out) HS2.out) HS3.out) (.cells #[.slice Ax0 L.length cx0, .slice Ax1 ([] : List S65).length cx1] 25)) HS4.out) (.cells #[.slice Ay0 Y.length cy0, .slice Ay1 ([] : List S65).length cy1] 25)) HS5.out) (.cells #[.slice Az0 Y.length cz0, .slice Az1 ([] : List S65).length cz1] 25))) HC0.out (Kd.C_below HR1.out (below_alloc (below_step (below_alloc (below_step (below_alloc (below_step (below_step (below_step (below_alloc (Below.refl _ _) (.cells #[.slice A0_0 l0_0.length c0_0, .slice A0_1 l0_1.length c0_1] 25)) HS1.out) HS2.out) HS3.out) (.cells #[.slice Ax0 L.length cx0, .slice Ax1 ([] : List S65).length cx1] 25)) HS4.out) (.cells #[.slice Ay0 Y.length cy0, .slice Ay1 ([] : List S65).length cy1] 25)) HS5.out) (.cells #[.slice Az0 Y.length cz0, .slice Az1 ([] : List S65).length cz1] 25))) HC1.out FW.out).mono ?_; rintro e w6 ⟨rfl, hb_⟩; have HS6 := Aside0.mk hb_; clear hcd0 hcd1 hcx0 hcx1 hcy0 hcy1 hld hlx hly; clear hb_; have hcd0 : w6.cell? ⟨w.heap.size, 0, none⟩ = some (.slice A0_0 l0_0.length c0_0) := (blk_cell (blk_below (heap_alloc_new w (.cells #[.slice A0_0 l0_0.length c0_0, .slice A0_1 l0_1.length c0_1] 25)) (below_step (below_alloc (below_step (below_alloc (below_step (below_alloc (below_step (below_step (below_step (Below.refl _ _) HS1.out) HS2.out) HS3.out) (.cells #[.slice Ax0 L.length cx0, .slice Ax1 ([] : List S65).length cx1] 25)) HS4.out) (.cells #[.slice Ay0 Y.length cy0, .slice Ay1 ([] : List S65).length cy1] 25)) HS5.out) (.cells #[.slice Az0 Y.length cz0, .slice Az1 ([] : List S65).length cz1] 25)) HS6.out)) 0).trans rfl; have hcd1 : w6.cell? ⟨w.heap.size, 1, none⟩ = some (.slice A0_1 l0_1.length c0_1) := (blk_cell (blk_below (heap_alloc_new w (.cells #[.slice A0_0 l0_0.length c0_0, .slice A0_1 l0_1.length c0_1] 25)) (below_step (below_alloc (below_step (below_alloc (below_step (below_alloc (below_step (below_step (below_step (Below.refl _ _) HS1.out) HS2.out) HS3.out) (.cells #[.slice Ax0 L.length cx0, .slice Ax1 ([] : List S65).length cx1] 25)) HS4.out) (.cells #[.slice Ay0 Y.length cy0, .slice Ay1 ([] : List S65).length cy1] 25)) HS5.out) (.cells #[.slice Az0 Y.length cz0, .slice Az1 ([] : List S65).length cz1] 25)) HS6.out)) 1).trans rfl; have hld : w.heap.size < w6.heap.size := blk_lt (blk_below (heap_alloc_new w (.cells #[.slice A0_0 l0_0.length c0_0, .slice A0_1 l0_1.length c0_1] 25)) (below_step (below_alloc (below_step (below_alloc (below_step (below_alloc (below_step (below_step (below_step (Below.refl _ _) HS1.out) HS2.out) HS3.out) (.cells #[.slice Ax0 L.length cx0, .slice Ax1 ([] : List S65).length cx1] 25)) HS4.out) (.cells #[.slice Ay0 Y.length cy0, .slice Ay1 ([] : List S65).length cy1] 25)) HS5.out) (.cells #[.slice Az0 Y.length cz0, .slice Az1 ([] : List S65).length cz1] 25)) HS6.out)); have hcx0 : w6.cell? ⟨w3.heap.size, 0, none⟩ = some (.slice Ax0 L.length cx0) := (blk_cell (blk_below (heap_alloc_new w3 (.cells #[.slice Ax0 L.length cx0, .slice Ax1 ([] : List S65).length cx1] 25)) (below_step (below_alloc (below_step (below_alloc (below_step (Below.refl _ _) HS4.out) (.cells #[.slice Ay0 Y.length cy0, .slice Ay1 ([] : List S65).length cy1] 25)) HS5.out) (.cells #[.slice Az0 Y.length cz0, .slice Az1 ([] : List S65).length cz1] 25)) HS6.out)) 0).trans rfl; have hcx1 : w6.cell? ⟨w3.heap.size, 1, none⟩ = some (.slice Ax1 ([] : List S65).length cx1) := (blk_cell (blk_below (heap_alloc_new w3 (.cells #[.slice Ax0 L.length cx0, .slice Ax1 ([] : List S65).length cx1] 25)) (below_step (below_alloc (below_step (below_alloc (below_step (Below.refl _ _) HS4.out) (.cells #[.slice Ay0 Y.length cy0, .slice Ay1 ([] : List S65).length cy1] 25)) HS5.out) (.cells #[.slice Az0 Y.length cz0, .slice Az1 ([] : List S65).length cz1] 25)) HS6.out)) 1).trans rfl; have hlx : w3.heap.size < w6.heap.size := blk_lt (blk_below (heap_alloc_new w3 (.cells #[.slice Ax0 L.length cx0, .slice Ax1 ([] : List S65).length cx1] 25)) (below_step (below_alloc (below_step (below_alloc (below_step (Below.refl _ _) HS4.out) (.cells #[.slice Ay0 Y.length cy0, .slice Ay1 ([] : List S65).length cy1] 25)) HS5.out) (.cells #[.slice Az0 Y.length cz0, .slice Az1 ([] : List S65).length cz1] 25)) HS6.out)); have hcy0 : w6.cell? ⟨w4.heap.size, 0, none⟩ = some (.slice Ay0 Y.length cy0) := (blk_cell (blk_below (heap_alloc_new w4 (.cells #[.slice Ay0 Y.length cy0, .slice Ay1 ([] : List S65).length cy1] 25)) (below_step (below_alloc (below_step (Below.refl _ _) HS5.out) (.cells #[.slice Az0 Y.length cz0, .slice Az1 ([] : List S65).length cz1] 25)) HS6.out)) 0).trans rfl; have hcy1 : w6.cell? ⟨w4.heap.size, 1, none⟩ = some (.slice Ay1 ([] : List S65).length cy1) := (blk_cell (blk_below (heap_alloc_new w4 (.cells #[.slice Ay0 Y.length cy0, .slice Ay1 ([] : List S65).length cy1] 25)) (below_step (below_alloc (below_step (Below.refl _ _) HS5.out) (.cells #[.slice Az0 Y.length cz0, .slice Az1 ([] : List S65).length cz1] 25)) HS6.out)) 1).trans rfl; have hly : w4.heap.size < w6.heap.size := blk_lt (blk_below (heap_alloc_new w4 (.cells #[.slice Ay0 Y.length cy0, .slice Ay1 ([] : List S65).length cy1] 25)) (below_step (below_alloc (below_step (Below.refl _ _) HS5.out) (.cells #[.slice Az0 Y.length cz0, .slice Az1 ([] : List S65).length cz1] 25)) HS6.out)); have hcz0 : w6.cell? ⟨w5.heap.size, 0, none⟩ = some (.slice Az0 Y.length cz0) := (blk_cell (blk_below (heap_alloc_new w5 (.cells #[.slice Az0 Y.length cz0, .slice Az1 ([] : List S65).length cz1] 25)) (below_step (Below.refl _ _) HS6.out)) 0).trans rfl; have hcz1 : w6.cell? ⟨w5.heap.size, 1, none⟩ = some (.slice Az1 ([] : List S65).length cz1) := (blk_cell (blk_below (heap_alloc_new w5 (.cells #[.slice Az0 Y.length cz0, .slice Az1 ([] : List S65).length cz1] 25)) (below_step (Below.refl _ _) HS6.out)) 1).trans rfl; have hlz : w5.heap.size < w6.heap.size := blk_lt (blk_below (heap_alloc_new w5 (.cells #[.slice Az0 Y.length cz0, .slice Az1 ([] : List S65).length cz1] 25)) (below_step (Below.refl _ _) HS6.out))))
    go_ret
    exact ⟨rfl, (below_step (below_alloc (below_step (below_alloc (below_step (below_alloc (below_step (below_step (below_step (below_alloc (Below.refl _ _) (.cells #[.slice A0_0 l0_0.length c0_0, .slice A0_1 l0_1.length c0_1] 25)) HS1.out) HS2.out) HS3.out) (.cells #[.slice Ax0 L.length cx0, .slice Ax1 ([] : List S65).length cx1] 25)) HS4.out) (.cells #[.slice Ay0 Y.length cy0, .slice Ay1 ([] : List S65).length cy1] 25)) HS5.out) (.cells #[.slice Az0 Y.length cz0, .slice Az1 ([] : List S65).length cz1] 25)) HS6.out)⟩
  · subst hwe
    obtain ⟨_, k0, k1, hwb⟩ := dWaits_ok hw
    have HSAYS := Aside0.mk (crash_says l1 hok k0 k1)
    rw [hL] at HSAYS
    have HWB := Aside0.mk hwb
    have hnb : ((L.length : Int) != (l0_0.length : Int)) = false := by rw [HLEN.out]; exact bne_self_eq_false _
    have hnb2 : ((L.length : Int) == (l0_0.length : Int)) = true := by rw [HLEN.out]; exact beq_self_eq_true _
    have k2 : ¬ a2 < 0 := by omega
    have k3 : ¬ a2 ≥ (l0_0.length : Int) := by omega
    clear hok hL hY hw hwb
    have TK1 := Aside0.mk (show 0 = 0 from rfl)
    go_enter Try.func10, Try.ntmps10
    go_upto_region 12 with (first
      | (go_at_call 45; clear TK1; have TK2 := Aside0.mk (show 0 = 0 from rfl); refine (hAlive.calls true _ rfl).mono ?_; rintro e w1 ⟨rfl, hb_⟩; have HS1 := Aside0.mk hb_; clear hb_; have hcd0 : w1.cell? ⟨w.heap.size, 0, none⟩ = some (.slice A0_0 l0_0.length c0_0) := (blk_cell (blk_below (heap_alloc_new w (.cells #[.slice A0_0 l0_0.length c0_0, .slice A0_1 l0_1.length c0_1] 25)) (below_step (Below.refl _ _) HS1.out)) 0).trans rfl; have hcd1 : w1.cell? ⟨w.heap.size, 1, none⟩ = some (.slice A0_1 l0_1.length c0_1) := (blk_cell (blk_below (heap_alloc_new w (.cells #[.slice A0_0 l0_0.length c0_0, .slice A0_1 l0_1.length c0_1] 25)) (below_step (Below.refl _ _) HS1.out)) 1).trans rfl; have hld : w.heap.size < w1.heap.size := blk_lt (blk_below (heap_alloc_new w (.cells #[.slice A0_0 l0_0.length c0_0, .slice A0_1 l0_1.length c0_1] 25)) (below_step (Below.refl _ _) HS1.out)))
      | (go_at_call 30; clear TK2; have TK3 := Aside0.mk (show 0 = 0 from rfl); refine (catamaranref05_Great.calls 400 A0_0 c0_0 l0_0 A0_1 c0_1 l0_1 60 _ _ (Kd.C_below HR0.out (below_step (below_alloc (Below.refl _ _) (.cells #[.slice A0_0 l0_0.length c0_0, .slice A0_1 l0_1.length c0_1] 25)) HS1.out)) HC0.out (Kd.C_below HR1.out (below_step (below_alloc (Below.refl _ _) (.cells #[.slice A0_0 l0_0.length c0_0, .slice A0_1 l0_1.length c0_1] 25)) HS1.out)) HC1.out HG.out).mono ?_; rintro e w2 ⟨rfl, hb_⟩; have HS2 := Aside0.mk hb_; clear hcd0 hcd1 hld; clear hb_; have hcd0 : w2.cell? ⟨w.heap.size, 0, none⟩ = some (.slice A0_0 l0_0.length c0_0) := (blk_cell (blk_below (heap_alloc_new w (.cells #[.slice A0_0 l0_0.length c0_0, .slice A0_1 l0_1.length c0_1] 25)) (below_step (below_step (Below.refl _ _) HS1.out) HS2.out)) 0).trans rfl; have hcd1 : w2.cell? ⟨w.heap.size, 1, none⟩ = some (.slice A0_1 l0_1.length c0_1) := (blk_cell (blk_below (heap_alloc_new w (.cells #[.slice A0_0 l0_0.length c0_0, .slice A0_1 l0_1.length c0_1] 25)) (below_step (below_step (Below.refl _ _) HS1.out) HS2.out)) 1).trans rfl; have hld : w.heap.size < w2.heap.size := blk_lt (blk_below (heap_alloc_new w (.cells #[.slice A0_0 l0_0.length c0_0, .slice A0_1 l0_1.length c0_1] 25)) (below_step (below_step (Below.refl _ _) HS1.out) HS2.out)))
      | (go_at_call 49; clear TK3; have TK4 := Aside0.mk (show 0 = 0 from rfl); refine (hCrash.calls A0_0 c0_0 l0_0 A0_1 c0_1 l0_1 A1 c1 l1 L [] 0 _ (Kd.C_below HR0.out (below_step (below_step (below_alloc (Below.refl _ _) (.cells #[.slice A0_0 l0_0.length c0_0, .slice A0_1 l0_1.length c0_1] 25)) HS1.out) HS2.out)) HC0.out (Kd.C_below HR1.out (below_step (below_step (below_alloc (Below.refl _ _) (.cells #[.slice A0_0 l0_0.length c0_0, .slice A0_1 l0_1.length c0_1] 25)) HS1.out) HS2.out)) HC1.out (Kd.C_below HR2.out (below_step (below_step (below_alloc (Below.refl _ _) (.cells #[.slice A0_0 l0_0.length c0_0, .slice A0_1 l0_1.length c0_1] 25)) HS1.out) HS2.out)) HC2.out FX.out).mono ?_; rintro e w3 ⟨v1, v2, rfl, ho1, ho2, hb_⟩; obtain ⟨Ax0, cx0, e_x0⟩ := Kd.S_slice ho1; subst e_x0; obtain ⟨Ax1, cx1, e_x1⟩ := Kd.S_slice ho2; subst e_x1; have HS3 := Aside0.mk hb_; have Hx0 := Aside0.mk ho1; have Hx1 := Aside0.mk ho2; clear hcd0 hcd1 hld; clear hb_ ho1 ho2; have hcd0 : w3.cell? ⟨w.heap.size, 0, none⟩ = some (.slice A0_0 l0_0.length c0_0) := (blk_cell (blk_below (heap_alloc_new w (.cells #[.slice A0_0 l0_0.length c0_0, .slice A0_1 l0_1.length c0_1] 25)) (below_step (below_step (below_step (Below.refl _ _) HS1.out) HS2.out) HS3.out)) 0).trans rfl; have hcd1 : w3.cell? ⟨w.heap.size, 1, none⟩ = some (.slice A0_1 l0_1.length c0_1) := (blk_cell (blk_below (heap_alloc_new w (.cells #[.slice A0_0 l0_0.length c0_0, .slice A0_1 l0_1.length c0_1] 25)) (below_step (below_step (below_step (Below.refl _ _) HS1.out) HS2.out) HS3.out)) 1).trans rfl; have hld : w.heap.size < w3.heap.size := blk_lt (blk_below (heap_alloc_new w (.cells #[.slice A0_0 l0_0.length c0_0, .slice A0_1 l0_1.length c0_1] 25)) (below_step (below_step (below_step (Below.refl _ _) HS1.out) HS2.out) HS3.out)))
      | (go_at_call 47; clear TK4; have TK5 := Aside0.mk (show 0 = 0 from rfl); refine (hFlush.calls A0_0 c0_0 l0_0 A0_1 c0_1 l0_1 Y [] 0 _ (Kd.C_below HR0.out (below_alloc (below_step (below_step (below_step (below_alloc (Below.refl _ _) (.cells #[.slice A0_0 l0_0.length c0_0, .slice A0_1 l0_1.length c0_1] 25)) HS1.out) HS2.out) HS3.out) (.cells #[.slice Ax0 L.length cx0, .slice Ax1 ([] : List S65).length cx1] 25))) HC0.out (Kd.C_below HR1.out (below_alloc (below_step (below_step (below_step (below_alloc (Below.refl _ _) (.cells #[.slice A0_0 l0_0.length c0_0, .slice A0_1 l0_1.length c0_1] 25)) HS1.out) HS2.out) HS3.out) (.cells #[.slice Ax0 L.length cx0, .slice Ax1 ([] : List S65).length cx1] 25))) HC1.out FY.out).mono ?_; rintro e w4 ⟨v1, v2, rfl, ho1, ho2, hb_⟩; obtain ⟨Ay0, cy0, e_y0⟩ := Kd.S_slice ho1; subst e_y0; obtain ⟨Ay1, cy1, e_y1⟩ := Kd.S_slice ho2; subst e_y1; have HS4 := Aside0.mk hb_; have Hy0 := Aside0.mk ho1; have Hy1 := Aside0.mk ho2; clear hcd0 hcd1 hld; clear hb_ ho1 ho2; have hcd0 : w4.cell? ⟨w.heap.size, 0, none⟩ = some (.slice A0_0 l0_0.length c0_0) := (blk_cell (blk_below (heap_alloc_new w (.cells #[.slice A0_0 l0_0.length c0_0, .slice A0_1 l0_1.length c0_1] 25)) (below_step (below_alloc (below_step (below_step (below_step (Below.refl _ _) HS1.out) HS2.out) HS3.out) (.cells #[.slice Ax0 L.length cx0, .slice Ax1 ([] : List S65).length cx1] 25)) HS4.out)) 0).trans rfl; have hcd1 : w4.cell? ⟨w.heap.size, 1, none⟩ = some (.slice A0_1 l0_1.length c0_1) := (blk_cell (blk_below (heap_alloc_new w (.cells #[.slice A0_0 l0_0.length c0_0, .slice A0_1 l0_1.length c0_1] 25)) (below_step (below_alloc (below_step (below_step (below_step (Below.refl _ _) HS1.out) HS2.out) HS3.out) (.cells #[.slice Ax0 L.length cx0, .slice Ax1 ([] : List S65).length cx1] 25)) HS4.out)) 1).trans rfl; have hld : w.heap.size < w4.heap.size := blk_lt (blk_below (heap_alloc_new w (.cells #[.slice A0_0 l0_0.length c0_0, .slice A0_1 l0_1.length c0_1] 25)) (below_step (below_alloc (below_step (below_step (below_step (Below.refl _ _) HS1.out) HS2.out) HS3.out) (.cells #[.slice Ax0 L.length cx0, .slice Ax1 ([] : List S65).length cx1] 25)) HS4.out)); have hcx0 : w4.cell? ⟨w3.heap.size, 0, none⟩ = some (.slice Ax0 L.length cx0) := (blk_cell (blk_below (heap_alloc_new w3 (.cells #[.slice Ax0 L.length cx0, .slice Ax1 ([] : List S65).length cx1] 25)) (below_step (Below.refl _ _) HS4.out)) 0).trans rfl; have hcx1 : w4.cell? ⟨w3.heap.size, 1, none⟩ = some (.slice Ax1 ([] : List S65).length cx1) := (blk_cell (blk_below (heap_alloc_new w3 (.cells #[.slice Ax0 L.length cx0, .slice Ax1 ([] : List S65).length cx1] 25)) (below_step (Below.refl _ _) HS4.out)) 1).trans rfl; have hlx : w3.heap.size < w4.heap.size := blk_lt (blk_below (heap_alloc_new w3 (.cells #[.slice Ax0 L.length cx0, .slice Ax1 ([] : List S65).length cx1] 25)) (below_step (Below.refl _ _) HS4.out)))
      | (go_at_call 49; clear TK5; have TK6 := Aside0.mk (show 0 = 0 from rfl); refine (hCrash.calls Ay0 cy0 Y Ay1 cy1 ([] : List S65) A1 c1 l1 Y [] 0 _ (Kd.S_reads' (Kd.S_below Hy0.out (below_alloc (Below.refl _ _) (.cells #[.slice Ay0 Y.length cy0, .slice Ay1 ([] : List S65).length cy1] 25)))).2.2 (Kd.S_reads' (Kd.S_below Hy0.out (below_alloc (Below.refl _ _) (.cells #[.slice Ay0 Y.length cy0, .slice Ay1 ([] : List S65).length cy1] 25)))).2.1 (Kd.S_reads' (Kd.S_below Hy1.out (below_alloc (Below.refl _ _) (.cells #[.slice Ay0 Y.length cy0, .slice Ay1 ([] : List S65).length cy1] 25)))).2.2 (Kd.S_reads' (Kd.S_below Hy1.out (below_alloc (Below.refl _ _) (.cells #[.slice Ay0 Y.length cy0, .slice Ay1 ([] : List S65).length cy1] 25)))).2.1 (Kd.C_below HR2.out (below_alloc (below_step (below_alloc (below_step (below_step (below_step (below_alloc (Below.refl _ _) (.cells #[.slice A0_0 l0_0.length c0_0, .slice A0_1 l0_1.length c0_1] 25)) HS1.out) HS2.out) HS3.out) (.cells #[.slice Ax0 L.length cx0, .slice Ax1 ([] : List S65).length cx1] 25)) HS4.out) (.cells #[.slice Ay0 Y.length cy0, .slice Ay1 ([] : List S65).length cy1] 25))) HC2.out FZ.out).mono ?_; rintro e w5 ⟨v1, v2, rfl, ho1, ho2, hb_⟩; obtain ⟨Az0, cz0, e_z0⟩ := Kd.S_slice ho1; subst e_z0; obtain ⟨Az1, cz1, e_z1⟩ := Kd.S_slice ho2; subst e_z1; have HS5 := Aside0.mk hb_; have Hz0 := Aside0.mk ho1; have Hz1 := Aside0.mk ho2; clear hcd0 hcd1 hcx0 hcx1 hld hlx; clear hb_ ho1 ho2; have hcd0 : w5.cell? ⟨w.heap.size, 0, none⟩ = some (.slice A0_0 l0_0.length c0_0) := (blk_cell (blk_below (heap_alloc_new w (.cells #[.slice A0_0 l0_0.length c0_0, .slice A0_1 l0_1.length c0_1] 25)) (below_step (below_alloc (below_step (below_alloc (below_step (below_step (below_step (Below.refl _ _) HS1.out) HS2.out) HS3.out) (.cells #[.slice Ax0 L.length cx0, .slice Ax1 ([] : List S65).length cx1] 25)) HS4.out) (.cells #[.slice Ay0 Y.length cy0, .slice Ay1 ([] : List S65).length cy1] 25)) HS5.out)) 0).trans rfl; have hcd1 : w5.cell? ⟨w.heap.size, 1, none⟩ = some (.slice A0_1 l0_1.length c0_1) := (blk_cell (blk_below (heap_alloc_new w (.cells #[.slice A0_0 l0_0.length c0_0, .slice A0_1 l0_1.length c0_1] 25)) (below_step (below_alloc (below_step (below_alloc (below_step (below_step (below_step (Below.refl _ _) HS1.out) HS2.out) HS3.out) (.cells #[.slice Ax0 L.length cx0, .slice Ax1 ([] : List S65).length cx1] 25)) HS4.out) (.cells #[.slice Ay0 Y.length cy0, .slice Ay1 ([] : List S65).length cy1] 25)) HS5.out)) 1).trans rfl; have hld : w.heap.size < w5.heap.size := blk_lt (blk_below (heap_alloc_new w (.cells #[.slice A0_0 l0_0.length c0_0, .slice A0_1 l0_1.length c0_1] 25)) (below_step (below_alloc (below_step (below_alloc (below_step (below_step (below_step (Below.refl _ _) HS1.out) HS2.out) HS3.out) (.cells #[.slice Ax0 L.length cx0, .slice Ax1 ([] : List S65).length cx1] 25)) HS4.out) (.cells #[.slice Ay0 Y.length cy0, .slice Ay1 ([] : List S65).length cy1] 25)) HS5.out)); have hcx0 : w5.cell? ⟨w3.heap.size, 0, none⟩ = some (.slice Ax0 L.length cx0) := (blk_cell (blk_below (heap_alloc_new w3 (.cells #[.slice Ax0 L.length cx0, .slice Ax1 ([] : List S65).length cx1] 25)) (below_step (below_alloc (below_step (Below.refl _ _) HS4.out) (.cells #[.slice Ay0 Y.length cy0, .slice Ay1 ([] : List S65).length cy1] 25)) HS5.out)) 0).trans rfl; have hcx1 : w5.cell? ⟨w3.heap.size, 1, none⟩ = some (.slice Ax1 ([] : List S65).length cx1) := (blk_cell (blk_below (heap_alloc_new w3 (.cells #[.slice Ax0 L.length cx0, .slice Ax1 ([] : List S65).length cx1] 25)) (below_step (below_alloc (below_step (Below.refl _ _) HS4.out) (.cells #[.slice Ay0 Y.length cy0, .slice Ay1 ([] : List S65).length cy1] 25)) HS5.out)) 1).trans rfl; have hlx : w3.heap.size < w5.heap.size := blk_lt (blk_below (heap_alloc_new w3 (.cells #[.slice Ax0 L.length cx0, .slice Ax1 ([] : List S65).length cx1] 25)) (below_step (below_alloc (below_step (Below.refl _ _) HS4.out) (.cells #[.slice Ay0 Y.length cy0, .slice Ay1 ([] : List S65).length cy1] 25)) HS5.out)); have hcy0 : w5.cell? ⟨w4.heap.size, 0, none⟩ = some (.slice Ay0 Y.length cy0) := (blk_cell (blk_below (heap_alloc_new w4 (.cells #[.slice Ay0 Y.length cy0, .slice Ay1 ([] : List S65).length cy1] 25)) (below_step (Below.refl _ _) HS5.out)) 0).trans rfl; have hcy1 : w5.cell? ⟨w4.heap.size, 1, none⟩ = some (.slice Ay1 ([] : List S65).length cy1) := (blk_cell (blk_below (heap_alloc_new w4 (.cells #[.slice Ay0 Y.length cy0, .slice Ay1 ([] : List S65).length cy1] 25)) (below_step (Below.refl _ _) HS5.out)) 1).trans rfl; have hly : w4.heap.size < w5.heap.size := blk_lt (blk_below (heap_alloc_new w4 (.cells #[.slice Ay0 Y.length cy0, .slice Ay1 ([] : List S65).length cy1] 25)) (below_step (Below.refl _ _) HS5.out)))
      | (go_at_call 36; clear TK6; have TK7 := Aside0.mk (show 0 = 0 from rfl); refine (hWaits.calls A0_0 c0_0 l0_0 A0_1 c0_1 l0_1 a2 wb 0 _ (Kd.C_below HR0.out (below_alloc (below_step (below_alloc (below_step (below_alloc (below_step (below_step (below_step (below_alloc (Below.refl _ _) (.cells #[.slice A0_0 l0_0.length c0_0, .slice A0_1 l0_1.length c0_1] 25)) HS1.out) HS2.out) HS3.out) (.cells #[.slice Ax0 L.length cx0, .slice Ax1 ([] : List S65).length cx1] 25)) HS4.out) (.cells #[.slice Ay0 Y.length cy0, .slice Ay1 ([] : List S65).length cy1] 25)) HS5.out) (.cells #[.slice Az0 Y.length cz0, .slice Az1 ([] : List S65).length cz1] 25))) HC0.out (Kd.C_below HR1.out (below_alloc (below_step (below_alloc (below_step (below_alloc (below_step (below_step (below_step (below_alloc (Below.refl _ _) (.cells #[.slice A0_0 l0_0.length c0_0, .slice A0_1 l0_1.length c0_1] 25)) HS1.out) HS2.out) HS3.out) (.cells #[.slice Ax0 L.length cx0, .slice Ax1 ([] : List S65).length cx1] 25)) HS4.out) (.cells #[.slice Ay0 Y.length cy0, .slice Ay1 ([] : List S65).length cy1] 25)) HS5.out) (.cells #[.slice Az0 Y.length cz0, .slice Az1 ([] : List S65).length cz1] 25))) HC1.out FW.out).mono ?_; rintro e w6 ⟨rfl, hb_⟩; have HS6 := Aside0.mk hb_; clear hcd0 hcd1 hcx0 hcx1 hcy0 hcy1 hld hlx hly; clear hb_; have hcd0 : w6.cell? ⟨w.heap.size, 0, none⟩ = some (.slice A0_0 l0_0.length c0_0) := (blk_cell (blk_below (heap_alloc_new w (.cells #[.slice A0_0 l0_0.length c0_0, .slice A0_1 l0_1.length c0_1] 25)) (below_step (below_alloc (below_step (below_alloc (below_step (below_alloc (below_step (below_step (below_step (Below.refl _ _) HS1.out) HS2.out) HS3.out) (.cells #[.slice Ax0 L.length cx0, .slice Ax1 ([] : List S65).length cx1] 25)) HS4.out) (.cells #[.slice Ay0 Y.length cy0, .slice Ay1 ([] : List S65).length cy1] 25)) HS5.out) (.cells #[.slice Az0 Y.length cz0, .slice Az1 ([] : List S65).length cz1] 25)) HS6.out)) 0).trans rfl; have hcd1 : w6.cell? ⟨w.heap.size, 1, none⟩ = some (.slice A0_1 l0_1.length c0_1) := (blk_cell (blk_below (heap_alloc_new w (.cells #[.slice A0_0 l0_0.length c0_0, .slice A0_1 l0_1.length c0_1] 25)) (below_step (below_alloc (below_step (below_alloc (below_step (below_alloc (below_step (below_step (below_step (Below.refl _ _) HS1.out) HS2.out) HS3.out) (.cells #[.slice Ax0 L.length cx0, .slice Ax1 ([] : List S65).length cx1] 25)) HS4.out) (.cells #[.slice Ay0 Y.length cy0, .slice Ay1 ([] : List S65).length cy1] 25)) HS5.out) (.cells #[.slice Az0 Y.length cz0, .slice Az1 ([] : List S65).length cz1] 25)) HS6.out)) 1).trans rfl; have hld : w.heap.size < w6.heap.size := blk_lt (blk_below (heap_alloc_new w (.cells #[.slice A0_0 l0_0.length c0_0, .slice A0_1 l0_1.length c0_1] 25)) (below_step (below_alloc (below_step (below_alloc (below_step (below_alloc (below_step (below_step (below_step (Below.refl _ _) HS1.out) HS2.out) HS3.out) (.cells #[.slice Ax0 L.length cx0, .slice Ax1 ([] : List S65).length cx1] 25)) HS4.out) (.cells #[.slice Ay0 Y.length cy0, .slice Ay1 ([] : List S65).length cy1] 25)) HS5.out) (.cells #[.slice Az0 Y.length cz0, .slice Az1 ([] : List S65).length cz1] 25)) HS6.out)); have hcx0 : w6.cell? ⟨w3.heap.size, 0, none⟩ = some (.slice Ax0 L.length cx0) := (blk_cell (blk_below (heap_alloc_new w3 (.cells #[.slice Ax0 L.length cx0, .slice Ax1 ([] : List S65).length cx1] 25)) (below_step (below_alloc (below_step (below_alloc (below_step (Below.refl _ _) HS4.out) (.cells #[.slice Ay0 Y.length cy0, .slice Ay1 ([] : List S65).length cy1] 25)) HS5.out) (.cells #[.slice Az0 Y.length cz0, .slice Az1 ([] : List S65).length cz1] 25)) HS6.out)) 0).trans rfl; have hcx1 : w6.cell? ⟨w3.heap.size, 1, none⟩ = some (.slice Ax1 ([] : List S65).length cx1) := (blk_cell (blk_below (heap_alloc_new w3 (.cells #[.slice Ax0 L.length cx0, .slice Ax1 ([] : List S65).length cx1] 25)) (below_step (below_alloc (below_step (below_alloc (below_step (Below.refl _ _) HS4.out) (.cells #[.slice Ay0 Y.length cy0, .slice Ay1 ([] : List S65).length cy1] 25)) HS5.out) (.cells #[.slice Az0 Y.length cz0, .slice Az1 ([] : List S65).length cz1] 25)) HS6.out)) 1).trans rfl; have hlx : w3.heap.size < w6.heap.size := blk_lt (blk_below (heap_alloc_new w3 (.cells #[.slice Ax0 L.length cx0, .slice Ax1 ([] : List S65).length cx1] 25)) (below_step (below_alloc (below_step (below_alloc (below_step (Below.refl _ _) HS4.out) (.cells #[.slice Ay0 Y.length cy0, .slice Ay1 ([] : List S65).length cy1] 25)) HS5.out) (.cells #[.slice Az0 Y.length cz0, .slice Az1 ([] : List S65).length cz1] 25)) HS6.out)); have hcy0 : w6.cell? ⟨w4.heap.size, 0, none⟩ = some (.slice Ay0 Y.length cy0) := (blk_cell (blk_below (heap_alloc_new w4 (.cells #[.slice Ay0 Y.length cy0, .slice Ay1 ([] : List S65).length cy1] 25)) (below_step (below_alloc (below_step (Below.refl _ _) HS5.out) (.cells #[.slice Az0 Y.length cz0, .slice Az1 ([] : List S65).length cz1] 25)) HS6.out)) 0).trans rfl; have hcy1 : w6.cell? ⟨w4.heap.size, 1, none⟩ = some (.slice Ay1 ([] : List S65).length cy1) := (blk_cell (blk_below (heap_alloc_new w4 (.cells #[.slice Ay0 Y.length cy0, .slice Ay1 ([] : List S65).length cy1] 25)) (below_step (below_alloc (below_step (Below.refl _ _) HS5.out) (.cells #[.slice Az0 Y.length cz0, .slice Az1 ([] : List S65).length cz1] 25)) HS6.out)) 1).trans rfl; have hly : w4.heap.size < w6.heap.size := blk_lt (blk_below (heap_alloc_new w4 (.cells #[.slice Ay0 Y.length cy0, .slice Ay1 ([] : List S65).length cy1] 25)) (below_step (below_alloc (below_step (Below.refl _ _) HS5.out) (.cells #[.slice Az0 Y.length cz0, .slice Az1 ([] : List S65).length cz1] 25)) HS6.out)); have hcz0 : w6.cell? ⟨w5.heap.size, 0, none⟩ = some (.slice Az0 Y.length cz0) := (blk_cell (blk_below (heap_alloc_new w5 (.cells #[.slice Az0 Y.length cz0, .slice Az1 ([] : List S65).length cz1] 25)) (below_step (Below.refl _ _) HS6.out)) 0).trans rfl; have hcz1 : w6.cell? ⟨w5.heap.size, 1, none⟩ = some (.slice Az1 ([] : List S65).length cz1) := (blk_cell (blk_below (heap_alloc_new w5 (.cells #[.slice Az0 Y.length cz0, .slice Az1 ([] : List S65).length cz1] 25)) (below_step (Below.refl _ _) HS6.out)) 1).trans rfl; have hlz : w5.heap.size < w6.heap.size := blk_lt (blk_below (heap_alloc_new w5 (.cells #[.slice Az0 Y.length cz0, .slice Az1 ([] : List S65).length cz1] 25)) (below_step (Below.refl _ _) HS6.out)))
      | (go_at_call 38; clear TK7; have TK8 := Aside0.mk (show 0 = 0 from rfl); refine (hSame.calls Ay0 cy0 Y Ay1 cy1 ([] : List S65) Az0 cz0 Y Az1 cz1 ([] : List S65) true _ (Kd.S_reads' (Kd.S_below Hy0.out (below_step (below_alloc (below_step (below_alloc (Below.refl _ _) (.cells #[.slice Ay0 Y.length cy0, .slice Ay1 ([] : List S65).length cy1] 25)) HS5.out) (.cells #[.slice Az0 Y.length cz0, .slice Az1 ([] : List S65).length cz1] 25)) HS6.out))).2.2 (Kd.S_reads' (Kd.S_below Hy0.out (below_step (below_alloc (below_step (below_alloc (Below.refl _ _) (.cells #[.slice Ay0 Y.length cy0, .slice Ay1 ([] : List S65).length cy1] 25)) HS5.out) (.cells #[.slice Az0 Y.length cz0, .slice Az1 ([] : List S65).length cz1] 25)) HS6.out))).2.1 (Kd.S_reads' (Kd.S_below Hy1.out (below_step (below_alloc (below_step (below_alloc (Below.refl _ _) (.cells #[.slice Ay0 Y.length cy0, .slice Ay1 ([] : List S65).length cy1] 25)) HS5.out) (.cells #[.slice Az0 Y.length cz0, .slice Az1 ([] : List S65).length cz1] 25)) HS6.out))).2.2 (Kd.S_reads' (Kd.S_below Hy1.out (below_step (below_alloc (below_step (below_alloc (Below.refl _ _) (.cells #[.slice Ay0 Y.length cy0, .slice Ay1 ([] : List S65).length cy1] 25)) HS5.out) (.cells #[.slice Az0 Y.length cz0, .slice Az1 ([] : List S65).length cz1] 25)) HS6.out))).2.1 (Kd.S_reads' (Kd.S_below Hz0.out (below_step (below_alloc (Below.refl _ _) (.cells #[.slice Az0 Y.length cz0, .slice Az1 ([] : List S65).length cz1] 25)) HS6.out))).2.2 (Kd.S_reads' (Kd.S_below Hz0.out (below_step (below_alloc (Below.refl _ _) (.cells #[.slice Az0 Y.length cz0, .slice Az1 ([] : List S65).length cz1] 25)) HS6.out))).2.1 (Kd.S_reads' (Kd.S_below Hz1.out (below_step (below_alloc (Below.refl _ _) (.cells #[.slice Az0 Y.length cz0, .slice Az1 ([] : List S65).length cz1] 25)) HS6.out))).2.2 (Kd.S_reads' (Kd.S_below Hz1.out (below_step (below_alloc (Below.refl _ _) (.cells #[.slice Az0 Y.length cz0, .slice Az1 ([] : List S65).length cz1] 25)) HS6.out))).2.1 (by unfold hSame.f; rw [dSame_refl])).mono ?_; rintro e w7 ⟨rfl, hb_⟩; have HS7 := Aside0.mk hb_; clear hcd0 hcd1 hcx0 hcx1 hcy0 hcy1 hcz0 hcz1 hld hlx hly hlz; clear hb_; have hcd0 : w7.cell? ⟨w.heap.size, 0, none⟩ = some (.slice A0_0 l0_0.length c0_0) := (blk_cell (blk_below (heap_alloc_new w (.cells #[.slice A0_0 l0_0.length c0_0, .slice A0_1 l0_1.length c0_1] 25)) (below_step (below_step (below_alloc (below_step (below_alloc (below_step (below_alloc (below_step (below_step (below_step (Below.refl _ _) HS1.out) HS2.out) HS3.out) (.cells #[.slice Ax0 L.length cx0, .slice Ax1 ([] : List S65).length cx1] 25)) HS4.out) (.cells #[.slice Ay0 Y.length cy0, .slice Ay1 ([] : List S65).length cy1] 25)) HS5.out) (.cells #[.slice Az0 Y.length cz0, .slice Az1 ([] : List S65).length cz1] 25)) HS6.out) HS7.out)) 0).trans rfl; have hcd1 : w7.cell? ⟨w.heap.size, 1, none⟩ = some (.slice A0_1 l0_1.length c0_1) := (blk_cell (blk_below (heap_alloc_new w (.cells #[.slice A0_0 l0_0.length c0_0, .slice A0_1 l0_1.length c0_1] 25)) (below_step (below_step (below_alloc (below_step (below_alloc (below_step (below_alloc (below_step (below_step (below_step (Below.refl _ _) HS1.out) HS2.out) HS3.out) (.cells #[.slice Ax0 L.length cx0, .slice Ax1 ([] : List S65).length cx1] 25)) HS4.out) (.cells #[.slice Ay0 Y.length cy0, .slice Ay1 ([] : List S65).length cy1] 25)) HS5.out) (.cells #[.slice Az0 Y.length cz0, .slice Az1 ([] : List S65).length cz1] 25)) HS6.out) HS7.out)) 1).trans rfl; have hld : w.heap.size < w7.heap.size := blk_lt (blk_below (heap_alloc_new w (.cells #[.slice A0_0 l0_0.length c0_0, .slice A0_1 l0_1.length c0_1] 25)) (below_step (below_step (below_alloc (below_step (below_alloc (below_step (below_alloc (below_step (below_step (below_step (Below.refl _ _) HS1.out) HS2.out) HS3.out) (.cells #[.slice Ax0 L.length cx0, .slice Ax1 ([] : List S65).length cx1] 25)) HS4.out) (.cells #[.slice Ay0 Y.length cy0, .slice Ay1 ([] : List S65).length cy1] 25)) HS5.out) (.cells #[.slice Az0 Y.length cz0, .slice Az1 ([] : List S65).length cz1] 25)) HS6.out) HS7.out)); have hcx0 : w7.cell? ⟨w3.heap.size, 0, none⟩ = some (.slice Ax0 L.length cx0) := (blk_cell (blk_below (heap_alloc_new w3 (.cells #[.slice Ax0 L.length cx0, .slice Ax1 ([] : List S65).length cx1] 25)) (below_step (below_step (below_alloc (below_step (below_alloc (below_step (Below.refl _ _) HS4.out) (.cells #[.slice Ay0 Y.length cy0, .slice Ay1 ([] : List S65).length cy1] 25)) HS5.out) (.cells #[.slice Az0 Y.length cz0, .slice Az1 ([] : List S65).length cz1] 25)) HS6.out) HS7.out)) 0).trans rfl; have hcx1 : w7.cell? ⟨w3.heap.size, 1, none⟩ = some (.slice Ax1 ([] : List S65).length cx1) := (blk_cell (blk_below (heap_alloc_new w3 (.cells #[.slice Ax0 L.length cx0, .slice Ax1 ([] : List S65).length cx1] 25)) (below_step (below_step (below_alloc (below_step (below_alloc (below_step (Below.refl _ _) HS4.out) (.cells #[.slice Ay0 Y.length cy0, .slice Ay1 ([] : List S65).length cy1] 25)) HS5.out) (.cells #[.slice Az0 Y.length cz0, .slice Az1 ([] : List S65).length cz1] 25)) HS6.out) HS7.out)) 1).trans rfl; have hlx : w3.heap.size < w7.heap.size := blk_lt (blk_below (heap_alloc_new w3 (.cells #[.slice Ax0 L.length cx0, .slice Ax1 ([] : List S65).length cx1] 25)) (below_step (below_step (below_alloc (below_step (below_alloc (below_step (Below.refl _ _) HS4.out) (.cells #[.slice Ay0 Y.length cy0, .slice Ay1 ([] : List S65).length cy1] 25)) HS5.out) (.cells #[.slice Az0 Y.length cz0, .slice Az1 ([] : List S65).length cz1] 25)) HS6.out) HS7.out))))
    have HWX := Aside0.mk (And.intro (Kd.S_reads' (Kd.S_below Hx0.out (below_step (below_step (below_alloc (below_step (below_alloc (below_step (below_alloc (Below.refl _ _) (.cells #[.slice Ax0 L.length cx0, .slice Ax1 ([] : List S65).length cx1] 25)) HS4.out) (.cells #[.slice Ay0 Y.length cy0, .slice Ay1 ([] : List S65).length cy1] 25)) HS5.out) (.cells #[.slice Az0 Y.length cz0, .slice Az1 ([] : List S65).length cz1] 25)) HS6.out) HS7.out))).2.2 (Kd.S_reads' (Kd.S_below Hx0.out (below_step (below_step (below_alloc (below_step (below_alloc (below_step (below_alloc (Below.refl _ _) (.cells #[.slice Ax0 L.length cx0, .slice Ax1 ([] : List S65).length cx1] 25)) HS4.out) (.cells #[.slice Ay0 Y.length cy0, .slice Ay1 ([] : List S65).length cy1] 25)) HS5.out) (.cells #[.slice Az0 Y.length cz0, .slice Az1 ([] : List S65).length cz1] 25)) HS6.out) HS7.out))).2.1)
    have HWY := Aside0.mk (And.intro (Kd.S_reads' (Kd.S_below Hx1.out (below_step (below_step (below_alloc (below_step (below_alloc (below_step (below_alloc (Below.refl _ _) (.cells #[.slice Ax0 L.length cx0, .slice Ax1 ([] : List S65).length cx1] 25)) HS4.out) (.cells #[.slice Ay0 Y.length cy0, .slice Ay1 ([] : List S65).length cy1] 25)) HS5.out) (.cells #[.slice Az0 Y.length cz0, .slice Az1 ([] : List S65).length cz1] 25)) HS6.out) HS7.out))).2.2 (Kd.S_reads' (Kd.S_below Hx1.out (below_step (below_step (below_alloc (below_step (below_alloc (below_step (below_alloc (Below.refl _ _) (.cells #[.slice Ax0 L.length cx0, .slice Ax1 ([] : List S65).length cx1] 25)) HS4.out) (.cells #[.slice Ay0 Y.length cy0, .slice Ay1 ([] : List S65).length cy1] 25)) HS5.out) (.cells #[.slice Az0 Y.length cz0, .slice Az1 ([] : List S65).length cz1] 25)) HS6.out) HS7.out))).2.1)
    have HWZ := Aside0.mk (Kd.C_below HR1.out (below_step (below_step (below_alloc (below_step (below_alloc (below_step (below_alloc (below_step (below_step (below_step (below_alloc (Below.refl _ _) (.cells #[.slice A0_0 l0_0.length c0_0, .slice A0_1 l0_1.length c0_1] 25)) HS1.out) HS2.out) HS3.out) (.cells #[.slice Ax0 L.length cx0, .slice Ax1 ([] : List S65).length cx1] 25)) HS4.out) (.cells #[.slice Ay0 Y.length cy0, .slice Ay1 ([] : List S65).length cy1] 25)) HS5.out) (.cells #[.slice Az0 Y.length cz0, .slice Az1 ([] : List S65).length cz1] 25)) HS6.out) HS7.out))
    have hkL : a2 < (L.length : Int) := by rw [HLEN.out]; exact k1
    have HB := Aside0.mk (below_step (below_step (below_alloc (below_step (below_alloc (below_step (below_alloc (below_step (below_step (below_step (below_alloc (Below.refl _ _) (.cells #[.slice A0_0 l0_0.length c0_0, .slice A0_1 l0_1.length c0_1] 25)) HS1.out) HS2.out) HS3.out) (.cells #[.slice Ax0 L.length cx0, .slice Ax1 ([] : List S65).length cx1] 25)) HS4.out) (.cells #[.slice Ay0 Y.length cy0, .slice Ay1 ([] : List S65).length cy1] 25)) HS5.out) (.cells #[.slice Az0 Y.length cz0, .slice Az1 ([] : List S65).length cz1] 25)) HS6.out) HS7.out)
    obtain ⟨ax, B0, b0, eax, hxb, hxo, hxle, hxC⟩ := at_T52 (Kd.S_reads' (Kd.S_below Hx0.out (below_step (below_step (below_alloc (below_step (below_alloc (below_step (below_alloc (Below.refl _ _) (.cells #[.slice Ax0 L.length cx0, .slice Ax1 ([] : List S65).length cx1] 25)) HS4.out) (.cells #[.slice Ay0 Y.length cy0, .slice Ay1 ([] : List S65).length cy1] 25)) HS5.out) (.cells #[.slice Az0 Y.length cz0, .slice Az1 ([] : List S65).length cz1] 25)) HS6.out) HS7.out))).2.2 a2 k0 hkL
    obtain ⟨ad, D0, d0, ead, hdb, hdo, hdle, hdC⟩ := at_T52 (Kd.C_below HR0.out (below_step (below_step (below_alloc (below_step (below_alloc (below_step (below_alloc (below_step (below_step (below_step (below_alloc (Below.refl _ _) (.cells #[.slice A0_0 l0_0.length c0_0, .slice A0_1 l0_1.length c0_1] 25)) HS1.out) HS2.out) HS3.out) (.cells #[.slice Ax0 L.length cx0, .slice Ax1 ([] : List S65).length cx1] 25)) HS4.out) (.cells #[.slice Ay0 Y.length cy0, .slice Ay1 ([] : List S65).length cy1] 25)) HS5.out) (.cells #[.slice Az0 Y.length cz0, .slice Az1 ([] : List S65).length cz1] 25)) HS6.out) HS7.out)) a2 k0 k1
    have HBX := Aside0.mk (blk_below (heap_alloc_new w3 (.cells #[.slice Ax0 L.length cx0, .slice Ax1 ([] : List S65).length cx1] 25)) (below_step (below_step (below_alloc (below_step (below_alloc (below_step (Below.refl _ _) HS4.out) (.cells #[.slice Ay0 Y.length cy0, .slice Ay1 ([] : List S65).length cy1] 25)) HS5.out) (.cells #[.slice Az0 Y.length cz0, .slice Az1 ([] : List S65).length cz1] 25)) HS6.out) HS7.out))
    have HBD := Aside0.mk (blk_below (heap_alloc_new w (.cells #[.slice A0_0 l0_0.length c0_0, .slice A0_1 l0_1.length c0_1] 25)) (below_step (below_step (below_alloc (below_step (below_alloc (below_step (below_alloc (below_step (below_step (below_step (Below.refl _ _) HS1.out) HS2.out) HS3.out) (.cells #[.slice Ax0 L.length cx0, .slice Ax1 ([] : List S65).length cx1] 25)) HS4.out) (.cells #[.slice Ay0 Y.length cy0, .slice Ay1 ([] : List S65).length cy1] 25)) HS5.out) (.cells #[.slice Az0 Y.length cz0, .slice Az1 ([] : List S65).length cz1] 25)) HS6.out) HS7.out))
    subst eax
    subst ead
    obtain ⟨nb, nf, hnow⟩ : ∃ nb nf, rd_T52 L a2 = ⟨nb, nf⟩ := ⟨_, _, rfl⟩
    obtain ⟨ob, of_, hwas⟩ : ∃ ob of_, rd_T52 l0_0 a2 = ⟨ob, of_⟩ := ⟨_, _, rfl⟩
    rw [hnow] at hxb hxo hxle hxC
    rw [hwas] at hdb hdo hdle hdC
    rw [hnow, hwas] at HSAYS
    have HXC := Aside0.mk hxC
    have HDC := Aside0.mk hdC
    have HSS := Aside0.mk (show ∀ W : World, Below w7.heap.size w7 W → W.cell? ⟨w3.heap.size, 0, none⟩ = some (.slice (some ax) L.length cx0) ∧ W.cell? ⟨w.heap.size, 0, none⟩ = some (.slice (some ad) l0_0.length c0_0) ∧ W.cell? (ax.add (a2.toNat * 2)) = some (.slice B0 nb.length b0) ∧ W.cell? ⟨(ax.add (a2.toNat * 2)).block, (ax.add (a2.toNat * 2)).off + 1, none⟩ = some (.bool nf) ∧ W.cell? (ad.add (a2.toNat * 2)) = some (.slice D0 ob.length d0) ∧ W.cell? ⟨(ad.add (a2.toNat * 2)).block, (ad.add (a2.toNat * 2)).off + 1, none⟩ = some (.bool of_) from fun W hb => ⟨(blk_cell (blk_below HBX.out hb) 0).trans rfl, (blk_cell (blk_below HBD.out hb) 0).trans rfl, (hb.cell (World.block_lt_of_cell? w7 _ hxb)).trans hxb, (hb.cell (World.block_lt_of_cell? w7 _ hxo)).trans hxo, (hb.cell (World.block_lt_of_cell? w7 _ hdb)).trans hdb, (hb.cell (World.block_lt_of_cell? w7 _ hdo)).trans hdo⟩)
    clear hxb hxo hxle hxC hdb hdo hdle hdC hnow hwas hcd0 hcd1 hcx0 hcx1 hld hlx
    go_cut [16, 17] from 116 to 125 (fun s16 s17 wx => ∃ g16 g17 : Nat, s16 = .pointer (some ⟨g16, 0, none⟩) ∧ s17 = .pointer (some ⟨g17, 0, none⟩) ∧ Aside0 (wx.heap[g16]? = some (.cells #[.slice B0 nb.length b0, .bool nf] 52 (0, 0))) ∧ Aside0 (wx.heap[g17]? = some (.cells #[.slice D0 ob.length d0, .bool of_] 52 (0, 0))) ∧ Aside0 (Below w7.heap.size w7 wx))
    case first =>
      refine start_ (n := 14) (S := fun w' => w'.cell? ⟨w3.heap.size, 0, none⟩ = some (.slice (some ax) L.length cx0) ∧ w'.cell? ⟨w.heap.size, 0, none⟩ = some (.slice (some ad) l0_0.length c0_0) ∧ w'.cell? (ax.add (a2.toNat * 2)) = some (.slice B0 nb.length b0) ∧ w'.cell? ⟨(ax.add (a2.toNat * 2)).block, (ax.add (a2.toNat * 2)).off + 1, none⟩ = some (.bool nf) ∧ w'.cell? (ad.add (a2.toNat * 2)) = some (.slice D0 ob.length d0) ∧ w'.cell? ⟨(ad.add (a2.toNat * 2)).block, (ad.add (a2.toNat * 2)).off + 1, none⟩ = some (.bool of_)) (ds := []) #[false, false, false, false, false, false, false, false, false, false, false, false, false, false] (by kernel_rfl) rfl rfl (by exact HSS.out _ (below_drew1 (Below.refl _ _))) (fun hHeld => ?_); refine with_tabW law10.tab12 law10.bits12 (fun HT_ HW_ => ?_)
      have HD := Aside0.mk (below_drew1 (Below.refl w7.heap.size w7))
      replace HB := Aside0.mk (below_step HB.out (below_drew1 (Below.refl w7.heap.size w7)))
      generalize w7.drew = Wd at HD HB hHeld ⊢
      refine pure_ (i := 0) (N := some 116) (v := ?_) (a' := ?_) #[true, false, false, false, false, false, false, false, false, false, false, false, false, false] rfl rfl (any_of HT_.out (by kernel_rfl)) (fun _ _ _ h => h) (Or.inl ⟨by rfl, ?_⟩) ?_ ?_
      rotate_left
      · intro w'
        go_simp
        with_reducible rfl
      rotate_left
      · simp only [Act.put, List.setIfInBounds_toArray, List.set_cons_zero, List.set_cons_succ, i64_w, i32_w]
        rfl
      refine take_ (i := 1) (N := some 117) (v := ?_) (a' := ?_) #[true, true, false, false, false, false, false, false, false, false, false, false, false, false] rfl rfl (take_ofW HT_.out HW_.out (by kernel_rfl)) (fun _ _ _ h => h) (Or.inl ⟨by rfl, ?_⟩) hHeld ?_ ?_
      rotate_left
      · rintro w' ⟨s0, s1, s2, s3, s4, s5⟩
        go_simp
        with_reducible rfl
      rotate_left
      · simp only [Act.put, List.setIfInBounds_toArray, List.set_cons_zero, List.set_cons_succ, i64_w, i32_w]
        rfl
      refine pure_ (i := 2) (N := some 118) (v := ?_) (a' := ?_) #[true, true, true, false, false, false, false, false, false, false, false, false, false, false] rfl rfl (any_of HT_.out (by kernel_rfl)) (fun _ _ _ h => h) (Or.inl ⟨by rfl, ?_⟩) ?_ ?_
      rotate_left
      · intro w'
        go_simp
        with_reducible rfl
      rotate_left
      · simp only [Act.put, List.setIfInBounds_toArray, List.set_cons_zero, List.set_cons_succ, i64_w, i32_w]
        rfl
      refine pure_ (i := 3) (N := some 119) (v := ?_) (a' := ?_) #[true, true, true, true, false, false, false, false, false, false, false, false, false, false] rfl rfl (any_of HT_.out (by kernel_rfl)) (fun _ _ _ h => h) (Or.inl ⟨by rfl, ?_⟩) ?_ ?_
      rotate_left
      · intro w'
        go_simp
        with_reducible rfl
      rotate_left
      · simp only [Act.put, List.setIfInBounds_toArray, List.set_cons_zero, List.set_cons_succ, i64_w, i32_w]
        rfl
      refine take_ (i := 4) (N := some 120) (v := ?_) (a' := ?_) #[true, true, true, true, true, false, false, false, false, false, false, false, false, false] rfl rfl (take_ofW HT_.out HW_.out (by kernel_rfl)) (fun _ _ _ h => h) (Or.inl ⟨by rfl, ?_⟩) hHeld ?_ ?_
      rotate_left
      · rintro w' ⟨s0, s1, s2, s3, s4, s5⟩
        go_simp
        with_reducible rfl
      rotate_left
      · simp only [Act.put, List.setIfInBounds_toArray, List.set_cons_zero, List.set_cons_succ, i64_w, i32_w]
        rfl
      refine pure_ (i := 5) (N := some 121) (v := ?_) (a' := ?_) #[true, true, true, true, true, true, false, false, false, false, false, false, false, false] rfl rfl (any_of HT_.out (by kernel_rfl)) (fun _ _ _ h => h) (Or.inl ⟨by rfl, ?_⟩) ?_ ?_
      rotate_left
      · intro w'
        go_simp
        with_reducible rfl
      rotate_left
      · simp only [Act.put, List.setIfInBounds_toArray, List.set_cons_zero, List.set_cons_succ, i64_w, i32_w]
        rfl
      refine take_ (i := 6) (N := some 122) (v := ?_) (a' := ?_) #[true, true, true, true, true, true, true, false, false, false, false, false, false, false] rfl rfl (take_ofW HT_.out HW_.out (by kernel_rfl)) (fun _ _ _ h => h) (Or.inl ⟨by rfl, ?_⟩) hHeld ?_ ?_
      rotate_left
      · rintro w' ⟨s0, s1, s2, s3, s4, s5⟩
        go_simp
        with_reducible rfl
      rotate_left
      · simp only [Act.put, List.setIfInBounds_toArray, List.set_cons_zero, List.set_cons_succ, i64_w, i32_w]
        rfl
      refine pure_ (i := 7) (N := some 123) (v := ?_) (a' := ?_) #[true, true, true, true, true, true, true, true, false, false, false, false, false, false] rfl rfl (any_of HT_.out (by kernel_rfl)) (fun _ _ _ h => h) (Or.inl ⟨by rfl, ?_⟩) ?_ ?_
      rotate_left
      · intro w'
        go_simp
        with_reducible rfl
      rotate_left
      · simp only [Act.put, List.setIfInBounds_toArray, List.set_cons_zero, List.set_cons_succ, i64_w, i32_w]
        rfl
      refine pure_ (i := 8) (N := some 124) (v := ?_) (a' := ?_) #[true, true, true, true, true, true, true, true, true, false, false, false, false, false] rfl rfl (any_of HT_.out (by kernel_rfl)) (fun _ _ _ h => h) (Or.inl ⟨by rfl, ?_⟩) ?_ ?_
      rotate_left
      · intro w'
        go_simp
        with_reducible rfl
      rotate_left
      · simp only [Act.put, List.setIfInBounds_toArray, List.set_cons_zero, List.set_cons_succ, i64_w, i32_w]
        rfl
      refine take_ (i := 9) (N := some 125) (v := ?_) (a' := ?_) #[true, true, true, true, true, true, true, true, true, true, false, false, false, false] rfl rfl (take_ofW HT_.out HW_.out (by kernel_rfl)) (fun _ _ _ h => h) (Or.inl ⟨by rfl, ?_⟩) hHeld ?_ ?_
      rotate_left
      · rintro w' ⟨s0, s1, s2, s3, s4, s5⟩
        go_simp
        with_reducible rfl
      rotate_left
      · simp only [Act.put, List.setIfInBounds_toArray, List.set_cons_zero, List.set_cons_succ, i64_w, i32_w]
        rfl
      refine two_ (i := 10) (j := 11) (Ni := some 16) (Nj := some 17) #[true, true, true, true, true, true, true, true, true, true, true, false, false, false] #[true, true, true, true, true, true, true, true, true, true, false, true, false, false] rfl rfl rfl rfl (two_of HT_.out (by kernel_rfl)) (by decide) (by decide) (fun K hK => ?_) (fun K hK => ?_)
      · skip
        refine value_ (w1 := ?_) (v := ?_) (by rfl) rfl ?_ ?_
        rotate_left 2
        · go_simp
          constructor
          · rfl
          · rfl
        have hA := below_alloc (Below.refl Wd.heap.size Wd) (.cells #[.slice none 0 0, .bool false] 52)
        have H16 := Aside0.mk (heap_alloc_new Wd (.cells #[.slice none 0 0, .bool false] 52))
        have HLE16 := Aside0.mk (show w.heap.size ≤ Wd.heap.size from below_size HB.out)
        have HLD16 := Aside0.mk (show w7.heap.size ≤ Wd.heap.size from below_size HD.out)
        replace HB := Aside0.mk (below_step HB.out hA)
        replace HD := Aside0.mk (below_step HD.out hA)
        clear hA hHeld
        generalize Wd.alloc (.cells #[.slice none 0 0, .bool false] 52) = Wa1 at HD HB H16 ⊢
        generalize Wd.heap.size = g16 at H16 HLE16 HLD16 ⊢
        refine hK.out _ _ (by exact HSS.out _ HD.out) (fun hHeld => ?_)
        clear hK K
        refine norm_ (a' := ?_) ?_ ?_
        rotate_left
        · show Act.put _ (some 16) _ = _
          simp only [Act.put, List.setIfInBounds_toArray, List.set_cons_zero, List.set_cons_succ, i64_w, i32_w]
          rfl
        refine one_ (i := 11) (N := some 17) #[true, true, true, true, true, true, true, true, true, true, true, true, false, false] rfl rfl (one_of HT_.out (by kernel_rfl)) (by decide) (fun K hK => ?_)
        refine value_ (w1 := ?_) (v := ?_) (by rfl) rfl ?_ ?_
        rotate_left 2
        · go_simp
          constructor
          · rfl
          · rfl
        have hA := below_alloc (Below.refl Wa1.heap.size Wa1) (.cells #[.slice none 0 0, .bool false] 52)
        have H17 := Aside0.mk (heap_alloc_new Wa1 (.cells #[.slice none 0 0, .bool false] 52))
        have HLE17 := Aside0.mk (show w.heap.size ≤ Wa1.heap.size from below_size HB.out)
        have HLD17 := Aside0.mk (show w7.heap.size ≤ Wa1.heap.size from below_size HD.out)
        have HNE := Aside0.mk (show Wa1.heap.size ≠ g16 from Nat.ne_of_gt (blk_lt H16.out))
        replace HB := Aside0.mk (below_step HB.out hA)
        replace H16 := Aside0.mk (blk_below H16.out hA)
        replace HD := Aside0.mk (below_step HD.out hA)
        clear hA hHeld
        generalize Wa1.alloc (.cells #[.slice none 0 0, .bool false] 52) = Wa2 at HD HB H16 H17 ⊢
        generalize Wa1.heap.size = g17 at H17 HLE17 HLD17 HNE ⊢
        refine hK.out _ _ (by exact HSS.out _ HD.out) (fun hHeld => ?_)
        clear hK K
        refine norm_ (a' := ?_) ?_ ?_
        rotate_left
        · show Act.put _ (some 17) _ = _
          simp only [Act.put, List.setIfInBounds_toArray, List.set_cons_zero, List.set_cons_succ, i64_w, i32_w]
          rfl
        refine one_ (i := 12) (N := none) #[true, true, true, true, true, true, true, true, true, true, true, true, true, false] rfl rfl (one_of HT_.out (by kernel_rfl)) (by decide) (fun K hK => ?_)
        have hz0 : Wa2.cell? ⟨g16, 0, none⟩ = some (.slice none 0 0) := (blk_cell H16.out 0).trans rfl
        have hz1 : Wa2.cell? ⟨g16, 1, none⟩ = some (.bool false) := (blk_cell H16.out 1).trans rfl
        have hf0 := blk_frozen H16.out 0
        have hf1 := blk_frozen H16.out 1
        refine skip_ (w1 := ?_) (by rfl) rfl ?_ ?_
        rotate_left
        · go_simp
          rfl
        clear hHeld hz0 hz1 hf0 hf1
        replace HB := Aside0.mk (show Below w.heap.size w ((Wa2.setCell ⟨g16, 0, none⟩ (.slice B0 nb.length b0)).setCell ⟨g16, 1, none⟩ (.bool nf)) from below_set (below_set HB.out HLE16.out) HLE16.out)
        replace HD := Aside0.mk (show Below w7.heap.size w7 ((Wa2.setCell ⟨g16, 0, none⟩ (.slice B0 nb.length b0)).setCell ⟨g16, 1, none⟩ (.bool nf)) from below_set (below_set HD.out HLD16.out) HLD16.out)
        replace H16 := Aside0.mk (show ((Wa2.setCell ⟨g16, 0, none⟩ (.slice B0 nb.length b0)).setCell ⟨g16, 1, none⟩ (.bool nf)).heap[g16]? = some (.cells #[.slice B0 nb.length b0, .bool nf] 52 (0, 0)) from blk_put (cs := #[.slice B0 nb.length b0, .bool false]) (blk_put (cs := #[.slice none 0 0, .bool false]) H16.out 0 _ rfl) 1 _ rfl)
        replace H17 := Aside0.mk (blk_far (p := ⟨g16, 1, none⟩) (blk_far (p := ⟨g16, 0, none⟩) H17.out (by first | exact HNE.out | exact Ne.symm HNE.out) (.slice B0 nb.length b0)) (by first | exact HNE.out | exact Ne.symm HNE.out) (.bool nf))
        generalize ((Wa2.setCell ⟨g16, 0, none⟩ (.slice B0 nb.length b0)).setCell ⟨g16, 1, none⟩ (.bool nf)) = Wp3 at HD HB H16 H17 ⊢
        refine hK.out _ _ (by exact HSS.out _ HD.out) (fun hHeld => ?_)
        clear hK K
        refine one_ (i := 13) (N := none) #[true, true, true, true, true, true, true, true, true, true, true, true, true, true] rfl rfl (one_of HT_.out (by kernel_rfl)) (by decide) (fun K hK => ?_)
        have hz0 : Wp3.cell? ⟨g17, 0, none⟩ = some (.slice none 0 0) := (blk_cell H17.out 0).trans rfl
        have hz1 : Wp3.cell? ⟨g17, 1, none⟩ = some (.bool false) := (blk_cell H17.out 1).trans rfl
        have hf0 := blk_frozen H17.out 0
        have hf1 := blk_frozen H17.out 1
        refine skip_ (w1 := ?_) (by rfl) rfl ?_ ?_
        rotate_left
        · go_simp
          rfl
        clear hHeld hz0 hz1 hf0 hf1
        replace HB := Aside0.mk (show Below w.heap.size w ((Wp3.setCell ⟨g17, 0, none⟩ (.slice D0 ob.length d0)).setCell ⟨g17, 1, none⟩ (.bool of_)) from below_set (below_set HB.out HLE17.out) HLE17.out)
        replace HD := Aside0.mk (show Below w7.heap.size w7 ((Wp3.setCell ⟨g17, 0, none⟩ (.slice D0 ob.length d0)).setCell ⟨g17, 1, none⟩ (.bool of_)) from below_set (below_set HD.out HLD17.out) HLD17.out)
        replace H17 := Aside0.mk (show ((Wp3.setCell ⟨g17, 0, none⟩ (.slice D0 ob.length d0)).setCell ⟨g17, 1, none⟩ (.bool of_)).heap[g17]? = some (.cells #[.slice D0 ob.length d0, .bool of_] 52 (0, 0)) from blk_put (cs := #[.slice D0 ob.length d0, .bool false]) (blk_put (cs := #[.slice none 0 0, .bool false]) H17.out 0 _ rfl) 1 _ rfl)
        replace H16 := Aside0.mk (blk_far (p := ⟨g17, 1, none⟩) (blk_far (p := ⟨g17, 0, none⟩) H16.out (by first | exact HNE.out | exact Ne.symm HNE.out) (.slice D0 ob.length d0)) (by first | exact HNE.out | exact Ne.symm HNE.out) (.bool of_))
        generalize ((Wp3.setCell ⟨g17, 0, none⟩ (.slice D0 ob.length d0)).setCell ⟨g17, 1, none⟩ (.bool of_)) = Wp4 at HD HB H16 H17 ⊢
        refine hK.out _ _ (by exact HSS.out _ HD.out) (fun hHeld => ?_)
        clear hK K
        refine done_ (done_of HT_.out (by kernel_rfl)) ?_
        try go_wp2
        go_meet
        exact ⟨g16, g17, rfl, rfl, H16, H17, HD⟩
      · skip
        refine value_ (w1 := ?_) (v := ?_) (by rfl) rfl ?_ ?_
        rotate_left 2
        · go_simp
          constructor
          · rfl
          · rfl
        have hA := below_alloc (Below.refl Wd.heap.size Wd) (.cells #[.slice none 0 0, .bool false] 52)
        have H17 := Aside0.mk (heap_alloc_new Wd (.cells #[.slice none 0 0, .bool false] 52))
        have HLE17 := Aside0.mk (show w.heap.size ≤ Wd.heap.size from below_size HB.out)
        have HLD17 := Aside0.mk (show w7.heap.size ≤ Wd.heap.size from below_size HD.out)
        replace HB := Aside0.mk (below_step HB.out hA)
        replace HD := Aside0.mk (below_step HD.out hA)
        clear hA hHeld
        generalize Wd.alloc (.cells #[.slice none 0 0, .bool false] 52) = Wa5 at HD HB H17 ⊢
        generalize Wd.heap.size = g17 at H17 HLE17 HLD17 ⊢
        refine hK.out _ _ (by exact HSS.out _ HD.out) (fun hHeld => ?_)
        clear hK K
        refine norm_ (a' := ?_) ?_ ?_
        rotate_left
        · show Act.put _ (some 17) _ = _
          simp only [Act.put, List.setIfInBounds_toArray, List.set_cons_zero, List.set_cons_succ, i64_w, i32_w]
          rfl
        refine one_ (i := 10) (N := some 16) #[true, true, true, true, true, true, true, true, true, true, true, true, false, false] rfl rfl (one_of HT_.out (by kernel_rfl)) (by decide) (fun K hK => ?_)
        refine value_ (w1 := ?_) (v := ?_) (by rfl) rfl ?_ ?_
        rotate_left 2
        · go_simp
          constructor
          · rfl
          · rfl
        have hA := below_alloc (Below.refl Wa5.heap.size Wa5) (.cells #[.slice none 0 0, .bool false] 52)
        have H16 := Aside0.mk (heap_alloc_new Wa5 (.cells #[.slice none 0 0, .bool false] 52))
        have HLE16 := Aside0.mk (show w.heap.size ≤ Wa5.heap.size from below_size HB.out)
        have HLD16 := Aside0.mk (show w7.heap.size ≤ Wa5.heap.size from below_size HD.out)
        have HNE := Aside0.mk (show Wa5.heap.size ≠ g17 from Nat.ne_of_gt (blk_lt H17.out))
        replace HB := Aside0.mk (below_step HB.out hA)
        replace H17 := Aside0.mk (blk_below H17.out hA)
        replace HD := Aside0.mk (below_step HD.out hA)
        clear hA hHeld
        generalize Wa5.alloc (.cells #[.slice none 0 0, .bool false] 52) = Wa6 at HD HB H17 H16 ⊢
        generalize Wa5.heap.size = g16 at H16 HLE16 HLD16 HNE ⊢
        refine hK.out _ _ (by exact HSS.out _ HD.out) (fun hHeld => ?_)
        clear hK K
        refine norm_ (a' := ?_) ?_ ?_
        rotate_left
        · show Act.put _ (some 16) _ = _
          simp only [Act.put, List.setIfInBounds_toArray, List.set_cons_zero, List.set_cons_succ, i64_w, i32_w]
          rfl
        refine one_ (i := 12) (N := none) #[true, true, true, true, true, true, true, true, true, true, true, true, true, false] rfl rfl (one_of HT_.out (by kernel_rfl)) (by decide) (fun K hK => ?_)
        have hz0 : Wa6.cell? ⟨g16, 0, none⟩ = some (.slice none 0 0) := (blk_cell H16.out 0).trans rfl
        have hz1 : Wa6.cell? ⟨g16, 1, none⟩ = some (.bool false) := (blk_cell H16.out 1).trans rfl
        have hf0 := blk_frozen H16.out 0
        have hf1 := blk_frozen H16.out 1
        refine skip_ (w1 := ?_) (by rfl) rfl ?_ ?_
        rotate_left
        · go_simp
          rfl
        clear hHeld hz0 hz1 hf0 hf1
        replace HB := Aside0.mk (show Below w.heap.size w ((Wa6.setCell ⟨g16, 0, none⟩ (.slice B0 nb.length b0)).setCell ⟨g16, 1, none⟩ (.bool nf)) from below_set (below_set HB.out HLE16.out) HLE16.out)
        replace HD := Aside0.mk (show Below w7.heap.size w7 ((Wa6.setCell ⟨g16, 0, none⟩ (.slice B0 nb.length b0)).setCell ⟨g16, 1, none⟩ (.bool nf)) from below_set (below_set HD.out HLD16.out) HLD16.out)
        replace H16 := Aside0.mk (show ((Wa6.setCell ⟨g16, 0, none⟩ (.slice B0 nb.length b0)).setCell ⟨g16, 1, none⟩ (.bool nf)).heap[g16]? = some (.cells #[.slice B0 nb.length b0, .bool nf] 52 (0, 0)) from blk_put (cs := #[.slice B0 nb.length b0, .bool false]) (blk_put (cs := #[.slice none 0 0, .bool false]) H16.out 0 _ rfl) 1 _ rfl)
        replace H17 := Aside0.mk (blk_far (p := ⟨g16, 1, none⟩) (blk_far (p := ⟨g16, 0, none⟩) H17.out (by first | exact HNE.out | exact Ne.symm HNE.out) (.slice B0 nb.length b0)) (by first | exact HNE.out | exact Ne.symm HNE.out) (.bool nf))
        generalize ((Wa6.setCell ⟨g16, 0, none⟩ (.slice B0 nb.length b0)).setCell ⟨g16, 1, none⟩ (.bool nf)) = Wp7 at HD HB H17 H16 ⊢
        refine hK.out _ _ (by exact HSS.out _ HD.out) (fun hHeld => ?_)
        clear hK K
        refine one_ (i := 13) (N := none) #[true, true, true, true, true, true, true, true, true, true, true, true, true, true] rfl rfl (one_of HT_.out (by kernel_rfl)) (by decide) (fun K hK => ?_)
        have hz0 : Wp7.cell? ⟨g17, 0, none⟩ = some (.slice none 0 0) := (blk_cell H17.out 0).trans rfl
        have hz1 : Wp7.cell? ⟨g17, 1, none⟩ = some (.bool false) := (blk_cell H17.out 1).trans rfl
        have hf0 := blk_frozen H17.out 0
        have hf1 := blk_frozen H17.out 1
        refine skip_ (w1 := ?_) (by rfl) rfl ?_ ?_
        rotate_left
        · go_simp
          rfl
        clear hHeld hz0 hz1 hf0 hf1
        replace HB := Aside0.mk (show Below w.heap.size w ((Wp7.setCell ⟨g17, 0, none⟩ (.slice D0 ob.length d0)).setCell ⟨g17, 1, none⟩ (.bool of_)) from below_set (below_set HB.out HLE17.out) HLE17.out)
        replace HD := Aside0.mk (show Below w7.heap.size w7 ((Wp7.setCell ⟨g17, 0, none⟩ (.slice D0 ob.length d0)).setCell ⟨g17, 1, none⟩ (.bool of_)) from below_set (below_set HD.out HLD17.out) HLD17.out)
        replace H17 := Aside0.mk (show ((Wp7.setCell ⟨g17, 0, none⟩ (.slice D0 ob.length d0)).setCell ⟨g17, 1, none⟩ (.bool of_)).heap[g17]? = some (.cells #[.slice D0 ob.length d0, .bool of_] 52 (0, 0)) from blk_put (cs := #[.slice D0 ob.length d0, .bool false]) (blk_put (cs := #[.slice none 0 0, .bool false]) H17.out 0 _ rfl) 1 _ rfl)
        replace H16 := Aside0.mk (blk_far (p := ⟨g17, 1, none⟩) (blk_far (p := ⟨g17, 0, none⟩) H16.out (by first | exact HNE.out | exact Ne.symm HNE.out) (.slice D0 ob.length d0)) (by first | exact HNE.out | exact Ne.symm HNE.out) (.bool of_))
        generalize ((Wp7.setCell ⟨g17, 0, none⟩ (.slice D0 ob.length d0)).setCell ⟨g17, 1, none⟩ (.bool of_)) = Wp8 at HD HB H17 H16 ⊢
        refine hK.out _ _ (by exact HSS.out _ HD.out) (fun hHeld => ?_)
        clear hK K
        refine done_ (done_of HT_.out (by kernel_rfl)) ?_
        try go_wp2
        go_meet
        exact ⟨g16, g17, rfl, rfl, H16, H17, HD⟩
    case rest =>
      obtain ⟨g16, g17, rfl, rfl, H16, H17, HD⟩ := hcut
      have HS2 := Aside0.mk (show ∀ W : World, Below w7.heap.size w7 W → (W.cell? ⟨w3.heap.size, 0, none⟩ = some (.slice (some ax) L.length cx0) ∧ W.cell? ⟨w3.heap.size, 1, none⟩ = some (.slice Ax1 ([] : List S65).length cx1)) ∧ W.cell? ⟨w.heap.size, 0, none⟩ = some (.slice (some ad) l0_0.length c0_0) ∧ W.cell? ⟨w.heap.size, 1, none⟩ = some (.slice A0_1 l0_1.length c0_1) from fun W hb => ⟨⟨(blk_cell (blk_below HBX.out hb) 0).trans rfl, (blk_cell (blk_below HBX.out hb) 1).trans rfl⟩, (blk_cell (blk_below HBD.out hb) 0).trans rfl, (blk_cell (blk_below HBD.out hb) 1).trans rfl⟩)
      have HWL := Aside0.mk (show Kd.C k52 w7 (some ax) L.length L ∧ L.length ≤ cx0 ∧ Kd.C k65 w7 Ax1 ([] : List S65).length [] ∧ ([] : List S65).length ≤ cx1 ∧ Kd.C k65 w7 A0_1 l0_1.length l0_1 from ⟨HWX.out.1, HWX.out.2, HWY.out.1, HWY.out.2, HWZ.out⟩)
      have hcs1 := Kd.C_string (P := Try.prog) (A := B0) (c := b0) Try.underlying26 Try.underlying5 Try.underlying9 (Kd.C_below HXC.out HD.out)
      have hcs2 := Kd.C_string (P := Try.prog) (A := D0) (c := d0) Try.underlying26 Try.underlying5 Try.underlying9 (Kd.C_below HDC.out HD.out)
      have z0 : wc.cell? ⟨g16, 0, none⟩ = some (.slice B0 nb.length b0) := (blk_cell H16.out 0).trans rfl
      have z1 : wc.cell? ⟨g16, 1, none⟩ = some (.bool nf) := (blk_cell H16.out 1).trans rfl
      have z2 : wc.cell? ⟨g17, 0, none⟩ = some (.slice D0 ob.length d0) := (blk_cell H17.out 0).trans rfl
      have z3 : wc.cell? ⟨g17, 1, none⟩ = some (.bool of_) := (blk_cell H17.out 1).trans rfl
      clear HSS
      go_upto_region 13 with fail
      go_cut [18] from 126 to 139 (fun s18 wx => wx = wc ∧ s18 = .bool (nf == of_ && ((strOfNums nb).toList == (strOfNums ob).toList)))
      case first =>
        cases hs : ((strOfNums nb).toList == (strOfNums ob).toList)
        all_goals
          cases nf <;> cases of_
          all_goals
            go_wp2_with fail
            go_meet
            exact ⟨rfl, by first | rfl | (rw [hs]; rfl)⟩
      case rest =>
      obtain ⟨rfl, rfl⟩ := hcut
      clear hcs1 hcs2 z0 z2 z3
      have hbb : (nf = of_ ∧ nb = ob) → (nf == of_ && ((strOfNums nb).toList == (strOfNums ob).toList)) = true := by rintro ⟨rfl, rfl⟩; simp
      have HBB := Aside0.mk hbb
      clear hbb
      generalize (nf == of_ && ((strOfNums nb).toList == (strOfNums ob).toList)) = b13 at HBB ⊢
      cases wb with
      | false =>
        obtain rfl : b13 = true := HBB.out (by
          rcases HSAYS.out with h | ⟨p, hp, h0, _⟩
          · injection h with h1 h2; exact ⟨h2, h1⟩
          · exact absurd h0 (lastP_none_mem HWB.out.symm p hp))
        go_wp2_with fail
        go_ret
        exact ⟨rfl, below_step HB.out HD.out⟩
      | true =>
      go_upto_region 16 with fail
      go_cut [18] from 146 to 150 (fun s18 wx => wx = wc ∧ s18 = .bool (b13 || nf))
      case first =>
        cases b13 <;> cases nf
        all_goals
          go_wp2_with fail
          go_meet
          exact ⟨rfl, rfl⟩
      case rest =>
      obtain ⟨rfl, rfl⟩ := hcut
      clear z1
      go_wp2_with fail
      go_loopw [18, 19] (fun s18 s19 wr => ∃ (k : Nat) (b : Bool), k ≤ l0_1.length ∧ s19 = .int .i64 k ∧ s18 = .bool b ∧ Aside0 (b = false → nf = false ∧ b13 = false ∧ ∀ i, i < k → (rd_T65 l0_1 (i : Int)).f0 = a2 → (rd_T65 l0_1 (i : Int)).f1 ≠ nb) ∧ Aside0 (Below wc.heap.size wc wr)) (fun _ i _ => l0_1.length - (intOf i).toNat)
      case atStart => exact ⟨0, _, Nat.zero_le _, rfl, rfl, ⟨fun h => by cases b13 <;> cases nf <;> simp at h; exact ⟨rfl, rfl, fun i hi => absurd hi (Nat.not_lt_zero _)⟩⟩, ⟨Below.refl _ _⟩⟩
      case round =>
        obtain ⟨k, b, hk, rfl, rfl, HI, HR⟩ := hrel
        have HDR := Aside0.mk (below_step HD.out HR.out)
        obtain ⟨⟨q0, q1⟩, q2, q3⟩ := HS2.out _ HDR.out
        have hmx := HN1.out
        by_cases hlt : k < l0_1.length
        · have r0 : 0 ≤ (k : Int) := by omega
          have r1 : (k : Int) < l0_1.length := by omega
          obtain ⟨ap, P0, p0, eap, hpb, hpo, hple, hpC⟩ := at_T65 (Kd.C_below HWL.out.2.2.2.2 HDR.out) (k : Int) r0 r1
          subst eap
          simp only [Int.toNat_natCast] at hpb hpo
          obtain ⟨pa, pb, hpp⟩ : ∃ pa pb, rd_T65 l0_1 (k : Int) = ⟨pa, pb⟩ := ⟨_, _, rfl⟩
          have HPP := Aside0.mk hpp
          rw [hpp] at hpb hpo hpC
          have HSS := Aside0.mk (show ∀ W : World, Below wr.heap.size wr W → W.cell? ⟨w.heap.size, 1, none⟩ = some (.slice (some ap) l0_1.length c0_1) ∧ W.cell? (ap.add (k * 2)) = some (.int .i64 pa) ∧ W.cell? ⟨(ap.add (k * 2)).block, (ap.add (k * 2)).off + 1, none⟩ = some (.slice P0 pb.length p0) ∧ W.cell? ⟨g16, 1, none⟩ = some (.bool nf) ∧ W.cell? ⟨g16, 0, none⟩ = some (.slice B0 nb.length b0) ∧ (convert 26 9 (.slice B0 nb.length b0)).run Try.prog W = .ok (.string (strOfNums nb)) W ∧ (convert 26 9 (.slice P0 pb.length p0)).run Try.prog W = .ok (.string (strOfNums pb)) W from fun W hb => ⟨(hb.cell (World.block_lt_of_cell? wr _ q3)).trans q3, (hb.cell (World.block_lt_of_cell? wr _ hpb)).trans hpb, (hb.cell (World.block_lt_of_cell? wr _ hpo)).trans hpo, (blk_cell (blk_below (blk_below H16.out HR.out) hb) 1).trans rfl, (blk_cell (blk_below (blk_below H16.out HR.out) hb) 0).trans rfl, Kd.C_string (P := Try.prog) (A := B0) (c := b0) Try.underlying26 Try.underlying5 Try.underlying9 (Kd.C_below HXC.out (below_step HDR.out hb)), Kd.C_string (P := Try.prog) (A := P0) (c := p0) Try.underlying26 Try.underlying5 Try.underlying9 (Kd.C_below hpC hb)⟩)
          clear hpb hpo hple hpC hpp q0 q1 q2
          cases b with
          | true =>
            go_wp2_with fail
            refine start_ (n := 30) (S := fun w' => w'.cell? ⟨w.heap.size, 1, none⟩ = some (.slice (some ap) l0_1.length c0_1) ∧ w'.cell? (ap.add (k * 2)) = some (.int .i64 pa) ∧ w'.cell? ⟨(ap.add (k * 2)).block, (ap.add (k * 2)).off + 1, none⟩ = some (.slice P0 pb.length p0) ∧ w'.cell? ⟨g16, 1, none⟩ = some (.bool nf) ∧ w'.cell? ⟨g16, 0, none⟩ = some (.slice B0 nb.length b0) ∧ (convert 26 9 (.slice B0 nb.length b0)).run Try.prog w' = .ok (.string (strOfNums nb)) w' ∧ (convert 26 9 (.slice P0 pb.length p0)).run Try.prog w' = .ok (.string (strOfNums pb)) w') (ds := []) #[false, false, false, false, false, false, false, false, false, false, false, false, false, false, false, false, false, false, false, false, false, false, false, false, false, false, false, false, false, false] (by kernel_rfl) rfl rfl (by exact HSS.out _ (below_drew1 (Below.refl _ _))) (fun hHeld => ?_); refine with_tabW law10.tab20 law10.bits20 (fun HT_ HW_ => ?_)
            refine pure_ (i := 0) (N := some 158) (v := ?_) (a' := ?_) #[true, false, false, false, false, false, false, false, false, false, false, false, false, false, false, false, false, false, false, false, false, false, false, false, false, false, false, false, false, false] rfl rfl (any_of HT_.out (by kernel_rfl)) (fun _ _ _ h => h) (Or.inl ⟨by rfl, ?_⟩) ?_ ?_
            rotate_left
            · intro w'
              go_simp
              with_reducible rfl
            rotate_left
            · simp only [Act.put, List.setIfInBounds_toArray, List.set_cons_zero, List.set_cons_succ, i64_w, i32_w]
              rfl
            refine pure_ (i := 1) (N := some 159) (v := ?_) (a' := ?_) #[true, true, false, false, false, false, false, false, false, false, false, false, false, false, false, false, false, false, false, false, false, false, false, false, false, false, false, false, false, false] rfl rfl (any_of HT_.out (by kernel_rfl)) (fun _ _ _ h => h) (Or.inl ⟨by rfl, ?_⟩) ?_ ?_
            rotate_left
            · intro w'
              go_simp
              with_reducible rfl
            rotate_left
            · simp only [Act.put, List.setIfInBounds_toArray, List.set_cons_zero, List.set_cons_succ, i64_w, i32_w]
              rfl
            refine pure_ (i := 2) (N := some 160) (v := undef) (a' := ?_) #[true, true, true, false, false, false, false, false, false, false, false, false, false, false, false, false, false, false, false, false, false, false, false, false, false, false, false, false, false, false] rfl rfl (any_of HT_.out (by kernel_rfl)) (fun _ _ _ h => h) (Or.inr ⟨by rfl, rfl⟩) ?_ ?_
            rotate_left
            · simp only [Act.put, List.setIfInBounds_toArray, List.set_cons_zero, List.set_cons_succ, i64_w, i32_w]
              rfl
            refine pure_ (i := 3) (N := some 161) (v := undef) (a' := ?_) #[true, true, true, true, false, false, false, false, false, false, false, false, false, false, false, false, false, false, false, false, false, false, false, false, false, false, false, false, false, false] rfl rfl (any_of HT_.out (by kernel_rfl)) (fun _ _ _ h => h) (Or.inr ⟨by rfl, rfl⟩) ?_ ?_
            rotate_left
            · simp only [Act.put, List.setIfInBounds_toArray, List.set_cons_zero, List.set_cons_succ, i64_w, i32_w]
              rfl
            refine pure_ (i := 4) (N := some 162) (v := undef) (a' := ?_) #[true, true, true, true, true, false, false, false, false, false, false, false, false, false, false, false, false, false, false, false, false, false, false, false, false, false, false, false, false, false] rfl rfl (any_of HT_.out (by kernel_rfl)) (fun _ _ _ h => h) (Or.inr ⟨by rfl, rfl⟩) ?_ ?_
            rotate_left
            · simp only [Act.put, List.setIfInBounds_toArray, List.set_cons_zero, List.set_cons_succ, i64_w, i32_w]
              rfl
            refine pure_ (i := 5) (N := some 163) (v := undef) (a' := ?_) #[true, true, true, true, true, true, false, false, false, false, false, false, false, false, false, false, false, false, false, false, false, false, false, false, false, false, false, false, false, false] rfl rfl (any_of HT_.out (by kernel_rfl)) (fun _ _ _ h => h) (Or.inr ⟨by rfl, rfl⟩) ?_ ?_
            rotate_left
            · simp only [Act.put, List.setIfInBounds_toArray, List.set_cons_zero, List.set_cons_succ, i64_w, i32_w]
              rfl
            refine pure_ (i := 6) (N := some 164) (v := undef) (a' := ?_) #[true, true, true, true, true, true, true, false, false, false, false, false, false, false, false, false, false, false, false, false, false, false, false, false, false, false, false, false, false, false] rfl rfl (any_of HT_.out (by kernel_rfl)) (fun _ _ _ h => h) (Or.inr ⟨by rfl, rfl⟩) ?_ ?_
            rotate_left
            · simp only [Act.put, List.setIfInBounds_toArray, List.set_cons_zero, List.set_cons_succ, i64_w, i32_w]
              rfl
            refine pure_ (i := 7) (N := some 165) (v := undef) (a' := ?_) #[true, true, true, true, true, true, true, true, false, false, false, false, false, false, false, false, false, false, false, false, false, false, false, false, false, false, false, false, false, false] rfl rfl (any_of HT_.out (by kernel_rfl)) (fun _ _ _ h => h) (Or.inr ⟨by rfl, rfl⟩) ?_ ?_
            rotate_left
            · simp only [Act.put, List.setIfInBounds_toArray, List.set_cons_zero, List.set_cons_succ, i64_w, i32_w]
              rfl
            refine pure_ (i := 8) (N := some 166) (v := undef) (a' := ?_) #[true, true, true, true, true, true, true, true, true, false, false, false, false, false, false, false, false, false, false, false, false, false, false, false, false, false, false, false, false, false] rfl rfl (any_of HT_.out (by kernel_rfl)) (fun _ _ _ h => h) (Or.inr ⟨by rfl, rfl⟩) ?_ ?_
            rotate_left
            · simp only [Act.put, List.setIfInBounds_toArray, List.set_cons_zero, List.set_cons_succ, i64_w, i32_w]
              rfl
            refine pure_ (i := 9) (N := some 167) (v := undef) (a' := ?_) #[true, true, true, true, true, true, true, true, true, true, false, false, false, false, false, false, false, false, false, false, false, false, false, false, false, false, false, false, false, false] rfl rfl (any_of HT_.out (by kernel_rfl)) (fun _ _ _ h => h) (Or.inr ⟨by rfl, rfl⟩) ?_ ?_
            rotate_left
            · simp only [Act.put, List.setIfInBounds_toArray, List.set_cons_zero, List.set_cons_succ, i64_w, i32_w]
              rfl
            refine pure_ (i := 10) (N := some 168) (v := undef) (a' := ?_) #[true, true, true, true, true, true, true, true, true, true, true, false, false, false, false, false, false, false, false, false, false, false, false, false, false, false, false, false, false, false] rfl rfl (any_of HT_.out (by kernel_rfl)) (fun _ _ _ h => h) (Or.inr ⟨by rfl, rfl⟩) ?_ ?_
            rotate_left
            · simp only [Act.put, List.setIfInBounds_toArray, List.set_cons_zero, List.set_cons_succ, i64_w, i32_w]
              rfl
            refine pure_ (i := 11) (N := some 169) (v := undef) (a' := ?_) #[true, true, true, true, true, true, true, true, true, true, true, true, false, false, false, false, false, false, false, false, false, false, false, false, false, false, false, false, false, false] rfl rfl (any_of HT_.out (by kernel_rfl)) (fun _ _ _ h => h) (Or.inr ⟨by rfl, rfl⟩) ?_ ?_
            rotate_left
            · simp only [Act.put, List.setIfInBounds_toArray, List.set_cons_zero, List.set_cons_succ, i64_w, i32_w]
              rfl
            refine pure_ (i := 12) (N := some 170) (v := undef) (a' := ?_) #[true, true, true, true, true, true, true, true, true, true, true, true, true, false, false, false, false, false, false, false, false, false, false, false, false, false, false, false, false, false] rfl rfl (any_of HT_.out (by kernel_rfl)) (fun _ _ _ h => h) (Or.inr ⟨by rfl, rfl⟩) ?_ ?_
            rotate_left
            · simp only [Act.put, List.setIfInBounds_toArray, List.set_cons_zero, List.set_cons_succ, i64_w, i32_w]
              rfl
            refine pure_ (i := 13) (N := some 171) (v := undef) (a' := ?_) #[true, true, true, true, true, true, true, true, true, true, true, true, true, true, false, false, false, false, false, false, false, false, false, false, false, false, false, false, false, false] rfl rfl (any_of HT_.out (by kernel_rfl)) (fun _ _ _ h => h) (Or.inr ⟨by rfl, rfl⟩) ?_ ?_
            rotate_left
            · simp only [Act.put, List.setIfInBounds_toArray, List.set_cons_zero, List.set_cons_succ, i64_w, i32_w]
              rfl
            refine pure_ (i := 14) (N := some 172) (v := undef) (a' := ?_) #[true, true, true, true, true, true, true, true, true, true, true, true, true, true, true, false, false, false, false, false, false, false, false, false, false, false, false, false, false, false] rfl rfl (any_of HT_.out (by kernel_rfl)) (fun _ _ _ h => h) (Or.inr ⟨by rfl, rfl⟩) ?_ ?_
            rotate_left
            · simp only [Act.put, List.setIfInBounds_toArray, List.set_cons_zero, List.set_cons_succ, i64_w, i32_w]
              rfl
            refine pure_ (i := 15) (N := some 173) (v := undef) (a' := ?_) #[true, true, true, true, true, true, true, true, true, true, true, true, true, true, true, true, false, false, false, false, false, false, false, false, false, false, false, false, false, false] rfl rfl (any_of HT_.out (by kernel_rfl)) (fun _ _ _ h => h) (Or.inr ⟨by rfl, rfl⟩) ?_ ?_
            rotate_left
            · simp only [Act.put, List.setIfInBounds_toArray, List.set_cons_zero, List.set_cons_succ, i64_w, i32_w]
              rfl
            refine pure_ (i := 16) (N := some 174) (v := undef) (a' := ?_) #[true, true, true, true, true, true, true, true, true, true, true, true, true, true, true, true, true, false, false, false, false, false, false, false, false, false, false, false, false, false] rfl rfl (any_of HT_.out (by kernel_rfl)) (fun _ _ _ h => h) (Or.inr ⟨by rfl, rfl⟩) ?_ ?_
            rotate_left
            · simp only [Act.put, List.setIfInBounds_toArray, List.set_cons_zero, List.set_cons_succ, i64_w, i32_w]
              rfl
            refine pure_ (i := 17) (N := some 175) (v := undef) (a' := ?_) #[true, true, true, true, true, true, true, true, true, true, true, true, true, true, true, true, true, true, false, false, false, false, false, false, false, false, false, false, false, false] rfl rfl (any_of HT_.out (by kernel_rfl)) (fun _ _ _ h => h) (Or.inr ⟨by rfl, rfl⟩) ?_ ?_
            rotate_left
            · simp only [Act.put, List.setIfInBounds_toArray, List.set_cons_zero, List.set_cons_succ, i64_w, i32_w]
              rfl
            refine pure_ (i := 18) (N := some 176) (v := undef) (a' := ?_) #[true, true, true, true, true, true, true, true, true, true, true, true, true, true, true, true, true, true, true, false, false, false, false, false, false, false, false, false, false, false] rfl rfl (any_of HT_.out (by kernel_rfl)) (fun _ _ _ h => h) (Or.inr ⟨by rfl, rfl⟩) ?_ ?_
            rotate_left
            · simp only [Act.put, List.setIfInBounds_toArray, List.set_cons_zero, List.set_cons_succ, i64_w, i32_w]
              rfl
            refine pure_ (i := 19) (N := some 177) (v := undef) (a' := ?_) #[true, true, true, true, true, true, true, true, true, true, true, true, true, true, true, true, true, true, true, true, false, false, false, false, false, false, false, false, false, false] rfl rfl (any_of HT_.out (by kernel_rfl)) (fun _ _ _ h => h) (Or.inr ⟨by rfl, rfl⟩) ?_ ?_
            rotate_left
            · simp only [Act.put, List.setIfInBounds_toArray, List.set_cons_zero, List.set_cons_succ, i64_w, i32_w]
              rfl
            refine pure_ (i := 20) (N := some 178) (v := undef) (a' := ?_) #[true, true, true, true, true, true, true, true, true, true, true, true, true, true, true, true, true, true, true, true, true, false, false, false, false, false, false, false, false, false] rfl rfl (any_of HT_.out (by kernel_rfl)) (fun _ _ _ h => h) (Or.inr ⟨by rfl, rfl⟩) ?_ ?_
            rotate_left
            · simp only [Act.put, List.setIfInBounds_toArray, List.set_cons_zero, List.set_cons_succ, i64_w, i32_w]
              rfl
            refine pure_ (i := 21) (N := some 179) (v := undef) (a' := ?_) #[true, true, true, true, true, true, true, true, true, true, true, true, true, true, true, true, true, true, true, true, true, true, false, false, false, false, false, false, false, false] rfl rfl (any_of HT_.out (by kernel_rfl)) (fun _ _ _ h => h) (Or.inr ⟨by rfl, rfl⟩) ?_ ?_
            rotate_left
            · simp only [Act.put, List.setIfInBounds_toArray, List.set_cons_zero, List.set_cons_succ, i64_w, i32_w]
              rfl
            refine pure_ (i := 22) (N := some 180) (v := undef) (a' := ?_) #[true, true, true, true, true, true, true, true, true, true, true, true, true, true, true, true, true, true, true, true, true, true, true, false, false, false, false, false, false, false] rfl rfl (any_of HT_.out (by kernel_rfl)) (fun _ _ _ h => h) (Or.inr ⟨by rfl, rfl⟩) ?_ ?_
            rotate_left
            · simp only [Act.put, List.setIfInBounds_toArray, List.set_cons_zero, List.set_cons_succ, i64_w, i32_w]
              rfl
            refine pure_ (i := 23) (N := some 181) (v := undef) (a' := ?_) #[true, true, true, true, true, true, true, true, true, true, true, true, true, true, true, true, true, true, true, true, true, true, true, true, false, false, false, false, false, false] rfl rfl (any_of HT_.out (by kernel_rfl)) (fun _ _ _ h => h) (Or.inr ⟨by rfl, rfl⟩) ?_ ?_
            rotate_left
            · simp only [Act.put, List.setIfInBounds_toArray, List.set_cons_zero, List.set_cons_succ, i64_w, i32_w]
              rfl
            refine pure_ (i := 24) (N := some 182) (v := undef) (a' := ?_) #[true, true, true, true, true, true, true, true, true, true, true, true, true, true, true, true, true, true, true, true, true, true, true, true, true, false, false, false, false, false] rfl rfl (any_of HT_.out (by kernel_rfl)) (fun _ _ _ h => h) (Or.inr ⟨by rfl, rfl⟩) ?_ ?_
            rotate_left
            · simp only [Act.put, List.setIfInBounds_toArray, List.set_cons_zero, List.set_cons_succ, i64_w, i32_w]
              rfl
            refine pure_ (i := 25) (N := some 183) (v := undef) (a' := ?_) #[true, true, true, true, true, true, true, true, true, true, true, true, true, true, true, true, true, true, true, true, true, true, true, true, true, true, false, false, false, false] rfl rfl (any_of HT_.out (by kernel_rfl)) (fun _ _ _ h => h) (Or.inr ⟨by rfl, rfl⟩) ?_ ?_
            rotate_left
            · simp only [Act.put, List.setIfInBounds_toArray, List.set_cons_zero, List.set_cons_succ, i64_w, i32_w]
              rfl
            refine pure_ (i := 26) (N := some 184) (v := undef) (a' := ?_) #[true, true, true, true, true, true, true, true, true, true, true, true, true, true, true, true, true, true, true, true, true, true, true, true, true, true, true, false, false, false] rfl rfl (any_of HT_.out (by kernel_rfl)) (fun _ _ _ h => h) (Or.inr ⟨by rfl, rfl⟩) ?_ ?_
            rotate_left
            · simp only [Act.put, List.setIfInBounds_toArray, List.set_cons_zero, List.set_cons_succ, i64_w, i32_w]
              rfl
            refine pure_ (i := 27) (N := some 185) (v := undef) (a' := ?_) #[true, true, true, true, true, true, true, true, true, true, true, true, true, true, true, true, true, true, true, true, true, true, true, true, true, true, true, true, false, false] rfl rfl (any_of HT_.out (by kernel_rfl)) (fun _ _ _ h => h) (Or.inr ⟨by rfl, rfl⟩) ?_ ?_
            rotate_left
            · simp only [Act.put, List.setIfInBounds_toArray, List.set_cons_zero, List.set_cons_succ, i64_w, i32_w]
              rfl
            refine pure_ (i := 28) (N := some 186) (v := ?_) (a' := ?_) #[true, true, true, true, true, true, true, true, true, true, true, true, true, true, true, true, true, true, true, true, true, true, true, true, true, true, true, true, true, false] rfl rfl (any_of HT_.out (by kernel_rfl)) (fun _ _ _ h => h) (Or.inl ⟨by rfl, ?_⟩) ?_ ?_
            rotate_left
            · intro w'
              go_simp
              with_reducible rfl
            rotate_left
            · simp only [Act.put, List.setIfInBounds_toArray, List.set_cons_zero, List.set_cons_succ, i64_w, i32_w]
              rfl
            refine pure_ (i := 29) (N := some 18) (v := ?_) (a' := ?_) #[true, true, true, true, true, true, true, true, true, true, true, true, true, true, true, true, true, true, true, true, true, true, true, true, true, true, true, true, true, true] rfl rfl (any_of HT_.out (by kernel_rfl)) (fun _ _ _ h => h) (Or.inl ⟨by rfl, ?_⟩) ?_ ?_
            rotate_left
            · intro w'
              go_simp
              with_reducible rfl
            rotate_left
            · simp only [Act.put, List.setIfInBounds_toArray, List.set_cons_zero, List.set_cons_succ, i64_w, i32_w]
              rfl
            refine done_ (done_of HT_.out (by kernel_rfl)) ?_
            try go_wp2
            go_roundw
            case rel => exact ⟨k + 1, true, by omega, by go_num, by first | rfl | trivial, ⟨fun h => by cases h⟩, ⟨below_drew1 HR.out⟩⟩
            case measure => simp [intOf]; omega
          | false =>
          obtain ⟨hnf, hb13, hall⟩ := HI.out rfl
          subst hnf
          have HALL := Aside0.mk hall
          clear hall
          cases e1 : (pa == a2) with
          | false =>
            go_wp2_with fail
            refine start_ (n := 30) (S := fun w' => w'.cell? ⟨w.heap.size, 1, none⟩ = some (.slice (some ap) l0_1.length c0_1) ∧ w'.cell? (ap.add (k * 2)) = some (.int .i64 pa) ∧ w'.cell? ⟨(ap.add (k * 2)).block, (ap.add (k * 2)).off + 1, none⟩ = some (.slice P0 pb.length p0) ∧ w'.cell? ⟨g16, 1, none⟩ = some (.bool false) ∧ w'.cell? ⟨g16, 0, none⟩ = some (.slice B0 nb.length b0) ∧ (convert 26 9 (.slice B0 nb.length b0)).run Try.prog w' = .ok (.string (strOfNums nb)) w' ∧ (convert 26 9 (.slice P0 pb.length p0)).run Try.prog w' = .ok (.string (strOfNums pb)) w') (ds := []) #[false, false, false, false, false, false, false, false, false, false, false, false, false, false, false, false, false, false, false, false, false, false, false, false, false, false, false, false, false, false] (by kernel_rfl) rfl rfl (by exact HSS.out _ (below_drew1 (Below.refl _ _))) (fun hHeld => ?_); refine with_tabW law10.tab20 law10.bits20 (fun HT_ HW_ => ?_)
            refine pure_ (i := 0) (N := some 158) (v := ?_) (a' := ?_) #[true, false, false, false, false, false, false, false, false, false, false, false, false, false, false, false, false, false, false, false, false, false, false, false, false, false, false, false, false, false] rfl rfl (any_of HT_.out (by kernel_rfl)) (fun _ _ _ h => h) (Or.inl ⟨by rfl, ?_⟩) ?_ ?_
            rotate_left
            · intro w'
              go_simp
              with_reducible rfl
            rotate_left
            · simp only [Act.put, List.setIfInBounds_toArray, List.set_cons_zero, List.set_cons_succ, i64_w, i32_w]
              rfl
            refine pure_ (i := 1) (N := some 159) (v := ?_) (a' := ?_) #[true, true, false, false, false, false, false, false, false, false, false, false, false, false, false, false, false, false, false, false, false, false, false, false, false, false, false, false, false, false] rfl rfl (any_of HT_.out (by kernel_rfl)) (fun _ _ _ h => h) (Or.inl ⟨by rfl, ?_⟩) ?_ ?_
            rotate_left
            · intro w'
              go_simp
              with_reducible rfl
            rotate_left
            · simp only [Act.put, List.setIfInBounds_toArray, List.set_cons_zero, List.set_cons_succ, i64_w, i32_w]
              rfl
            refine pure_ (i := 2) (N := some 160) (v := ?_) (a' := ?_) #[true, true, true, false, false, false, false, false, false, false, false, false, false, false, false, false, false, false, false, false, false, false, false, false, false, false, false, false, false, false] rfl rfl (any_of HT_.out (by kernel_rfl)) (fun _ _ _ h => h) (Or.inl ⟨by rfl, ?_⟩) ?_ ?_
            rotate_left
            · intro w'
              go_simp
              with_reducible rfl
            rotate_left
            · simp only [Act.put, List.setIfInBounds_toArray, List.set_cons_zero, List.set_cons_succ, i64_w, i32_w]
              rfl
            refine take_ (i := 3) (N := some 161) (v := ?_) (a' := ?_) #[true, true, true, true, false, false, false, false, false, false, false, false, false, false, false, false, false, false, false, false, false, false, false, false, false, false, false, false, false, false] rfl rfl (take_ofW HT_.out HW_.out (by kernel_rfl)) (fun _ _ _ h => h) (Or.inl ⟨by rfl, ?_⟩) hHeld ?_ ?_
            rotate_left
            · rintro w' ⟨s0, s1, s2, s3, s4, s5, s6⟩
              go_simp
              with_reducible rfl
            rotate_left
            · simp only [Act.put, List.setIfInBounds_toArray, List.set_cons_zero, List.set_cons_succ, i64_w, i32_w]
              rfl
            refine pure_ (i := 4) (N := some 162) (v := ?_) (a' := ?_) #[true, true, true, true, true, false, false, false, false, false, false, false, false, false, false, false, false, false, false, false, false, false, false, false, false, false, false, false, false, false] rfl rfl (any_of HT_.out (by kernel_rfl)) (fun _ _ _ h => h) (Or.inl ⟨by rfl, ?_⟩) ?_ ?_
            rotate_left
            · intro w'
              go_simp
              with_reducible rfl
            rotate_left
            · simp only [Act.put, List.setIfInBounds_toArray, List.set_cons_zero, List.set_cons_succ, i64_w, i32_w]
              rfl
            refine pure_ (i := 5) (N := some 163) (v := ?_) (a' := ?_) #[true, true, true, true, true, true, false, false, false, false, false, false, false, false, false, false, false, false, false, false, false, false, false, false, false, false, false, false, false, false] rfl rfl (any_of HT_.out (by kernel_rfl)) (fun _ _ _ h => h) (Or.inl ⟨by rfl, ?_⟩) ?_ ?_
            rotate_left
            · intro w'
              go_simp
              with_reducible rfl
            rotate_left
            · simp only [Act.put, List.setIfInBounds_toArray, List.set_cons_zero, List.set_cons_succ, i64_w, i32_w]
              rfl
            refine pure_ (i := 6) (N := some 164) (v := ?_) (a' := ?_) #[true, true, true, true, true, true, true, false, false, false, false, false, false, false, false, false, false, false, false, false, false, false, false, false, false, false, false, false, false, false] rfl rfl (any_of HT_.out (by kernel_rfl)) (fun _ _ _ h => h) (Or.inl ⟨by rfl, ?_⟩) ?_ ?_
            rotate_left
            · intro w'
              go_simp
              with_reducible rfl
            rotate_left
            · simp only [Act.put, List.setIfInBounds_toArray, List.set_cons_zero, List.set_cons_succ, i64_w, i32_w]
              rfl
            refine take_ (i := 7) (N := some 165) (v := ?_) (a' := ?_) #[true, true, true, true, true, true, true, true, false, false, false, false, false, false, false, false, false, false, false, false, false, false, false, false, false, false, false, false, false, false] rfl rfl (take_ofW HT_.out HW_.out (by kernel_rfl)) (fun _ _ _ h => h) (Or.inl ⟨by rfl, ?_⟩) hHeld ?_ ?_
            rotate_left
            · rintro w' ⟨s0, s1, s2, s3, s4, s5, s6⟩
              go_simp
              with_reducible rfl
            rotate_left
            · simp only [Act.put, List.setIfInBounds_toArray, List.set_cons_zero, List.set_cons_succ, i64_w, i32_w]
              rfl
            refine pure_ (i := 8) (N := some 166) (v := ?_) (a' := ?_) #[true, true, true, true, true, true, true, true, true, false, false, false, false, false, false, false, false, false, false, false, false, false, false, false, false, false, false, false, false, false] rfl rfl (any_of HT_.out (by kernel_rfl)) (fun _ _ _ h => h) (Or.inl ⟨by rfl, ?_⟩) ?_ ?_
            rotate_left
            · intro w'
              go_simp
              with_reducible rfl
            rotate_left
            · simp only [Act.put, List.setIfInBounds_toArray, List.set_cons_zero, List.set_cons_succ, i64_w, i32_w]
              rfl
            refine pure_ (i := 9) (N := some 167) (v := ?_) (a' := ?_) #[true, true, true, true, true, true, true, true, true, true, false, false, false, false, false, false, false, false, false, false, false, false, false, false, false, false, false, false, false, false] rfl rfl (any_of HT_.out (by kernel_rfl)) (fun _ _ _ h => h) (Or.inl ⟨by rfl, ?_⟩) ?_ ?_
            rotate_left
            · intro w'
              go_simp
              with_reducible rfl
            rotate_left
            · simp only [Act.put, List.setIfInBounds_toArray, List.set_cons_zero, List.set_cons_succ, i64_w, i32_w]
              rfl
            refine pure_ (i := 10) (N := some 168) (v := ?_) (a' := ?_) #[true, true, true, true, true, true, true, true, true, true, true, false, false, false, false, false, false, false, false, false, false, false, false, false, false, false, false, false, false, false] rfl rfl (any_of HT_.out (by kernel_rfl)) (fun _ _ _ h => h) (Or.inl ⟨by rfl, ?_⟩) ?_ ?_
            rotate_left
            · intro w'
              go_simp
              with_reducible rfl
            rotate_left
            · simp only [Act.put, List.setIfInBounds_toArray, List.set_cons_zero, List.set_cons_succ, i64_w, i32_w]
              rfl
            refine pure_ (i := 11) (N := some 169) (v := undef) (a' := ?_) #[true, true, true, true, true, true, true, true, true, true, true, true, false, false, false, false, false, false, false, false, false, false, false, false, false, false, false, false, false, false] rfl rfl (any_of HT_.out (by kernel_rfl)) (fun _ _ _ h => h) (Or.inr ⟨by rfl, rfl⟩) ?_ ?_
            rotate_left
            · simp only [Act.put, List.setIfInBounds_toArray, List.set_cons_zero, List.set_cons_succ, i64_w, i32_w]
              rfl
            refine pure_ (i := 12) (N := some 170) (v := undef) (a' := ?_) #[true, true, true, true, true, true, true, true, true, true, true, true, true, false, false, false, false, false, false, false, false, false, false, false, false, false, false, false, false, false] rfl rfl (any_of HT_.out (by kernel_rfl)) (fun _ _ _ h => h) (Or.inr ⟨by rfl, rfl⟩) ?_ ?_
            rotate_left
            · simp only [Act.put, List.setIfInBounds_toArray, List.set_cons_zero, List.set_cons_succ, i64_w, i32_w]
              rfl
            refine pure_ (i := 13) (N := some 171) (v := undef) (a' := ?_) #[true, true, true, true, true, true, true, true, true, true, true, true, true, true, false, false, false, false, false, false, false, false, false, false, false, false, false, false, false, false] rfl rfl (any_of HT_.out (by kernel_rfl)) (fun _ _ _ h => h) (Or.inr ⟨by rfl, rfl⟩) ?_ ?_
            rotate_left
            · simp only [Act.put, List.setIfInBounds_toArray, List.set_cons_zero, List.set_cons_succ, i64_w, i32_w]
              rfl
            refine pure_ (i := 14) (N := some 172) (v := ?_) (a' := ?_) #[true, true, true, true, true, true, true, true, true, true, true, true, true, true, true, false, false, false, false, false, false, false, false, false, false, false, false, false, false, false] rfl rfl (any_of HT_.out (by kernel_rfl)) (fun _ _ _ h => h) (Or.inl ⟨by rfl, ?_⟩) ?_ ?_
            rotate_left
            · intro w'
              go_simp
              with_reducible rfl
            rotate_left
            · simp only [Act.put, List.setIfInBounds_toArray, List.set_cons_zero, List.set_cons_succ, i64_w, i32_w]
              rfl
            refine pure_ (i := 15) (N := some 173) (v := ?_) (a' := ?_) #[true, true, true, true, true, true, true, true, true, true, true, true, true, true, true, true, false, false, false, false, false, false, false, false, false, false, false, false, false, false] rfl rfl (any_of HT_.out (by kernel_rfl)) (fun _ _ _ h => h) (Or.inl ⟨by rfl, ?_⟩) ?_ ?_
            rotate_left
            · intro w'
              go_simp
              with_reducible rfl
            rotate_left
            · simp only [Act.put, List.setIfInBounds_toArray, List.set_cons_zero, List.set_cons_succ, i64_w, i32_w]
              rfl
            refine pure_ (i := 16) (N := some 174) (v := undef) (a' := ?_) #[true, true, true, true, true, true, true, true, true, true, true, true, true, true, true, true, true, false, false, false, false, false, false, false, false, false, false, false, false, false] rfl rfl (any_of HT_.out (by kernel_rfl)) (fun _ _ _ h => h) (Or.inr ⟨by rfl, rfl⟩) ?_ ?_
            rotate_left
            · simp only [Act.put, List.setIfInBounds_toArray, List.set_cons_zero, List.set_cons_succ, i64_w, i32_w]
              rfl
            refine pure_ (i := 17) (N := some 175) (v := undef) (a' := ?_) #[true, true, true, true, true, true, true, true, true, true, true, true, true, true, true, true, true, true, false, false, false, false, false, false, false, false, false, false, false, false] rfl rfl (any_of HT_.out (by kernel_rfl)) (fun _ _ _ h => h) (Or.inr ⟨by rfl, rfl⟩) ?_ ?_
            rotate_left
            · simp only [Act.put, List.setIfInBounds_toArray, List.set_cons_zero, List.set_cons_succ, i64_w, i32_w]
              rfl
            refine pure_ (i := 18) (N := some 176) (v := undef) (a' := ?_) #[true, true, true, true, true, true, true, true, true, true, true, true, true, true, true, true, true, true, true, false, false, false, false, false, false, false, false, false, false, false] rfl rfl (any_of HT_.out (by kernel_rfl)) (fun _ _ _ h => h) (Or.inr ⟨by rfl, rfl⟩) ?_ ?_
            rotate_left
            · simp only [Act.put, List.setIfInBounds_toArray, List.set_cons_zero, List.set_cons_succ, i64_w, i32_w]
              rfl
            refine pure_ (i := 19) (N := some 177) (v := undef) (a' := ?_) #[true, true, true, true, true, true, true, true, true, true, true, true, true, true, true, true, true, true, true, true, false, false, false, false, false, false, false, false, false, false] rfl rfl (any_of HT_.out (by kernel_rfl)) (fun _ _ _ h => h) (Or.inr ⟨by rfl, rfl⟩) ?_ ?_
            rotate_left
            · simp only [Act.put, List.setIfInBounds_toArray, List.set_cons_zero, List.set_cons_succ, i64_w, i32_w]
              rfl
            refine pure_ (i := 20) (N := some 178) (v := undef) (a' := ?_) #[true, true, true, true, true, true, true, true, true, true, true, true, true, true, true, true, true, true, true, true, true, false, false, false, false, false, false, false, false, false] rfl rfl (any_of HT_.out (by kernel_rfl)) (fun _ _ _ h => h) (Or.inr ⟨by rfl, rfl⟩) ?_ ?_
            rotate_left
            · simp only [Act.put, List.setIfInBounds_toArray, List.set_cons_zero, List.set_cons_succ, i64_w, i32_w]
              rfl
            refine pure_ (i := 21) (N := some 179) (v := undef) (a' := ?_) #[true, true, true, true, true, true, true, true, true, true, true, true, true, true, true, true, true, true, true, true, true, true, false, false, false, false, false, false, false, false] rfl rfl (any_of HT_.out (by kernel_rfl)) (fun _ _ _ h => h) (Or.inr ⟨by rfl, rfl⟩) ?_ ?_
            rotate_left
            · simp only [Act.put, List.setIfInBounds_toArray, List.set_cons_zero, List.set_cons_succ, i64_w, i32_w]
              rfl
            refine pure_ (i := 22) (N := some 180) (v := undef) (a' := ?_) #[true, true, true, true, true, true, true, true, true, true, true, true, true, true, true, true, true, true, true, true, true, true, true, false, false, false, false, false, false, false] rfl rfl (any_of HT_.out (by kernel_rfl)) (fun _ _ _ h => h) (Or.inr ⟨by rfl, rfl⟩) ?_ ?_
            rotate_left
            · simp only [Act.put, List.setIfInBounds_toArray, List.set_cons_zero, List.set_cons_succ, i64_w, i32_w]
              rfl
            refine pure_ (i := 23) (N := some 181) (v := undef) (a' := ?_) #[true, true, true, true, true, true, true, true, true, true, true, true, true, true, true, true, true, true, true, true, true, true, true, true, false, false, false, false, false, false] rfl rfl (any_of HT_.out (by kernel_rfl)) (fun _ _ _ h => h) (Or.inr ⟨by rfl, rfl⟩) ?_ ?_
            rotate_left
            · simp only [Act.put, List.setIfInBounds_toArray, List.set_cons_zero, List.set_cons_succ, i64_w, i32_w]
              rfl
            refine pure_ (i := 24) (N := some 182) (v := undef) (a' := ?_) #[true, true, true, true, true, true, true, true, true, true, true, true, true, true, true, true, true, true, true, true, true, true, true, true, true, false, false, false, false, false] rfl rfl (any_of HT_.out (by kernel_rfl)) (fun _ _ _ h => h) (Or.inr ⟨by rfl, rfl⟩) ?_ ?_
            rotate_left
            · simp only [Act.put, List.setIfInBounds_toArray, List.set_cons_zero, List.set_cons_succ, i64_w, i32_w]
              rfl
            refine pure_ (i := 25) (N := some 183) (v := undef) (a' := ?_) #[true, true, true, true, true, true, true, true, true, true, true, true, true, true, true, true, true, true, true, true, true, true, true, true, true, true, false, false, false, false] rfl rfl (any_of HT_.out (by kernel_rfl)) (fun _ _ _ h => h) (Or.inr ⟨by rfl, rfl⟩) ?_ ?_
            rotate_left
            · simp only [Act.put, List.setIfInBounds_toArray, List.set_cons_zero, List.set_cons_succ, i64_w, i32_w]
              rfl
            refine pure_ (i := 26) (N := some 184) (v := undef) (a' := ?_) #[true, true, true, true, true, true, true, true, true, true, true, true, true, true, true, true, true, true, true, true, true, true, true, true, true, true, true, false, false, false] rfl rfl (any_of HT_.out (by kernel_rfl)) (fun _ _ _ h => h) (Or.inr ⟨by rfl, rfl⟩) ?_ ?_
            rotate_left
            · simp only [Act.put, List.setIfInBounds_toArray, List.set_cons_zero, List.set_cons_succ, i64_w, i32_w]
              rfl
            refine pure_ (i := 27) (N := some 185) (v := ?_) (a' := ?_) #[true, true, true, true, true, true, true, true, true, true, true, true, true, true, true, true, true, true, true, true, true, true, true, true, true, true, true, true, false, false] rfl rfl (any_of HT_.out (by kernel_rfl)) (fun _ _ _ h => h) (Or.inl ⟨by rfl, ?_⟩) ?_ ?_
            rotate_left
            · intro w'
              go_simp
              with_reducible rfl
            rotate_left
            · simp only [Act.put, List.setIfInBounds_toArray, List.set_cons_zero, List.set_cons_succ, i64_w, i32_w]
              rfl
            refine pure_ (i := 28) (N := some 186) (v := ?_) (a' := ?_) #[true, true, true, true, true, true, true, true, true, true, true, true, true, true, true, true, true, true, true, true, true, true, true, true, true, true, true, true, true, false] rfl rfl (any_of HT_.out (by kernel_rfl)) (fun _ _ _ h => h) (Or.inl ⟨by rfl, ?_⟩) ?_ ?_
            rotate_left
            · intro w'
              go_simp
              with_reducible rfl
            rotate_left
            · simp only [Act.put, List.setIfInBounds_toArray, List.set_cons_zero, List.set_cons_succ, i64_w, i32_w]
              rfl
            refine pure_ (i := 29) (N := some 18) (v := ?_) (a' := ?_) #[true, true, true, true, true, true, true, true, true, true, true, true, true, true, true, true, true, true, true, true, true, true, true, true, true, true, true, true, true, true] rfl rfl (any_of HT_.out (by kernel_rfl)) (fun _ _ _ h => h) (Or.inl ⟨by rfl, ?_⟩) ?_ ?_
            rotate_left
            · intro w'
              go_simp
              with_reducible rfl
            rotate_left
            · simp only [Act.put, List.setIfInBounds_toArray, List.set_cons_zero, List.set_cons_succ, i64_w, i32_w]
              rfl
            refine done_ (done_of HT_.out (by kernel_rfl)) ?_
            try go_wp2
            go_roundw
            case rel => exact ⟨k + 1, false, by omega, by go_num, rfl, ⟨fun _ => ⟨by first | rfl | trivial, hb13, fun i hi he => by
              by_cases hik : i = k
              · subst hik; rw [HPP.out] at he; exact absurd he (beq_eq_false_iff_ne.1 e1)
              · exact HALL.out i (by omega) he⟩⟩, ⟨below_drew1 HR.out⟩⟩
            case measure => simp [intOf]; omega
          | true =>
          cases e2 : ((strOfNums nb).toList == (strOfNums pb).toList) with
          | true =>
            go_wp2_with fail
            refine start_ (n := 30) (S := fun w' => w'.cell? ⟨w.heap.size, 1, none⟩ = some (.slice (some ap) l0_1.length c0_1) ∧ w'.cell? (ap.add (k * 2)) = some (.int .i64 pa) ∧ w'.cell? ⟨(ap.add (k * 2)).block, (ap.add (k * 2)).off + 1, none⟩ = some (.slice P0 pb.length p0) ∧ w'.cell? ⟨g16, 1, none⟩ = some (.bool false) ∧ w'.cell? ⟨g16, 0, none⟩ = some (.slice B0 nb.length b0) ∧ (convert 26 9 (.slice B0 nb.length b0)).run Try.prog w' = .ok (.string (strOfNums nb)) w' ∧ (convert 26 9 (.slice P0 pb.length p0)).run Try.prog w' = .ok (.string (strOfNums pb)) w') (ds := []) #[false, false, false, false, false, false, false, false, false, false, false, false, false, false, false, false, false, false, false, false, false, false, false, false, false, false, false, false, false, false] (by kernel_rfl) rfl rfl (by exact HSS.out _ (below_drew1 (Below.refl _ _))) (fun hHeld => ?_); refine with_tabW law10.tab20 law10.bits20 (fun HT_ HW_ => ?_)
            refine pure_ (i := 0) (N := some 158) (v := ?_) (a' := ?_) #[true, false, false, false, false, false, false, false, false, false, false, false, false, false, false, false, false, false, false, false, false, false, false, false, false, false, false, false, false, false] rfl rfl (any_of HT_.out (by kernel_rfl)) (fun _ _ _ h => h) (Or.inl ⟨by rfl, ?_⟩) ?_ ?_
            rotate_left
            · intro w'
              go_simp
              with_reducible rfl
            rotate_left
            · simp only [Act.put, List.setIfInBounds_toArray, List.set_cons_zero, List.set_cons_succ, i64_w, i32_w]
              rfl
            refine pure_ (i := 1) (N := some 159) (v := ?_) (a' := ?_) #[true, true, false, false, false, false, false, false, false, false, false, false, false, false, false, false, false, false, false, false, false, false, false, false, false, false, false, false, false, false] rfl rfl (any_of HT_.out (by kernel_rfl)) (fun _ _ _ h => h) (Or.inl ⟨by rfl, ?_⟩) ?_ ?_
            rotate_left
            · intro w'
              go_simp
              with_reducible rfl
            rotate_left
            · simp only [Act.put, List.setIfInBounds_toArray, List.set_cons_zero, List.set_cons_succ, i64_w, i32_w]
              rfl
            refine pure_ (i := 2) (N := some 160) (v := ?_) (a' := ?_) #[true, true, true, false, false, false, false, false, false, false, false, false, false, false, false, false, false, false, false, false, false, false, false, false, false, false, false, false, false, false] rfl rfl (any_of HT_.out (by kernel_rfl)) (fun _ _ _ h => h) (Or.inl ⟨by rfl, ?_⟩) ?_ ?_
            rotate_left
            · intro w'
              go_simp
              with_reducible rfl
            rotate_left
            · simp only [Act.put, List.setIfInBounds_toArray, List.set_cons_zero, List.set_cons_succ, i64_w, i32_w]
              rfl
            refine take_ (i := 3) (N := some 161) (v := ?_) (a' := ?_) #[true, true, true, true, false, false, false, false, false, false, false, false, false, false, false, false, false, false, false, false, false, false, false, false, false, false, false, false, false, false] rfl rfl (take_ofW HT_.out HW_.out (by kernel_rfl)) (fun _ _ _ h => h) (Or.inl ⟨by rfl, ?_⟩) hHeld ?_ ?_
            rotate_left
            · rintro w' ⟨s0, s1, s2, s3, s4, s5, s6⟩
              go_simp
              with_reducible rfl
            rotate_left
            · simp only [Act.put, List.setIfInBounds_toArray, List.set_cons_zero, List.set_cons_succ, i64_w, i32_w]
              rfl
            refine pure_ (i := 4) (N := some 162) (v := ?_) (a' := ?_) #[true, true, true, true, true, false, false, false, false, false, false, false, false, false, false, false, false, false, false, false, false, false, false, false, false, false, false, false, false, false] rfl rfl (any_of HT_.out (by kernel_rfl)) (fun _ _ _ h => h) (Or.inl ⟨by rfl, ?_⟩) ?_ ?_
            rotate_left
            · intro w'
              go_simp
              with_reducible rfl
            rotate_left
            · simp only [Act.put, List.setIfInBounds_toArray, List.set_cons_zero, List.set_cons_succ, i64_w, i32_w]
              rfl
            refine pure_ (i := 5) (N := some 163) (v := ?_) (a' := ?_) #[true, true, true, true, true, true, false, false, false, false, false, false, false, false, false, false, false, false, false, false, false, false, false, false, false, false, false, false, false, false] rfl rfl (any_of HT_.out (by kernel_rfl)) (fun _ _ _ h => h) (Or.inl ⟨by rfl, ?_⟩) ?_ ?_
            rotate_left
            · intro w'
              go_simp
              with_reducible rfl
            rotate_left
            · simp only [Act.put, List.setIfInBounds_toArray, List.set_cons_zero, List.set_cons_succ, i64_w, i32_w]
              rfl
            refine pure_ (i := 6) (N := some 164) (v := ?_) (a' := ?_) #[true, true, true, true, true, true, true, false, false, false, false, false, false, false, false, false, false, false, false, false, false, false, false, false, false, false, false, false, false, false] rfl rfl (any_of HT_.out (by kernel_rfl)) (fun _ _ _ h => h) (Or.inl ⟨by rfl, ?_⟩) ?_ ?_
            rotate_left
            · intro w'
              go_simp
              with_reducible rfl
            rotate_left
            · simp only [Act.put, List.setIfInBounds_toArray, List.set_cons_zero, List.set_cons_succ, i64_w, i32_w]
              rfl
            refine take_ (i := 7) (N := some 165) (v := ?_) (a' := ?_) #[true, true, true, true, true, true, true, true, false, false, false, false, false, false, false, false, false, false, false, false, false, false, false, false, false, false, false, false, false, false] rfl rfl (take_ofW HT_.out HW_.out (by kernel_rfl)) (fun _ _ _ h => h) (Or.inl ⟨by rfl, ?_⟩) hHeld ?_ ?_
            rotate_left
            · rintro w' ⟨s0, s1, s2, s3, s4, s5, s6⟩
              go_simp
              with_reducible rfl
            rotate_left
            · simp only [Act.put, List.setIfInBounds_toArray, List.set_cons_zero, List.set_cons_succ, i64_w, i32_w]
              rfl
            refine pure_ (i := 8) (N := some 166) (v := ?_) (a' := ?_) #[true, true, true, true, true, true, true, true, true, false, false, false, false, false, false, false, false, false, false, false, false, false, false, false, false, false, false, false, false, false] rfl rfl (any_of HT_.out (by kernel_rfl)) (fun _ _ _ h => h) (Or.inl ⟨by rfl, ?_⟩) ?_ ?_
            rotate_left
            · intro w'
              go_simp
              with_reducible rfl
            rotate_left
            · simp only [Act.put, List.setIfInBounds_toArray, List.set_cons_zero, List.set_cons_succ, i64_w, i32_w]
              rfl
            refine pure_ (i := 9) (N := some 167) (v := ?_) (a' := ?_) #[true, true, true, true, true, true, true, true, true, true, false, false, false, false, false, false, false, false, false, false, false, false, false, false, false, false, false, false, false, false] rfl rfl (any_of HT_.out (by kernel_rfl)) (fun _ _ _ h => h) (Or.inl ⟨by rfl, ?_⟩) ?_ ?_
            rotate_left
            · intro w'
              go_simp
              with_reducible rfl
            rotate_left
            · simp only [Act.put, List.setIfInBounds_toArray, List.set_cons_zero, List.set_cons_succ, i64_w, i32_w]
              rfl
            refine pure_ (i := 10) (N := some 168) (v := ?_) (a' := ?_) #[true, true, true, true, true, true, true, true, true, true, true, false, false, false, false, false, false, false, false, false, false, false, false, false, false, false, false, false, false, false] rfl rfl (any_of HT_.out (by kernel_rfl)) (fun _ _ _ h => h) (Or.inl ⟨by rfl, ?_⟩) ?_ ?_
            rotate_left
            · intro w'
              go_simp
              with_reducible rfl
            rotate_left
            · simp only [Act.put, List.setIfInBounds_toArray, List.set_cons_zero, List.set_cons_succ, i64_w, i32_w]
              rfl
            refine pure_ (i := 11) (N := some 169) (v := ?_) (a' := ?_) #[true, true, true, true, true, true, true, true, true, true, true, true, false, false, false, false, false, false, false, false, false, false, false, false, false, false, false, false, false, false] rfl rfl (any_of HT_.out (by kernel_rfl)) (fun _ _ _ h => h) (Or.inl ⟨by rfl, ?_⟩) ?_ ?_
            rotate_left
            · intro w'
              go_simp
              with_reducible rfl
            rotate_left
            · simp only [Act.put, List.setIfInBounds_toArray, List.set_cons_zero, List.set_cons_succ, i64_w, i32_w]
              rfl
            refine take_ (i := 12) (N := some 170) (v := ?_) (a' := ?_) #[true, true, true, true, true, true, true, true, true, true, true, true, true, false, false, false, false, false, false, false, false, false, false, false, false, false, false, false, false, false] rfl rfl (take_ofW HT_.out HW_.out (by kernel_rfl)) (fun _ _ _ h => h) (Or.inl ⟨by rfl, ?_⟩) hHeld ?_ ?_
            rotate_left
            · rintro w' ⟨s0, s1, s2, s3, s4, s5, s6⟩
              go_simp
              with_reducible rfl
            rotate_left
            · simp only [Act.put, List.setIfInBounds_toArray, List.set_cons_zero, List.set_cons_succ, i64_w, i32_w]
              rfl
            refine pure_ (i := 13) (N := some 171) (v := ?_) (a' := ?_) #[true, true, true, true, true, true, true, true, true, true, true, true, true, true, false, false, false, false, false, false, false, false, false, false, false, false, false, false, false, false] rfl rfl (any_of HT_.out (by kernel_rfl)) (fun _ _ _ h => h) (Or.inl ⟨by rfl, ?_⟩) ?_ ?_
            rotate_left
            · intro w'
              go_simp
              with_reducible rfl
            rotate_left
            · simp only [Act.put, List.setIfInBounds_toArray, List.set_cons_zero, List.set_cons_succ, i64_w, i32_w]
              rfl
            refine pure_ (i := 14) (N := some 172) (v := ?_) (a' := ?_) #[true, true, true, true, true, true, true, true, true, true, true, true, true, true, true, false, false, false, false, false, false, false, false, false, false, false, false, false, false, false] rfl rfl (any_of HT_.out (by kernel_rfl)) (fun _ _ _ h => h) (Or.inl ⟨by rfl, ?_⟩) ?_ ?_
            rotate_left
            · intro w'
              go_simp
              with_reducible rfl
            rotate_left
            · simp only [Act.put, List.setIfInBounds_toArray, List.set_cons_zero, List.set_cons_succ, i64_w, i32_w]
              rfl
            refine pure_ (i := 15) (N := some 173) (v := ?_) (a' := ?_) #[true, true, true, true, true, true, true, true, true, true, true, true, true, true, true, true, false, false, false, false, false, false, false, false, false, false, false, false, false, false] rfl rfl (any_of HT_.out (by kernel_rfl)) (fun _ _ _ h => h) (Or.inl ⟨by rfl, ?_⟩) ?_ ?_
            rotate_left
            · intro w'
              go_simp
              with_reducible rfl
            rotate_left
            · simp only [Act.put, List.setIfInBounds_toArray, List.set_cons_zero, List.set_cons_succ, i64_w, i32_w]
              rfl
            refine pure_ (i := 16) (N := some 174) (v := ?_) (a' := ?_) #[true, true, true, true, true, true, true, true, true, true, true, true, true, true, true, true, true, false, false, false, false, false, false, false, false, false, false, false, false, false] rfl rfl (any_of HT_.out (by kernel_rfl)) (fun _ _ _ h => h) (Or.inl ⟨by rfl, ?_⟩) ?_ ?_
            rotate_left
            · intro w'
              go_simp
              with_reducible rfl
            rotate_left
            · simp only [Act.put, List.setIfInBounds_toArray, List.set_cons_zero, List.set_cons_succ, i64_w, i32_w]
              rfl
            refine take_ (i := 17) (N := some 175) (v := ?_) (a' := ?_) #[true, true, true, true, true, true, true, true, true, true, true, true, true, true, true, true, true, true, false, false, false, false, false, false, false, false, false, false, false, false] rfl rfl (take_ofW HT_.out HW_.out (by kernel_rfl)) (fun _ _ _ h => h) (Or.inl ⟨by rfl, ?_⟩) hHeld ?_ ?_
            rotate_left
            · rintro w' ⟨s0, s1, s2, s3, s4, s5, s6⟩
              go_simp
              with_reducible rfl
            rotate_left
            · simp only [Act.put, List.setIfInBounds_toArray, List.set_cons_zero, List.set_cons_succ, i64_w, i32_w]
              rfl
            refine take_ (i := 18) (N := some 176) (v := ?_) (a' := ?_) #[true, true, true, true, true, true, true, true, true, true, true, true, true, true, true, true, true, true, true, false, false, false, false, false, false, false, false, false, false, false] rfl rfl (take_ofW HT_.out HW_.out (by kernel_rfl)) (fun _ _ _ h => h) (Or.inl ⟨by rfl, ?_⟩) hHeld ?_ ?_
            rotate_left
            · rintro w' ⟨s0, s1, s2, s3, s4, s5, s6⟩
              go_simp
              with_reducible rfl
            rotate_left
            · simp only [Act.put, List.setIfInBounds_toArray, List.set_cons_zero, List.set_cons_succ, i64_w, i32_w]
              rfl
            refine pure_ (i := 19) (N := some 177) (v := ?_) (a' := ?_) #[true, true, true, true, true, true, true, true, true, true, true, true, true, true, true, true, true, true, true, true, false, false, false, false, false, false, false, false, false, false] rfl rfl (any_of HT_.out (by kernel_rfl)) (fun _ _ _ h => h) (Or.inl ⟨by rfl, ?_⟩) ?_ ?_
            rotate_left
            · intro w'
              go_simp
              with_reducible rfl
            rotate_left
            · simp only [Act.put, List.setIfInBounds_toArray, List.set_cons_zero, List.set_cons_succ, i64_w, i32_w]
              rfl
            refine take_ (i := 20) (N := some 178) (v := ?_) (a' := ?_) #[true, true, true, true, true, true, true, true, true, true, true, true, true, true, true, true, true, true, true, true, true, false, false, false, false, false, false, false, false, false] rfl rfl (take_ofW HT_.out HW_.out (by kernel_rfl)) (fun _ _ _ h => h) (Or.inl ⟨by rfl, ?_⟩) hHeld ?_ ?_
            rotate_left
            · rintro w' ⟨s0, s1, s2, s3, s4, s5, s6⟩
              go_simp
              with_reducible rfl
            rotate_left
            · simp only [Act.put, List.setIfInBounds_toArray, List.set_cons_zero, List.set_cons_succ, i64_w, i32_w]
              rfl
            refine pure_ (i := 21) (N := some 179) (v := ?_) (a' := ?_) #[true, true, true, true, true, true, true, true, true, true, true, true, true, true, true, true, true, true, true, true, true, true, false, false, false, false, false, false, false, false] rfl rfl (any_of HT_.out (by kernel_rfl)) (fun _ _ _ h => h) (Or.inl ⟨by rfl, ?_⟩) ?_ ?_
            rotate_left
            · intro w'
              go_simp
              with_reducible rfl
            rotate_left
            · simp only [Act.put, List.setIfInBounds_toArray, List.set_cons_zero, List.set_cons_succ, i64_w, i32_w]
              rfl
            refine pure_ (i := 22) (N := some 180) (v := ?_) (a' := ?_) #[true, true, true, true, true, true, true, true, true, true, true, true, true, true, true, true, true, true, true, true, true, true, true, false, false, false, false, false, false, false] rfl rfl (any_of HT_.out (by kernel_rfl)) (fun _ _ _ h => h) (Or.inl ⟨by rfl, ?_⟩) ?_ ?_
            rotate_left
            · intro w'
              go_simp
              with_reducible rfl
            rotate_left
            · simp only [Act.put, List.setIfInBounds_toArray, List.set_cons_zero, List.set_cons_succ, i64_w, i32_w]
              rfl
            refine pure_ (i := 23) (N := some 181) (v := ?_) (a' := ?_) #[true, true, true, true, true, true, true, true, true, true, true, true, true, true, true, true, true, true, true, true, true, true, true, true, false, false, false, false, false, false] rfl rfl (any_of HT_.out (by kernel_rfl)) (fun _ _ _ h => h) (Or.inl ⟨by rfl, ?_⟩) ?_ ?_
            rotate_left
            · intro w'
              go_simp
              with_reducible rfl
            rotate_left
            · simp only [Act.put, List.setIfInBounds_toArray, List.set_cons_zero, List.set_cons_succ, i64_w, i32_w]
              rfl
            refine take_ (i := 24) (N := some 182) (v := ?_) (a' := ?_) #[true, true, true, true, true, true, true, true, true, true, true, true, true, true, true, true, true, true, true, true, true, true, true, true, true, false, false, false, false, false] rfl rfl (take_ofW HT_.out HW_.out (by kernel_rfl)) (fun _ _ _ h => h) (Or.inl ⟨by rfl, ?_⟩) hHeld ?_ ?_
            rotate_left
            · rintro w' ⟨s0, s1, s2, s3, s4, s5, s6⟩
              go_simp
              with_reducible rfl
            rotate_left
            · simp only [Act.put, List.setIfInBounds_toArray, List.set_cons_zero, List.set_cons_succ, i64_w, i32_w]
              rfl
            refine take_ (i := 25) (N := some 183) (v := ?_) (a' := ?_) #[true, true, true, true, true, true, true, true, true, true, true, true, true, true, true, true, true, true, true, true, true, true, true, true, true, true, false, false, false, false] rfl rfl (take_ofW HT_.out HW_.out (by kernel_rfl)) (fun _ _ _ h => h) (Or.inl ⟨by rfl, ?_⟩) hHeld ?_ ?_
            rotate_left
            · rintro w' ⟨s0, s1, s2, s3, s4, s5, s6⟩
              go_simp
              with_reducible rfl
            rotate_left
            · simp only [Act.put, List.setIfInBounds_toArray, List.set_cons_zero, List.set_cons_succ, i64_w, i32_w]
              rfl
            refine pure_ (i := 26) (N := some 184) (v := ?_) (a' := ?_) #[true, true, true, true, true, true, true, true, true, true, true, true, true, true, true, true, true, true, true, true, true, true, true, true, true, true, true, false, false, false] rfl rfl (any_of HT_.out (by kernel_rfl)) (fun _ _ _ h => h) (Or.inl ⟨by rfl, ?_⟩) ?_ ?_
            rotate_left
            · intro w'
              go_simp
              with_reducible rfl
            rotate_left
            · simp only [Act.put, List.setIfInBounds_toArray, List.set_cons_zero, List.set_cons_succ, i64_w, i32_w]
              rfl
            refine pure_ (i := 27) (N := some 185) (v := ?_) (a' := ?_) #[true, true, true, true, true, true, true, true, true, true, true, true, true, true, true, true, true, true, true, true, true, true, true, true, true, true, true, true, false, false] rfl rfl (any_of HT_.out (by kernel_rfl)) (fun _ _ _ h => h) (Or.inl ⟨by rfl, ?_⟩) ?_ ?_
            rotate_left
            · intro w'
              go_simp
              with_reducible rfl
            rotate_left
            · simp only [Act.put, List.setIfInBounds_toArray, List.set_cons_zero, List.set_cons_succ, i64_w, i32_w]
              rfl
            refine pure_ (i := 28) (N := some 186) (v := ?_) (a' := ?_) #[true, true, true, true, true, true, true, true, true, true, true, true, true, true, true, true, true, true, true, true, true, true, true, true, true, true, true, true, true, false] rfl rfl (any_of HT_.out (by kernel_rfl)) (fun _ _ _ h => h) (Or.inl ⟨by rfl, ?_⟩) ?_ ?_
            rotate_left
            · intro w'
              go_simp
              with_reducible rfl
            rotate_left
            · simp only [Act.put, List.setIfInBounds_toArray, List.set_cons_zero, List.set_cons_succ, i64_w, i32_w]
              rfl
            refine pure_ (i := 29) (N := some 18) (v := ?_) (a' := ?_) #[true, true, true, true, true, true, true, true, true, true, true, true, true, true, true, true, true, true, true, true, true, true, true, true, true, true, true, true, true, true] rfl rfl (any_of HT_.out (by kernel_rfl)) (fun _ _ _ h => h) (Or.inl ⟨by rfl, ?_⟩) ?_ ?_
            rotate_left
            · intro w'
              go_simp
              with_reducible rfl
            rotate_left
            · simp only [Act.put, List.setIfInBounds_toArray, List.set_cons_zero, List.set_cons_succ, i64_w, i32_w]
              rfl
            refine done_ (done_of HT_.out (by kernel_rfl)) ?_
            try go_wp2
            go_roundw
            case rel => exact ⟨k + 1, true, by omega, by go_num, by first | rfl | trivial, ⟨fun h => by cases h⟩, ⟨below_drew1 HR.out⟩⟩
            case measure => simp [intOf]; omega
          | false =>
            go_wp2_with fail
            refine start_ (n := 30) (S := fun w' => w'.cell? ⟨w.heap.size, 1, none⟩ = some (.slice (some ap) l0_1.length c0_1) ∧ w'.cell? (ap.add (k * 2)) = some (.int .i64 pa) ∧ w'.cell? ⟨(ap.add (k * 2)).block, (ap.add (k * 2)).off + 1, none⟩ = some (.slice P0 pb.length p0) ∧ w'.cell? ⟨g16, 1, none⟩ = some (.bool false) ∧ w'.cell? ⟨g16, 0, none⟩ = some (.slice B0 nb.length b0) ∧ (convert 26 9 (.slice B0 nb.length b0)).run Try.prog w' = .ok (.string (strOfNums nb)) w' ∧ (convert 26 9 (.slice P0 pb.length p0)).run Try.prog w' = .ok (.string (strOfNums pb)) w') (ds := []) #[false, false, false, false, false, false, false, false, false, false, false, false, false, false, false, false, false, false, false, false, false, false, false, false, false, false, false, false, false, false] (by kernel_rfl) rfl rfl (by exact HSS.out _ (below_drew1 (Below.refl _ _))) (fun hHeld => ?_); refine with_tabW law10.tab20 law10.bits20 (fun HT_ HW_ => ?_)
            refine pure_ (i := 0) (N := some 158) (v := ?_) (a' := ?_) #[true, false, false, false, false, false, false, false, false, false, false, false, false, false, false, false, false, false, false, false, false, false, false, false, false, false, false, false, false, false] rfl rfl (any_of HT_.out (by kernel_rfl)) (fun _ _ _ h => h) (Or.inl ⟨by rfl, ?_⟩) ?_ ?_
            rotate_left
            · intro w'
              go_simp
              with_reducible rfl
            rotate_left
            · simp only [Act.put, List.setIfInBounds_toArray, List.set_cons_zero, List.set_cons_succ, i64_w, i32_w]
              rfl
            refine pure_ (i := 1) (N := some 159) (v := ?_) (a' := ?_) #[true, true, false, false, false, false, false, false, false, false, false, false, false, false, false, false, false, false, false, false, false, false, false, false, false, false, false, false, false, false] rfl rfl (any_of HT_.out (by kernel_rfl)) (fun _ _ _ h => h) (Or.inl ⟨by rfl, ?_⟩) ?_ ?_
            rotate_left
            · intro w'
              go_simp
              with_reducible rfl
            rotate_left
            · simp only [Act.put, List.setIfInBounds_toArray, List.set_cons_zero, List.set_cons_succ, i64_w, i32_w]
              rfl
            refine pure_ (i := 2) (N := some 160) (v := ?_) (a' := ?_) #[true, true, true, false, false, false, false, false, false, false, false, false, false, false, false, false, false, false, false, false, false, false, false, false, false, false, false, false, false, false] rfl rfl (any_of HT_.out (by kernel_rfl)) (fun _ _ _ h => h) (Or.inl ⟨by rfl, ?_⟩) ?_ ?_
            rotate_left
            · intro w'
              go_simp
              with_reducible rfl
            rotate_left
            · simp only [Act.put, List.setIfInBounds_toArray, List.set_cons_zero, List.set_cons_succ, i64_w, i32_w]
              rfl
            refine take_ (i := 3) (N := some 161) (v := ?_) (a' := ?_) #[true, true, true, true, false, false, false, false, false, false, false, false, false, false, false, false, false, false, false, false, false, false, false, false, false, false, false, false, false, false] rfl rfl (take_ofW HT_.out HW_.out (by kernel_rfl)) (fun _ _ _ h => h) (Or.inl ⟨by rfl, ?_⟩) hHeld ?_ ?_
            rotate_left
            · rintro w' ⟨s0, s1, s2, s3, s4, s5, s6⟩
              go_simp
              with_reducible rfl
            rotate_left
            · simp only [Act.put, List.setIfInBounds_toArray, List.set_cons_zero, List.set_cons_succ, i64_w, i32_w]
              rfl
            refine pure_ (i := 4) (N := some 162) (v := ?_) (a' := ?_) #[true, true, true, true, true, false, false, false, false, false, false, false, false, false, false, false, false, false, false, false, false, false, false, false, false, false, false, false, false, false] rfl rfl (any_of HT_.out (by kernel_rfl)) (fun _ _ _ h => h) (Or.inl ⟨by rfl, ?_⟩) ?_ ?_
            rotate_left
            · intro w'
              go_simp
              with_reducible rfl
            rotate_left
            · simp only [Act.put, List.setIfInBounds_toArray, List.set_cons_zero, List.set_cons_succ, i64_w, i32_w]
              rfl
            refine pure_ (i := 5) (N := some 163) (v := ?_) (a' := ?_) #[true, true, true, true, true, true, false, false, false, false, false, false, false, false, false, false, false, false, false, false, false, false, false, false, false, false, false, false, false, false] rfl rfl (any_of HT_.out (by kernel_rfl)) (fun _ _ _ h => h) (Or.inl ⟨by rfl, ?_⟩) ?_ ?_
            rotate_left
            · intro w'
              go_simp
              with_reducible rfl
            rotate_left
            · simp only [Act.put, List.setIfInBounds_toArray, List.set_cons_zero, List.set_cons_succ, i64_w, i32_w]
              rfl
            refine pure_ (i := 6) (N := some 164) (v := ?_) (a' := ?_) #[true, true, true, true, true, true, true, false, false, false, false, false, false, false, false, false, false, false, false, false, false, false, false, false, false, false, false, false, false, false] rfl rfl (any_of HT_.out (by kernel_rfl)) (fun _ _ _ h => h) (Or.inl ⟨by rfl, ?_⟩) ?_ ?_
            rotate_left
            · intro w'
              go_simp
              with_reducible rfl
            rotate_left
            · simp only [Act.put, List.setIfInBounds_toArray, List.set_cons_zero, List.set_cons_succ, i64_w, i32_w]
              rfl
            refine take_ (i := 7) (N := some 165) (v := ?_) (a' := ?_) #[true, true, true, true, true, true, true, true, false, false, false, false, false, false, false, false, false, false, false, false, false, false, false, false, false, false, false, false, false, false] rfl rfl (take_ofW HT_.out HW_.out (by kernel_rfl)) (fun _ _ _ h => h) (Or.inl ⟨by rfl, ?_⟩) hHeld ?_ ?_
            rotate_left
            · rintro w' ⟨s0, s1, s2, s3, s4, s5, s6⟩
              go_simp
              with_reducible rfl
            rotate_left
            · simp only [Act.put, List.setIfInBounds_toArray, List.set_cons_zero, List.set_cons_succ, i64_w, i32_w]
              rfl
            refine pure_ (i := 8) (N := some 166) (v := ?_) (a' := ?_) #[true, true, true, true, true, true, true, true, true, false, false, false, false, false, false, false, false, false, false, false, false, false, false, false, false, false, false, false, false, false] rfl rfl (any_of HT_.out (by kernel_rfl)) (fun _ _ _ h => h) (Or.inl ⟨by rfl, ?_⟩) ?_ ?_
            rotate_left
            · intro w'
              go_simp
              with_reducible rfl
            rotate_left
            · simp only [Act.put, List.setIfInBounds_toArray, List.set_cons_zero, List.set_cons_succ, i64_w, i32_w]
              rfl
            refine pure_ (i := 9) (N := some 167) (v := ?_) (a' := ?_) #[true, true, true, true, true, true, true, true, true, true, false, false, false, false, false, false, false, false, false, false, false, false, false, false, false, false, false, false, false, false] rfl rfl (any_of HT_.out (by kernel_rfl)) (fun _ _ _ h => h) (Or.inl ⟨by rfl, ?_⟩) ?_ ?_
            rotate_left
            · intro w'
              go_simp
              with_reducible rfl
            rotate_left
            · simp only [Act.put, List.setIfInBounds_toArray, List.set_cons_zero, List.set_cons_succ, i64_w, i32_w]
              rfl
            refine pure_ (i := 10) (N := some 168) (v := ?_) (a' := ?_) #[true, true, true, true, true, true, true, true, true, true, true, false, false, false, false, false, false, false, false, false, false, false, false, false, false, false, false, false, false, false] rfl rfl (any_of HT_.out (by kernel_rfl)) (fun _ _ _ h => h) (Or.inl ⟨by rfl, ?_⟩) ?_ ?_
            rotate_left
            · intro w'
              go_simp
              with_reducible rfl
            rotate_left
            · simp only [Act.put, List.setIfInBounds_toArray, List.set_cons_zero, List.set_cons_succ, i64_w, i32_w]
              rfl
            refine pure_ (i := 11) (N := some 169) (v := ?_) (a' := ?_) #[true, true, true, true, true, true, true, true, true, true, true, true, false, false, false, false, false, false, false, false, false, false, false, false, false, false, false, false, false, false] rfl rfl (any_of HT_.out (by kernel_rfl)) (fun _ _ _ h => h) (Or.inl ⟨by rfl, ?_⟩) ?_ ?_
            rotate_left
            · intro w'
              go_simp
              with_reducible rfl
            rotate_left
            · simp only [Act.put, List.setIfInBounds_toArray, List.set_cons_zero, List.set_cons_succ, i64_w, i32_w]
              rfl
            refine take_ (i := 12) (N := some 170) (v := ?_) (a' := ?_) #[true, true, true, true, true, true, true, true, true, true, true, true, true, false, false, false, false, false, false, false, false, false, false, false, false, false, false, false, false, false] rfl rfl (take_ofW HT_.out HW_.out (by kernel_rfl)) (fun _ _ _ h => h) (Or.inl ⟨by rfl, ?_⟩) hHeld ?_ ?_
            rotate_left
            · rintro w' ⟨s0, s1, s2, s3, s4, s5, s6⟩
              go_simp
              with_reducible rfl
            rotate_left
            · simp only [Act.put, List.setIfInBounds_toArray, List.set_cons_zero, List.set_cons_succ, i64_w, i32_w]
              rfl
            refine pure_ (i := 13) (N := some 171) (v := ?_) (a' := ?_) #[true, true, true, true, true, true, true, true, true, true, true, true, true, true, false, false, false, false, false, false, false, false, false, false, false, false, false, false, false, false] rfl rfl (any_of HT_.out (by kernel_rfl)) (fun _ _ _ h => h) (Or.inl ⟨by rfl, ?_⟩) ?_ ?_
            rotate_left
            · intro w'
              go_simp
              with_reducible rfl
            rotate_left
            · simp only [Act.put, List.setIfInBounds_toArray, List.set_cons_zero, List.set_cons_succ, i64_w, i32_w]
              rfl
            refine pure_ (i := 14) (N := some 172) (v := ?_) (a' := ?_) #[true, true, true, true, true, true, true, true, true, true, true, true, true, true, true, false, false, false, false, false, false, false, false, false, false, false, false, false, false, false] rfl rfl (any_of HT_.out (by kernel_rfl)) (fun _ _ _ h => h) (Or.inl ⟨by rfl, ?_⟩) ?_ ?_
            rotate_left
            · intro w'
              go_simp
              with_reducible rfl
            rotate_left
            · simp only [Act.put, List.setIfInBounds_toArray, List.set_cons_zero, List.set_cons_succ, i64_w, i32_w]
              rfl
            refine pure_ (i := 15) (N := some 173) (v := ?_) (a' := ?_) #[true, true, true, true, true, true, true, true, true, true, true, true, true, true, true, true, false, false, false, false, false, false, false, false, false, false, false, false, false, false] rfl rfl (any_of HT_.out (by kernel_rfl)) (fun _ _ _ h => h) (Or.inl ⟨by rfl, ?_⟩) ?_ ?_
            rotate_left
            · intro w'
              go_simp
              with_reducible rfl
            rotate_left
            · simp only [Act.put, List.setIfInBounds_toArray, List.set_cons_zero, List.set_cons_succ, i64_w, i32_w]
              rfl
            refine pure_ (i := 16) (N := some 174) (v := ?_) (a' := ?_) #[true, true, true, true, true, true, true, true, true, true, true, true, true, true, true, true, true, false, false, false, false, false, false, false, false, false, false, false, false, false] rfl rfl (any_of HT_.out (by kernel_rfl)) (fun _ _ _ h => h) (Or.inl ⟨by rfl, ?_⟩) ?_ ?_
            rotate_left
            · intro w'
              go_simp
              with_reducible rfl
            rotate_left
            · simp only [Act.put, List.setIfInBounds_toArray, List.set_cons_zero, List.set_cons_succ, i64_w, i32_w]
              rfl
            refine take_ (i := 17) (N := some 175) (v := ?_) (a' := ?_) #[true, true, true, true, true, true, true, true, true, true, true, true, true, true, true, true, true, true, false, false, false, false, false, false, false, false, false, false, false, false] rfl rfl (take_ofW HT_.out HW_.out (by kernel_rfl)) (fun _ _ _ h => h) (Or.inl ⟨by rfl, ?_⟩) hHeld ?_ ?_
            rotate_left
            · rintro w' ⟨s0, s1, s2, s3, s4, s5, s6⟩
              go_simp
              with_reducible rfl
            rotate_left
            · simp only [Act.put, List.setIfInBounds_toArray, List.set_cons_zero, List.set_cons_succ, i64_w, i32_w]
              rfl
            refine take_ (i := 18) (N := some 176) (v := ?_) (a' := ?_) #[true, true, true, true, true, true, true, true, true, true, true, true, true, true, true, true, true, true, true, false, false, false, false, false, false, false, false, false, false, false] rfl rfl (take_ofW HT_.out HW_.out (by kernel_rfl)) (fun _ _ _ h => h) (Or.inl ⟨by rfl, ?_⟩) hHeld ?_ ?_
            rotate_left
            · rintro w' ⟨s0, s1, s2, s3, s4, s5, s6⟩
              go_simp
              with_reducible rfl
            rotate_left
            · simp only [Act.put, List.setIfInBounds_toArray, List.set_cons_zero, List.set_cons_succ, i64_w, i32_w]
              rfl
            refine pure_ (i := 19) (N := some 177) (v := ?_) (a' := ?_) #[true, true, true, true, true, true, true, true, true, true, true, true, true, true, true, true, true, true, true, true, false, false, false, false, false, false, false, false, false, false] rfl rfl (any_of HT_.out (by kernel_rfl)) (fun _ _ _ h => h) (Or.inl ⟨by rfl, ?_⟩) ?_ ?_
            rotate_left
            · intro w'
              go_simp
              with_reducible rfl
            rotate_left
            · simp only [Act.put, List.setIfInBounds_toArray, List.set_cons_zero, List.set_cons_succ, i64_w, i32_w]
              rfl
            refine take_ (i := 20) (N := some 178) (v := ?_) (a' := ?_) #[true, true, true, true, true, true, true, true, true, true, true, true, true, true, true, true, true, true, true, true, true, false, false, false, false, false, false, false, false, false] rfl rfl (take_ofW HT_.out HW_.out (by kernel_rfl)) (fun _ _ _ h => h) (Or.inl ⟨by rfl, ?_⟩) hHeld ?_ ?_
            rotate_left
            · rintro w' ⟨s0, s1, s2, s3, s4, s5, s6⟩
              go_simp
              with_reducible rfl
            rotate_left
            · simp only [Act.put, List.setIfInBounds_toArray, List.set_cons_zero, List.set_cons_succ, i64_w, i32_w]
              rfl
            refine pure_ (i := 21) (N := some 179) (v := ?_) (a' := ?_) #[true, true, true, true, true, true, true, true, true, true, true, true, true, true, true, true, true, true, true, true, true, true, false, false, false, false, false, false, false, false] rfl rfl (any_of HT_.out (by kernel_rfl)) (fun _ _ _ h => h) (Or.inl ⟨by rfl, ?_⟩) ?_ ?_
            rotate_left
            · intro w'
              go_simp
              with_reducible rfl
            rotate_left
            · simp only [Act.put, List.setIfInBounds_toArray, List.set_cons_zero, List.set_cons_succ, i64_w, i32_w]
              rfl
            refine pure_ (i := 22) (N := some 180) (v := ?_) (a' := ?_) #[true, true, true, true, true, true, true, true, true, true, true, true, true, true, true, true, true, true, true, true, true, true, true, false, false, false, false, false, false, false] rfl rfl (any_of HT_.out (by kernel_rfl)) (fun _ _ _ h => h) (Or.inl ⟨by rfl, ?_⟩) ?_ ?_
            rotate_left
            · intro w'
              go_simp
              with_reducible rfl
            rotate_left
            · simp only [Act.put, List.setIfInBounds_toArray, List.set_cons_zero, List.set_cons_succ, i64_w, i32_w]
              rfl
            refine pure_ (i := 23) (N := some 181) (v := ?_) (a' := ?_) #[true, true, true, true, true, true, true, true, true, true, true, true, true, true, true, true, true, true, true, true, true, true, true, true, false, false, false, false, false, false] rfl rfl (any_of HT_.out (by kernel_rfl)) (fun _ _ _ h => h) (Or.inl ⟨by rfl, ?_⟩) ?_ ?_
            rotate_left
            · intro w'
              go_simp
              with_reducible rfl
            rotate_left
            · simp only [Act.put, List.setIfInBounds_toArray, List.set_cons_zero, List.set_cons_succ, i64_w, i32_w]
              rfl
            refine take_ (i := 24) (N := some 182) (v := ?_) (a' := ?_) #[true, true, true, true, true, true, true, true, true, true, true, true, true, true, true, true, true, true, true, true, true, true, true, true, true, false, false, false, false, false] rfl rfl (take_ofW HT_.out HW_.out (by kernel_rfl)) (fun _ _ _ h => h) (Or.inl ⟨by rfl, ?_⟩) hHeld ?_ ?_
            rotate_left
            · rintro w' ⟨s0, s1, s2, s3, s4, s5, s6⟩
              go_simp
              with_reducible rfl
            rotate_left
            · simp only [Act.put, List.setIfInBounds_toArray, List.set_cons_zero, List.set_cons_succ, i64_w, i32_w]
              rfl
            refine take_ (i := 25) (N := some 183) (v := ?_) (a' := ?_) #[true, true, true, true, true, true, true, true, true, true, true, true, true, true, true, true, true, true, true, true, true, true, true, true, true, true, false, false, false, false] rfl rfl (take_ofW HT_.out HW_.out (by kernel_rfl)) (fun _ _ _ h => h) (Or.inl ⟨by rfl, ?_⟩) hHeld ?_ ?_
            rotate_left
            · rintro w' ⟨s0, s1, s2, s3, s4, s5, s6⟩
              go_simp
              with_reducible rfl
            rotate_left
            · simp only [Act.put, List.setIfInBounds_toArray, List.set_cons_zero, List.set_cons_succ, i64_w, i32_w]
              rfl
            refine pure_ (i := 26) (N := some 184) (v := ?_) (a' := ?_) #[true, true, true, true, true, true, true, true, true, true, true, true, true, true, true, true, true, true, true, true, true, true, true, true, true, true, true, false, false, false] rfl rfl (any_of HT_.out (by kernel_rfl)) (fun _ _ _ h => h) (Or.inl ⟨by rfl, ?_⟩) ?_ ?_
            rotate_left
            · intro w'
              go_simp
              with_reducible rfl
            rotate_left
            · simp only [Act.put, List.setIfInBounds_toArray, List.set_cons_zero, List.set_cons_succ, i64_w, i32_w]
              rfl
            refine pure_ (i := 27) (N := some 185) (v := ?_) (a' := ?_) #[true, true, true, true, true, true, true, true, true, true, true, true, true, true, true, true, true, true, true, true, true, true, true, true, true, true, true, true, false, false] rfl rfl (any_of HT_.out (by kernel_rfl)) (fun _ _ _ h => h) (Or.inl ⟨by rfl, ?_⟩) ?_ ?_
            rotate_left
            · intro w'
              go_simp
              with_reducible rfl
            rotate_left
            · simp only [Act.put, List.setIfInBounds_toArray, List.set_cons_zero, List.set_cons_succ, i64_w, i32_w]
              rfl
            refine pure_ (i := 28) (N := some 186) (v := ?_) (a' := ?_) #[true, true, true, true, true, true, true, true, true, true, true, true, true, true, true, true, true, true, true, true, true, true, true, true, true, true, true, true, true, false] rfl rfl (any_of HT_.out (by kernel_rfl)) (fun _ _ _ h => h) (Or.inl ⟨by rfl, ?_⟩) ?_ ?_
            rotate_left
            · intro w'
              go_simp
              with_reducible rfl
            rotate_left
            · simp only [Act.put, List.setIfInBounds_toArray, List.set_cons_zero, List.set_cons_succ, i64_w, i32_w]
              rfl
            refine pure_ (i := 29) (N := some 18) (v := ?_) (a' := ?_) #[true, true, true, true, true, true, true, true, true, true, true, true, true, true, true, true, true, true, true, true, true, true, true, true, true, true, true, true, true, true] rfl rfl (any_of HT_.out (by kernel_rfl)) (fun _ _ _ h => h) (Or.inl ⟨by rfl, ?_⟩) ?_ ?_
            rotate_left
            · intro w'
              go_simp
              with_reducible rfl
            rotate_left
            · simp only [Act.put, List.setIfInBounds_toArray, List.set_cons_zero, List.set_cons_succ, i64_w, i32_w]
              rfl
            refine done_ (done_of HT_.out (by kernel_rfl)) ?_
            try go_wp2
            go_roundw
            case rel => exact ⟨k + 1, false, by omega, by go_num, rfl, ⟨fun _ => ⟨by first | rfl | trivial, hb13, fun i hi he => by
              by_cases hik : i = k
              · subst hik; rw [HPP.out]; rintro rfl; exact absurd rfl (beq_eq_false_iff_ne.1 e2)
              · exact HALL.out i (by omega) he⟩⟩, ⟨below_drew1 HR.out⟩⟩
            case measure => simp [intOf]; omega
        · obtain rfl : k = l0_1.length := by omega
          obtain rfl : b = true := by
            cases b with
            | true => rfl
            | false =>
              obtain ⟨h1, h2, h3⟩ := HI.out rfl
              rcases HSAYS.out with h | ⟨p, hp, h4, h5⟩
              · injection h with e1 e2
                rw [HBB.out ⟨e2, e1⟩] at h2
                cases h2
              · obtain ⟨j, hj, rfl⟩ := List.mem_iff_getElem.1 hp
                rcases h5 with h5 | h5
                · injection h5 with e1 e2
                  exact absurd e1.symm (by have := h3 j hj; rw [rd65_at hj] at this; exact this h4)
                · injection h5 with e1 e2
                  rw [h1] at e2
                  cases e2
          go_wp2_with (go_at_call 39; refine (hCheck.calls (some ax) cx0 L Ax1 cx1 [] 0 _ (Kd.C_below HWL.out.1 HDR.out) HWL.out.2.1 (Kd.C_below HWL.out.2.2.1 HDR.out) HWL.out.2.2.2.1 FK.out).mono ?_; rintro e we ⟨rfl, hbe⟩; have HBE := Aside0.mk (below_step HDR.out hbe); clear hbe)
          go_ret
          exact ⟨rfl, below_step HB.out HBE.out⟩
end Go.Proofs.Ytjlohdbkjoofcaa.P
end
