/- Part 3 of the proof: catamaranlaw05.DiskEnds returns true for every two disks, fates and number, and its arguments read afterwards as they read before; no condition. -/
import Derived.BigRegion
import Derived.Test.YtjlohdbkjoofcaaDiskEnds02
section
set_option linter.unusedVariables false
set_option linter.unusedSimpArgs false
namespace Go.Proofs.Ytjlohdbkjoofcaa.P
open Go.RowKit Go.Proofs.PrintWords Go.Proofs.PrintLast Go.Proofs.PrintMore
attribute [local go_sem] max2_int min2_int max_two min_two max_three min_three max_four min_four
set_option maxHeartbeats 4000000 in
set_option maxRecDepth 100000 in
theorem hSpoil.calls (A0 : Option Addr) (n0 c0 : Nat) (A1 : Option Addr) (n1 c1 : Nat) (lo hi : Nat) (w : World) (hS : SecRow w lo hi A0 n0) (hP : PendRow w lo hi A1 n1) (hhi : hi ≤ w.heap.size) (hlo : lo ≤ hi) :
    Calls Try.prog 41 #[.agg #[.slice A0 n0 c0, .slice A1 n1 c1]] w fun e w' => e = .returned (.tuple #[]) ∧ Btw lo hi w w' := by
  have hu25 := Try.underlying25
  have hu52 := Try.underlying52
  have hu65 := Try.underlying65
  have hm0 := hS.1
  have hm1 := hP.1
  have HS := Aside0.mk (hS.keep (w' := w.alloc (.cells #[.slice A0 n0 c0, .slice A1 n1 c1] 25)) (fun k _ _ h => Below.heap_alloc _ _ _ h))
  have HP := Aside0.mk (hP.keep (w' := w.alloc (.cells #[.slice A0 n0 c0, .slice A1 n1 c1] 25)) (fun k _ _ h => Below.heap_alloc _ _ _ h))
  have HX := Aside0.mk ((Btw.refl lo hi w).alloc (.cells #[.slice A0 n0 c0, .slice A1 n1 c1] 25))
  have HK := Aside0.mk (heap_alloc_new w (.cells #[.slice A0 n0 c0, .slice A1 n1 c1] 25))
  clear hS hP
  go_enter Try.func41, Try.ntmps41
  go_wp2_with fail
  go_loopw [2] (fun i wr => ∃ k : Nat, k ≤ n0 ∧ i = .int .i64 k ∧ Aside0 (SecRow wr lo hi A0 n0) ∧ Aside0 (PendRow wr lo hi A1 n1) ∧ Aside0 (Btw lo hi w wr) ∧ Aside0 (wr.heap[w.heap.size]? = some (.cells #[.slice A0 n0 c0, .slice A1 n1 c1] 25 (0, 0)))) (fun i _ => n0 - (intOf i).toNat)
  case atStart => exact ⟨0, Nat.zero_le _, rfl, HS, HP, HX, HK⟩
  case round =>
    clear HS HP HX HK
    obtain ⟨k, hk, rfl, HS, HP, HX, HK⟩ := hrel
    have hz0 : wr.cell? ⟨w.heap.size, 0, none⟩ = some (.slice A0 n0 c0) := (blk_cell HK.out 0).trans rfl
    by_cases hlt : k < n0
    · obtain ⟨g, cs, rfl, hg1, hg2, hg3, hg4⟩ := HS.out.2 (by omega)
      obtain ⟨Ab, m, cb, b, e0, e1, hbr⟩ := hg4 k hlt
      have hm := hbr.1
      have HC := Aside0.mk hg3
      have E0 := Aside0.mk e0
      have HBR := Aside0.mk hbr
      have hz2 : wr.cell? ⟨g, k * 2, none⟩ = some (.slice Ab m cb) := (blk_cell hg3 _).trans e0
      clear hg3 hg4 e0 e1 hbr
      go_wp2_with fail
      obtain ⟨wo, rfl⟩ : ∃ wo : World, wo = wr := ⟨_, rfl⟩
      clear hz0 hz2
      go_loopw [3] (fun j wr => ∃ q : Nat, q ≤ m ∧ j = .int .i64 q ∧ Aside0 (SecRow wr lo hi (some ⟨g, 0, none⟩) n0) ∧ Aside0 (PendRow wr lo hi A1 n1) ∧ Aside0 (Btw lo hi w wr) ∧ Aside0 (wr.heap[w.heap.size]? = some (.cells #[.slice (some ⟨g, 0, none⟩) n0 c0, .slice A1 n1 c1] 25 (0, 0))) ∧ Aside0 (wr.heap[g]? = some (.cells cs 52 (0, 0))) ∧ Aside0 (ByteRow wr lo hi Ab m)) (fun j _ => m - (intOf j).toNat)
      case atStart => exact ⟨0, Nat.zero_le _, rfl, HS, HP, HX, HK, HC, HBR⟩
      case round =>
        clear HS HP HX HK HC HBR
        obtain ⟨q, hq, rfl, HS, HP, HX, HK, HC, HBR⟩ := hrel
        have hz0 : wr.cell? ⟨w.heap.size, 0, none⟩ = some (.slice (some ⟨g, 0, none⟩) n0 c0) := (blk_cell HK.out 0).trans rfl
        have hz2 : wr.cell? ⟨g, k * 2, none⟩ = some (.slice Ab m cb) := (blk_cell HC.out _).trans E0.out
        by_cases hltq : q < m
        · obtain ⟨gb, cbs, rfl, hb1, hb2, hb3, hb4⟩ := HBR.out.2 (by omega)
          obtain ⟨x, hx⟩ := hb4 q hltq
          have hz3 : wr.cell? ⟨gb, q, none⟩ = some (.int .u8 x) := (blk_cell hb3 _).trans hx
          have hf3 := blk_frozen hb3 q
          have HBB := Aside0.mk hb3
          have hne : g ≠ gb := blk_ne HC.out hb3 (by decide)
          have hne2 : w.heap.size ≠ gb := by omega
          have HNE := Aside0.mk hne
          have HNE2 := Aside0.mk hne2
          clear hb3 hb4 hx hne hne2
          go_wp2_with fail
          go_region
          all_goals
            go_wp2
            go_roundw
            case rel => exact ⟨q + 1, by omega, by go_num, ⟨HS.out.set HBB.out _⟩, ⟨HP.out.set HBB.out _⟩, ⟨(HX.out.set (p := ⟨gb, q, none⟩) hb1 hb2 _).drew⟩, ⟨blk_far HK.out (p := ⟨gb, q, none⟩) HNE2.out _⟩, ⟨blk_far HC.out (p := ⟨gb, q, none⟩) HNE.out _⟩, ⟨HBR.out.set HBB.out _⟩⟩
            case measure => simp [intOf]; omega
        · go_wp2
          go_roundw
          case rel => exact ⟨k + 1, by omega, by go_num, HS, HP, HX, HK⟩
          case measure => simp [intOf]; omega
    · have hz1 : wr.cell? ⟨w.heap.size, 1, none⟩ = some (.slice A1 n1 c1) := (blk_cell HK.out 1).trans rfl
      go_wp2_with fail
      clear hz0 hz1
      obtain ⟨wo, rfl⟩ : ∃ wo : World, wo = wr := ⟨_, rfl⟩
      go_loopw [4] (fun i wr => ∃ k : Nat, k ≤ n1 ∧ i = .int .i64 k ∧ Aside0 (SecRow wr lo hi A0 n0) ∧ Aside0 (PendRow wr lo hi A1 n1) ∧ Aside0 (Btw lo hi w wr) ∧ Aside0 (wr.heap[w.heap.size]? = some (.cells #[.slice A0 n0 c0, .slice A1 n1 c1] 25 (0, 0)))) (fun i _ => n1 - (intOf i).toNat)
      case atStart => exact ⟨0, Nat.zero_le _, rfl, HS, HP, HX, HK⟩
      case round =>
        clear HS HP HX HK
        obtain ⟨j, hj, rfl, HS, HP, HX, HK⟩ := hrel
        have hz1 : wr.cell? ⟨w.heap.size, 1, none⟩ = some (.slice A1 n1 c1) := (blk_cell HK.out 1).trans rfl
        by_cases hlt2 : j < n1
        · obtain ⟨g, cs, rfl, hg1, hg2, hg3, hg4⟩ := HP.out.2 (by omega)
          obtain ⟨y, Ab, m, cb, e0, e1, hbr⟩ := hg4 j hlt2
          have hm := hbr.1
          have hz2 : wr.cell? ⟨g, j * 2, none⟩ = some (.int .i64 y) := (blk_cell hg3 _).trans e0
          have hf2 := blk_frozen hg3 (j * 2)
          have HC := Aside0.mk hg3
          have E1 := Aside0.mk ((show (cs.setIfInBounds (j * 2) (.int .i64 (-7)))[j * 2 + 1]? = some (.slice Ab m cb) by rw [Array.getElem?_setIfInBounds, if_neg (by omega)]; exact e1))
          have HBR := Aside0.mk (hbr.far (p := ⟨g, j * 2, none⟩) hg3 (by decide) (.int .i64 (-7)))
          have hne2 : w.heap.size ≠ g := by omega
          have HS2 := Aside0.mk (HS.out.setAt (p := ⟨g, j * 2, none⟩) hg3 (.int .i64 (-7)))
          have HP2 := Aside0.mk (HP.out.setAt rfl hlt2 (-7))
          have HX2 := Aside0.mk (HX.out.set (p := ⟨g, j * 2, none⟩) hg1 hg2 (.int .i64 (-7)))
          have HK2 := Aside0.mk (blk_far HK.out (p := ⟨g, j * 2, none⟩) hne2 (.int .i64 (-7)))
          have HC2 := Aside0.mk (blk_set hg3 (j * 2) (.int .i64 (-7)))
          clear hg3 hg4 e0 e1 hbr hne2 HS HP HX HK HC
          go_wp2_with fail
          obtain ⟨wq, hwq⟩ : ∃ wq : World, wq = wr.setCell ⟨g, j * 2, none⟩ (.int .i64 (-7)) := ⟨_, rfl⟩
          rw [← hwq] at HBR HS2 HP2 HX2 HK2 HC2 ⊢
          clear hz1 hz2 hf2 hwq
          clear wr
          obtain ⟨jj, hjj⟩ : ∃ jj, jj = j := ⟨_, rfl⟩
          rw [← hjj] at HC2 E1
          have HJ := Aside0.mk hjj
          clear hjj
          go_loopw [5] (fun j wr => ∃ q : Nat, q ≤ m ∧ j = .int .i64 q ∧ Aside0 (SecRow wr lo hi A0 n0) ∧ Aside0 (PendRow wr lo hi (some ⟨g, 0, none⟩) n1) ∧ Aside0 (Btw lo hi w wr) ∧ Aside0 (wr.heap[w.heap.size]? = some (.cells #[.slice A0 n0 c0, .slice (some ⟨g, 0, none⟩) n1 c1] 25 (0, 0))) ∧ Aside0 (wr.heap[g]? = some (.cells (cs.setIfInBounds (jj * 2) (.int .i64 (-7))) 65 (0, 0))) ∧ Aside0 (ByteRow wr lo hi Ab m)) (fun j _ => m - (intOf j).toNat)
          case atStart => exact ⟨0, Nat.zero_le _, rfl, HS2, HP2, HX2, HK2, HC2, HBR⟩
          case round =>
            clear HS2 HP2 HX2 HK2 HC2 HBR
            obtain ⟨q, hq, rfl, HS, HP, HX, HK, HC, HBR⟩ := hrel
            have hz0 : wr.cell? ⟨w.heap.size, 1, none⟩ = some (.slice (some ⟨g, 0, none⟩) n1 c1) := (blk_cell HK.out 1).trans rfl
            have hz2 : wr.cell? ⟨g, j * 2 + 1, none⟩ = some (.slice Ab m cb) := by have := HJ.out; subst this; exact (blk_cell HC.out _).trans E1.out
            by_cases hltq : q < m
            · obtain ⟨gb, cbs, rfl, hb1, hb2, hb3, hb4⟩ := HBR.out.2 (by omega)
              obtain ⟨x, hx⟩ := hb4 q hltq
              have hz3 : wr.cell? ⟨gb, q, none⟩ = some (.int .u8 x) := (blk_cell hb3 _).trans hx
              have hf3 := blk_frozen hb3 q
              have HBB := Aside0.mk hb3
              have HNE := Aside0.mk (blk_ne HC.out hb3 (by decide))
              have HNE2 := Aside0.mk (show w.heap.size ≠ gb by omega)
              clear hb3 hb4 hx
              go_wp2_with fail
              go_region
              all_goals
                go_wp2
                go_roundw
                case rel => exact ⟨q + 1, by omega, by go_num, ⟨HS.out.set HBB.out _⟩, ⟨HP.out.set HBB.out _⟩, ⟨(HX.out.set (p := ⟨gb, q, none⟩) hb1 hb2 _).drew⟩, ⟨blk_far HK.out (p := ⟨gb, q, none⟩) HNE2.out _⟩, ⟨blk_far HC.out (p := ⟨gb, q, none⟩) HNE.out _⟩, ⟨HBR.out.set HBB.out _⟩⟩
                case measure => simp [intOf]; omega
            · go_wp2
              go_roundw
              case rel => exact ⟨j + 1, by omega, by go_num, HS, HP, HX, HK⟩
              case measure => simp [intOf]; omega
        · go_wp2
          go_end0
          exact ⟨rfl, HX.out⟩
end Go.Proofs.Ytjlohdbkjoofcaa.P
end
