/- Part 7 of the proof: catamaranlaw05.DiskEnds returns true for every two disks, fates and number, and its arguments read afterwards as they read before; no condition. -/
import Derived.RangeFuncNested
import Derived.RangeFuncBox
import Derived.RangeFuncLeaves
import Derived.Shelf.Abstract
import Derived.OwnWalkIn
import Derived.TacticsInMore
import Derived.LoopNIn
import Derived.LoopIn
import Derived.Deep.CutBlock
import Derived.Test.YtjlohdbkjoofcaaDiskEnds06
section
set_option linter.unusedVariables false
set_option linter.unusedSimpArgs false
namespace Go.Proofs.Ytjlohdbkjoofcaa.P
open Go.RowKit Go.Proofs.PrintWords Go.Proofs.PrintLast Go.Proofs.PrintMore
attribute [local go_sem] max2_int min2_int max_two min_two max_three min_three max_four min_four
open Go.Shelf
def down (n k : Nat) : List Nat := (List.range k).map fun j => n - 1 - j
theorem down_succ (n k : Nat) : down n (k + 1) = down n k ++ [n - 1 - k] := by simp [down, List.range_succ]
theorem down_length (n k : Nat) : (down n k).length = k := by simp [down]
attribute [local go_sem] Oper.semAt_some
set_option maxRecDepth 100000 in
set_option maxHeartbeats 2000000 in
theorem hBack.in1 (F : Fence) (n : Nat) (h7 : F.fn 220) (hro : F.round = none) (hn : 1 ≤ n) (l Bs n₀ : Nat) (A : Option Addr) (len cap : Nat) (u0 u1 : Nat → Value) (hm : len ≤ 9223372036854775807) (J Jx : List Nat → World → Prop)
    (hY : ∀ pre (x : Nat) W, J pre W → pre.length < len → YieldAt F (n - 1) Try.prog l #[.int .i64 (x : Int), .agg #[u0 x, u1 x]] W fun e W' =>
      (e = .returned (.bool true) ∧ J (pre ++ [x]) W' ∧ Below n₀ W W') ∨ (e = .returned (.bool false) ∧ Jx (pre ++ [x]) W'))
    (W : World) (hB : Bs < n₀) (hBs : W.cell? ⟨Bs, 0, none⟩ = some (.slice A len cap))
    (hA : 0 < len → ∃ ad, A = some ad ∧ ad.block < n₀ ∧ ∀ j, j < len → W.cell? (ad.add (j * 2)) = some (u0 j) ∧ W.cell? ⟨(ad.add (j * 2)).block, (ad.add (j * 2)).off + 1, none⟩ = some (u1 j)) (h0 : J [] W) :
    CallsIn F n Try.prog 220 #[.func (.yield l) #[] #[], .pointer (some ⟨Bs, 0, none⟩)] W fun e W' => (∃ v, e = .returned v) ∧
      ((∃ ys, ys = down len len ∧ J ys W') ∨ (∃ pre, (∃ k, k ≤ len ∧ pre = down len k) ∧ Jx pre W')) := by
  refine callsIn_of_wp Try.func220 rfl h7 ?_ hro
  simp only [Try.ntmps220, List.size_toArray, List.length_cons, List.length_nil, Nat.reduceAdd, Nat.reduceSub, Array.replicate_succ, Array.replicate_zero, List.push_toArray, List.append_toArray, List.nil_append, List.cons_append]
  gi_wp2
  gi_loopw [3] (fun i wr => ∃ m : Nat, m ≤ len ∧ i = .int .i64 ((m : Int) - 1) ∧ Aside0 (J (down len (len - m)) wr) ∧ Aside0 (Below n₀ W wr))
    (fun i _ => (intOf i + 1).toNat)
  case atStart => exact ⟨len, Nat.le_refl _, by go_num, ⟨by rw [Nat.sub_self]; exact h0⟩, ⟨Below.refl _ _⟩⟩
  case round =>
    obtain ⟨m, hk, rfl, HJ, HX⟩ := hrel
    have hb0 := (HX.out.cell (p := ⟨Bs, 0, none⟩) hB).trans hBs
    cases m with
    | zero =>
      rw [show (((0 : Nat) : Int) - 1) = -1 from rfl]
      gi_wp2
      go_end0
      exact ⟨⟨_, rfl⟩, .inl ⟨_, rfl, HJ.out⟩⟩
    | succ m =>
      rw [show (((m + 1 : Nat) : Int) - 1) = (m : Int) from by omega]
      obtain ⟨ad, rfl, had, hcs⟩ := hA (by omega)
      have hc0 := (HX.out.cell (p := ad.add (m * 2)) (by rw [add_block_]; exact had)).trans (hcs m (by omega)).1
      have hc1 := (HX.out.cell (p := ⟨(ad.add (m * 2)).block, (ad.add (m * 2)).off + 1, none⟩) (by show (ad.add (m * 2)).block < n₀; rw [add_block_]; exact had)).trans (hcs m (by omega)).2
      have hlen : (down len (len - (m + 1))).length < len := by rw [down_length]; omega
      have hnx : down len (len - (m + 1)) ++ [m] = down len (len - m) := by
        rw [show len - m = (len - (m + 1)) + 1 from by omega, down_succ, show len - 1 - (len - (m + 1)) = m from by omega]
      obtain ⟨fn, tmps, assign, body, hy, hR⟩ := hY _ m wr HJ.out hlen
      have HNX := Aside0.mk hnx
      have HCS := Aside0.mk hcs
      clear hnx hcs hlen
      gi_wp2
      refine hR.mono ?_
      rintro e W3 (⟨rfl, hJ3, hk3⟩ | ⟨rfl, hJx3⟩)
      · have HJ3 := Aside0.mk hJ3
        have HX3 := Aside0.mk (HX.out.trans hk3)
        clear hJ3 hk3
        gi_wp2
        go_roundw
        case rel => exact ⟨m, by omega, by go_num, ⟨by rw [← HNX.out]; exact HJ3.out⟩, HX3⟩
        case measure => simp [intOf]
      · have HJ3 := Aside0.mk hJx3
        clear hJx3
        gi_wp2
        refine bodyPost_ret (results_none rfl _ _ _) rfl ?_
        exact ⟨⟨_, rfl⟩, .inr ⟨_, ⟨len - m, by omega, HNX.out⟩, HJ3.out⟩⟩
theorem hBack.mk (F : Fence) (n : Nat) (h5 : F.fn 187) (hro : F.round = none) (a : Option Addr) (len cap : Nat) (w : World) :
    CallsIn F n Try.prog 187 #[.slice a len cap] w fun e w' => e = .returned (.func (.func 220) #[] #[.pointer (some ⟨w.heap.size, 0, none⟩)]) ∧ w' = w.alloc (.cells #[.slice a len cap] 23) := by
  refine callsIn_of_wp Try.func187 rfl h5 ?_ hro
  simp only [Try.ntmps187, List.size_toArray, List.length_cons, List.length_nil, Nat.reduceAdd, Nat.reduceSub, Array.replicate_succ, Array.replicate_zero, List.push_toArray, List.append_toArray, List.nil_append, List.cons_append]
  gi_wp2
  go_ret
  exact ⟨rfl, rfl⟩
theorem hBack.stops (F : Fence) (n : Nat) (h7 : F.fn 220) (hro : F.round = none) (hn : 1 ≤ n) (Bs n₀ : Nat) (A : Option Addr) (len cap : Nat) (u0 u1 : Nat → Value) (hm : len ≤ 9223372036854775807) (w : World) (hB : Bs < n₀) (hn₀ : n₀ ≤ w.heap.size)
    (hBs : w.cell? ⟨Bs, 0, none⟩ = some (.slice A len cap))
    (hA : 0 < len → ∃ ad, A = some ad ∧ ad.block < n₀ ∧ ∀ j, j < len → w.cell? (ad.add (j * 2)) = some (u0 j) ∧ w.cell? ⟨(ad.add (j * 2)).block, (ad.add (j * 2)).off + 1, none⟩ = some (u1 j)) :
    SeqStopsK F n Try.prog 220 #[.pointer (some ⟨Bs, 0, none⟩)] (fun x : Nat => #[Value.int .i64 (x : Int), .agg #[u0 x, u1 x]]) (Below n₀) (fun ys => ys = down len len) (fun pre => ∃ k, k ≤ len ∧ pre = down len k) len w := fun l J Jx W hW _ _ hY h0 => by
  have hW' := hW.mono hn₀
  refine hBack.in1 F n h7 hro hn l Bs n₀ A len cap u0 u1 hm J Jx hY W hB ((hW'.cell (p := ⟨Bs, 0, none⟩) hB).trans hBs) (fun h => ?_) h0
  obtain ⟨ad, e, hb, hc⟩ := hA h
  exact ⟨ad, e, hb, fun j hj => ⟨(hW'.cell (p := ad.add (j * 2)) (by rw [add_block_]; exact hb)).trans (hc j hj).1, (hW'.cell (p := ⟨(ad.add (j * 2)).block, (ad.add (j * 2)).off + 1, none⟩) (by show (ad.add (j * 2)).block < n₀; rw [add_block_]; exact hb)).trans (hc j hj).2⟩⟩
end Go.Proofs.Ytjlohdbkjoofcaa.P
end
section
set_option linter.unusedVariables false
set_option linter.unusedSimpArgs false
namespace Go.Proofs.Ytjlohdbkjoofcaa.P
open Go.RowKit Go.Proofs.PrintWords Go.Proofs.PrintLast Go.Proofs.PrintMore
attribute [local go_sem] max2_int min2_int max_two min_two max_three min_three max_four min_four
theorem okDisk_sec {l0 : List S52} {l1 : List S65} (h : okDisk l0 l1 = true) (s : S52) (hs : s ∈ l0) : s.f0.length = 32 := by
  simp only [okDisk, Bool.and_eq_true, List.all_eq_true] at h
  have := h.1.2 s hs
  simp only [okSec, Bool.and_eq_true, okLen, decide_eq_true_eq] at this
  exact this.1
theorem okDisk_pend {l0 : List S52} {l1 : List S65} (h : okDisk l0 l1 = true) (p : S65) (hp : p ∈ l1) : p.f1.length = 32 ∧ 0 ≤ p.f0 ∧ p.f0 < l0.length := by
  simp only [okDisk, Bool.and_eq_true, List.all_eq_true] at h
  have := h.2 p hp
  simp only [okPend, Bool.and_eq_true, okLen, decide_eq_true_eq] at this
  exact ⟨this.2, this.1.1, this.1.2⟩
theorem clone32 {l : List Int} (h : l.length = 32) : hClone.f l = some l := by
  unfold hClone.f
  rw [if_pos (by omega)]
end Go.Proofs.Ytjlohdbkjoofcaa.P
end
section
set_option linter.unusedVariables false
set_option linter.unusedSimpArgs false
namespace Go.Proofs.Ytjlohdbkjoofcaa.P
open Go.RowKit Go.Proofs.PrintWords Go.Proofs.PrintLast Go.Proofs.PrintMore
attribute [local go_sem] max2_int min2_int max_two min_two max_three min_three max_four min_four
theorem twin_l1 : ∀ (m k n : Nat) (l1 : List S65) (o0 : List S52), n + m = l1.length → m + 1 ≤ k → l1.length ≤ 100000 → (∀ p ∈ l1, p.f1.length ≤ 100000) → disk_Twin.l1 k l1 (l1.length : Int) (n : Int) o0 (l1.take n) = some (o0, l1)
  | 0, k + 1, n, l1, o0, h, _, _, _ => by
    obtain rfl : n = l1.length := by omega
    unfold disk_Twin.l1
    rw [if_neg (by omega), List.take_length]
  | m + 1, k + 1, n, l1, o0, h, hk, hl, hb => by
    have hn : n < l1.length := by omega
    have hg : rd_T65 l1 (n : Int) = l1[n] := by unfold rd_T65; rw [List.getD_eq_getElem?_getD]; simp [hn]
    have hx := hb l1[n] (List.getElem_mem hn)
    have hw : wrap64 ((n : Int) + 1) = ((n + 1 : Nat) : Int) := by unfold wrap64; omega
    have ht : (l1.take n).length = n := by rw [List.length_take]; omega
    unfold disk_Twin.l1
    rw [if_pos (by omega), if_pos (by omega), if_pos (by omega), hg]
    unfold hClone.f
    rw [if_pos (by omega), Option.bind_some, if_pos (by omega), hw, ← twin_l1 m k (n + 1) l1 o0 (by omega) (by omega) hl hb, List.take_add_one, List.getElem?_eq_getElem hn]
    rfl
theorem twin_l0 : ∀ (m k n : Nat) (l0 : List S52) (l1 : List S65), n + m = l0.length → m + l1.length + 2 ≤ k → l0.length ≤ 100000 → l1.length ≤ 100000 → (∀ p ∈ l0, p.f0.length ≤ 100000) → (∀ p ∈ l1, p.f1.length ≤ 100000) → disk_Twin.l0 k l0 (l0.length : Int) (n : Int) l0 l1 (l0.take n) = some (l0, l1)
  | 0, k + 1, n, l0, l1, h, hk, _, hl1, _, hb1 => by
    obtain rfl : n = l0.length := by omega
    unfold disk_Twin.l0
    rw [if_neg (by omega), List.take_length]
    exact twin_l1 l1.length k 0 l1 l0 (by omega) (by omega) hl1 hb1
  | m + 1, k + 1, n, l0, l1, h, hk, hl, hl1, hb, hb1 => by
    have hn : n < l0.length := by omega
    have hg : rd_T52 l0 (n : Int) = l0[n] := by unfold rd_T52; rw [List.getD_eq_getElem?_getD]; simp [hn]
    have hx := hb l0[n] (List.getElem_mem hn)
    have hw : wrap64 ((n : Int) + 1) = ((n + 1 : Nat) : Int) := by unfold wrap64; omega
    have ht : (l0.take n).length = n := by rw [List.length_take]; omega
    unfold disk_Twin.l0
    rw [if_pos (by omega), if_pos (by omega), if_pos (by omega), hg]
    unfold hClone.f
    rw [if_pos (by omega), Option.bind_some, if_pos (by omega), hw, ← twin_l0 m k (n + 1) l0 l1 (by omega) (by omega) hl hl1 hb hb1, List.take_add_one, List.getElem?_eq_getElem hn]
    rfl
theorem disk_Twin.is (k : Nat) (l0 : List S52) (l1 : List S65) (hk : l0.length + l1.length + 2 ≤ k) (hl : l0.length ≤ 100000) (hl1 : l1.length ≤ 100000) (hb : ∀ p ∈ l0, p.f0.length ≤ 100000) (hb1 : ∀ p ∈ l1, p.f1.length ≤ 100000) : disk_Twin.f k l0 l1 = some (l0, l1) := by
  unfold disk_Twin.f
  exact twin_l0 l0.length k 0 l0 l1 (by omega) hk hl hl1 hb hb1
theorem okDisk_len {l0 : List S52} {l1 : List S65} (h : okDisk l0 l1 = true) : 1 ≤ l0.length ∧ l0.length ≤ 1024 ∧ l1.length ≤ 64 := by
  simp only [okDisk, Bool.and_eq_true, decide_eq_true_eq] at h
  omega
theorem okDisk_twin {l0 : List S52} {l1 : List S65} (h : okDisk l0 l1 = true) : disk_Twin.f 1200 l0 l1 = some (l0, l1) := by
  have := okDisk_len h
  exact disk_Twin.is 1200 l0 l1 (by omega) (by omega) (by omega) (fun p hp => by rw [okDisk_sec h p hp]; omega) (fun p hp => by rw [(okDisk_pend h p hp).1]; omega)
end Go.Proofs.Ytjlohdbkjoofcaa.P
end
section
set_option linter.unusedVariables false
set_option linter.unusedSimpArgs false
namespace Go.Proofs.Ytjlohdbkjoofcaa.P
open Go.RowKit Go.Proofs.PrintWords Go.Proofs.PrintLast Go.Proofs.PrintMore
attribute [local go_sem] max2_int min2_int max_two min_two max_three min_three max_four min_four
theorem rd52_at {l : List S52} {n : Nat} (hn : n < l.length) : rd_T52 l (n : Int) = l[n] := by unfold rd_T52; rw [List.getD_eq_getElem?_getD]; simp [hn]
theorem rd65_at {l : List S65} {n : Nat} (hn : n < l.length) : rd_T65 l (n : Int) = l[n] := by unfold rd_T65; rw [List.getD_eq_getElem?_getD]; simp [hn]
theorem rd_at {l : List Int} {n : Nat} (hn : n < l.length) : rd l (n : Int) = l[n] := by unfold rd; rw [List.getD_eq_getElem?_getD]; simp [hn]
theorem wrap_succ {n : Nat} (h : n ≤ 1000000000) : wrap64 ((n : Int) + 1) = ((n + 1 : Nat) : Int) := by unfold wrap64; omega
theorem great_l1 (l0 : List S52) (l1 : List S65) (m : Int) : ∀ (d k n : Nat), 100 ≤ n + d → n ≤ 100 → 2 * d + 2 ≤ k → ∃ b, catamaranref05_Great.l1 k m (n : Int) l0 l1 = some b ∧ (b = false → (l0.length : Int) ≤ m ∧ l1.length ≤ 100 ∧ ∀ i, n ≤ i → (hi : i < l1.length) → (l1[i]).f1.length ≤ 100)
  | d, k, n, h, h2, hk => by
    obtain ⟨k, rfl⟩ : ∃ k', k = k' + 2 := ⟨k - 2, by omega⟩
    unfold catamaranref05_Great.l1
    by_cases hn : n < l1.length
    · rw [if_pos (by omega)]
      unfold catamaranref05_Great.j3
      by_cases h100 : n < 100
      · rw [if_pos (by simp; omega), if_pos (by omega), if_pos (by omega), rd65_at hn]
        by_cases hb : ((l1[n]).f1.length : Int) > 100
        · rw [if_pos hb]
          exact ⟨true, rfl, fun h => by cases h⟩
        · rw [if_neg hb, wrap_succ (by omega)]
          obtain ⟨b, e, hbb⟩ := great_l1 l0 l1 m (d - 1) k (n + 1) (by omega) (by omega) (by omega)
          refine ⟨b, e, fun h => ?_⟩
          obtain ⟨p1, p2, p3⟩ := hbb h
          refine ⟨p1, p2, fun i hi hil => ?_⟩
          by_cases hin : i = n
          · subst hin; omega
          · exact p3 i (by omega) hil
      · rw [if_neg (by simp; omega)]
        by_cases hl : (l0.length : Int) > m
        · rw [if_pos hl]; exact ⟨true, rfl, fun h => by cases h⟩
        · rw [if_neg hl]
          exact ⟨_, rfl, fun h => by have := of_decide_eq_false h; omega⟩
    · rw [if_neg (by omega)]
      unfold catamaranref05_Great.j3
      rw [if_neg (by simp)]
      by_cases hl : (l0.length : Int) > m
      · rw [if_pos hl]; exact ⟨true, rfl, fun h => by cases h⟩
      · rw [if_neg hl]
        exact ⟨_, rfl, fun h => by have := of_decide_eq_false h; exact ⟨by omega, by omega, fun i hi hil => by omega⟩⟩
set_option maxRecDepth 20000 in
theorem great_l0 (l0 : List S52) (l1 : List S65) (m : Nat) (hm : m ≤ 1000) : ∀ (d k n : Nat), m ≤ n + d → n ≤ m → 2 * d + 204 ≤ k → ∃ b, catamaranref05_Great.l0 k (m : Int) (n : Int) l0 l1 = some b ∧ (b = false → l0.length ≤ m ∧ l1.length ≤ 100 ∧ (∀ i, n ≤ i → (hi : i < l0.length) → (l0[i]).f0.length ≤ 100) ∧ ∀ p ∈ l1, p.f1.length ≤ 100)
  | d, k, n, h, h2, hk => by
    obtain ⟨k, rfl⟩ : ∃ k', k = k' + 2 := ⟨k - 2, by omega⟩
    have hend : ∃ b, catamaranref05_Great.l1 k (m : Int) 0 l0 l1 = some b ∧ (b = false → l0.length ≤ m ∧ l1.length ≤ 100 ∧ ∀ p ∈ l1, p.f1.length ≤ 100) := by
      obtain ⟨b, e, hb⟩ := great_l1 l0 l1 m 100 k 0 (by omega) (by omega) (by omega)
      refine ⟨b, e, fun h => ?_⟩
      obtain ⟨p1, p2, p3⟩ := hb h
      refine ⟨by omega, p2, fun p hp => ?_⟩
      obtain ⟨i, hi, rfl⟩ := List.mem_iff_getElem.1 hp
      exact p3 i (by omega) hi
    unfold catamaranref05_Great.l0
    by_cases hn : n < l0.length
    · rw [if_pos (by omega)]
      unfold catamaranref05_Great.j1
      by_cases h100 : n < m
      · rw [if_pos (by simp; omega), if_pos (by omega), if_pos (by omega), rd52_at hn]
        by_cases hb : ((l0[n]).f0.length : Int) > 100
        · rw [if_pos hb]
          exact ⟨true, rfl, fun h => by cases h⟩
        · rw [if_neg hb, wrap_succ (by omega)]
          obtain ⟨b, e, hbb⟩ := great_l0 l0 l1 m hm (d - 1) k (n + 1) (by omega) (by omega) (by omega)
          refine ⟨b, e, fun h => ?_⟩
          obtain ⟨p1, p2, p3, p4⟩ := hbb h
          refine ⟨p1, p2, fun i hi hil => ?_, p4⟩
          by_cases hin : i = n
          · subst hin; omega
          · exact p3 i (by omega) hil
      · rw [if_neg (by simp; omega)]
        obtain ⟨b, e, hb⟩ := hend
        exact ⟨b, e, fun h => by obtain ⟨p1, p2, p3⟩ := hb h; exact ⟨p1, p2, fun i hi hil => by omega, p3⟩⟩
    · rw [if_neg (by omega)]
      unfold catamaranref05_Great.j1
      rw [if_neg (by simp)]
      obtain ⟨b, e, hb⟩ := great_l1 l0 l1 m 100 k 0 (by omega) (by omega) (by omega)
      refine ⟨b, e, fun h => ?_⟩
      obtain ⟨p1, p2, p3⟩ := hb h
      refine ⟨by omega, p2, fun i hi hil => by omega, fun p hp => ?_⟩
      obtain ⟨i, hi, rfl⟩ := List.mem_iff_getElem.1 hp
      exact p3 i (by omega) hi
theorem great_is (l0 : List S52) (l1 : List S65) (m : Nat) (hm : m ≤ 1000) (k : Nat) (hk : 2 * m + 204 ≤ k) : ∃ b, catamaranref05_Great.f k l0 l1 (m : Int) = some b ∧ (b = false → l0.length ≤ m ∧ l1.length ≤ 100 ∧ (∀ s ∈ l0, s.f0.length ≤ 100) ∧ ∀ p ∈ l1, p.f1.length ≤ 100) := by
  obtain ⟨b, e, hb⟩ := great_l0 l0 l1 m hm m k 0 (by omega) (by omega) hk
  refine ⟨b, e, fun h => ?_⟩
  obtain ⟨p1, p2, p3, p4⟩ := hb h
  refine ⟨p1, p2, fun p hp => ?_, p4⟩
  obtain ⟨i, hi, rfl⟩ := List.mem_iff_getElem.1 hp
  exact p3 i (by omega) hi
theorem rtwin_l1 (l0 o0 : List S52) : ∀ (m k n : Nat) (l1 : List S65), n + m = l1.length → m + 1 ≤ k → l1.length ≤ 100000 → (∀ p ∈ l1, p.f1.length ≤ 100000) → catamaranref05_Twin.l1 k (n : Int) l0 l1 o0 (l1.take n) = some (o0, l1)
  | 0, k + 1, n, l1, h, _, _, _ => by
    obtain rfl : n = l1.length := by omega
    unfold catamaranref05_Twin.l1
    rw [if_neg (by omega), List.take_length]
  | m + 1, k + 1, n, l1, h, hk, hl, hb => by
    have hn : n < l1.length := by omega
    have hx := hb l1[n] (List.getElem_mem hn)
    have ht : (l1.take n).length = n := by rw [List.length_take]; omega
    unfold catamaranref05_Twin.l1
    rw [if_pos (by omega), if_pos (by omega), Option.bind_some, rd65_at hn, if_pos (by simp; omega), if_pos (by omega), wrap_succ (by omega), ← rtwin_l1 l0 o0 m k (n + 1) l1 (by omega) (by omega) hl hb, List.take_add_one, List.getElem?_eq_getElem hn]
    rfl
theorem rtwin_l0 : ∀ (m k n : Nat) (l0 : List S52) (l1 : List S65), n + m = l0.length → m + l1.length + 2 ≤ k → l0.length ≤ 100000 → l1.length ≤ 100000 → (∀ p ∈ l0, p.f0.length ≤ 100000) → (∀ p ∈ l1, p.f1.length ≤ 100000) → catamaranref05_Twin.l0 k (n : Int) l0 l1 (l0.take n) = some (l0, l1)
  | 0, k + 1, n, l0, l1, h, hk, _, hl1, _, hb1 => by
    obtain rfl : n = l0.length := by omega
    unfold catamaranref05_Twin.l0
    rw [if_neg (by omega), List.take_length]
    exact rtwin_l1 l0 l0 l1.length k 0 l1 (by omega) (by omega) hl1 hb1
  | m + 1, k + 1, n, l0, l1, h, hk, hl, hl1, hb, hb1 => by
    have hn : n < l0.length := by omega
    have hx := hb l0[n] (List.getElem_mem hn)
    have ht : (l0.take n).length = n := by rw [List.length_take]; omega
    unfold catamaranref05_Twin.l0
    rw [if_pos (by omega), Option.bind_some, if_pos (by omega), rd52_at hn, if_pos (by simp; omega), if_pos (by omega), wrap_succ (by omega), ← rtwin_l0 m k (n + 1) l0 l1 (by omega) (by omega) hl hl1 hb hb1, List.take_add_one, List.getElem?_eq_getElem hn]
    rfl
theorem rTwin_is (k : Nat) (l0 : List S52) (l1 : List S65) (hk : l0.length + l1.length + 2 ≤ k) (hl : l0.length ≤ 100000) (hl1 : l1.length ≤ 100000) (hb : ∀ p ∈ l0, p.f0.length ≤ 100000) (hb1 : ∀ p ∈ l1, p.f1.length ≤ 100000) : catamaranref05_Twin.f k l0 l1 = some (l0, l1) := by
  unfold catamaranref05_Twin.f
  exact rtwin_l0 l0.length k 0 l0 l1 (by omega) hk hl hl1 hb hb1
theorem blank_l0 : ∀ (m k n : Nat) (b : List Int), n + m = b.length → m + 1 ≤ k → b.length ≤ 100000 → (b.take n).all (· == 0) = true → catamaranref05_blank.l0 k b (n : Int) = some (b.all (· == 0))
  | 0, k + 1, n, b, h, _, _, ht => by
    obtain rfl : n = b.length := by omega
    unfold catamaranref05_blank.l0
    rw [List.take_length] at ht
    rw [if_neg (by omega), ht]
  | m + 1, k + 1, n, b, h, hk, hl, ht => by
    have hn : n < b.length := by omega
    unfold catamaranref05_blank.l0
    rw [if_pos (by omega), if_pos (by omega), rd_at hn]
    by_cases hz : b[n] = 0
    · rw [if_pos hz, wrap_succ (by omega)]
      refine blank_l0 m k (n + 1) b (by omega) (by omega) hl ?_
      rw [List.take_succ_eq_append_getElem hn, List.all_append, ht]
      simp [hz]
    · rw [if_neg hz]
      congr 1
      symm
      rw [List.all_eq_false]
      exact ⟨b[n], List.getElem_mem hn, by simpa using hz⟩
theorem blank_is (k : Nat) (b : List Int) (hk : b.length + 1 ≤ k) (hl : b.length ≤ 100000) : catamaranref05_blank.f k b = some (b.all (· == 0)) := by
  unfold catamaranref05_blank.f
  exact blank_l0 b.length k 0 b (by omega) hk hl (by simp)
def byteL (b : List Int) : Prop := ∀ n ∈ b, 0 ≤ n ∧ n ≤ 255
theorem str_list (l : List Int) : (strOfNums l).toList = l.map fun n => UInt8.ofNat n.toNat := by
  unfold strOfNums
  simp [ByteArray.toList_eq]
theorem byte_inj {x y : Int} (hx : 0 ≤ x ∧ x ≤ 255) (hy : 0 ≤ y ∧ y ≤ 255) (h : UInt8.ofNat x.toNat = UInt8.ofNat y.toNat) : x = y := by
  have e := congrArg UInt8.toNat h
  simp only [UInt8.toNat_ofNat'] at e
  omega
theorem str_inj : ∀ {a b : List Int}, byteL a → byteL b → (strOfNums a).toList = (strOfNums b).toList → a = b := by
  intro a b
  rw [str_list, str_list]
  induction a generalizing b with
  | nil => intro _ _ h; cases b with
    | nil => rfl
    | cons y ys => simp at h
  | cons x xs ih => intro ha hb h; cases b with
    | nil => simp at h
    | cons y ys =>
      simp only [List.map_cons, List.cons.injEq] at h
      rw [byte_inj (ha x (by simp)) (hb y (by simp)) h.1, ih (fun n hn => ha n (by simp [hn])) (fun n hn => hb n (by simp [hn])) h.2]
theorem zero32_byte : byteL zero32 := by
  intro n hn
  have := List.eq_of_mem_replicate hn
  omega
theorem all_zero : ∀ (b : List Int) (n : Nat), b.length = n → (b.all (· == 0) = true ↔ b = List.replicate n 0)
  | [], n, h => by subst h; simp
  | x :: xs, n, h => by
    subst h
    have := all_zero xs xs.length rfl
    simp only [List.all_cons, Bool.and_eq_true, List.length_cons, List.replicate_succ, List.cons.injEq, this, beq_iff_eq]
theorem blank_zero {b : List Int} (hb : byteL b) (h : b.length = 32) : b.all (· == 0) = ((strOfNums b).toList == (strOfNums zero32).toList) := by
  rw [Bool.eq_iff_iff, all_zero b 32 h, beq_iff_eq]
  exact ⟨fun e => by rw [e]; rfl, fun e => str_inj hb zero32_byte e⟩
def bytesD (l0 : List S52) (l1 : List S65) : Prop := (∀ s ∈ l0, byteL s.f0) ∧ ∀ p ∈ l1, byteL p.f1
theorem may_l1 (l0 : List S52) (m : Int) : ∀ (d k n : Nat) (l1 : List S65), n + d = l1.length → d + 1 ≤ k → l1.length ≤ 100000 → (l1.take n).all (okPend m) = true → catamaranref05_May.l1 k m (n : Int) l0 l1 = some (l1.all (okPend m))
  | 0, k + 1, n, l1, h, _, _, ht => by
    obtain rfl : n = l1.length := by omega
    unfold catamaranref05_May.l1
    rw [List.take_length] at ht
    rw [if_neg (by omega), ht]
  | d + 1, k + 1, n, l1, h, hk, hl, ht => by
    have hn : n < l1.length := by omega
    have hf : okPend m l1[n] = false → l1.all (okPend m) = false := fun h => by
      rw [List.all_eq_false]
      exact ⟨l1[n], List.getElem_mem hn, by simp [h]⟩
    unfold catamaranref05_May.l1
    rw [if_pos (by omega), if_pos (by omega), rd65_at hn]
    by_cases h0 : (l1[n]).f0 < 0
    · rw [if_pos h0, hf]
      unfold okPend
      rw [decide_eq_false (by omega : ¬ 0 ≤ (l1[n]).f0)]; rfl
    · rw [if_neg h0]
      by_cases h1 : (l1[n]).f0 ≥ m
      · rw [if_pos h1, hf]
        unfold okPend
        rw [decide_eq_false (by omega : ¬ (l1[n]).f0 < m)]; simp
      · rw [if_neg h1]
        by_cases h2 : ((l1[n]).f1.length : Int) = 32
        · rw [if_pos h2, wrap_succ (by omega)]
          refine may_l1 l0 m d k (n + 1) l1 (by omega) (by omega) hl ?_
          rw [List.take_succ_eq_append_getElem hn, List.all_append, ht]
          simp only [List.all_cons, List.all_nil, Bool.and_true, Bool.true_and]
          unfold okPend okLen
          simp
          omega
        · rw [if_neg h2, hf]
          unfold okPend okLen
          have : ¬ (l1[n]).f1.length = 32 := by omega
          simp [this]
set_option maxRecDepth 20000 in
theorem may_l0 : ∀ (d k n : Nat) (l0 : List S52) (l1 : List S65), n + d = l0.length → d + l1.length + 40 ≤ k → l0.length ≤ 100000 → l1.length ≤ 100000 → bytesD l0 l1 → (l0.take n).all okSec = true → catamaranref05_May.l0 k (l0.length : Int) (n : Int) l0 l1 = some (l0.all okSec && l1.all (okPend l0.length))
  | 0, k + 1, n, l0, l1, h, hk, _, hl1, _, ht => by
    obtain rfl : n = l0.length := by omega
    unfold catamaranref05_May.l0
    rw [List.take_length] at ht
    rw [if_neg (by omega), ht, Bool.true_and]
    exact may_l1 l0 l0.length l1.length k 0 l1 (by omega) (by omega) hl1 (by simp)
  | d + 1, k + 1, n, l0, l1, h, hk, hl, hl1, hby, ht => by
    have hn : n < l0.length := by omega
    have hf : okSec l0[n] = false → l0.all okSec = false := fun h => by
      rw [List.all_eq_false]
      exact ⟨l0[n], List.getElem_mem hn, by simp [h]⟩
    have hgo : okSec l0[n] = true → catamaranref05_May.l0 k (l0.length : Int) (wrap64 ((n : Int) + 1)) l0 l1 = some (l0.all okSec && l1.all (okPend l0.length)) := fun hs => by
      rw [wrap_succ (by omega)]
      refine may_l0 d k (n + 1) l0 l1 (by omega) (by omega) hl hl1 hby ?_
      rw [List.take_succ_eq_append_getElem hn, List.all_append, ht]
      simp [hs]
    unfold catamaranref05_May.l0
    rw [if_pos (by omega), if_pos (by omega), if_pos (by omega), rd52_at hn]
    by_cases h32 : ((l0[n]).f0.length : Int) = 32
    · rw [if_pos h32]
      have h32' : (l0[n]).f0.length = 32 := by omega
      by_cases hbad : (l0[n]).f1 = true
      · rw [if_pos hbad, blank_is k _ (by omega) (by omega), Option.bind_some]
        have hz := blank_zero (hby.1 _ (List.getElem_mem hn)) h32'
        have hs : okSec l0[n] = (l0[n]).f0.all (· == 0) := by unfold okSec okLen; rw [hz, hbad]; simp [h32']
        cases hq : (l0[n]).f0.all (· == 0)
        · rw [if_neg (by simp), hf (by rw [hs, hq])]; rfl
        · rw [if_pos rfl, hgo (by rw [hs, hq])]
      · rw [if_neg hbad]
        have hbf : (l0[n]).f1 = false := by simpa using hbad
        exact hgo (by unfold okSec okLen; simp [h32', hbf])
    · rw [if_neg h32, hf]
      · rfl
      · unfold okSec okLen
        have : ¬ (l0[n]).f0.length = 32 := by omega
        simp [this]
theorem may_is (k : Nat) (hk : 1200 ≤ k) (l0 : List S52) (l1 : List S65) (hby : bytesD l0 l1) : catamaranref05_May.f k l0 l1 = some (okDisk l0 l1) := by
  obtain ⟨k, rfl⟩ : ∃ k', k = k' + 1 := ⟨k - 1, by omega⟩
  unfold catamaranref05_May.f okDisk
  by_cases h1 : (l0.length : Int) < 1
  · rw [if_pos h1]
    unfold catamaranref05_May.j0
    have : ¬ 1 ≤ l0.length := by omega
    simp [this]
  · rw [if_neg h1]
    by_cases h2 : (l0.length : Int) > 1024
    · rw [if_pos h2]
      unfold catamaranref05_May.j0
      have : ¬ l0.length ≤ 1024 := by omega
      simp [this]
    · rw [if_neg h2]
      have ej : catamaranref05_May.j0 (k + 1) (l0.length : Int) (decide ((l1.length : Int) > 64)) l0 l1 = if decide ((l1.length : Int) > 64) = true then some false else catamaranref05_May.l0 k (l0.length : Int) 0 l0 l1 := rfl
      rw [ej]
      by_cases h3 : (l1.length : Int) > 64
      · rw [if_pos (decide_eq_true h3)]
        have : ¬ l1.length ≤ 64 := by omega
        simp [this]
      · rw [if_neg (by rw [decide_eq_false h3]; exact Bool.false_ne_true)]
        have e := may_l0 l0.length k 0 l0 l1 (by omega) (by omega) (by omega) (by omega) hby (by simp)
        rw [show ((0 : Nat) : Int) = 0 from rfl] at e
        rw [e, decide_eq_true (by omega : 1 ≤ l0.length), decide_eq_true (by omega : l0.length ≤ 1024), decide_eq_true (by omega : l1.length ≤ 64)]
        simp
theorem dSame_refl (l0 : List S52) (l1 : List S65) : dSame l0 l1 l0 l1 = true := by
  unfold dSame allTo sEq pEq
  simp
end Go.Proofs.Ytjlohdbkjoofcaa.P
end
section
set_option linter.unusedVariables false
set_option linter.unusedSimpArgs false
namespace Go.Proofs.Ytjlohdbkjoofcaa.P
open Go.RowKit Go.Proofs.PrintWords Go.Proofs.PrintLast Go.Proofs.PrintMore
attribute [local go_sem] max2_int min2_int max_two min_two max_three min_three max_four min_four
def fateOf (l : List S52) (p : S65) (f : Int) : List S52 := if Int.tmod f 3 = 1 then l.set p.f0.toNat ⟨p.f1, false⟩ else if Int.tmod f 3 = 2 then l.set p.f0.toNat ⟨zero32, true⟩ else l
def crashTo (l0 : List S52) (l1 : List S65) (fates : List Int) : Nat → List S52
  | 0 => l0
  | k + 1 => fateOf (crashTo l0 l1 fates k) (rd_T65 l1 (k : Int)) (rd fates (k : Int))
theorem fateOf_length (l : List S52) (p : S65) (f : Int) : (fateOf l p f).length = l.length := by
  unfold fateOf
  split
  · exact List.length_set ..
  · split
    · exact List.length_set ..
    · rfl
theorem crashTo_length (l0 : List S52) (l1 : List S65) (fates : List Int) : ∀ k, (crashTo l0 l1 fates k).length = l0.length
  | 0 => rfl
  | k + 1 => (fateOf_length _ _ _).trans (crashTo_length l0 l1 fates k)
def dBehind (l0 : List S52) (l1 : List S65) (fates : List Int) : List S52 := crashTo l0 l1 fates (min l1.length fates.length)
theorem dBehind_length (l0 : List S52) (l1 : List S65) (fates : List Int) : (dBehind l0 l1 fates).length = l0.length := crashTo_length ..
def dCrash (l0 : List S52) (l1 : List S65) (fates : List Int) : List S52 × List S65 × Int := if okDisk l0 l1 = true then (dBehind l0 l1 fates, [], 0) else ([], [], 8)
def dFlush (l0 : List S52) (l1 : List S65) : List S52 × List S65 × Int := dCrash l0 l1 (List.replicate l1.length 1)
theorem okSec_pend {l0 : List S52} {l1 : List S65} (h : okDisk l0 l1 = true) {p : S65} (hp : p ∈ l1) : okSec ⟨p.f1, false⟩ = true := by
  have := (okDisk_pend h p hp).1
  simp [okSec, okLen, this]
theorem okSec_bad : okSec ⟨zero32, true⟩ = true := by simp [okSec, okLen, zero32]
theorem okDisk_all {l0 : List S52} {l1 : List S65} (h : okDisk l0 l1 = true) (s : S52) (hs : s ∈ l0) : okSec s = true := by
  simp only [okDisk, Bool.and_eq_true, List.all_eq_true] at h
  exact h.1.2 s hs
theorem fateOf_all {q : S52 → Prop} {l : List S52} {p : S65} {f : Int} (hl : ∀ s ∈ l, q s) (h1 : q ⟨p.f1, false⟩) (h2 : q ⟨zero32, true⟩) : ∀ s ∈ fateOf l p f, q s := by
  intro s hs
  unfold fateOf at hs
  split at hs
  · rcases List.mem_or_eq_of_mem_set hs with h | rfl
    · exact hl s h
    · exact h1
  · split at hs
    · rcases List.mem_or_eq_of_mem_set hs with h | rfl
      · exact hl s h
      · exact h2
    · exact hl s hs
theorem crashTo_all {q : S52 → Prop} {l0 : List S52} {l1 : List S65} (fates : List Int) (hl : ∀ s ∈ l0, q s) (h1 : ∀ p ∈ l1, q ⟨p.f1, false⟩) (h2 : q ⟨zero32, true⟩) : ∀ k, k ≤ l1.length → ∀ s ∈ crashTo l0 l1 fates k, q s
  | 0, _ => hl
  | k + 1, hk => fateOf_all (crashTo_all fates hl h1 h2 k (by omega)) (h1 _ (by rw [rd65_at (by omega : k < l1.length)]; exact List.getElem_mem _)) h2
theorem dBehind_all {q : S52 → Prop} {l0 : List S52} {l1 : List S65} (fates : List Int) (hl : ∀ s ∈ l0, q s) (h1 : ∀ p ∈ l1, q ⟨p.f1, false⟩) (h2 : q ⟨zero32, true⟩) : ∀ s ∈ dBehind l0 l1 fates, q s := crashTo_all fates hl h1 h2 _ (Nat.min_le_left _ _)
theorem dBehind_ok {l0 : List S52} {l1 : List S65} (fates : List Int) (h : okDisk l0 l1 = true) : okDisk (dBehind l0 l1 fates) [] = true := by
  have hl := okDisk_len h
  have ha := dBehind_all (q := fun s => okSec s = true) fates (okDisk_all h) (fun p hp => okSec_pend h hp) okSec_bad
  unfold okDisk
  rw [dBehind_length]
  simp only [Bool.and_eq_true, decide_eq_true_eq, List.all_eq_true]
  exact ⟨⟨⟨⟨hl.1, hl.2.1⟩, by simp⟩, ha⟩, by simp⟩
end Go.Proofs.Ytjlohdbkjoofcaa.P
end
section
set_option linter.unusedVariables false
set_option linter.unusedSimpArgs false
namespace Go.Proofs.Ytjlohdbkjoofcaa.P
open Go.RowKit Go.Proofs.PrintWords Go.Proofs.PrintLast Go.Proofs.PrintMore
attribute [local go_sem] max2_int min2_int max_two min_two max_three min_three max_four min_four
def hCrash.f (l0 : List S52) (l1 : List S65) (fates : List Int) : Option (List S52 × List S65 × Int) := some (dCrash l0 l1 fates)
def hCrash.T13 : Bool × List (List Nat × List Nat) := (true, [([], []), ([0], [0]), ([], []), ([2], [2]), ([], []), ([4], [4]), ([1, 3, 0, 1, 2, 3, 4, 5], [1, 3]), ([6, 5, 4, 0, 1, 2, 3, 4, 5], [5, 6])])
def hCrash.B13 : List Nat := [0, 1, 0, 4, 0, 16, 63, 127]
theorem hCrash.tab13 : rtab .any (opsOf Try.f49 13) = hCrash.T13 := by kernel_rfl
theorem hCrash.bits13 : waitsOk hCrash.T13.2 hCrash.B13 = true := by kernel_rfl
def hCrash.T18 : Bool × List (List Nat × List Nat) := (true, [([], []), ([0], [0]), ([], []), ([], []), ([3], [3]), ([], []), ([4, 5], [4, 5]), ([6], [6]), ([7], [7]), ([8], [8]), ([1, 2, 0, 1, 2, 3, 4, 5, 6, 7, 8, 9], [1, 2]), ([10, 0, 1, 2, 3, 4, 5, 6, 7, 8, 9], [10]), ([11, 9, 9, 0, 1, 2, 3, 4, 5, 6, 7, 8, 9], [9, 11])])
def hCrash.B18 : List Nat := [0, 1, 0, 0, 8, 0, 56, 120, 248, 504, 1023, 2047, 4095]
theorem hCrash.tab18 : rtab .any (opsOf Try.f49 18) = hCrash.T18 := by kernel_rfl
theorem hCrash.bits18 : waitsOk hCrash.T18.2 hCrash.B18 = true := by kernel_rfl
set_option maxHeartbeats 8000000 in
set_option maxRecDepth 100000 in
theorem hCrash.calls (A0_0 : Option Addr) (c0_0 : Nat) (l0_0 : List S52) (A0_1 : Option Addr) (c0_1 : Nat) (l0_1 : List S65) (A1 : Option Addr) (c1 : Nat) (l1 : List Int) (r1 : List S52) (r2 : List S65) (r3 : Int) (w : World) (hr0_0 : Kd.C k52 w A0_0 l0_0.length l0_0) (hc0_0 : l0_0.length ≤ c0_0) (hr0_1 : Kd.C k65 w A0_1 l0_1.length l0_1) (hc0_1 : l0_1.length ≤ c0_1) (hr1 : Kd.C (Kd.int .u8) w A1 l1.length l1) (hc1 : l1.length ≤ c1) (h : hCrash.f l0_0 l0_1 l1 = some (r1, r2, r3)) :
    Calls Try.prog 49 #[.agg #[.slice A0_0 l0_0.length c0_0, .slice A0_1 l0_1.length c0_1], .slice A1 l1.length c1] w fun e w' => ∃ v0_ v1_ : Value, e = .returned (.tuple #[.agg #[v0_, v1_], .int .i64 r3]) ∧ Kd.S k52 52 w' w.heap.size (fun _ => True) v0_ r1 ∧ Kd.S k65 65 w' w.heap.size (fun _ => True) v1_ r2 ∧ Below w.heap.size w w' := by
  have hu25 := Try.underlying25
  have hu52 := Try.underlying52
  have hu65 := Try.underlying65
  have H : Aside0 (dCrash l0_0 l0_1 l1 = (r1, r2, r3)) := ⟨by unfold hCrash.f at h; injection h⟩
  have HR0 := Aside0.mk hr0_0
  have HR1 := Aside0.mk hr0_1
  have HR2 := Aside0.mk hr1
  have HC0 := Aside0.mk hc0_0
  have HC1 := Aside0.mk hc0_1
  have HC2 := Aside0.mk hc1
  clear h hr0_0 hr0_1 hr1 hc0_0 hc0_1 hc1
  have HB0 := Aside0.mk (below_alloc (below_alloc (Below.refl w.heap.size w) (.cells #[.slice A0_0 l0_0.length c0_0, .slice A0_1 l0_1.length c0_1] 25)) (.cells #[.slice none 0 0, .slice none 0 0] 25))
  have HK0 := Aside0.mk (blk_alloc (heap_alloc_new w (.cells #[.slice A0_0 l0_0.length c0_0, .slice A0_1 l0_1.length c0_1] 25)) (.cells #[.slice none 0 0, .slice none 0 0] 25))
  have HL0 := Aside0.mk (heap_alloc_at w (.cells #[.slice A0_0 l0_0.length c0_0, .slice A0_1 l0_1.length c0_1] 25) (.cells #[.slice none 0 0, .slice none 0 0] 25) (w.heap.size + 1) rfl)
  cases hok : okDisk l0_0 l0_1 with
  | false =>
    obtain ⟨rfl, rfl, rfl⟩ : [] = r1 ∧ [] = r2 ∧ 8 = r3 := by have hd := H.out; unfold dCrash at hd; rw [hok] at hd; simpa using hd
    have HCH := Aside0.mk (show hCheck.f l0_0 l0_1 = some 8 by unfold hCheck.f; rw [hok]; rfl)
    clear H hok
    go_enter Try.func49, Try.ntmps49
    go_wp2_with (go_at_call 39; refine (hCheck.calls A0_0 c0_0 l0_0 A0_1 c0_1 l0_1 8 _ (Kd.C_below HR0.out HB0.out) HC0.out (Kd.C_below HR1.out HB0.out) HC1.out HCH.out).mono ?_; rintro e w1 ⟨rfl, hb1⟩; have HB1 := Aside0.mk (below_step HB0.out hb1); have HL1 := Aside0.mk (blk_below HL0.out hb1); have hy0 : w1.cell? ⟨w.heap.size + 1, 0, none⟩ = some (.slice none 0 0) := (blk_cell HL1.out 0).trans rfl; have hy1 : w1.cell? ⟨w.heap.size + 1, 1, none⟩ = some (.slice none 0 0) := (blk_cell HL1.out 1).trans rfl; have hf0 := blk_frozen HL1.out 0; have hf1 := blk_frozen HL1.out 1; clear hb1)
    refine bodyPost_ret (results_ct rfl _ _ (w.heap.size + 1) 25 #[.slice none 0 0, .slice none 0 0] (0, 0) _ rfl (blk_put (cs := #[.slice none 0 0, .slice none 0 0]) (blk_put (cs := #[.slice none 0 0, .slice none 0 0]) HL1.out 0 _ rfl) 1 _ rfl) Try.underlying25 rfl (by kernel_rfl)) rfl ?_
    exact ⟨_, _, rfl, Kd.S_nil _ _ _ _ _, Kd.S_nil _ _ _ _ _, below_set (below_set HB1.out (Nat.le_succ _)) (Nat.le_succ _)⟩
  | true =>
    obtain ⟨rfl, rfl, rfl⟩ : dBehind l0_0 l0_1 l1 = r1 ∧ [] = r2 ∧ 0 = r3 := by have hd := H.out; unfold dCrash at hd; rw [hok, if_pos rfl] at hd; simpa using hd
    have HCH := Aside0.mk (show hCheck.f l0_0 l0_1 = some 0 by unfold hCheck.f; rw [hok]; rfl)
    have HOK := Aside0.mk hok
    have HN0 := Aside0.mk (okDisk_len hok)
    clear H hok
    go_enter Try.func49, Try.ntmps49
    go_upto_block 0 with (first
      | (go_at_call 39; refine (hCheck.calls A0_0 c0_0 l0_0 A0_1 c0_1 l0_1 0 _ (Kd.C_below HR0.out HB0.out) HC0.out (Kd.C_below HR1.out HB0.out) HC1.out HCH.out).mono ?_; rintro e w1 ⟨rfl, hb1⟩; have HB1 := Aside0.mk (below_step HB0.out hb1); have HK1 := Aside0.mk (blk_below HK0.out hb1); have HL1 := Aside0.mk (blk_below HL0.out hb1); have hq0 : w1.cell? ⟨w.heap.size, 0, none⟩ = some (.slice A0_0 l0_0.length c0_0) := (blk_cell HK1.out 0).trans rfl; have hq1 : w1.cell? ⟨w.heap.size, 1, none⟩ = some (.slice A0_1 l0_1.length c0_1) := (blk_cell HK1.out 1).trans rfl; clear hb1)
      | (go_at_call 52; refine (disk_Twin.calls 1200 A0_0 c0_0 l0_0 A0_1 c0_1 l0_1 l0_0 l0_1 _ (Kd.C_below HR0.out HB1.out) HC0.out (Kd.C_below HR1.out HB1.out) HC1.out (okDisk_twin HOK.out)).mono ?_; rintro e w2 ⟨v1, v2, rfl, ho1, ho2, hb2⟩; obtain ⟨gs, co1, eo1, hs1⟩ := SecMid.of_S ho1 HN0.out.1; subst eo1; obtain ⟨Ao2, co2, eo2, hco2, hs2⟩ := PendVal.of_S ho2; subst eo2; have HB2 := Aside0.mk (below_step HB1.out hb2); have HL2 := Aside0.mk (blk_below HL1.out hb2); have HS := Aside0.mk (SecMid.lower hs1 (below_size HB1.out)); have HP := Aside0.mk (PendVal.lower hs2 (below_size HB1.out)); clear hb2 ho1 ho2 hs1 hs2 hco2 hq0 hq1))
    have HX3 := Aside0.mk (show CrashRel w (w2.alloc (.cells #[.slice (some ⟨gs, 0, none⟩) l0_0.length co1, .slice Ao2 l0_1.length co2] 25)) gs co1 w2.heap.size Ao2 co2 l0_0.length l0_0 l0_1 from ⟨HS.out.below (below_alloc (Below.refl _ _) (.cells #[.slice (some ⟨gs, 0, none⟩) l0_0.length co1, .slice Ao2 l0_1.length co2] 25)), HP.out.below (below_alloc (Below.refl _ _) (.cells #[.slice (some ⟨gs, 0, none⟩) l0_0.length co1, .slice Ao2 l0_1.length co2] 25)), heap_alloc_new w2 (.cells #[.slice (some ⟨gs, 0, none⟩) l0_0.length co1, .slice Ao2 l0_1.length co2] 25), blk_alloc HL2.out (.cells #[.slice (some ⟨gs, 0, none⟩) l0_0.length co1, .slice Ao2 l0_1.length co2] 25), below_alloc HB2.out (.cells #[.slice (some ⟨gs, 0, none⟩) l0_0.length co1, .slice Ao2 l0_1.length co2] 25)⟩)
    clear HS HP HK0 HL0 HB0 HK1 HL1
    generalize w2.alloc (.cells #[.slice (some ⟨gs, 0, none⟩) l0_0.length co1, .slice Ao2 l0_1.length co2] 25) = W3 at HX3 ⊢
    have HG7 := Aside0.mk (below_size HB2.out)
    have HNE := Aside0.mk (show w2.heap.size ≠ w.heap.size + 1 from Nat.ne_of_gt (blk_lt HL2.out))
    generalize w2.heap.size = g7 at HX3 HNE HG7 ⊢
    clear HB2 HB1 HCH HL2
    go_cut [] from 22 to 55 (fun wr => Aside0 (CrashRel w wr gs co1 g7 Ao2 co2 l0_0.length (crashTo l0_0 l0_1 l1 (min l0_1.length l1.length)) l0_1))
    case first =>
      go_wp2_with fail
      go_loopw [22] (fun i wr => ∃ k : Nat, k ≤ l0_1.length ∧ k ≤ l1.length ∧ i = .int .i64 k ∧ Aside0 (CrashRel w wr gs co1 g7 Ao2 co2 l0_0.length (crashTo l0_0 l0_1 l1 k) l0_1)) (fun i _ => l0_1.length - (intOf i).toNat)
      case atStart => exact ⟨0, Nat.zero_le _, Nat.zero_le _, rfl, HX3⟩
      case round =>
        clear HX3
        obtain ⟨k, hk0, hk1, rfl, HX⟩ := hrel
        by_cases hlt : k < l0_1.length
        · obtain ⟨gp, pcs, rfl, hp1, hp2, hp3⟩ := HX.out.pend.2 (by omega)
          obtain ⟨Ap, cp, d0, d1, hcp, hpv⟩ := hp3 k _ (List.getElem?_eq_getElem hlt)
          have hpd := okDisk_pend HOK.out _ (List.getElem_mem hlt)
          rw [← rd65_at hlt] at d0 d1 hcp hpv hpd
          obtain ⟨pa, pb, hpq⟩ : ∃ pa pb, rd_T65 l0_1 (k : Int) = ⟨pa, pb⟩ := ⟨_, _, rfl⟩
          rw [hpq] at d0 d1 hcp hpv hpd
          replace hpd : pb.length = 32 ∧ 0 ≤ pa ∧ pa < l0_0.length := hpd
          have hn64 := HN0.out.2.2
          have HPQ := Aside0.mk hpq
          have HPV := Aside0.mk hpv
          have HPD := Aside0.mk hpd
          have HCP := Aside0.mk hcp
          have hz20 : wr.cell? ⟨gp, k * 2, none⟩ = some (.int .i64 pa) := (blk_cell hp2 _).trans d0
          have hz21 : wr.cell? ⟨gp, k * 2 + 1, none⟩ = some (.slice Ap pb.length cp) := (blk_cell hp2 _).trans d1
          clear hp1 hp2 hp3 d0 d1 hpd hpv hcp hpq
          by_cases hlt1 : k < l1.length
          · obtain ⟨ad, rfl, had⟩ := Kd.at_int (Kd.C_below HR2.out HX.out.bel) (k : Int) (by omega) (by omega)
            simp only [Int.toNat_natCast] at had
            have hal := World.block_lt_of_cell? wr _ had
            have hk0' : 0 ≤ (k : Int) := by omega
            have hk1' : (k : Int) < l1.length := by omega
            have hk2' : (k : Int) < l0_1.length := by omega
            have hq0 : wr.cell? ⟨g7, 0, none⟩ = some (.slice (some ⟨gs, 0, none⟩) l0_0.length co1) := (blk_cell HX.out.box 0).trans rfl
            have hql : g7 < wr.heap.size := blk_lt HX.out.box
            have hpd2 := HPD.out.2.1
            have hpd3 := HPD.out.2.2
            have hsl : gs < wr.heap.size := by obtain ⟨_, hh⟩ := HX.out.sec.at; exact blk_lt hh
            obtain ⟨v0, v1, hw0, hw1, hfw0, hfw1⟩ := HX.out.sec.cells (i := pa.toNat) (by rw [crashTo_length]; omega)
            by_cases h1 : Int.tmod (rd l1 (k : Int)) 3 = 1
            · have h1b : (Int.tmod (rd l1 (k : Int)) 3 == 1) = true := beq_iff_eq.2 h1
              have H1 := Aside0.mk h1
              clear h1
              go_wp2_with fail
              go_roundw
              case rel =>
                refine ⟨k + 1, by omega, by omega, by go_num, ⟨?_⟩⟩
                rw [show crashTo l0_0 l0_1 l1 (k + 1) = (crashTo l0_0 l0_1 l1 k).set pa.toNat ⟨pb, false⟩ by show fateOf _ _ _ = _; unfold fateOf; rw [HPQ.out, if_pos H1.out]]
                exact CrashRel.below (HX.out.put (i := pa.toNat) (s := ⟨pb, false⟩) (by rw [crashTo_length]; omega) HCP.out HPV.out) (below_alloc (Below.refl _ _) _)
              case measure => simp [intOf]; omega
            · have h1b : (Int.tmod (rd l1 (k : Int)) 3 == 1) = false := beq_eq_false_iff_ne.2 h1
              have H1 := Aside0.mk h1
              clear h1
              by_cases h2 : Int.tmod (rd l1 (k : Int)) 3 = 2
              · have h2b : (Int.tmod (rd l1 (k : Int)) 3 == 2) = true := beq_iff_eq.2 h2
                have H2 := Aside0.mk h2
                clear h2
                go_wp2_with fail
                have HXb := Aside0.mk (HX.out.below (below_alloc (Below.refl _ _) (.cells #[.int .i64 pa, .slice Ap pb.length cp] 65)))
                have H9 := Aside0.mk (heap_alloc_new wr (.cells #[.int .i64 pa, .slice Ap pb.length cp] 65))
                clear HX hz20 hz21 hal hq0 hql hsl hw0 hw1 hfw0 hfw1 had
                generalize wr.alloc (.cells #[.int .i64 pa, .slice Ap pb.length cp] 65) = Wb at HXb H9 ⊢
                generalize wr.heap.size = g9 at H9 ⊢
                have HSS := Aside0.mk (show ∀ W : World, Below Wb.heap.size Wb W → W.cell? ⟨g7, 0, none⟩ = some (.slice (some ⟨gs, 0, none⟩) l0_0.length co1) ∧ W.cell? ⟨g9, 0, none⟩ = some (.int .i64 pa) from fun W hb => ⟨(blk_cell (blk_below HXb.out.box hb) 0).trans rfl, (blk_cell (blk_below H9.out hb) 0).trans rfl⟩)
                refine start_ (n := 8) (S := fun w' => w'.cell? ⟨g7, 0, none⟩ = some (.slice (some ⟨gs, 0, none⟩) l0_0.length co1) ∧ w'.cell? ⟨g9, 0, none⟩ = some (.int .i64 pa)) (ds := [7]) #[false, false, false, false, false, false, false, false] (by kernel_rfl) rfl rfl (by exact HSS.out _ (below_drew1 (Below.refl _ _))) (fun hHeld => ?_); refine with_tabW hCrash.tab13 hCrash.bits13 (fun HT_ HW_ => ?_)
                refine pure_ (i := 0) (N := some 48) (v := ?_) (a' := ?_) #[true, false, false, false, false, false, false, false] rfl rfl (any_of HT_.out (by kernel_rfl)) (fun _ _ _ h => h) (Or.inl ⟨by rfl, ?_⟩) ?_ ?_
                rotate_left
                · intro w'
                  go_simp
                  with_reducible rfl
                rotate_left
                · simp only [Act.put, List.setIfInBounds_toArray, List.set_cons_zero, List.set_cons_succ, i64_w, i32_w]
                  rfl
                refine take_ (i := 1) (N := some 49) (v := ?_) (a' := ?_) #[true, true, false, false, false, false, false, false] rfl rfl (take_ofW HT_.out HW_.out (by kernel_rfl)) (fun _ _ _ h => h) (Or.inl ⟨by rfl, ?_⟩) hHeld ?_ ?_
                rotate_left
                · rintro w' ⟨s0, s1⟩
                  go_simp
                  with_reducible rfl
                rotate_left
                · simp only [Act.put, List.setIfInBounds_toArray, List.set_cons_zero, List.set_cons_succ, i64_w, i32_w]
                  rfl
                refine pure_ (i := 2) (N := some 50) (v := ?_) (a' := ?_) #[true, true, true, false, false, false, false, false] rfl rfl (any_of HT_.out (by kernel_rfl)) (fun _ _ _ h => h) (Or.inl ⟨by rfl, ?_⟩) ?_ ?_
                rotate_left
                · intro w'
                  go_simp
                  with_reducible rfl
                rotate_left
                · simp only [Act.put, List.setIfInBounds_toArray, List.set_cons_zero, List.set_cons_succ, i64_w, i32_w]
                  rfl
                refine take_ (i := 3) (N := some 51) (v := ?_) (a' := ?_) #[true, true, true, true, false, false, false, false] rfl rfl (take_ofW HT_.out HW_.out (by kernel_rfl)) (fun _ _ _ h => h) (Or.inl ⟨by rfl, ?_⟩) hHeld ?_ ?_
                rotate_left
                · rintro w' ⟨s0, s1⟩
                  go_simp
                  with_reducible rfl
                rotate_left
                · simp only [Act.put, List.setIfInBounds_toArray, List.set_cons_zero, List.set_cons_succ, i64_w, i32_w]
                  rfl
                refine one_ (i := 4) (N := some 52) #[true, true, true, true, true, false, false, false] rfl rfl (one_of HT_.out (by kernel_rfl)) (by decide) (fun K hK => ?_)
                refine goes_ Try.func126 (by kernel_rfl) rfl #[] (by rfl) rfl rfl (by (try simp only [List.map_toArray, List.map_cons, List.map_nil]); first | done | rfl | (simp only [List.length_drop, List.length_take]; rfl)) ?_
                refine (disk_none.calls zero32 _ (by unfold disk_none.f zero32; rw [if_pos (by decide)])).mono ?_
                rintro e w4 ⟨v4, rfl, ho4, hb4⟩
                obtain ⟨A4, c4, rfl, hc4, hv4⟩ := ByteVal.of_R ho4
                refine ⟨_, rfl, ?_⟩
                have HB4 := Aside0.mk (below_step (below_drew1 (Below.refl Wb.heap.size Wb)) hb4)
                have HX4 := Aside0.mk (HXb.out.below HB4.out)
                have HV4 := Aside0.mk (ByteVal.lower hv4 (show w.heap.size ≤ Wb.drew.heap.size from below_size (below_drew1 HXb.out.bel)))
                have HC4 := Aside0.mk hc4
                have hz32 : zero32.length = 32 := rfl
                clear hv4 ho4 hb4 hc4
                refine hK.out _ _ (by exact HSS.out _ HB4.out) (fun hHeld => ?_)
                clear hK K
                refine norm_ (a' := ?_) ?_ ?_
                rotate_left
                · show Act.put _ (some 52) _ = _
                  simp only [Act.put, List.setIfInBounds_toArray, List.set_cons_zero, List.set_cons_succ, i64_w, i32_w]
                  rfl
                refine pure_ (i := 5) (N := some 53) (v := ?_) (a' := ?_) #[true, true, true, true, true, true, false, false] rfl rfl (any_of HT_.out (by kernel_rfl)) (fun _ _ _ h => h) (Or.inl ⟨by rfl, ?_⟩) ?_ ?_
                rotate_left
                · intro w'
                  go_simp
                  with_reducible rfl
                rotate_left
                · simp only [Act.put, List.setIfInBounds_toArray, List.set_cons_zero, List.set_cons_succ, i64_w, i32_w]
                  rfl
                refine pure_ (i := 6) (N := some 54) (v := ?_) (a' := ?_) #[true, true, true, true, true, true, true, false] rfl rfl (any_of HT_.out (by kernel_rfl)) (fun _ _ _ h => h) (Or.inl ⟨by rfl, ?_⟩) ?_ ?_
                rotate_left
                · intro w'
                  go_simp
                  with_reducible rfl
                rotate_left
                · simp only [Act.put, List.setIfInBounds_toArray, List.set_cons_zero, List.set_cons_succ, i64_w, i32_w]
                  rfl
                refine last_ (i := 7) (N := none) #[true, true, true, true, true, true, true, true] rfl rfl (one_of HT_.out (by kernel_rfl)) (by decide) (fun K hK => ?_)
                obtain ⟨v0, v1, hw0, hw1, hfw0, hfw1⟩ := HX4.out.sec.cells (i := pa.toNat) (by rw [crashTo_length]; omega)
                refine skip_ (w1 := ?_) (by rfl) rfl ?_ ?_
                rotate_left
                · go_simp
                  rfl
                refine hK.out _ _ ?_
                refine done_ (done_of HT_.out (by kernel_rfl)) ?_
                try go_wp2
                go_roundw
                case rel =>
                  refine ⟨k + 1, by omega, by omega, by go_num, ⟨?_⟩⟩
                  rw [show crashTo l0_0 l0_1 l1 (k + 1) = (crashTo l0_0 l0_1 l1 k).set pa.toNat ⟨zero32, true⟩ by show fateOf _ _ _ = _; unfold fateOf; rw [HPQ.out, if_neg H1.out, if_pos H2.out]]
                  exact HX4.out.put (i := pa.toNat) (s := ⟨zero32, true⟩) (by rw [crashTo_length]; omega) HC4.out HV4.out
                case measure => simp [intOf]; omega
              · have h2b : (Int.tmod (rd l1 (k : Int)) 3 == 2) = false := beq_eq_false_iff_ne.2 h2
                have H2 := Aside0.mk h2
                clear h2
                go_wp2_with fail
                go_roundw
                case rel =>
                  refine ⟨k + 1, by omega, by omega, by go_num, ⟨?_⟩⟩
                  rw [show crashTo l0_0 l0_1 l1 (k + 1) = crashTo l0_0 l0_1 l1 k by show fateOf _ _ _ = _; unfold fateOf; rw [if_neg H1.out, if_neg H2.out]]
                  exact CrashRel.below HX.out (below_alloc (Below.refl _ _) _)
                case measure => simp [intOf]; omega
          · have hkn : ((k : Nat) : Int) ≥ l1.length := by omega
            go_wp2_with fail
            go_meet
            rw [show min l0_1.length l1.length = k by omega]
            exact ⟨CrashRel.below HX.out (below_alloc (Below.refl _ _) _)⟩
        · go_wp2_with fail
          go_meet
          rw [show min l0_1.length l1.length = k by omega]
          exact HX
    case rest =>
      have HX := hcut
      clear hcut HX3
      rw [show crashTo l0_0 l0_1 l1 (min l0_1.length l1.length) = dBehind l0_0 l0_1 l1 from rfl] at HX
      have hq0 : wc.cell? ⟨g7, 0, none⟩ = some (.slice (some ⟨gs, 0, none⟩) l0_0.length co1) := (blk_cell HX.out.box 0).trans rfl
      have HX2 := Aside0.mk (show CrashRel2 w wc gs co1 g7 Ao2 co2 l0_0.length l0_1.length 0 (dBehind l0_0 l0_1 l1) from ⟨HX.out.sec, HX.out.box, HX.out.res, HX.out.bel⟩)
      clear HX
      have HDL := Aside0.mk (dBehind_length l0_0 l0_1 l1)
      have HDO := Aside0.mk (dBehind_ok l1 HOK.out)
      generalize hLL : dBehind l0_0 l0_1 l1 = L at HX2 HDL HDO
      have HLL := Aside0.mk hLL
      clear hLL
      go_wp2_with fail
      go_loopw [59] (fun i wr => ∃ k : Nat, k ≤ l0_0.length ∧ i = .int .i64 k ∧ Aside0 (CrashRel2 w wr gs co1 g7 Ao2 co2 l0_0.length l0_1.length k L)) (fun i _ => l0_0.length - (intOf i).toNat)
      case atStart => exact ⟨0, Nat.zero_le _, rfl, HX2⟩
      case round =>
        clear HX2 hq0
        obtain ⟨k, hk0, rfl, HX⟩ := hrel
        have hn10 := HN0.out.2.1
        by_cases hlt : k < l0_0.length
        · have hlL : k < L.length := by rw [HDL.out]; exact hlt
          obtain ⟨A', c', d0, hc', hv'⟩ := HX.out.sec.text hlL
          have HV := Aside0.mk hv'
          have HC' := Aside0.mk hc'
          have H32 := Aside0.mk (okDisk_sec HDO.out _ (List.getElem_mem hlL))
          have HGL := Aside0.mk (List.getElem?_eq_getElem hlL)
          have HD0 := Aside0.mk d0
          generalize L[k] = s at HV HC' H32 HGL HD0
          clear d0 hc' hv'
          have hk0' : 0 ≤ (k : Int) := by omega
          have hk1' : (k : Int) < l0_0.length := by omega
          have HSS := Aside0.mk (show ∀ W : World, Below wr.heap.size wr W → W.cell? ⟨g7, 0, none⟩ = some (.slice (some ⟨gs, 0, none⟩) l0_0.length co1) ∧ W.cell? ⟨gs, k * 2, none⟩ = some (.slice A' s.f0.length c') from fun W hb => ⟨(blk_cell (blk_below HX.out.box hb) 0).trans rfl, (hb.cell (World.block_lt_of_cell? wr _ HD0.out)).trans HD0.out⟩)
          go_wp2_with fail
          refine start_ (n := 13) (S := fun w' => w'.cell? ⟨g7, 0, none⟩ = some (.slice (some ⟨gs, 0, none⟩) l0_0.length co1) ∧ w'.cell? ⟨gs, k * 2, none⟩ = some (.slice A' s.f0.length c')) (ds := [12]) #[false, false, false, false, false, false, false, false, false, false, false, false, false] (by kernel_rfl) rfl rfl (by exact HSS.out _ (below_drew1 (Below.refl _ _))) (fun hHeld => ?_); refine with_tabW hCrash.tab18 hCrash.bits18 (fun HT_ HW_ => ?_)
          refine pure_ (i := 0) (N := some 62) (v := ?_) (a' := ?_) #[true, false, false, false, false, false, false, false, false, false, false, false, false] rfl rfl (any_of HT_.out (by kernel_rfl)) (fun _ _ _ h => h) (Or.inl ⟨by rfl, ?_⟩) ?_ ?_
          rotate_left
          · intro w'
            go_simp
            with_reducible rfl
          rotate_left
          · simp only [Act.put, List.setIfInBounds_toArray, List.set_cons_zero, List.set_cons_succ, i64_w, i32_w]
            rfl
          refine take_ (i := 1) (N := some 63) (v := ?_) (a' := ?_) #[true, true, false, false, false, false, false, false, false, false, false, false, false] rfl rfl (take_ofW HT_.out HW_.out (by kernel_rfl)) (fun _ _ _ h => h) (Or.inl ⟨by rfl, ?_⟩) hHeld ?_ ?_
          rotate_left
          · rintro w' ⟨s0, s1⟩
            go_simp
            with_reducible rfl
          rotate_left
          · simp only [Act.put, List.setIfInBounds_toArray, List.set_cons_zero, List.set_cons_succ, i64_w, i32_w]
            rfl
          refine pure_ (i := 2) (N := some 64) (v := ?_) (a' := ?_) #[true, true, true, false, false, false, false, false, false, false, false, false, false] rfl rfl (any_of HT_.out (by kernel_rfl)) (fun _ _ _ h => h) (Or.inl ⟨by rfl, ?_⟩) ?_ ?_
          rotate_left
          · intro w'
            go_simp
            with_reducible rfl
          rotate_left
          · simp only [Act.put, List.setIfInBounds_toArray, List.set_cons_zero, List.set_cons_succ, i64_w, i32_w]
            rfl
          refine pure_ (i := 3) (N := some 65) (v := ?_) (a' := ?_) #[true, true, true, true, false, false, false, false, false, false, false, false, false] rfl rfl (any_of HT_.out (by kernel_rfl)) (fun _ _ _ h => h) (Or.inl ⟨by rfl, ?_⟩) ?_ ?_
          rotate_left
          · intro w'
            go_simp
            with_reducible rfl
          rotate_left
          · simp only [Act.put, List.setIfInBounds_toArray, List.set_cons_zero, List.set_cons_succ, i64_w, i32_w]
            rfl
          refine take_ (i := 4) (N := some 66) (v := ?_) (a' := ?_) #[true, true, true, true, true, false, false, false, false, false, false, false, false] rfl rfl (take_ofW HT_.out HW_.out (by kernel_rfl)) (fun _ _ _ h => h) (Or.inl ⟨by rfl, ?_⟩) hHeld ?_ ?_
          rotate_left
          · rintro w' ⟨s0, s1⟩
            go_simp
            with_reducible rfl
          rotate_left
          · simp only [Act.put, List.setIfInBounds_toArray, List.set_cons_zero, List.set_cons_succ, i64_w, i32_w]
            rfl
          refine pure_ (i := 5) (N := some 67) (v := ?_) (a' := ?_) #[true, true, true, true, true, true, false, false, false, false, false, false, false] rfl rfl (any_of HT_.out (by kernel_rfl)) (fun _ _ _ h => h) (Or.inl ⟨by rfl, ?_⟩) ?_ ?_
          rotate_left
          · intro w'
            go_simp
            with_reducible rfl
          rotate_left
          · simp only [Act.put, List.setIfInBounds_toArray, List.set_cons_zero, List.set_cons_succ, i64_w, i32_w]
            rfl
          refine pure_ (i := 6) (N := some 68) (v := ?_) (a' := ?_) #[true, true, true, true, true, true, true, false, false, false, false, false, false] rfl rfl (any_of HT_.out (by kernel_rfl)) (fun _ _ _ h => h) (Or.inl ⟨by rfl, ?_⟩) ?_ ?_
          rotate_left
          · intro w'
            go_simp
            with_reducible rfl
          rotate_left
          · simp only [Act.put, List.setIfInBounds_toArray, List.set_cons_zero, List.set_cons_succ, i64_w, i32_w]
            rfl
          refine pure_ (i := 7) (N := some 69) (v := ?_) (a' := ?_) #[true, true, true, true, true, true, true, true, false, false, false, false, false] rfl rfl (any_of HT_.out (by kernel_rfl)) (fun _ _ _ h => h) (Or.inl ⟨by rfl, ?_⟩) ?_ ?_
          rotate_left
          · intro w'
            go_simp
            with_reducible rfl
          rotate_left
          · simp only [Act.put, List.setIfInBounds_toArray, List.set_cons_zero, List.set_cons_succ, i64_w, i32_w]
            rfl
          refine take_ (i := 8) (N := some 70) (v := ?_) (a' := ?_) #[true, true, true, true, true, true, true, true, true, false, false, false, false] rfl rfl (take_ofW HT_.out HW_.out (by kernel_rfl)) (fun _ _ _ h => h) (Or.inl ⟨by rfl, ?_⟩) hHeld ?_ ?_
          rotate_left
          · rintro w' ⟨s0, s1⟩
            go_simp
            with_reducible rfl
          rotate_left
          · simp only [Act.put, List.setIfInBounds_toArray, List.set_cons_zero, List.set_cons_succ, i64_w, i32_w]
            rfl
          refine one_ (i := 9) (N := some 71) #[true, true, true, true, true, true, true, true, true, true, false, false, false] rfl rfl (one_of HT_.out (by kernel_rfl)) (by decide) (fun K hK => ?_)
          refine goes_ Try.func119 (by kernel_rfl) rfl #[.slice A' s.f0.length c'] (by rfl) rfl rfl (by (try simp only [List.map_toArray, List.map_cons, List.map_nil]); first | done | rfl | (simp only [List.length_drop, List.length_take]; rfl)) ?_
          refine (hClone.calls A' c' s.f0 s.f0 wr.drew (Kd.C_below HV.out.C (below_drew1 (Below.refl _ _))) HC'.out (clone32 H32.out)).mono ?_
          rintro e w4 ⟨v4, rfl, ho4, hb4⟩
          obtain ⟨A4, c4, e4⟩ := Kd.R_slice ho4
          subst e4
          refine ⟨_, rfl, ?_⟩
          have HB4 := Aside0.mk (below_step (below_drew1 (Below.refl wr.heap.size wr)) hb4)
          have HX4 := Aside0.mk ((HX.out.below (below_drew1 (Below.refl _ _))).step hb4 HGL.out ho4)
          have hw0 : w4.cell? ⟨gs, k * 2, none⟩ = some (.slice A' s.f0.length c') := (HSS.out _ HB4.out).2
          have hfw0 : w4.frozen? ⟨gs, k * 2, none⟩ = false := by obtain ⟨_, hh⟩ := (HX.out.below HB4.out).sec.at; exact blk_frozen hh _
          clear ho4 hb4
          refine hK.out _ _ (by exact HSS.out _ HB4.out) (fun hHeld => ?_)
          clear hK K
          refine norm_ (a' := ?_) ?_ ?_
          rotate_left
          · show Act.put _ (some 71) _ = _
            simp only [Act.put, List.setIfInBounds_toArray, List.set_cons_zero, List.set_cons_succ, i64_w, i32_w]
            rfl
          refine pure_ (i := 10) (N := some 72) (v := ?_) (a' := ?_) #[true, true, true, true, true, true, true, true, true, true, true, false, false] rfl rfl (any_of HT_.out (by kernel_rfl)) (fun _ _ _ h => h) (Or.inl ⟨by rfl, ?_⟩) ?_ ?_
          rotate_left
          · intro w'
            go_simp
            with_reducible rfl
          rotate_left
          · simp only [Act.put, List.setIfInBounds_toArray, List.set_cons_zero, List.set_cons_succ, i64_w, i32_w]
            rfl
          refine pure_ (i := 11) (N := some 73) (v := ?_) (a' := ?_) #[true, true, true, true, true, true, true, true, true, true, true, true, false] rfl rfl (any_of HT_.out (by kernel_rfl)) (fun _ _ _ h => h) (Or.inl ⟨by rfl, ?_⟩) ?_ ?_
          rotate_left
          · intro w'
            go_simp
            with_reducible rfl
          rotate_left
          · simp only [Act.put, List.setIfInBounds_toArray, List.set_cons_zero, List.set_cons_succ, i64_w, i32_w]
            rfl
          refine last_ (i := 12) (N := none) #[true, true, true, true, true, true, true, true, true, true, true, true, true] rfl rfl (one_of HT_.out (by kernel_rfl)) (by decide) (fun K hK => ?_)
          refine skip_ (w1 := ?_) (by rfl) rfl ?_ ?_
          rotate_left
          · go_simp
            rfl
          refine hK.out _ _ ?_
          refine done_ (done_of HT_.out (by kernel_rfl)) ?_
          clear hw0 hfw0
          try go_wp2
          go_roundw
          case rel => exact ⟨k + 1, by omega, by go_num, HX4⟩
          case measure => simp [intOf]; omega
        · obtain rfl : k = l0_0.length := by omega
          have HG := Aside0.mk HX.out.sec.at
          have hq0 : wr.cell? ⟨g7, 0, none⟩ = some (.slice (some ⟨gs, 0, none⟩) l0_0.length co1) := (blk_cell HX.out.box 0).trans rfl
          have hq1 : wr.cell? ⟨g7, 1, none⟩ = some (.slice Ao2 l0_1.length co2) := (blk_cell HX.out.box 1).trans rfl
          have hfq := blk_frozen HX.out.box 1
          have hy0 : wr.cell? ⟨w.heap.size + 1, 0, none⟩ = some (.slice none 0 0) := (blk_cell HX.out.res 0).trans rfl
          have hy1 : wr.cell? ⟨w.heap.size + 1, 1, none⟩ = some (.slice none 0 0) := (blk_cell HX.out.res 1).trans rfl
          have hf0 := blk_frozen HX.out.res 0
          have hf1 := blk_frozen HX.out.res 1
          have hne : g7 ≠ w.heap.size + 1 := HNE.out
          have hne' := Ne.symm hne
          go_wp2_with fail
          obtain ⟨_, hgs⟩ := HG.out
          have n7 : g7 ≠ gs := blk_ne HX.out.box hgs (by decide)
          have nz : w.heap.size + 1 ≠ gs := blk_ne HX.out.res hgs (by decide)
          have hr1 := blk_far HX.out.res (p := ⟨g7, 1, none⟩) hne' (.slice none 0 0)
          have hr2 := blk_put (cs := #[.slice none 0 0, .slice none 0 0]) hr1 0 (.slice (some ⟨gs, 0, none⟩) l0_0.length co1) rfl
          have hs1 := HX.out.sec.far (p := ⟨g7, 1, none⟩) HX.out.box (by decide) (by decide) (.slice none 0 0)
          have hs2 := hs1.far (p := ⟨w.heap.size + 1, 0, none⟩) hr1 (by decide) (by decide) (.slice (some ⟨gs, 0, none⟩) l0_0.length co1)
          have hs3 := hs2.far (p := ⟨w.heap.size + 1, 1, none⟩) hr2 (by decide) (by decide) (.slice none 0 0)
          rw [← HDL.out] at hs3
          have hs4 := hs3.S
          rw [HDL.out, ← HLL.out] at hs4
          refine bodyPost_ret (results_ct rfl _ _ (w.heap.size + 1) 25 #[.slice (some ⟨gs, 0, none⟩) l0_0.length co1, .slice none 0 0] (0, 0) _ rfl (blk_put (cs := #[.slice (some ⟨gs, 0, none⟩) l0_0.length co1, .slice none 0 0]) hr2 1 _ rfl) Try.underlying25 rfl (by kernel_rfl)) rfl ?_
          exact ⟨_, _, rfl, hs4, Kd.S_nil _ _ _ _ _, below_set (below_set (below_set HX.out.bel HG7.out) (Nat.le_succ _)) (Nat.le_succ _)⟩
end Go.Proofs.Ytjlohdbkjoofcaa.P
end
section
set_option linter.unusedVariables false
set_option linter.unusedSimpArgs false
namespace Go.Proofs.Ytjlohdbkjoofcaa.P
open Go.RowKit Go.Proofs.PrintWords Go.Proofs.PrintLast Go.Proofs.PrintMore
attribute [local go_sem] max2_int min2_int max_two min_two max_three min_three max_four min_four
def hFlush.f (l0 : List S52) (l1 : List S65) : Option (List S52 × List S65 × Int) := if l1.length ≤ 100000 then some (dFlush l0 l1) else none
def hFlush.T2 : Bool × List (List Nat × List Nat) := (true, [([], []), ([], []), ([], []), ([2], [2]), ([3], [3]), ([1, 4], [1, 4]), ([0, 5, 5], [0, 5]), ([6], [6]), ([6], [6]), ([7, 6, 0, 1, 2, 3, 4, 5, 6, 7, 8], [7]), ([8, 9, 0, 1, 2, 3, 4, 5, 6, 7, 8, 9], [8])])
def hFlush.B2 : List Nat := [0, 0, 0, 4, 12, 30, 63, 127, 127, 511, 1023]
theorem hFlush.tab2 : rtab .any (opsOf Try.f47 2) = hFlush.T2 := by kernel_rfl
theorem hFlush.bits2 : waitsOk hFlush.T2.2 hFlush.B2 = true := by kernel_rfl
set_option maxHeartbeats 4000000 in
set_option maxRecDepth 100000 in
theorem hFlush.calls (A0_0 : Option Addr) (c0_0 : Nat) (l0_0 : List S52) (A0_1 : Option Addr) (c0_1 : Nat) (l0_1 : List S65) (r1 : List S52) (r2 : List S65) (r3 : Int) (w : World) (hr0_0 : Kd.C k52 w A0_0 l0_0.length l0_0) (hc0_0 : l0_0.length ≤ c0_0) (hr0_1 : Kd.C k65 w A0_1 l0_1.length l0_1) (hc0_1 : l0_1.length ≤ c0_1) (h : hFlush.f l0_0 l0_1 = some (r1, r2, r3)) :
    Calls Try.prog 47 #[.agg #[.slice A0_0 l0_0.length c0_0, .slice A0_1 l0_1.length c0_1]] w fun e w' => ∃ v0_ v1_ : Value, e = .returned (.tuple #[.agg #[v0_, v1_], .int .i64 r3]) ∧ Kd.S k52 52 w' w.heap.size (fun _ => True) v0_ r1 ∧ Kd.S k65 65 w' w.heap.size (fun _ => True) v1_ r2 ∧ Below w.heap.size w w' := by
  have hu25 := Try.underlying25
  unfold hFlush.f at h
  by_cases hl : l0_1.length ≤ 100000
  · rw [if_pos hl] at h
    injection h with h
    have H := Aside0.mk h
    have HR0 := Aside0.mk hr0_0
    have HR1 := Aside0.mk hr0_1
    have HC0 := Aside0.mk hc0_0
    have HC1 := Aside0.mk hc0_1
    have HL := Aside0.mk hl
    clear h hr0_0 hr0_1 hc0_0 hc0_1 hl
    go_enter Try.func47, Try.ntmps47
    go_wp2_with fail
    have HBx := Aside0.mk (show ∀ W, Below w.heap.size w W → Kd.C k52 W A0_0 l0_0.length l0_0 ∧ Kd.C k65 W A0_1 l0_1.length l0_1 from fun W hb => ⟨Kd.C_below HR0.out hb, Kd.C_below HR1.out hb⟩)
    have HB0 := Aside0.mk (below_alloc (below_alloc (below_alloc (Below.refl w.heap.size w) (.cells #[.slice A0_0 l0_0.length c0_0, .slice A0_1 l0_1.length c0_1] 25)) (.cells #[.slice none 0 0, .slice none 0 0] 25)) (.cells #[.int .u8 1] 160))
    have HK0 := Aside0.mk (blk_alloc (blk_alloc (heap_alloc_new w (.cells #[.slice A0_0 l0_0.length c0_0, .slice A0_1 l0_1.length c0_1] 25)) (.cells #[.slice none 0 0, .slice none 0 0] 25)) (.cells #[.int .u8 1] 160))
    have HZ0 := Aside0.mk (blk_alloc (heap_alloc_at w (.cells #[.slice A0_0 l0_0.length c0_0, .slice A0_1 l0_1.length c0_1] 25) (.cells #[.slice none 0 0, .slice none 0 0] 25) (w.heap.size + 1) rfl) (.cells #[.int .u8 1] 160))
    have HA0 := Aside0.mk (show (((w.alloc (.cells #[.slice A0_0 l0_0.length c0_0, .slice A0_1 l0_1.length c0_1] 25)).alloc (.cells #[.slice none 0 0, .slice none 0 0] 25)).alloc (.cells #[.int .u8 1] 160)).heap[w.heap.size + 1 + 1]? = some (.cells #[.int .u8 1] 160 (0, 0)) by
      have e := heap_alloc_new ((w.alloc (.cells #[.slice A0_0 l0_0.length c0_0, .slice A0_1 l0_1.length c0_1] 25)).alloc (.cells #[.slice none 0 0, .slice none 0 0] 25)) (.cells #[.int .u8 1] 160)
      rwa [show ((w.alloc (.cells #[.slice A0_0 l0_0.length c0_0, .slice A0_1 l0_1.length c0_1] 25)).alloc (.cells #[.slice none 0 0, .slice none 0 0] 25)).heap.size = w.heap.size + 1 + 1 by show ((w.heap.push _).push _).size = _; rw [Array.size_push, Array.size_push]] at e)
    generalize ((w.alloc (.cells #[.slice A0_0 l0_0.length c0_0, .slice A0_1 l0_1.length c0_1] 25)).alloc (.cells #[.slice none 0 0, .slice none 0 0] 25)).alloc (.cells #[.int .u8 1] 160) = W0 at HB0 HK0 HZ0 HA0 ⊢
    have HSS := Aside0.mk (show ∀ W : World, Below W0.heap.size W0 W → W.cell? ⟨w.heap.size, 0, none⟩ = some (.slice A0_0 l0_0.length c0_0) ∧ W.cell? ⟨w.heap.size, 1, none⟩ = some (.slice A0_1 l0_1.length c0_1) from fun W hb => ⟨(blk_cell (blk_below HK0.out hb) 0).trans rfl, (blk_cell (blk_below HK0.out hb) 1).trans rfl⟩)
    refine start_ (n := 11) (S := fun w' => w'.cell? ⟨w.heap.size, 0, none⟩ = some (.slice A0_0 l0_0.length c0_0) ∧ w'.cell? ⟨w.heap.size, 1, none⟩ = some (.slice A0_1 l0_1.length c0_1)) (ds := [9]) #[false, false, false, false, false, false, false, false, false, false, false] (by kernel_rfl) rfl rfl (by exact HSS.out _ (below_drew1 (Below.refl _ _))) (fun hHeld => ?_); refine with_tabW hFlush.tab2 hFlush.bits2 (fun HT_ HW_ => ?_)
    refine take_ (i := 0) (N := some 6) (v := ?_) (a' := ?_) #[true, false, false, false, false, false, false, false, false, false, false] rfl rfl (take_ofW HT_.out HW_.out (by kernel_rfl)) (fun _ _ _ h => h) (Or.inl ⟨by rfl, ?_⟩) hHeld ?_ ?_
    rotate_left
    · rintro w' ⟨s0, s1⟩
      go_simp
      with_reducible rfl
    rotate_left
    · simp only [Act.put, List.setIfInBounds_toArray, List.set_cons_zero, List.set_cons_succ, i64_w, i32_w]
      rfl
    refine pure_ (i := 1) (N := some 7) (v := ?_) (a' := ?_) #[true, true, false, false, false, false, false, false, false, false, false] rfl rfl (any_of HT_.out (by kernel_rfl)) (fun _ _ _ h => h) (Or.inl ⟨by rfl, ?_⟩) ?_ ?_
    rotate_left
    · intro w'
      go_simp
      with_reducible rfl
    rotate_left
    · simp only [Act.put, List.setIfInBounds_toArray, List.set_cons_zero, List.set_cons_succ, i64_w, i32_w]
      rfl
    refine pure_ (i := 2) (N := some 8) (v := ?_) (a' := ?_) #[true, true, true, false, false, false, false, false, false, false, false] rfl rfl (any_of HT_.out (by kernel_rfl)) (fun _ _ _ h => h) (Or.inl ⟨by rfl, ?_⟩) ?_ ?_
    rotate_left
    · intro w'
      go_simp
      with_reducible rfl
    rotate_left
    · simp only [Act.put, List.setIfInBounds_toArray, List.set_cons_zero, List.set_cons_succ, i64_w, i32_w]
      rfl
    refine take_ (i := 3) (N := some 9) (v := ?_) (a' := ?_) #[true, true, true, true, false, false, false, false, false, false, false] rfl rfl (take_ofW HT_.out HW_.out (by kernel_rfl)) (fun _ _ _ h => h) (Or.inl ⟨by rfl, ?_⟩) hHeld ?_ ?_
    rotate_left
    · rintro w' ⟨s0, s1⟩
      go_simp
      with_reducible rfl
    rotate_left
    · simp only [Act.put, List.setIfInBounds_toArray, List.set_cons_zero, List.set_cons_succ, i64_w, i32_w]
      rfl
    refine take_ (i := 4) (N := some 10) (v := ?_) (a' := ?_) #[true, true, true, true, true, false, false, false, false, false, false] rfl rfl (take_ofW HT_.out HW_.out (by kernel_rfl)) (fun _ _ _ h => h) (Or.inl ⟨by rfl, ?_⟩) hHeld ?_ ?_
    rotate_left
    · rintro w' ⟨s0, s1⟩
      go_simp
      with_reducible rfl
    rotate_left
    · simp only [Act.put, List.setIfInBounds_toArray, List.set_cons_zero, List.set_cons_succ, i64_w, i32_w]
      rfl
    refine one_ (i := 5) (N := some 11) #[true, true, true, true, true, true, false, false, false, false, false] rfl rfl (one_of HT_.out (by kernel_rfl)) (by decide) (fun K hK => ?_)
    refine goes_ Try.func128 (by kernel_rfl) rfl #[.slice (some ⟨w.heap.size + 1 + 1, 0, none⟩) 1 1, .int .i64 l0_1.length] (by rfl) rfl rfl (by (try simp only [List.map_toArray, List.map_cons, List.map_nil]); first | done | rfl | (simp only [List.length_drop, List.length_take]; rfl)) ?_
    refine (hRepeat.calls (some ⟨w.heap.size + 1 + 1, 0, none⟩) 1 [1] l0_1.length (List.replicate l0_1.length 1) W0.drew ⟨rfl, by simp, fun _ => ⟨_, rfl, fun j p hj => ⟨[.int .u8 p], rfl, rfl, fun i u hu => ?_⟩⟩⟩ (Nat.le_refl _) (by unfold hRepeat.f; rw [if_pos ⟨rfl, by omega, by have := HL.out; omega⟩]; rfl)).mono ?_
    · have hj0 : j = 0 := by
        have := (List.getElem?_eq_some_iff.1 hj).1
        simpa using this
      have hi0 : i = 0 := by
        have := (List.getElem?_eq_some_iff.1 hu).1
        simpa using this
      subst hj0 hi0
      have hj : 1 = p := by simpa using hj
      have hu : Value.int .u8 p = u := by simpa using hu
      subst hj hu
      rw [add_plain]
      exact (blk_cell (blk_drew HA0.out) 0).trans rfl
    rintro e w1 ⟨v1, rfl, ho1, hb1⟩
    have HB1 := Aside0.mk (below_step (below_drew1 (Below.refl W0.heap.size W0)) hb1)
    obtain ⟨A1, c1, e1, hc1, hr1⟩ := Kd.R_reads ho1
    subst e1
    have HC1' := Aside0.mk hc1
    have HR1' := Aside0.mk hr1
    refine ⟨_, rfl, ?_⟩
    clear ho1 hb1 hc1 hr1
    refine hK.out _ _ (by exact HSS.out _ HB1.out) (fun hHeld => ?_)
    clear hK K
    refine norm_ (a' := ?_) ?_ ?_
    rotate_left
    · show Act.put _ (some 11) _ = _
      simp only [Act.put, List.setIfInBounds_toArray, List.set_cons_zero, List.set_cons_succ, i64_w, i32_w]
      rfl
    refine one_ (i := 6) (N := some 12) #[true, true, true, true, true, true, true, false, false, false, false] rfl rfl (one_of HT_.out (by kernel_rfl)) (by decide) (fun K hK => ?_)
    refine goes_ Try.func49 (by kernel_rfl) rfl #[.agg #[.slice A0_0 l0_0.length c0_0, .slice A0_1 l0_1.length c0_1], .slice A1 (List.replicate l0_1.length (1 : Int)).length c1] (by rfl) rfl rfl (by (try simp only [List.map_toArray, List.map_cons, List.map_nil]); first | done | rfl | (simp only [List.length_drop, List.length_take]; rfl)) ?_
    refine (hCrash.calls A0_0 c0_0 l0_0 A0_1 c0_1 l0_1 A1 c1 (List.replicate l0_1.length 1) r1 r2 r3 w1 (HBx.out _ (below_step HB0.out HB1.out)).1 HC0.out (HBx.out _ (below_step HB0.out HB1.out)).2 HC1.out HR1'.out HC1'.out (by unfold hCrash.f; rw [← H.out]; rfl)).mono ?_
    rintro e w2 ⟨v1, v2, rfl, ho1, ho2, hb2⟩
    refine ⟨_, rfl, ?_⟩
    have HB2 := Aside0.mk (below_step HB1.out hb2)
    have HO1 := Aside0.mk (Kd.S_lower ho1 (below_size (below_step HB0.out HB1.out)))
    have HO2 := Aside0.mk (Kd.S_lower ho2 (below_size (below_step HB0.out HB1.out)))
    obtain ⟨X1, d1, e1⟩ := Kd.S_slice ho1
    subst e1
    obtain ⟨X2, d2, e2⟩ := Kd.S_slice ho2
    subst e2
    clear ho1 ho2 hb2
    refine hK.out _ _ (by exact HSS.out _ HB2.out) (fun hHeld => ?_)
    clear hK K
    refine norm_ (a' := ?_) ?_ ?_
    rotate_left
    · show Act.put _ (some 12) _ = _
      simp only [Act.put, List.setIfInBounds_toArray, List.set_cons_zero, List.set_cons_succ, i64_w, i32_w]
      rfl
    refine pure_ (i := 7) (N := some 13) (v := ?_) (a' := ?_) #[true, true, true, true, true, true, true, true, false, false, false] rfl rfl (any_of HT_.out (by kernel_rfl)) (fun _ _ _ h => h) (Or.inl ⟨by rfl, ?_⟩) ?_ ?_
    rotate_left
    · intro w'
      go_simp
      with_reducible rfl
    rotate_left
    · simp only [Act.put, List.setIfInBounds_toArray, List.set_cons_zero, List.set_cons_succ, i64_w, i32_w]
      rfl
    refine pure_ (i := 8) (N := some 14) (v := ?_) (a' := ?_) #[true, true, true, true, true, true, true, true, true, false, false] rfl rfl (any_of HT_.out (by kernel_rfl)) (fun _ _ _ h => h) (Or.inl ⟨by rfl, ?_⟩) ?_ ?_
    rotate_left
    · intro w'
      go_simp
      with_reducible rfl
    rotate_left
    · simp only [Act.put, List.setIfInBounds_toArray, List.set_cons_zero, List.set_cons_succ, i64_w, i32_w]
      rfl
    have HZ2 := Aside0.mk (blk_below HZ0.out HB2.out)
    have hy0 : w2.cell? ⟨w.heap.size + 1, 0, none⟩ = some (.slice none 0 0) := (blk_cell HZ2.out 0).trans rfl
    have hy1 : w2.cell? ⟨w.heap.size + 1, 1, none⟩ = some (.slice none 0 0) := (blk_cell HZ2.out 1).trans rfl
    have hf0 := blk_frozen HZ2.out 0
    have hf1 := blk_frozen HZ2.out 1
    refine last_ (i := 9) (N := none) #[true, true, true, true, true, true, true, true, true, true, false] rfl rfl (one_of HT_.out (by kernel_rfl)) (by decide) (fun K hK => ?_)
    refine skip_ (w1 := ?_) (by rfl) rfl ?_ ?_
    rotate_left
    · go_simp
      rfl
    refine hK.out _ _ ?_
    refine pure_ (i := 10) (N := some 3) (v := ?_) (a' := ?_) #[true, true, true, true, true, true, true, true, true, true, true] rfl rfl (any_of HT_.out (by kernel_rfl)) (fun _ _ _ h => h) (Or.inl ⟨by rfl, ?_⟩) ?_ ?_
    rotate_left
    · intro w'
      go_simp
      with_reducible rfl
    rotate_left
    · simp only [Act.put, List.setIfInBounds_toArray, List.set_cons_zero, List.set_cons_succ, i64_w, i32_w]
      rfl
    refine done_ (done_of HT_.out (by kernel_rfl)) ?_
    have hr1 := blk_put (cs := #[.slice none 0 0, .slice none 0 0]) HZ2.out 0 (.slice X1 r1.length d1) rfl
    have hr2 := blk_put (cs := #[.slice X1 r1.length d1, .slice none 0 0]) hr1 1 (.slice X2 r2.length d2) rfl
    have n52 : ∀ q, q ∈ 52 :: k52.E → q ≠ 25 := by decide
    have n65 : ∀ q, q ∈ 65 :: k65.E → q ≠ 25 := by decide
    try go_wp2
    refine bodyPost_ret (results_ct rfl _ _ (w.heap.size + 1) 25 #[.slice X1 r1.length d1, .slice X2 r2.length d2] (0, 0) _ rfl hr2 Try.underlying25 rfl (by kernel_rfl)) rfl ?_
    exact ⟨_, _, rfl, Kd.S_set (Kd.S_set HO1.out HZ2.out n52 _ _) hr1 n52 _ _, Kd.S_set (Kd.S_set HO2.out HZ2.out n65 _ _) hr1 n65 _ _, below_set (below_set (below_step HB0.out HB2.out) (Nat.le_succ _)) (Nat.le_succ _)⟩
  · rw [if_neg hl] at h
    cases h
end Go.Proofs.Ytjlohdbkjoofcaa.P
end
section
set_option linter.unusedVariables false
set_option linter.unusedSimpArgs false
namespace Go.Proofs.Ytjlohdbkjoofcaa.P
open Go.RowKit Go.Proofs.PrintWords Go.Proofs.PrintLast Go.Proofs.PrintMore
attribute [local go_sem] max2_int min2_int max_two min_two max_three min_three max_four min_four
def hRBehind.f (l0 : List S52) (l1 : List S65) (fates : List Int) : Option (List S52 × List S65) := if okDisk l0 l1 = true then some (dBehind l0 l1 fates, []) else none
theorem SecMid.of_S_all {w : World} {base : Nat} {ok : Nat → Prop} {v : Value} {xs : List S52} (h : Kd.S k52 52 w base ok v xs) (hn : 0 < xs.length) : ∃ g c, v = .slice (some ⟨g, 0, none⟩) xs.length c ∧ SecMid w base g c xs.length xs := by
  obtain ⟨f, _, inner, ho, hr⟩ := h
  rw [List.length_zipIdx] at ho
  rcases ho.2 with ⟨e, hi⟩ | ⟨g, cap, cur, he, hb, hh, h1, h2, h3, h4⟩
  · omega
  · refine ⟨g, cap, he, h1, h2, hb, cur, f, hh, h3, fun i s hs => ?_⟩
    obtain ⟨hi, rfl⟩ := List.getElem?_eq_some_iff.1 hs
    have hiz : i < xs.zipIdx.length := by rw [List.length_zipIdx]; exact hi
    obtain ⟨u, v, hM, c0, c1⟩ := rows_at (show Reps (fun (x : S52 × Nat) cs => k52.M w base _ x.1 cs) 2 xs.zipIdx inner from hr) h4.symm hiz
    have hz : xs.zipIdx[i] = (xs[i], i) := by simp
    rw [hz] at hM
    obtain ⟨v0, e, hR⟩ := k52_openM hM
    injection e with e1 e
    injection e with e2 _
    subst e1 e2
    obtain ⟨A', c', rfl, hc', hb'⟩ := ByteVal.of_R hR
    exact ⟨A', c', c0, c1, hc', hb', fun _ => Kd.R_mono hR (fun _ hk => hk.2)⟩
theorem SecMid.fresh {w W0 : World} {lo g c k i : Nat} {l : List S52} (h : SecMid W0 lo g c k l) (hlo : lo ≤ W0.heap.size) (hb : Below W0.heap.size W0 w) (hi : i < l.length) {s : S52} {A' : Option Addr} {c' : Nat} {ok : Nat → Prop} (hr : (Kd.int .u8).R 5 w W0.heap.size ok (.slice A' s.f0.length c') s.f0) :
    SecMid ((w.setCell ⟨g, i * 2, none⟩ (.slice A' s.f0.length c')).setCell ⟨g, i * 2 + 1, none⟩ (.bool s.f1)) lo g c k (l.set i s) := by
  obtain ⟨h1, h2, h3, cs, t, b0, hz, d⟩ := h
  have b := blk_below b0 hb
  have b1 := blk_set b (i * 2) (.slice A' s.f0.length c')
  have b2 := blk_set b1 (i * 2 + 1) (.bool s.f1)
  have h5 : ∀ q, q ∈ 5 :: (Kd.int .u8).E → q ≠ 52 := fun q hq => by
    have : q = 5 := by simpa [Kd.int, Kd.scalar] using hq
    omega
  obtain ⟨_, _, d0, d1, _, _, _⟩ := d i _ (List.getElem?_eq_getElem hi)
  have z0 := (Array.getElem?_eq_some_iff.1 d0).1
  have z1 := (Array.getElem?_eq_some_iff.1 d1).1
  refine ⟨by rw [List.length_set]; exact h1, h2, h3, _, (fun j => if j < W0.heap.size then t j else i), b2, by simpa using hz, fun j x hx => ?_⟩
  by_cases hij : j = i
  · subst hij
    rw [List.getElem?_set_self hi] at hx
    injection hx with hx
    subst hx
    obtain ⟨_, hl', hv'⟩ := ByteVal.of_R' hr
    refine ⟨A', c', ?_, ?_, hl', ((hv'.lower hlo).far (p := ⟨g, j * 2, none⟩) b (by decide) _).far (p := ⟨g, j * 2 + 1, none⟩) b1 (by decide) _, fun _ => ?_⟩
    · rw [Array.getElem?_setIfInBounds, if_neg (by omega), Array.getElem?_setIfInBounds, if_pos rfl, if_pos z0]
    · rw [Array.getElem?_setIfInBounds, if_pos rfl, if_pos (by simpa using z1)]
    · refine Kd.R_mono (Kd.R_set (Kd.R_set (Kd.R_lower (Kd.R_bound hr) hlo) b h5 _ _) b1 h5 _ _) (fun q hq => ?_)
      show (if q < W0.heap.size then t q else j) = j
      rw [if_neg (by have := hq.2.1; omega)]
  · rw [List.getElem?_set_ne (fun e => hij e.symm)] at hx
    obtain ⟨A0, c0', e0, e1, hl, hv, ht⟩ := d j x hx
    refine ⟨A0, c0', ?_, ?_, hl, ((hv.below hb).far (p := ⟨g, i * 2, none⟩) b (by decide) _).far (p := ⟨g, i * 2 + 1, none⟩) b1 (by decide) _, fun hlt => ?_⟩
    · rw [Array.getElem?_setIfInBounds, if_neg (by omega), Array.getElem?_setIfInBounds, if_neg (by omega), e0]
    · rw [Array.getElem?_setIfInBounds, if_neg (by omega), Array.getElem?_setIfInBounds, if_neg (by omega), e1]
    · refine Kd.R_mono (Kd.R_set (Kd.R_set (Kd.R_below (Kd.R_bound (ht hlt)) hb) b h5 _ _) b1 h5 _ _) (fun q hq => ?_)
      show (if q < W0.heap.size then t q else i) = j
      rw [if_pos hq.2.2.1]
      exact hq.1
structure RBRel (w wr : World) (gs co1 g5 : Nat) (Ao2 : Option Addr) (co2 n0 n1 : Nat) (D : Obj) (l : List S52) : Prop where
  sec : SecMid wr w.heap.size gs co1 n0 l
  arg : wr.heap[w.heap.size]? = some D
  box : wr.heap[g5]? = some (.cells #[.slice (some ⟨gs, 0, none⟩) n0 co1, .slice Ao2 n1 co2] 25 (0, 0))
  res : wr.heap[w.heap.size + 1]? = some (.cells #[.slice none 0 0, .slice none 0 0] 25 (0, 0))
  bel : Below w.heap.size w wr
section
variable {w wr : World} {gs co1 g5 : Nat} {Ao2 : Option Addr} {co2 n0 n1 : Nat} {a b : Value} {l : List S52}
theorem RBRel.below {W : World} {D : Obj} (h : RBRel w wr gs co1 g5 Ao2 co2 n0 n1 D l) (hb : Below wr.heap.size wr W) : RBRel w W gs co1 g5 Ao2 co2 n0 n1 D l :=
  ⟨h.sec.below hb, (hb.block _ (by obtain ⟨hh, _⟩ := Array.getElem?_eq_some_iff.1 h.arg; exact hh)).trans h.arg, blk_below h.box hb, blk_below h.res hb, below_step h.bel hb⟩
theorem RBRel.put {w4 : World} {i : Nat} (h : RBRel w wr gs co1 g5 Ao2 co2 n0 n1 (.cells #[a, b] 25 (0, 0)) l) (hb : Below wr.heap.size wr w4) (hi : i < l.length) {s : S52} {A' : Option Addr} {c' : Nat} {ok : Nat → Prop} (hr : (Kd.int .u8).R 5 w4 wr.heap.size ok (.slice A' s.f0.length c') s.f0) :
    RBRel w ((w4.setCell ⟨gs, i * 2, none⟩ (.slice A' s.f0.length c')).setCell ⟨gs, i * 2 + 1, none⟩ (.bool s.f1)) gs co1 g5 Ao2 co2 n0 n1 (.cells #[a, b] 25 (0, 0)) (l.set i s) := by
  have h4 := h.below hb
  obtain ⟨cs, hg⟩ := h4.sec.at
  have hlo : w.heap.size ≤ gs := h4.sec.2.2.1
  have na : w.heap.size ≠ gs := blk_ne h4.arg hg (by decide)
  have n5 : g5 ≠ gs := blk_ne h4.box hg (by decide)
  have nz : w.heap.size + 1 ≠ gs := blk_ne h4.res hg (by decide)
  exact ⟨h.sec.fresh (below_size h.bel) hb hi hr, blk_far (blk_far h4.arg na _) na _, blk_far (blk_far h4.box n5 _) n5 _, blk_far (blk_far h4.res nz _) nz _, below_set (below_set h4.bel hlo) hlo⟩
end
def hRBehind.T7 : Bool × List (List Nat × List Nat) := (true, [([], []), ([0], [0]), ([], []), ([], []), ([], []), ([4], [4]), ([], []), ([5, 6], [5, 6]), ([7], [7]), ([8], [8]), ([3, 9], [3, 9]), ([10], [10]), ([1, 2, 0, 1, 2, 3, 4, 5, 6, 7, 8, 9, 10, 11], [1, 2]), ([12, 11, 10, 0, 1, 2, 3, 4, 5, 6, 7, 8, 9, 10, 11], [11, 12])])
def hRBehind.B7 : List Nat := [0, 1, 0, 0, 0, 16, 0, 112, 240, 496, 1016, 2040, 4095, 8191]
theorem hRBehind.tab7 : rtab .any (opsOf Try.f130 7) = hRBehind.T7 := by kernel_rfl
theorem hRBehind.bits7 : waitsOk hRBehind.T7.2 hRBehind.B7 = true := by kernel_rfl
def hRBehind.T9 : Bool × List (List Nat × List Nat) := (true, [([], []), ([0], [0]), ([], []), ([], []), ([3], [3]), ([1, 2, 0, 1, 2, 3, 4], [1, 2]), ([5, 4, 0, 1, 2, 3, 4], [4, 5])])
def hRBehind.B9 : List Nat := [0, 1, 0, 0, 8, 31, 63]
theorem hRBehind.tab9 : rtab .any (opsOf Try.f130 9) = hRBehind.T9 := by kernel_rfl
theorem hRBehind.bits9 : waitsOk hRBehind.T9.2 hRBehind.B9 = true := by kernel_rfl
set_option maxHeartbeats 8000000 in
set_option maxRecDepth 100000 in
theorem hRBehind.calls (A0_0 : Option Addr) (c0_0 : Nat) (l0_0 : List S52) (A0_1 : Option Addr) (c0_1 : Nat) (l0_1 : List S65) (A1 : Option Addr) (c1 : Nat) (l1 : List Int) (r1 : List S52) (r2 : List S65) (w : World) (hr0_0 : Kd.C k52 w A0_0 l0_0.length l0_0) (hc0_0 : l0_0.length ≤ c0_0) (hr0_1 : Kd.C k65 w A0_1 l0_1.length l0_1) (hc0_1 : l0_1.length ≤ c0_1) (hr1 : Kd.C (Kd.int .u8) w A1 l1.length l1) (hc1 : l1.length ≤ c1) (h : hRBehind.f l0_0 l0_1 l1 = some (r1, r2)) :
    Calls Try.prog 130 #[.agg #[.slice A0_0 l0_0.length c0_0, .slice A0_1 l0_1.length c0_1], .slice A1 l1.length c1] w fun e w' => ∃ v0_ v1_ : Value, e = .returned (.agg #[v0_, v1_]) ∧ Kd.S k52 52 w' w.heap.size (fun _ => True) v0_ r1 ∧ Kd.S k65 65 w' w.heap.size (fun _ => True) v1_ r2 ∧ Below w.heap.size w w' := by
  have hu25 := Try.underlying25
  have hu52 := Try.underlying52
  have hu65 := Try.underlying65
  unfold hRBehind.f at h
  cases hok : okDisk l0_0 l0_1 with
  | false => rw [hok] at h; simp at h
  | true =>
  rw [hok, if_pos rfl] at h
  obtain ⟨rfl, rfl⟩ : dBehind l0_0 l0_1 l1 = r1 ∧ [] = r2 := by simpa using h
  have HR0 := Aside0.mk hr0_0
  have HR1 := Aside0.mk hr0_1
  have HR2 := Aside0.mk hr1
  have HC0 := Aside0.mk hc0_0
  have HC1 := Aside0.mk hc0_1
  have HC2 := Aside0.mk hc1
  have HOK := Aside0.mk hok
  have HN0 := Aside0.mk (okDisk_len hok)
  have FT := Aside0.mk (rTwin_is 1200 l0_0 l0_1 (by have := okDisk_len hok; omega) (by have := okDisk_len hok; omega) (by have := okDisk_len hok; omega) (fun p hp => by rw [okDisk_sec hok p hp]; omega) (fun p hp => by rw [(okDisk_pend hok p hp).1]; omega))
  clear h hr0_0 hr0_1 hr1 hc0_0 hc0_1 hc1 hok
  have HB0 := Aside0.mk (below_alloc (below_alloc (Below.refl w.heap.size w) (.cells #[.slice A0_0 l0_0.length c0_0, .slice A0_1 l0_1.length c0_1] 25)) (.cells #[.slice none 0 0, .slice none 0 0] 25))
  have HK0 := Aside0.mk (blk_alloc (heap_alloc_new w (.cells #[.slice A0_0 l0_0.length c0_0, .slice A0_1 l0_1.length c0_1] 25)) (.cells #[.slice none 0 0, .slice none 0 0] 25))
  have HL0 := Aside0.mk (heap_alloc_at w (.cells #[.slice A0_0 l0_0.length c0_0, .slice A0_1 l0_1.length c0_1] 25) (.cells #[.slice none 0 0, .slice none 0 0] 25) (w.heap.size + 1) rfl)
  go_enter Try.func130, Try.ntmps130
  go_wp2_with (go_at_call 31; refine (catamaranref05_Twin.calls 1200 A0_0 c0_0 l0_0 A0_1 c0_1 l0_1 l0_0 l0_1 _ (Kd.C_below HR0.out HB0.out) HC0.out (Kd.C_below HR1.out HB0.out) HC1.out FT.out).mono ?_; rintro e w2 ⟨v1, v2, rfl, ho1, ho2, hb2⟩; obtain ⟨gs, co1, eo1, hs1⟩ := SecMid.of_S_all ho1 HN0.out.1; subst eo1; obtain ⟨Ao2, co2, eo2⟩ := Kd.S_slice ho2; subst eo2; have HB2 := Aside0.mk (below_step HB0.out hb2); have HK2 := Aside0.mk (blk_below HK0.out hb2); have HL2 := Aside0.mk (blk_below HL0.out hb2); have HS := Aside0.mk (SecMid.lower hs1 (below_size HB0.out)); clear hb2 ho1 ho2 hs1)
  have HX3 := Aside0.mk (show RBRel w (w2.alloc (.cells #[.slice (some ⟨gs, 0, none⟩) l0_0.length co1, .slice Ao2 l0_1.length co2] 25)) gs co1 w2.heap.size Ao2 co2 l0_0.length l0_1.length (.cells #[.slice A0_0 l0_0.length c0_0, .slice A0_1 l0_1.length c0_1] 25 (0, 0)) l0_0 from ⟨HS.out.below (below_alloc (Below.refl _ _) (.cells #[.slice (some ⟨gs, 0, none⟩) l0_0.length co1, .slice Ao2 l0_1.length co2] 25)), blk_alloc HK2.out (.cells #[.slice (some ⟨gs, 0, none⟩) l0_0.length co1, .slice Ao2 l0_1.length co2] 25), heap_alloc_new w2 (.cells #[.slice (some ⟨gs, 0, none⟩) l0_0.length co1, .slice Ao2 l0_1.length co2] 25), blk_alloc HL2.out (.cells #[.slice (some ⟨gs, 0, none⟩) l0_0.length co1, .slice Ao2 l0_1.length co2] 25), below_alloc HB2.out (.cells #[.slice (some ⟨gs, 0, none⟩) l0_0.length co1, .slice Ao2 l0_1.length co2] 25)⟩)
  have HG5 := Aside0.mk (below_size HB2.out)
  have HNE := Aside0.mk (show w2.heap.size ≠ w.heap.size + 1 from Nat.ne_of_gt (blk_lt HL2.out))
  clear HS HK0 HL0 HB0 HK2
  generalize w2.alloc (.cells #[.slice (some ⟨gs, 0, none⟩) l0_0.length co1, .slice Ao2 l0_1.length co2] 25) = W3 at HX3 ⊢
  generalize w2.heap.size = g5 at HX3 HNE HG5 ⊢
  clear HB2 HL2
  go_loopw [6] (fun i wr => ∃ k : Nat, k ≤ l0_1.length ∧ k ≤ l1.length ∧ i = .int .i64 k ∧ Aside0 (RBRel w wr gs co1 g5 Ao2 co2 l0_0.length l0_1.length (.cells #[.slice A0_0 l0_0.length c0_0, .slice A0_1 l0_1.length c0_1] 25 (0, 0)) (crashTo l0_0 l0_1 l1 k))) (fun i _ => l0_1.length - (intOf i).toNat)
  case atStart => exact ⟨0, Nat.zero_le _, Nat.zero_le _, rfl, HX3⟩
  case round =>
    clear HX3
    obtain ⟨k, hk0, hk1, rfl, HX⟩ := hrel
    have hn64 := HN0.out.2.2
    have hq1 : wr.cell? ⟨w.heap.size, 1, none⟩ = some (.slice A0_1 l0_1.length c0_1) := (blk_cell HX.out.arg 1).trans rfl
    by_cases hlt : k < l0_1.length
    · have r0 : 0 ≤ (k : Int) := by omega
      have r1 : (k : Int) < l0_1.length := by omega
      by_cases hlt1 : k < l1.length
      · have r2 : (k : Int) < l1.length := by omega
        obtain ⟨ap, P0, p0, rfl, hpb, hpo, hple, hpC⟩ := at_T65 (Kd.C_below HR1.out HX.out.bel) (k : Int) r0 r1
        obtain ⟨ad, rfl, had⟩ := Kd.at_int (Kd.C_below HR2.out HX.out.bel) (k : Int) r0 r2
        simp only [Int.toNat_natCast] at hpb hpo had
        have hpd := okDisk_pend HOK.out _ (List.getElem_mem hlt)
        rw [← rd65_at hlt] at hpd
        obtain ⟨pa, pb, hpq⟩ : ∃ pa pb, rd_T65 l0_1 (k : Int) = ⟨pa, pb⟩ := ⟨_, _, rfl⟩
        rw [hpq] at hpb hpo hple hpC hpd
        replace hpd : pb.length = 32 ∧ 0 ≤ pa ∧ pa < l0_0.length := hpd
        have HPQ := Aside0.mk hpq
        have HPC := Aside0.mk hpC
        have HPD := Aside0.mk hpd
        have hpd2 := hpd.2.1
        have hpd3 := hpd.2.2
        clear hpq hpC hpd hple
        have hq5 : wr.cell? ⟨g5, 0, none⟩ = some (.slice (some ⟨gs, 0, none⟩) l0_0.length co1) := (blk_cell HX.out.box 0).trans rfl
        have hcl := crashTo_length l0_0 l0_1 l1 k
        have HCL := Aside0.mk hcl
        clear hcl
        have HXd := Aside0.mk (HX.out.below (below_drew1 (Below.refl wr.heap.size wr)))
        have HSS := Aside0.mk (show ∀ W : World, Below wr.heap.size wr W → W.cell? ⟨w.heap.size, 1, none⟩ = some (.slice (some ap) l0_1.length c0_1) ∧ W.cell? ⟨g5, 0, none⟩ = some (.slice (some ⟨gs, 0, none⟩) l0_0.length co1) ∧ W.cell? ⟨(ap.add (k * 2)).block, (ap.add (k * 2)).off + 1, none⟩ = some (.slice P0 pb.length p0) from fun W hb => ⟨(hb.cell (World.block_lt_of_cell? wr _ hq1)).trans hq1, (hb.cell (World.block_lt_of_cell? wr _ hq5)).trans hq5, (hb.cell (World.block_lt_of_cell? wr _ hpo)).trans hpo⟩)
        by_cases h1 : Int.tmod (rd l1 (k : Int)) 3 = 1
        · have h1b : (Int.tmod (rd l1 (k : Int)) 3 == 1) = true := beq_iff_eq.2 h1
          have h2b : (Int.tmod (rd l1 (k : Int)) 3 == 2) = false := by rw [h1]; rfl
          have H1 := Aside0.mk h1
          clear h1
          go_wp2_with fail
          refine start_ (n := 14) (S := fun w' => w'.cell? ⟨w.heap.size, 1, none⟩ = some (.slice (some ap) l0_1.length c0_1) ∧ w'.cell? ⟨g5, 0, none⟩ = some (.slice (some ⟨gs, 0, none⟩) l0_0.length co1) ∧ w'.cell? ⟨(ap.add (k * 2)).block, (ap.add (k * 2)).off + 1, none⟩ = some (.slice P0 pb.length p0)) (ds := [13]) #[false, false, false, false, false, false, false, false, false, false, false, false, false, false] (by kernel_rfl) rfl rfl (by exact HSS.out _ (below_drew1 (Below.refl _ _))) (fun hHeld => ?_); refine with_tabW hRBehind.tab7 hRBehind.bits7 (fun HT_ HW_ => ?_)
          refine pure_ (i := 0) (N := some 35) (v := ?_) (a' := ?_) #[true, false, false, false, false, false, false, false, false, false, false, false, false, false] rfl rfl (any_of HT_.out (by kernel_rfl)) (fun _ _ _ h => h) (Or.inl ⟨by rfl, ?_⟩) ?_ ?_
          rotate_left
          · intro w'
            go_simp
            with_reducible rfl
          rotate_left
          · simp only [Act.put, List.setIfInBounds_toArray, List.set_cons_zero, List.set_cons_succ, i64_w, i32_w]
            rfl
          refine take_ (i := 1) (N := some 36) (v := ?_) (a' := ?_) #[true, true, false, false, false, false, false, false, false, false, false, false, false, false] rfl rfl (take_ofW HT_.out HW_.out (by kernel_rfl)) (fun _ _ _ h => h) (Or.inl ⟨by rfl, ?_⟩) hHeld ?_ ?_
          rotate_left
          · rintro w' ⟨s0, s1, s2⟩
            go_simp
            with_reducible rfl
          rotate_left
          · simp only [Act.put, List.setIfInBounds_toArray, List.set_cons_zero, List.set_cons_succ, i64_w, i32_w]
            rfl
          refine pure_ (i := 2) (N := some 37) (v := ?_) (a' := ?_) #[true, true, true, false, false, false, false, false, false, false, false, false, false, false] rfl rfl (any_of HT_.out (by kernel_rfl)) (fun _ _ _ h => h) (Or.inl ⟨by rfl, ?_⟩) ?_ ?_
          rotate_left
          · intro w'
            go_simp
            with_reducible rfl
          rotate_left
          · simp only [Act.put, List.setIfInBounds_toArray, List.set_cons_zero, List.set_cons_succ, i64_w, i32_w]
            rfl
          refine pure_ (i := 4) (N := some 39) (v := ?_) (a' := ?_) #[true, true, true, false, true, false, false, false, false, false, false, false, false, false] rfl rfl (any_of HT_.out (by kernel_rfl)) (fun _ _ _ h => h) (Or.inl ⟨by rfl, ?_⟩) ?_ ?_
          rotate_left
          · intro w'
            go_simp
            with_reducible rfl
          rotate_left
          · simp only [Act.put, List.setIfInBounds_toArray, List.set_cons_zero, List.set_cons_succ, i64_w, i32_w]
            rfl
          refine take_ (i := 5) (N := some 40) (v := ?_) (a' := ?_) #[true, true, true, false, true, true, false, false, false, false, false, false, false, false] rfl rfl (take_ofW HT_.out HW_.out (by kernel_rfl)) (fun _ _ _ h => h) (Or.inl ⟨by rfl, ?_⟩) hHeld ?_ ?_
          rotate_left
          · rintro w' ⟨s0, s1, s2⟩
            go_simp
            with_reducible rfl
          rotate_left
          · simp only [Act.put, List.setIfInBounds_toArray, List.set_cons_zero, List.set_cons_succ, i64_w, i32_w]
            rfl
          refine pure_ (i := 6) (N := some 41) (v := ?_) (a' := ?_) #[true, true, true, false, true, true, true, false, false, false, false, false, false, false] rfl rfl (any_of HT_.out (by kernel_rfl)) (fun _ _ _ h => h) (Or.inl ⟨by rfl, ?_⟩) ?_ ?_
          rotate_left
          · intro w'
            go_simp
            with_reducible rfl
          rotate_left
          · simp only [Act.put, List.setIfInBounds_toArray, List.set_cons_zero, List.set_cons_succ, i64_w, i32_w]
            rfl
          refine pure_ (i := 7) (N := some 42) (v := ?_) (a' := ?_) #[true, true, true, false, true, true, true, true, false, false, false, false, false, false] rfl rfl (any_of HT_.out (by kernel_rfl)) (fun _ _ _ h => h) (Or.inl ⟨by rfl, ?_⟩) ?_ ?_
          rotate_left
          · intro w'
            go_simp
            with_reducible rfl
          rotate_left
          · simp only [Act.put, List.setIfInBounds_toArray, List.set_cons_zero, List.set_cons_succ, i64_w, i32_w]
            rfl
          refine pure_ (i := 8) (N := some 43) (v := ?_) (a' := ?_) #[true, true, true, false, true, true, true, true, true, false, false, false, false, false] rfl rfl (any_of HT_.out (by kernel_rfl)) (fun _ _ _ h => h) (Or.inl ⟨by rfl, ?_⟩) ?_ ?_
          rotate_left
          · intro w'
            go_simp
            with_reducible rfl
          rotate_left
          · simp only [Act.put, List.setIfInBounds_toArray, List.set_cons_zero, List.set_cons_succ, i64_w, i32_w]
            rfl
          refine take_ (i := 9) (N := some 44) (v := ?_) (a' := ?_) #[true, true, true, false, true, true, true, true, true, true, false, false, false, false] rfl rfl (take_ofW HT_.out HW_.out (by kernel_rfl)) (fun _ _ _ h => h) (Or.inl ⟨by rfl, ?_⟩) hHeld ?_ ?_
          rotate_left
          · rintro w' ⟨s0, s1, s2⟩
            go_simp
            with_reducible rfl
          rotate_left
          · simp only [Act.put, List.setIfInBounds_toArray, List.set_cons_zero, List.set_cons_succ, i64_w, i32_w]
            rfl
          refine one_ (i := 3) (N := some 38) #[true, true, true, true, true, true, true, true, true, true, false, false, false, false] rfl rfl (one_of HT_.out (by kernel_rfl)) (by decide) (fun K hK => ?_)
          refine value_ (w1 := ?_) (v := ?_) (by rfl) rfl ?_ ?_
          rotate_left 2
          · go_simp
            constructor
            · rfl
            · rfl
          refine hK.out _ _ (by exact HSS.out _ (below_alloc (below_drew1 (Below.refl _ _)) _)) (fun hHeld => ?_)
          clear hK K
          refine norm_ (a' := ?_) ?_ ?_
          rotate_left
          · show Act.put _ (some 38) _ = _
            simp only [Act.put, List.setIfInBounds_toArray, List.set_cons_zero, List.set_cons_succ, i64_w, i32_w]
            rfl
          refine one_ (i := 10) (N := some 45) #[true, true, true, true, true, true, true, true, true, true, true, false, false, false] rfl rfl (one_of HT_.out (by kernel_rfl)) (by decide) (fun K hK => ?_)
          refine Kd.R_append_rows_step (Kd.int .u8) (w0 := wr.drew) wr.drew.heap.size (by rfl) (.tmp 38) (.tmp 44) 26 5 (.int .u8 0) 1 rfl Try.underlying26 info5 rfl (by decide) (by decide) (.slice (some ⟨wr.drew.heap.size, 0, none⟩) 0 0) [] pb _ _ _ (fun _ => True) (fun _ => False) rfl rfl ?aO ?aR (fun _ _ h => h) (fun _ h => h.elim) ?aF ?aB ?aS ?aL ?_
          (case aR => exact Kd.C_below HPC.out (below_alloc (below_drew1 (Below.refl _ _)) _))
          (case aB => exact below_alloc (Below.refl _ _) _)
          (case aF => exact (fun _ _ => trivial))
          (case aO => exact Kd.R_of_own (own_lit wr.drew wr.drew.heap.size 5 .u8 [] (Nat.le_refl _) (by decide)) (fun _ _ => trivial))
          (case aS => exact below_size (below_alloc (Below.refl _ _) _))
          (case aL => have := HPD.out.1; simp; omega)
          intro v4 w4 ho4 hb4 hg4 hat4
          rw [List.nil_append] at ho4
          obtain ⟨A4, c4, e4⟩ := Kd.R_slice ho4
          subst e4
          have HB4 := Aside0.mk (below_step (below_drew1 (Below.refl wr.heap.size wr)) hb4)
          have HX4 := Aside0.mk (show RBRel w ((w4.setCell ⟨gs, pa.toNat * 2, none⟩ (.slice A4 pb.length c4)).setCell ⟨gs, pa.toNat * 2 + 1, none⟩ (.bool false)) gs co1 g5 Ao2 co2 l0_0.length l0_1.length (.cells #[.slice A0_0 l0_0.length c0_0, .slice (some ap) l0_1.length c0_1] 25 (0, 0)) ((crashTo l0_0 l0_1 l1 k).set pa.toNat ⟨pb, false⟩) from HXd.out.put hb4 (i := pa.toNat) (s := ⟨pb, false⟩) (by rw [HCL.out]; omega) ho4)
          obtain ⟨v0, v1, hw0, hw1, hfw0, hfw1⟩ := (HXd.out.below hb4).sec.cells (i := pa.toNat) (by rw [HCL.out]; omega)
          clear ho4 hb4 hg4 hat4
          refine hK.out _ _ (by exact HSS.out _ HB4.out) (fun hHeld => ?_)
          clear hK K
          refine norm_ (a' := ?_) ?_ ?_
          rotate_left
          · show Act.put _ (some 45) _ = _
            simp only [Act.put, List.setIfInBounds_toArray, List.set_cons_zero, List.set_cons_succ, i64_w, i32_w]
            rfl
          refine pure_ (i := 11) (N := some 46) (v := ?_) (a' := ?_) #[true, true, true, true, true, true, true, true, true, true, true, true, false, false] rfl rfl (any_of HT_.out (by kernel_rfl)) (fun _ _ _ h => h) (Or.inl ⟨by rfl, ?_⟩) ?_ ?_
          rotate_left
          · intro w'
            go_simp
            with_reducible rfl
          rotate_left
          · simp only [Act.put, List.setIfInBounds_toArray, List.set_cons_zero, List.set_cons_succ, i64_w, i32_w]
            rfl
          refine pure_ (i := 12) (N := some 47) (v := ?_) (a' := ?_) #[true, true, true, true, true, true, true, true, true, true, true, true, true, false] rfl rfl (any_of HT_.out (by kernel_rfl)) (fun _ _ _ h => h) (Or.inl ⟨by rfl, ?_⟩) ?_ ?_
          rotate_left
          · intro w'
            go_simp
            with_reducible rfl
          rotate_left
          · simp only [Act.put, List.setIfInBounds_toArray, List.set_cons_zero, List.set_cons_succ, i64_w, i32_w]
            rfl
          refine last_ (i := 13) (N := none) #[true, true, true, true, true, true, true, true, true, true, true, true, true, true] rfl rfl (one_of HT_.out (by kernel_rfl)) (by decide) (fun K hK => ?_)
          refine skip_ (w1 := ?_) (by rfl) rfl ?_ ?_
          rotate_left
          · go_simp
            rfl
          refine hK.out _ _ ?_
          refine done_ (done_of HT_.out (by kernel_rfl)) ?_
          clear hw0 hw1 hfw0 hfw1 had hpb hpo hq1 hq5
          generalize (w4.setCell ⟨gs, pa.toNat * 2, none⟩ (.slice A4 pb.length c4)).setCell ⟨gs, pa.toNat * 2 + 1, none⟩ (.bool false) = W5 at HX4 ⊢
          obtain ⟨ad2, ead2, had⟩ := Kd.at_int (Kd.C_below HR2.out HX4.out.bel) (k : Int) r0 r2
          simp only [Int.toNat_natCast] at had
          obtain rfl : ad = ad2 := Option.some.inj ead2
          try go_wp2
          go_roundw
          case rel =>
            refine ⟨k + 1, by omega, by omega, by go_num, ⟨?_⟩⟩
            rw [show crashTo l0_0 l0_1 l1 (k + 1) = (crashTo l0_0 l0_1 l1 k).set pa.toNat ⟨pb, false⟩ by show fateOf _ _ _ = _; unfold fateOf; rw [HPQ.out, if_pos H1.out]]
            exact HX4.out
          case measure => simp [intOf]; omega
        · have h1b : (Int.tmod (rd l1 (k : Int)) 3 == 1) = false := beq_eq_false_iff_ne.2 h1
          have H1 := Aside0.mk h1
          clear h1
          by_cases h2 : Int.tmod (rd l1 (k : Int)) 3 = 2
          · have h2b : (Int.tmod (rd l1 (k : Int)) 3 == 2) = true := beq_iff_eq.2 h2
            have H2 := Aside0.mk h2
            clear h2
            go_wp2_with fail
            refine start_ (n := 7) (S := fun w' => w'.cell? ⟨w.heap.size, 1, none⟩ = some (.slice (some ap) l0_1.length c0_1) ∧ w'.cell? ⟨g5, 0, none⟩ = some (.slice (some ⟨gs, 0, none⟩) l0_0.length co1) ∧ w'.cell? ⟨(ap.add (k * 2)).block, (ap.add (k * 2)).off + 1, none⟩ = some (.slice P0 pb.length p0)) (ds := [6]) #[false, false, false, false, false, false, false] (by kernel_rfl) rfl rfl (by exact HSS.out _ (below_drew1 (Below.refl _ _))) (fun hHeld => ?_); refine with_tabW hRBehind.tab9 hRBehind.bits9 (fun HT_ HW_ => ?_)
            refine pure_ (i := 0) (N := some 54) (v := ?_) (a' := ?_) #[true, false, false, false, false, false, false] rfl rfl (any_of HT_.out (by kernel_rfl)) (fun _ _ _ h => h) (Or.inl ⟨by rfl, ?_⟩) ?_ ?_
            rotate_left
            · intro w'
              go_simp
              with_reducible rfl
            rotate_left
            · simp only [Act.put, List.setIfInBounds_toArray, List.set_cons_zero, List.set_cons_succ, i64_w, i32_w]
              rfl
            refine take_ (i := 1) (N := some 55) (v := ?_) (a' := ?_) #[true, true, false, false, false, false, false] rfl rfl (take_ofW HT_.out HW_.out (by kernel_rfl)) (fun _ _ _ h => h) (Or.inl ⟨by rfl, ?_⟩) hHeld ?_ ?_
            rotate_left
            · rintro w' ⟨s0, s1, s2⟩
              go_simp
              with_reducible rfl
            rotate_left
            · simp only [Act.put, List.setIfInBounds_toArray, List.set_cons_zero, List.set_cons_succ, i64_w, i32_w]
              rfl
            refine pure_ (i := 2) (N := some 56) (v := ?_) (a' := ?_) #[true, true, true, false, false, false, false] rfl rfl (any_of HT_.out (by kernel_rfl)) (fun _ _ _ h => h) (Or.inl ⟨by rfl, ?_⟩) ?_ ?_
            rotate_left
            · intro w'
              go_simp
              with_reducible rfl
            rotate_left
            · simp only [Act.put, List.setIfInBounds_toArray, List.set_cons_zero, List.set_cons_succ, i64_w, i32_w]
              rfl
            refine one_ (i := 3) (N := some 57) #[true, true, true, true, false, false, false] rfl rfl (one_of HT_.out (by kernel_rfl)) (by decide) (fun K hK => ?_)
            refine Kd.R_make_step (Kd.int .u8) (w0 := wr.drew) wr.drew.heap.size 5 rfl (N := 57) rfl 26 _ _ rfl 32 rfl rfl Try.underlying26 (.int .u8 0) 1 info5 rfl (by decide) (by decide) 0 (ok := fun _ => True) (okp := fun _ => True) rfl (fun _ hk => hk) trivial (by omega) (by omega) (Below.refl _ _) (Nat.le_refl _) ?_
            intro v4 w4 ho4 hb4 hg4 hnew4
            replace ho4 : (Kd.int .u8).R 5 w4 wr.drew.heap.size (fun _ => True) v4 zero32 := ho4
            have HB4 := Aside0.mk (below_step (below_drew1 (Below.refl wr.heap.size wr)) hb4)
            obtain ⟨A4, c4, e4⟩ := Kd.R_slice ho4
            subst e4
            have hz32 : zero32.length = 32 := rfl
            have HX4 := Aside0.mk (show RBRel w ((w4.setCell ⟨gs, pa.toNat * 2, none⟩ (.slice A4 32 c4)).setCell ⟨gs, pa.toNat * 2 + 1, none⟩ (.bool true)) gs co1 g5 Ao2 co2 l0_0.length l0_1.length (.cells #[.slice A0_0 l0_0.length c0_0, .slice (some ap) l0_1.length c0_1] 25 (0, 0)) ((crashTo l0_0 l0_1 l1 k).set pa.toNat ⟨zero32, true⟩) from HXd.out.put hb4 (i := pa.toNat) (s := ⟨zero32, true⟩) (by rw [HCL.out]; omega) ho4)
            obtain ⟨v0, v1, hw0, hw1, hfw0, hfw1⟩ := (HXd.out.below hb4).sec.cells (i := pa.toNat) (by rw [HCL.out]; omega)
            clear ho4 hb4 hg4 hnew4
            refine hK.out _ _ (by exact HSS.out _ HB4.out) (fun hHeld => ?_)
            clear hK K
            refine norm_ (a' := ?_) ?_ ?_
            rotate_left
            · show Act.put _ (some 57) _ = _
              simp only [Act.put, List.setIfInBounds_toArray, List.set_cons_zero, List.set_cons_succ, i64_w, i32_w]
              rfl
            refine pure_ (i := 4) (N := some 58) (v := ?_) (a' := ?_) #[true, true, true, true, true, false, false] rfl rfl (any_of HT_.out (by kernel_rfl)) (fun _ _ _ h => h) (Or.inl ⟨by rfl, ?_⟩) ?_ ?_
            rotate_left
            · intro w'
              go_simp
              with_reducible rfl
            rotate_left
            · simp only [Act.put, List.setIfInBounds_toArray, List.set_cons_zero, List.set_cons_succ, i64_w, i32_w]
              rfl
            refine pure_ (i := 5) (N := some 59) (v := ?_) (a' := ?_) #[true, true, true, true, true, true, false] rfl rfl (any_of HT_.out (by kernel_rfl)) (fun _ _ _ h => h) (Or.inl ⟨by rfl, ?_⟩) ?_ ?_
            rotate_left
            · intro w'
              go_simp
              with_reducible rfl
            rotate_left
            · simp only [Act.put, List.setIfInBounds_toArray, List.set_cons_zero, List.set_cons_succ, i64_w, i32_w]
              rfl
            refine last_ (i := 6) (N := none) #[true, true, true, true, true, true, true] rfl rfl (one_of HT_.out (by kernel_rfl)) (by decide) (fun K hK => ?_)
            refine skip_ (w1 := ?_) (by rfl) rfl ?_ ?_
            rotate_left
            · go_simp
              rfl
            refine hK.out _ _ ?_
            refine done_ (done_of HT_.out (by kernel_rfl)) ?_
            clear hw0 hw1 hfw0 hfw1 had hpb hpo hq1 hq5
            try go_wp2
            go_roundw
            case rel =>
              refine ⟨k + 1, by omega, by omega, by go_num, ⟨?_⟩⟩
              rw [show crashTo l0_0 l0_1 l1 (k + 1) = (crashTo l0_0 l0_1 l1 k).set pa.toNat ⟨zero32, true⟩ by show fateOf _ _ _ = _; unfold fateOf; rw [HPQ.out, if_neg H1.out, if_pos H2.out]]
              exact HX4.out
            case measure => simp [intOf]; omega
          · have h2b : (Int.tmod (rd l1 (k : Int)) 3 == 2) = false := beq_eq_false_iff_ne.2 h2
            have H2 := Aside0.mk h2
            clear h2
            go_wp2_with fail
            go_roundw
            case rel =>
              refine ⟨k + 1, by omega, by omega, by go_num, ⟨?_⟩⟩
              rw [show crashTo l0_0 l0_1 l1 (k + 1) = crashTo l0_0 l0_1 l1 k by show fateOf _ _ _ = _; unfold fateOf; rw [if_neg H1.out, if_neg H2.out]]
              exact HX.out
            case measure => simp [intOf]; omega
      · have hkn : ((k : Nat) : Int) ≥ l1.length := by omega
        have hmin : min l0_1.length l1.length = k := by omega
        have hy0 : wr.cell? ⟨w.heap.size + 1, 0, none⟩ = some (.slice none 0 0) := (blk_cell HX.out.res 0).trans rfl
        have hy1 : wr.cell? ⟨w.heap.size + 1, 1, none⟩ = some (.slice none 0 0) := (blk_cell HX.out.res 1).trans rfl
        have hf0 := blk_frozen HX.out.res 0
        have hf1 := blk_frozen HX.out.res 1
        have hb0 : wr.cell? ⟨g5, 0, none⟩ = some (.slice (some ⟨gs, 0, none⟩) l0_0.length co1) := (blk_cell HX.out.box 0).trans rfl
        have hb1 : wr.cell? ⟨g5, 1, none⟩ = some (.slice Ao2 l0_1.length co2) := (blk_cell HX.out.box 1).trans rfl
        have hfb := blk_frozen HX.out.box 1
        have hne := HNE.out
        have hne' := Ne.symm HNE.out
        have HMIN := Aside0.mk hmin
        clear hmin
        go_wp2_with fail
        have hr1 := blk_far HX.out.res (p := ⟨g5, 1, none⟩) hne' (.slice none 0 0)
        have hr2 := blk_put (cs := #[.slice none 0 0, .slice none 0 0]) hr1 0 (.slice (some ⟨gs, 0, none⟩) l0_0.length co1) rfl
        have hs1 := HX.out.sec.far (p := ⟨g5, 1, none⟩) HX.out.box (by decide) (by decide) (.slice none 0 0)
        have hs2 := hs1.far (p := ⟨w.heap.size + 1, 0, none⟩) hr1 (by decide) (by decide) (.slice (some ⟨gs, 0, none⟩) l0_0.length co1)
        have hs3 := hs2.far (p := ⟨w.heap.size + 1, 1, none⟩) hr2 (by decide) (by decide) (.slice none 0 0)
        have hdl := dBehind_length l0_0 l0_1 l1
        have hbe : crashTo l0_0 l0_1 l1 k = dBehind l0_0 l0_1 l1 := by unfold dBehind; rw [HMIN.out]
        rw [hbe] at hs3
        rw [← hdl] at hs3
        have hs4 := hs3.S
        rw [hdl] at hs4
        refine bodyPost_ret (results_cell_row rfl _ _ (w.heap.size + 1) 25 #[.slice (some ⟨gs, 0, none⟩) l0_0.length co1, .slice none 0 0] (0, 0) _ rfl (blk_put (cs := #[.slice (some ⟨gs, 0, none⟩) l0_0.length co1, .slice none 0 0]) hr2 1 _ rfl) Try.underlying25 rfl (by kernel_rfl)) rfl ?_
        exact ⟨_, _, rfl, hs4, Kd.S_nil _ _ _ _ _, below_set (below_set (below_set HX.out.bel HG5.out) (Nat.le_succ _)) (Nat.le_succ _)⟩
    · have hmin : min l0_1.length l1.length = k := by omega
      have hy0 : wr.cell? ⟨w.heap.size + 1, 0, none⟩ = some (.slice none 0 0) := (blk_cell HX.out.res 0).trans rfl
      have hy1 : wr.cell? ⟨w.heap.size + 1, 1, none⟩ = some (.slice none 0 0) := (blk_cell HX.out.res 1).trans rfl
      have hf0 := blk_frozen HX.out.res 0
      have hf1 := blk_frozen HX.out.res 1
      have hb0 : wr.cell? ⟨g5, 0, none⟩ = some (.slice (some ⟨gs, 0, none⟩) l0_0.length co1) := (blk_cell HX.out.box 0).trans rfl
      have hb1 : wr.cell? ⟨g5, 1, none⟩ = some (.slice Ao2 l0_1.length co2) := (blk_cell HX.out.box 1).trans rfl
      have hfb := blk_frozen HX.out.box 1
      have hne := HNE.out
      have hne' := Ne.symm HNE.out
      have HMIN := Aside0.mk hmin
      clear hmin
      go_wp2_with fail
      have hr1 := blk_far HX.out.res (p := ⟨g5, 1, none⟩) hne' (.slice none 0 0)
      have hr2 := blk_put (cs := #[.slice none 0 0, .slice none 0 0]) hr1 0 (.slice (some ⟨gs, 0, none⟩) l0_0.length co1) rfl
      have hs1 := HX.out.sec.far (p := ⟨g5, 1, none⟩) HX.out.box (by decide) (by decide) (.slice none 0 0)
      have hs2 := hs1.far (p := ⟨w.heap.size + 1, 0, none⟩) hr1 (by decide) (by decide) (.slice (some ⟨gs, 0, none⟩) l0_0.length co1)
      have hs3 := hs2.far (p := ⟨w.heap.size + 1, 1, none⟩) hr2 (by decide) (by decide) (.slice none 0 0)
      have hdl := dBehind_length l0_0 l0_1 l1
      have hbe : crashTo l0_0 l0_1 l1 k = dBehind l0_0 l0_1 l1 := by unfold dBehind; rw [HMIN.out]
      rw [hbe] at hs3
      rw [← hdl] at hs3
      have hs4 := hs3.S
      rw [hdl] at hs4
      refine bodyPost_ret (results_cell_row rfl _ _ (w.heap.size + 1) 25 #[.slice (some ⟨gs, 0, none⟩) l0_0.length co1, .slice none 0 0] (0, 0) _ rfl (blk_put (cs := #[.slice (some ⟨gs, 0, none⟩) l0_0.length co1, .slice none 0 0]) hr2 1 _ rfl) Try.underlying25 rfl (by kernel_rfl)) rfl ?_
      exact ⟨_, _, rfl, hs4, Kd.S_nil _ _ _ _ _, below_set (below_set (below_set HX.out.bel HG5.out) (Nat.le_succ _)) (Nat.le_succ _)⟩
end Go.Proofs.Ytjlohdbkjoofcaa.P
end
section
set_option linter.unusedVariables false
set_option linter.unusedSimpArgs false
namespace Go.Proofs.Ytjlohdbkjoofcaa.P
open Go.RowKit Go.Proofs.PrintWords Go.Proofs.PrintLast Go.Proofs.PrintMore
attribute [local go_sem] max2_int min2_int max_two min_two max_three min_three max_four min_four
def catamaranref05_Crash.f (k : Nat) (l0_0 : List (S52)) (l0_1 : List (S65)) (l1 : List Int) : Option ((List (S52)) × (List (S65)) × Int) := (catamaranref05_May.f k l0_0 l0_1).bind fun t377 => (if t377 = true then ((hRBehind.f l0_0 l0_1 l1).bind fun bt378 => (some (bt378.1, bt378.2, 0))) else (some (([] : List (S52)), ([] : List (S65)), 8)))
theorem catamaranref05_Crash.mono : ∀ a0 a1 a2 k, LeO (catamaranref05_Crash.f k a0 a1 a2) (catamaranref05_Crash.f (k + 1) a0 a1 a2) := by
  intro a0 a1 a2 k
  unfold catamaranref05_Crash.f
  repeat' first
      | (with_reducible exact catamaranref05_May.mono _ _ _)
      | (with_reducible exact LeO.refl _)
      | (with_reducible exact LeO.none _)
      | (with_reducible refine LeO.ite ?_ ?_)
      | (with_reducible refine LeO.bind ?_ (fun _ => ?_))
      | exact catamaranref05_May.mono _ _ _
      | exact LeO.none _
      | refine LeO.ite ?_ ?_
      | refine LeO.bind ?_ (fun _ => ?_)
set_option maxHeartbeats 8000000 in
set_option maxRecDepth 100000 in
theorem catamaranref05_Crash.calls (k : Nat) (A0_0 : Option Addr) (c0_0 : Nat) (l0_0 : List (S52)) (A0_1 : Option Addr) (c0_1 : Nat) (l0_1 : List (S65)) (A1 : Option Addr) (c1 : Nat) (l1 : List Int) (r1 : List (S52)) (r2 : List (S65)) (r3 : Int) (w : World) (hr0_0 : Kd.C k52 w A0_0 l0_0.length l0_0) (hc0_0 : l0_0.length ≤ c0_0) (hr0_1 : Kd.C k65 w A0_1 l0_1.length l0_1) (hc0_1 : l0_1.length ≤ c0_1) (hr1 : Kd.C (Kd.int .u8) w A1 l1.length l1) (hc1 : l1.length ≤ c1) (h : catamaranref05_Crash.f k l0_0 l0_1 l1 = some (r1, r2, r3)) :
    Calls Try.prog 50 #[.agg #[.slice A0_0 l0_0.length c0_0, .slice A0_1 l0_1.length c0_1], .slice A1 l1.length c1] w fun e w' => ∃ v0_ v1_ : Value, e = .returned (.tuple #[.agg #[v0_, v1_], .int .i64 r3]) ∧ Kd.S k52 52 w' w.heap.size (fun _ => True) v0_ r1 ∧ Kd.S k65 65 w' w.heap.size (fun _ => True) v1_ r2 ∧ Below w.heap.size w w' := by
  have hu25 := Try.underlying25
  have HR0_0 := Aside0.mk hr0_0
  have HC0_0 := Aside0.mk hc0_0
  clear hr0_0 hc0_0
  have HR0_1 := Aside0.mk hr0_1
  have HC0_1 := Aside0.mk hc0_1
  clear hr0_1 hc0_1
  have HR1 := Aside0.mk hr1
  have HC1 := Aside0.mk hc1
  clear hr1 hc1
  have HB := Aside0.mk (Below.refl w.heap.size w)
  have H : ((catamaranref05_May.f k l0_0 l0_1).bind fun t377 => (if t377 = true then ((hRBehind.f l0_0 l0_1 l1).bind fun bt378 => (some (bt378.1, bt378.2, 0))) else (some (([] : List (S52)), ([] : List (S65)), 8)))) = some (r1, r2, r3) := h
  clear h
  replace H := Option.bind_eq_some_iff.mp H
  obtain ⟨t377, A30, H⟩ := H
  replace H : (if t377 = true then ((hRBehind.f l0_0 l0_1 l1).bind fun bt378 => (some (bt378.1, bt378.2, 0))) else (some (([] : List (S52)), ([] : List (S65)), 8))) = some (r1, r2, r3) := H
  have A3 := Aside0.mk A30
  clear A30
  by_cases c4 : t377 = true
  · subst c4
    have H1 : ((hRBehind.f l0_0 l0_1 l1).bind fun bt378 => (some (bt378.1, bt378.2, 0))) = some (r1, r2, r3) := by rw [if_pos rfl] at H; exact H
    clear H
    have H := H1
    clear H1
    replace H := Option.bind_eq_some_iff.mp H
    obtain ⟨⟨t378, t381⟩, A50, H⟩ := H
    replace H : (some (t378, t381, 0)) = some (r1, r2, r3) := H
    have A5 := Aside0.mk A50
    clear A50
    simp only [Option.some.injEq, Prod.mk.injEq] at H
    obtain ⟨rfl, rfl, rfl⟩ := H
    go_enter Try.func50, Try.ntmps50
    go_wp2_with (first | ((with_reducible refine gate_dst (N := 2) rfl ?_); refine box_event ?hg (N := 2) ?hd (cs := #[.slice A0_0 l0_0.length c0_0, .slice A0_1 l0_1.length c0_1]) (t := 25) ?hr ?_; (case hd => rfl); (case hg => rfl); (case hr => first | (go_simp; done) | (go_simp; rfl)); intro gb375 hg w6 hbox hb; have n0_ := Aside0.mk (below_step (by repeat (first | (with_reducible first | exact HB.out | apply below_alloc | apply pw_below_drewN | apply below_drew1) | exact HB.out)) hb); have n1_ := Aside0.mk (hbox); have n2_ := Aside0.mk ((by rw [hg]; exact (below_size (by repeat (first | (with_reducible first | exact HB.out | apply below_alloc | apply pw_below_drewN | apply below_drew1) | exact HB.out))) : w.heap.size ≤ gb375)); have n3_ := Aside0.mk ((by rw [hg]; exact (below_size (by repeat (first | (with_reducible first | exact HB.out | apply below_alloc | apply pw_below_drewN | apply below_drew1) | exact HB.out))) : w.heap.size ≤ gb375)); clear HB; have HB := n0_; have BK375 := n1_; have GW375 := n2_; have GE375 := n3_; clear n0_ n1_ n2_ n3_; clear hb hbox hg) | ((with_reducible refine gate_dst (N := 4) rfl ?_); refine box_event ?hg (N := 4) ?hd (cs := #[.slice none 0 0, .slice none 0 0]) (t := 25) ?hr ?_; (case hd => rfl); (case hg => rfl); (case hr => first | (go_simp; done) | (go_simp; rfl)); intro gb376 hg w7 hbox hb; have n0_ := Aside0.mk (blk_below (g := gb375) (o := .cells #[.slice A0_0 l0_0.length c0_0, .slice A0_1 l0_1.length c0_1] 25 (0, 0)) (by (with_reducible repeat (first | refine blk_drewN ?_ _ | refine blk_drew ?_ | refine blk_alloc ?_ _)); exact BK375.out) hb); have n1_ := Aside0.mk (below_step (by repeat (first | (with_reducible first | exact HB.out | apply below_alloc | apply pw_below_drewN | apply below_drew1 | refine below_set ?_ GE375.out) | exact HB.out)) hb); have n2_ := Aside0.mk (hbox); have n3_ := Aside0.mk ((by rw [hg]; exact (below_size (by repeat (first | (with_reducible first | exact HB.out | apply below_alloc | apply pw_below_drewN | apply below_drew1 | refine below_set ?_ GE375.out) | exact HB.out))) : w.heap.size ≤ gb376)); have n4_ := Aside0.mk ((by rw [hg]; exact (below_size (by repeat (first | (with_reducible first | exact HB.out | apply below_alloc | apply pw_below_drewN | apply below_drew1 | refine below_set ?_ GE375.out) | exact HB.out))) : w.heap.size ≤ gb376)); have n5_ := Aside0.mk ((by rw [hg]; exact Nat.ne_of_lt (blk_lt (g := gb375) (o := .cells #[.slice A0_0 l0_0.length c0_0, .slice A0_1 l0_1.length c0_1] 25 (0, 0)) (by (with_reducible repeat (first | refine blk_drewN ?_ _ | refine blk_drew ?_ | refine blk_alloc ?_ _)); exact BK375.out)) : gb375 ≠ gb376)); have n6_ := Aside0.mk ((by rw [hg]; exact Nat.ne_of_gt (blk_lt (g := gb375) (o := .cells #[.slice A0_0 l0_0.length c0_0, .slice A0_1 l0_1.length c0_1] 25 (0, 0)) (by (with_reducible repeat (first | refine blk_drewN ?_ _ | refine blk_drew ?_ | refine blk_alloc ?_ _)); exact BK375.out)) : gb376 ≠ gb375)); clear BK375; clear HB; have BK375 := n0_; have HB := n1_; have BK376 := n2_; have GW376 := n3_; have GE376 := n4_; have NB375_376 := n5_; have NB376_375 := n6_; clear n0_ n1_ n2_ n3_ n4_ n5_ n6_; clear hb hbox hg; have hnb8 := NB375_376.out; have hnc8 := NB376_375.out; have hcz9_0 : w7.cell? ⟨gb375, 0, none⟩ = some (.slice A0_0 l0_0.length c0_0) := (blk_cell BK375.out 0).trans rfl; have hcz9_1 : w7.cell? ⟨gb375, 1, none⟩ = some (.slice A0_1 l0_1.length c0_1) := (blk_cell BK375.out 1).trans rfl; have hfz9_0 := blk_frozen BK375.out 0; have hfz9_1 := blk_frozen BK375.out 1) | ((with_reducible refine gate_callee (f := 127) rfl ?_); refine goesL_ (some 7) rfl rfl Try.func127 (by kernel_rfl) rfl #[.agg #[.slice A0_0 l0_0.length c0_0, .slice A0_1 l0_1.length c0_1]] rfl (by (try simp only [List.map_toArray, List.map_cons, List.map_nil]); first | done | rfl | (simp only [List.length_drop, List.length_take]; rfl)) ?_; (with_reducible refine (catamaranref05_May.calls k _ _ l0_0 _ _ l0_1 true _ ?side1 ?side2 ?side3 ?side4 A3.out).mono ?_); (case side1 => repeat (first | exact (Kd.C_below HR0_0.out HB.out) | (with_reducible refine Kd.C_alloc ?_ _) | (with_reducible refine Kd.C_drewN ?_ _) | (with_reducible refine Kd.C_drew ?_))); (case side2 => exact HC0_0.out); (case side3 => repeat (first | exact (Kd.C_below HR0_1.out HB.out) | (with_reducible refine Kd.C_alloc ?_ _) | (with_reducible refine Kd.C_drewN ?_ _) | (with_reducible refine Kd.C_drew ?_))); (case side4 => exact HC0_1.out); rintro e w10 ⟨rfl, hb⟩; refine ⟨_, rfl, ?_⟩; have n0_ := Aside0.mk (blk_below (g := gb375) (o := .cells #[.slice A0_0 l0_0.length c0_0, .slice A0_1 l0_1.length c0_1] 25 (0, 0)) (by (with_reducible repeat (first | refine blk_drewN ?_ _ | refine blk_drew ?_ | refine blk_alloc ?_ _)); exact BK375.out) hb); have n1_ := Aside0.mk (blk_below (g := gb376) (o := .cells #[.slice none 0 0, .slice none 0 0] 25 (0, 0)) (by (with_reducible repeat (first | refine blk_drewN ?_ _ | refine blk_drew ?_ | refine blk_alloc ?_ _)); exact BK376.out) hb); have n2_ := Aside0.mk (below_step (by repeat (first | (with_reducible first | exact HB.out | apply below_alloc | apply pw_below_drewN | apply below_drew1 | refine below_set ?_ GE375.out | refine below_set ?_ GE376.out) | exact HB.out)) hb); clear BK375; clear BK376; clear HB; have BK375 := n0_; have BK376 := n1_; have HB := n2_; clear n0_ n1_ n2_; (try clear hb); (try clear hb2); (try clear hk); (try clear hi); have hcz11_0 : w10.cell? ⟨gb375, 0, none⟩ = some (.slice A0_0 l0_0.length c0_0) := (blk_cell BK375.out 0).trans rfl; have hcz11_1 : w10.cell? ⟨gb375, 1, none⟩ = some (.slice A0_1 l0_1.length c0_1) := (blk_cell BK375.out 1).trans rfl; have hfz11_0 := blk_frozen BK375.out 0; have hfz11_1 := blk_frozen BK375.out 1) | ((with_reducible refine gate_callee (f := 130) rfl ?_); refine goesL_ (some 12) rfl rfl Try.func130 (by kernel_rfl) rfl #[.agg #[.slice A0_0 l0_0.length c0_0, .slice A0_1 l0_1.length c0_1], .slice A1 l1.length c1] rfl (by (try simp only [List.map_toArray, List.map_cons, List.map_nil]); first | done | rfl | (simp only [List.length_drop, List.length_take]; rfl)) ?_; (with_reducible refine (hRBehind.calls _ _ l0_0 _ _ l0_1 _ _ l1 t378 t381 _ ?side1 ?side2 ?side3 ?side4 ?side5 ?side6 A5.out).mono ?_); (case side1 => repeat (first | exact (Kd.C_below HR0_0.out HB.out) | (with_reducible refine Kd.C_alloc ?_ _) | (with_reducible refine Kd.C_drewN ?_ _) | (with_reducible refine Kd.C_drew ?_))); (case side2 => exact HC0_0.out); (case side3 => repeat (first | exact (Kd.C_below HR0_1.out HB.out) | (with_reducible refine Kd.C_alloc ?_ _) | (with_reducible refine Kd.C_drewN ?_ _) | (with_reducible refine Kd.C_drew ?_))); (case side4 => exact HC0_1.out); (case side5 => repeat (first | exact (Kd.C_below HR1.out HB.out) | (with_reducible refine Kd.C_alloc ?_ _) | (with_reducible refine Kd.C_drewN ?_ _) | (with_reducible refine Kd.C_drew ?_))); (case side6 => exact HC1.out); rintro e w12 ⟨v379, v382, rfl, ho0, ho1, hb⟩; refine ⟨_, rfl, ?_⟩; have n0_ := Aside0.mk (Kd.S_lower ho0 (below_size (by repeat (first | (with_reducible first | exact HB.out | apply below_alloc | apply pw_below_drewN | apply below_drew1 | refine below_set ?_ GE375.out | refine below_set ?_ GE376.out) | exact HB.out)))); have n1_ := Aside0.mk (Kd.S_lower ho1 (below_size (by repeat (first | (with_reducible first | exact HB.out | apply below_alloc | apply pw_below_drewN | apply below_drew1 | refine below_set ?_ GE375.out | refine below_set ?_ GE376.out) | exact HB.out)))); have n2_ := Aside0.mk (blk_below (g := gb375) (o := .cells #[.slice A0_0 l0_0.length c0_0, .slice A0_1 l0_1.length c0_1] 25 (0, 0)) (by (with_reducible repeat (first | refine blk_drewN ?_ _ | refine blk_drew ?_ | refine blk_alloc ?_ _)); exact BK375.out) hb); have n3_ := Aside0.mk (blk_below (g := gb376) (o := .cells #[.slice none 0 0, .slice none 0 0] 25 (0, 0)) (by (with_reducible repeat (first | refine blk_drewN ?_ _ | refine blk_drew ?_ | refine blk_alloc ?_ _)); exact BK376.out) hb); have n4_ := Aside0.mk (below_step (by repeat (first | (with_reducible first | exact HB.out | apply below_alloc | apply pw_below_drewN | apply below_drew1 | refine below_set ?_ GE375.out | refine below_set ?_ GE376.out) | exact HB.out)) hb); clear BK375; clear BK376; clear HB; have HO380 := n0_; have HO383 := n1_; have BK375 := n2_; have BK376 := n3_; have HB := n4_; clear n0_ n1_ n2_ n3_ n4_; (try clear hb); (try clear hb2); (try clear hk); (try clear hi); (try clear ho0); (try clear ho1); obtain ⟨Ao13, co13, eo13⟩ := Kd.S_slice HO380.out; subst eo13; have hcz14_0 : w12.cell? ⟨gb376, 0, none⟩ = some (.slice none 0 0) := (blk_cell BK376.out 0).trans rfl; have hcz14_1 : w12.cell? ⟨gb376, 1, none⟩ = some (.slice none 0 0) := (blk_cell BK376.out 1).trans rfl; have hfz14_0 := blk_frozen BK376.out 0; have hfz14_1 := blk_frozen BK376.out 1; obtain ⟨Ao15, co15, eo15⟩ := Kd.S_slice HO383.out; subst eo15))
    refine bodyPost_ret (results_ct rfl _ _ gb376 25 #[.slice Ao13 t378.length co13, .slice Ao15 t381.length co15] (0, 0) _ rfl (by (with_reducible repeat (first | refine blk_drewN ?_ _ | refine blk_drew ?_ | refine blk_alloc ?_ _)); refine blk_put (cs := #[.slice Ao13 t378.length co13, .slice none 0 0]) ?_ 1 _ rfl; (with_reducible repeat (first | refine blk_drewN ?_ _ | refine blk_drew ?_ | refine blk_alloc ?_ _)); refine blk_put (cs := #[.slice none 0 0, .slice none 0 0]) ?_ 0 _ rfl; (with_reducible repeat (first | refine blk_drewN ?_ _ | refine blk_drew ?_ | refine blk_alloc ?_ _)); exact BK376.out) Try.underlying25 rfl (by kernel_rfl)) rfl ?_
    exact ⟨_, _, by first | rfl | (simp [errW_none, errW_some] <;> rfl) | (simp [*, errW_none, errW_some] <;> rfl), by (with_reducible repeat (first | apply Kd.S_alloc | apply Kd.S_drewN | apply Kd.S_drew)); exact Kd.S_mono (Kd.S_far (p := ⟨gb376, 1, none⟩) (Kd.S_far (p := ⟨gb376, 0, none⟩) (Kd.S_types HO380.out BK376.out (by decide)) (fun _ hk => hk.2) (.slice Ao13 t378.length co13)) (fun _ hk => hk.2) (.slice Ao15 t381.length co15)) (fun _ hk => trivial), by (with_reducible repeat (first | apply Kd.S_alloc | apply Kd.S_drewN | apply Kd.S_drew)); exact Kd.S_mono (Kd.S_far (p := ⟨gb376, 1, none⟩) (Kd.S_far (p := ⟨gb376, 0, none⟩) (Kd.S_types HO383.out BK376.out (by decide)) (fun _ hk => hk.2) (.slice Ao13 t378.length co13)) (fun _ hk => hk.2) (.slice Ao15 t381.length co15)) (fun _ hk => trivial), by repeat (first | (with_reducible first | exact HB.out | apply below_alloc | apply pw_below_drewN | apply below_drew1 | refine below_set ?_ GE375.out | refine below_set ?_ GE376.out) | exact HB.out)⟩
  · replace c4 := Bool.eq_false_iff.mpr c4
    subst c4
    have H1 : (some (([] : List (S52)), ([] : List (S65)), 8)) = some (r1, r2, r3) := by rw [if_neg (show ¬ (false = true) by decide)] at H; exact H
    clear H
    have H := H1
    clear H1
    simp only [Option.some.injEq, Prod.mk.injEq] at H
    obtain ⟨rfl, rfl, rfl⟩ := H
    go_enter Try.func50, Try.ntmps50
    go_wp2_with (first | ((with_reducible refine gate_dst (N := 2) rfl ?_); refine box_event ?hg (N := 2) ?hd (cs := #[.slice A0_0 l0_0.length c0_0, .slice A0_1 l0_1.length c0_1]) (t := 25) ?hr ?_; (case hd => rfl); (case hg => rfl); (case hr => first | (go_simp; done) | (go_simp; rfl)); intro gb375 hg w16 hbox hb; have n0_ := Aside0.mk (below_step (by repeat (first | (with_reducible first | exact HB.out | apply below_alloc | apply pw_below_drewN | apply below_drew1) | exact HB.out)) hb); have n1_ := Aside0.mk (hbox); have n2_ := Aside0.mk ((by rw [hg]; exact (below_size (by repeat (first | (with_reducible first | exact HB.out | apply below_alloc | apply pw_below_drewN | apply below_drew1) | exact HB.out))) : w.heap.size ≤ gb375)); have n3_ := Aside0.mk ((by rw [hg]; exact (below_size (by repeat (first | (with_reducible first | exact HB.out | apply below_alloc | apply pw_below_drewN | apply below_drew1) | exact HB.out))) : w.heap.size ≤ gb375)); clear HB; have HB := n0_; have BK375 := n1_; have GW375 := n2_; have GE375 := n3_; clear n0_ n1_ n2_ n3_; clear hb hbox hg) | ((with_reducible refine gate_dst (N := 4) rfl ?_); refine box_event ?hg (N := 4) ?hd (cs := #[.slice none 0 0, .slice none 0 0]) (t := 25) ?hr ?_; (case hd => rfl); (case hg => rfl); (case hr => first | (go_simp; done) | (go_simp; rfl)); intro gb376 hg w17 hbox hb; have n0_ := Aside0.mk (blk_below (g := gb375) (o := .cells #[.slice A0_0 l0_0.length c0_0, .slice A0_1 l0_1.length c0_1] 25 (0, 0)) (by (with_reducible repeat (first | refine blk_drewN ?_ _ | refine blk_drew ?_ | refine blk_alloc ?_ _)); exact BK375.out) hb); have n1_ := Aside0.mk (below_step (by repeat (first | (with_reducible first | exact HB.out | apply below_alloc | apply pw_below_drewN | apply below_drew1 | refine below_set ?_ GE375.out) | exact HB.out)) hb); have n2_ := Aside0.mk (hbox); have n3_ := Aside0.mk ((by rw [hg]; exact (below_size (by repeat (first | (with_reducible first | exact HB.out | apply below_alloc | apply pw_below_drewN | apply below_drew1 | refine below_set ?_ GE375.out) | exact HB.out))) : w.heap.size ≤ gb376)); have n4_ := Aside0.mk ((by rw [hg]; exact (below_size (by repeat (first | (with_reducible first | exact HB.out | apply below_alloc | apply pw_below_drewN | apply below_drew1 | refine below_set ?_ GE375.out) | exact HB.out))) : w.heap.size ≤ gb376)); have n5_ := Aside0.mk ((by rw [hg]; exact Nat.ne_of_lt (blk_lt (g := gb375) (o := .cells #[.slice A0_0 l0_0.length c0_0, .slice A0_1 l0_1.length c0_1] 25 (0, 0)) (by (with_reducible repeat (first | refine blk_drewN ?_ _ | refine blk_drew ?_ | refine blk_alloc ?_ _)); exact BK375.out)) : gb375 ≠ gb376)); have n6_ := Aside0.mk ((by rw [hg]; exact Nat.ne_of_gt (blk_lt (g := gb375) (o := .cells #[.slice A0_0 l0_0.length c0_0, .slice A0_1 l0_1.length c0_1] 25 (0, 0)) (by (with_reducible repeat (first | refine blk_drewN ?_ _ | refine blk_drew ?_ | refine blk_alloc ?_ _)); exact BK375.out)) : gb376 ≠ gb375)); clear BK375; clear HB; have BK375 := n0_; have HB := n1_; have BK376 := n2_; have GW376 := n3_; have GE376 := n4_; have NB375_376 := n5_; have NB376_375 := n6_; clear n0_ n1_ n2_ n3_ n4_ n5_ n6_; clear hb hbox hg; have hnb18 := NB375_376.out; have hnc18 := NB376_375.out; have hcz19_0 : w17.cell? ⟨gb375, 0, none⟩ = some (.slice A0_0 l0_0.length c0_0) := (blk_cell BK375.out 0).trans rfl; have hcz19_1 : w17.cell? ⟨gb375, 1, none⟩ = some (.slice A0_1 l0_1.length c0_1) := (blk_cell BK375.out 1).trans rfl; have hfz19_0 := blk_frozen BK375.out 0; have hfz19_1 := blk_frozen BK375.out 1) | ((with_reducible refine gate_callee (f := 127) rfl ?_); refine goesL_ (some 7) rfl rfl Try.func127 (by kernel_rfl) rfl #[.agg #[.slice A0_0 l0_0.length c0_0, .slice A0_1 l0_1.length c0_1]] rfl (by (try simp only [List.map_toArray, List.map_cons, List.map_nil]); first | done | rfl | (simp only [List.length_drop, List.length_take]; rfl)) ?_; (with_reducible refine (catamaranref05_May.calls k _ _ l0_0 _ _ l0_1 false _ ?side1 ?side2 ?side3 ?side4 A3.out).mono ?_); (case side1 => repeat (first | exact (Kd.C_below HR0_0.out HB.out) | (with_reducible refine Kd.C_alloc ?_ _) | (with_reducible refine Kd.C_drewN ?_ _) | (with_reducible refine Kd.C_drew ?_))); (case side2 => exact HC0_0.out); (case side3 => repeat (first | exact (Kd.C_below HR0_1.out HB.out) | (with_reducible refine Kd.C_alloc ?_ _) | (with_reducible refine Kd.C_drewN ?_ _) | (with_reducible refine Kd.C_drew ?_))); (case side4 => exact HC0_1.out); rintro e w20 ⟨rfl, hb⟩; refine ⟨_, rfl, ?_⟩; have n0_ := Aside0.mk (blk_below (g := gb375) (o := .cells #[.slice A0_0 l0_0.length c0_0, .slice A0_1 l0_1.length c0_1] 25 (0, 0)) (by (with_reducible repeat (first | refine blk_drewN ?_ _ | refine blk_drew ?_ | refine blk_alloc ?_ _)); exact BK375.out) hb); have n1_ := Aside0.mk (blk_below (g := gb376) (o := .cells #[.slice none 0 0, .slice none 0 0] 25 (0, 0)) (by (with_reducible repeat (first | refine blk_drewN ?_ _ | refine blk_drew ?_ | refine blk_alloc ?_ _)); exact BK376.out) hb); have n2_ := Aside0.mk (below_step (by repeat (first | (with_reducible first | exact HB.out | apply below_alloc | apply pw_below_drewN | apply below_drew1 | refine below_set ?_ GE375.out | refine below_set ?_ GE376.out) | exact HB.out)) hb); clear BK375; clear BK376; clear HB; have BK375 := n0_; have BK376 := n1_; have HB := n2_; clear n0_ n1_ n2_; (try clear hb); (try clear hb2); (try clear hk); (try clear hi); have hcz21_0 : w20.cell? ⟨gb376, 0, none⟩ = some (.slice none 0 0) := (blk_cell BK376.out 0).trans rfl; have hcz21_1 : w20.cell? ⟨gb376, 1, none⟩ = some (.slice none 0 0) := (blk_cell BK376.out 1).trans rfl; have hfz21_0 := blk_frozen BK376.out 0; have hfz21_1 := blk_frozen BK376.out 1))
    refine bodyPost_ret (results_ct rfl _ _ gb376 25 #[.slice none 0 0, .slice none 0 0] (0, 0) _ rfl (by (with_reducible repeat (first | refine blk_drewN ?_ _ | refine blk_drew ?_ | refine blk_alloc ?_ _)); refine blk_put (cs := #[.slice none 0 0, .slice none 0 0]) ?_ 1 _ rfl; (with_reducible repeat (first | refine blk_drewN ?_ _ | refine blk_drew ?_ | refine blk_alloc ?_ _)); refine blk_put (cs := #[.slice none 0 0, .slice none 0 0]) ?_ 0 _ rfl; (with_reducible repeat (first | refine blk_drewN ?_ _ | refine blk_drew ?_ | refine blk_alloc ?_ _)); exact BK376.out) Try.underlying25 rfl (by kernel_rfl)) rfl ?_
    exact ⟨_, _, by first | rfl | (simp [errW_none, errW_some] <;> rfl) | (simp [*, errW_none, errW_some] <;> rfl), by first | exact Kd.S_nil _ _ _ _ _ | exact Kd.N_nil _ _ _ _ _ | exact Kd.V_nil _ _ _ _ _ | exact Kd.Q_nil _ _ _ _ _ | exact Kd.R_nil _ _ _ _ _, by first | exact Kd.S_nil _ _ _ _ _ | exact Kd.N_nil _ _ _ _ _ | exact Kd.V_nil _ _ _ _ _ | exact Kd.Q_nil _ _ _ _ _ | exact Kd.R_nil _ _ _ _ _, by repeat (first | (with_reducible first | exact HB.out | apply below_alloc | apply pw_below_drewN | apply below_drew1 | refine below_set ?_ GE375.out | refine below_set ?_ GE376.out) | exact HB.out)⟩
end Go.Proofs.Ytjlohdbkjoofcaa.P
end
section
set_option linter.unusedVariables false
set_option linter.unusedSimpArgs false
namespace Go.Proofs.Ytjlohdbkjoofcaa.P
open Go.RowKit Go.Proofs.PrintWords Go.Proofs.PrintLast Go.Proofs.PrintMore
attribute [local go_sem] max2_int min2_int max_two min_two max_three min_three max_four min_four
def catamaranref05_Flushed.l0 : Nat → List Int → Int → List (S52) → List (S65) → Option ((List (S52)) × (List (S65)))
  | 0, _, _, _, _ => none
  | k + 1, x3, x4, x356000, x356001 => if x4 < (x356001.length : Int) then (if x3.length < 140737488355328 then (catamaranref05_Flushed.l0 k (x3 ++ [1]) (wrap64 (x4 + 1)) x356000 x356001) else (none)) else ((hRBehind.f x356000 x356001 x3).bind fun bt360 => (some (bt360.1, bt360.2)))
def catamaranref05_Flushed.f (k : Nat) (l0_0 : List (S52)) (l0_1 : List (S65)) : Option ((List (S52)) × (List (S65))) := catamaranref05_Flushed.l0 k ([] : List Int) 0 l0_0 l0_1
theorem catamaranref05_Flushed.mono_l : ∀ k, (∀ y0 y1 y2 y3, LeO (catamaranref05_Flushed.l0 k y0 y1 y2 y3) (catamaranref05_Flushed.l0 (k + 1) y0 y1 y2 y3))
  | 0 => fun _ _ _ _ r h => by simp [catamaranref05_Flushed.l0] at h
  | k + 1 => by
    have ih0 := catamaranref05_Flushed.mono_l k
    · intro y0 y1 y2 y3
      unfold catamaranref05_Flushed.l0
      repeat' first
      | (with_reducible exact ih0 _ _ _ _)
      | (with_reducible exact LeO.refl _)
      | (with_reducible exact LeO.none _)
      | (with_reducible refine LeO.ite ?_ ?_)
      | (with_reducible refine LeO.bind ?_ (fun _ => ?_))
      | exact ih0 _ _ _ _
      | exact LeO.none _
      | refine LeO.ite ?_ ?_
      | refine LeO.bind ?_ (fun _ => ?_)
theorem catamaranref05_Flushed.mono : ∀ a0 a1 k, LeO (catamaranref05_Flushed.f k a0 a1) (catamaranref05_Flushed.f (k + 1) a0 a1) := by
  intro a0 a1 k
  have ih0 := catamaranref05_Flushed.mono_l k
  unfold catamaranref05_Flushed.f
  repeat' first
      | (with_reducible exact ih0 _ _ _ _)
      | (with_reducible exact LeO.refl _)
      | (with_reducible exact LeO.none _)
      | (with_reducible refine LeO.ite ?_ ?_)
      | (with_reducible refine LeO.bind ?_ (fun _ => ?_))
      | exact ih0 _ _ _ _
      | exact LeO.none _
      | refine LeO.ite ?_ ?_
      | refine LeO.bind ?_ (fun _ => ?_)
set_option maxHeartbeats 8000000 in
set_option maxRecDepth 100000 in
theorem catamaranref05_Flushed.calls (k : Nat) (A0_0 : Option Addr) (c0_0 : Nat) (l0_0 : List (S52)) (A0_1 : Option Addr) (c0_1 : Nat) (l0_1 : List (S65)) (r1 : List (S52)) (r2 : List (S65)) (w : World) (hr0_0 : Kd.C k52 w A0_0 l0_0.length l0_0) (hc0_0 : l0_0.length ≤ c0_0) (hr0_1 : Kd.C k65 w A0_1 l0_1.length l0_1) (hc0_1 : l0_1.length ≤ c0_1) (h : catamaranref05_Flushed.f k l0_0 l0_1 = some (r1, r2)) :
    Calls Try.prog 129 #[.agg #[.slice A0_0 l0_0.length c0_0, .slice A0_1 l0_1.length c0_1]] w fun e w' => ∃ v0_ v1_ : Value, e = .returned (.agg #[v0_, v1_]) ∧ Kd.S k52 52 w' w.heap.size (fun _ => True) v0_ r1 ∧ Kd.S k65 65 w' w.heap.size (fun _ => True) v1_ r2 ∧ Below w.heap.size w w' := by
  have hu25 := Try.underlying25
  have HR0_0 := Aside0.mk hr0_0
  have HC0_0 := Aside0.mk hc0_0
  clear hr0_0 hc0_0
  have HR0_1 := Aside0.mk hr0_1
  have HC0_1 := Aside0.mk hc0_1
  clear hr0_1 hc0_1
  have HB := Aside0.mk (Below.refl w.heap.size w)
  have H : (catamaranref05_Flushed.l0 k ([] : List Int) 0 l0_0 l0_1) = some (r1, r2) := h
  clear h
  have H' := Aside0.mk H
  clear H
  go_enter Try.func129, Try.ntmps129
  go_wp2_with (first | ((with_reducible refine gate_dst (N := 1) rfl ?_); refine box_event ?hg (N := 1) ?hd (cs := #[.slice A0_0 l0_0.length c0_0, .slice A0_1 l0_1.length c0_1]) (t := 25) ?hr ?_; (case hd => rfl); (case hg => rfl); (case hr => first | (go_simp; done) | (go_simp; rfl)); intro gb355 hg w2 hbox hb; have n0_ := Aside0.mk (below_step (by repeat (first | (with_reducible first | exact HB.out | apply below_alloc | apply pw_below_drewN | apply below_drew1) | exact HB.out)) hb); have n1_ := Aside0.mk (hbox); have n2_ := Aside0.mk ((by rw [hg]; exact (below_size (by repeat (first | (with_reducible first | exact HB.out | apply below_alloc | apply pw_below_drewN | apply below_drew1) | exact HB.out))) : w.heap.size ≤ gb355)); have n3_ := Aside0.mk ((by rw [hg]; exact (below_size (by repeat (first | (with_reducible first | exact HB.out | apply below_alloc | apply pw_below_drewN | apply below_drew1) | exact HB.out))) : w.heap.size ≤ gb355)); clear HB; have HB := n0_; have BK355 := n1_; have GW355 := n2_; have GE355 := n3_; clear n0_ n1_ n2_ n3_; clear hb hbox hg) | ((with_reducible refine gate_dst (N := 2) rfl ?_); refine box_event ?hg (N := 2) ?hd (cs := #[.slice none 0 0, .slice none 0 0]) (t := 25) ?hr ?_; (case hd => rfl); (case hg => rfl); (case hr => first | (go_simp; done) | (go_simp; rfl)); intro gb356 hg w3 hbox hb; have n0_ := Aside0.mk (blk_below (g := gb355) (o := .cells #[.slice A0_0 l0_0.length c0_0, .slice A0_1 l0_1.length c0_1] 25 (0, 0)) (by (with_reducible repeat (first | refine blk_drewN ?_ _ | refine blk_drew ?_ | refine blk_alloc ?_ _)); exact BK355.out) hb); have n1_ := Aside0.mk (below_step (by repeat (first | (with_reducible first | exact HB.out | apply below_alloc | apply pw_below_drewN | apply below_drew1 | refine below_set ?_ GE355.out) | exact HB.out)) hb); have n2_ := Aside0.mk (hbox); have n3_ := Aside0.mk ((by rw [hg]; exact (below_size (by repeat (first | (with_reducible first | exact HB.out | apply below_alloc | apply pw_below_drewN | apply below_drew1 | refine below_set ?_ GE355.out) | exact HB.out))) : w.heap.size ≤ gb356)); have n4_ := Aside0.mk ((by rw [hg]; exact (below_size (by repeat (first | (with_reducible first | exact HB.out | apply below_alloc | apply pw_below_drewN | apply below_drew1 | refine below_set ?_ GE355.out) | exact HB.out))) : w.heap.size ≤ gb356)); have n5_ := Aside0.mk ((by rw [hg]; exact Nat.ne_of_lt (blk_lt (g := gb355) (o := .cells #[.slice A0_0 l0_0.length c0_0, .slice A0_1 l0_1.length c0_1] 25 (0, 0)) (by (with_reducible repeat (first | refine blk_drewN ?_ _ | refine blk_drew ?_ | refine blk_alloc ?_ _)); exact BK355.out)) : gb355 ≠ gb356)); have n6_ := Aside0.mk ((by rw [hg]; exact Nat.ne_of_gt (blk_lt (g := gb355) (o := .cells #[.slice A0_0 l0_0.length c0_0, .slice A0_1 l0_1.length c0_1] 25 (0, 0)) (by (with_reducible repeat (first | refine blk_drewN ?_ _ | refine blk_drew ?_ | refine blk_alloc ?_ _)); exact BK355.out)) : gb356 ≠ gb355)); clear BK355; clear HB; have BK355 := n0_; have HB := n1_; have BK356 := n2_; have GW356 := n3_; have GE356 := n4_; have NB355_356 := n5_; have NB356_355 := n6_; clear n0_ n1_ n2_ n3_ n4_ n5_ n6_; clear hb hbox hg))
  go_loopg [3, 4] k (fun kq v3 v4 w' => ∃ (x3_1 : List Int) (x4_1 : Int), v4 = .int .i64 x4_1 ∧ Aside0 (catamaranref05_Flushed.l0 kq x3_1 x4_1 l0_0 l0_1 = some (r1, r2)) ∧ Aside0 (kq ≤ k) ∧ Aside0 (Kd.R (Kd.int .u8) 5 w' w.heap.size (fun _ => True) v3 x3_1) ∧ Aside0 (w'.heap[gb355]? = some (.cells #[(.slice A0_0 l0_0.length c0_0), (.slice A0_1 l0_1.length c0_1)] 25 (0, 0))) ∧ Aside0 (w'.heap[gb356]? = some (.cells #[(.slice none 0 0), (.slice none 0 0)] 25 (0, 0))) ∧ Aside0 (Below w.heap.size w w'))
  case atStart => exact ⟨(([] : List Int)), (0), (by first | rfl | (simp; done) | (simp [*]; done)), H', ⟨Nat.le_refl _⟩, ⟨by first | exact Kd.R_nil _ _ _ _ _ | exact Kd.N_nil _ _ _ _ _ | exact Kd.V_nil _ _ _ _ _ | exact Kd.Q_nil _ _ _ _ _ | exact Kd.S_nil _ _ _ _ _⟩, ⟨by (with_reducible repeat (first | refine blk_drewN ?_ _ | refine blk_drew ?_ | refine blk_alloc ?_ _)); exact BK355.out⟩, ⟨by (with_reducible repeat (first | refine blk_drewN ?_ _ | refine blk_drew ?_ | refine blk_alloc ?_ _)); exact BK356.out⟩, ⟨by repeat (first | (with_reducible first | exact HB.out | apply below_alloc | apply pw_below_drewN | apply below_drew1 | refine below_set ?_ GE355.out | refine below_set ?_ GE356.out) | exact HB.out)⟩⟩
  case round =>
    clear H'
    try clear c1
    try clear p2
    obtain ⟨x3_1, x4_1, rfl, HA, HK1, HO_3, BK355, BK356, HB⟩ := hrel
    cases gk with
    | zero => exact absurd HA.out (by simp [catamaranref05_Flushed.l0])
    | succ k1 =>
      have H := HA.out
      clear HA
      simp only [catamaranref05_Flushed.l0] at H
      by_cases c4 : x4_1 < (l0_1.length : Int)
      · rw [if_pos c4] at H
        have c4b0 : decide (x4_1 < (l0_1.length : Int)) = true := decide_eq_true c4
        clear c4
        by_cases c5 : x3_1.length < 140737488355328
        · rw [if_pos c5] at H
          have LMc5 := Aside0.mk c5
          clear c5
          obtain ⟨y357, hy357⟩ : ∃ y_ : List Int, y_ = (x3_1 ++ [1]) := ⟨_, rfl⟩
          replace H : (catamaranref05_Flushed.l0 k1 y357 (wrap64 (x4_1 + 1)) l0_0 l0_1) = some (r1, r2) := by first | (rw [hy357]; with_reducible exact H) | (have H2_ := (Option.bind_some _ _).symm.trans H; rw [hy357]; with_reducible exact H2_) | (have H2_ := (Option.bind_some _ _).symm.trans H; with_reducible exact H2_) | with_reducible exact H | (rw [hy357]; exact H) | exact H
          have Ny357 := Aside0.mk hy357
          clear hy357
          have H' := Aside0.mk H
          clear H
          have hnb6 := NB355_356.out
          have hnc6 := NB356_355.out
          have hcz7_0 : wr.cell? ⟨gb355, 0, none⟩ = some (.slice A0_0 l0_0.length c0_0) := (blk_cell BK355.out 0).trans rfl
          have hcz7_1 : wr.cell? ⟨gb355, 1, none⟩ = some (.slice A0_1 l0_1.length c0_1) := (blk_cell BK355.out 1).trans rfl
          have hfz7_0 := blk_frozen BK355.out 0
          have hfz7_1 := blk_frozen BK355.out 1
          go_wp2_with (first | ((with_reducible refine gate_builtin (b := .append) (xs := #[.tmp 12, .tmp 13]) rfl ?_); at_builtin; refine Kd.R_append (Kd.int .u8) (w0 := w) w.heap.size rfl (.tmp 12) (.tmp 13) 26 5 (.int .u8 0) 1 rfl Try.underlying26 info5 rfl (by decide) (by omega) u3 x3_1 1 [.int .u8 1] (fun _ => True) (fun _ => False) rfl rfl ?aP (fun _ hk => hk.elim) ?aF ?aO ?aB ?aS ?aL ?_; (case aP => exact rfl); (case aB => exact (by repeat (first | (with_reducible first | exact HB.out | apply below_alloc | apply pw_below_drewN | apply below_drew1 | refine below_set ?_ GE355.out | refine below_set ?_ GE356.out) | exact HB.out))); (case aF => exact (fun _ _ => trivial)); (case aO => exact (by (with_reducible repeat (first | apply Kd.R_alloc | apply Kd.R_drewN | apply Kd.R_drew)); exact HO_3.out)); (case aS => exact (below_size (by repeat (first | (with_reducible first | exact HB.out | apply below_alloc | apply pw_below_drewN | apply below_drew1 | refine below_set ?_ GE355.out | refine below_set ?_ GE356.out) | exact HB.out)))); (case aL => have := LMc5.out; omega); intro v358 w8 ho hb hg hat; rw [← Ny357.out] at ho; have n0_ := Aside0.mk (blk_grown (g := gb355) (o := .cells #[.slice A0_0 l0_0.length c0_0, .slice A0_1 l0_1.length c0_1] 25 (0, 0)) (by (with_reducible repeat (first | refine blk_drewN ?_ _ | refine blk_drew ?_ | refine blk_alloc ?_ _)); exact BK355.out) hg (Kd.R_ne HO_3.out BK355.out (by decide))); have n1_ := Aside0.mk (blk_grown (g := gb356) (o := .cells #[.slice none 0 0, .slice none 0 0] 25 (0, 0)) (by (with_reducible repeat (first | refine blk_drewN ?_ _ | refine blk_drew ?_ | refine blk_alloc ?_ _)); exact BK356.out) hg (Kd.R_ne HO_3.out BK356.out (by decide))); have n2_ := Aside0.mk (hb); have n3_ := Aside0.mk (ho); clear BK355; clear BK356; clear HB; clear HO_3; have BK355 := n0_; have BK356 := n1_; have HB := n2_; have HO359 := n3_; clear n0_ n1_ n2_ n3_; clear ho hb hg hat))
          go_roundg k1
          case measure => have := HK1.out; omega
          case rel => exact ⟨(y357), (wrap64 (x4_1 + 1)), (by first | rfl | (simp; done) | (simp [*]; done)), H', ⟨by have := HK1.out; omega⟩, ⟨by (with_reducible repeat (first | apply Kd.R_alloc | apply Kd.R_drewN | apply Kd.R_drew)); exact HO359.out⟩, ⟨by (with_reducible repeat (first | refine blk_drewN ?_ _ | refine blk_drew ?_ | refine blk_alloc ?_ _)); exact BK355.out⟩, ⟨by (with_reducible repeat (first | refine blk_drewN ?_ _ | refine blk_drew ?_ | refine blk_alloc ?_ _)); exact BK356.out⟩, ⟨by repeat (first | (with_reducible first | exact HB.out | apply below_alloc | apply pw_below_drewN | apply below_drew1 | refine below_set ?_ GE355.out | refine below_set ?_ GE356.out) | exact HB.out)⟩⟩
        · rw [if_neg c5] at H
          exact absurd H (by simp)
      · rw [if_neg c4] at H
        have c4b0 : decide (x4_1 < (l0_1.length : Int)) = false := decide_eq_false c4
        clear c4
        replace H := Option.bind_eq_some_iff.mp H
        obtain ⟨⟨t360, t363⟩, A90, H⟩ := H
        replace H : (some (t360, t363)) = some (r1, r2) := H
        have A9 := Aside0.mk A90
        clear A90
        simp only [Option.some.injEq, Prod.mk.injEq] at H
        obtain ⟨rfl, rfl⟩ := H
        have hnb10 := NB355_356.out
        have hnc10 := NB356_355.out
        have hcz11_0 : wr.cell? ⟨gb355, 0, none⟩ = some (.slice A0_0 l0_0.length c0_0) := (blk_cell BK355.out 0).trans rfl
        have hcz11_1 : wr.cell? ⟨gb355, 1, none⟩ = some (.slice A0_1 l0_1.length c0_1) := (blk_cell BK355.out 1).trans rfl
        have hfz11_0 := blk_frozen BK355.out 0
        have hfz11_1 := blk_frozen BK355.out 1
        obtain ⟨Ao12, co12, eo12⟩ := Kd.R_slice HO_3.out
        subst eo12
        go_wp2_with (first | ((with_reducible refine gate_callee (f := 130) rfl ?_); refine goesL_ (some 17) rfl rfl Try.func130 (by kernel_rfl) rfl #[.agg #[.slice A0_0 l0_0.length c0_0, .slice A0_1 l0_1.length c0_1], .slice Ao12 x3_1.length co12] rfl (by (try simp only [List.map_toArray, List.map_cons, List.map_nil]); first | done | rfl | (simp only [List.length_drop, List.length_take]; rfl)) ?_; (with_reducible refine (hRBehind.calls _ _ l0_0 _ _ l0_1 _ _ x3_1 t360 t363 _ ?side1 ?side2 ?side3 ?side4 ?side5 ?side6 A9.out).mono ?_); (case side1 => repeat (first | exact (Kd.C_below HR0_0.out HB.out) | (with_reducible refine Kd.C_alloc ?_ _) | (with_reducible refine Kd.C_drewN ?_ _) | (with_reducible refine Kd.C_drew ?_))); (case side2 => exact HC0_0.out); (case side3 => repeat (first | exact (Kd.C_below HR0_1.out HB.out) | (with_reducible refine Kd.C_alloc ?_ _) | (with_reducible refine Kd.C_drewN ?_ _) | (with_reducible refine Kd.C_drew ?_))); (case side4 => exact HC0_1.out); (case side5 => repeat (first | exact (Kd.R_reads' HO_3.out).2.2 | (with_reducible refine Kd.C_alloc ?_ _) | (with_reducible refine Kd.C_drewN ?_ _) | (with_reducible refine Kd.C_drew ?_))); (case side6 => exact (Kd.R_reads' HO_3.out).2.1); rintro e w13 ⟨v361, v364, rfl, ho0, ho1, hb⟩; refine ⟨_, rfl, ?_⟩; have n0_ := Aside0.mk (Kd.R_below (by (with_reducible repeat (first | apply Kd.R_alloc | apply Kd.R_drewN | apply Kd.R_drew)); exact HO_3.out) hb); have n1_ := Aside0.mk (Kd.S_lower (Kd.S_new' ho0 (Kd.R_lt (by (with_reducible repeat (first | apply Kd.R_alloc | apply Kd.R_drewN | apply Kd.R_drew)); exact HO_3.out))) (below_size (by repeat (first | (with_reducible first | exact HB.out | apply below_alloc | apply pw_below_drewN | apply below_drew1 | refine below_set ?_ GE355.out | refine below_set ?_ GE356.out) | exact HB.out)))); have n2_ := Aside0.mk (Kd.S_lower (Kd.S_new' ho1 (Kd.R_lt (by (with_reducible repeat (first | apply Kd.R_alloc | apply Kd.R_drewN | apply Kd.R_drew)); exact HO_3.out))) (below_size (by repeat (first | (with_reducible first | exact HB.out | apply below_alloc | apply pw_below_drewN | apply below_drew1 | refine below_set ?_ GE355.out | refine below_set ?_ GE356.out) | exact HB.out)))); have n3_ := Aside0.mk (blk_below (g := gb355) (o := .cells #[.slice A0_0 l0_0.length c0_0, .slice A0_1 l0_1.length c0_1] 25 (0, 0)) (by (with_reducible repeat (first | refine blk_drewN ?_ _ | refine blk_drew ?_ | refine blk_alloc ?_ _)); exact BK355.out) hb); have n4_ := Aside0.mk (blk_below (g := gb356) (o := .cells #[.slice none 0 0, .slice none 0 0] 25 (0, 0)) (by (with_reducible repeat (first | refine blk_drewN ?_ _ | refine blk_drew ?_ | refine blk_alloc ?_ _)); exact BK356.out) hb); have n5_ := Aside0.mk (below_step (by repeat (first | (with_reducible first | exact HB.out | apply below_alloc | apply pw_below_drewN | apply below_drew1 | refine below_set ?_ GE355.out | refine below_set ?_ GE356.out) | exact HB.out)) hb); clear HO_3; clear BK355; clear BK356; clear HB; have HO_3 := n0_; have HO362 := n1_; have HO365 := n2_; have BK355 := n3_; have BK356 := n4_; have HB := n5_; clear n0_ n1_ n2_ n3_ n4_ n5_; (try clear hb); (try clear hb2); (try clear hk); (try clear hi); (try clear ho0); (try clear ho1); obtain ⟨Ao14, co14, eo14⟩ := Kd.S_slice HO362.out; subst eo14; have hcz15_0 : w13.cell? ⟨gb356, 0, none⟩ = some (.slice none 0 0) := (blk_cell BK356.out 0).trans rfl; have hcz15_1 : w13.cell? ⟨gb356, 1, none⟩ = some (.slice none 0 0) := (blk_cell BK356.out 1).trans rfl; have hfz15_0 := blk_frozen BK356.out 0; have hfz15_1 := blk_frozen BK356.out 1; obtain ⟨Ao16, co16, eo16⟩ := Kd.S_slice HO365.out; subst eo16))
        refine bodyPost_ret (results_cell_row rfl _ _ gb356 25 #[.slice Ao14 t360.length co14, .slice Ao16 t363.length co16] (0, 0) _ rfl (by (with_reducible repeat (first | refine blk_drewN ?_ _ | refine blk_drew ?_ | refine blk_alloc ?_ _)); refine blk_put (cs := #[.slice Ao14 t360.length co14, .slice none 0 0]) ?_ 1 _ rfl; (with_reducible repeat (first | refine blk_drewN ?_ _ | refine blk_drew ?_ | refine blk_alloc ?_ _)); refine blk_put (cs := #[.slice none 0 0, .slice none 0 0]) ?_ 0 _ rfl; (with_reducible repeat (first | refine blk_drewN ?_ _ | refine blk_drew ?_ | refine blk_alloc ?_ _)); exact BK356.out) Try.underlying25 rfl (by kernel_rfl)) rfl ?_
        exact ⟨_, _, by first | rfl | (simp [errW_none, errW_some] <;> rfl) | (simp [*, errW_none, errW_some] <;> rfl), by (with_reducible repeat (first | apply Kd.S_alloc | apply Kd.S_drewN | apply Kd.S_drew)); exact Kd.S_mono (Kd.S_far (p := ⟨gb356, 1, none⟩) (Kd.S_far (p := ⟨gb356, 0, none⟩) (Kd.S_types HO362.out BK356.out (by decide)) (fun _ hk => hk.2) (.slice Ao14 t360.length co14)) (fun _ hk => hk.2) (.slice Ao16 t363.length co16)) (fun _ hk => trivial), by (with_reducible repeat (first | apply Kd.S_alloc | apply Kd.S_drewN | apply Kd.S_drew)); exact Kd.S_mono (Kd.S_far (p := ⟨gb356, 1, none⟩) (Kd.S_far (p := ⟨gb356, 0, none⟩) (Kd.S_types HO365.out BK356.out (by decide)) (fun _ hk => hk.2) (.slice Ao14 t360.length co14)) (fun _ hk => hk.2) (.slice Ao16 t363.length co16)) (fun _ hk => trivial), by repeat (first | (with_reducible first | exact HB.out | apply below_alloc | apply pw_below_drewN | apply below_drew1 | refine below_set ?_ GE355.out | refine below_set ?_ GE356.out) | exact HB.out)⟩
end Go.Proofs.Ytjlohdbkjoofcaa.P
end
section
set_option linter.unusedVariables false
set_option linter.unusedSimpArgs false
namespace Go.Proofs.Ytjlohdbkjoofcaa.P
open Go.RowKit Go.Proofs.PrintWords Go.Proofs.PrintLast Go.Proofs.PrintMore
attribute [local go_sem] max2_int min2_int max_two min_two max_three min_three max_four min_four
def catamaranref05_Flush.f (k : Nat) (l0_0 : List (S52)) (l0_1 : List (S65)) : Option ((List (S52)) × (List (S65)) × Int) := (catamaranref05_May.f k l0_0 l0_1).bind fun t368 => (if t368 = true then ((catamaranref05_Flushed.f k l0_0 l0_1).bind fun bt369 => (some (bt369.1, bt369.2, 0))) else (some (([] : List (S52)), ([] : List (S65)), 8)))
theorem catamaranref05_Flush.mono : ∀ a0 a1 k, LeO (catamaranref05_Flush.f k a0 a1) (catamaranref05_Flush.f (k + 1) a0 a1) := by
  intro a0 a1 k
  unfold catamaranref05_Flush.f
  repeat' first
      | (with_reducible exact catamaranref05_Flushed.mono _ _ _)
      | (with_reducible exact catamaranref05_May.mono _ _ _)
      | (with_reducible exact LeO.refl _)
      | (with_reducible exact LeO.none _)
      | (with_reducible refine LeO.ite ?_ ?_)
      | (with_reducible refine LeO.bind ?_ (fun _ => ?_))
      | exact catamaranref05_Flushed.mono _ _ _
      | exact catamaranref05_May.mono _ _ _
      | exact LeO.none _
      | refine LeO.ite ?_ ?_
      | refine LeO.bind ?_ (fun _ => ?_)
set_option maxHeartbeats 8000000 in
set_option maxRecDepth 100000 in
theorem catamaranref05_Flush.calls (k : Nat) (A0_0 : Option Addr) (c0_0 : Nat) (l0_0 : List (S52)) (A0_1 : Option Addr) (c0_1 : Nat) (l0_1 : List (S65)) (r1 : List (S52)) (r2 : List (S65)) (r3 : Int) (w : World) (hr0_0 : Kd.C k52 w A0_0 l0_0.length l0_0) (hc0_0 : l0_0.length ≤ c0_0) (hr0_1 : Kd.C k65 w A0_1 l0_1.length l0_1) (hc0_1 : l0_1.length ≤ c0_1) (h : catamaranref05_Flush.f k l0_0 l0_1 = some (r1, r2, r3)) :
    Calls Try.prog 48 #[.agg #[.slice A0_0 l0_0.length c0_0, .slice A0_1 l0_1.length c0_1]] w fun e w' => ∃ v0_ v1_ : Value, e = .returned (.tuple #[.agg #[v0_, v1_], .int .i64 r3]) ∧ Kd.S k52 52 w' w.heap.size (fun _ => True) v0_ r1 ∧ Kd.S k65 65 w' w.heap.size (fun _ => True) v1_ r2 ∧ Below w.heap.size w w' := by
  have hu25 := Try.underlying25
  have HR0_0 := Aside0.mk hr0_0
  have HC0_0 := Aside0.mk hc0_0
  clear hr0_0 hc0_0
  have HR0_1 := Aside0.mk hr0_1
  have HC0_1 := Aside0.mk hc0_1
  clear hr0_1 hc0_1
  have HB := Aside0.mk (Below.refl w.heap.size w)
  have H : ((catamaranref05_May.f k l0_0 l0_1).bind fun t368 => (if t368 = true then ((catamaranref05_Flushed.f k l0_0 l0_1).bind fun bt369 => (some (bt369.1, bt369.2, 0))) else (some (([] : List (S52)), ([] : List (S65)), 8)))) = some (r1, r2, r3) := h
  clear h
  replace H := Option.bind_eq_some_iff.mp H
  obtain ⟨t368, A20, H⟩ := H
  replace H : (if t368 = true then ((catamaranref05_Flushed.f k l0_0 l0_1).bind fun bt369 => (some (bt369.1, bt369.2, 0))) else (some (([] : List (S52)), ([] : List (S65)), 8))) = some (r1, r2, r3) := H
  have A2 := Aside0.mk A20
  clear A20
  by_cases c3 : t368 = true
  · subst c3
    have H1 : ((catamaranref05_Flushed.f k l0_0 l0_1).bind fun bt369 => (some (bt369.1, bt369.2, 0))) = some (r1, r2, r3) := by rw [if_pos rfl] at H; exact H
    clear H
    have H := H1
    clear H1
    replace H := Option.bind_eq_some_iff.mp H
    obtain ⟨⟨t369, t372⟩, A40, H⟩ := H
    replace H : (some (t369, t372, 0)) = some (r1, r2, r3) := H
    have A4 := Aside0.mk A40
    clear A40
    simp only [Option.some.injEq, Prod.mk.injEq] at H
    obtain ⟨rfl, rfl, rfl⟩ := H
    go_enter Try.func48, Try.ntmps48
    go_wp2_with (first | ((with_reducible refine gate_dst (N := 1) rfl ?_); refine box_event ?hg (N := 1) ?hd (cs := #[.slice A0_0 l0_0.length c0_0, .slice A0_1 l0_1.length c0_1]) (t := 25) ?hr ?_; (case hd => rfl); (case hg => rfl); (case hr => first | (go_simp; done) | (go_simp; rfl)); intro gb366 hg w5 hbox hb; have n0_ := Aside0.mk (below_step (by repeat (first | (with_reducible first | exact HB.out | apply below_alloc | apply pw_below_drewN | apply below_drew1) | exact HB.out)) hb); have n1_ := Aside0.mk (hbox); have n2_ := Aside0.mk ((by rw [hg]; exact (below_size (by repeat (first | (with_reducible first | exact HB.out | apply below_alloc | apply pw_below_drewN | apply below_drew1) | exact HB.out))) : w.heap.size ≤ gb366)); have n3_ := Aside0.mk ((by rw [hg]; exact (below_size (by repeat (first | (with_reducible first | exact HB.out | apply below_alloc | apply pw_below_drewN | apply below_drew1) | exact HB.out))) : w.heap.size ≤ gb366)); clear HB; have HB := n0_; have BK366 := n1_; have GW366 := n2_; have GE366 := n3_; clear n0_ n1_ n2_ n3_; clear hb hbox hg) | ((with_reducible refine gate_dst (N := 2) rfl ?_); refine box_event ?hg (N := 2) ?hd (cs := #[.slice none 0 0, .slice none 0 0]) (t := 25) ?hr ?_; (case hd => rfl); (case hg => rfl); (case hr => first | (go_simp; done) | (go_simp; rfl)); intro gb367 hg w6 hbox hb; have n0_ := Aside0.mk (blk_below (g := gb366) (o := .cells #[.slice A0_0 l0_0.length c0_0, .slice A0_1 l0_1.length c0_1] 25 (0, 0)) (by (with_reducible repeat (first | refine blk_drewN ?_ _ | refine blk_drew ?_ | refine blk_alloc ?_ _)); exact BK366.out) hb); have n1_ := Aside0.mk (below_step (by repeat (first | (with_reducible first | exact HB.out | apply below_alloc | apply pw_below_drewN | apply below_drew1 | refine below_set ?_ GE366.out) | exact HB.out)) hb); have n2_ := Aside0.mk (hbox); have n3_ := Aside0.mk ((by rw [hg]; exact (below_size (by repeat (first | (with_reducible first | exact HB.out | apply below_alloc | apply pw_below_drewN | apply below_drew1 | refine below_set ?_ GE366.out) | exact HB.out))) : w.heap.size ≤ gb367)); have n4_ := Aside0.mk ((by rw [hg]; exact (below_size (by repeat (first | (with_reducible first | exact HB.out | apply below_alloc | apply pw_below_drewN | apply below_drew1 | refine below_set ?_ GE366.out) | exact HB.out))) : w.heap.size ≤ gb367)); have n5_ := Aside0.mk ((by rw [hg]; exact Nat.ne_of_lt (blk_lt (g := gb366) (o := .cells #[.slice A0_0 l0_0.length c0_0, .slice A0_1 l0_1.length c0_1] 25 (0, 0)) (by (with_reducible repeat (first | refine blk_drewN ?_ _ | refine blk_drew ?_ | refine blk_alloc ?_ _)); exact BK366.out)) : gb366 ≠ gb367)); have n6_ := Aside0.mk ((by rw [hg]; exact Nat.ne_of_gt (blk_lt (g := gb366) (o := .cells #[.slice A0_0 l0_0.length c0_0, .slice A0_1 l0_1.length c0_1] 25 (0, 0)) (by (with_reducible repeat (first | refine blk_drewN ?_ _ | refine blk_drew ?_ | refine blk_alloc ?_ _)); exact BK366.out)) : gb367 ≠ gb366)); clear BK366; clear HB; have BK366 := n0_; have HB := n1_; have BK367 := n2_; have GW367 := n3_; have GE367 := n4_; have NB366_367 := n5_; have NB367_366 := n6_; clear n0_ n1_ n2_ n3_ n4_ n5_ n6_; clear hb hbox hg; have hnb7 := NB366_367.out; have hnc7 := NB367_366.out; have hcz8_0 : w6.cell? ⟨gb366, 0, none⟩ = some (.slice A0_0 l0_0.length c0_0) := (blk_cell BK366.out 0).trans rfl; have hcz8_1 : w6.cell? ⟨gb366, 1, none⟩ = some (.slice A0_1 l0_1.length c0_1) := (blk_cell BK366.out 1).trans rfl; have hfz8_0 := blk_frozen BK366.out 0; have hfz8_1 := blk_frozen BK366.out 1) | ((with_reducible refine gate_callee (f := 127) rfl ?_); refine goesL_ (some 5) rfl rfl Try.func127 (by kernel_rfl) rfl #[.agg #[.slice A0_0 l0_0.length c0_0, .slice A0_1 l0_1.length c0_1]] rfl (by (try simp only [List.map_toArray, List.map_cons, List.map_nil]); first | done | rfl | (simp only [List.length_drop, List.length_take]; rfl)) ?_; (with_reducible refine (catamaranref05_May.calls k _ _ l0_0 _ _ l0_1 true _ ?side1 ?side2 ?side3 ?side4 A2.out).mono ?_); (case side1 => repeat (first | exact (Kd.C_below HR0_0.out HB.out) | (with_reducible refine Kd.C_alloc ?_ _) | (with_reducible refine Kd.C_drewN ?_ _) | (with_reducible refine Kd.C_drew ?_))); (case side2 => exact HC0_0.out); (case side3 => repeat (first | exact (Kd.C_below HR0_1.out HB.out) | (with_reducible refine Kd.C_alloc ?_ _) | (with_reducible refine Kd.C_drewN ?_ _) | (with_reducible refine Kd.C_drew ?_))); (case side4 => exact HC0_1.out); rintro e w9 ⟨rfl, hb⟩; refine ⟨_, rfl, ?_⟩; have n0_ := Aside0.mk (blk_below (g := gb366) (o := .cells #[.slice A0_0 l0_0.length c0_0, .slice A0_1 l0_1.length c0_1] 25 (0, 0)) (by (with_reducible repeat (first | refine blk_drewN ?_ _ | refine blk_drew ?_ | refine blk_alloc ?_ _)); exact BK366.out) hb); have n1_ := Aside0.mk (blk_below (g := gb367) (o := .cells #[.slice none 0 0, .slice none 0 0] 25 (0, 0)) (by (with_reducible repeat (first | refine blk_drewN ?_ _ | refine blk_drew ?_ | refine blk_alloc ?_ _)); exact BK367.out) hb); have n2_ := Aside0.mk (below_step (by repeat (first | (with_reducible first | exact HB.out | apply below_alloc | apply pw_below_drewN | apply below_drew1 | refine below_set ?_ GE366.out | refine below_set ?_ GE367.out) | exact HB.out)) hb); clear BK366; clear BK367; clear HB; have BK366 := n0_; have BK367 := n1_; have HB := n2_; clear n0_ n1_ n2_; (try clear hb); (try clear hb2); (try clear hk); (try clear hi); have hcz10_0 : w9.cell? ⟨gb366, 0, none⟩ = some (.slice A0_0 l0_0.length c0_0) := (blk_cell BK366.out 0).trans rfl; have hcz10_1 : w9.cell? ⟨gb366, 1, none⟩ = some (.slice A0_1 l0_1.length c0_1) := (blk_cell BK366.out 1).trans rfl; have hfz10_0 := blk_frozen BK366.out 0; have hfz10_1 := blk_frozen BK366.out 1) | ((with_reducible refine gate_callee (f := 129) rfl ?_); refine goesL_ (some 9) rfl rfl Try.func129 (by kernel_rfl) rfl #[.agg #[.slice A0_0 l0_0.length c0_0, .slice A0_1 l0_1.length c0_1]] rfl (by (try simp only [List.map_toArray, List.map_cons, List.map_nil]); first | done | rfl | (simp only [List.length_drop, List.length_take]; rfl)) ?_; (with_reducible refine (catamaranref05_Flushed.calls k _ _ l0_0 _ _ l0_1 t369 t372 _ ?side1 ?side2 ?side3 ?side4 A4.out).mono ?_); (case side1 => repeat (first | exact (Kd.C_below HR0_0.out HB.out) | (with_reducible refine Kd.C_alloc ?_ _) | (with_reducible refine Kd.C_drewN ?_ _) | (with_reducible refine Kd.C_drew ?_))); (case side2 => exact HC0_0.out); (case side3 => repeat (first | exact (Kd.C_below HR0_1.out HB.out) | (with_reducible refine Kd.C_alloc ?_ _) | (with_reducible refine Kd.C_drewN ?_ _) | (with_reducible refine Kd.C_drew ?_))); (case side4 => exact HC0_1.out); rintro e w11 ⟨v370, v373, rfl, ho0, ho1, hb⟩; refine ⟨_, rfl, ?_⟩; have n0_ := Aside0.mk (Kd.S_lower ho0 (below_size (by repeat (first | (with_reducible first | exact HB.out | apply below_alloc | apply pw_below_drewN | apply below_drew1 | refine below_set ?_ GE366.out | refine below_set ?_ GE367.out) | exact HB.out)))); have n1_ := Aside0.mk (Kd.S_lower ho1 (below_size (by repeat (first | (with_reducible first | exact HB.out | apply below_alloc | apply pw_below_drewN | apply below_drew1 | refine below_set ?_ GE366.out | refine below_set ?_ GE367.out) | exact HB.out)))); have n2_ := Aside0.mk (blk_below (g := gb366) (o := .cells #[.slice A0_0 l0_0.length c0_0, .slice A0_1 l0_1.length c0_1] 25 (0, 0)) (by (with_reducible repeat (first | refine blk_drewN ?_ _ | refine blk_drew ?_ | refine blk_alloc ?_ _)); exact BK366.out) hb); have n3_ := Aside0.mk (blk_below (g := gb367) (o := .cells #[.slice none 0 0, .slice none 0 0] 25 (0, 0)) (by (with_reducible repeat (first | refine blk_drewN ?_ _ | refine blk_drew ?_ | refine blk_alloc ?_ _)); exact BK367.out) hb); have n4_ := Aside0.mk (below_step (by repeat (first | (with_reducible first | exact HB.out | apply below_alloc | apply pw_below_drewN | apply below_drew1 | refine below_set ?_ GE366.out | refine below_set ?_ GE367.out) | exact HB.out)) hb); clear BK366; clear BK367; clear HB; have HO371 := n0_; have HO374 := n1_; have BK366 := n2_; have BK367 := n3_; have HB := n4_; clear n0_ n1_ n2_ n3_ n4_; (try clear hb); (try clear hb2); (try clear hk); (try clear hi); (try clear ho0); (try clear ho1); obtain ⟨Ao12, co12, eo12⟩ := Kd.S_slice HO371.out; subst eo12; have hcz13_0 : w11.cell? ⟨gb367, 0, none⟩ = some (.slice none 0 0) := (blk_cell BK367.out 0).trans rfl; have hcz13_1 : w11.cell? ⟨gb367, 1, none⟩ = some (.slice none 0 0) := (blk_cell BK367.out 1).trans rfl; have hfz13_0 := blk_frozen BK367.out 0; have hfz13_1 := blk_frozen BK367.out 1; obtain ⟨Ao14, co14, eo14⟩ := Kd.S_slice HO374.out; subst eo14))
    refine bodyPost_ret (results_ct rfl _ _ gb367 25 #[.slice Ao12 t369.length co12, .slice Ao14 t372.length co14] (0, 0) _ rfl (by (with_reducible repeat (first | refine blk_drewN ?_ _ | refine blk_drew ?_ | refine blk_alloc ?_ _)); refine blk_put (cs := #[.slice Ao12 t369.length co12, .slice none 0 0]) ?_ 1 _ rfl; (with_reducible repeat (first | refine blk_drewN ?_ _ | refine blk_drew ?_ | refine blk_alloc ?_ _)); refine blk_put (cs := #[.slice none 0 0, .slice none 0 0]) ?_ 0 _ rfl; (with_reducible repeat (first | refine blk_drewN ?_ _ | refine blk_drew ?_ | refine blk_alloc ?_ _)); exact BK367.out) Try.underlying25 rfl (by kernel_rfl)) rfl ?_
    exact ⟨_, _, by first | rfl | (simp [errW_none, errW_some] <;> rfl) | (simp [*, errW_none, errW_some] <;> rfl), by (with_reducible repeat (first | apply Kd.S_alloc | apply Kd.S_drewN | apply Kd.S_drew)); exact Kd.S_mono (Kd.S_far (p := ⟨gb367, 1, none⟩) (Kd.S_far (p := ⟨gb367, 0, none⟩) (Kd.S_types HO371.out BK367.out (by decide)) (fun _ hk => hk.2) (.slice Ao12 t369.length co12)) (fun _ hk => hk.2) (.slice Ao14 t372.length co14)) (fun _ hk => trivial), by (with_reducible repeat (first | apply Kd.S_alloc | apply Kd.S_drewN | apply Kd.S_drew)); exact Kd.S_mono (Kd.S_far (p := ⟨gb367, 1, none⟩) (Kd.S_far (p := ⟨gb367, 0, none⟩) (Kd.S_types HO374.out BK367.out (by decide)) (fun _ hk => hk.2) (.slice Ao12 t369.length co12)) (fun _ hk => hk.2) (.slice Ao14 t372.length co14)) (fun _ hk => trivial), by repeat (first | (with_reducible first | exact HB.out | apply below_alloc | apply pw_below_drewN | apply below_drew1 | refine below_set ?_ GE366.out | refine below_set ?_ GE367.out) | exact HB.out)⟩
  · replace c3 := Bool.eq_false_iff.mpr c3
    subst c3
    have H1 : (some (([] : List (S52)), ([] : List (S65)), 8)) = some (r1, r2, r3) := by rw [if_neg (show ¬ (false = true) by decide)] at H; exact H
    clear H
    have H := H1
    clear H1
    simp only [Option.some.injEq, Prod.mk.injEq] at H
    obtain ⟨rfl, rfl, rfl⟩ := H
    go_enter Try.func48, Try.ntmps48
    go_wp2_with (first | ((with_reducible refine gate_dst (N := 1) rfl ?_); refine box_event ?hg (N := 1) ?hd (cs := #[.slice A0_0 l0_0.length c0_0, .slice A0_1 l0_1.length c0_1]) (t := 25) ?hr ?_; (case hd => rfl); (case hg => rfl); (case hr => first | (go_simp; done) | (go_simp; rfl)); intro gb366 hg w15 hbox hb; have n0_ := Aside0.mk (below_step (by repeat (first | (with_reducible first | exact HB.out | apply below_alloc | apply pw_below_drewN | apply below_drew1) | exact HB.out)) hb); have n1_ := Aside0.mk (hbox); have n2_ := Aside0.mk ((by rw [hg]; exact (below_size (by repeat (first | (with_reducible first | exact HB.out | apply below_alloc | apply pw_below_drewN | apply below_drew1) | exact HB.out))) : w.heap.size ≤ gb366)); have n3_ := Aside0.mk ((by rw [hg]; exact (below_size (by repeat (first | (with_reducible first | exact HB.out | apply below_alloc | apply pw_below_drewN | apply below_drew1) | exact HB.out))) : w.heap.size ≤ gb366)); clear HB; have HB := n0_; have BK366 := n1_; have GW366 := n2_; have GE366 := n3_; clear n0_ n1_ n2_ n3_; clear hb hbox hg) | ((with_reducible refine gate_dst (N := 2) rfl ?_); refine box_event ?hg (N := 2) ?hd (cs := #[.slice none 0 0, .slice none 0 0]) (t := 25) ?hr ?_; (case hd => rfl); (case hg => rfl); (case hr => first | (go_simp; done) | (go_simp; rfl)); intro gb367 hg w16 hbox hb; have n0_ := Aside0.mk (blk_below (g := gb366) (o := .cells #[.slice A0_0 l0_0.length c0_0, .slice A0_1 l0_1.length c0_1] 25 (0, 0)) (by (with_reducible repeat (first | refine blk_drewN ?_ _ | refine blk_drew ?_ | refine blk_alloc ?_ _)); exact BK366.out) hb); have n1_ := Aside0.mk (below_step (by repeat (first | (with_reducible first | exact HB.out | apply below_alloc | apply pw_below_drewN | apply below_drew1 | refine below_set ?_ GE366.out) | exact HB.out)) hb); have n2_ := Aside0.mk (hbox); have n3_ := Aside0.mk ((by rw [hg]; exact (below_size (by repeat (first | (with_reducible first | exact HB.out | apply below_alloc | apply pw_below_drewN | apply below_drew1 | refine below_set ?_ GE366.out) | exact HB.out))) : w.heap.size ≤ gb367)); have n4_ := Aside0.mk ((by rw [hg]; exact (below_size (by repeat (first | (with_reducible first | exact HB.out | apply below_alloc | apply pw_below_drewN | apply below_drew1 | refine below_set ?_ GE366.out) | exact HB.out))) : w.heap.size ≤ gb367)); have n5_ := Aside0.mk ((by rw [hg]; exact Nat.ne_of_lt (blk_lt (g := gb366) (o := .cells #[.slice A0_0 l0_0.length c0_0, .slice A0_1 l0_1.length c0_1] 25 (0, 0)) (by (with_reducible repeat (first | refine blk_drewN ?_ _ | refine blk_drew ?_ | refine blk_alloc ?_ _)); exact BK366.out)) : gb366 ≠ gb367)); have n6_ := Aside0.mk ((by rw [hg]; exact Nat.ne_of_gt (blk_lt (g := gb366) (o := .cells #[.slice A0_0 l0_0.length c0_0, .slice A0_1 l0_1.length c0_1] 25 (0, 0)) (by (with_reducible repeat (first | refine blk_drewN ?_ _ | refine blk_drew ?_ | refine blk_alloc ?_ _)); exact BK366.out)) : gb367 ≠ gb366)); clear BK366; clear HB; have BK366 := n0_; have HB := n1_; have BK367 := n2_; have GW367 := n3_; have GE367 := n4_; have NB366_367 := n5_; have NB367_366 := n6_; clear n0_ n1_ n2_ n3_ n4_ n5_ n6_; clear hb hbox hg; have hnb17 := NB366_367.out; have hnc17 := NB367_366.out; have hcz18_0 : w16.cell? ⟨gb366, 0, none⟩ = some (.slice A0_0 l0_0.length c0_0) := (blk_cell BK366.out 0).trans rfl; have hcz18_1 : w16.cell? ⟨gb366, 1, none⟩ = some (.slice A0_1 l0_1.length c0_1) := (blk_cell BK366.out 1).trans rfl; have hfz18_0 := blk_frozen BK366.out 0; have hfz18_1 := blk_frozen BK366.out 1) | ((with_reducible refine gate_callee (f := 127) rfl ?_); refine goesL_ (some 5) rfl rfl Try.func127 (by kernel_rfl) rfl #[.agg #[.slice A0_0 l0_0.length c0_0, .slice A0_1 l0_1.length c0_1]] rfl (by (try simp only [List.map_toArray, List.map_cons, List.map_nil]); first | done | rfl | (simp only [List.length_drop, List.length_take]; rfl)) ?_; (with_reducible refine (catamaranref05_May.calls k _ _ l0_0 _ _ l0_1 false _ ?side1 ?side2 ?side3 ?side4 A2.out).mono ?_); (case side1 => repeat (first | exact (Kd.C_below HR0_0.out HB.out) | (with_reducible refine Kd.C_alloc ?_ _) | (with_reducible refine Kd.C_drewN ?_ _) | (with_reducible refine Kd.C_drew ?_))); (case side2 => exact HC0_0.out); (case side3 => repeat (first | exact (Kd.C_below HR0_1.out HB.out) | (with_reducible refine Kd.C_alloc ?_ _) | (with_reducible refine Kd.C_drewN ?_ _) | (with_reducible refine Kd.C_drew ?_))); (case side4 => exact HC0_1.out); rintro e w19 ⟨rfl, hb⟩; refine ⟨_, rfl, ?_⟩; have n0_ := Aside0.mk (blk_below (g := gb366) (o := .cells #[.slice A0_0 l0_0.length c0_0, .slice A0_1 l0_1.length c0_1] 25 (0, 0)) (by (with_reducible repeat (first | refine blk_drewN ?_ _ | refine blk_drew ?_ | refine blk_alloc ?_ _)); exact BK366.out) hb); have n1_ := Aside0.mk (blk_below (g := gb367) (o := .cells #[.slice none 0 0, .slice none 0 0] 25 (0, 0)) (by (with_reducible repeat (first | refine blk_drewN ?_ _ | refine blk_drew ?_ | refine blk_alloc ?_ _)); exact BK367.out) hb); have n2_ := Aside0.mk (below_step (by repeat (first | (with_reducible first | exact HB.out | apply below_alloc | apply pw_below_drewN | apply below_drew1 | refine below_set ?_ GE366.out | refine below_set ?_ GE367.out) | exact HB.out)) hb); clear BK366; clear BK367; clear HB; have BK366 := n0_; have BK367 := n1_; have HB := n2_; clear n0_ n1_ n2_; (try clear hb); (try clear hb2); (try clear hk); (try clear hi); have hcz20_0 : w19.cell? ⟨gb367, 0, none⟩ = some (.slice none 0 0) := (blk_cell BK367.out 0).trans rfl; have hcz20_1 : w19.cell? ⟨gb367, 1, none⟩ = some (.slice none 0 0) := (blk_cell BK367.out 1).trans rfl; have hfz20_0 := blk_frozen BK367.out 0; have hfz20_1 := blk_frozen BK367.out 1))
    refine bodyPost_ret (results_ct rfl _ _ gb367 25 #[.slice none 0 0, .slice none 0 0] (0, 0) _ rfl (by (with_reducible repeat (first | refine blk_drewN ?_ _ | refine blk_drew ?_ | refine blk_alloc ?_ _)); refine blk_put (cs := #[.slice none 0 0, .slice none 0 0]) ?_ 1 _ rfl; (with_reducible repeat (first | refine blk_drewN ?_ _ | refine blk_drew ?_ | refine blk_alloc ?_ _)); refine blk_put (cs := #[.slice none 0 0, .slice none 0 0]) ?_ 0 _ rfl; (with_reducible repeat (first | refine blk_drewN ?_ _ | refine blk_drew ?_ | refine blk_alloc ?_ _)); exact BK367.out) Try.underlying25 rfl (by kernel_rfl)) rfl ?_
    exact ⟨_, _, by first | rfl | (simp [errW_none, errW_some] <;> rfl) | (simp [*, errW_none, errW_some] <;> rfl), by first | exact Kd.S_nil _ _ _ _ _ | exact Kd.N_nil _ _ _ _ _ | exact Kd.V_nil _ _ _ _ _ | exact Kd.Q_nil _ _ _ _ _ | exact Kd.R_nil _ _ _ _ _, by first | exact Kd.S_nil _ _ _ _ _ | exact Kd.N_nil _ _ _ _ _ | exact Kd.V_nil _ _ _ _ _ | exact Kd.Q_nil _ _ _ _ _ | exact Kd.R_nil _ _ _ _ _, by repeat (first | (with_reducible first | exact HB.out | apply below_alloc | apply pw_below_drewN | apply below_drew1 | refine below_set ?_ GE366.out | refine below_set ?_ GE367.out) | exact HB.out)⟩
end Go.Proofs.Ytjlohdbkjoofcaa.P
end
section
set_option linter.unusedVariables false
set_option linter.unusedSimpArgs false
namespace Go.Proofs.Ytjlohdbkjoofcaa.P
open Go.RowKit Go.Proofs.PrintWords Go.Proofs.PrintLast Go.Proofs.PrintMore
attribute [local go_sem] max2_int min2_int max_two min_two max_three min_three max_four min_four
theorem rBehind_is (l0 : List S52) (l1 : List S65) (fates : List Int) (hok : okDisk l0 l1 = true) : hRBehind.f l0 l1 fates = some (dBehind l0 l1 fates, []) := by
  unfold hRBehind.f
  rw [if_pos hok]
theorem flushed_l0 (l0 : List S52) (l1 : List S65) (hok : okDisk l0 l1 = true) : ∀ (d k n : Nat), n + d = l1.length → d + 1 ≤ k → catamaranref05_Flushed.l0 k (List.replicate n 1) (n : Int) l0 l1 = some (dBehind l0 l1 (List.replicate l1.length 1), [])
  | 0, k + 1, n, h, hk => by
    obtain rfl : n = l1.length := by omega
    unfold catamaranref05_Flushed.l0
    rw [if_neg (by omega), rBehind_is l0 l1 _ hok]
    rfl
  | d + 1, k + 1, n, h, hk => by
    have hl := okDisk_len hok
    unfold catamaranref05_Flushed.l0
    rw [if_pos (by omega), if_pos (by rw [List.length_replicate]; omega), wrap_succ (by omega), ← flushed_l0 l0 l1 hok d k (n + 1) (by omega) (by omega), List.replicate_succ']
theorem rCrash_is (k : Nat) (hk : 1300 ≤ k) (l0 : List S52) (l1 : List S65) (fates : List Int) (hby : bytesD l0 l1) : catamaranref05_Crash.f k l0 l1 fates = some (dCrash l0 l1 fates) := by
  unfold catamaranref05_Crash.f dCrash
  rw [may_is k (by omega) l0 l1 hby, Option.bind_some]
  cases hok : okDisk l0 l1 with
  | false => rfl
  | true =>
    rw [if_pos rfl, if_pos rfl, rBehind_is l0 l1 fates hok]
    rfl
theorem rFlush_is (k : Nat) (hk : 1400 ≤ k) (l0 : List S52) (l1 : List S65) (hby : bytesD l0 l1) : catamaranref05_Flush.f k l0 l1 = some (dFlush l0 l1) := by
  unfold catamaranref05_Flush.f dFlush dCrash
  rw [may_is k (by omega) l0 l1 hby, Option.bind_some]
  cases hok : okDisk l0 l1 with
  | false => rfl
  | true =>
    have hl := okDisk_len hok
    have e := flushed_l0 l0 l1 hok l1.length k 0 (by omega) (by omega)
    unfold catamaranref05_Flushed.f
    rw [if_pos rfl, if_pos rfl]
    rw [show ((0 : Nat) : Int) = 0 from rfl, List.replicate_zero] at e
    rw [e]
    rfl
theorem blank_l0' (m : Nat) (hm : m ≤ 1024) : ∀ (d k n : Nat), n + d = m → d + 1 ≤ k → catamaranref05_Blank.l0 k (m : Int) (n : Int) (List.replicate n ⟨zero32, false⟩) = some (List.replicate m ⟨zero32, false⟩, [])
  | 0, k + 1, n, h, hk => by
    obtain rfl : n = m := by omega
    unfold catamaranref05_Blank.l0
    rw [if_neg (by omega)]
  | d + 1, k + 1, n, h, hk => by
    have e : List.replicate (n + 1) (⟨zero32, false⟩ : S52) = List.replicate n ⟨zero32, false⟩ ++ [⟨zero32, false⟩] := List.replicate_succ'
    unfold catamaranref05_Blank.l0
    rw [if_pos (by omega), if_pos (by decide), if_pos (by rw [List.length_replicate]; omega), wrap_succ (by omega), ← blank_l0' m hm d k (n + 1) (by omega) (by omega), e]
    rfl
theorem rNew_is (k : Nat) (hk : 1200 ≤ k) (a : Int) : catamaranref05_New.f k a = some (dNew a) := by
  unfold catamaranref05_New.f dNew
  by_cases h : 1 ≤ a ∧ a ≤ 1024
  · obtain ⟨n, rfl⟩ := Int.eq_ofNat_of_zero_le (show 0 ≤ a by omega)
    rw [if_neg (by omega), if_neg (by omega), if_pos h]
    unfold catamaranref05_Blank.f
    have e := blank_l0' n (by omega) n k 0 (by omega) (by omega)
    rw [show ((0 : Nat) : Int) = 0 from rfl, List.replicate_zero] at e
    rw [e]
    rfl
  · rw [if_neg h]
    by_cases h1 : a < 1
    · rw [if_pos h1]
    · rw [if_neg h1, if_pos (by omega)]
end Go.Proofs.Ytjlohdbkjoofcaa.P
end
