/- Part 7 of the proof: JournalPlans: for every config, disk, area, generation, number and bytes the program's note text and its write are the document's, and the arguments stay; no condition. -/
import Derived.RangeFuncNested
import Derived.RangeFuncBox
import Derived.RangeFuncLeaves
import Derived.Shelf.Abstract
import Derived.OwnWalkIn
import Derived.TacticsInMore
import Derived.LoopNIn
import Derived.LoopIn
import Derived.BigRegion
import Derived.Test.YtdkjhcdniepbhaaJournalPlans06
section
set_option linter.unusedVariables false
set_option linter.unusedSimpArgs false
namespace Go.Proofs.Ytdkjhcdniepbhaa.P
open Go.RowKit Go.Proofs.PrintWords Go.Proofs.PrintLast Go.Proofs.PrintMore
attribute [local go_sem] max2_int min2_int max_two min_two max_three min_three max_four min_four
open Go.Shelf
def down (n k : Nat) : List Nat := (List.range k).map fun j => n - 1 - j
theorem down_succ (n k : Nat) : down n (k + 1) = down n k ++ [n - 1 - k] := by simp [down, List.range_succ]
theorem down_length (n k : Nat) : (down n k).length = k := by simp [down]
attribute [local go_sem] Oper.semAt_some
set_option maxRecDepth 100000 in
set_option maxHeartbeats 2000000 in
theorem hBack.in1 (F : Fence) (n : Nat) (h7 : F.fn 126) (hro : F.round = none) (hn : 1 ≤ n) (l Bs n₀ : Nat) (A : Option Addr) (len cap : Nat) (u0 u1 : Nat → Value) (hm : len ≤ 9223372036854775807) (J Jx : List Nat → World → Prop)
    (hY : ∀ pre (x : Nat) W, J pre W → pre.length < len → YieldAt F (n - 1) Try.prog l #[.int .i64 (x : Int), .agg #[u0 x, u1 x]] W fun e W' =>
      (e = .returned (.bool true) ∧ J (pre ++ [x]) W' ∧ Below n₀ W W') ∨ (e = .returned (.bool false) ∧ Jx (pre ++ [x]) W'))
    (W : World) (hB : Bs < n₀) (hBs : W.cell? ⟨Bs, 0, none⟩ = some (.slice A len cap))
    (hA : 0 < len → ∃ ad, A = some ad ∧ ad.block < n₀ ∧ ∀ j, j < len → W.cell? (ad.add (j * 2)) = some (u0 j) ∧ W.cell? ⟨(ad.add (j * 2)).block, (ad.add (j * 2)).off + 1, none⟩ = some (u1 j)) (h0 : J [] W) :
    CallsIn F n Try.prog 126 #[.func (.yield l) #[] #[], .pointer (some ⟨Bs, 0, none⟩)] W fun e W' => (∃ v, e = .returned v) ∧
      ((∃ ys, ys = down len len ∧ J ys W') ∨ (∃ pre, (∃ k, k ≤ len ∧ pre = down len k) ∧ Jx pre W')) := by
  refine callsIn_of_wp Try.func126 rfl h7 ?_ hro
  simp only [Try.ntmps126, List.size_toArray, List.length_cons, List.length_nil, Nat.reduceAdd, Nat.reduceSub, Array.replicate_succ, Array.replicate_zero, List.push_toArray, List.append_toArray, List.nil_append, List.cons_append]
  gi_wp2
  gi_loopw [3] (fun i wr => ∃ m : Nat, m ≤ len ∧ i = .int .i64 ((m : Int) - 1) ∧ Aside0 (J (down len (len - m)) wr) ∧ Aside0 (Below n₀ W wr))
    (fun i _ => (intOf i + 1).toNat)
  case atStart => exact ⟨len, Nat.le_refl _, by go_num, ⟨by rw [Nat.sub_self]; exact h0⟩, ⟨Below.refl _ _⟩⟩
  case round =>
    obtain ⟨m, hk, rfl, HJ, HX⟩ := hrel
    have hb0 := (HX.out.cell (p := ⟨Bs, 0, none⟩) hB).trans hBs
    cases m with
    | zero =>
      rw [show (((0 : Nat) : Int) - 1) = -1 from rfl]
      gi_wp2
      go_end0
      exact ⟨⟨_, rfl⟩, .inl ⟨_, rfl, HJ.out⟩⟩
    | succ m =>
      rw [show (((m + 1 : Nat) : Int) - 1) = (m : Int) from by omega]
      obtain ⟨ad, rfl, had, hcs⟩ := hA (by omega)
      have hc0 := (HX.out.cell (p := ad.add (m * 2)) (by rw [add_block_]; exact had)).trans (hcs m (by omega)).1
      have hc1 := (HX.out.cell (p := ⟨(ad.add (m * 2)).block, (ad.add (m * 2)).off + 1, none⟩) (by show (ad.add (m * 2)).block < n₀; rw [add_block_]; exact had)).trans (hcs m (by omega)).2
      have hlen : (down len (len - (m + 1))).length < len := by rw [down_length]; omega
      have hnx : down len (len - (m + 1)) ++ [m] = down len (len - m) := by
        rw [show len - m = (len - (m + 1)) + 1 from by omega, down_succ, show len - 1 - (len - (m + 1)) = m from by omega]
      obtain ⟨fn, tmps, assign, body, hy, hR⟩ := hY _ m wr HJ.out hlen
      have HNX := Aside0.mk hnx
      have HCS := Aside0.mk hcs
      clear hnx hcs hlen
      gi_wp2
      refine hR.mono ?_
      rintro e W3 (⟨rfl, hJ3, hk3⟩ | ⟨rfl, hJx3⟩)
      · have HJ3 := Aside0.mk hJ3
        have HX3 := Aside0.mk (HX.out.trans hk3)
        clear hJ3 hk3
        gi_wp2
        go_roundw
        case rel => exact ⟨m, by omega, by go_num, ⟨by rw [← HNX.out]; exact HJ3.out⟩, HX3⟩
        case measure => simp [intOf]
      · have HJ3 := Aside0.mk hJx3
        clear hJx3
        gi_wp2
        refine bodyPost_ret (results_none rfl _ _ _) rfl ?_
        exact ⟨⟨_, rfl⟩, .inr ⟨_, ⟨len - m, by omega, HNX.out⟩, HJ3.out⟩⟩
theorem hBack.mk (F : Fence) (n : Nat) (h5 : F.fn 93) (hro : F.round = none) (a : Option Addr) (len cap : Nat) (w : World) :
    CallsIn F n Try.prog 93 #[.slice a len cap] w fun e w' => e = .returned (.func (.func 126) #[] #[.pointer (some ⟨w.heap.size, 0, none⟩)]) ∧ w' = w.alloc (.cells #[.slice a len cap] 23) := by
  refine callsIn_of_wp Try.func93 rfl h5 ?_ hro
  simp only [Try.ntmps93, List.size_toArray, List.length_cons, List.length_nil, Nat.reduceAdd, Nat.reduceSub, Array.replicate_succ, Array.replicate_zero, List.push_toArray, List.append_toArray, List.nil_append, List.cons_append]
  gi_wp2
  go_ret
  exact ⟨rfl, rfl⟩
theorem hBack.stops (F : Fence) (n : Nat) (h7 : F.fn 126) (hro : F.round = none) (hn : 1 ≤ n) (Bs n₀ : Nat) (A : Option Addr) (len cap : Nat) (u0 u1 : Nat → Value) (hm : len ≤ 9223372036854775807) (w : World) (hB : Bs < n₀) (hn₀ : n₀ ≤ w.heap.size)
    (hBs : w.cell? ⟨Bs, 0, none⟩ = some (.slice A len cap))
    (hA : 0 < len → ∃ ad, A = some ad ∧ ad.block < n₀ ∧ ∀ j, j < len → w.cell? (ad.add (j * 2)) = some (u0 j) ∧ w.cell? ⟨(ad.add (j * 2)).block, (ad.add (j * 2)).off + 1, none⟩ = some (u1 j)) :
    SeqStopsK F n Try.prog 126 #[.pointer (some ⟨Bs, 0, none⟩)] (fun x : Nat => #[Value.int .i64 (x : Int), .agg #[u0 x, u1 x]]) (Below n₀) (fun ys => ys = down len len) (fun pre => ∃ k, k ≤ len ∧ pre = down len k) len w := fun l J Jx W hW _ _ hY h0 => by
  have hW' := hW.mono hn₀
  refine hBack.in1 F n h7 hro hn l Bs n₀ A len cap u0 u1 hm J Jx hY W hB ((hW'.cell (p := ⟨Bs, 0, none⟩) hB).trans hBs) (fun h => ?_) h0
  obtain ⟨ad, e, hb, hc⟩ := hA h
  exact ⟨ad, e, hb, fun j hj => ⟨(hW'.cell (p := ad.add (j * 2)) (by rw [add_block_]; exact hb)).trans (hc j hj).1, (hW'.cell (p := ⟨(ad.add (j * 2)).block, (ad.add (j * 2)).off + 1, none⟩) (by show (ad.add (j * 2)).block < n₀; rw [add_block_]; exact hb)).trans (hc j hj).2⟩⟩
end Go.Proofs.Ytdkjhcdniepbhaa.P
end
section
set_option linter.unusedVariables false
set_option linter.unusedSimpArgs false
namespace Go.Proofs.Ytdkjhcdniepbhaa.P
open Go.RowKit Go.Proofs.PrintWords Go.Proofs.PrintLast Go.Proofs.PrintMore
attribute [local go_sem] max2_int min2_int max_two min_two max_three min_three max_four min_four
theorem rd52_at {l : List S39} {n : Nat} (hn : n < l.length) : rd_T39 l (n : Int) = l[n] := by unfold rd_T39; rw [List.getD_eq_getElem?_getD]; simp [hn]
theorem rd65_at {l : List S49} {n : Nat} (hn : n < l.length) : rd_T49 l (n : Int) = l[n] := by unfold rd_T49; rw [List.getD_eq_getElem?_getD]; simp [hn]
theorem rd_at {l : List Int} {n : Nat} (hn : n < l.length) : rd l (n : Int) = l[n] := by unfold rd; rw [List.getD_eq_getElem?_getD]; simp [hn]
theorem wrap_succ {n : Nat} (h : n ≤ 1000000000) : wrap64 ((n : Int) + 1) = ((n + 1 : Nat) : Int) := by unfold wrap64; omega
theorem great_l1 (l0 : List S39) (l1 : List S49) (m : Int) : ∀ (d k n : Nat), 100 ≤ n + d → n ≤ 100 → 2 * d + 2 ≤ k → ∃ b, catamaranref05_Great.l1 k m (n : Int) l0 l1 = some b ∧ (b = false → (l0.length : Int) ≤ m ∧ l1.length ≤ 100 ∧ ∀ i, n ≤ i → (hi : i < l1.length) → (l1[i]).f1.length ≤ 100)
  | d, k, n, h, h2, hk => by
    obtain ⟨k, rfl⟩ : ∃ k', k = k' + 2 := ⟨k - 2, by omega⟩
    unfold catamaranref05_Great.l1
    by_cases hn : n < l1.length
    · rw [if_pos (by omega)]
      unfold catamaranref05_Great.j3
      by_cases h100 : n < 100
      · rw [if_pos (by simp; omega), if_pos (by omega), if_pos (by omega), rd65_at hn]
        by_cases hb : ((l1[n]).f1.length : Int) > 100
        · rw [if_pos hb]
          exact ⟨true, rfl, fun h => by cases h⟩
        · rw [if_neg hb, wrap_succ (by omega)]
          obtain ⟨b, e, hbb⟩ := great_l1 l0 l1 m (d - 1) k (n + 1) (by omega) (by omega) (by omega)
          refine ⟨b, e, fun h => ?_⟩
          obtain ⟨p1, p2, p3⟩ := hbb h
          refine ⟨p1, p2, fun i hi hil => ?_⟩
          by_cases hin : i = n
          · subst hin; omega
          · exact p3 i (by omega) hil
      · rw [if_neg (by simp; omega)]
        by_cases hl : (l0.length : Int) > m
        · rw [if_pos hl]; exact ⟨true, rfl, fun h => by cases h⟩
        · rw [if_neg hl]
          exact ⟨_, rfl, fun h => by have := of_decide_eq_false h; omega⟩
    · rw [if_neg (by omega)]
      unfold catamaranref05_Great.j3
      rw [if_neg (by simp)]
      by_cases hl : (l0.length : Int) > m
      · rw [if_pos hl]; exact ⟨true, rfl, fun h => by cases h⟩
      · rw [if_neg hl]
        exact ⟨_, rfl, fun h => by have := of_decide_eq_false h; exact ⟨by omega, by omega, fun i hi hil => by omega⟩⟩
set_option maxRecDepth 20000 in
theorem great_l0 (l0 : List S39) (l1 : List S49) (m : Nat) (hm : m ≤ 1000) : ∀ (d k n : Nat), m ≤ n + d → n ≤ m → 2 * d + 204 ≤ k → ∃ b, catamaranref05_Great.l0 k (m : Int) (n : Int) l0 l1 = some b ∧ (b = false → l0.length ≤ m ∧ l1.length ≤ 100 ∧ (∀ i, n ≤ i → (hi : i < l0.length) → (l0[i]).f0.length ≤ 100) ∧ ∀ p ∈ l1, p.f1.length ≤ 100)
  | d, k, n, h, h2, hk => by
    obtain ⟨k, rfl⟩ : ∃ k', k = k' + 2 := ⟨k - 2, by omega⟩
    have hend : ∃ b, catamaranref05_Great.l1 k (m : Int) 0 l0 l1 = some b ∧ (b = false → l0.length ≤ m ∧ l1.length ≤ 100 ∧ ∀ p ∈ l1, p.f1.length ≤ 100) := by
      obtain ⟨b, e, hb⟩ := great_l1 l0 l1 m 100 k 0 (by omega) (by omega) (by omega)
      refine ⟨b, e, fun h => ?_⟩
      obtain ⟨p1, p2, p3⟩ := hb h
      refine ⟨by omega, p2, fun p hp => ?_⟩
      obtain ⟨i, hi, rfl⟩ := List.mem_iff_getElem.1 hp
      exact p3 i (by omega) hi
    unfold catamaranref05_Great.l0
    by_cases hn : n < l0.length
    · rw [if_pos (by omega)]
      unfold catamaranref05_Great.j1
      by_cases h100 : n < m
      · rw [if_pos (by simp; omega), if_pos (by omega), if_pos (by omega), rd52_at hn]
        by_cases hb : ((l0[n]).f0.length : Int) > 100
        · rw [if_pos hb]
          exact ⟨true, rfl, fun h => by cases h⟩
        · rw [if_neg hb, wrap_succ (by omega)]
          obtain ⟨b, e, hbb⟩ := great_l0 l0 l1 m hm (d - 1) k (n + 1) (by omega) (by omega) (by omega)
          refine ⟨b, e, fun h => ?_⟩
          obtain ⟨p1, p2, p3, p4⟩ := hbb h
          refine ⟨p1, p2, fun i hi hil => ?_, p4⟩
          by_cases hin : i = n
          · subst hin; omega
          · exact p3 i (by omega) hil
      · rw [if_neg (by simp; omega)]
        obtain ⟨b, e, hb⟩ := hend
        exact ⟨b, e, fun h => by obtain ⟨p1, p2, p3⟩ := hb h; exact ⟨p1, p2, fun i hi hil => by omega, p3⟩⟩
    · rw [if_neg (by omega)]
      unfold catamaranref05_Great.j1
      rw [if_neg (by simp)]
      obtain ⟨b, e, hb⟩ := great_l1 l0 l1 m 100 k 0 (by omega) (by omega) (by omega)
      refine ⟨b, e, fun h => ?_⟩
      obtain ⟨p1, p2, p3⟩ := hb h
      refine ⟨by omega, p2, fun i hi hil => by omega, fun p hp => ?_⟩
      obtain ⟨i, hi, rfl⟩ := List.mem_iff_getElem.1 hp
      exact p3 i (by omega) hi
theorem great_is (l0 : List S39) (l1 : List S49) (m : Nat) (hm : m ≤ 1000) (k : Nat) (hk : 2 * m + 204 ≤ k) : ∃ b, catamaranref05_Great.f k l0 l1 (m : Int) = some b ∧ (b = false → l0.length ≤ m ∧ l1.length ≤ 100 ∧ (∀ s ∈ l0, s.f0.length ≤ 100) ∧ ∀ p ∈ l1, p.f1.length ≤ 100) := by
  obtain ⟨b, e, hb⟩ := great_l0 l0 l1 m hm m k 0 (by omega) (by omega) hk
  refine ⟨b, e, fun h => ?_⟩
  obtain ⟨p1, p2, p3, p4⟩ := hb h
  refine ⟨p1, p2, fun p hp => ?_, p4⟩
  obtain ⟨i, hi, rfl⟩ := List.mem_iff_getElem.1 hp
  exact p3 i (by omega) hi
theorem rtwin_l1 (l0 o0 : List S39) : ∀ (m k n : Nat) (l1 : List S49), n + m = l1.length → m + 1 ≤ k → l1.length ≤ 100000 → (∀ p ∈ l1, p.f1.length ≤ 100000) → catamaranref05_Twin.l1 k (n : Int) l0 l1 o0 (l1.take n) = some (o0, l1)
  | 0, k + 1, n, l1, h, _, _, _ => by
    obtain rfl : n = l1.length := by omega
    unfold catamaranref05_Twin.l1
    rw [if_neg (by omega), List.take_length]
  | m + 1, k + 1, n, l1, h, hk, hl, hb => by
    have hn : n < l1.length := by omega
    have hx := hb l1[n] (List.getElem_mem hn)
    have ht : (l1.take n).length = n := by rw [List.length_take]; omega
    unfold catamaranref05_Twin.l1
    rw [if_pos (by omega), if_pos (by omega), Option.bind_some, rd65_at hn, if_pos (by simp; omega), if_pos (by omega), wrap_succ (by omega), ← rtwin_l1 l0 o0 m k (n + 1) l1 (by omega) (by omega) hl hb, List.take_add_one, List.getElem?_eq_getElem hn]
    rfl
theorem rtwin_l0 : ∀ (m k n : Nat) (l0 : List S39) (l1 : List S49), n + m = l0.length → m + l1.length + 2 ≤ k → l0.length ≤ 100000 → l1.length ≤ 100000 → (∀ p ∈ l0, p.f0.length ≤ 100000) → (∀ p ∈ l1, p.f1.length ≤ 100000) → catamaranref05_Twin.l0 k (n : Int) l0 l1 (l0.take n) = some (l0, l1)
  | 0, k + 1, n, l0, l1, h, hk, _, hl1, _, hb1 => by
    obtain rfl : n = l0.length := by omega
    unfold catamaranref05_Twin.l0
    rw [if_neg (by omega), List.take_length]
    exact rtwin_l1 l0 l0 l1.length k 0 l1 (by omega) (by omega) hl1 hb1
  | m + 1, k + 1, n, l0, l1, h, hk, hl, hl1, hb, hb1 => by
    have hn : n < l0.length := by omega
    have hx := hb l0[n] (List.getElem_mem hn)
    have ht : (l0.take n).length = n := by rw [List.length_take]; omega
    unfold catamaranref05_Twin.l0
    rw [if_pos (by omega), Option.bind_some, if_pos (by omega), rd52_at hn, if_pos (by simp; omega), if_pos (by omega), wrap_succ (by omega), ← rtwin_l0 m k (n + 1) l0 l1 (by omega) (by omega) hl hl1 hb hb1, List.take_add_one, List.getElem?_eq_getElem hn]
    rfl
theorem rTwin_is (k : Nat) (l0 : List S39) (l1 : List S49) (hk : l0.length + l1.length + 2 ≤ k) (hl : l0.length ≤ 100000) (hl1 : l1.length ≤ 100000) (hb : ∀ p ∈ l0, p.f0.length ≤ 100000) (hb1 : ∀ p ∈ l1, p.f1.length ≤ 100000) : catamaranref05_Twin.f k l0 l1 = some (l0, l1) := by
  unfold catamaranref05_Twin.f
  exact rtwin_l0 l0.length k 0 l0 l1 (by omega) hk hl hl1 hb hb1
theorem blank_l0 : ∀ (m k n : Nat) (b : List Int), n + m = b.length → m + 1 ≤ k → b.length ≤ 100000 → (b.take n).all (· == 0) = true → catamaranref05_blank.l0 k b (n : Int) = some (b.all (· == 0))
  | 0, k + 1, n, b, h, _, _, ht => by
    obtain rfl : n = b.length := by omega
    unfold catamaranref05_blank.l0
    rw [List.take_length] at ht
    rw [if_neg (by omega), ht]
  | m + 1, k + 1, n, b, h, hk, hl, ht => by
    have hn : n < b.length := by omega
    unfold catamaranref05_blank.l0
    rw [if_pos (by omega), if_pos (by omega), rd_at hn]
    by_cases hz : b[n] = 0
    · rw [if_pos hz, wrap_succ (by omega)]
      refine blank_l0 m k (n + 1) b (by omega) (by omega) hl ?_
      rw [List.take_succ_eq_append_getElem hn, List.all_append, ht]
      simp [hz]
    · rw [if_neg hz]
      congr 1
      symm
      rw [List.all_eq_false]
      exact ⟨b[n], List.getElem_mem hn, by simpa using hz⟩
theorem blank_is (k : Nat) (b : List Int) (hk : b.length + 1 ≤ k) (hl : b.length ≤ 100000) : catamaranref05_blank.f k b = some (b.all (· == 0)) := by
  unfold catamaranref05_blank.f
  exact blank_l0 b.length k 0 b (by omega) hk hl (by simp)
def byteL (b : List Int) : Prop := ∀ n ∈ b, 0 ≤ n ∧ n ≤ 255
theorem str_list (l : List Int) : (strOfNums l).toList = l.map fun n => UInt8.ofNat n.toNat := by
  unfold strOfNums
  simp [ByteArray.toList_eq]
theorem byte_inj {x y : Int} (hx : 0 ≤ x ∧ x ≤ 255) (hy : 0 ≤ y ∧ y ≤ 255) (h : UInt8.ofNat x.toNat = UInt8.ofNat y.toNat) : x = y := by
  have e := congrArg UInt8.toNat h
  simp only [UInt8.toNat_ofNat'] at e
  omega
theorem str_inj : ∀ {a b : List Int}, byteL a → byteL b → (strOfNums a).toList = (strOfNums b).toList → a = b := by
  intro a b
  rw [str_list, str_list]
  induction a generalizing b with
  | nil => intro _ _ h; cases b with
    | nil => rfl
    | cons y ys => simp at h
  | cons x xs ih => intro ha hb h; cases b with
    | nil => simp at h
    | cons y ys =>
      simp only [List.map_cons, List.cons.injEq] at h
      rw [byte_inj (ha x (by simp)) (hb y (by simp)) h.1, ih (fun n hn => ha n (by simp [hn])) (fun n hn => hb n (by simp [hn])) h.2]
theorem zero32_byte : byteL zero32 := by
  intro n hn
  have := List.eq_of_mem_replicate hn
  omega
theorem all_zero : ∀ (b : List Int) (n : Nat), b.length = n → (b.all (· == 0) = true ↔ b = List.replicate n 0)
  | [], n, h => by subst h; simp
  | x :: xs, n, h => by
    subst h
    have := all_zero xs xs.length rfl
    simp only [List.all_cons, Bool.and_eq_true, List.length_cons, List.replicate_succ, List.cons.injEq, this, beq_iff_eq]
theorem blank_zero {b : List Int} (hb : byteL b) (h : b.length = 32) : b.all (· == 0) = ((strOfNums b).toList == (strOfNums zero32).toList) := by
  rw [Bool.eq_iff_iff, all_zero b 32 h, beq_iff_eq]
  exact ⟨fun e => by rw [e]; rfl, fun e => str_inj hb zero32_byte e⟩
def bytesD (l0 : List S39) (l1 : List S49) : Prop := (∀ s ∈ l0, byteL s.f0) ∧ ∀ p ∈ l1, byteL p.f1
theorem may_l1 (l0 : List S39) (m : Int) : ∀ (d k n : Nat) (l1 : List S49), n + d = l1.length → d + 1 ≤ k → l1.length ≤ 100000 → (l1.take n).all (okPend m) = true → catamaranref05_May.l1 k m (n : Int) l0 l1 = some (l1.all (okPend m))
  | 0, k + 1, n, l1, h, _, _, ht => by
    obtain rfl : n = l1.length := by omega
    unfold catamaranref05_May.l1
    rw [List.take_length] at ht
    rw [if_neg (by omega), ht]
  | d + 1, k + 1, n, l1, h, hk, hl, ht => by
    have hn : n < l1.length := by omega
    have hf : okPend m l1[n] = false → l1.all (okPend m) = false := fun h => by
      rw [List.all_eq_false]
      exact ⟨l1[n], List.getElem_mem hn, by simp [h]⟩
    unfold catamaranref05_May.l1
    rw [if_pos (by omega), if_pos (by omega), rd65_at hn]
    by_cases h0 : (l1[n]).f0 < 0
    · rw [if_pos h0, hf]
      unfold okPend
      rw [decide_eq_false (by omega : ¬ 0 ≤ (l1[n]).f0)]; rfl
    · rw [if_neg h0]
      by_cases h1 : (l1[n]).f0 ≥ m
      · rw [if_pos h1, hf]
        unfold okPend
        rw [decide_eq_false (by omega : ¬ (l1[n]).f0 < m)]; simp
      · rw [if_neg h1]
        by_cases h2 : ((l1[n]).f1.length : Int) = 32
        · rw [if_pos h2, wrap_succ (by omega)]
          refine may_l1 l0 m d k (n + 1) l1 (by omega) (by omega) hl ?_
          rw [List.take_succ_eq_append_getElem hn, List.all_append, ht]
          simp only [List.all_cons, List.all_nil, Bool.and_true, Bool.true_and]
          unfold okPend okLen
          simp
          omega
        · rw [if_neg h2, hf]
          unfold okPend okLen
          have : ¬ (l1[n]).f1.length = 32 := by omega
          simp [this]
set_option maxRecDepth 20000 in
theorem may_l0 : ∀ (d k n : Nat) (l0 : List S39) (l1 : List S49), n + d = l0.length → d + l1.length + 40 ≤ k → l0.length ≤ 100000 → l1.length ≤ 100000 → bytesD l0 l1 → (l0.take n).all okSec = true → catamaranref05_May.l0 k (l0.length : Int) (n : Int) l0 l1 = some (l0.all okSec && l1.all (okPend l0.length))
  | 0, k + 1, n, l0, l1, h, hk, _, hl1, _, ht => by
    obtain rfl : n = l0.length := by omega
    unfold catamaranref05_May.l0
    rw [List.take_length] at ht
    rw [if_neg (by omega), ht, Bool.true_and]
    exact may_l1 l0 l0.length l1.length k 0 l1 (by omega) (by omega) hl1 (by simp)
  | d + 1, k + 1, n, l0, l1, h, hk, hl, hl1, hby, ht => by
    have hn : n < l0.length := by omega
    have hf : okSec l0[n] = false → l0.all okSec = false := fun h => by
      rw [List.all_eq_false]
      exact ⟨l0[n], List.getElem_mem hn, by simp [h]⟩
    have hgo : okSec l0[n] = true → catamaranref05_May.l0 k (l0.length : Int) (wrap64 ((n : Int) + 1)) l0 l1 = some (l0.all okSec && l1.all (okPend l0.length)) := fun hs => by
      rw [wrap_succ (by omega)]
      refine may_l0 d k (n + 1) l0 l1 (by omega) (by omega) hl hl1 hby ?_
      rw [List.take_succ_eq_append_getElem hn, List.all_append, ht]
      simp [hs]
    unfold catamaranref05_May.l0
    rw [if_pos (by omega), if_pos (by omega), if_pos (by omega), rd52_at hn]
    by_cases h32 : ((l0[n]).f0.length : Int) = 32
    · rw [if_pos h32]
      have h32' : (l0[n]).f0.length = 32 := by omega
      by_cases hbad : (l0[n]).f1 = true
      · rw [if_pos hbad, blank_is k _ (by omega) (by omega), Option.bind_some]
        have hz := blank_zero (hby.1 _ (List.getElem_mem hn)) h32'
        have hs : okSec l0[n] = (l0[n]).f0.all (· == 0) := by unfold okSec okLen; rw [hz, hbad]; simp [h32']
        cases hq : (l0[n]).f0.all (· == 0)
        · rw [if_neg (by simp), hf (by rw [hs, hq])]; rfl
        · rw [if_pos rfl, hgo (by rw [hs, hq])]
      · rw [if_neg hbad]
        have hbf : (l0[n]).f1 = false := by simpa using hbad
        exact hgo (by unfold okSec okLen; simp [h32', hbf])
    · rw [if_neg h32, hf]
      · rfl
      · unfold okSec okLen
        have : ¬ (l0[n]).f0.length = 32 := by omega
        simp [this]
theorem may_is (k : Nat) (hk : 1200 ≤ k) (l0 : List S39) (l1 : List S49) (hby : bytesD l0 l1) : catamaranref05_May.f k l0 l1 = some (okDisk l0 l1) := by
  obtain ⟨k, rfl⟩ : ∃ k', k = k' + 1 := ⟨k - 1, by omega⟩
  unfold catamaranref05_May.f okDisk
  by_cases h1 : (l0.length : Int) < 1
  · rw [if_pos h1]
    unfold catamaranref05_May.j0
    have : ¬ 1 ≤ l0.length := by omega
    simp [this]
  · rw [if_neg h1]
    by_cases h2 : (l0.length : Int) > 1024
    · rw [if_pos h2]
      unfold catamaranref05_May.j0
      have : ¬ l0.length ≤ 1024 := by omega
      simp [this]
    · rw [if_neg h2]
      have ej : catamaranref05_May.j0 (k + 1) (l0.length : Int) (decide ((l1.length : Int) > 64)) l0 l1 = if decide ((l1.length : Int) > 64) = true then some false else catamaranref05_May.l0 k (l0.length : Int) 0 l0 l1 := rfl
      rw [ej]
      by_cases h3 : (l1.length : Int) > 64
      · rw [if_pos (decide_eq_true h3)]
        have : ¬ l1.length ≤ 64 := by omega
        simp [this]
      · rw [if_neg (by rw [decide_eq_false h3]; exact Bool.false_ne_true)]
        have e := may_l0 l0.length k 0 l0 l1 (by omega) (by omega) (by omega) (by omega) hby (by simp)
        rw [show ((0 : Nat) : Int) = 0 from rfl] at e
        rw [e, decide_eq_true (by omega : 1 ≤ l0.length), decide_eq_true (by omega : l0.length ≤ 1024), decide_eq_true (by omega : l1.length ≤ 64)]
        simp
theorem dSame_refl (l0 : List S39) (l1 : List S49) : dSame l0 l1 l0 l1 = true := by
  unfold dSame allTo sEq pEq
  simp
end Go.Proofs.Ytdkjhcdniepbhaa.P
end
section
set_option linter.unusedVariables false
set_option linter.unusedSimpArgs false
namespace Go.Proofs.Ytdkjhcdniepbhaa.P
open Go.RowKit Go.Proofs.PrintWords Go.Proofs.PrintLast Go.Proofs.PrintMore
attribute [local go_sem] max2_int min2_int max_two min_two max_three min_three max_four min_four
def sizesOk (l : List Int) : Bool := decide (l.length ≤ 16) && l.all (fun n => decide (1 ≤ n) && decide (n ≤ 8))
def atTo (z : List Int) : Nat → Int
  | 0 => 0
  | k + 1 => atTo z k + rd z (k : Int)
def rowTo (l z : List Int) : Nat → List Int
  | 0 => []
  | k + 1 => rowTo l z k ++ beN (rd z (k : Int)).toNat (rd l (k : Int))
def fitTo (l z : List Int) : Nat → Bool
  | 0 => true
  | k + 1 => fitTo l z k && (rd l (k : Int) / 256 ^ (rd z (k : Int)).toNat == 0)
theorem sizesOk_at {z : List Int} (h : sizesOk z = true) {k : Nat} (hk : k < z.length) : 1 ≤ rd z (k : Int) ∧ rd z (k : Int) ≤ 8 := by
  simp only [sizesOk, Bool.and_eq_true, List.all_eq_true, decide_eq_true_eq] at h
  rw [rd_at hk]
  exact h.2 _ (List.getElem_mem hk)
theorem sizesOk_len {z : List Int} (h : sizesOk z = true) : z.length ≤ 16 := by
  simp only [sizesOk, Bool.and_eq_true, decide_eq_true_eq] at h
  exact h.1
theorem atTo_bound {z : List Int} (h : sizesOk z = true) : ∀ k, k ≤ z.length → (k : Int) ≤ atTo z k ∧ atTo z k ≤ 8 * k
  | 0, _ => ⟨Int.le_refl _, Int.le_refl _⟩
  | k + 1, hk => by
    have ih := atTo_bound h k (by omega)
    have hs := sizesOk_at h (show k < z.length by omega)
    unfold atTo
    omega
theorem atTo_mono {z : List Int} (h : sizesOk z = true) : ∀ d k, k + d ≤ z.length → atTo z k ≤ atTo z (k + d)
  | 0, _, _ => Int.le_refl _
  | d + 1, k, hk => by
    have ih := atTo_mono h d k (by omega)
    have hs := sizesOk_at h (show k + d < z.length by omega)
    show _ ≤ atTo z (k + d) + rd z ((k + d : Nat) : Int)
    omega
theorem rowTo_length {l z : List Int} (h : sizesOk z = true) : ∀ k, k ≤ z.length → ((rowTo l z k).length : Int) = atTo z k
  | 0, _ => rfl
  | k + 1, hk => by
    have ih := rowTo_length (l := l) h k (by omega)
    have hs := sizesOk_at h (show k < z.length by omega)
    unfold rowTo atTo
    rw [List.length_append, beN_length]
    omega
theorem size_l0 (z : List Int) (hz : z.length ≤ 16) : ∀ d k n, z.length = n + d → d < k → n ≤ z.length → (∀ j, j < n → 1 ≤ rd z (j : Int) ∧ rd z (j : Int) ≤ 8) → ∀ acc, acc = atTo z n → num_Size.l0 k acc z (z.length : Int) (n : Int) = some (if sizesOk z then (atTo z z.length, 0) else (0, 2))
  | 0, k, n, hn, hk, _, hp, acc, ha => by
    obtain ⟨k, rfl⟩ : ∃ m, k = m + 1 := ⟨k - 1, by omega⟩
    obtain rfl : n = z.length := by omega
    simp only [num_Size.l0]
    rw [if_neg (by omega), if_pos, ha]
    simp only [sizesOk, Bool.and_eq_true, List.all_eq_true, decide_eq_true_eq]
    refine ⟨hz, fun x hx => ?_⟩
    obtain ⟨i, hi, rfl⟩ := List.mem_iff_getElem.1 hx
    rw [← rd_at hi]
    exact hp i hi
  | d + 1, k, n, hn, hk, hle, hp, acc, ha => by
    obtain ⟨k, rfl⟩ : ∃ m, k = m + 1 := ⟨k - 1, by omega⟩
    have hlt : n < z.length := by omega
    have hbad : ¬ (1 ≤ rd z (n : Int) ∧ rd z (n : Int) ≤ 8) → sizesOk z = false := by
      intro h
      cases hs : sizesOk z
      · rfl
      · exact absurd (sizesOk_at hs hlt) h
    simp only [num_Size.l0]
    rw [if_pos (by omega), if_pos (by omega), if_pos (by omega)]
    by_cases h1 : rd z (n : Int) < 1
    · rw [if_pos h1, hbad (by omega)]
      rfl
    · rw [if_neg h1]
      by_cases h2 : rd z (n : Int) > 8
      · rw [if_pos h2, hbad (by omega)]
        rfl
      · rw [if_neg h2]
        have hb : ∀ m, m ≤ n → 0 ≤ atTo z m ∧ atTo z m ≤ 8 * m := by
          intro m hm
          induction m with
          | zero => exact ⟨Int.le_refl _, Int.le_refl _⟩
          | succ m ih =>
            have := ih (by omega)
            have := hp m (by omega)
            unfold atTo
            omega
        have hbn := hb n (Nat.le_refl n)
        rw [show wrap64 ((n : Int) + 1) = ((n + 1 : Nat) : Int) by unfold wrap64; omega, show wrap64 (acc + rd z (n : Int)) = atTo z (n + 1) by rw [ha]; unfold wrap64; show _ = atTo z n + rd z (n : Int); omega]
        exact size_l0 z hz d k (n + 1) (by omega) (by omega) (by omega) (fun j hj => by rcases Nat.lt_succ_iff_lt_or_eq.1 hj with h | rfl; exact hp j h; omega) _ rfl
theorem num_Size_is (z : List Int) : num_Size.f 20 z = some (if sizesOk z then (atTo z z.length, 0) else (0, 2)) := by
  unfold num_Size.f
  by_cases h : (z.length : Int) > 16
  · rw [if_pos h, if_neg]
    simp only [sizesOk, Bool.and_eq_true, decide_eq_true_eq]
    omega
  · rw [if_neg h]
    exact size_l0 z (by omega) z.length 20 0 (by omega) (by omega) (by omega) (fun j hj => by omega) 0 rfl
def hNumWrite.f (l z : List Int) : Option (List Int × Int) :=
  if sizesOk z = true ∧ l.length = z.length then (if l.all (fun x => decide (0 ≤ x)) = true then some (if fitTo l z l.length = true then (rowTo l z l.length, 0) else ([], 4)) else none) else some ([], 2)
theorem u8_block {w : World} {base b : Nat} {ok : Nat → Prop} {v : Value} {xs : List Int} (h : Kd.R (Kd.int .u8) 5 w base ok v xs) (hv : v.ownBlock = some b) : ∃ cap, v = .slice (some ⟨b, 0, none⟩) xs.length cap ∧ base ≤ b ∧ b < w.heap.size ∧ xs.length ≤ cap ∧ cap ≤ maxLen := by
  have ho := Kd.own_of_R (enc := Value.int .u8) (h1 := fun _ => rfl) h
  rcases ho.2 with ⟨e, _⟩ | ⟨g, cap, cur, e, hb, hh, h1, h2, h3, h4⟩
  · rw [e] at hv
    simp [Value.ownBlock] at hv
  · obtain rfl : g = b := by rw [e] at hv; simpa [Value.ownBlock] using hv
    exact ⟨cap, e, hb, blk_lt hh, by omega, h2⟩
theorem wrap_small {a : Int} (h0 : 0 ≤ a) (h1 : a < 9223372036854775808) : wrap64 a = a := by unfold wrap64; omega
theorem wrap_sucK {n k : Nat} (h : k < n) (hn : n ≤ 1000000) : wrap64 ((k : Int) + 1) = (k : Int) + 1 := wrap_small (by omega) (by omega)
theorem meas_lt {n k : Nat} (h : k < n) : n - (intOf (.int .i64 ((k : Int) + 1))).toNat < n - (intOf (.int .i64 (k : Int))).toNat := by simp [intOf]; omega
theorem cut3_facts {o s cap : Nat} {many : Int} (h1 : (o : Int) + (s : Int) ≤ many) (h2 : many ≤ 128) (h3 : (cap : Int) ≥ many) (hs : 1 ≤ (s : Int)) :
    wrap64 ((o : Int) + (s : Int)) = (o : Int) + (s : Int) ∧ 0 ≤ (o : Int) + (s : Int) ∧ (o : Int) + (s : Int) ≤ cap ∧ (o : Int) + (s : Int) ≤ max ((o : Int) + (s : Int)) 0 ∧ ((o : Int) + (s : Int)).toNat = o + s ∧ ¬ s = 0 :=
  ⟨wrap_small (by omega) (by omega), by omega, by omega, by omega, by omega, by omega⟩
def rowSt (l z : List Int) (many k : Nat) : List Int := rowTo l z k ++ List.replicate (many - (rowTo l z k).length) 0
theorem rowSt_length {l z : List Int} (hz : sizesOk z = true) {many k : Nat} (hm : atTo z z.length = many) (hk : k ≤ z.length) : (rowSt l z many k).length = many := by
  have h1 := rowTo_length (l := l) hz k hk
  have h2 := atTo_mono hz (z.length - k) k (by omega)
  rw [show k + (z.length - k) = z.length by omega] at h2
  unfold rowSt
  rw [List.length_append, List.length_replicate]
  omega
theorem rowSt_succ {l z : List Int} (hz : sizesOk z = true) {many k : Nat} (hm : atTo z z.length = many) (hk : k < z.length) : laidN (rowSt l z many k) (rowTo l z k).length (rd z (k : Int)).toNat (rd z (k : Int)).toNat (rd l (k : Int)) = rowSt l z many (k + 1) := by
  have h1 := rowTo_length (l := l) hz k (by omega)
  have h2 := atTo_mono hz (z.length - (k + 1)) (k + 1) (by omega)
  rw [show k + 1 + (z.length - (k + 1)) = z.length by omega] at h2
  have h3 : atTo z (k + 1) = atTo z k + rd z (k : Int) := rfl
  have hs := sizesOk_at hz hk
  unfold laidN rowSt
  rw [Nat.add_sub_cancel, List.take_left, List.drop_append, List.drop_eq_nil_of_le (by omega), List.nil_append, List.drop_replicate]
  show _ = (rowTo l z k ++ beN (rd z (k : Int)).toNat (rd l (k : Int))) ++ List.replicate (many - (rowTo l z k ++ beN (rd z (k : Int)).toNat (rd l (k : Int))).length) 0
  rw [List.length_append, beN_length, show many - (rowTo l z k).length - ((rowTo l z k).length + (rd z (k : Int)).toNat - (rowTo l z k).length) = many - ((rowTo l z k).length + (rd z (k : Int)).toNat) by omega]
theorem rowSt_end {l z : List Int} (hz : sizesOk z = true) {many : Nat} (hm : atTo z z.length = many) : rowSt l z many z.length = rowTo l z z.length := by
  have h1 := rowTo_length (l := l) hz z.length (Nat.le_refl _)
  unfold rowSt
  rw [show many - (rowTo l z z.length).length = 0 by omega]
  simp
theorem fitTo_false {l z : List Int} {k : Nat} (h : fitTo l z (k + 1) = false) : ∀ d, fitTo l z (k + 1 + d) = false
  | 0 => h
  | d + 1 => by show (fitTo l z (k + 1 + d) && _) = false; rw [fitTo_false h d]; rfl
def hNumWrite.T9 : Bool × List (List Nat × List Nat) := (true, [([], []), ([], []), ([], []), ([], []), ([], []), ([3, 4], [3, 4]), ([5], [5]), ([2, 6], [2, 6]), ([], []), ([], []), ([], []), ([9, 10], [9, 10]), ([11], [11]), ([8, 12], [8, 12]), ([0, 1, 7, 13], [0, 1, 7, 13]), ([], []), ([], []), ([15, 16], [15, 16]), ([17], [17]), ([14, 18], [14, 18]), ([19], [19])])
def hNumWrite.B9 : List Nat := [0, 0, 0, 0, 0, 24, 56, 124, 0, 0, 0, 1536, 3584, 7936, 16383, 0, 0, 98304, 229376, 524287, 1048575]
theorem hNumWrite.tab9 : rtab .any (opsOf Try.f68 9) = hNumWrite.T9 := by kernel_rfl
theorem hNumWrite.bits9 : waitsOk hNumWrite.T9.2 hNumWrite.B9 = true := by kernel_rfl
set_option maxHeartbeats 8000000 in
set_option maxRecDepth 100000 in
theorem hNumWrite.calls (A0 : Option Addr) (c0 : Nat) (l0 : List Int) (A1 : Option Addr) (c1 : Nat) (l1 : List Int) (r1 : List Int) (r2 : Int) (w : World) (hr0 : Kd.C (Kd.int .u64) w A0 l0.length l0) (hc0 : l0.length ≤ c0) (hr1 : Kd.C (Kd.int .i64) w A1 l1.length l1) (hc1 : l1.length ≤ c1) (h : hNumWrite.f l0 l1 = some (r1, r2)) :
    Calls Try.prog 68 #[.slice A0 l0.length c0, .slice A1 l1.length c1] w fun e w' => ∃ v0_ : Value, e = .returned (.tuple #[v0_, .int .i64 r2]) ∧ Kd.R (Kd.int .u8) 5 w' w.heap.size (fun _ => True) v0_ r1 ∧ Below w.heap.size w w' := by
  have HS := Aside0.mk (num_Size_is l1)
  have HR0 := Aside0.mk hr0
  have HR1 := Aside0.mk hr1
  have HC1 := Aside0.mk hc1
  clear hr0 hr1 hc1
  unfold hNumWrite.f at h
  cases hok : sizesOk l1 with
  | false =>
    rw [if_neg (by rw [hok]; simp)] at h
    injection h with h
    injection h with h1 h2
    subst h1 h2
    rw [hok] at HS
    go_enter Try.func68, Try.ntmps68
    go_wp2_with (go_at_call 98; refine (num_Size.calls 20 A1 c1 l1 0 2 _ HR1.out HC1.out HS.out).mono ?_; rintro e w1 ⟨rfl, hd⟩; have HB1 := Aside0.mk (Drawn0.below hd); clear hd)
    go_ret2
    exact ⟨_, rfl, Kd.R_nil _ _ _ _ _, HB1.out⟩
  | true =>
  rw [hok] at HS
  replace HS : Aside0 (num_Size.f 20 l1 = some (atTo l1 l1.length, 0)) := HS
  by_cases hlen : l0.length = l1.length
  rotate_left
  · rw [if_neg (fun h => hlen h.2)] at h
    injection h with h
    injection h with h1 h2
    subst h1 h2
    have hb1 : ((l0.length : Int) != (l1.length : Int)) = true := bne_iff_ne.2 (by omega)
    go_enter Try.func68, Try.ntmps68
    go_wp2_with (go_at_call 98; refine (num_Size.calls 20 A1 c1 l1 _ 0 _ HR1.out HC1.out HS.out).mono ?_; rintro e w1 ⟨rfl, hd⟩; have HB1 := Aside0.mk (Drawn0.below hd); clear hd)
    go_ret2
    exact ⟨_, rfl, Kd.R_nil _ _ _ _ _, HB1.out⟩
  rw [if_pos ⟨hok, hlen⟩] at h
  by_cases hnn : l0.all (fun x => decide (0 ≤ x)) = true
  rotate_left
  · rw [if_neg hnn] at h
    cases h
  rw [if_pos hnn] at h
  injection h with h
  have H := Aside0.mk h
  have HOK := Aside0.mk hok
  have hb1 : ((l0.length : Int) != (l1.length : Int)) = false := bne_eq_false_iff_eq.2 (by omega)
  have hmany := atTo_bound hok l1.length (Nat.le_refl _)
  have hz16 := sizesOk_len hok
  have HNN := Aside0.mk (fun (k : Nat) (hk : k < l0.length) => (show 0 ≤ rd l0 (k : Int) by rw [rd_at hk]; exact of_decide_eq_true (List.all_eq_true.1 hnn _ (List.getElem_mem hk))))
  clear h hok hnn
  obtain ⟨many, hmn⟩ : ∃ m : Nat, atTo l1 l1.length = m := Int.eq_ofNat_of_zero_le (by omega)
  rw [hmn] at HS hmany
  have HMN := Aside0.mk hmn
  clear hmn
  go_enter Try.func68, Try.ntmps68
  go_upto_block 0 with (first
    | (go_at_call 98; refine (num_Size.calls 20 A1 c1 l1 _ 0 _ HR1.out HC1.out HS.out).mono ?_; rintro e w1 ⟨rfl, hd⟩; have HB1 := Aside0.mk (Drawn0.below hd); clear hd)
    | ((with_reducible refine gate_dst (N := 26) rfl ?_); refine Kd.R_make (Kd.int .u8) (w0 := w) w.heap.size 5 rfl (N := 26) rfl 31 _ _ rfl (many : Int) rfl rfl Try.underlying31 (.int .u8 0) 1 info5 rfl (by decide) (by omega) 0 (ok := fun _ => True) (okp := fun _ => True) rfl (fun _ hk => hk) trivial (by omega) (by omega) HB1.out (below_size HB1.out) ?_; intro v2 w2 ho2 hb2 hg2 hnew2; obtain ⟨b2, hv2, hl2⟩ := hnew2; have HO2 := Aside0.mk ho2; have HB2 := Aside0.mk hb2; have HV2 := Aside0.mk hv2; clear ho2 hb2 hg2 hv2 hl2))
  obtain ⟨cap, rfl, hlo, hbl, hlc, hcm⟩ := u8_block HO2.out HV2.out
  rw [List.length_replicate] at HO2 hlc ⊢
  simp only [Int.toNat_natCast] at HO2 hlc ⊢
  clear HV2 hcm
  have HL0 := Aside0.mk hlen
  have hmn := HMN.out
  go_wp2_with fail
  go_loopw [9, 29] (fun av iv wr => ∃ k : Nat, k ≤ l1.length ∧ iv = .int .i64 k ∧ av = .int .i64 (atTo l1 k) ∧ Aside0 (fitTo l0 l1 k = true) ∧ Aside0 (Kd.R (Kd.int .u8) 5 wr w.heap.size (fun _ => True) (.slice (some ⟨b2, 0, none⟩) many cap) (rowSt l0 l1 many k)) ∧ Aside0 (Below w.heap.size w wr) ∧ b2 < wr.heap.size) (fun av iv _ => l1.length - (intOf iv).toNat)
  case atStart => exact ⟨0, Nat.zero_le _, rfl, rfl, ⟨rfl⟩, by simpa [rowSt, rowTo] using HO2, HB2, hbl⟩
  case round =>
    clear HO2 HB2 hbl
    obtain ⟨k, hk, rfl, rfl, HF, HO, HB, hbl⟩ := hrel
    by_cases hlt : k < l1.length
    · have hs := sizesOk_at HOK.out hlt
      have ha := atTo_bound HOK.out k hk
      have hmo := atTo_mono HOK.out (l1.length - (k + 1)) (k + 1) (by omega)
      rw [show k + 1 + (l1.length - (k + 1)) = l1.length by omega, hmn] at hmo
      have hmo : atTo l1 k + rd l1 (k : Int) ≤ many := hmo
      have hrl := rowTo_length (l := l0) HOK.out k hk
      have hsl := rowSt_length (l := l0) HOK.out hmn hk
      obtain ⟨ad0, rfl, hx0⟩ := Kd.at_int HR0.out (k : Int) (by omega) (by omega)
      obtain ⟨ad1, rfl, hx1⟩ := Kd.at_int HR1.out (k : Int) (by omega) (by omega)
      simp only [Int.toNat_natCast] at hx0 hx1
      have hstep : rowSt l0 l1 many (k + 1) = laidN (rowSt l0 l1 many k) (rowTo l0 l1 k).length (rd l1 (k : Int)).toNat (rd l1 (k : Int)).toNat (rd l0 (k : Int)) := (rowSt_succ HOK.out hmn hlt).symm
      have hat : atTo l1 (k + 1) = atTo l1 k + rd l1 (k : Int) := rfl
      have hfit : fitTo l0 l1 (k + 1) = (fitTo l0 l1 k && (rd l0 (k : Int) / 256 ^ (rd l1 (k : Int)).toNat == 0)) := rfl
      rw [HF.out, Bool.true_and] at hfit
      have hx0n := HNN.out k (by omega)
      generalize rd l0 (k : Int) = x at hx0 hstep hfit hx0n
      obtain ⟨o, hoe⟩ : ∃ o : Nat, atTo l1 k = o := Int.eq_ofNat_of_zero_le (by omega)
      obtain ⟨s, hse⟩ : ∃ s : Nat, rd l1 (k : Int) = s := Int.eq_ofNat_of_zero_le (by omega)
      rw [hse] at hx1 hstep hat hfit hs hmo
      rw [hoe] at ha hmo hrl hat ⊢
      have hro : (rowTo l0 l1 k).length = o := by omega
      rw [hro] at hstep
      simp only [Int.toNat_natCast] at hstep hfit
      have HSTEP := Aside0.mk hstep
      have HFIT := Aside0.mk hfit
      have HAT := Aside0.mk hat
      have HSL := Aside0.mk hsl
      have HX0N := Aside0.mk hx0n
      have HQ1 := Aside0.mk (show o + s ≤ (rowSt l0 l1 many k).length by rw [hsl]; omega)
      have HQ2 := Aside0.mk (show (rowSt l0 l1 many k).length ≤ 1000 by rw [hsl]; have := hmany.2; have := hz16; omega)
      have HQ3 := Aside0.mk (show b2 < wr.drew.heap.size from hbl)
      have HQ4 := Aside0.mk (show Kd.R (Kd.int .u8) 5 wr.drew w.heap.size (fun _ => True) (.slice (some ⟨b2, 0, none⟩) (rowSt l0 l1 many k).length cap) (rowSt l0 l1 many k) by rw [hsl]; exact Kd.R_drew HO.out)
      clear hstep hfit hat hsl hx0n hoe hse hro hrl
      have hk0' : 0 ≤ (k : Int) := by omega
      have hk1' : (k : Int) < l1.length := by omega
      obtain ⟨hw1, hA, hB, hC, hD, hF⟩ := cut3_facts (cap := cap) hmo (by have := hmany.2; have := hz16; omega) (by have := hlc; omega) hs.1
      have hl0 := World.block_lt_of_cell? w _ hx0
      have hl1 := World.block_lt_of_cell? w _ hx1
      have HSS := Aside0.mk (show ∀ W : World, Below w.heap.size w W → W.cell? (ad1.add k) = some (.int .i64 (s : Int)) ∧ W.cell? (ad0.add k) = some (.int .u64 x) from fun W hb => ⟨(hb.cell hl1).trans hx1, (hb.cell hl0).trans hx0⟩)
      clear hx0 hx1 hl0 hl1
      go_wp2_with fail
      refine start_ (n := 21) (S := fun w' => w'.cell? (ad1.add k) = some (.int .i64 (s : Int)) ∧ w'.cell? (ad0.add k) = some (.int .u64 x)) (ds := []) #[false, false, false, false, false, false, false, false, false, false, false, false, false, false, false, false, false, false, false, false, false] (by kernel_rfl) rfl rfl (by exact HSS.out _ (below_drew1 HB.out)) (fun hHeld => ?_); refine with_tabW hNumWrite.tab9 hNumWrite.bits9 (fun HT_ HW_ => ?_)
      refine pure_ (i := 0) (N := some 32) (v := ?_) (a' := ?_) #[true, false, false, false, false, false, false, false, false, false, false, false, false, false, false, false, false, false, false, false, false] rfl rfl (any_of HT_.out (by kernel_rfl)) (fun _ _ _ h => h) (Or.inl ⟨by rfl, ?_⟩) ?_ ?_
      rotate_left
      · intro w'
        go_simp
        with_reducible rfl
      rotate_left
      · simp only [Act.put, List.setIfInBounds_toArray, List.set_cons_zero, List.set_cons_succ, i64_w, i32_w]
        rfl
      refine pure_ (i := 1) (N := some 33) (v := ?_) (a' := ?_) #[true, true, false, false, false, false, false, false, false, false, false, false, false, false, false, false, false, false, false, false, false] rfl rfl (any_of HT_.out (by kernel_rfl)) (fun _ _ _ h => h) (Or.inl ⟨by rfl, ?_⟩) ?_ ?_
      rotate_left
      · intro w'
        go_simp
        with_reducible rfl
      rotate_left
      · simp only [Act.put, List.setIfInBounds_toArray, List.set_cons_zero, List.set_cons_succ, i64_w, i32_w]
        rfl
      refine pure_ (i := 2) (N := some 34) (v := ?_) (a' := ?_) #[true, true, true, false, false, false, false, false, false, false, false, false, false, false, false, false, false, false, false, false, false] rfl rfl (any_of HT_.out (by kernel_rfl)) (fun _ _ _ h => h) (Or.inl ⟨by rfl, ?_⟩) ?_ ?_
      rotate_left
      · intro w'
        go_simp
        with_reducible rfl
      rotate_left
      · simp only [Act.put, List.setIfInBounds_toArray, List.set_cons_zero, List.set_cons_succ, i64_w, i32_w]
        rfl
      refine pure_ (i := 3) (N := some 35) (v := ?_) (a' := ?_) #[true, true, true, true, false, false, false, false, false, false, false, false, false, false, false, false, false, false, false, false, false] rfl rfl (any_of HT_.out (by kernel_rfl)) (fun _ _ _ h => h) (Or.inl ⟨by rfl, ?_⟩) ?_ ?_
      rotate_left
      · intro w'
        go_simp
        with_reducible rfl
      rotate_left
      · simp only [Act.put, List.setIfInBounds_toArray, List.set_cons_zero, List.set_cons_succ, i64_w, i32_w]
        rfl
      refine pure_ (i := 4) (N := some 36) (v := ?_) (a' := ?_) #[true, true, true, true, true, false, false, false, false, false, false, false, false, false, false, false, false, false, false, false, false] rfl rfl (any_of HT_.out (by kernel_rfl)) (fun _ _ _ h => h) (Or.inl ⟨by rfl, ?_⟩) ?_ ?_
      rotate_left
      · intro w'
        go_simp
        with_reducible rfl
      rotate_left
      · simp only [Act.put, List.setIfInBounds_toArray, List.set_cons_zero, List.set_cons_succ, i64_w, i32_w]
        rfl
      refine pure_ (i := 5) (N := some 37) (v := ?_) (a' := ?_) #[true, true, true, true, true, true, false, false, false, false, false, false, false, false, false, false, false, false, false, false, false] rfl rfl (any_of HT_.out (by kernel_rfl)) (fun _ _ _ h => h) (Or.inl ⟨by rfl, ?_⟩) ?_ ?_
      rotate_left
      · intro w'
        go_simp
        with_reducible rfl
      rotate_left
      · simp only [Act.put, List.setIfInBounds_toArray, List.set_cons_zero, List.set_cons_succ, i64_w, i32_w]
        rfl
      refine take_ (i := 6) (N := some 38) (v := ?_) (a' := ?_) #[true, true, true, true, true, true, true, false, false, false, false, false, false, false, false, false, false, false, false, false, false] rfl rfl (take_ofW HT_.out HW_.out (by kernel_rfl)) (fun _ _ _ h => h) (Or.inl ⟨by rfl, ?_⟩) hHeld ?_ ?_
      rotate_left
      · rintro w' ⟨s0, s1⟩
        go_simp
        with_reducible rfl
      rotate_left
      · simp only [Act.put, List.setIfInBounds_toArray, List.set_cons_zero, List.set_cons_succ, i64_w, i32_w]
        rfl
      refine pure_ (i := 7) (N := some 39) (v := ?_) (a' := ?_) #[true, true, true, true, true, true, true, true, false, false, false, false, false, false, false, false, false, false, false, false, false] rfl rfl (any_of HT_.out (by kernel_rfl)) (fun _ _ _ h => h) (Or.inl ⟨by rfl, ?_⟩) ?_ ?_
      rotate_left
      · intro w'
        go_simp
        with_reducible rfl
      rotate_left
      · simp only [Act.put, List.setIfInBounds_toArray, List.set_cons_zero, List.set_cons_succ, i64_w, i32_w]
        rfl
      refine pure_ (i := 8) (N := some 40) (v := ?_) (a' := ?_) #[true, true, true, true, true, true, true, true, true, false, false, false, false, false, false, false, false, false, false, false, false] rfl rfl (any_of HT_.out (by kernel_rfl)) (fun _ _ _ h => h) (Or.inl ⟨by rfl, ?_⟩) ?_ ?_
      rotate_left
      · intro w'
        go_simp
        with_reducible rfl
      rotate_left
      · simp only [Act.put, List.setIfInBounds_toArray, List.set_cons_zero, List.set_cons_succ, i64_w, i32_w]
        rfl
      refine pure_ (i := 9) (N := some 41) (v := ?_) (a' := ?_) #[true, true, true, true, true, true, true, true, true, true, false, false, false, false, false, false, false, false, false, false, false] rfl rfl (any_of HT_.out (by kernel_rfl)) (fun _ _ _ h => h) (Or.inl ⟨by rfl, ?_⟩) ?_ ?_
      rotate_left
      · intro w'
        go_simp
        with_reducible rfl
      rotate_left
      · simp only [Act.put, List.setIfInBounds_toArray, List.set_cons_zero, List.set_cons_succ, i64_w, i32_w]
        rfl
      refine pure_ (i := 10) (N := some 42) (v := ?_) (a' := ?_) #[true, true, true, true, true, true, true, true, true, true, true, false, false, false, false, false, false, false, false, false, false] rfl rfl (any_of HT_.out (by kernel_rfl)) (fun _ _ _ h => h) (Or.inl ⟨by rfl, ?_⟩) ?_ ?_
      rotate_left
      · intro w'
        go_simp
        with_reducible rfl
      rotate_left
      · simp only [Act.put, List.setIfInBounds_toArray, List.set_cons_zero, List.set_cons_succ, i64_w, i32_w]
        rfl
      refine pure_ (i := 11) (N := some 43) (v := ?_) (a' := ?_) #[true, true, true, true, true, true, true, true, true, true, true, true, false, false, false, false, false, false, false, false, false] rfl rfl (any_of HT_.out (by kernel_rfl)) (fun _ _ _ h => h) (Or.inl ⟨by rfl, ?_⟩) ?_ ?_
      rotate_left
      · intro w'
        go_simp
        with_reducible rfl
      rotate_left
      · simp only [Act.put, List.setIfInBounds_toArray, List.set_cons_zero, List.set_cons_succ, i64_w, i32_w]
        rfl
      refine take_ (i := 12) (N := some 44) (v := ?_) (a' := ?_) #[true, true, true, true, true, true, true, true, true, true, true, true, true, false, false, false, false, false, false, false, false] rfl rfl (take_ofW HT_.out HW_.out (by kernel_rfl)) (fun _ _ _ h => h) (Or.inl ⟨by rfl, ?_⟩) hHeld ?_ ?_
      rotate_left
      · rintro w' ⟨s0, s1⟩
        go_simp
        with_reducible rfl
      rotate_left
      · simp only [Act.put, List.setIfInBounds_toArray, List.set_cons_zero, List.set_cons_succ, i64_w, i32_w]
        rfl
      refine pure_ (i := 13) (N := some 45) (v := ?_) (a' := ?_) #[true, true, true, true, true, true, true, true, true, true, true, true, true, true, false, false, false, false, false, false, false] rfl rfl (any_of HT_.out (by kernel_rfl)) (fun _ _ _ h => h) (Or.inl ⟨by rfl, ?_⟩) ?_ ?_
      rotate_left
      · intro w'
        go_simp
        with_reducible rfl
      rotate_left
      · simp only [Act.put, List.setIfInBounds_toArray, List.set_cons_zero, List.set_cons_succ, i64_w, i32_w]
        rfl
      refine pure_ (i := 14) (N := some 46) (v := ?_) (a' := ?_) #[true, true, true, true, true, true, true, true, true, true, true, true, true, true, true, false, false, false, false, false, false] rfl rfl (any_of HT_.out (by kernel_rfl)) (fun _ _ _ h => h) (Or.inl ⟨by rfl, ?_⟩) ?_ ?_
      rotate_left
      · intro w'
        go_simp
        with_reducible rfl
      rotate_left
      · simp only [Act.put, List.setIfInBounds_toArray, List.set_cons_zero, List.set_cons_succ, i64_w, i32_w]
        rfl
      refine pure_ (i := 15) (N := some 47) (v := ?_) (a' := ?_) #[true, true, true, true, true, true, true, true, true, true, true, true, true, true, true, true, false, false, false, false, false] rfl rfl (any_of HT_.out (by kernel_rfl)) (fun _ _ _ h => h) (Or.inl ⟨by rfl, ?_⟩) ?_ ?_
      rotate_left
      · intro w'
        go_simp
        with_reducible rfl
      rotate_left
      · simp only [Act.put, List.setIfInBounds_toArray, List.set_cons_zero, List.set_cons_succ, i64_w, i32_w]
        rfl
      refine pure_ (i := 16) (N := some 48) (v := ?_) (a' := ?_) #[true, true, true, true, true, true, true, true, true, true, true, true, true, true, true, true, true, false, false, false, false] rfl rfl (any_of HT_.out (by kernel_rfl)) (fun _ _ _ h => h) (Or.inl ⟨by rfl, ?_⟩) ?_ ?_
      rotate_left
      · intro w'
        go_simp
        with_reducible rfl
      rotate_left
      · simp only [Act.put, List.setIfInBounds_toArray, List.set_cons_zero, List.set_cons_succ, i64_w, i32_w]
        rfl
      refine pure_ (i := 17) (N := some 49) (v := ?_) (a' := ?_) #[true, true, true, true, true, true, true, true, true, true, true, true, true, true, true, true, true, true, false, false, false] rfl rfl (any_of HT_.out (by kernel_rfl)) (fun _ _ _ h => h) (Or.inl ⟨by rfl, ?_⟩) ?_ ?_
      rotate_left
      · intro w'
        go_simp
        with_reducible rfl
      rotate_left
      · simp only [Act.put, List.setIfInBounds_toArray, List.set_cons_zero, List.set_cons_succ, i64_w, i32_w]
        rfl
      refine take_ (i := 18) (N := some 50) (v := ?_) (a' := ?_) #[true, true, true, true, true, true, true, true, true, true, true, true, true, true, true, true, true, true, true, false, false] rfl rfl (take_ofW HT_.out HW_.out (by kernel_rfl)) (fun _ _ _ h => h) (Or.inl ⟨by rfl, ?_⟩) hHeld ?_ ?_
      rotate_left
      · rintro w' ⟨s0, s1⟩
        go_simp
        with_reducible rfl
      rotate_left
      · simp only [Act.put, List.setIfInBounds_toArray, List.set_cons_zero, List.set_cons_succ, i64_w, i32_w]
        rfl
      refine one_ (i := 19) (N := some 51) #[true, true, true, true, true, true, true, true, true, true, true, true, true, true, true, true, true, true, true, true, false] rfl rfl (one_of HT_.out (by kernel_rfl)) (by decide) (fun K hK => ?_)
      refine goes_ Try.func99 (by kernel_rfl) rfl #[.slice (some ⟨b2, o, none⟩) s s, .int .u64 x] (by rfl) rfl rfl (by (try simp only [List.map_toArray, List.map_cons, List.map_nil]); first | done | rfl | (simp only [List.length_drop, List.length_take]; rfl)) ?_
      refine (hDigits.calls b2 o s s cap w.heap.size (fun _ => True) (rowSt l0 l1 many k) x wr.drew HQ4.out HQ3.out HQ1.out HQ2.out HX0N.out).mono ?_
      rintro e w4 ⟨rfl, ho4, hx4⟩
      refine ⟨_, rfl, ?_⟩
      rw [HSL.out, ← HSTEP.out] at ho4
      have HO4 := Aside0.mk ho4
      have HB4 := Aside0.mk (Below.trans (below_drew1 HB.out) ((hx4.below (Nat.le_of_lt HQ3.out)).mono hlo))
      have HQ5 := Aside0.mk (show b2 < w4.heap.size from Nat.lt_of_lt_of_le HQ3.out hx4.size)
      clear ho4 hx4 hHeld
      rcases Bool.eq_false_or_eq_true (x / 256 ^ s == 0) with hft | hft
      rotate_left
      · rw [hft]
        obtain ⟨rfl, rfl⟩ : [] = r1 ∧ 4 = r2 := by
          have h := H.out
          rw [if_neg (by have e1 := fitTo_false (HFIT.out.trans hft) (l0.length - (k + 1)); rw [show k + 1 + (l0.length - (k + 1)) = l0.length from Nat.add_sub_cancel' (by rw [HL0.out]; exact hlt)] at e1; rw [e1]; simp)] at h
          simpa using h
        clear H
        refine hK.out _ _ (by exact HSS.out _ HB4.out) (fun hHeld => ?_)
        clear hK K
        refine norm_ (a' := ?_) ?_ ?_
        rotate_left
        · show Act.put _ (some 51) _ = _
          simp only [Act.put, List.setIfInBounds_toArray, List.set_cons_zero, List.set_cons_succ, i64_w, i32_w]
          rfl
        refine pure_ (i := 20) (N := some 52) (v := ?_) (a' := ?_) #[true, true, true, true, true, true, true, true, true, true, true, true, true, true, true, true, true, true, true, true, true] rfl rfl (any_of HT_.out (by kernel_rfl)) (fun _ _ _ h => h) (Or.inl ⟨by rfl, ?_⟩) ?_ ?_
        rotate_left
        · intro w'
          go_simp
          with_reducible rfl
        rotate_left
        · simp only [Act.put, List.setIfInBounds_toArray, List.set_cons_zero, List.set_cons_succ, i64_w, i32_w]
          rfl
        refine done_ (done_of HT_.out (by kernel_rfl)) ?_
        go_wp2
        go_ret2
        exact ⟨_, rfl, Kd.R_nil _ _ _ _ _, HB4.out⟩
      · rw [hft]
        have HFT := Aside0.mk hft
        clear hft
        refine hK.out _ _ (by exact HSS.out _ HB4.out) (fun hHeld => ?_)
        clear hK K
        refine norm_ (a' := ?_) ?_ ?_
        rotate_left
        · show Act.put _ (some 51) _ = _
          simp only [Act.put, List.setIfInBounds_toArray, List.set_cons_zero, List.set_cons_succ, i64_w, i32_w]
          rfl
        refine pure_ (i := 20) (N := some 52) (v := ?_) (a' := ?_) #[true, true, true, true, true, true, true, true, true, true, true, true, true, true, true, true, true, true, true, true, true] rfl rfl (any_of HT_.out (by kernel_rfl)) (fun _ _ _ h => h) (Or.inl ⟨by rfl, ?_⟩) ?_ ?_
        rotate_left
        · intro w'
          go_simp
          with_reducible rfl
        rotate_left
        · simp only [Act.put, List.setIfInBounds_toArray, List.set_cons_zero, List.set_cons_succ, i64_w, i32_w]
          rfl
        refine done_ (done_of HT_.out (by kernel_rfl)) ?_
        obtain ⟨hx1, hx0⟩ := HSS.out _ HB4.out
        clear hx0
        have hw2 : wrap64 ((k : Int) + 1) = (k : Int) + 1 := wrap_sucK hlt (Nat.le_trans hz16 (by decide))
        go_wp2
        go_roundw
        case rel => exact ⟨k + 1, hlt, congrArg (Value.int .i64) hw2, by rw [HAT.out, hw1], ⟨HFIT.out.trans HFT.out⟩, HO4, HB4, HQ5.out⟩
        case measure => rw [hw2]; exact meas_lt hlt
    · obtain rfl : k = l1.length := Nat.le_antisymm hk (Nat.le_of_not_lt hlt)
      obtain ⟨rfl, rfl⟩ : rowTo l0 l1 l1.length = r1 ∧ 0 = r2 := by
        have h := H.out
        rw [HL0.out, if_pos HF.out] at h
        simpa using h
      clear H
      go_wp2
      go_ret2
      exact ⟨_, rfl, by have h := HO.out; rw [rowSt_end HOK.out HMN.out] at h; exact h, HB.out⟩
end Go.Proofs.Ytdkjhcdniepbhaa.P
end
section
set_option linter.unusedVariables false
set_option linter.unusedSimpArgs false
namespace Go.Proofs.Ytdkjhcdniepbhaa.P
open Go.RowKit Go.Proofs.PrintWords Go.Proofs.PrintLast Go.Proofs.PrintMore
attribute [local go_sem] max2_int min2_int max_two min_two max_three min_three max_four min_four
theorem in_is (a b c : Int) : catamaranref07_in.f a b c = some (decide (b ≤ a) && decide (a ≤ c)) := by
  unfold catamaranref07_in.f
  by_cases h : a ≥ b
  · rw [if_pos h, show decide (b ≤ a) = true from decide_eq_true h, Bool.true_and]
  · rw [if_neg h, show decide (b ≤ a) = false from decide_eq_false h, Bool.false_and]
theorem okCfg_iff (p t a m w q : Int) : okCfg p t a m w q = true ↔ (1 ≤ p ∧ p ≤ 3) ∧ (1 ≤ t ∧ t ≤ 16) ∧ (1 ≤ a ∧ a ≤ 32) ∧ (1 ≤ m ∧ m ≤ p) ∧ (1 ≤ w ∧ w ≤ 4) ∧ (4 ≤ q ∧ q ≤ 64) ∧ p + 2 ≤ a := by
  simp only [okCfg, inB, List.all_cons, List.all_nil, Bool.and_true, Bool.and_eq_true, decide_eq_true_eq]
  exact ⟨fun h => ⟨h.1.1, h.1.2.1, h.1.2.2.1, h.1.2.2.2.1, h.1.2.2.2.2.1, h.1.2.2.2.2.2, h.2⟩, fun h => ⟨⟨h.1, h.2.1, h.2.2.1, h.2.2.2.1, h.2.2.2.2.1, h.2.2.2.2.2.1⟩, h.2.2.2.2.2.2⟩⟩
theorem may07_is (k : Nat) (p t a m w q : Int) : catamaranref07_May.f (k + 1) p t a m w q = some (okCfg p t a m w q) := by
  have hb : ∀ b : Bool, (okCfg p t a m w q = true ↔ b = true) → some b = some (okCfg p t a m w q) := fun b h => by
    cases b <;> cases hk : okCfg p t a m w q <;> simp_all
  unfold catamaranref07_May.f
  simp only [catamaranref07_May.j0, in_is, Option.bind_some, okCfg_iff] at hb ⊢
  by_cases h1 : 1 ≤ p ∧ p ≤ 3
  rotate_left
  · rw [if_neg (by simpa using h1), if_pos trivial]
    exact hb false (by simp; omega)
  rw [if_pos (by simpa using h1)]
  by_cases h2 : 1 ≤ t ∧ t ≤ 16
  rotate_left
  · rw [if_neg (by simpa using h2), if_pos trivial]
    exact hb false (by simp; omega)
  rw [if_pos (by simpa using h2), show wrap64 (p + 2) = p + 2 by unfold wrap64; omega]
  by_cases h3 : p + 2 ≤ a ∧ a ≤ 32
  rotate_left
  · rw [if_neg (by simpa using h3), if_pos trivial]
    exact hb false (by simp; omega)
  rw [if_pos (by simpa using h3)]
  by_cases h4 : 1 ≤ m ∧ m ≤ p
  rotate_left
  · rw [if_pos (by simp; omega)]
    exact hb false (by simp; omega)
  rw [if_neg (by simp; omega)]
  by_cases h5 : 1 ≤ w ∧ w ≤ 4
  rotate_left
  · rw [if_neg (by simpa using h5)]
    exact hb false (by simp; omega)
  rw [if_pos (by simpa using h5)]
  exact hb _ (by simp; omega)
theorem pgs_bound (t : Int) : 1 ≤ pgs t ∧ pgs t ≤ 2 := by unfold pgs; split <;> omega
theorem many07_is (p t a m w q : Int) : catamaranref07_Many.f p t a m w q = some (pgs t) := by
  unfold catamaranref07_Many.f pgs
  by_cases h : t > 8
  · rw [if_pos h, if_neg (by omega)]
  · rw [if_neg h, if_pos (by omega)]
theorem mul_bound {a b c d : Int} (ha : 0 ≤ a) (hb : a ≤ c) (hc : 0 ≤ b) (hd : b ≤ d) : 0 ≤ a * b ∧ a * b ≤ c * d := ⟨Int.mul_nonneg ha hc, Int.mul_le_mul hb hd hc (by omega)⟩
theorem first_is {p t a m w q : Int} (h : okCfg p t a m w q = true) : catamaranref07_first.f p t a m w q = some (2, 2 + 2 * a, 2 + 2 * a + p * pgs t, nSec p t a) := by
  have hc := (okCfg_iff p t a m w q).1 h
  have hp := pgs_bound t
  unfold catamaranref07_first.f
  rw [many07_is, Option.bind_some]
  have h1 := mul_bound (a := p) (b := pgs t) (c := 3) (d := 2) (by omega) (by omega) (by omega) (by omega)
  have h2 := mul_bound (a := p) (b := t) (c := 3) (d := 16) (by omega) (by omega) (by omega) (by omega)
  have e2 : 4 * p * t = 4 * (p * t) := Int.mul_assoc ..
  rw [wrap_small (a := 2 * a) (by omega) (by omega), wrap_small (a := 2 + 2 * a) (by omega) (by omega), wrap_small (a := p * pgs t) (by omega) (by omega), wrap_small (a := 4 * p) (by omega) (by omega), wrap_small (a := 4 * p * t) (by omega) (by omega), wrap_small (a := 2 + 2 * a + p * pgs t) (by omega) (by omega), wrap_small (by omega) (by omega), e2]
  rfl
def okSite (p t a m w q : Int) (l0 : List S39) (l1 : List S49) : Bool := okCfg p t a m w q && decide ((l0.length : Int) = nSec p t a) && okDisk l0 l1
theorem may08_is (k : Nat) (hk : 1200 ≤ k) (p t a m w q : Int) (l0 : List S39) (l1 : List S49) (hby : bytesD l0 l1) : catamaranref08_May.f k p t a m w q l0 l1 = some (okSite p t a m w q l0 l1) := by
  obtain ⟨k, rfl⟩ : ∃ m, k = m + 1 := ⟨k - 1, by omega⟩
  unfold catamaranref08_May.f okSite
  rw [may07_is, Option.bind_some]
  cases h : okCfg p t a m w q
  · rfl
  · rw [if_pos rfl]
    unfold catamaranref07_Size.f
    rw [first_is h, Option.bind_some, Option.bind_some]
    by_cases hl : (l0.length : Int) = nSec p t a
    · rw [if_pos hl, may_is (k + 1) hk l0 l1 hby, Option.bind_some, decide_eq_true hl]
      simp
    · rw [if_neg hl, decide_eq_false hl]
      simp
theorem tCheck_is (p t a m w q : Int) (l0 : List S39) (l1 : List S49) : track_Check.f p t a m w q l0 l1 = some (if okSite p t a m w q l0 l1 = true then 0 else 8) := by
  unfold track_Check.f hSectors.f okSite
  rw [Option.bind_some]
  cases h : okCfg p t a m w q
  · rfl
  · simp only [if_true, Bool.true_and]
    by_cases hl : (l0.length : Int) = nSec p t a
    · rw [if_pos hl, decide_eq_true hl]
      unfold hCheck.f
      simp
    · rw [if_neg hl, decide_eq_false hl]
      simp
end Go.Proofs.Ytdkjhcdniepbhaa.P
end
section
set_option linter.unusedVariables false
set_option linter.unusedSimpArgs false
namespace Go.Proofs.Ytdkjhcdniepbhaa.P
open Go.RowKit Go.Proofs.PrintWords Go.Proofs.PrintLast Go.Proofs.PrintMore
attribute [local go_sem] max2_int min2_int max_two min_two max_three min_three max_four min_four
mutual
def journal_Text.j0 : Nat → Int → Int → List Int → Bool → Option (List Int × Int)
  | 0, _, _, _, _ => none
  | k + 1, x0, x1, x2, x17 => if x17 = true then (some (([] : List Int), 4)) else (if x1 < 0 then (journal_Text.j1 k x0 x1 x2 true) else (journal_Text.j1 k x0 x1 x2 (decide (x1 > 255))))
def journal_Text.j1 : Nat → Int → Int → List Int → Bool → Option (List Int × Int)
  | 0, _, _, _, _ => none
  | k + 1, x0, x1, x2, x23 => if x23 = true then (some (([] : List Int), 2)) else ((journal_head.f).bind fun t246 => ((hNumWrite.f (([x0, 1, IntKind.u64.wrap (x1), IntKind.u64.wrap ((x2.length : Int)), 0] : List Int)) t246).bind fun bt249 => (if bt249.1.length + x2.length < 140737488355328 then ((some (bt249.1 ++ x2 : List Int)).bind fun y253 => (if 0 ≤ (wrap64 (20 - (x2.length : Int))) then (if y253.length + (wrap64 (20 - (x2.length : Int)) : Int).toNat < 140737488355328 then (some ((y253 ++ List.replicate (wrap64 (20 - (x2.length : Int)) : Int).toNat 0), 0)) else (none)) else (none))) else (none))))
end
def journal_Text.f (k : Nat) (a0 : Int) (a1 : Int) (l2 : List Int) : Option (List Int × Int) := if (l2.length : Int) < 1 then (journal_Text.j0 k a0 a1 l2 true) else (journal_Text.j0 k a0 a1 l2 (decide ((l2.length : Int) > 20)))
theorem journal_Text.mono_l : ∀ k, (∀ y0 y1 y2 y3, LeO (journal_Text.j0 k y0 y1 y2 y3) (journal_Text.j0 (k + 1) y0 y1 y2 y3)) ∧ (∀ y0 y1 y2 y3, LeO (journal_Text.j1 k y0 y1 y2 y3) (journal_Text.j1 (k + 1) y0 y1 y2 y3))
  | 0 => ⟨fun _ _ _ _ r h => by simp [journal_Text.j0] at h, fun _ _ _ _ r h => by simp [journal_Text.j1] at h⟩
  | k + 1 => by
    obtain ⟨ih0, ih1⟩ := journal_Text.mono_l k
    refine ⟨?_, ?_⟩
    · intro y0 y1 y2 y3
      unfold journal_Text.j0
      repeat' first
      | (with_reducible exact ih0 _ _ _ _)
      | (with_reducible exact ih1 _ _ _ _)
      | (with_reducible exact LeO.refl _)
      | (with_reducible exact LeO.none _)
      | (with_reducible refine LeO.ite ?_ ?_)
      | (with_reducible refine LeO.bind ?_ (fun _ => ?_))
      | exact ih0 _ _ _ _
      | exact ih1 _ _ _ _
      | exact LeO.none _
      | refine LeO.ite ?_ ?_
      | refine LeO.bind ?_ (fun _ => ?_)
    · intro y0 y1 y2 y3
      unfold journal_Text.j1
      repeat' first
      | (with_reducible exact ih0 _ _ _ _)
      | (with_reducible exact ih1 _ _ _ _)
      | (with_reducible exact LeO.refl _)
      | (with_reducible exact LeO.none _)
      | (with_reducible refine LeO.ite ?_ ?_)
      | (with_reducible refine LeO.bind ?_ (fun _ => ?_))
      | exact ih0 _ _ _ _
      | exact ih1 _ _ _ _
      | exact LeO.none _
      | refine LeO.ite ?_ ?_
      | refine LeO.bind ?_ (fun _ => ?_)
theorem journal_Text.mono : ∀ a0 a1 a2 k, LeO (journal_Text.f k a0 a1 a2) (journal_Text.f (k + 1) a0 a1 a2) := by
  intro a0 a1 a2 k
  obtain ⟨ih0, ih1⟩ := journal_Text.mono_l k
  unfold journal_Text.f
  repeat' first
      | (with_reducible exact ih0 _ _ _ _)
      | (with_reducible exact ih1 _ _ _ _)
      | (with_reducible exact LeO.refl _)
      | (with_reducible exact LeO.none _)
      | (with_reducible refine LeO.ite ?_ ?_)
      | (with_reducible refine LeO.bind ?_ (fun _ => ?_))
      | exact ih0 _ _ _ _
      | exact ih1 _ _ _ _
      | exact LeO.none _
      | refine LeO.ite ?_ ?_
      | refine LeO.bind ?_ (fun _ => ?_)
set_option maxHeartbeats 8000000 in
set_option maxRecDepth 100000 in
theorem journal_Text.calls (k : Nat) (a0 : Int) (a1 : Int) (A2 : Option Addr) (c2 : Nat) (l2 : List Int) (r1 : List Int) (r2 : Int) (w : World) (hr2 : Kd.C (Kd.int .u8) w A2 l2.length l2) (hc2 : l2.length ≤ c2) (h : journal_Text.f k a0 a1 l2 = some (r1, r2)) :
    Calls Try.prog 28 #[.int .u64 a0, .int .i64 a1, .slice A2 l2.length c2] w fun e w' => ∃ v0_ : Value, e = .returned (.tuple #[v0_, .int .i64 r2]) ∧ Kd.R (Kd.int .u8) 5 w' w.heap.size (fun _ => True) v0_ r1 ∧ Below w.heap.size w w' := by
  have HR2 := Aside0.mk hr2
  have HC2 := Aside0.mk hc2
  clear hr2 hc2
  have HB := Aside0.mk (Below.refl w.heap.size w)
  have H : (if (l2.length : Int) < 1 then (journal_Text.j0 k a0 a1 l2 true) else (journal_Text.j0 k a0 a1 l2 (decide ((l2.length : Int) > 20)))) = some (r1, r2) := h
  clear h
  have HC4 := Aside0.mk H
  clear H
  go_enter Try.func28, Try.ntmps28
  go_upto_region 1 with (fail)
  go_cut [17] (fun v17 wc => ∃ (kq : Nat) (x17_3 : Bool), v17 = .bool x17_3 ∧ Aside0 (journal_Text.j0 kq a0 a1 l2 x17_3 = some (r1, r2)) ∧ Aside0 (kq ≤ k) ∧ Aside0 (Below w.heap.size w wc))
  case first =>
    have H := HC4.out
    clear HC4
    by_cases c5 : (l2.length : Int) < 1
    · rw [if_pos c5] at H
      have c5b0 : decide ((l2.length : Int) < 1) = true := decide_eq_true c5
      have c5b1 : decide (l2.length < 1) = true := decide_eq_true (by omega)
      clear c5
      (first | rw [c5b0] | (simp only [i64_w, i32_w]; rw [c5b0]) | skip)
      have H' := Aside0.mk H
      clear H
      go_wp2
      go_meet
      case rel => exact ⟨_, (true), (by first | rfl | (simp; done) | (simp [*]; done)), H', ⟨by first | omega | exact Nat.le_refl _⟩, ⟨by repeat (first | (with_reducible first | exact HB.out | apply below_alloc | apply pw_below_drewN | apply below_drew1) | exact HB.out)⟩⟩
    · rw [if_neg c5] at H
      have c5b0 : decide ((l2.length : Int) < 1) = false := decide_eq_false c5
      have c5b1 : decide (l2.length < 1) = false := decide_eq_false (by omega)
      clear c5
      (first | rw [c5b0] | (simp only [i64_w, i32_w]; rw [c5b0]) | skip)
      have H' := Aside0.mk H
      clear H
      go_wp2
      go_meet
      case rel => exact ⟨_, (decide ((l2.length : Int) > 20)), (by first | rfl | (simp; done) | (simp [*]; done)), H', ⟨by first | omega | exact Nat.le_refl _⟩, ⟨by repeat (first | (with_reducible first | exact HB.out | apply below_alloc | apply pw_below_drewN | apply below_drew1) | exact HB.out)⟩⟩
  case rest =>
    clear HC4
    try clear c2
    try clear p2
    try clear c5
    try clear c5b0
    try clear c5b1
    obtain ⟨kq, x17_3, rfl, HA, HJ3, HB⟩ := hcut
    cases kq with
    | zero => exact absurd HA.out (by simp [journal_Text.j0])
    | succ kj3 =>
      have H := HA.out
      clear HA
      simp only [journal_Text.j0] at H
      by_cases c6 : x17_3 = true
      · subst c6
        have H1 : (some (([] : List Int), 4)) = some (r1, r2) := by rw [if_pos rfl] at H; exact H
        clear H
        have H := H1
        clear H1
        simp only [Option.some.injEq, Prod.mk.injEq] at H
        obtain ⟨rfl, rfl⟩ := H
        go_wp2
        go_ret2
        exact ⟨_, by first | rfl | (simp [errW_none, errW_some] <;> rfl) | (simp [*, errW_none, errW_some] <;> rfl), by first | exact Kd.R_nil _ _ _ _ _ | exact Kd.N_nil _ _ _ _ _ | exact Kd.V_nil _ _ _ _ _ | exact Kd.Q_nil _ _ _ _ _ | exact Kd.S_nil _ _ _ _ _, by repeat (first | (with_reducible first | exact HB.out | apply below_alloc | apply pw_below_drewN | apply below_drew1) | exact HB.out)⟩
      · replace c6 := Bool.eq_false_iff.mpr c6
        subst c6
        have H1 : (if a1 < 0 then (journal_Text.j1 kj3 a0 a1 l2 true) else (journal_Text.j1 kj3 a0 a1 l2 (decide (a1 > 255)))) = some (r1, r2) := by rw [if_neg (show ¬ (false = true) by decide)] at H; exact H
        clear H
        have H := H1
        clear H1
        have HC7 := Aside0.mk H
        clear H
        go_upto_region 3 with (fail)
        go_cut [23] (fun v23 wc => ∃ (kq : Nat) (x23_6 : Bool), v23 = .bool x23_6 ∧ Aside0 (journal_Text.j1 kq a0 a1 l2 x23_6 = some (r1, r2)) ∧ Aside0 (kq ≤ kj3) ∧ Aside0 (Below w.heap.size w wc))
        case first =>
          have H := HC7.out
          clear HC7
          by_cases c8 : a1 < 0
          · rw [if_pos c8] at H
            have c8b0 : decide (a1 < 0) = true := decide_eq_true c8
            clear c8
            (first | rw [c8b0] | (simp only [i64_w, i32_w]; rw [c8b0]) | skip)
            have H' := Aside0.mk H
            clear H
            go_wp2
            go_meet
            case rel => exact ⟨_, (true), (by first | rfl | (simp; done) | (simp [*]; done)), H', ⟨by have := HJ3.out; first | omega | exact Nat.le_refl _⟩, ⟨by repeat (first | (with_reducible first | exact HB.out | apply below_alloc | apply pw_below_drewN | apply below_drew1) | exact HB.out)⟩⟩
          · rw [if_neg c8] at H
            have c8b0 : decide (a1 < 0) = false := decide_eq_false c8
            clear c8
            (first | rw [c8b0] | (simp only [i64_w, i32_w]; rw [c8b0]) | skip)
            have H' := Aside0.mk H
            clear H
            go_wp2
            go_meet
            case rel => exact ⟨_, (decide (a1 > 255)), (by first | rfl | (simp; done) | (simp [*]; done)), H', ⟨by have := HJ3.out; first | omega | exact Nat.le_refl _⟩, ⟨by repeat (first | (with_reducible first | exact HB.out | apply below_alloc | apply pw_below_drewN | apply below_drew1) | exact HB.out)⟩⟩
        case rest =>
          clear HC7
          try clear c2
          try clear p2
          try clear c5
          try clear c5b0
          try clear c5b1
          try clear c6
          try clear c8
          try clear c8b0
          try clear p2
          obtain ⟨kq, x23_6, rfl, HA, HJ6, HB⟩ := hcut
          cases kq with
          | zero => exact absurd HA.out (by simp [journal_Text.j1])
          | succ kj6 =>
            have H := HA.out
            clear HA
            simp only [journal_Text.j1] at H
            by_cases c9 : x23_6 = true
            · subst c9
              have H1 : (some (([] : List Int), 2)) = some (r1, r2) := by rw [if_pos rfl] at H; exact H
              clear H
              have H := H1
              clear H1
              simp only [Option.some.injEq, Prod.mk.injEq] at H
              obtain ⟨rfl, rfl⟩ := H
              go_wp2
              go_ret2
              exact ⟨_, by first | rfl | (simp [errW_none, errW_some] <;> rfl) | (simp [*, errW_none, errW_some] <;> rfl), by first | exact Kd.R_nil _ _ _ _ _ | exact Kd.N_nil _ _ _ _ _ | exact Kd.V_nil _ _ _ _ _ | exact Kd.Q_nil _ _ _ _ _ | exact Kd.S_nil _ _ _ _ _, by repeat (first | (with_reducible first | exact HB.out | apply below_alloc | apply pw_below_drewN | apply below_drew1) | exact HB.out)⟩
            · replace c9 := Bool.eq_false_iff.mpr c9
              subst c9
              have H1 : ((journal_head.f).bind fun t246 => ((hNumWrite.f (([a0, 1, IntKind.u64.wrap (a1), IntKind.u64.wrap ((l2.length : Int)), 0] : List Int)) t246).bind fun bt249 => (if bt249.1.length + l2.length < 140737488355328 then ((some (bt249.1 ++ l2 : List Int)).bind fun y253 => (if 0 ≤ (wrap64 (20 - (l2.length : Int))) then (if y253.length + (wrap64 (20 - (l2.length : Int)) : Int).toNat < 140737488355328 then (some ((y253 ++ List.replicate (wrap64 (20 - (l2.length : Int)) : Int).toNat 0), 0)) else (none)) else (none))) else (none)))) = some (r1, r2) := by rw [if_neg (show ¬ (false = true) by decide)] at H; exact H
              clear H
              have H := H1
              clear H1
              obtain ⟨y243, hy243⟩ : ∃ y_ : List Int, y_ = (([a0, 1, IntKind.u64.wrap (a1), IntKind.u64.wrap ((l2.length : Int)), 0] : List Int)) := ⟨_, rfl⟩
              replace H : ((journal_head.f).bind fun t246 => ((hNumWrite.f y243 t246).bind fun bt249 => (if bt249.1.length + l2.length < 140737488355328 then ((some (bt249.1 ++ l2 : List Int)).bind fun y253 => (if 0 ≤ (wrap64 (20 - (l2.length : Int))) then (if y253.length + (wrap64 (20 - (l2.length : Int)) : Int).toNat < 140737488355328 then (some ((y253 ++ List.replicate (wrap64 (20 - (l2.length : Int)) : Int).toNat 0), 0)) else (none)) else (none))) else (none)))) = some (r1, r2) := by first | (rw [hy243]; with_reducible exact H) | (have H2_ := (Option.bind_some _ _).symm.trans H; rw [hy243]; with_reducible exact H2_) | (have H2_ := (Option.bind_some _ _).symm.trans H; with_reducible exact H2_) | with_reducible exact H | (rw [hy243]; exact H) | exact H
              have Ny243 := Aside0.mk hy243
              clear hy243
              replace H := Option.bind_eq_some_iff.mp H
              obtain ⟨t246, A100, H⟩ := H
              replace H : ((hNumWrite.f y243 t246).bind fun bt249 => (if bt249.1.length + l2.length < 140737488355328 then ((some (bt249.1 ++ l2 : List Int)).bind fun y253 => (if 0 ≤ (wrap64 (20 - (l2.length : Int))) then (if y253.length + (wrap64 (20 - (l2.length : Int)) : Int).toNat < 140737488355328 then (some ((y253 ++ List.replicate (wrap64 (20 - (l2.length : Int)) : Int).toNat 0), 0)) else (none)) else (none))) else (none))) = some (r1, r2) := H
              have A10 := Aside0.mk A100
              clear A100
              replace H := Option.bind_eq_some_iff.mp H
              obtain ⟨⟨t249, t250⟩, A110, H⟩ := H
              replace H : (if t249.length + l2.length < 140737488355328 then ((some (t249 ++ l2 : List Int)).bind fun y253 => (if 0 ≤ (wrap64 (20 - (l2.length : Int))) then (if y253.length + (wrap64 (20 - (l2.length : Int)) : Int).toNat < 140737488355328 then (some ((y253 ++ List.replicate (wrap64 (20 - (l2.length : Int)) : Int).toNat 0), 0)) else (none)) else (none))) else (none)) = some (r1, r2) := H
              have A11 := Aside0.mk A110
              clear A110
              by_cases c12 : t249.length + l2.length < 140737488355328
              · rw [if_pos c12] at H
                have LMc12 := Aside0.mk c12
                clear c12
                obtain ⟨y253, hy253⟩ : ∃ y_ : List Int, y_ = (t249 ++ l2) := ⟨_, rfl⟩
                replace H : (if 0 ≤ (wrap64 (20 - (l2.length : Int))) then (if y253.length + (wrap64 (20 - (l2.length : Int)) : Int).toNat < 140737488355328 then (some ((y253 ++ List.replicate (wrap64 (20 - (l2.length : Int)) : Int).toNat 0), 0)) else (none)) else (none)) = some (r1, r2) := by first | (rw [hy253]; with_reducible exact H) | (have H2_ := (Option.bind_some _ _).symm.trans H; rw [hy253]; with_reducible exact H2_) | (have H2_ := (Option.bind_some _ _).symm.trans H; with_reducible exact H2_) | with_reducible exact H | (rw [hy253]; exact H) | exact H
                have Ny253 := Aside0.mk hy253
                clear hy253
                obtain ⟨ji13, hji13⟩ : ∃ j_ : Int, (wrap64 (20 - (l2.length : Int))) = j_ := ⟨_, rfl⟩
                replace H : (if 0 ≤ (ji13) then (if y253.length + (ji13 : Int).toNat < 140737488355328 then (some ((y253 ++ List.replicate (ji13 : Int).toNat 0), 0)) else (none)) else (none)) = some (r1, r2) := by first | (rw [hji13] at H; exact H) | (simp only [hji13] at H ⊢; exact H)
                (try rw [hji13] at A10)
                (try rw [hji13] at A11)
                have hji13w : (IntKind.i64.wrap (20 - (l2.length : Int))) = ji13 := (i64_w _).trans hji13
                by_cases c14 : 0 ≤ (ji13)
                · rw [if_pos c14] at H
                  have c14b0 := eq_true c14
                  have c14b1 : decide (0 ≤ (ji13)) = true := decide_eq_true c14
                  clear c14
                  by_cases c15 : y253.length + (ji13 : Int).toNat < 140737488355328
                  · rw [if_pos c15] at H
                    have LMc15 := Aside0.mk c15
                    clear c15
                    obtain ⟨y256, hy256⟩ : ∃ y_ : List Int, y_ = (y253 ++ List.replicate (ji13 : Int).toNat 0) := ⟨_, rfl⟩
                    replace H : (some (y256, 0)) = some (r1, r2) := by first | (rw [hy256]; with_reducible exact H) | (have H2_ := (Option.bind_some _ _).symm.trans H; rw [hy256]; with_reducible exact H2_) | (have H2_ := (Option.bind_some _ _).symm.trans H; with_reducible exact H2_) | with_reducible exact H | (rw [hy256]; exact H) | exact H
                    have Ny256 := Aside0.mk hy256
                    clear hy256
                    simp only [Option.some.injEq, Prod.mk.injEq] at H
                    obtain ⟨rfl, rfl⟩ := H
                    go_wp2_with (first | ((with_reducible refine gate_dst (N := 31) rfl ?_); refine Kd.R_lit (Kd.int .u64) _ 45 ?hg (N := 31) ?hd (xs := ([a0, 1, IntKind.u64.wrap (a1), IntKind.u64.wrap ((l2.length : Int)), 0] : List Int)) (inner := [.int .u64 a0, .int .u64 1, .int .u64 (IntKind.u64.wrap (a1)), .int .u64 (IntKind.u64.wrap ((l2.length : Int))), .int .u64 0]) (ok := fun _ => True) (okp := fun _ => True) ?hr ?hp (fun _ hk => hk) trivial (Below.refl _ _) (Nat.le_refl _) (by simp) ?_; (case hd => rfl); (case hg => rfl); (case hr => first | (go_simp; done) | (go_simp; rfl)); (case hp => exact (Reps.one (show Kd.M (Kd.int .u64) _ _ _ a0 [.int .u64 a0] from rfl) (Reps.one (show Kd.M (Kd.int .u64) _ _ _ 1 [.int .u64 1] from rfl) (Reps.one (show Kd.M (Kd.int .u64) _ _ _ (IntKind.u64.wrap (a1)) [.int .u64 (IntKind.u64.wrap (a1))] from rfl) (Reps.one (show Kd.M (Kd.int .u64) _ _ _ (IntKind.u64.wrap ((l2.length : Int))) [.int .u64 (IntKind.u64.wrap ((l2.length : Int)))] from rfl) (Reps.one (show Kd.M (Kd.int .u64) _ _ _ 0 [.int .u64 0] from rfl) (Reps.none _ _))))))); intro v244 w16 ho17 hb hg_ hnew_; clear hg_ hnew_; (first | rw [← Ny243.out] at ho17 | (simp only [Int.reduceToNat] at ho17; rw [← Ny243.out] at ho17)); have n0_ := Aside0.mk (Kd.R_lower ho17 (below_size (by repeat (first | (with_reducible first | exact HB.out | apply below_alloc | apply pw_below_drewN | apply below_drew1) | exact HB.out)))); have n1_ := Aside0.mk (below_step (by repeat (first | (with_reducible first | exact HB.out | apply below_alloc | apply pw_below_drewN | apply below_drew1) | exact HB.out)) hb); clear HB; have HO245 := n0_; have HB := n1_; clear n0_ n1_; clear hb ho17) | ((with_reducible refine gate_callee (f := 69) rfl ?_); refine goesL_ (some 32) rfl rfl Try.func69 (by kernel_rfl) rfl #[] rfl (by (try simp only [List.map_toArray, List.map_cons, List.map_nil]); first | done | rfl | (simp only [List.length_drop, List.length_take]; rfl)) ?_; (with_reducible refine (journal_head.calls  t246 _ A10.out).mono ?_); rintro e w18 ⟨v247, rfl, ho0, hb⟩; refine ⟨_, rfl, ?_⟩; have n0_ := Aside0.mk (Kd.R_below (by (with_reducible repeat (first | apply Kd.R_alloc | apply Kd.R_drewN | apply Kd.R_drew)); exact HO245.out) hb); have n1_ := Aside0.mk (Kd.R_lower ho0 (below_size (by repeat (first | (with_reducible first | exact HB.out | apply below_alloc | apply pw_below_drewN | apply below_drew1) | exact HB.out)))); have n2_ := Aside0.mk (below_step (by repeat (first | (with_reducible first | exact HB.out | apply below_alloc | apply pw_below_drewN | apply below_drew1) | exact HB.out)) hb); clear HO245; clear HB; have HO245 := n0_; have HO248 := n1_; have HB := n2_; clear n0_ n1_ n2_; (try clear hb); (try clear hb2); (try clear hk); (try clear hi); (try clear ho0); obtain ⟨Ao19, co19, eo19⟩ := Kd.R_slice HO245.out; subst eo19; obtain ⟨Ao20, co20, eo20⟩ := Kd.R_slice HO248.out; subst eo20) | ((with_reducible refine gate_callee (f := 68) rfl ?_); refine goesL_ (some 33) rfl rfl Try.func68 (by kernel_rfl) rfl #[.slice Ao19 y243.length co19, .slice Ao20 t246.length co20] rfl (by (try simp only [List.map_toArray, List.map_cons, List.map_nil]); first | done | rfl | (simp only [List.length_drop, List.length_take]; rfl)) ?_; (with_reducible refine (hNumWrite.calls _ _ y243 _ _ t246 t249 t250 _ ?side1 ?side2 ?side3 ?side4 A11.out).mono ?_); (case side1 => repeat (first | exact (Kd.R_reads' HO245.out).2.2 | (with_reducible refine Kd.C_alloc ?_ _) | (with_reducible refine Kd.C_drewN ?_ _) | (with_reducible refine Kd.C_drew ?_))); (case side2 => exact (Kd.R_reads' HO245.out).2.1); (case side3 => repeat (first | exact (Kd.R_reads' HO248.out).2.2 | (with_reducible refine Kd.C_alloc ?_ _) | (with_reducible refine Kd.C_drewN ?_ _) | (with_reducible refine Kd.C_drew ?_))); (case side4 => exact (Kd.R_reads' HO248.out).2.1); rintro e w21 ⟨v251, rfl, ho0, hb⟩; refine ⟨_, rfl, ?_⟩; have n0_ := Aside0.mk (Kd.R_below (by (with_reducible repeat (first | apply Kd.R_alloc | apply Kd.R_drewN | apply Kd.R_drew)); exact HO245.out) hb); have n1_ := Aside0.mk (Kd.R_below (by (with_reducible repeat (first | apply Kd.R_alloc | apply Kd.R_drewN | apply Kd.R_drew)); exact HO248.out) hb); have n2_ := Aside0.mk (Kd.R_lower ho0 (below_size (by repeat (first | (with_reducible first | exact HB.out | apply below_alloc | apply pw_below_drewN | apply below_drew1) | exact HB.out)))); have n3_ := Aside0.mk (below_step (by repeat (first | (with_reducible first | exact HB.out | apply below_alloc | apply pw_below_drewN | apply below_drew1) | exact HB.out)) hb); clear HO245; clear HO248; clear HB; have HO245 := n0_; have HO248 := n1_; have HO252 := n2_; have HB := n3_; clear n0_ n1_ n2_ n3_; (try clear hb); (try clear hb2); (try clear hk); (try clear hi); (try clear ho0)) | ((with_reducible refine gate_builtin (b := .append) (xs := #[.tmp 36, .tmp 37]) rfl ?_); at_builtin; refine Kd.R_append_rows (Kd.int .u8) (w0 := w) w.heap.size rfl (.tmp 36) (.tmp 37) 31 5 (.int .u8 0) 1 rfl Try.underlying31 info5 rfl (by decide) (by omega) v251 t249 l2 _ _ _ (fun _ => True) (fun _ => False) rfl rfl ?aO ?aR (fun _ _ h => h) (fun _ h => h.elim) ?aF ?aB ?aS ?aL ?_; (case aR => repeat (first | exact (Kd.C_below HR2.out HB.out) | (with_reducible refine Kd.C_alloc ?_ _) | (with_reducible refine Kd.C_drewN ?_ _) | (with_reducible refine Kd.C_drew ?_))); (case aB => exact (by repeat (first | (with_reducible first | exact HB.out | apply below_alloc | apply pw_below_drewN | apply below_drew1) | exact HB.out))); (case aF => exact (fun _ _ => trivial)); (case aO => exact (by (with_reducible repeat (first | apply Kd.R_alloc | apply Kd.R_drewN | apply Kd.R_drew)); exact HO252.out)); (case aS => exact (below_size (by repeat (first | (with_reducible first | exact HB.out | apply below_alloc | apply pw_below_drewN | apply below_drew1) | exact HB.out)))); (case aL => have := LMc12.out; omega); intro v254 w22 ho hb hg hat; rw [← Ny253.out] at ho; have n0_ := Aside0.mk (Kd.R_over' (by (with_reducible repeat (first | apply Kd.R_alloc | apply Kd.R_drewN | apply Kd.R_drew)); exact HO245.out) (Kd.R_typed (by (with_reducible repeat (first | apply Kd.R_alloc | apply Kd.R_drewN | apply Kd.R_drew)); exact HO252.out)) (by decide) hg); have n1_ := Aside0.mk (Kd.R_over' (by (with_reducible repeat (first | apply Kd.R_alloc | apply Kd.R_drewN | apply Kd.R_drew)); exact HO248.out) (Kd.R_typed (by (with_reducible repeat (first | apply Kd.R_alloc | apply Kd.R_drewN | apply Kd.R_drew)); exact HO252.out)) (by decide) hg); have n2_ := Aside0.mk (hb); have n3_ := Aside0.mk (ho); clear HO245; clear HO248; clear HB; clear HO252; have HO245 := n0_; have HO248 := n1_; have HB := n2_; have HO255 := n3_; clear n0_ n1_ n2_ n3_; clear ho hb hg hat) | (at_builtin; refine Kd.R_append_zeros (Kd.int .u8) (w0 := w) w.heap.size rfl (.tmp 38) (.tmp 41) 31 3 5 (.int .u8 0) 1 rfl Try.underlying31 Try.underlying3 info5 rfl (by decide) (by omega) v254 y253 0 (ji13 : Int) (fun _ => True) rfl rfl rfl ?aF ?aO (of_decide_eq_true (by first | (with_reducible assumption) | assumption)) ?aB ?aS ?aL ?_; (case aB => exact (by repeat (first | (with_reducible first | exact HB.out | apply below_alloc | apply pw_below_drewN | apply below_drew1) | exact HB.out))); (case aF => exact (fun _ _ => trivial)); (case aO => exact (by (with_reducible repeat (first | apply Kd.R_alloc | apply Kd.R_drewN | apply Kd.R_drew)); exact HO255.out)); (case aS => exact (below_size (by repeat (first | (with_reducible first | exact HB.out | apply below_alloc | apply pw_below_drewN | apply below_drew1) | exact HB.out)))); (case aL => have := LMc15.out; omega); intro v257 w23 ho hb hg hat; rw [← Ny256.out] at ho; have n0_ := Aside0.mk (Kd.R_over' (by (with_reducible repeat (first | apply Kd.R_alloc | apply Kd.R_drewN | apply Kd.R_drew)); exact HO245.out) (Kd.R_typed (by (with_reducible repeat (first | apply Kd.R_alloc | apply Kd.R_drewN | apply Kd.R_drew)); exact HO255.out)) (by decide) hg); have n1_ := Aside0.mk (Kd.R_over' (by (with_reducible repeat (first | apply Kd.R_alloc | apply Kd.R_drewN | apply Kd.R_drew)); exact HO248.out) (Kd.R_typed (by (with_reducible repeat (first | apply Kd.R_alloc | apply Kd.R_drewN | apply Kd.R_drew)); exact HO255.out)) (by decide) hg); have n2_ := Aside0.mk (hb); have n3_ := Aside0.mk (ho); clear HO245; clear HO248; clear HB; clear HO255; have HO245 := n0_; have HO248 := n1_; have HB := n2_; have HO258 := n3_; clear n0_ n1_ n2_ n3_; clear ho hb hg hat))
                    go_ret2
                    exact ⟨_, by first | rfl | (simp [errW_none, errW_some] <;> rfl) | (simp only [← hji13]; first | rfl | (simp [errW_none, errW_some] <;> rfl)) | (simp [*, errW_none, errW_some] <;> rfl), by (with_reducible repeat (first | apply Kd.R_alloc | apply Kd.R_drewN | apply Kd.R_drew)); exact HO258.out, by repeat (first | (with_reducible first | exact HB.out | apply below_alloc | apply pw_below_drewN | apply below_drew1) | exact HB.out)⟩
                  · rw [if_neg c15] at H
                    exact absurd H (by simp)
                · rw [if_neg c14] at H
                  exact absurd H (by simp)
              · rw [if_neg c12] at H
                exact absurd H (by simp)
end Go.Proofs.Ytdkjhcdniepbhaa.P
end
section
set_option linter.unusedVariables false
set_option linter.unusedSimpArgs false
namespace Go.Proofs.Ytdkjhcdniepbhaa.P
open Go.RowKit Go.Proofs.PrintWords Go.Proofs.PrintLast Go.Proofs.PrintMore
attribute [local go_sem] max2_int min2_int max_two min_two max_three min_three max_four min_four
def journal_Plan.f (k : Nat) (a0_0 : Int) (a0_1 : Int) (a0_2 : Int) (a0_3 : Int) (a0_4 : Int) (a0_5 : Int) (l1_0 : List (S39)) (l1_1 : List (S49)) (a2 : Int) (a3 : Int) (a4 : Int) (l5 : List Int) : Option (Int × List Int × Int) := (journal_asked.f a0_0 a0_1 a0_2 a0_3 a0_4 a0_5 l1_0 l1_1 a2).bind fun t278 => (if t278 = 0 then (if a4 < 0 then (some (0, ([] : List Int), 2)) else (if a4 ≥ a0_2 then (some (0, ([] : List Int), 9)) else ((journal_Text.f k a3 a4 l5).bind fun bt279 => (if bt279.2 = 0 then ((place_Area.f a0_0 a0_1 a0_2 a0_3 a0_4 a0_5 a2 a4).bind fun bt283 => (some (bt283.1, bt279.1, 0))) else (some (0, ([] : List Int), bt279.2)))))) else (some (0, ([] : List Int), t278)))
theorem journal_Plan.mono : ∀ a0 a1 a2 a3 a4 a5 a6 a7 a8 a9 a10 a11 k, LeO (journal_Plan.f k a0 a1 a2 a3 a4 a5 a6 a7 a8 a9 a10 a11) (journal_Plan.f (k + 1) a0 a1 a2 a3 a4 a5 a6 a7 a8 a9 a10 a11) := by
  intro a0 a1 a2 a3 a4 a5 a6 a7 a8 a9 a10 a11 k
  unfold journal_Plan.f
  repeat' first
      | (with_reducible exact journal_Text.mono _ _ _ _)
      | (with_reducible exact LeO.refl _)
      | (with_reducible exact LeO.none _)
      | (with_reducible refine LeO.ite ?_ ?_)
      | (with_reducible refine LeO.bind ?_ (fun _ => ?_))
      | exact journal_Text.mono _ _ _ _
      | exact LeO.none _
      | refine LeO.ite ?_ ?_
      | refine LeO.bind ?_ (fun _ => ?_)
set_option maxHeartbeats 8000000 in
set_option maxRecDepth 100000 in
theorem journal_Plan.calls (k : Nat) (a0_0 : Int) (a0_1 : Int) (a0_2 : Int) (a0_3 : Int) (a0_4 : Int) (a0_5 : Int) (A1_0 : Option Addr) (c1_0 : Nat) (l1_0 : List (S39)) (A1_1 : Option Addr) (c1_1 : Nat) (l1_1 : List (S49)) (a2 : Int) (a3 : Int) (a4 : Int) (A5 : Option Addr) (c5 : Nat) (l5 : List Int) (r1 : Int) (r2 : List Int) (r3 : Int) (w : World) (hr1_0 : Kd.C k39 w A1_0 l1_0.length l1_0) (hc1_0 : l1_0.length ≤ c1_0) (hr1_1 : Kd.C k49 w A1_1 l1_1.length l1_1) (hc1_1 : l1_1.length ≤ c1_1) (hr5 : Kd.C (Kd.int .u8) w A5 l5.length l5) (hc5 : l5.length ≤ c5) (h : journal_Plan.f k a0_0 a0_1 a0_2 a0_3 a0_4 a0_5 l1_0 l1_1 a2 a3 a4 l5 = some (r1, r2, r3)) :
    Calls Try.prog 26 #[.agg #[.int .i64 a0_0, .int .i64 a0_1, .int .i64 a0_2, .int .i64 a0_3, .int .i64 a0_4, .int .i64 a0_5], .agg #[.slice A1_0 l1_0.length c1_0, .slice A1_1 l1_1.length c1_1], .int .i64 a2, .int .u64 a3, .int .i64 a4, .slice A5 l5.length c5] w fun e w' => ∃ v1_ : Value, e = .returned (.tuple #[.agg #[.int .i64 r1, v1_], .int .i64 r3]) ∧ Kd.R (Kd.int .u8) 5 w' w.heap.size (fun _ => True) v1_ r2 ∧ Below w.heap.size w w' := by
  have hu44 := Try.underlying44
  have hu25 := Try.underlying25
  have hu49 := Try.underlying49
  have HR1_0 := Aside0.mk hr1_0
  have HC1_0 := Aside0.mk hc1_0
  clear hr1_0 hc1_0
  have HR1_1 := Aside0.mk hr1_1
  have HC1_1 := Aside0.mk hc1_1
  clear hr1_1 hc1_1
  have HR5 := Aside0.mk hr5
  have HC5 := Aside0.mk hc5
  clear hr5 hc5
  have HB := Aside0.mk (Below.refl w.heap.size w)
  have H : ((journal_asked.f a0_0 a0_1 a0_2 a0_3 a0_4 a0_5 l1_0 l1_1 a2).bind fun t278 => (if t278 = 0 then (if a4 < 0 then (some (0, ([] : List Int), 2)) else (if a4 ≥ a0_2 then (some (0, ([] : List Int), 9)) else ((journal_Text.f k a3 a4 l5).bind fun bt279 => (if bt279.2 = 0 then ((place_Area.f a0_0 a0_1 a0_2 a0_3 a0_4 a0_5 a2 a4).bind fun bt283 => (some (bt283.1, bt279.1, 0))) else (some (0, ([] : List Int), bt279.2)))))) else (some (0, ([] : List Int), t278)))) = some (r1, r2, r3) := h
  clear h
  replace H := Option.bind_eq_some_iff.mp H
  obtain ⟨t278, A70, H⟩ := H
  replace H : (if t278 = 0 then (if a4 < 0 then (some (0, ([] : List Int), 2)) else (if a4 ≥ a0_2 then (some (0, ([] : List Int), 9)) else ((journal_Text.f k a3 a4 l5).bind fun bt279 => (if bt279.2 = 0 then ((place_Area.f a0_0 a0_1 a0_2 a0_3 a0_4 a0_5 a2 a4).bind fun bt283 => (some (bt283.1, bt279.1, 0))) else (some (0, ([] : List Int), bt279.2)))))) else (some (0, ([] : List Int), t278))) = some (r1, r2, r3) := H
  have A7 := Aside0.mk A70
  clear A70
  by_cases c8 : t278 = 0
  · rw [if_pos c8] at H
    have c8b0 : (t278 == 0) = true := beq_iff_eq.mpr c8
    have c8b1 : (t278 != 0) = false := bne_eq_false_iff_eq.mpr c8
    clear c8
    by_cases c9 : a4 < 0
    · rw [if_pos c9] at H
      have c9b0 : decide (a4 < 0) = true := decide_eq_true c9
      clear c9
      simp only [Option.some.injEq, Prod.mk.injEq] at H
      obtain ⟨rfl, rfl, rfl⟩ := H
      go_enter Try.func26, Try.ntmps26
      go_wp2_with (first | ((with_reducible refine gate_dst (N := 6) rfl ?_); refine box_event ?hg (N := 6) ?hd (cs := #[.int .i64 a0_0, .int .i64 a0_1, .int .i64 a0_2, .int .i64 a0_3, .int .i64 a0_4, .int .i64 a0_5]) (t := 44) ?hr ?_; (case hd => rfl); (case hg => rfl); (case hr => first | (go_simp; done) | (go_simp; rfl)); intro gb275 hg w10 hbox hb; have n0_ := Aside0.mk (below_step (by repeat (first | (with_reducible first | exact HB.out | apply below_alloc | apply pw_below_drewN | apply below_drew1) | exact HB.out)) hb); have n1_ := Aside0.mk (hbox); have n2_ := Aside0.mk ((by rw [hg]; exact (below_size (by repeat (first | (with_reducible first | exact HB.out | apply below_alloc | apply pw_below_drewN | apply below_drew1) | exact HB.out))) : w.heap.size ≤ gb275)); have n3_ := Aside0.mk ((by rw [hg]; exact (below_size (by repeat (first | (with_reducible first | exact HB.out | apply below_alloc | apply pw_below_drewN | apply below_drew1) | exact HB.out))) : w.heap.size ≤ gb275)); clear HB; have HB := n0_; have BK275 := n1_; have GW275 := n2_; have GE275 := n3_; clear n0_ n1_ n2_ n3_; clear hb hbox hg) | ((with_reducible refine gate_dst (N := 7) rfl ?_); refine box_event ?hg (N := 7) ?hd (cs := #[.slice A1_0 l1_0.length c1_0, .slice A1_1 l1_1.length c1_1]) (t := 25) ?hr ?_; (case hd => rfl); (case hg => rfl); (case hr => first | (go_simp; done) | (go_simp; rfl)); intro gb276 hg w11 hbox hb; have n0_ := Aside0.mk (blk_below (g := gb275) (o := .cells #[.int .i64 a0_0, .int .i64 a0_1, .int .i64 a0_2, .int .i64 a0_3, .int .i64 a0_4, .int .i64 a0_5] 44 (0, 0)) (by (with_reducible repeat (first | refine blk_drewN ?_ _ | refine blk_drew ?_ | refine blk_alloc ?_ _)); exact BK275.out) hb); have n1_ := Aside0.mk (below_step (by repeat (first | (with_reducible first | exact HB.out | apply below_alloc | apply pw_below_drewN | apply below_drew1 | refine below_set ?_ GE275.out) | exact HB.out)) hb); have n2_ := Aside0.mk (hbox); have n3_ := Aside0.mk ((by rw [hg]; exact (below_size (by repeat (first | (with_reducible first | exact HB.out | apply below_alloc | apply pw_below_drewN | apply below_drew1 | refine below_set ?_ GE275.out) | exact HB.out))) : w.heap.size ≤ gb276)); have n4_ := Aside0.mk ((by rw [hg]; exact (below_size (by repeat (first | (with_reducible first | exact HB.out | apply below_alloc | apply pw_below_drewN | apply below_drew1 | refine below_set ?_ GE275.out) | exact HB.out))) : w.heap.size ≤ gb276)); have n5_ := Aside0.mk ((by rw [hg]; exact Nat.ne_of_lt (blk_lt (g := gb275) (o := .cells #[.int .i64 a0_0, .int .i64 a0_1, .int .i64 a0_2, .int .i64 a0_3, .int .i64 a0_4, .int .i64 a0_5] 44 (0, 0)) (by (with_reducible repeat (first | refine blk_drewN ?_ _ | refine blk_drew ?_ | refine blk_alloc ?_ _)); exact BK275.out)) : gb275 ≠ gb276)); have n6_ := Aside0.mk ((by rw [hg]; exact Nat.ne_of_gt (blk_lt (g := gb275) (o := .cells #[.int .i64 a0_0, .int .i64 a0_1, .int .i64 a0_2, .int .i64 a0_3, .int .i64 a0_4, .int .i64 a0_5] 44 (0, 0)) (by (with_reducible repeat (first | refine blk_drewN ?_ _ | refine blk_drew ?_ | refine blk_alloc ?_ _)); exact BK275.out)) : gb276 ≠ gb275)); clear BK275; clear HB; have BK275 := n0_; have HB := n1_; have BK276 := n2_; have GW276 := n3_; have GE276 := n4_; have NB275_276 := n5_; have NB276_275 := n6_; clear n0_ n1_ n2_ n3_ n4_ n5_ n6_; clear hb hbox hg) | ((with_reducible refine gate_dst (N := 12) rfl ?_); refine box_event ?hg (N := 12) ?hd (cs := #[.int .i64 0, .slice none 0 0]) (t := 49) ?hr ?_; (case hd => rfl); (case hg => rfl); (case hr => first | (go_simp; done) | (go_simp; rfl)); intro gb277 hg w12 hbox hb; have n0_ := Aside0.mk (blk_below (g := gb275) (o := .cells #[.int .i64 a0_0, .int .i64 a0_1, .int .i64 a0_2, .int .i64 a0_3, .int .i64 a0_4, .int .i64 a0_5] 44 (0, 0)) (by (with_reducible repeat (first | refine blk_drewN ?_ _ | refine blk_drew ?_ | refine blk_alloc ?_ _)); exact BK275.out) hb); have n1_ := Aside0.mk (blk_below (g := gb276) (o := .cells #[.slice A1_0 l1_0.length c1_0, .slice A1_1 l1_1.length c1_1] 25 (0, 0)) (by (with_reducible repeat (first | refine blk_drewN ?_ _ | refine blk_drew ?_ | refine blk_alloc ?_ _)); exact BK276.out) hb); have n2_ := Aside0.mk (below_step (by repeat (first | (with_reducible first | exact HB.out | apply below_alloc | apply pw_below_drewN | apply below_drew1 | refine below_set ?_ GE275.out | refine below_set ?_ GE276.out) | exact HB.out)) hb); have n3_ := Aside0.mk (hbox); have n4_ := Aside0.mk ((by rw [hg]; exact (below_size (by repeat (first | (with_reducible first | exact HB.out | apply below_alloc | apply pw_below_drewN | apply below_drew1 | refine below_set ?_ GE275.out | refine below_set ?_ GE276.out) | exact HB.out))) : w.heap.size ≤ gb277)); have n5_ := Aside0.mk ((by rw [hg]; exact (below_size (by repeat (first | (with_reducible first | exact HB.out | apply below_alloc | apply pw_below_drewN | apply below_drew1 | refine below_set ?_ GE275.out | refine below_set ?_ GE276.out) | exact HB.out))) : w.heap.size ≤ gb277)); have n6_ := Aside0.mk ((by rw [hg]; exact Nat.ne_of_lt (blk_lt (g := gb275) (o := .cells #[.int .i64 a0_0, .int .i64 a0_1, .int .i64 a0_2, .int .i64 a0_3, .int .i64 a0_4, .int .i64 a0_5] 44 (0, 0)) (by (with_reducible repeat (first | refine blk_drewN ?_ _ | refine blk_drew ?_ | refine blk_alloc ?_ _)); exact BK275.out)) : gb275 ≠ gb277)); have n7_ := Aside0.mk ((by rw [hg]; exact Nat.ne_of_gt (blk_lt (g := gb275) (o := .cells #[.int .i64 a0_0, .int .i64 a0_1, .int .i64 a0_2, .int .i64 a0_3, .int .i64 a0_4, .int .i64 a0_5] 44 (0, 0)) (by (with_reducible repeat (first | refine blk_drewN ?_ _ | refine blk_drew ?_ | refine blk_alloc ?_ _)); exact BK275.out)) : gb277 ≠ gb275)); have n8_ := Aside0.mk ((by rw [hg]; exact Nat.ne_of_lt (blk_lt (g := gb276) (o := .cells #[.slice A1_0 l1_0.length c1_0, .slice A1_1 l1_1.length c1_1] 25 (0, 0)) (by (with_reducible repeat (first | refine blk_drewN ?_ _ | refine blk_drew ?_ | refine blk_alloc ?_ _)); exact BK276.out)) : gb276 ≠ gb277)); have n9_ := Aside0.mk ((by rw [hg]; exact Nat.ne_of_gt (blk_lt (g := gb276) (o := .cells #[.slice A1_0 l1_0.length c1_0, .slice A1_1 l1_1.length c1_1] 25 (0, 0)) (by (with_reducible repeat (first | refine blk_drewN ?_ _ | refine blk_drew ?_ | refine blk_alloc ?_ _)); exact BK276.out)) : gb277 ≠ gb276)); clear BK275; clear BK276; clear HB; have BK275 := n0_; have BK276 := n1_; have HB := n2_; have BK277 := n3_; have GW277 := n4_; have GE277 := n5_; have NB275_277 := n6_; have NB277_275 := n7_; have NB276_277 := n8_; have NB277_276 := n9_; clear n0_ n1_ n2_ n3_ n4_ n5_ n6_ n7_ n8_ n9_; clear hb hbox hg; have hnb13 := NB275_276.out; have hnc13 := NB276_275.out; have hnb14 := NB275_277.out; have hnc14 := NB277_275.out; have hcz15_0 : w12.cell? ⟨gb275, 0, none⟩ = some (.int .i64 a0_0) := (blk_cell BK275.out 0).trans rfl; have hcz15_1 : w12.cell? ⟨gb275, 1, none⟩ = some (.int .i64 a0_1) := (blk_cell BK275.out 1).trans rfl; have hcz15_2 : w12.cell? ⟨gb275, 2, none⟩ = some (.int .i64 a0_2) := (blk_cell BK275.out 2).trans rfl; have hcz15_3 : w12.cell? ⟨gb275, 3, none⟩ = some (.int .i64 a0_3) := (blk_cell BK275.out 3).trans rfl; have hcz15_4 : w12.cell? ⟨gb275, 4, none⟩ = some (.int .i64 a0_4) := (blk_cell BK275.out 4).trans rfl; have hcz15_5 : w12.cell? ⟨gb275, 5, none⟩ = some (.int .i64 a0_5) := (blk_cell BK275.out 5).trans rfl; have hfz15_0 := blk_frozen BK275.out 0; have hfz15_1 := blk_frozen BK275.out 1; have hfz15_2 := blk_frozen BK275.out 2; have hfz15_3 := blk_frozen BK275.out 3; have hfz15_4 := blk_frozen BK275.out 4; have hfz15_5 := blk_frozen BK275.out 5; have hnb16 := NB276_277.out; have hnc16 := NB277_276.out; have hcz17_0 : w12.cell? ⟨gb276, 0, none⟩ = some (.slice A1_0 l1_0.length c1_0) := (blk_cell BK276.out 0).trans rfl; have hcz17_1 : w12.cell? ⟨gb276, 1, none⟩ = some (.slice A1_1 l1_1.length c1_1) := (blk_cell BK276.out 1).trans rfl; have hfz17_0 := blk_frozen BK276.out 0; have hfz17_1 := blk_frozen BK276.out 1) | ((with_reducible refine gate_callee (f := 64) rfl ?_); refine goesL_ (some 21) rfl rfl Try.func64 (by kernel_rfl) rfl #[.agg #[.int .i64 a0_0, .int .i64 a0_1, .int .i64 a0_2, .int .i64 a0_3, .int .i64 a0_4, .int .i64 a0_5], .agg #[.slice A1_0 l1_0.length c1_0, .slice A1_1 l1_1.length c1_1], .int .i64 a2] rfl (by (try simp only [List.map_toArray, List.map_cons, List.map_nil]); first | done | rfl | (simp only [List.length_drop, List.length_take]; rfl)) ?_; (with_reducible refine (journal_asked.calls a0_0 a0_1 a0_2 a0_3 a0_4 a0_5 _ _ l1_0 _ _ l1_1 a2 t278 _ ?side1 ?side2 ?side3 ?side4 A7.out).mono ?_); (case side1 => repeat (first | exact (Kd.C_below HR1_0.out HB.out) | (with_reducible refine Kd.C_alloc ?_ _) | (with_reducible refine Kd.C_drewN ?_ _) | (with_reducible refine Kd.C_drew ?_))); (case side2 => exact HC1_0.out); (case side3 => repeat (first | exact (Kd.C_below HR1_1.out HB.out) | (with_reducible refine Kd.C_alloc ?_ _) | (with_reducible refine Kd.C_drewN ?_ _) | (with_reducible refine Kd.C_drew ?_))); (case side4 => exact HC1_1.out); rintro e w18 ⟨rfl, hb⟩; refine ⟨_, rfl, ?_⟩; have n0_ := Aside0.mk (blk_below (g := gb275) (o := .cells #[.int .i64 a0_0, .int .i64 a0_1, .int .i64 a0_2, .int .i64 a0_3, .int .i64 a0_4, .int .i64 a0_5] 44 (0, 0)) (by (with_reducible repeat (first | refine blk_drewN ?_ _ | refine blk_drew ?_ | refine blk_alloc ?_ _)); exact BK275.out) hb); have n1_ := Aside0.mk (blk_below (g := gb276) (o := .cells #[.slice A1_0 l1_0.length c1_0, .slice A1_1 l1_1.length c1_1] 25 (0, 0)) (by (with_reducible repeat (first | refine blk_drewN ?_ _ | refine blk_drew ?_ | refine blk_alloc ?_ _)); exact BK276.out) hb); have n2_ := Aside0.mk (blk_below (g := gb277) (o := .cells #[.int .i64 0, .slice none 0 0] 49 (0, 0)) (by (with_reducible repeat (first | refine blk_drewN ?_ _ | refine blk_drew ?_ | refine blk_alloc ?_ _)); exact BK277.out) hb); have n3_ := Aside0.mk (below_step (by repeat (first | (with_reducible first | exact HB.out | apply below_alloc | apply pw_below_drewN | apply below_drew1 | refine below_set ?_ GE275.out | refine below_set ?_ GE276.out | refine below_set ?_ GE277.out) | exact HB.out)) hb); clear BK275; clear BK276; clear BK277; clear HB; have BK275 := n0_; have BK276 := n1_; have BK277 := n2_; have HB := n3_; clear n0_ n1_ n2_ n3_; (try clear hb); (try clear hb2); (try clear hk); (try clear hi); have hcz19_0 : w18.cell? ⟨gb277, 0, none⟩ = some (.int .i64 0) := (blk_cell BK277.out 0).trans rfl; have hcz19_1 : w18.cell? ⟨gb277, 1, none⟩ = some (.slice none 0 0) := (blk_cell BK277.out 1).trans rfl; have hfz19_0 := blk_frozen BK277.out 0; have hfz19_1 := blk_frozen BK277.out 1))
      refine bodyPost_ret (results_ct rfl _ _ gb277 49 #[.int .i64 0, .slice none 0 0] (0, 0) _ rfl (by (with_reducible repeat (first | refine blk_drewN ?_ _ | refine blk_drew ?_ | refine blk_alloc ?_ _)); refine blk_put (cs := #[.int .i64 0, .slice none 0 0]) ?_ 1 _ rfl; (with_reducible repeat (first | refine blk_drewN ?_ _ | refine blk_drew ?_ | refine blk_alloc ?_ _)); refine blk_put (cs := #[.int .i64 0, .slice none 0 0]) ?_ 0 _ rfl; (with_reducible repeat (first | refine blk_drewN ?_ _ | refine blk_drew ?_ | refine blk_alloc ?_ _)); exact BK277.out) Try.underlying49 rfl (by kernel_rfl)) rfl ?_
      exact ⟨_, by first | rfl | (simp [errW_none, errW_some] <;> rfl) | (simp [*, errW_none, errW_some] <;> rfl), by first | exact Kd.R_nil _ _ _ _ _ | exact Kd.N_nil _ _ _ _ _ | exact Kd.V_nil _ _ _ _ _ | exact Kd.Q_nil _ _ _ _ _ | exact Kd.S_nil _ _ _ _ _, by repeat (first | (with_reducible first | exact HB.out | apply below_alloc | apply pw_below_drewN | apply below_drew1 | refine below_set ?_ GE275.out | refine below_set ?_ GE276.out | refine below_set ?_ GE277.out) | exact HB.out)⟩
    · rw [if_neg c9] at H
      have c9b0 : decide (a4 < 0) = false := decide_eq_false c9
      clear c9
      by_cases c20 : a4 ≥ a0_2
      · rw [if_pos c20] at H
        have c20b0 : decide (a0_2 ≤ a4) = true := decide_eq_true c20
        clear c20
        simp only [Option.some.injEq, Prod.mk.injEq] at H
        obtain ⟨rfl, rfl, rfl⟩ := H
        go_enter Try.func26, Try.ntmps26
        go_wp2_with (first | ((with_reducible refine gate_dst (N := 6) rfl ?_); refine box_event ?hg (N := 6) ?hd (cs := #[.int .i64 a0_0, .int .i64 a0_1, .int .i64 a0_2, .int .i64 a0_3, .int .i64 a0_4, .int .i64 a0_5]) (t := 44) ?hr ?_; (case hd => rfl); (case hg => rfl); (case hr => first | (go_simp; done) | (go_simp; rfl)); intro gb275 hg w21 hbox hb; have n0_ := Aside0.mk (below_step (by repeat (first | (with_reducible first | exact HB.out | apply below_alloc | apply pw_below_drewN | apply below_drew1) | exact HB.out)) hb); have n1_ := Aside0.mk (hbox); have n2_ := Aside0.mk ((by rw [hg]; exact (below_size (by repeat (first | (with_reducible first | exact HB.out | apply below_alloc | apply pw_below_drewN | apply below_drew1) | exact HB.out))) : w.heap.size ≤ gb275)); have n3_ := Aside0.mk ((by rw [hg]; exact (below_size (by repeat (first | (with_reducible first | exact HB.out | apply below_alloc | apply pw_below_drewN | apply below_drew1) | exact HB.out))) : w.heap.size ≤ gb275)); clear HB; have HB := n0_; have BK275 := n1_; have GW275 := n2_; have GE275 := n3_; clear n0_ n1_ n2_ n3_; clear hb hbox hg) | ((with_reducible refine gate_dst (N := 7) rfl ?_); refine box_event ?hg (N := 7) ?hd (cs := #[.slice A1_0 l1_0.length c1_0, .slice A1_1 l1_1.length c1_1]) (t := 25) ?hr ?_; (case hd => rfl); (case hg => rfl); (case hr => first | (go_simp; done) | (go_simp; rfl)); intro gb276 hg w22 hbox hb; have n0_ := Aside0.mk (blk_below (g := gb275) (o := .cells #[.int .i64 a0_0, .int .i64 a0_1, .int .i64 a0_2, .int .i64 a0_3, .int .i64 a0_4, .int .i64 a0_5] 44 (0, 0)) (by (with_reducible repeat (first | refine blk_drewN ?_ _ | refine blk_drew ?_ | refine blk_alloc ?_ _)); exact BK275.out) hb); have n1_ := Aside0.mk (below_step (by repeat (first | (with_reducible first | exact HB.out | apply below_alloc | apply pw_below_drewN | apply below_drew1 | refine below_set ?_ GE275.out) | exact HB.out)) hb); have n2_ := Aside0.mk (hbox); have n3_ := Aside0.mk ((by rw [hg]; exact (below_size (by repeat (first | (with_reducible first | exact HB.out | apply below_alloc | apply pw_below_drewN | apply below_drew1 | refine below_set ?_ GE275.out) | exact HB.out))) : w.heap.size ≤ gb276)); have n4_ := Aside0.mk ((by rw [hg]; exact (below_size (by repeat (first | (with_reducible first | exact HB.out | apply below_alloc | apply pw_below_drewN | apply below_drew1 | refine below_set ?_ GE275.out) | exact HB.out))) : w.heap.size ≤ gb276)); have n5_ := Aside0.mk ((by rw [hg]; exact Nat.ne_of_lt (blk_lt (g := gb275) (o := .cells #[.int .i64 a0_0, .int .i64 a0_1, .int .i64 a0_2, .int .i64 a0_3, .int .i64 a0_4, .int .i64 a0_5] 44 (0, 0)) (by (with_reducible repeat (first | refine blk_drewN ?_ _ | refine blk_drew ?_ | refine blk_alloc ?_ _)); exact BK275.out)) : gb275 ≠ gb276)); have n6_ := Aside0.mk ((by rw [hg]; exact Nat.ne_of_gt (blk_lt (g := gb275) (o := .cells #[.int .i64 a0_0, .int .i64 a0_1, .int .i64 a0_2, .int .i64 a0_3, .int .i64 a0_4, .int .i64 a0_5] 44 (0, 0)) (by (with_reducible repeat (first | refine blk_drewN ?_ _ | refine blk_drew ?_ | refine blk_alloc ?_ _)); exact BK275.out)) : gb276 ≠ gb275)); clear BK275; clear HB; have BK275 := n0_; have HB := n1_; have BK276 := n2_; have GW276 := n3_; have GE276 := n4_; have NB275_276 := n5_; have NB276_275 := n6_; clear n0_ n1_ n2_ n3_ n4_ n5_ n6_; clear hb hbox hg) | ((with_reducible refine gate_dst (N := 12) rfl ?_); refine box_event ?hg (N := 12) ?hd (cs := #[.int .i64 0, .slice none 0 0]) (t := 49) ?hr ?_; (case hd => rfl); (case hg => rfl); (case hr => first | (go_simp; done) | (go_simp; rfl)); intro gb277 hg w23 hbox hb; have n0_ := Aside0.mk (blk_below (g := gb275) (o := .cells #[.int .i64 a0_0, .int .i64 a0_1, .int .i64 a0_2, .int .i64 a0_3, .int .i64 a0_4, .int .i64 a0_5] 44 (0, 0)) (by (with_reducible repeat (first | refine blk_drewN ?_ _ | refine blk_drew ?_ | refine blk_alloc ?_ _)); exact BK275.out) hb); have n1_ := Aside0.mk (blk_below (g := gb276) (o := .cells #[.slice A1_0 l1_0.length c1_0, .slice A1_1 l1_1.length c1_1] 25 (0, 0)) (by (with_reducible repeat (first | refine blk_drewN ?_ _ | refine blk_drew ?_ | refine blk_alloc ?_ _)); exact BK276.out) hb); have n2_ := Aside0.mk (below_step (by repeat (first | (with_reducible first | exact HB.out | apply below_alloc | apply pw_below_drewN | apply below_drew1 | refine below_set ?_ GE275.out | refine below_set ?_ GE276.out) | exact HB.out)) hb); have n3_ := Aside0.mk (hbox); have n4_ := Aside0.mk ((by rw [hg]; exact (below_size (by repeat (first | (with_reducible first | exact HB.out | apply below_alloc | apply pw_below_drewN | apply below_drew1 | refine below_set ?_ GE275.out | refine below_set ?_ GE276.out) | exact HB.out))) : w.heap.size ≤ gb277)); have n5_ := Aside0.mk ((by rw [hg]; exact (below_size (by repeat (first | (with_reducible first | exact HB.out | apply below_alloc | apply pw_below_drewN | apply below_drew1 | refine below_set ?_ GE275.out | refine below_set ?_ GE276.out) | exact HB.out))) : w.heap.size ≤ gb277)); have n6_ := Aside0.mk ((by rw [hg]; exact Nat.ne_of_lt (blk_lt (g := gb275) (o := .cells #[.int .i64 a0_0, .int .i64 a0_1, .int .i64 a0_2, .int .i64 a0_3, .int .i64 a0_4, .int .i64 a0_5] 44 (0, 0)) (by (with_reducible repeat (first | refine blk_drewN ?_ _ | refine blk_drew ?_ | refine blk_alloc ?_ _)); exact BK275.out)) : gb275 ≠ gb277)); have n7_ := Aside0.mk ((by rw [hg]; exact Nat.ne_of_gt (blk_lt (g := gb275) (o := .cells #[.int .i64 a0_0, .int .i64 a0_1, .int .i64 a0_2, .int .i64 a0_3, .int .i64 a0_4, .int .i64 a0_5] 44 (0, 0)) (by (with_reducible repeat (first | refine blk_drewN ?_ _ | refine blk_drew ?_ | refine blk_alloc ?_ _)); exact BK275.out)) : gb277 ≠ gb275)); have n8_ := Aside0.mk ((by rw [hg]; exact Nat.ne_of_lt (blk_lt (g := gb276) (o := .cells #[.slice A1_0 l1_0.length c1_0, .slice A1_1 l1_1.length c1_1] 25 (0, 0)) (by (with_reducible repeat (first | refine blk_drewN ?_ _ | refine blk_drew ?_ | refine blk_alloc ?_ _)); exact BK276.out)) : gb276 ≠ gb277)); have n9_ := Aside0.mk ((by rw [hg]; exact Nat.ne_of_gt (blk_lt (g := gb276) (o := .cells #[.slice A1_0 l1_0.length c1_0, .slice A1_1 l1_1.length c1_1] 25 (0, 0)) (by (with_reducible repeat (first | refine blk_drewN ?_ _ | refine blk_drew ?_ | refine blk_alloc ?_ _)); exact BK276.out)) : gb277 ≠ gb276)); clear BK275; clear BK276; clear HB; have BK275 := n0_; have BK276 := n1_; have HB := n2_; have BK277 := n3_; have GW277 := n4_; have GE277 := n5_; have NB275_277 := n6_; have NB277_275 := n7_; have NB276_277 := n8_; have NB277_276 := n9_; clear n0_ n1_ n2_ n3_ n4_ n5_ n6_ n7_ n8_ n9_; clear hb hbox hg; have hnb24 := NB275_276.out; have hnc24 := NB276_275.out; have hnb25 := NB275_277.out; have hnc25 := NB277_275.out; have hcz26_0 : w23.cell? ⟨gb275, 0, none⟩ = some (.int .i64 a0_0) := (blk_cell BK275.out 0).trans rfl; have hcz26_1 : w23.cell? ⟨gb275, 1, none⟩ = some (.int .i64 a0_1) := (blk_cell BK275.out 1).trans rfl; have hcz26_2 : w23.cell? ⟨gb275, 2, none⟩ = some (.int .i64 a0_2) := (blk_cell BK275.out 2).trans rfl; have hcz26_3 : w23.cell? ⟨gb275, 3, none⟩ = some (.int .i64 a0_3) := (blk_cell BK275.out 3).trans rfl; have hcz26_4 : w23.cell? ⟨gb275, 4, none⟩ = some (.int .i64 a0_4) := (blk_cell BK275.out 4).trans rfl; have hcz26_5 : w23.cell? ⟨gb275, 5, none⟩ = some (.int .i64 a0_5) := (blk_cell BK275.out 5).trans rfl; have hfz26_0 := blk_frozen BK275.out 0; have hfz26_1 := blk_frozen BK275.out 1; have hfz26_2 := blk_frozen BK275.out 2; have hfz26_3 := blk_frozen BK275.out 3; have hfz26_4 := blk_frozen BK275.out 4; have hfz26_5 := blk_frozen BK275.out 5; have hnb27 := NB276_277.out; have hnc27 := NB277_276.out; have hcz28_0 : w23.cell? ⟨gb276, 0, none⟩ = some (.slice A1_0 l1_0.length c1_0) := (blk_cell BK276.out 0).trans rfl; have hcz28_1 : w23.cell? ⟨gb276, 1, none⟩ = some (.slice A1_1 l1_1.length c1_1) := (blk_cell BK276.out 1).trans rfl; have hfz28_0 := blk_frozen BK276.out 0; have hfz28_1 := blk_frozen BK276.out 1) | ((with_reducible refine gate_callee (f := 64) rfl ?_); refine goesL_ (some 21) rfl rfl Try.func64 (by kernel_rfl) rfl #[.agg #[.int .i64 a0_0, .int .i64 a0_1, .int .i64 a0_2, .int .i64 a0_3, .int .i64 a0_4, .int .i64 a0_5], .agg #[.slice A1_0 l1_0.length c1_0, .slice A1_1 l1_1.length c1_1], .int .i64 a2] rfl (by (try simp only [List.map_toArray, List.map_cons, List.map_nil]); first | done | rfl | (simp only [List.length_drop, List.length_take]; rfl)) ?_; (with_reducible refine (journal_asked.calls a0_0 a0_1 a0_2 a0_3 a0_4 a0_5 _ _ l1_0 _ _ l1_1 a2 t278 _ ?side1 ?side2 ?side3 ?side4 A7.out).mono ?_); (case side1 => repeat (first | exact (Kd.C_below HR1_0.out HB.out) | (with_reducible refine Kd.C_alloc ?_ _) | (with_reducible refine Kd.C_drewN ?_ _) | (with_reducible refine Kd.C_drew ?_))); (case side2 => exact HC1_0.out); (case side3 => repeat (first | exact (Kd.C_below HR1_1.out HB.out) | (with_reducible refine Kd.C_alloc ?_ _) | (with_reducible refine Kd.C_drewN ?_ _) | (with_reducible refine Kd.C_drew ?_))); (case side4 => exact HC1_1.out); rintro e w29 ⟨rfl, hb⟩; refine ⟨_, rfl, ?_⟩; have n0_ := Aside0.mk (blk_below (g := gb275) (o := .cells #[.int .i64 a0_0, .int .i64 a0_1, .int .i64 a0_2, .int .i64 a0_3, .int .i64 a0_4, .int .i64 a0_5] 44 (0, 0)) (by (with_reducible repeat (first | refine blk_drewN ?_ _ | refine blk_drew ?_ | refine blk_alloc ?_ _)); exact BK275.out) hb); have n1_ := Aside0.mk (blk_below (g := gb276) (o := .cells #[.slice A1_0 l1_0.length c1_0, .slice A1_1 l1_1.length c1_1] 25 (0, 0)) (by (with_reducible repeat (first | refine blk_drewN ?_ _ | refine blk_drew ?_ | refine blk_alloc ?_ _)); exact BK276.out) hb); have n2_ := Aside0.mk (blk_below (g := gb277) (o := .cells #[.int .i64 0, .slice none 0 0] 49 (0, 0)) (by (with_reducible repeat (first | refine blk_drewN ?_ _ | refine blk_drew ?_ | refine blk_alloc ?_ _)); exact BK277.out) hb); have n3_ := Aside0.mk (below_step (by repeat (first | (with_reducible first | exact HB.out | apply below_alloc | apply pw_below_drewN | apply below_drew1 | refine below_set ?_ GE275.out | refine below_set ?_ GE276.out | refine below_set ?_ GE277.out) | exact HB.out)) hb); clear BK275; clear BK276; clear BK277; clear HB; have BK275 := n0_; have BK276 := n1_; have BK277 := n2_; have HB := n3_; clear n0_ n1_ n2_ n3_; (try clear hb); (try clear hb2); (try clear hk); (try clear hi); have hcz30_0 : w29.cell? ⟨gb275, 0, none⟩ = some (.int .i64 a0_0) := (blk_cell BK275.out 0).trans rfl; have hcz30_1 : w29.cell? ⟨gb275, 1, none⟩ = some (.int .i64 a0_1) := (blk_cell BK275.out 1).trans rfl; have hcz30_2 : w29.cell? ⟨gb275, 2, none⟩ = some (.int .i64 a0_2) := (blk_cell BK275.out 2).trans rfl; have hcz30_3 : w29.cell? ⟨gb275, 3, none⟩ = some (.int .i64 a0_3) := (blk_cell BK275.out 3).trans rfl; have hcz30_4 : w29.cell? ⟨gb275, 4, none⟩ = some (.int .i64 a0_4) := (blk_cell BK275.out 4).trans rfl; have hcz30_5 : w29.cell? ⟨gb275, 5, none⟩ = some (.int .i64 a0_5) := (blk_cell BK275.out 5).trans rfl; have hfz30_0 := blk_frozen BK275.out 0; have hfz30_1 := blk_frozen BK275.out 1; have hfz30_2 := blk_frozen BK275.out 2; have hfz30_3 := blk_frozen BK275.out 3; have hfz30_4 := blk_frozen BK275.out 4; have hfz30_5 := blk_frozen BK275.out 5; have hcz31_0 : w29.cell? ⟨gb277, 0, none⟩ = some (.int .i64 0) := (blk_cell BK277.out 0).trans rfl; have hcz31_1 : w29.cell? ⟨gb277, 1, none⟩ = some (.slice none 0 0) := (blk_cell BK277.out 1).trans rfl; have hfz31_0 := blk_frozen BK277.out 0; have hfz31_1 := blk_frozen BK277.out 1))
        refine bodyPost_ret (results_ct rfl _ _ gb277 49 #[.int .i64 0, .slice none 0 0] (0, 0) _ rfl (by (with_reducible repeat (first | refine blk_drewN ?_ _ | refine blk_drew ?_ | refine blk_alloc ?_ _)); refine blk_put (cs := #[.int .i64 0, .slice none 0 0]) ?_ 1 _ rfl; (with_reducible repeat (first | refine blk_drewN ?_ _ | refine blk_drew ?_ | refine blk_alloc ?_ _)); refine blk_put (cs := #[.int .i64 0, .slice none 0 0]) ?_ 0 _ rfl; (with_reducible repeat (first | refine blk_drewN ?_ _ | refine blk_drew ?_ | refine blk_alloc ?_ _)); exact BK277.out) Try.underlying49 rfl (by kernel_rfl)) rfl ?_
        exact ⟨_, by first | rfl | (simp [errW_none, errW_some] <;> rfl) | (simp [*, errW_none, errW_some] <;> rfl), by first | exact Kd.R_nil _ _ _ _ _ | exact Kd.N_nil _ _ _ _ _ | exact Kd.V_nil _ _ _ _ _ | exact Kd.Q_nil _ _ _ _ _ | exact Kd.S_nil _ _ _ _ _, by repeat (first | (with_reducible first | exact HB.out | apply below_alloc | apply pw_below_drewN | apply below_drew1 | refine below_set ?_ GE275.out | refine below_set ?_ GE276.out | refine below_set ?_ GE277.out) | exact HB.out)⟩
      · rw [if_neg c20] at H
        have c20b0 : decide (a0_2 ≤ a4) = false := decide_eq_false c20
        clear c20
        replace H := Option.bind_eq_some_iff.mp H
        obtain ⟨⟨t279, t280⟩, A320, H⟩ := H
        replace H : (if t280 = 0 then ((place_Area.f a0_0 a0_1 a0_2 a0_3 a0_4 a0_5 a2 a4).bind fun bt283 => (some (bt283.1, t279, 0))) else (some (0, ([] : List Int), t280))) = some (r1, r2, r3) := H
        have A32 := Aside0.mk A320
        clear A320
        by_cases c33 : t280 = 0
        · rw [if_pos c33] at H
          have c33b0 : (t280 == 0) = true := beq_iff_eq.mpr c33
          have c33b1 : (t280 != 0) = false := bne_eq_false_iff_eq.mpr c33
          clear c33
          replace H := Option.bind_eq_some_iff.mp H
          obtain ⟨⟨t283, t284⟩, A340, H⟩ := H
          replace H : (some (t283, t279, 0)) = some (r1, r2, r3) := H
          have A34 := Aside0.mk A340
          clear A340
          simp only [Option.some.injEq, Prod.mk.injEq] at H
          obtain ⟨rfl, rfl, rfl⟩ := H
          go_enter Try.func26, Try.ntmps26
          go_wp2_with (first | ((with_reducible refine gate_dst (N := 6) rfl ?_); refine box_event ?hg (N := 6) ?hd (cs := #[.int .i64 a0_0, .int .i64 a0_1, .int .i64 a0_2, .int .i64 a0_3, .int .i64 a0_4, .int .i64 a0_5]) (t := 44) ?hr ?_; (case hd => rfl); (case hg => rfl); (case hr => first | (go_simp; done) | (go_simp; rfl)); intro gb275 hg w35 hbox hb; have n0_ := Aside0.mk (below_step (by repeat (first | (with_reducible first | exact HB.out | apply below_alloc | apply pw_below_drewN | apply below_drew1) | exact HB.out)) hb); have n1_ := Aside0.mk (hbox); have n2_ := Aside0.mk ((by rw [hg]; exact (below_size (by repeat (first | (with_reducible first | exact HB.out | apply below_alloc | apply pw_below_drewN | apply below_drew1) | exact HB.out))) : w.heap.size ≤ gb275)); have n3_ := Aside0.mk ((by rw [hg]; exact (below_size (by repeat (first | (with_reducible first | exact HB.out | apply below_alloc | apply pw_below_drewN | apply below_drew1) | exact HB.out))) : w.heap.size ≤ gb275)); clear HB; have HB := n0_; have BK275 := n1_; have GW275 := n2_; have GE275 := n3_; clear n0_ n1_ n2_ n3_; clear hb hbox hg) | ((with_reducible refine gate_dst (N := 7) rfl ?_); refine box_event ?hg (N := 7) ?hd (cs := #[.slice A1_0 l1_0.length c1_0, .slice A1_1 l1_1.length c1_1]) (t := 25) ?hr ?_; (case hd => rfl); (case hg => rfl); (case hr => first | (go_simp; done) | (go_simp; rfl)); intro gb276 hg w36 hbox hb; have n0_ := Aside0.mk (blk_below (g := gb275) (o := .cells #[.int .i64 a0_0, .int .i64 a0_1, .int .i64 a0_2, .int .i64 a0_3, .int .i64 a0_4, .int .i64 a0_5] 44 (0, 0)) (by (with_reducible repeat (first | refine blk_drewN ?_ _ | refine blk_drew ?_ | refine blk_alloc ?_ _)); exact BK275.out) hb); have n1_ := Aside0.mk (below_step (by repeat (first | (with_reducible first | exact HB.out | apply below_alloc | apply pw_below_drewN | apply below_drew1 | refine below_set ?_ GE275.out) | exact HB.out)) hb); have n2_ := Aside0.mk (hbox); have n3_ := Aside0.mk ((by rw [hg]; exact (below_size (by repeat (first | (with_reducible first | exact HB.out | apply below_alloc | apply pw_below_drewN | apply below_drew1 | refine below_set ?_ GE275.out) | exact HB.out))) : w.heap.size ≤ gb276)); have n4_ := Aside0.mk ((by rw [hg]; exact (below_size (by repeat (first | (with_reducible first | exact HB.out | apply below_alloc | apply pw_below_drewN | apply below_drew1 | refine below_set ?_ GE275.out) | exact HB.out))) : w.heap.size ≤ gb276)); have n5_ := Aside0.mk ((by rw [hg]; exact Nat.ne_of_lt (blk_lt (g := gb275) (o := .cells #[.int .i64 a0_0, .int .i64 a0_1, .int .i64 a0_2, .int .i64 a0_3, .int .i64 a0_4, .int .i64 a0_5] 44 (0, 0)) (by (with_reducible repeat (first | refine blk_drewN ?_ _ | refine blk_drew ?_ | refine blk_alloc ?_ _)); exact BK275.out)) : gb275 ≠ gb276)); have n6_ := Aside0.mk ((by rw [hg]; exact Nat.ne_of_gt (blk_lt (g := gb275) (o := .cells #[.int .i64 a0_0, .int .i64 a0_1, .int .i64 a0_2, .int .i64 a0_3, .int .i64 a0_4, .int .i64 a0_5] 44 (0, 0)) (by (with_reducible repeat (first | refine blk_drewN ?_ _ | refine blk_drew ?_ | refine blk_alloc ?_ _)); exact BK275.out)) : gb276 ≠ gb275)); clear BK275; clear HB; have BK275 := n0_; have HB := n1_; have BK276 := n2_; have GW276 := n3_; have GE276 := n4_; have NB275_276 := n5_; have NB276_275 := n6_; clear n0_ n1_ n2_ n3_ n4_ n5_ n6_; clear hb hbox hg) | ((with_reducible refine gate_dst (N := 12) rfl ?_); refine box_event ?hg (N := 12) ?hd (cs := #[.int .i64 0, .slice none 0 0]) (t := 49) ?hr ?_; (case hd => rfl); (case hg => rfl); (case hr => first | (go_simp; done) | (go_simp; rfl)); intro gb277 hg w37 hbox hb; have n0_ := Aside0.mk (blk_below (g := gb275) (o := .cells #[.int .i64 a0_0, .int .i64 a0_1, .int .i64 a0_2, .int .i64 a0_3, .int .i64 a0_4, .int .i64 a0_5] 44 (0, 0)) (by (with_reducible repeat (first | refine blk_drewN ?_ _ | refine blk_drew ?_ | refine blk_alloc ?_ _)); exact BK275.out) hb); have n1_ := Aside0.mk (blk_below (g := gb276) (o := .cells #[.slice A1_0 l1_0.length c1_0, .slice A1_1 l1_1.length c1_1] 25 (0, 0)) (by (with_reducible repeat (first | refine blk_drewN ?_ _ | refine blk_drew ?_ | refine blk_alloc ?_ _)); exact BK276.out) hb); have n2_ := Aside0.mk (below_step (by repeat (first | (with_reducible first | exact HB.out | apply below_alloc | apply pw_below_drewN | apply below_drew1 | refine below_set ?_ GE275.out | refine below_set ?_ GE276.out) | exact HB.out)) hb); have n3_ := Aside0.mk (hbox); have n4_ := Aside0.mk ((by rw [hg]; exact (below_size (by repeat (first | (with_reducible first | exact HB.out | apply below_alloc | apply pw_below_drewN | apply below_drew1 | refine below_set ?_ GE275.out | refine below_set ?_ GE276.out) | exact HB.out))) : w.heap.size ≤ gb277)); have n5_ := Aside0.mk ((by rw [hg]; exact (below_size (by repeat (first | (with_reducible first | exact HB.out | apply below_alloc | apply pw_below_drewN | apply below_drew1 | refine below_set ?_ GE275.out | refine below_set ?_ GE276.out) | exact HB.out))) : w.heap.size ≤ gb277)); have n6_ := Aside0.mk ((by rw [hg]; exact Nat.ne_of_lt (blk_lt (g := gb275) (o := .cells #[.int .i64 a0_0, .int .i64 a0_1, .int .i64 a0_2, .int .i64 a0_3, .int .i64 a0_4, .int .i64 a0_5] 44 (0, 0)) (by (with_reducible repeat (first | refine blk_drewN ?_ _ | refine blk_drew ?_ | refine blk_alloc ?_ _)); exact BK275.out)) : gb275 ≠ gb277)); have n7_ := Aside0.mk ((by rw [hg]; exact Nat.ne_of_gt (blk_lt (g := gb275) (o := .cells #[.int .i64 a0_0, .int .i64 a0_1, .int .i64 a0_2, .int .i64 a0_3, .int .i64 a0_4, .int .i64 a0_5] 44 (0, 0)) (by (with_reducible repeat (first | refine blk_drewN ?_ _ | refine blk_drew ?_ | refine blk_alloc ?_ _)); exact BK275.out)) : gb277 ≠ gb275)); have n8_ := Aside0.mk ((by rw [hg]; exact Nat.ne_of_lt (blk_lt (g := gb276) (o := .cells #[.slice A1_0 l1_0.length c1_0, .slice A1_1 l1_1.length c1_1] 25 (0, 0)) (by (with_reducible repeat (first | refine blk_drewN ?_ _ | refine blk_drew ?_ | refine blk_alloc ?_ _)); exact BK276.out)) : gb276 ≠ gb277)); have n9_ := Aside0.mk ((by rw [hg]; exact Nat.ne_of_gt (blk_lt (g := gb276) (o := .cells #[.slice A1_0 l1_0.length c1_0, .slice A1_1 l1_1.length c1_1] 25 (0, 0)) (by (with_reducible repeat (first | refine blk_drewN ?_ _ | refine blk_drew ?_ | refine blk_alloc ?_ _)); exact BK276.out)) : gb277 ≠ gb276)); clear BK275; clear BK276; clear HB; have BK275 := n0_; have BK276 := n1_; have HB := n2_; have BK277 := n3_; have GW277 := n4_; have GE277 := n5_; have NB275_277 := n6_; have NB277_275 := n7_; have NB276_277 := n8_; have NB277_276 := n9_; clear n0_ n1_ n2_ n3_ n4_ n5_ n6_ n7_ n8_ n9_; clear hb hbox hg; have hnb38 := NB275_276.out; have hnc38 := NB276_275.out; have hnb39 := NB275_277.out; have hnc39 := NB277_275.out; have hcz40_0 : w37.cell? ⟨gb275, 0, none⟩ = some (.int .i64 a0_0) := (blk_cell BK275.out 0).trans rfl; have hcz40_1 : w37.cell? ⟨gb275, 1, none⟩ = some (.int .i64 a0_1) := (blk_cell BK275.out 1).trans rfl; have hcz40_2 : w37.cell? ⟨gb275, 2, none⟩ = some (.int .i64 a0_2) := (blk_cell BK275.out 2).trans rfl; have hcz40_3 : w37.cell? ⟨gb275, 3, none⟩ = some (.int .i64 a0_3) := (blk_cell BK275.out 3).trans rfl; have hcz40_4 : w37.cell? ⟨gb275, 4, none⟩ = some (.int .i64 a0_4) := (blk_cell BK275.out 4).trans rfl; have hcz40_5 : w37.cell? ⟨gb275, 5, none⟩ = some (.int .i64 a0_5) := (blk_cell BK275.out 5).trans rfl; have hfz40_0 := blk_frozen BK275.out 0; have hfz40_1 := blk_frozen BK275.out 1; have hfz40_2 := blk_frozen BK275.out 2; have hfz40_3 := blk_frozen BK275.out 3; have hfz40_4 := blk_frozen BK275.out 4; have hfz40_5 := blk_frozen BK275.out 5; have hnb41 := NB276_277.out; have hnc41 := NB277_276.out; have hcz42_0 : w37.cell? ⟨gb276, 0, none⟩ = some (.slice A1_0 l1_0.length c1_0) := (blk_cell BK276.out 0).trans rfl; have hcz42_1 : w37.cell? ⟨gb276, 1, none⟩ = some (.slice A1_1 l1_1.length c1_1) := (blk_cell BK276.out 1).trans rfl; have hfz42_0 := blk_frozen BK276.out 0; have hfz42_1 := blk_frozen BK276.out 1) | ((with_reducible refine gate_callee (f := 64) rfl ?_); refine goesL_ (some 21) rfl rfl Try.func64 (by kernel_rfl) rfl #[.agg #[.int .i64 a0_0, .int .i64 a0_1, .int .i64 a0_2, .int .i64 a0_3, .int .i64 a0_4, .int .i64 a0_5], .agg #[.slice A1_0 l1_0.length c1_0, .slice A1_1 l1_1.length c1_1], .int .i64 a2] rfl (by (try simp only [List.map_toArray, List.map_cons, List.map_nil]); first | done | rfl | (simp only [List.length_drop, List.length_take]; rfl)) ?_; (with_reducible refine (journal_asked.calls a0_0 a0_1 a0_2 a0_3 a0_4 a0_5 _ _ l1_0 _ _ l1_1 a2 t278 _ ?side1 ?side2 ?side3 ?side4 A7.out).mono ?_); (case side1 => repeat (first | exact (Kd.C_below HR1_0.out HB.out) | (with_reducible refine Kd.C_alloc ?_ _) | (with_reducible refine Kd.C_drewN ?_ _) | (with_reducible refine Kd.C_drew ?_))); (case side2 => exact HC1_0.out); (case side3 => repeat (first | exact (Kd.C_below HR1_1.out HB.out) | (with_reducible refine Kd.C_alloc ?_ _) | (with_reducible refine Kd.C_drewN ?_ _) | (with_reducible refine Kd.C_drew ?_))); (case side4 => exact HC1_1.out); rintro e w43 ⟨rfl, hb⟩; refine ⟨_, rfl, ?_⟩; have n0_ := Aside0.mk (blk_below (g := gb275) (o := .cells #[.int .i64 a0_0, .int .i64 a0_1, .int .i64 a0_2, .int .i64 a0_3, .int .i64 a0_4, .int .i64 a0_5] 44 (0, 0)) (by (with_reducible repeat (first | refine blk_drewN ?_ _ | refine blk_drew ?_ | refine blk_alloc ?_ _)); exact BK275.out) hb); have n1_ := Aside0.mk (blk_below (g := gb276) (o := .cells #[.slice A1_0 l1_0.length c1_0, .slice A1_1 l1_1.length c1_1] 25 (0, 0)) (by (with_reducible repeat (first | refine blk_drewN ?_ _ | refine blk_drew ?_ | refine blk_alloc ?_ _)); exact BK276.out) hb); have n2_ := Aside0.mk (blk_below (g := gb277) (o := .cells #[.int .i64 0, .slice none 0 0] 49 (0, 0)) (by (with_reducible repeat (first | refine blk_drewN ?_ _ | refine blk_drew ?_ | refine blk_alloc ?_ _)); exact BK277.out) hb); have n3_ := Aside0.mk (below_step (by repeat (first | (with_reducible first | exact HB.out | apply below_alloc | apply pw_below_drewN | apply below_drew1 | refine below_set ?_ GE275.out | refine below_set ?_ GE276.out | refine below_set ?_ GE277.out) | exact HB.out)) hb); clear BK275; clear BK276; clear BK277; clear HB; have BK275 := n0_; have BK276 := n1_; have BK277 := n2_; have HB := n3_; clear n0_ n1_ n2_ n3_; (try clear hb); (try clear hb2); (try clear hk); (try clear hi); have hcz44_0 : w43.cell? ⟨gb275, 0, none⟩ = some (.int .i64 a0_0) := (blk_cell BK275.out 0).trans rfl; have hcz44_1 : w43.cell? ⟨gb275, 1, none⟩ = some (.int .i64 a0_1) := (blk_cell BK275.out 1).trans rfl; have hcz44_2 : w43.cell? ⟨gb275, 2, none⟩ = some (.int .i64 a0_2) := (blk_cell BK275.out 2).trans rfl; have hcz44_3 : w43.cell? ⟨gb275, 3, none⟩ = some (.int .i64 a0_3) := (blk_cell BK275.out 3).trans rfl; have hcz44_4 : w43.cell? ⟨gb275, 4, none⟩ = some (.int .i64 a0_4) := (blk_cell BK275.out 4).trans rfl; have hcz44_5 : w43.cell? ⟨gb275, 5, none⟩ = some (.int .i64 a0_5) := (blk_cell BK275.out 5).trans rfl; have hfz44_0 := blk_frozen BK275.out 0; have hfz44_1 := blk_frozen BK275.out 1; have hfz44_2 := blk_frozen BK275.out 2; have hfz44_3 := blk_frozen BK275.out 3; have hfz44_4 := blk_frozen BK275.out 4; have hfz44_5 := blk_frozen BK275.out 5) | ((with_reducible refine gate_callee (f := 28) rfl ?_); refine goesL_ (some 41) rfl rfl Try.func28 (by kernel_rfl) rfl #[.int .u64 a3, .int .i64 a4, .slice A5 l5.length c5] rfl (by (try simp only [List.map_toArray, List.map_cons, List.map_nil]); first | done | rfl | (simp only [List.length_drop, List.length_take]; rfl)) ?_; (with_reducible refine (journal_Text.calls k a3 a4 _ _ l5 t279 t280 _ ?side1 ?side2 A32.out).mono ?_); (case side1 => repeat (first | exact (Kd.C_below HR5.out HB.out) | (with_reducible refine Kd.C_alloc ?_ _) | (with_reducible refine Kd.C_drewN ?_ _) | (with_reducible refine Kd.C_drew ?_))); (case side2 => exact HC5.out); rintro e w45 ⟨v281, rfl, ho0, hb⟩; refine ⟨_, rfl, ?_⟩; have n0_ := Aside0.mk (Kd.R_lower ho0 (below_size (by repeat (first | (with_reducible first | exact HB.out | apply below_alloc | apply pw_below_drewN | apply below_drew1 | refine below_set ?_ GE275.out | refine below_set ?_ GE276.out | refine below_set ?_ GE277.out) | exact HB.out)))); have n1_ := Aside0.mk (blk_below (g := gb275) (o := .cells #[.int .i64 a0_0, .int .i64 a0_1, .int .i64 a0_2, .int .i64 a0_3, .int .i64 a0_4, .int .i64 a0_5] 44 (0, 0)) (by (with_reducible repeat (first | refine blk_drewN ?_ _ | refine blk_drew ?_ | refine blk_alloc ?_ _)); exact BK275.out) hb); have n2_ := Aside0.mk (blk_below (g := gb276) (o := .cells #[.slice A1_0 l1_0.length c1_0, .slice A1_1 l1_1.length c1_1] 25 (0, 0)) (by (with_reducible repeat (first | refine blk_drewN ?_ _ | refine blk_drew ?_ | refine blk_alloc ?_ _)); exact BK276.out) hb); have n3_ := Aside0.mk (blk_below (g := gb277) (o := .cells #[.int .i64 0, .slice none 0 0] 49 (0, 0)) (by (with_reducible repeat (first | refine blk_drewN ?_ _ | refine blk_drew ?_ | refine blk_alloc ?_ _)); exact BK277.out) hb); have n4_ := Aside0.mk (below_step (by repeat (first | (with_reducible first | exact HB.out | apply below_alloc | apply pw_below_drewN | apply below_drew1 | refine below_set ?_ GE275.out | refine below_set ?_ GE276.out | refine below_set ?_ GE277.out) | exact HB.out)) hb); clear BK275; clear BK276; clear BK277; clear HB; have HO282 := n0_; have BK275 := n1_; have BK276 := n2_; have BK277 := n3_; have HB := n4_; clear n0_ n1_ n2_ n3_ n4_; (try clear hb); (try clear hb2); (try clear hk); (try clear hi); (try clear ho0); have hcz46_0 : w45.cell? ⟨gb275, 0, none⟩ = some (.int .i64 a0_0) := (blk_cell BK275.out 0).trans rfl; have hcz46_1 : w45.cell? ⟨gb275, 1, none⟩ = some (.int .i64 a0_1) := (blk_cell BK275.out 1).trans rfl; have hcz46_2 : w45.cell? ⟨gb275, 2, none⟩ = some (.int .i64 a0_2) := (blk_cell BK275.out 2).trans rfl; have hcz46_3 : w45.cell? ⟨gb275, 3, none⟩ = some (.int .i64 a0_3) := (blk_cell BK275.out 3).trans rfl; have hcz46_4 : w45.cell? ⟨gb275, 4, none⟩ = some (.int .i64 a0_4) := (blk_cell BK275.out 4).trans rfl; have hcz46_5 : w45.cell? ⟨gb275, 5, none⟩ = some (.int .i64 a0_5) := (blk_cell BK275.out 5).trans rfl; have hfz46_0 := blk_frozen BK275.out 0; have hfz46_1 := blk_frozen BK275.out 1; have hfz46_2 := blk_frozen BK275.out 2; have hfz46_3 := blk_frozen BK275.out 3; have hfz46_4 := blk_frozen BK275.out 4; have hfz46_5 := blk_frozen BK275.out 5) | ((with_reducible refine gate_callee (f := 65) rfl ?_); refine goesL_ (some 52) rfl rfl Try.func65 (by kernel_rfl) rfl #[.agg #[.int .i64 a0_0, .int .i64 a0_1, .int .i64 a0_2, .int .i64 a0_3, .int .i64 a0_4, .int .i64 a0_5], .int .i64 a2, .int .i64 a4] rfl (by (try simp only [List.map_toArray, List.map_cons, List.map_nil]); first | done | rfl | (simp only [List.length_drop, List.length_take]; rfl)) ?_; (with_reducible refine (place_Area.calls a0_0 a0_1 a0_2 a0_3 a0_4 a0_5 a2 a4 t283 t284 _ A34.out).mono ?_); rintro e w47 ⟨rfl, hb⟩; refine ⟨_, rfl, ?_⟩; have n0_ := Aside0.mk (Kd.R_below (by (with_reducible repeat (first | apply Kd.R_alloc | apply Kd.R_drewN | apply Kd.R_drew)); exact HO282.out) hb); have n1_ := Aside0.mk (blk_below (g := gb275) (o := .cells #[.int .i64 a0_0, .int .i64 a0_1, .int .i64 a0_2, .int .i64 a0_3, .int .i64 a0_4, .int .i64 a0_5] 44 (0, 0)) (by (with_reducible repeat (first | refine blk_drewN ?_ _ | refine blk_drew ?_ | refine blk_alloc ?_ _)); exact BK275.out) hb); have n2_ := Aside0.mk (blk_below (g := gb276) (o := .cells #[.slice A1_0 l1_0.length c1_0, .slice A1_1 l1_1.length c1_1] 25 (0, 0)) (by (with_reducible repeat (first | refine blk_drewN ?_ _ | refine blk_drew ?_ | refine blk_alloc ?_ _)); exact BK276.out) hb); have n3_ := Aside0.mk (blk_below (g := gb277) (o := .cells #[.int .i64 0, .slice none 0 0] 49 (0, 0)) (by (with_reducible repeat (first | refine blk_drewN ?_ _ | refine blk_drew ?_ | refine blk_alloc ?_ _)); exact BK277.out) hb); have n4_ := Aside0.mk (below_step (by repeat (first | (with_reducible first | exact HB.out | apply below_alloc | apply pw_below_drewN | apply below_drew1 | refine below_set ?_ GE275.out | refine below_set ?_ GE276.out | refine below_set ?_ GE277.out) | exact HB.out)) hb); clear HO282; clear BK275; clear BK276; clear BK277; clear HB; have HO282 := n0_; have BK275 := n1_; have BK276 := n2_; have BK277 := n3_; have HB := n4_; clear n0_ n1_ n2_ n3_ n4_; (try clear hb); (try clear hb2); (try clear hk); (try clear hi); obtain ⟨Ao48, co48, eo48⟩ := Kd.R_slice HO282.out; subst eo48; have hcz49_0 : w47.cell? ⟨gb277, 0, none⟩ = some (.int .i64 0) := (blk_cell BK277.out 0).trans rfl; have hcz49_1 : w47.cell? ⟨gb277, 1, none⟩ = some (.slice none 0 0) := (blk_cell BK277.out 1).trans rfl; have hfz49_0 := blk_frozen BK277.out 0; have hfz49_1 := blk_frozen BK277.out 1))
          refine bodyPost_ret (results_ct rfl _ _ gb277 49 #[.int .i64 t283, .slice Ao48 t279.length co48] (0, 0) _ rfl (by (with_reducible repeat (first | refine blk_drewN ?_ _ | refine blk_drew ?_ | refine blk_alloc ?_ _)); refine blk_put (cs := #[.int .i64 t283, .slice none 0 0]) ?_ 1 _ rfl; (with_reducible repeat (first | refine blk_drewN ?_ _ | refine blk_drew ?_ | refine blk_alloc ?_ _)); refine blk_put (cs := #[.int .i64 0, .slice none 0 0]) ?_ 0 _ rfl; (with_reducible repeat (first | refine blk_drewN ?_ _ | refine blk_drew ?_ | refine blk_alloc ?_ _)); exact BK277.out) Try.underlying49 rfl (by kernel_rfl)) rfl ?_
          exact ⟨_, by first | rfl | (simp [errW_none, errW_some] <;> rfl) | (simp [*, errW_none, errW_some] <;> rfl), by (with_reducible repeat (first | apply Kd.R_alloc | apply Kd.R_drewN | apply Kd.R_drew)); exact Kd.R_mono (Kd.R_far (p := ⟨gb277, 1, none⟩) (Kd.R_far (p := ⟨gb277, 0, none⟩) (Kd.R_types HO282.out BK277.out (by decide)) (fun _ hk => hk.2) (.int .i64 t283)) (fun _ hk => hk.2) (.slice Ao48 t279.length co48)) (fun _ hk => trivial), by repeat (first | (with_reducible first | exact HB.out | apply below_alloc | apply pw_below_drewN | apply below_drew1 | refine below_set ?_ GE275.out | refine below_set ?_ GE276.out | refine below_set ?_ GE277.out) | exact HB.out)⟩
        · rw [if_neg c33] at H
          have c33b0 : (t280 == 0) = false := beq_eq_false_iff_ne.mpr c33
          have c33b1 : (t280 != 0) = true := bne_iff_ne.mpr c33
          simp only [Option.some.injEq, Prod.mk.injEq] at H
          obtain ⟨rfl, rfl, rfl⟩ := H
          go_enter Try.func26, Try.ntmps26
          go_wp2_with (first | ((with_reducible refine gate_dst (N := 6) rfl ?_); refine box_event ?hg (N := 6) ?hd (cs := #[.int .i64 a0_0, .int .i64 a0_1, .int .i64 a0_2, .int .i64 a0_3, .int .i64 a0_4, .int .i64 a0_5]) (t := 44) ?hr ?_; (case hd => rfl); (case hg => rfl); (case hr => first | (go_simp; done) | (go_simp; rfl)); intro gb275 hg w50 hbox hb; have n0_ := Aside0.mk (below_step (by repeat (first | (with_reducible first | exact HB.out | apply below_alloc | apply pw_below_drewN | apply below_drew1) | exact HB.out)) hb); have n1_ := Aside0.mk (hbox); have n2_ := Aside0.mk ((by rw [hg]; exact (below_size (by repeat (first | (with_reducible first | exact HB.out | apply below_alloc | apply pw_below_drewN | apply below_drew1) | exact HB.out))) : w.heap.size ≤ gb275)); have n3_ := Aside0.mk ((by rw [hg]; exact (below_size (by repeat (first | (with_reducible first | exact HB.out | apply below_alloc | apply pw_below_drewN | apply below_drew1) | exact HB.out))) : w.heap.size ≤ gb275)); clear HB; have HB := n0_; have BK275 := n1_; have GW275 := n2_; have GE275 := n3_; clear n0_ n1_ n2_ n3_; clear hb hbox hg) | ((with_reducible refine gate_dst (N := 7) rfl ?_); refine box_event ?hg (N := 7) ?hd (cs := #[.slice A1_0 l1_0.length c1_0, .slice A1_1 l1_1.length c1_1]) (t := 25) ?hr ?_; (case hd => rfl); (case hg => rfl); (case hr => first | (go_simp; done) | (go_simp; rfl)); intro gb276 hg w51 hbox hb; have n0_ := Aside0.mk (blk_below (g := gb275) (o := .cells #[.int .i64 a0_0, .int .i64 a0_1, .int .i64 a0_2, .int .i64 a0_3, .int .i64 a0_4, .int .i64 a0_5] 44 (0, 0)) (by (with_reducible repeat (first | refine blk_drewN ?_ _ | refine blk_drew ?_ | refine blk_alloc ?_ _)); exact BK275.out) hb); have n1_ := Aside0.mk (below_step (by repeat (first | (with_reducible first | exact HB.out | apply below_alloc | apply pw_below_drewN | apply below_drew1 | refine below_set ?_ GE275.out) | exact HB.out)) hb); have n2_ := Aside0.mk (hbox); have n3_ := Aside0.mk ((by rw [hg]; exact (below_size (by repeat (first | (with_reducible first | exact HB.out | apply below_alloc | apply pw_below_drewN | apply below_drew1 | refine below_set ?_ GE275.out) | exact HB.out))) : w.heap.size ≤ gb276)); have n4_ := Aside0.mk ((by rw [hg]; exact (below_size (by repeat (first | (with_reducible first | exact HB.out | apply below_alloc | apply pw_below_drewN | apply below_drew1 | refine below_set ?_ GE275.out) | exact HB.out))) : w.heap.size ≤ gb276)); have n5_ := Aside0.mk ((by rw [hg]; exact Nat.ne_of_lt (blk_lt (g := gb275) (o := .cells #[.int .i64 a0_0, .int .i64 a0_1, .int .i64 a0_2, .int .i64 a0_3, .int .i64 a0_4, .int .i64 a0_5] 44 (0, 0)) (by (with_reducible repeat (first | refine blk_drewN ?_ _ | refine blk_drew ?_ | refine blk_alloc ?_ _)); exact BK275.out)) : gb275 ≠ gb276)); have n6_ := Aside0.mk ((by rw [hg]; exact Nat.ne_of_gt (blk_lt (g := gb275) (o := .cells #[.int .i64 a0_0, .int .i64 a0_1, .int .i64 a0_2, .int .i64 a0_3, .int .i64 a0_4, .int .i64 a0_5] 44 (0, 0)) (by (with_reducible repeat (first | refine blk_drewN ?_ _ | refine blk_drew ?_ | refine blk_alloc ?_ _)); exact BK275.out)) : gb276 ≠ gb275)); clear BK275; clear HB; have BK275 := n0_; have HB := n1_; have BK276 := n2_; have GW276 := n3_; have GE276 := n4_; have NB275_276 := n5_; have NB276_275 := n6_; clear n0_ n1_ n2_ n3_ n4_ n5_ n6_; clear hb hbox hg) | ((with_reducible refine gate_dst (N := 12) rfl ?_); refine box_event ?hg (N := 12) ?hd (cs := #[.int .i64 0, .slice none 0 0]) (t := 49) ?hr ?_; (case hd => rfl); (case hg => rfl); (case hr => first | (go_simp; done) | (go_simp; rfl)); intro gb277 hg w52 hbox hb; have n0_ := Aside0.mk (blk_below (g := gb275) (o := .cells #[.int .i64 a0_0, .int .i64 a0_1, .int .i64 a0_2, .int .i64 a0_3, .int .i64 a0_4, .int .i64 a0_5] 44 (0, 0)) (by (with_reducible repeat (first | refine blk_drewN ?_ _ | refine blk_drew ?_ | refine blk_alloc ?_ _)); exact BK275.out) hb); have n1_ := Aside0.mk (blk_below (g := gb276) (o := .cells #[.slice A1_0 l1_0.length c1_0, .slice A1_1 l1_1.length c1_1] 25 (0, 0)) (by (with_reducible repeat (first | refine blk_drewN ?_ _ | refine blk_drew ?_ | refine blk_alloc ?_ _)); exact BK276.out) hb); have n2_ := Aside0.mk (below_step (by repeat (first | (with_reducible first | exact HB.out | apply below_alloc | apply pw_below_drewN | apply below_drew1 | refine below_set ?_ GE275.out | refine below_set ?_ GE276.out) | exact HB.out)) hb); have n3_ := Aside0.mk (hbox); have n4_ := Aside0.mk ((by rw [hg]; exact (below_size (by repeat (first | (with_reducible first | exact HB.out | apply below_alloc | apply pw_below_drewN | apply below_drew1 | refine below_set ?_ GE275.out | refine below_set ?_ GE276.out) | exact HB.out))) : w.heap.size ≤ gb277)); have n5_ := Aside0.mk ((by rw [hg]; exact (below_size (by repeat (first | (with_reducible first | exact HB.out | apply below_alloc | apply pw_below_drewN | apply below_drew1 | refine below_set ?_ GE275.out | refine below_set ?_ GE276.out) | exact HB.out))) : w.heap.size ≤ gb277)); have n6_ := Aside0.mk ((by rw [hg]; exact Nat.ne_of_lt (blk_lt (g := gb275) (o := .cells #[.int .i64 a0_0, .int .i64 a0_1, .int .i64 a0_2, .int .i64 a0_3, .int .i64 a0_4, .int .i64 a0_5] 44 (0, 0)) (by (with_reducible repeat (first | refine blk_drewN ?_ _ | refine blk_drew ?_ | refine blk_alloc ?_ _)); exact BK275.out)) : gb275 ≠ gb277)); have n7_ := Aside0.mk ((by rw [hg]; exact Nat.ne_of_gt (blk_lt (g := gb275) (o := .cells #[.int .i64 a0_0, .int .i64 a0_1, .int .i64 a0_2, .int .i64 a0_3, .int .i64 a0_4, .int .i64 a0_5] 44 (0, 0)) (by (with_reducible repeat (first | refine blk_drewN ?_ _ | refine blk_drew ?_ | refine blk_alloc ?_ _)); exact BK275.out)) : gb277 ≠ gb275)); have n8_ := Aside0.mk ((by rw [hg]; exact Nat.ne_of_lt (blk_lt (g := gb276) (o := .cells #[.slice A1_0 l1_0.length c1_0, .slice A1_1 l1_1.length c1_1] 25 (0, 0)) (by (with_reducible repeat (first | refine blk_drewN ?_ _ | refine blk_drew ?_ | refine blk_alloc ?_ _)); exact BK276.out)) : gb276 ≠ gb277)); have n9_ := Aside0.mk ((by rw [hg]; exact Nat.ne_of_gt (blk_lt (g := gb276) (o := .cells #[.slice A1_0 l1_0.length c1_0, .slice A1_1 l1_1.length c1_1] 25 (0, 0)) (by (with_reducible repeat (first | refine blk_drewN ?_ _ | refine blk_drew ?_ | refine blk_alloc ?_ _)); exact BK276.out)) : gb277 ≠ gb276)); clear BK275; clear BK276; clear HB; have BK275 := n0_; have BK276 := n1_; have HB := n2_; have BK277 := n3_; have GW277 := n4_; have GE277 := n5_; have NB275_277 := n6_; have NB277_275 := n7_; have NB276_277 := n8_; have NB277_276 := n9_; clear n0_ n1_ n2_ n3_ n4_ n5_ n6_ n7_ n8_ n9_; clear hb hbox hg; have hnb53 := NB275_276.out; have hnc53 := NB276_275.out; have hnb54 := NB275_277.out; have hnc54 := NB277_275.out; have hcz55_0 : w52.cell? ⟨gb275, 0, none⟩ = some (.int .i64 a0_0) := (blk_cell BK275.out 0).trans rfl; have hcz55_1 : w52.cell? ⟨gb275, 1, none⟩ = some (.int .i64 a0_1) := (blk_cell BK275.out 1).trans rfl; have hcz55_2 : w52.cell? ⟨gb275, 2, none⟩ = some (.int .i64 a0_2) := (blk_cell BK275.out 2).trans rfl; have hcz55_3 : w52.cell? ⟨gb275, 3, none⟩ = some (.int .i64 a0_3) := (blk_cell BK275.out 3).trans rfl; have hcz55_4 : w52.cell? ⟨gb275, 4, none⟩ = some (.int .i64 a0_4) := (blk_cell BK275.out 4).trans rfl; have hcz55_5 : w52.cell? ⟨gb275, 5, none⟩ = some (.int .i64 a0_5) := (blk_cell BK275.out 5).trans rfl; have hfz55_0 := blk_frozen BK275.out 0; have hfz55_1 := blk_frozen BK275.out 1; have hfz55_2 := blk_frozen BK275.out 2; have hfz55_3 := blk_frozen BK275.out 3; have hfz55_4 := blk_frozen BK275.out 4; have hfz55_5 := blk_frozen BK275.out 5; have hnb56 := NB276_277.out; have hnc56 := NB277_276.out; have hcz57_0 : w52.cell? ⟨gb276, 0, none⟩ = some (.slice A1_0 l1_0.length c1_0) := (blk_cell BK276.out 0).trans rfl; have hcz57_1 : w52.cell? ⟨gb276, 1, none⟩ = some (.slice A1_1 l1_1.length c1_1) := (blk_cell BK276.out 1).trans rfl; have hfz57_0 := blk_frozen BK276.out 0; have hfz57_1 := blk_frozen BK276.out 1) | ((with_reducible refine gate_callee (f := 64) rfl ?_); refine goesL_ (some 21) rfl rfl Try.func64 (by kernel_rfl) rfl #[.agg #[.int .i64 a0_0, .int .i64 a0_1, .int .i64 a0_2, .int .i64 a0_3, .int .i64 a0_4, .int .i64 a0_5], .agg #[.slice A1_0 l1_0.length c1_0, .slice A1_1 l1_1.length c1_1], .int .i64 a2] rfl (by (try simp only [List.map_toArray, List.map_cons, List.map_nil]); first | done | rfl | (simp only [List.length_drop, List.length_take]; rfl)) ?_; (with_reducible refine (journal_asked.calls a0_0 a0_1 a0_2 a0_3 a0_4 a0_5 _ _ l1_0 _ _ l1_1 a2 t278 _ ?side1 ?side2 ?side3 ?side4 A7.out).mono ?_); (case side1 => repeat (first | exact (Kd.C_below HR1_0.out HB.out) | (with_reducible refine Kd.C_alloc ?_ _) | (with_reducible refine Kd.C_drewN ?_ _) | (with_reducible refine Kd.C_drew ?_))); (case side2 => exact HC1_0.out); (case side3 => repeat (first | exact (Kd.C_below HR1_1.out HB.out) | (with_reducible refine Kd.C_alloc ?_ _) | (with_reducible refine Kd.C_drewN ?_ _) | (with_reducible refine Kd.C_drew ?_))); (case side4 => exact HC1_1.out); rintro e w58 ⟨rfl, hb⟩; refine ⟨_, rfl, ?_⟩; have n0_ := Aside0.mk (blk_below (g := gb275) (o := .cells #[.int .i64 a0_0, .int .i64 a0_1, .int .i64 a0_2, .int .i64 a0_3, .int .i64 a0_4, .int .i64 a0_5] 44 (0, 0)) (by (with_reducible repeat (first | refine blk_drewN ?_ _ | refine blk_drew ?_ | refine blk_alloc ?_ _)); exact BK275.out) hb); have n1_ := Aside0.mk (blk_below (g := gb276) (o := .cells #[.slice A1_0 l1_0.length c1_0, .slice A1_1 l1_1.length c1_1] 25 (0, 0)) (by (with_reducible repeat (first | refine blk_drewN ?_ _ | refine blk_drew ?_ | refine blk_alloc ?_ _)); exact BK276.out) hb); have n2_ := Aside0.mk (blk_below (g := gb277) (o := .cells #[.int .i64 0, .slice none 0 0] 49 (0, 0)) (by (with_reducible repeat (first | refine blk_drewN ?_ _ | refine blk_drew ?_ | refine blk_alloc ?_ _)); exact BK277.out) hb); have n3_ := Aside0.mk (below_step (by repeat (first | (with_reducible first | exact HB.out | apply below_alloc | apply pw_below_drewN | apply below_drew1 | refine below_set ?_ GE275.out | refine below_set ?_ GE276.out | refine below_set ?_ GE277.out) | exact HB.out)) hb); clear BK275; clear BK276; clear BK277; clear HB; have BK275 := n0_; have BK276 := n1_; have BK277 := n2_; have HB := n3_; clear n0_ n1_ n2_ n3_; (try clear hb); (try clear hb2); (try clear hk); (try clear hi); have hcz59_0 : w58.cell? ⟨gb275, 0, none⟩ = some (.int .i64 a0_0) := (blk_cell BK275.out 0).trans rfl; have hcz59_1 : w58.cell? ⟨gb275, 1, none⟩ = some (.int .i64 a0_1) := (blk_cell BK275.out 1).trans rfl; have hcz59_2 : w58.cell? ⟨gb275, 2, none⟩ = some (.int .i64 a0_2) := (blk_cell BK275.out 2).trans rfl; have hcz59_3 : w58.cell? ⟨gb275, 3, none⟩ = some (.int .i64 a0_3) := (blk_cell BK275.out 3).trans rfl; have hcz59_4 : w58.cell? ⟨gb275, 4, none⟩ = some (.int .i64 a0_4) := (blk_cell BK275.out 4).trans rfl; have hcz59_5 : w58.cell? ⟨gb275, 5, none⟩ = some (.int .i64 a0_5) := (blk_cell BK275.out 5).trans rfl; have hfz59_0 := blk_frozen BK275.out 0; have hfz59_1 := blk_frozen BK275.out 1; have hfz59_2 := blk_frozen BK275.out 2; have hfz59_3 := blk_frozen BK275.out 3; have hfz59_4 := blk_frozen BK275.out 4; have hfz59_5 := blk_frozen BK275.out 5) | ((with_reducible refine gate_callee (f := 28) rfl ?_); refine goesL_ (some 41) rfl rfl Try.func28 (by kernel_rfl) rfl #[.int .u64 a3, .int .i64 a4, .slice A5 l5.length c5] rfl (by (try simp only [List.map_toArray, List.map_cons, List.map_nil]); first | done | rfl | (simp only [List.length_drop, List.length_take]; rfl)) ?_; (with_reducible refine (journal_Text.calls k a3 a4 _ _ l5 t279 t280 _ ?side1 ?side2 A32.out).mono ?_); (case side1 => repeat (first | exact (Kd.C_below HR5.out HB.out) | (with_reducible refine Kd.C_alloc ?_ _) | (with_reducible refine Kd.C_drewN ?_ _) | (with_reducible refine Kd.C_drew ?_))); (case side2 => exact HC5.out); rintro e w60 ⟨v281, rfl, ho0, hb⟩; refine ⟨_, rfl, ?_⟩; have n0_ := Aside0.mk (Kd.R_lower ho0 (below_size (by repeat (first | (with_reducible first | exact HB.out | apply below_alloc | apply pw_below_drewN | apply below_drew1 | refine below_set ?_ GE275.out | refine below_set ?_ GE276.out | refine below_set ?_ GE277.out) | exact HB.out)))); have n1_ := Aside0.mk (blk_below (g := gb275) (o := .cells #[.int .i64 a0_0, .int .i64 a0_1, .int .i64 a0_2, .int .i64 a0_3, .int .i64 a0_4, .int .i64 a0_5] 44 (0, 0)) (by (with_reducible repeat (first | refine blk_drewN ?_ _ | refine blk_drew ?_ | refine blk_alloc ?_ _)); exact BK275.out) hb); have n2_ := Aside0.mk (blk_below (g := gb276) (o := .cells #[.slice A1_0 l1_0.length c1_0, .slice A1_1 l1_1.length c1_1] 25 (0, 0)) (by (with_reducible repeat (first | refine blk_drewN ?_ _ | refine blk_drew ?_ | refine blk_alloc ?_ _)); exact BK276.out) hb); have n3_ := Aside0.mk (blk_below (g := gb277) (o := .cells #[.int .i64 0, .slice none 0 0] 49 (0, 0)) (by (with_reducible repeat (first | refine blk_drewN ?_ _ | refine blk_drew ?_ | refine blk_alloc ?_ _)); exact BK277.out) hb); have n4_ := Aside0.mk (below_step (by repeat (first | (with_reducible first | exact HB.out | apply below_alloc | apply pw_below_drewN | apply below_drew1 | refine below_set ?_ GE275.out | refine below_set ?_ GE276.out | refine below_set ?_ GE277.out) | exact HB.out)) hb); clear BK275; clear BK276; clear BK277; clear HB; have HO282 := n0_; have BK275 := n1_; have BK276 := n2_; have BK277 := n3_; have HB := n4_; clear n0_ n1_ n2_ n3_ n4_; (try clear hb); (try clear hb2); (try clear hk); (try clear hi); (try clear ho0); have hcz61_0 : w60.cell? ⟨gb277, 0, none⟩ = some (.int .i64 0) := (blk_cell BK277.out 0).trans rfl; have hcz61_1 : w60.cell? ⟨gb277, 1, none⟩ = some (.slice none 0 0) := (blk_cell BK277.out 1).trans rfl; have hfz61_0 := blk_frozen BK277.out 0; have hfz61_1 := blk_frozen BK277.out 1))
          refine bodyPost_ret (results_ct rfl _ _ gb277 49 #[.int .i64 0, .slice none 0 0] (0, 0) _ rfl (by (with_reducible repeat (first | refine blk_drewN ?_ _ | refine blk_drew ?_ | refine blk_alloc ?_ _)); refine blk_put (cs := #[.int .i64 0, .slice none 0 0]) ?_ 1 _ rfl; (with_reducible repeat (first | refine blk_drewN ?_ _ | refine blk_drew ?_ | refine blk_alloc ?_ _)); refine blk_put (cs := #[.int .i64 0, .slice none 0 0]) ?_ 0 _ rfl; (with_reducible repeat (first | refine blk_drewN ?_ _ | refine blk_drew ?_ | refine blk_alloc ?_ _)); exact BK277.out) Try.underlying49 rfl (by kernel_rfl)) rfl ?_
          exact ⟨_, by first | rfl | (simp [errW_none, errW_some] <;> rfl) | (simp [*, errW_none, errW_some] <;> rfl), by first | exact Kd.R_nil _ _ _ _ _ | exact Kd.N_nil _ _ _ _ _ | exact Kd.V_nil _ _ _ _ _ | exact Kd.Q_nil _ _ _ _ _ | exact Kd.S_nil _ _ _ _ _, by repeat (first | (with_reducible first | exact HB.out | apply below_alloc | apply pw_below_drewN | apply below_drew1 | refine below_set ?_ GE275.out | refine below_set ?_ GE276.out | refine below_set ?_ GE277.out) | exact HB.out)⟩
  · rw [if_neg c8] at H
    have c8b0 : (t278 == 0) = false := beq_eq_false_iff_ne.mpr c8
    have c8b1 : (t278 != 0) = true := bne_iff_ne.mpr c8
    simp only [Option.some.injEq, Prod.mk.injEq] at H
    obtain ⟨rfl, rfl, rfl⟩ := H
    go_enter Try.func26, Try.ntmps26
    go_wp2_with (first | ((with_reducible refine gate_dst (N := 6) rfl ?_); refine box_event ?hg (N := 6) ?hd (cs := #[.int .i64 a0_0, .int .i64 a0_1, .int .i64 a0_2, .int .i64 a0_3, .int .i64 a0_4, .int .i64 a0_5]) (t := 44) ?hr ?_; (case hd => rfl); (case hg => rfl); (case hr => first | (go_simp; done) | (go_simp; rfl)); intro gb275 hg w62 hbox hb; have n0_ := Aside0.mk (below_step (by repeat (first | (with_reducible first | exact HB.out | apply below_alloc | apply pw_below_drewN | apply below_drew1) | exact HB.out)) hb); have n1_ := Aside0.mk (hbox); have n2_ := Aside0.mk ((by rw [hg]; exact (below_size (by repeat (first | (with_reducible first | exact HB.out | apply below_alloc | apply pw_below_drewN | apply below_drew1) | exact HB.out))) : w.heap.size ≤ gb275)); have n3_ := Aside0.mk ((by rw [hg]; exact (below_size (by repeat (first | (with_reducible first | exact HB.out | apply below_alloc | apply pw_below_drewN | apply below_drew1) | exact HB.out))) : w.heap.size ≤ gb275)); clear HB; have HB := n0_; have BK275 := n1_; have GW275 := n2_; have GE275 := n3_; clear n0_ n1_ n2_ n3_; clear hb hbox hg) | ((with_reducible refine gate_dst (N := 7) rfl ?_); refine box_event ?hg (N := 7) ?hd (cs := #[.slice A1_0 l1_0.length c1_0, .slice A1_1 l1_1.length c1_1]) (t := 25) ?hr ?_; (case hd => rfl); (case hg => rfl); (case hr => first | (go_simp; done) | (go_simp; rfl)); intro gb276 hg w63 hbox hb; have n0_ := Aside0.mk (blk_below (g := gb275) (o := .cells #[.int .i64 a0_0, .int .i64 a0_1, .int .i64 a0_2, .int .i64 a0_3, .int .i64 a0_4, .int .i64 a0_5] 44 (0, 0)) (by (with_reducible repeat (first | refine blk_drewN ?_ _ | refine blk_drew ?_ | refine blk_alloc ?_ _)); exact BK275.out) hb); have n1_ := Aside0.mk (below_step (by repeat (first | (with_reducible first | exact HB.out | apply below_alloc | apply pw_below_drewN | apply below_drew1 | refine below_set ?_ GE275.out) | exact HB.out)) hb); have n2_ := Aside0.mk (hbox); have n3_ := Aside0.mk ((by rw [hg]; exact (below_size (by repeat (first | (with_reducible first | exact HB.out | apply below_alloc | apply pw_below_drewN | apply below_drew1 | refine below_set ?_ GE275.out) | exact HB.out))) : w.heap.size ≤ gb276)); have n4_ := Aside0.mk ((by rw [hg]; exact (below_size (by repeat (first | (with_reducible first | exact HB.out | apply below_alloc | apply pw_below_drewN | apply below_drew1 | refine below_set ?_ GE275.out) | exact HB.out))) : w.heap.size ≤ gb276)); have n5_ := Aside0.mk ((by rw [hg]; exact Nat.ne_of_lt (blk_lt (g := gb275) (o := .cells #[.int .i64 a0_0, .int .i64 a0_1, .int .i64 a0_2, .int .i64 a0_3, .int .i64 a0_4, .int .i64 a0_5] 44 (0, 0)) (by (with_reducible repeat (first | refine blk_drewN ?_ _ | refine blk_drew ?_ | refine blk_alloc ?_ _)); exact BK275.out)) : gb275 ≠ gb276)); have n6_ := Aside0.mk ((by rw [hg]; exact Nat.ne_of_gt (blk_lt (g := gb275) (o := .cells #[.int .i64 a0_0, .int .i64 a0_1, .int .i64 a0_2, .int .i64 a0_3, .int .i64 a0_4, .int .i64 a0_5] 44 (0, 0)) (by (with_reducible repeat (first | refine blk_drewN ?_ _ | refine blk_drew ?_ | refine blk_alloc ?_ _)); exact BK275.out)) : gb276 ≠ gb275)); clear BK275; clear HB; have BK275 := n0_; have HB := n1_; have BK276 := n2_; have GW276 := n3_; have GE276 := n4_; have NB275_276 := n5_; have NB276_275 := n6_; clear n0_ n1_ n2_ n3_ n4_ n5_ n6_; clear hb hbox hg) | ((with_reducible refine gate_dst (N := 12) rfl ?_); refine box_event ?hg (N := 12) ?hd (cs := #[.int .i64 0, .slice none 0 0]) (t := 49) ?hr ?_; (case hd => rfl); (case hg => rfl); (case hr => first | (go_simp; done) | (go_simp; rfl)); intro gb277 hg w64 hbox hb; have n0_ := Aside0.mk (blk_below (g := gb275) (o := .cells #[.int .i64 a0_0, .int .i64 a0_1, .int .i64 a0_2, .int .i64 a0_3, .int .i64 a0_4, .int .i64 a0_5] 44 (0, 0)) (by (with_reducible repeat (first | refine blk_drewN ?_ _ | refine blk_drew ?_ | refine blk_alloc ?_ _)); exact BK275.out) hb); have n1_ := Aside0.mk (blk_below (g := gb276) (o := .cells #[.slice A1_0 l1_0.length c1_0, .slice A1_1 l1_1.length c1_1] 25 (0, 0)) (by (with_reducible repeat (first | refine blk_drewN ?_ _ | refine blk_drew ?_ | refine blk_alloc ?_ _)); exact BK276.out) hb); have n2_ := Aside0.mk (below_step (by repeat (first | (with_reducible first | exact HB.out | apply below_alloc | apply pw_below_drewN | apply below_drew1 | refine below_set ?_ GE275.out | refine below_set ?_ GE276.out) | exact HB.out)) hb); have n3_ := Aside0.mk (hbox); have n4_ := Aside0.mk ((by rw [hg]; exact (below_size (by repeat (first | (with_reducible first | exact HB.out | apply below_alloc | apply pw_below_drewN | apply below_drew1 | refine below_set ?_ GE275.out | refine below_set ?_ GE276.out) | exact HB.out))) : w.heap.size ≤ gb277)); have n5_ := Aside0.mk ((by rw [hg]; exact (below_size (by repeat (first | (with_reducible first | exact HB.out | apply below_alloc | apply pw_below_drewN | apply below_drew1 | refine below_set ?_ GE275.out | refine below_set ?_ GE276.out) | exact HB.out))) : w.heap.size ≤ gb277)); have n6_ := Aside0.mk ((by rw [hg]; exact Nat.ne_of_lt (blk_lt (g := gb275) (o := .cells #[.int .i64 a0_0, .int .i64 a0_1, .int .i64 a0_2, .int .i64 a0_3, .int .i64 a0_4, .int .i64 a0_5] 44 (0, 0)) (by (with_reducible repeat (first | refine blk_drewN ?_ _ | refine blk_drew ?_ | refine blk_alloc ?_ _)); exact BK275.out)) : gb275 ≠ gb277)); have n7_ := Aside0.mk ((by rw [hg]; exact Nat.ne_of_gt (blk_lt (g := gb275) (o := .cells #[.int .i64 a0_0, .int .i64 a0_1, .int .i64 a0_2, .int .i64 a0_3, .int .i64 a0_4, .int .i64 a0_5] 44 (0, 0)) (by (with_reducible repeat (first | refine blk_drewN ?_ _ | refine blk_drew ?_ | refine blk_alloc ?_ _)); exact BK275.out)) : gb277 ≠ gb275)); have n8_ := Aside0.mk ((by rw [hg]; exact Nat.ne_of_lt (blk_lt (g := gb276) (o := .cells #[.slice A1_0 l1_0.length c1_0, .slice A1_1 l1_1.length c1_1] 25 (0, 0)) (by (with_reducible repeat (first | refine blk_drewN ?_ _ | refine blk_drew ?_ | refine blk_alloc ?_ _)); exact BK276.out)) : gb276 ≠ gb277)); have n9_ := Aside0.mk ((by rw [hg]; exact Nat.ne_of_gt (blk_lt (g := gb276) (o := .cells #[.slice A1_0 l1_0.length c1_0, .slice A1_1 l1_1.length c1_1] 25 (0, 0)) (by (with_reducible repeat (first | refine blk_drewN ?_ _ | refine blk_drew ?_ | refine blk_alloc ?_ _)); exact BK276.out)) : gb277 ≠ gb276)); clear BK275; clear BK276; clear HB; have BK275 := n0_; have BK276 := n1_; have HB := n2_; have BK277 := n3_; have GW277 := n4_; have GE277 := n5_; have NB275_277 := n6_; have NB277_275 := n7_; have NB276_277 := n8_; have NB277_276 := n9_; clear n0_ n1_ n2_ n3_ n4_ n5_ n6_ n7_ n8_ n9_; clear hb hbox hg; have hnb65 := NB275_276.out; have hnc65 := NB276_275.out; have hnb66 := NB275_277.out; have hnc66 := NB277_275.out; have hcz67_0 : w64.cell? ⟨gb275, 0, none⟩ = some (.int .i64 a0_0) := (blk_cell BK275.out 0).trans rfl; have hcz67_1 : w64.cell? ⟨gb275, 1, none⟩ = some (.int .i64 a0_1) := (blk_cell BK275.out 1).trans rfl; have hcz67_2 : w64.cell? ⟨gb275, 2, none⟩ = some (.int .i64 a0_2) := (blk_cell BK275.out 2).trans rfl; have hcz67_3 : w64.cell? ⟨gb275, 3, none⟩ = some (.int .i64 a0_3) := (blk_cell BK275.out 3).trans rfl; have hcz67_4 : w64.cell? ⟨gb275, 4, none⟩ = some (.int .i64 a0_4) := (blk_cell BK275.out 4).trans rfl; have hcz67_5 : w64.cell? ⟨gb275, 5, none⟩ = some (.int .i64 a0_5) := (blk_cell BK275.out 5).trans rfl; have hfz67_0 := blk_frozen BK275.out 0; have hfz67_1 := blk_frozen BK275.out 1; have hfz67_2 := blk_frozen BK275.out 2; have hfz67_3 := blk_frozen BK275.out 3; have hfz67_4 := blk_frozen BK275.out 4; have hfz67_5 := blk_frozen BK275.out 5; have hnb68 := NB276_277.out; have hnc68 := NB277_276.out; have hcz69_0 : w64.cell? ⟨gb276, 0, none⟩ = some (.slice A1_0 l1_0.length c1_0) := (blk_cell BK276.out 0).trans rfl; have hcz69_1 : w64.cell? ⟨gb276, 1, none⟩ = some (.slice A1_1 l1_1.length c1_1) := (blk_cell BK276.out 1).trans rfl; have hfz69_0 := blk_frozen BK276.out 0; have hfz69_1 := blk_frozen BK276.out 1) | ((with_reducible refine gate_callee (f := 64) rfl ?_); refine goesL_ (some 21) rfl rfl Try.func64 (by kernel_rfl) rfl #[.agg #[.int .i64 a0_0, .int .i64 a0_1, .int .i64 a0_2, .int .i64 a0_3, .int .i64 a0_4, .int .i64 a0_5], .agg #[.slice A1_0 l1_0.length c1_0, .slice A1_1 l1_1.length c1_1], .int .i64 a2] rfl (by (try simp only [List.map_toArray, List.map_cons, List.map_nil]); first | done | rfl | (simp only [List.length_drop, List.length_take]; rfl)) ?_; (with_reducible refine (journal_asked.calls a0_0 a0_1 a0_2 a0_3 a0_4 a0_5 _ _ l1_0 _ _ l1_1 a2 t278 _ ?side1 ?side2 ?side3 ?side4 A7.out).mono ?_); (case side1 => repeat (first | exact (Kd.C_below HR1_0.out HB.out) | (with_reducible refine Kd.C_alloc ?_ _) | (with_reducible refine Kd.C_drewN ?_ _) | (with_reducible refine Kd.C_drew ?_))); (case side2 => exact HC1_0.out); (case side3 => repeat (first | exact (Kd.C_below HR1_1.out HB.out) | (with_reducible refine Kd.C_alloc ?_ _) | (with_reducible refine Kd.C_drewN ?_ _) | (with_reducible refine Kd.C_drew ?_))); (case side4 => exact HC1_1.out); rintro e w70 ⟨rfl, hb⟩; refine ⟨_, rfl, ?_⟩; have n0_ := Aside0.mk (blk_below (g := gb275) (o := .cells #[.int .i64 a0_0, .int .i64 a0_1, .int .i64 a0_2, .int .i64 a0_3, .int .i64 a0_4, .int .i64 a0_5] 44 (0, 0)) (by (with_reducible repeat (first | refine blk_drewN ?_ _ | refine blk_drew ?_ | refine blk_alloc ?_ _)); exact BK275.out) hb); have n1_ := Aside0.mk (blk_below (g := gb276) (o := .cells #[.slice A1_0 l1_0.length c1_0, .slice A1_1 l1_1.length c1_1] 25 (0, 0)) (by (with_reducible repeat (first | refine blk_drewN ?_ _ | refine blk_drew ?_ | refine blk_alloc ?_ _)); exact BK276.out) hb); have n2_ := Aside0.mk (blk_below (g := gb277) (o := .cells #[.int .i64 0, .slice none 0 0] 49 (0, 0)) (by (with_reducible repeat (first | refine blk_drewN ?_ _ | refine blk_drew ?_ | refine blk_alloc ?_ _)); exact BK277.out) hb); have n3_ := Aside0.mk (below_step (by repeat (first | (with_reducible first | exact HB.out | apply below_alloc | apply pw_below_drewN | apply below_drew1 | refine below_set ?_ GE275.out | refine below_set ?_ GE276.out | refine below_set ?_ GE277.out) | exact HB.out)) hb); clear BK275; clear BK276; clear BK277; clear HB; have BK275 := n0_; have BK276 := n1_; have BK277 := n2_; have HB := n3_; clear n0_ n1_ n2_ n3_; (try clear hb); (try clear hb2); (try clear hk); (try clear hi); have hcz71_0 : w70.cell? ⟨gb277, 0, none⟩ = some (.int .i64 0) := (blk_cell BK277.out 0).trans rfl; have hcz71_1 : w70.cell? ⟨gb277, 1, none⟩ = some (.slice none 0 0) := (blk_cell BK277.out 1).trans rfl; have hfz71_0 := blk_frozen BK277.out 0; have hfz71_1 := blk_frozen BK277.out 1))
    refine bodyPost_ret (results_ct rfl _ _ gb277 49 #[.int .i64 0, .slice none 0 0] (0, 0) _ rfl (by (with_reducible repeat (first | refine blk_drewN ?_ _ | refine blk_drew ?_ | refine blk_alloc ?_ _)); refine blk_put (cs := #[.int .i64 0, .slice none 0 0]) ?_ 1 _ rfl; (with_reducible repeat (first | refine blk_drewN ?_ _ | refine blk_drew ?_ | refine blk_alloc ?_ _)); refine blk_put (cs := #[.int .i64 0, .slice none 0 0]) ?_ 0 _ rfl; (with_reducible repeat (first | refine blk_drewN ?_ _ | refine blk_drew ?_ | refine blk_alloc ?_ _)); exact BK277.out) Try.underlying49 rfl (by kernel_rfl)) rfl ?_
    exact ⟨_, by first | rfl | (simp [errW_none, errW_some] <;> rfl) | (simp [*, errW_none, errW_some] <;> rfl), by first | exact Kd.R_nil _ _ _ _ _ | exact Kd.N_nil _ _ _ _ _ | exact Kd.V_nil _ _ _ _ _ | exact Kd.Q_nil _ _ _ _ _ | exact Kd.S_nil _ _ _ _ _, by repeat (first | (with_reducible first | exact HB.out | apply below_alloc | apply pw_below_drewN | apply below_drew1 | refine below_set ?_ GE275.out | refine below_set ?_ GE276.out | refine below_set ?_ GE277.out) | exact HB.out)⟩
end Go.Proofs.Ytdkjhcdniepbhaa.P
end
section
set_option linter.unusedVariables false
set_option linter.unusedSimpArgs false
namespace Go.Proofs.Ytdkjhcdniepbhaa.P
open Go.RowKit Go.Proofs.PrintWords Go.Proofs.PrintLast Go.Proofs.PrintMore
attribute [local go_sem] max2_int min2_int max_two min_two max_three min_three max_four min_four
def nums5 (gen n m : Int) : List Int := [gen, 1, n, m, 0]
def sizes5 : List Int := [8, 1, 1, 1, 1]
def jSector (gen n : Int) (b : List Int) : List Int := rowTo (nums5 gen n b.length) sizes5 5 ++ b ++ List.replicate (20 - b.length) 0
def jText (gen n : Int) (b : List Int) : List Int × Int := if b.length < 1 ∨ 20 < b.length then ([], 4) else if n < 0 ∨ 255 < n then ([], 2) else (jSector gen n b, 0)
theorem u64_wrap_small {a : Int} (h0 : 0 ≤ a) (h1 : a < 18446744073709551616) : IntKind.u64.wrap a = a := by simp [IntKind.wrap, IntKind.bits, IntKind.signed]; omega
theorem sizes5_ok : sizesOk sizes5 = true := by decide
theorem row5_length (gen n m : Int) : (rowTo (nums5 gen n m) sizes5 5).length = 12 := by
  have h := rowTo_length (l := nums5 gen n m) sizes5_ok 5 (by decide)
  have : atTo sizes5 5 = 12 := by decide
  omega
theorem fit5 {gen n m : Int} (hg : 0 ≤ gen ∧ gen < 18446744073709551616) (hn : 0 ≤ n ∧ n ≤ 255) (hm : 0 ≤ m ∧ m ≤ 255) : fitTo (nums5 gen n m) sizes5 5 = true := by
  have e0 : rd (nums5 gen n m) ((0 : Nat) : Int) = gen := rfl
  have e1 : rd (nums5 gen n m) ((1 : Nat) : Int) = 1 := rfl
  have e2 : rd (nums5 gen n m) ((2 : Nat) : Int) = n := rfl
  have e3 : rd (nums5 gen n m) ((3 : Nat) : Int) = m := rfl
  have e4 : rd (nums5 gen n m) ((4 : Nat) : Int) = 0 := rfl
  have z0 : (rd sizes5 ((0 : Nat) : Int)).toNat = 8 := rfl
  have z1 : (rd sizes5 ((1 : Nat) : Int)).toNat = 1 := rfl
  have z2 : (rd sizes5 ((2 : Nat) : Int)).toNat = 1 := rfl
  have z3 : (rd sizes5 ((3 : Nat) : Int)).toNat = 1 := rfl
  have z4 : (rd sizes5 ((4 : Nat) : Int)).toNat = 1 := rfl
  simp only [fitTo, e0, e1, e2, e3, e4, z0, z1, z2, z3, z4, Bool.true_and, Bool.and_eq_true, beq_iff_eq]
  refine ⟨⟨⟨⟨?_, ?_⟩, ?_⟩, ?_⟩, ?_⟩ <;> omega
theorem jText_is (k : Nat) (hk : 3 ≤ k) {gen n : Int} {b : List Int} (hg : 0 ≤ gen ∧ gen < 18446744073709551616) : journal_Text.f k gen n b = some (jText gen n b) := by
  obtain ⟨k, rfl⟩ : ∃ m, k = m + 2 := ⟨k - 2, by omega⟩
  unfold journal_Text.f jText
  have key : ∀ c : Bool, c = decide (b.length < 1 ∨ 20 < b.length) → journal_Text.j0 (k + 2) gen n b c = some (if b.length < 1 ∨ 20 < b.length then ([], 4) else if n < 0 ∨ 255 < n then ([], 2) else (jSector gen n b, 0)) := by
    intro c hc
    subst hc
    simp only [journal_Text.j0]
    by_cases h : b.length < 1 ∨ 20 < b.length
    · rw [if_pos (by simpa using h), if_pos h]
    · rw [if_neg (by simpa using h), if_neg h]
      have key2 : ∀ c : Bool, c = decide (n < 0 ∨ 255 < n) → journal_Text.j1 (k + 1) gen n b c = some (if n < 0 ∨ 255 < n then ([], 2) else (jSector gen n b, 0)) := by
        intro c hc
        subst hc
        simp only [journal_Text.j1]
        by_cases h2 : n < 0 ∨ 255 < n
        · rw [if_pos (by simpa using h2), if_pos h2]
        · rw [if_neg (by simpa using h2), if_neg h2]
          unfold journal_head.f
          rw [Option.bind_some, u64_wrap_small (a := n) (by omega) (by omega), u64_wrap_small (a := (b.length : Int)) (by omega) (by omega)]
          have hw : hNumWrite.f [gen, 1, n, (b.length : Int), 0] [8, 1, 1, 1, 1] = some (rowTo (nums5 gen n b.length) sizes5 5, 0) := by
            show hNumWrite.f (nums5 gen n b.length) sizes5 = _
            unfold hNumWrite.f
            rw [if_pos ⟨sizes5_ok, rfl⟩, if_pos, show (nums5 gen n (b.length : Int)).length = 5 from rfl, fit5 hg (by omega) (by omega)]
            · rfl
            · simp only [nums5, List.all_cons, List.all_nil, Bool.and_true, Bool.and_eq_true, decide_eq_true_eq]
              omega
          have hl := row5_length gen n b.length
          rw [hw, Option.bind_some, if_pos (by simp only [hl]; omega), Option.bind_some, wrap_small (a := 20 - (b.length : Int)) (by omega) (by omega), if_pos (by omega), if_pos (by simp only [List.length_append, hl]; omega)]
          unfold jSector
          rw [show (20 - (b.length : Int)).toNat = 20 - b.length by omega]
      by_cases h2 : n < 0
      · rw [if_pos h2, key2 true (decide_eq_true (Or.inl (by omega))).symm]
      · rw [if_neg h2, key2 _ (decide_eq_decide.2 (by omega))]
  by_cases h : (b.length : Int) < 1
  · rw [if_pos h, key true (decide_eq_true (Or.inl (by omega))).symm]
  · rw [if_neg h, key _ (decide_eq_decide.2 (by omega))]
theorem digits_l0 (s : Nat) (hs : s ≤ 8) (x : Int) (h0 : 0 ≤ x) (h1 : x < 18446744073709551616) : ∀ d k n, s = n + d → d < k → ∀ y, y = x / 256 ^ n → catamaranref01_Digits.l0 k y s (beN n x) (n : Int) = some (beN s x, x / 256 ^ s == 0)
  | 0, k, n, hn, hk, y, hy => by
    obtain ⟨k, rfl⟩ : ∃ m, k = m + 1 := ⟨k - 1, by omega⟩
    obtain rfl : s = n := by omega
    simp only [catamaranref01_Digits.l0]
    rw [if_neg (by omega), hy]
  | d + 1, k, n, hn, hk, y, hy => by
    obtain ⟨k, rfl⟩ : ∃ m, k = m + 1 := ⟨k - 1, by omega⟩
    have hy0 : 0 ≤ y := by rw [hy]; exact Int.ediv_nonneg h0 (Int.pow_nonneg (by decide))
    have hy1 : y ≤ x := by rw [hy]; exact Int.ediv_le_self _ h0
    simp only [catamaranref01_Digits.l0]
    rw [if_pos (by omega), Option.bind_some, if_pos (by simp only [List.length_cons, List.length_nil, beN_length]; omega), wrap_succ (by omega)]
    have e1 : Int.tmod y 256 % 256 = x / 256 ^ n % 256 := by rw [Int.tmod_eq_emod_of_nonneg hy0, Int.emod_emod_of_dvd _ (Int.dvd_refl _), hy]
    have e2 : IntKind.u64.wrap (Int.tdiv y 256) = x / 256 ^ (n + 1) := by rw [Int.tdiv_eq_ediv_of_nonneg hy0, u64_wrap_small (by omega) (by omega), hy, pow256_succ]
    rw [e1, e2]
    exact digits_l0 s hs x h0 h1 d k (n + 1) (by omega) (by omega) _ rfl
theorem digits_is (k : Nat) (hk : 10 ≤ k) (s : Nat) (hs : s ≤ 8) (x : Int) (h0 : 0 ≤ x) (h1 : x < 18446744073709551616) : catamaranref01_Digits.f k x s = some (beN s x, x / 256 ^ s == 0) := digits_l0 s hs x h0 h1 s k 0 (by omega) (by omega) x (by simp)
theorem row_l0 (k0 : Nat) (hk0 : 10 ≤ k0) (l z : List Int) (hz : sizesOk z = true) (hl : l.length = z.length) (hx : ∀ k, k < l.length → 0 ≤ rd l (k : Int) ∧ rd l (k : Int) < 18446744073709551616) : ∀ d k n, l.length = n + d → d + k0 < k → catamaranref01_Row.l0 k l z (rowTo l z n) (n : Int) = some (rowTo l z l.length)
  | 0, k, n, hn, hk => by
    obtain ⟨k, rfl⟩ : ∃ m, k = m + 1 := ⟨k - 1, by omega⟩
    simp only [catamaranref01_Row.l0]
    rw [if_neg (by omega), show n = l.length by omega]
  | d + 1, k, n, hn, hk => by
    obtain ⟨k, rfl⟩ : ∃ m, k = m + 1 := ⟨k - 1, by omega⟩
    have hs := sizesOk_at hz (show n < z.length by omega)
    have hxx := hx n (by omega)
    have hb := rowTo_length (l := l) hz n (by omega)
    have hb2 := atTo_bound hz n (by omega)
    have hz16 := sizesOk_len hz
    obtain ⟨s, hse⟩ := Int.eq_ofNat_of_zero_le (show 0 ≤ rd z (n : Int) by omega)
    simp only [catamaranref01_Row.l0]
    rw [if_pos (by omega), if_pos (by omega), if_pos (by omega), hse, digits_is k (by omega) s (by omega) _ hxx.1 hxx.2, Option.bind_some, if_pos (by simp only [beN_length]; omega), wrap_succ (by omega)]
    have e : rowTo l z n ++ beN s (rd l (n : Int)) = rowTo l z (n + 1) := by
      show _ = rowTo l z n ++ beN (rd z (n : Int)).toNat (rd l (n : Int))
      rw [hse]
      rfl
    rw [e]
    exact row_l0 k0 hk0 l z hz hl hx d k (n + 1) (by omega) (by omega)
theorem row_is (k : Nat) (hk : 40 ≤ k) (l z : List Int) (hz : sizesOk z = true) (hl : l.length = z.length) (hx : ∀ k, k < l.length → 0 ≤ rd l (k : Int) ∧ rd l (k : Int) < 18446744073709551616) : catamaranref01_Row.f k l z = some (rowTo l z l.length) := by
  have := sizesOk_len hz
  exact row_l0 10 (Nat.le_refl _) l z hz hl hx l.length k 0 (by omega) (by omega)
theorem rSector_is (k : Nat) (hk : 40 ≤ k) {gen n : Int} {b : List Int} (hg : 0 ≤ gen ∧ gen < 18446744073709551616) (hn : 0 ≤ n ∧ n ≤ 255) (hb : b.length ≤ 20) : catamaranref10_Sector.f k gen n b = some (jSector gen n b) := by
  unfold catamaranref10_Sector.f
  rw [u64_wrap_small (a := n) (by omega) (by omega), u64_wrap_small (a := (b.length : Int)) (by omega) (by omega)]
  have hw : catamaranref01_Row.f k [gen, 1, n, (b.length : Int), 0] [8, 1, 1, 1, 1] = some (rowTo (nums5 gen n b.length) sizes5 5) := by
    show catamaranref01_Row.f k (nums5 gen n b.length) sizes5 = _
    refine row_is k hk (nums5 gen n b.length) sizes5 sizes5_ok rfl fun j hj => ?_
    match j, hj with
    | 0, _ => exact hg
    | 1, _ => show 0 ≤ (1 : Int) ∧ (1 : Int) < _; omega
    | 2, _ => show 0 ≤ n ∧ n < _; omega
    | 3, _ => show 0 ≤ (b.length : Int) ∧ (b.length : Int) < _; omega
    | 4, _ => show 0 ≤ (0 : Int) ∧ (0 : Int) < _; omega
  have hl := row5_length gen n b.length
  rw [hw, Option.bind_some, if_pos (by simp only [hl]; omega), Option.bind_some, wrap_small (a := 20 - (b.length : Int)) (by omega) (by omega), if_pos (by omega), if_pos (by simp only [List.length_append, hl]; omega)]
  unfold jSector
  rw [show (20 - (b.length : Int)).toNat = 20 - b.length by omega]
theorem rText_is (k : Nat) (hk : 50 ≤ k) {gen n : Int} {b : List Int} (hg : 0 ≤ gen ∧ gen < 18446744073709551616) : catamaranref10_Text.f k gen n b = some (jText gen n b) := by
  obtain ⟨k, rfl⟩ : ∃ m, k = m + 1 := ⟨k - 1, by omega⟩
  unfold catamaranref10_Text.f jText
  have key : ∀ c : Bool, c = decide (b.length < 1 ∨ 20 < b.length) → catamaranref10_Text.j0 (k + 1) gen n b c = some (if b.length < 1 ∨ 20 < b.length then ([], 4) else if n < 0 ∨ 255 < n then ([], 2) else (jSector gen n b, 0)) := by
    intro c hc
    subst hc
    simp only [catamaranref10_Text.j0]
    by_cases h : b.length < 1 ∨ 20 < b.length
    · rw [if_pos (by simpa using h), if_pos h]
    · rw [if_neg (by simpa using h), if_neg h]
      by_cases h1 : n < 0
      · rw [if_pos h1, if_pos (Or.inl h1)]
      · rw [if_neg h1]
        by_cases h2 : n > 255
        · rw [if_pos h2, if_pos (Or.inr h2)]
        · rw [if_neg h2, if_neg (by omega), rSector_is k (by omega) hg (by omega) (by omega), Option.bind_some]
  by_cases h : (b.length : Int) < 1
  · rw [if_pos h, key true (decide_eq_true (Or.inl (by omega))).symm]
  · rw [if_neg h, key _ (decide_eq_decide.2 (by omega))]
def jAsk (p t a m w q : Int) (l0 : List S39) (l1 : List S49) (x : Int) : Int := if okSite p t a m w q l0 l1 = true then (if x = 0 ∨ x = 1 then 0 else 2) else 8
theorem jAsk_is (p t a m w q : Int) (l0 : List S39) (l1 : List S49) (x : Int) : journal_asked.f p t a m w q l0 l1 x = some (jAsk p t a m w q l0 l1 x) := by
  unfold journal_asked.f jAsk
  rw [tCheck_is, Option.bind_some]
  cases okSite p t a m w q l0 l1
  · rfl
  · simp only [if_true]
    by_cases h0 : x = 0
    · simp [h0]
    · by_cases h1 : x = 1 <;> simp [h0, h1]
theorem rjAsk_is (k : Nat) (hk : 1200 ≤ k) (p t a m w q : Int) (l0 : List S39) (l1 : List S49) (hby : bytesD l0 l1) (x : Int) : catamaranref10_asked.f k p t a m w q l0 l1 x = some (jAsk p t a m w q l0 l1 x) := by
  unfold catamaranref10_asked.f jAsk
  rw [may08_is k hk p t a m w q l0 l1 hby, Option.bind_some]
  cases okSite p t a m w q l0 l1
  · rfl
  · simp only [if_true]
    by_cases h0 : x < 0
    · rw [if_pos h0, if_neg (by omega)]
    · rw [if_neg h0]
      by_cases h1 : x > 1
      · rw [if_pos h1, if_neg (by omega)]
      · rw [if_neg h1, if_pos (by omega)]
def jPlan (p t a m w q : Int) (l0 : List S39) (l1 : List S49) (x gen n : Int) (b : List Int) : Int × List Int × Int :=
  if jAsk p t a m w q l0 l1 x = 0 then (if n < 0 then (0, [], 2) else if a ≤ n then (0, [], 9) else if (jText gen n b).2 = 0 then (2 + (x * a + n), (jText gen n b).1, 0) else (0, [], (jText gen n b).2)) else (0, [], jAsk p t a m w q l0 l1 x)
theorem jAsk_zero {p t a m w q : Int} {l0 : List S39} {l1 : List S49} {x : Int} (h : jAsk p t a m w q l0 l1 x = 0) : okSite p t a m w q l0 l1 = true ∧ okCfg p t a m w q = true ∧ (x = 0 ∨ x = 1) := by
  unfold jAsk at h
  cases hs : okSite p t a m w q l0 l1
  · rw [hs] at h; simp at h
  · rw [hs] at h
    simp only [if_true] at h
    have hc : okCfg p t a m w q = true := by
      unfold okSite at hs
      simp only [Bool.and_eq_true] at hs
      exact hs.1.1
    refine ⟨rfl, hc, ?_⟩
    by_cases hx : x = 0 ∨ x = 1
    · exact hx
    · rw [if_neg hx] at h
      omega
theorem jPlan_is (k : Nat) (hk : 3 ≤ k) (p t a m w q : Int) (l0 : List S39) (l1 : List S49) (x : Int) {gen n : Int} {b : List Int} (hg : 0 ≤ gen ∧ gen < 18446744073709551616) : journal_Plan.f k p t a m w q l0 l1 x gen n b = some (jPlan p t a m w q l0 l1 x gen n b) := by
  unfold journal_Plan.f jPlan
  rw [jAsk_is, Option.bind_some]
  by_cases h : jAsk p t a m w q l0 l1 x = 0
  · rw [if_pos h, if_pos h]
    obtain ⟨_, hc, hx⟩ := jAsk_zero h
    have hb := (okCfg_iff p t a m w q).1 hc
    by_cases h1 : n < 0
    · rw [if_pos h1, if_pos h1]
    · rw [if_neg h1, if_neg h1]
      by_cases h2 : n ≥ a
      · rw [if_pos h2, if_pos h2]
      · rw [if_neg h2, if_neg (by omega), jText_is k hk hg, Option.bind_some]
        by_cases h3 : (jText gen n b).2 = 0
        · rw [if_pos h3, if_pos h3]
          unfold place_Area.f hFind.f dFind
          rw [if_pos (by simp), hc]
          simp only [if_true, Option.bind_some]
          rw [if_pos]
          simp [inB]
          omega
        · rw [if_neg h3, if_neg h3]
  · rw [if_neg h, if_neg h]
theorem rjPlan_is (k : Nat) (hk : 1300 ≤ k) (p t a m w q : Int) (l0 : List S39) (l1 : List S49) (hby : bytesD l0 l1) (x : Int) {gen n : Int} {b : List Int} (hg : 0 ≤ gen ∧ gen < 18446744073709551616) : catamaranref10_Plan.f k p t a m w q l0 l1 x gen n b = some (jPlan p t a m w q l0 l1 x gen n b) := by
  obtain ⟨k, rfl⟩ : ∃ m, k = m + 4 := ⟨k - 4, by omega⟩
  unfold catamaranref10_Plan.f jPlan
  rw [rjAsk_is (k + 4) (by omega) p t a m w q l0 l1 hby, Option.bind_some]
  by_cases h : jAsk p t a m w q l0 l1 x = 0
  · rw [if_pos h, if_pos h, h]
    obtain ⟨_, hc, hx⟩ := jAsk_zero h
    have hb := (okCfg_iff p t a m w q).1 hc
    by_cases h1 : n < 0
    · rw [if_pos h1, decide_eq_true h1]
      simp only [catamaranref10_Plan.j0, catamaranref10_Plan.j1, catamaranref10_Plan.j2, catamaranref10_Plan.j3]
      rfl
    · rw [if_neg h1, decide_eq_false h1]
      simp only [catamaranref10_Plan.j0, catamaranref10_Plan.j1]
      by_cases h2 : n ≥ a
      · rw [if_pos h2, decide_eq_true h2]
        simp only [catamaranref10_Plan.j2, catamaranref10_Plan.j3]
        rfl
      · rw [if_neg (show ¬ a ≤ n by omega), if_neg (by simp), if_pos trivial, decide_eq_false h2]
        simp only [catamaranref10_Plan.j2, catamaranref10_Plan.j3, Bool.false_eq_true, if_false]
        rw [if_pos trivial, rText_is k (by omega) hg, Option.bind_some]
        by_cases h3 : (jText gen n b).2 = 0
        · rw [if_pos h3, if_pos h3]
          unfold catamaranref07_InArea.f
          rw [first_is hc]
          simp only [Option.bind_some]
          rcases hx with rfl | rfl
          · rw [Int.zero_mul, wrap_small (a := 0) (by omega) (by omega), wrap_small (a := 2 + 0) (by omega) (by omega), wrap_small (by omega) (by omega)]
            simp
          · rw [Int.one_mul, wrap_small (a := a) (by omega) (by omega), wrap_small (a := 2 + a) (by omega) (by omega), wrap_small (by omega) (by omega), Int.add_assoc]
        · rw [if_neg h3, if_neg h3]
  · rw [if_neg h, if_neg h]
    have hk' : ∀ y : Int, y ≠ 0 → catamaranref10_Plan.j0 (k + 4) x gen n b y false p t a m w q = some (0, [], y) := by
      intro y hy
      simp only [catamaranref10_Plan.j0, catamaranref10_Plan.j1, catamaranref10_Plan.j2, catamaranref10_Plan.j3, if_neg hy, Bool.false_eq_true, if_false]
    exact hk' _ h
end Go.Proofs.Ytdkjhcdniepbhaa.P
end
