/- Part 6 of the proof: DiskNames: the examples of the chapter on disks and the limits', fates' and errors' numbers hold of the program; no arguments, no condition. -/
import Derived.RangeFuncNested
import Derived.RangeFuncBox
import Derived.RangeFuncLeaves
import Derived.Shelf.Abstract
import Derived.OwnWalkIn
import Derived.TacticsInMore
import Derived.LoopNIn
import Derived.LoopIn
import Derived.Deep.CutBlock
import Derived.Test.YtdkjhcdniepbhaaDiskNames05
section
set_option linter.unusedVariables false
set_option linter.unusedSimpArgs false
namespace Go.Proofs.Ytdkjhcdniepbhaa.P
open Go.RowKit Go.Proofs.PrintWords Go.Proofs.PrintLast Go.Proofs.PrintMore
attribute [local go_sem] max2_int min2_int max_two min_two max_three min_three max_four min_four
open Go.Shelf
theorem blk_own {β : Type} (g : Nat) (t : TypeId) (cs : Array Value) : Own (fun (_ : β) W => W.heap[g]? = some (.cells cs t (0, 0))) := fun _ X _ row hs hg hrow =>
  (hg.block g (blk_lt hs) (fun e => by obtain ⟨o, ho, hc⟩ := hrow g e.symm; rw [hs] at ho; cases ho; cases hc)).trans hs
def down (n k : Nat) : List Nat := (List.range k).map fun j => n - 1 - j
theorem down_succ (n k : Nat) : down n (k + 1) = down n k ++ [n - 1 - k] := by simp [down, List.range_succ]
theorem down_length (n k : Nat) : (down n k).length = k := by simp [down]
theorem mem_down {n k j : Nat} (h : j < n) (hk : n - 1 - j < k) : j ∈ down n k := by
  unfold down
  exact List.mem_map.2 ⟨n - 1 - j, List.mem_range.2 hk, by omega⟩
attribute [local go_sem] Oper.semAt_some
set_option maxRecDepth 100000 in
set_option maxHeartbeats 2000000 in
theorem hBack.in1 (F : Fence) (n : Nat) (h7 : F.fn 126) (hro : F.round = none) (hn : 1 ≤ n) (l Bs n₀ : Nat) (A : Option Addr) (len cap : Nat) (u0 u1 : Nat → Value) (hm : len ≤ 9223372036854775807) (J Jx : List Nat → World → Prop)
    (hY : ∀ pre (x : Nat) W, J pre W → pre.length < len → YieldAt F (n - 1) Try.prog l #[.int .i64 (x : Int), .agg #[u0 x, u1 x]] W fun e W' =>
      (e = .returned (.bool true) ∧ J (pre ++ [x]) W' ∧ Below n₀ W W') ∨ (e = .returned (.bool false) ∧ Jx (pre ++ [x]) W'))
    (W : World) (hB : Bs < n₀) (hBs : W.cell? ⟨Bs, 0, none⟩ = some (.slice A len cap))
    (hA : 0 < len → ∃ ad, A = some ad ∧ ad.block < n₀ ∧ ∀ j, j < len → W.cell? (ad.add (j * 2)) = some (u0 j) ∧ W.cell? ⟨(ad.add (j * 2)).block, (ad.add (j * 2)).off + 1, none⟩ = some (u1 j)) (h0 : J [] W) :
    CallsIn F n Try.prog 126 #[.func (.yield l) #[] #[], .pointer (some ⟨Bs, 0, none⟩)] W fun e W' => (∃ v, e = .returned v) ∧
      ((∃ ys, ys = down len len ∧ J ys W') ∨ (∃ pre, (∃ k, k ≤ len ∧ pre = down len k) ∧ Jx pre W')) := by
  refine callsIn_of_wp Try.func126 rfl h7 ?_ hro
  simp only [Try.ntmps126, List.size_toArray, List.length_cons, List.length_nil, Nat.reduceAdd, Nat.reduceSub, Array.replicate_succ, Array.replicate_zero, List.push_toArray, List.append_toArray, List.nil_append, List.cons_append]
  gi_wp2
  gi_loopw [3] (fun i wr => ∃ m : Nat, m ≤ len ∧ i = .int .i64 ((m : Int) - 1) ∧ Aside0 (J (down len (len - m)) wr) ∧ Aside0 (Below n₀ W wr))
    (fun i _ => (intOf i + 1).toNat)
  case atStart => exact ⟨len, Nat.le_refl _, by go_num, ⟨by rw [Nat.sub_self]; exact h0⟩, ⟨Below.refl _ _⟩⟩
  case round =>
    obtain ⟨m, hk, rfl, HJ, HX⟩ := hrel
    have hb0 := (HX.out.cell (p := ⟨Bs, 0, none⟩) hB).trans hBs
    cases m with
    | zero =>
      rw [show (((0 : Nat) : Int) - 1) = -1 from rfl]
      gi_wp2
      go_end0
      exact ⟨⟨_, rfl⟩, .inl ⟨_, rfl, HJ.out⟩⟩
    | succ m =>
      rw [show (((m + 1 : Nat) : Int) - 1) = (m : Int) from by omega]
      obtain ⟨ad, rfl, had, hcs⟩ := hA (by omega)
      have hc0 := (HX.out.cell (p := ad.add (m * 2)) (by rw [add_block_]; exact had)).trans (hcs m (by omega)).1
      have hc1 := (HX.out.cell (p := ⟨(ad.add (m * 2)).block, (ad.add (m * 2)).off + 1, none⟩) (by show (ad.add (m * 2)).block < n₀; rw [add_block_]; exact had)).trans (hcs m (by omega)).2
      have hlen : (down len (len - (m + 1))).length < len := by rw [down_length]; omega
      have hnx : down len (len - (m + 1)) ++ [m] = down len (len - m) := by
        rw [show len - m = (len - (m + 1)) + 1 from by omega, down_succ, show len - 1 - (len - (m + 1)) = m from by omega]
      obtain ⟨fn, tmps, assign, body, hy, hR⟩ := hY _ m wr HJ.out hlen
      have HNX := Aside0.mk hnx
      have HCS := Aside0.mk hcs
      clear hnx hcs hlen
      gi_wp2
      refine hR.mono ?_
      rintro e W3 (⟨rfl, hJ3, hk3⟩ | ⟨rfl, hJx3⟩)
      · have HJ3 := Aside0.mk hJ3
        have HX3 := Aside0.mk (HX.out.trans hk3)
        clear hJ3 hk3
        gi_wp2
        go_roundw
        case rel => exact ⟨m, by omega, by go_num, ⟨by rw [← HNX.out]; exact HJ3.out⟩, HX3⟩
        case measure => simp [intOf]
      · have HJ3 := Aside0.mk hJx3
        clear hJx3
        gi_wp2
        refine bodyPost_ret (results_none rfl _ _ _) rfl ?_
        exact ⟨⟨_, rfl⟩, .inr ⟨_, ⟨len - m, by omega, HNX.out⟩, HJ3.out⟩⟩
theorem hBack.mk (F : Fence) (n : Nat) (h5 : F.fn 93) (hro : F.round = none) (a : Option Addr) (len cap : Nat) (w : World) :
    CallsIn F n Try.prog 93 #[.slice a len cap] w fun e w' => e = .returned (.func (.func 126) #[] #[.pointer (some ⟨w.heap.size, 0, none⟩)]) ∧ w' = w.alloc (.cells #[.slice a len cap] 23) := by
  refine callsIn_of_wp Try.func93 rfl h5 ?_ hro
  simp only [Try.ntmps93, List.size_toArray, List.length_cons, List.length_nil, Nat.reduceAdd, Nat.reduceSub, Array.replicate_succ, Array.replicate_zero, List.push_toArray, List.append_toArray, List.nil_append, List.cons_append]
  gi_wp2
  go_ret
  exact ⟨rfl, rfl⟩
theorem hBack.stops (F : Fence) (n : Nat) (h7 : F.fn 126) (hro : F.round = none) (hn : 1 ≤ n) (Bs n₀ : Nat) (A : Option Addr) (len cap : Nat) (u0 u1 : Nat → Value) (hm : len ≤ 9223372036854775807) (w : World) (hB : Bs < n₀) (hn₀ : n₀ ≤ w.heap.size)
    (hBs : w.cell? ⟨Bs, 0, none⟩ = some (.slice A len cap))
    (hA : 0 < len → ∃ ad, A = some ad ∧ ad.block < n₀ ∧ ∀ j, j < len → w.cell? (ad.add (j * 2)) = some (u0 j) ∧ w.cell? ⟨(ad.add (j * 2)).block, (ad.add (j * 2)).off + 1, none⟩ = some (u1 j)) :
    SeqStopsK F n Try.prog 126 #[.pointer (some ⟨Bs, 0, none⟩)] (fun x : Nat => #[Value.int .i64 (x : Int), .agg #[u0 x, u1 x]]) (Below n₀) (fun ys => ys = down len len) (fun pre => ∃ k, k ≤ len ∧ pre = down len k) len w := fun l J Jx W hW _ _ hY h0 => by
  have hW' := hW.mono hn₀
  refine hBack.in1 F n h7 hro hn l Bs n₀ A len cap u0 u1 hm J Jx hY W hB ((hW'.cell (p := ⟨Bs, 0, none⟩) hB).trans hBs) (fun h => ?_) h0
  obtain ⟨ad, e, hb, hc⟩ := hA h
  exact ⟨ad, e, hb, fun j hj => ⟨(hW'.cell (p := ad.add (j * 2)) (by rw [add_block_]; exact hb)).trans (hc j hj).1, (hW'.cell (p := ⟨(ad.add (j * 2)).block, (ad.add (j * 2)).off + 1, none⟩) (by show (ad.add (j * 2)).block < n₀; rw [add_block_]; exact hb)).trans (hc j hj).2⟩⟩
set_option maxRecDepth 100000 in
set_option maxHeartbeats 4000000 in
theorem hLast.in_ (F : Fence) (n : Nat) (h3 : F.fn 58) (h5 : F.fn 93) (h7 : F.fn 126) (hro : F.round = none) (hn : 3 ≤ n) (A0 : Option Addr) (n0 c0 : Nat) (A : Option Addr) (len cap : Nat) (at_ : Int) (u0 : Nat → Int) (ua : Nat → Option Addr) (um uc : Nat → Nat) (hm : len ≤ 9223372036854775807) (w : World)
    (hA : 0 < len → ∃ ad, A = some ad ∧ ad.block < w.heap.size ∧ ∀ j, j < len → w.cell? (ad.add (j * 2)) = some (.int .i64 (u0 j)) ∧ w.cell? ⟨(ad.add (j * 2)).block, (ad.add (j * 2)).off + 1, none⟩ = some (.slice (ua j) (um j) (uc j))) :
    CallsIn F n Try.prog 58 #[.agg #[.slice A0 n0 c0, .slice A len cap], .int .i64 at_] w fun e W' => Below w.heap.size w W' ∧
      ((e = .returned (.tuple #[.agg #[.int .i64 0, .slice none 0 0], .bool false]) ∧ ∀ j, j < len → u0 j ≠ at_) ∨
        ∃ m, m < len ∧ u0 m = at_ ∧ (∀ j, m < j → j < len → u0 j ≠ at_) ∧ e = .returned (.tuple #[.agg #[.int .i64 (u0 m), .slice (ua m) (um m) (uc m)], .bool true])) := by
  have h1 : 1 ≤ n := by omega
  have hu25 := Try.underlying25
  have hu65 := Try.underlying49
  refine callsIn_of_wp_marks Try.func58 rfl h3 ?_ hro
  simp only [Try.ntmps58, List.size_toArray, List.length_cons, List.length_nil, Nat.reduceAdd, Nat.reduceSub, Array.replicate_succ, Array.replicate_zero, List.push_toArray, List.append_toArray, List.nil_append, List.cons_append]
  gi_wp2_with (gi_at_call 93; refine (hBack.mk F (n - 1) h5 hro _ _ _ _).mono ?_; rintro e w' ⟨rfl, rfl⟩)
  have b1 : ((((((w.alloc (.cells #[.slice A0 n0 c0, .slice A len cap] 25)).alloc (.cells #[.int .i64 at_] 3)).alloc (.cells #[.int .i64 0, .slice none 0 0] 49)).alloc (.cells #[.bool false] 4)).alloc (.cells #[.slice A len cap] 23))).heap[w.heap.size + 1]? = some (.cells #[.int .i64 at_] 3 (0, 0)) := by
    refine blk_alloc (blk_alloc (blk_alloc ?_ _) _) _
    have := heap_alloc_new (w.alloc (.cells #[.slice A0 n0 c0, .slice A len cap] 25)) (.cells #[.int .i64 at_] 3)
    rwa [World.size_alloc] at this
  have b2 : ((((((w.alloc (.cells #[.slice A0 n0 c0, .slice A len cap] 25)).alloc (.cells #[.int .i64 at_] 3)).alloc (.cells #[.int .i64 0, .slice none 0 0] 49)).alloc (.cells #[.bool false] 4)).alloc (.cells #[.slice A len cap] 23))).heap[w.heap.size + 1 + 1]? = some (.cells #[.int .i64 0, .slice none 0 0] 49 (0, 0)) := by
    refine blk_alloc (blk_alloc ?_ _) _
    have := heap_alloc_new ((w.alloc (.cells #[.slice A0 n0 c0, .slice A len cap] 25)).alloc (.cells #[.int .i64 at_] 3)) (.cells #[.int .i64 0, .slice none 0 0] 49)
    rwa [World.size_alloc, World.size_alloc] at this
  have b3 : ((((((w.alloc (.cells #[.slice A0 n0 c0, .slice A len cap] 25)).alloc (.cells #[.int .i64 at_] 3)).alloc (.cells #[.int .i64 0, .slice none 0 0] 49)).alloc (.cells #[.bool false] 4)).alloc (.cells #[.slice A len cap] 23))).heap[w.heap.size + 1 + 1 + 1]? = some (.cells #[.bool false] 4 (0, 0)) := by
    refine blk_alloc ?_ _
    have := heap_alloc_new (((w.alloc (.cells #[.slice A0 n0 c0, .slice A len cap] 25)).alloc (.cells #[.int .i64 at_] 3)).alloc (.cells #[.int .i64 0, .slice none 0 0] 49)) (.cells #[.bool false] 4)
    rwa [World.size_alloc, World.size_alloc, World.size_alloc] at this
  have b4 : ((((((w.alloc (.cells #[.slice A0 n0 c0, .slice A len cap] 25)).alloc (.cells #[.int .i64 at_] 3)).alloc (.cells #[.int .i64 0, .slice none 0 0] 49)).alloc (.cells #[.bool false] 4)).alloc (.cells #[.slice A len cap] 23))).heap[w.heap.size + 1 + 1 + 1 + 1]? = some (.cells #[.slice A len cap] 23 (0, 0)) := by
    have := heap_alloc_new ((((w.alloc (.cells #[.slice A0 n0 c0, .slice A len cap] 25)).alloc (.cells #[.int .i64 at_] 3)).alloc (.cells #[.int .i64 0, .slice none 0 0] 49)).alloc (.cells #[.bool false] 4)) (.cells #[.slice A len cap] 23)
    rwa [World.size_alloc, World.size_alloc, World.size_alloc, World.size_alloc] at this
  have hB0 := below_alloc (below_alloc (below_alloc (below_alloc (below_alloc (Below.refl w.heap.size w) (.cells #[.slice A0 n0 c0, .slice A len cap] 25)) (.cells #[.int .i64 at_] 3)) (.cells #[.int .i64 0, .slice none 0 0] 49)) (.cells #[.bool false] 4)) (.cells #[.slice A len cap] 23)
  have hsz : ((((((w.alloc (.cells #[.slice A0 n0 c0, .slice A len cap] 25)).alloc (.cells #[.int .i64 at_] 3)).alloc (.cells #[.int .i64 0, .slice none 0 0] 49)).alloc (.cells #[.bool false] 4)).alloc (.cells #[.slice A len cap] 23))).heap.size = w.heap.size + 5 := by simp
  obtain ⟨W0, hW0⟩ : ∃ W0, (((((w.alloc (.cells #[.slice A0 n0 c0, .slice A len cap] 25)).alloc (.cells #[.int .i64 at_] 3)).alloc (.cells #[.int .i64 0, .slice none 0 0] 49)).alloc (.cells #[.bool false] 4)).alloc (.cells #[.slice A len cap] 23)) = W0 := ⟨_, rfl⟩
  rw [hW0] at b1 b2 b3 b4 hB0 hsz ⊢
  clear hW0
  have b4c : W0.cell? ⟨w.heap.size + 1 + 1 + 1 + 1, 0, none⟩ = some (.slice A len cap) := (blk_cell b4 0).trans rfl
  refine wpIn_rangeFunc_ownH hro h1 (gf := 126) (lb := #[.pointer (some ⟨w.heap.size + 1 + 1 + 1 + 1, 0, none⟩)]) rfl h7 (enters_of Try.func126 (by kernel_rfl) rfl)
    (hBack.stops F (n - 1) h7 hro (by omega) (w.heap.size + 1 + 1 + 1 + 1) (w.heap.size + 5) A len cap (fun j => .int .i64 (u0 j)) (fun j => .slice (ua j) (um j) (uc j)) hm W0 (by omega) (by omega) b4c (fun h => by
      obtain ⟨ad, e, hb, hc⟩ := hA h
      exact ⟨ad, e, by omega, fun j hj => ⟨(hB0.cell (p := ad.add (j * 2)) (by rw [add_block_]; exact hb)).trans (hc j hj).1, (hB0.cell (p := ⟨(ad.add (j * 2)).block, (ad.add (j * 2)).off + 1, none⟩) (by show (ad.add (j * 2)).block < w.heap.size; rw [add_block_]; exact hb)).trans (hc j hj).2⟩⟩))
    belowK_t (belowK_b (by omega)) (Below.refl _ _) (fun _ => rfl)
    (fun pre W => ((∀ j ∈ pre, u0 j ≠ at_) ∧ W.heap[w.heap.size + 1]? = some (.cells #[.int .i64 at_] 3 (0, 0)) ∧ W.heap[w.heap.size + 1 + 1]? = some (.cells #[.int .i64 0, .slice none 0 0] 49 (0, 0)) ∧ W.heap[w.heap.size + 1 + 1 + 1]? = some (.cells #[.bool false] 4 (0, 0)) ∧ w.heap.size + 5 ≤ W.heap.size) ∧ Below w.heap.size w W)
    (fun c pre W => (c = .ret ∧ ∃ ini m, pre = ini ++ [m] ∧ (∀ j ∈ ini, u0 j ≠ at_) ∧ u0 m = at_ ∧ W.heap[w.heap.size + 1 + 1]? = some (.cells #[.int .i64 (u0 m), .slice (ua m) (um m) (uc m)] 49 (0, 0)) ∧ W.heap[w.heap.size + 1 + 1 + 1]? = some (.cells #[.bool true] 4 (0, 0))) ∧ Below w.heap.size w W)
    (OwnFrom.and (Own.from (fun s X Y row hs hg hr => ⟨hs.1, blk_own _ _ _ () X Y row hs.2.1 hg hr, blk_own _ _ _ () X Y row hs.2.2.1 hg hr, blk_own _ _ _ () X Y row hs.2.2.2.1 hg hr, Nat.le_trans hs.2.2.2.2 hg.size⟩) _) (ownFrom_below (Nat.le_refl _) (by omega)))
    (fun c => OwnFrom.and (Own.from (fun s X Y row hs hg hr => by obtain ⟨hc, ini, m, e1, e2, e3, e4, e5⟩ := hs; exact ⟨hc, ini, m, e1, e2, e3, blk_own _ _ _ () X Y row e4 hg hr, blk_own _ _ _ () X Y row e5 hg hr⟩) _) (ownFrom_below (Nat.le_refl _) (by omega)))
    ⟨⟨by simp, b1, b2, b3, by omega⟩, hB0⟩
    (fun x a' W => ∃ Bx, w.heap.size + 5 ≤ Bx ∧ W.heap[Bx]? = some (.cells #[.int .i64 (u0 x), .slice (ua x) (um x) (uc x)] 49 (0, 0)) ∧ a' = { tmps := #[.agg #[.slice A0 n0 c0, .slice A len cap], .int .i64 at_, .pointer (some ⟨w.heap.size, 0, none⟩), .pointer (some ⟨w.heap.size + 1, 0, none⟩), .pointer (some ⟨w.heap.size + 1 + 1, 0, none⟩), .pointer (some ⟨w.heap.size + 1 + 1 + 1, 0, none⟩), undef, .pointer (some ⟨Bx, 0, none⟩), .pointer (some ⟨w.heap.size, 1, none⟩), .slice A len cap, .func (.func 126) #[] #[.pointer (some ⟨w.heap.size + 1 + 1 + 1 + 1, 0, none⟩)], .int .i64 (x : Int), .agg #[.int .i64 (u0 x), .slice (ua x) (um x) (uc x)], undef, undef, undef, undef, undef, undef], defers := [] })
    (fun x a' => Own.from (fun s X Y row hs hg hr => by obtain ⟨Bx, h1, h2, h3⟩ := hs; exact ⟨Bx, h1, blk_own _ _ _ () X Y row h2 hg hr, h3⟩) _)
    ?assign ?body ?done ?stop
  case assign =>
    rintro l pre x W K ⟨⟨i1, i2, i3, i4, i5⟩, iB⟩ hK
    have HK := Aside0.mk hK
    clear hK
    gi_wp2
    exact HK.out _ _ ((KeepsOthers.alloc _ _).from _) ((Below.refl _ W).alloc i5 _) ⟨⟨i1, blk_alloc i2 _, blk_alloc i3 _, blk_alloc i4 _, by simp; omega⟩, iB.alloc (by omega) _⟩ ⟨W.heap.size, i5, heap_alloc_new W _, rfl⟩
  case body =>
    rintro l pre x a' W hl ⟨r, hr⟩ ⟨⟨i1, i2, i3, i4, i5⟩, iB⟩ ⟨Bx, hBx, bX, rfl⟩ hlt
    have I1 := Aside0.mk i1
    have I2 := Aside0.mk i2
    have I3 := Aside0.mk i3
    have I4 := Aside0.mk i4
    have IB := Aside0.mk iB
    have BX := Aside0.mk bX
    clear i1 i2 i3 i4 iB bX hr
    have c0 : W.cell? ⟨Bx, 0, none⟩ = some (.int .i64 (u0 x)) := (blk_cell BX.out 0).trans rfl
    have c1 : W.cell? ⟨Bx, 1, none⟩ = some (.slice (ua x) (um x) (uc x)) := (blk_cell BX.out 1).trans rfl
    have c2 : W.cell? ⟨w.heap.size + 1, 0, none⟩ = some (.int .i64 at_) := (blk_cell I2.out 0).trans rfl
    by_cases hx : u0 x = at_
    · have hb : (u0 x == at_) = true := by simpa using hx
      have HX := Aside0.mk hx
      clear hx
      have d0 : W.cell? ⟨w.heap.size + 1 + 1, 0, none⟩ = some (.int .i64 0) := (blk_cell I3.out 0).trans rfl
      have d1 : W.cell? ⟨w.heap.size + 1 + 1, 1, none⟩ = some (.slice none 0 0) := (blk_cell I3.out 1).trans rfl
      have f0 := blk_frozen I3.out 0
      have f1 := blk_frozen I3.out 1
      have d2 : W.cell? ⟨w.heap.size + 1 + 1 + 1, 0, none⟩ = some (.bool false) := (blk_cell I4.out 0).trans rfl
      have f2 := blk_frozen I4.out 0
      gi_wp2
      refine ⟨(((KeepsOthers.setCell _ _ _).trans (KeepsOthers.setCell _ _ _)).trans (KeepsOthers.setCell _ _ _)).from _, ⟨rfl, pre, x, rfl, I1.out, HX.out, ?_, ?_⟩, ((IB.out.setCell (by simp; omega) _).setCell (by simp; omega) _).setCell (by simp; omega) _⟩
      · refine blk_far ?_ (by simp) _
        simpa using blk_set (blk_set I3.out 0 (.int .i64 (u0 x))) 1 (.slice (ua x) (um x) (uc x))
      · simpa using blk_set (blk_far (blk_far I4.out (p := ⟨w.heap.size + 1 + 1, 0, none⟩) (by simp) (.int .i64 (u0 x))) (p := ⟨w.heap.size + 1 + 1, 1, none⟩) (by simp) (.slice (ua x) (um x) (uc x))) 0 (.bool true)
    · have hb : (u0 x == at_) = false := by simpa using hx
      have HX := Aside0.mk hx
      clear hx
      gi_wp2
      exact ⟨KeepsFrom.refl _ _, Below.refl _ _, ⟨⟨fun j hj => (List.mem_append.1 hj).elim (I1.out j) (fun e => by simp at e; subst e; exact HX.out), I2.out, I3.out, I4.out, i5⟩, IB.out⟩⟩
  case done =>
    rintro D ys W hD rfl ⟨⟨i1, i2, i3, i4, i5⟩, iB⟩ hK
    have I1 := Aside0.mk i1
    have I3 := Aside0.mk i3
    have I4 := Aside0.mk i4
    have IB := Aside0.mk iB
    have HK := Aside0.mk hK
    clear i1 i2 i3 i4 iB hK
    have d0 : W.cell? ⟨w.heap.size + 1 + 1, 0, none⟩ = some (.int .i64 0) := (blk_cell I3.out 0).trans rfl
    have d1 : W.cell? ⟨w.heap.size + 1 + 1, 1, none⟩ = some (.slice none 0 0) := (blk_cell I3.out 1).trans rfl
    have f0 := blk_frozen I3.out 0
    have f1 := blk_frozen I3.out 1
    have d2 : W.cell? ⟨w.heap.size + 1 + 1 + 1, 0, none⟩ = some (.bool false) := (blk_cell I4.out 0).trans rfl
    have f2 := blk_frozen I4.out 0
    gi_wp2
    have B2 : (((W.setCell ⟨w.heap.size + 1 + 1, 0, none⟩ (.int .i64 0)).setCell ⟨w.heap.size + 1 + 1, 1, none⟩ (.slice none 0 0)).setCell ⟨w.heap.size + 1 + 1 + 1, 0, none⟩ (.bool false)).heap[w.heap.size + 1 + 1]? = some (.cells #[.int .i64 0, .slice none 0 0] 49 (0, 0)) := by
      refine blk_far ?_ (by simp) _
      simpa using blk_set (blk_set I3.out 0 (.int .i64 0)) 1 (.slice none 0 0)
    have B3 : (((W.setCell ⟨w.heap.size + 1 + 1, 0, none⟩ (.int .i64 0)).setCell ⟨w.heap.size + 1 + 1, 1, none⟩ (.slice none 0 0)).setCell ⟨w.heap.size + 1 + 1 + 1, 0, none⟩ (.bool false)).heap[w.heap.size + 1 + 1 + 1]? = some (.cells #[.bool false] 4 (0, 0)) := by
      simpa using blk_set (blk_far (blk_far I4.out (p := ⟨w.heap.size + 1 + 1, 0, none⟩) (by simp) (.int .i64 0)) (p := ⟨w.heap.size + 1 + 1, 1, none⟩) (by simp) (.slice none 0 0)) 0 (.bool false)
    have HBW : Below w.heap.size w (((W.setCell ⟨w.heap.size + 1 + 1, 0, none⟩ (.int .i64 0)).setCell ⟨w.heap.size + 1 + 1, 1, none⟩ (.slice none 0 0)).setCell ⟨w.heap.size + 1 + 1 + 1, 0, none⟩ (.bool false)) := ((IB.out.setCell (by simp; omega) _).setCell (by simp; omega) _).setCell (by simp; omega) _
    have hK' := (((KeepsOthers.setCell W ⟨w.heap.size + 1 + 1, 0, none⟩ (.int .i64 0)).trans (KeepsOthers.setCell _ ⟨w.heap.size + 1 + 1, 1, none⟩ (.slice none 0 0))).trans (KeepsOthers.setCell _ ⟨w.heap.size + 1 + 1 + 1, 0, none⟩ (.bool false))).same D _ HK.out rfl
    generalize (((W.setCell ⟨w.heap.size + 1 + 1, 0, none⟩ (.int .i64 0)).setCell ⟨w.heap.size + 1 + 1, 1, none⟩ (.slice none 0 0)).setCell ⟨w.heap.size + 1 + 1 + 1, 0, none⟩ (.bool false)) = W3 at B2 B3 HBW hK' ⊢
    have C2 := blk_own _ _ _ () W3 (W3.putObj D (.deferred none)) (some D) B2 (grownBy_putObj' W3 D (.deferred none)) (fun r e => by cases e; exact ⟨_, hK', rfl⟩)
    have C3 := blk_own _ _ _ () W3 (W3.putObj D (.deferred none)) (some D) B3 (grownBy_putObj' W3 D (.deferred none)) (fun r e => by cases e; exact ⟨_, hK', rfl⟩)
    have z0 : (W3.putObj D (.deferred none)).cell? ⟨w.heap.size + 1 + 1, 0, none⟩ = some (.int .i64 0) := (blk_cell C2 0).trans rfl
    have z1 : (W3.putObj D (.deferred none)).cell? ⟨w.heap.size + 1 + 1, 1, none⟩ = some (.slice none 0 0) := (blk_cell C2 1).trans rfl
    have z2 : (W3.putObj D (.deferred none)).cell? ⟨w.heap.size + 1 + 1 + 1, 0, none⟩ = some (.bool false) := (blk_cell C3 0).trans rfl
    refine ⟨by simp, .inl ⟨_, _, rfl, run_takeDeferred hK', ?_⟩⟩
    refine ⟨.tuple #[.agg #[.int .i64 0, .slice none 0 0], .bool false], ?_, HBW.trans (belowK_b (w := w) (Nat.le_refl _) W3 D _ _ (by omega) hK' rfl rfl), .inl ⟨rfl, fun j hj => I1.out j (mem_down hj (by omega))⟩⟩
    simp [results, Try.f58, go_sem, z0, z1, z2]
  case stop =>
    rintro D c pre W hD ⟨k, hk, rfl⟩ ⟨⟨rfl, ini, m, e1, e2, e3, e4, e5⟩, iB⟩ hK
    have E4 := Aside0.mk e4
    have E5 := Aside0.mk e5
    have IB := Aside0.mk iB
    have HK := Aside0.mk hK
    have E1 := Aside0.mk e1
    clear e4 e5 iB hK e1
    gi_wp2
    have C2 := blk_own _ _ _ () W (W.putObj D (.deferred none)) (some D) E4.out (grownBy_putObj' W D (.deferred none)) (fun r e => by cases e; exact ⟨_, HK.out, rfl⟩)
    have C3 := blk_own _ _ _ () W (W.putObj D (.deferred none)) (some D) E5.out (grownBy_putObj' W D (.deferred none)) (fun r e => by cases e; exact ⟨_, HK.out, rfl⟩)
    have z0 : (W.putObj D (.deferred none)).cell? ⟨w.heap.size + 1 + 1, 0, none⟩ = some (.int .i64 (u0 m)) := (blk_cell C2 0).trans rfl
    have z1 : (W.putObj D (.deferred none)).cell? ⟨w.heap.size + 1 + 1, 1, none⟩ = some (.slice (ua m) (um m) (uc m)) := (blk_cell C2 1).trans rfl
    have z2 : (W.putObj D (.deferred none)).cell? ⟨w.heap.size + 1 + 1 + 1, 0, none⟩ = some (.bool true) := (blk_cell C3 0).trans rfl
    refine ⟨by simp, .inl ⟨_, _, rfl, run_takeDeferred HK.out, ?_⟩⟩
    have e1 := E1.out
    obtain ⟨k', rfl⟩ : ∃ k', k = k' + 1 := by
      cases k with
      | zero => simp [down] at e1
      | succ k' => exact ⟨k', rfl⟩
    rw [down_succ] at e1
    obtain ⟨rfl, e6⟩ := List.append_inj' e1 rfl
    obtain rfl : len - 1 - k' = m := by simpa using e6
    refine ⟨.tuple #[.agg #[.int .i64 (u0 (len - 1 - k')), .slice (ua (len - 1 - k')) (um (len - 1 - k')) (uc (len - 1 - k'))], .bool true], ?_, IB.out.trans (belowK_b (w := w) (Nat.le_refl _) W D _ _ (by omega) HK.out rfl rfl), .inr ⟨len - 1 - k', by omega, e3, fun j hj1 hj2 => e2 j (mem_down hj2 (by omega)), rfl⟩⟩
    simp [results, Try.f58, go_sem, z0, z1, z2]
def lastP (l : List S49) (at_ : Int) : Option S49 := l.reverse.find? (fun p => p.f0 == at_)
theorem lastP_none {l : List S49} {at_ : Int} (h : ∀ j, j < l.length → (rd_T49 l (j : Int)).f0 ≠ at_) : lastP l at_ = none := by
  unfold lastP
  rw [List.find?_eq_none]
  intro p hp
  obtain ⟨j, hj, rfl⟩ := List.getElem_of_mem (List.mem_reverse.1 hp)
  have := h j hj
  simp [rd_T49, List.getD_eq_getElem?_getD, List.getElem?_eq_getElem hj] at this
  simpa using this
theorem lastP_some {l : List S49} {at_ : Int} {m : Nat} (hm : m < l.length) (h0 : (rd_T49 l (m : Int)).f0 = at_) (h : ∀ j, m < j → j < l.length → (rd_T49 l (j : Int)).f0 ≠ at_) : lastP l at_ = some (rd_T49 l (m : Int)) := by
  have hsplit : l = l.take m ++ (l[m] :: l.drop (m + 1)) := by rw [← List.drop_eq_getElem_cons hm, List.take_append_drop]
  have hrd : rd_T49 l (m : Int) = l[m] := by simp [rd_T49, List.getD_eq_getElem?_getD, List.getElem?_eq_getElem hm]
  rw [hrd] at h0 ⊢
  have hnone : (l.drop (m + 1)).reverse.find? (fun p => p.f0 == at_) = none := by
    rw [List.find?_eq_none]
    intro p hp
    obtain ⟨j, hj, rfl⟩ := List.getElem_of_mem (List.mem_reverse.1 hp)
    rw [List.length_drop] at hj
    have := h (m + 1 + j) (by omega) (by omega)
    unfold rd_T49 at this
    rw [Int.toNat_natCast, List.getD_eq_getElem?_getD, List.getElem?_eq_getElem (show m + 1 + j < l.length by omega)] at this
    simpa [List.getElem_drop] using this
  unfold lastP
  conv => lhs; rw [hsplit]
  rw [List.reverse_append, List.reverse_cons, List.append_assoc, List.find?_append, hnone]
  simp [h0]
theorem hLast.calls (A0 : Option Addr) (n0 c0 : Nat) (A1 : Option Addr) (c1 : Nat) (l1 : List S49) (at_ : Int) (w : World) (hr : Kd.C k49 w A1 l1.length l1) :
    Calls Try.prog 58 #[.agg #[.slice A0 n0 c0, .slice A1 l1.length c1], .int .i64 at_] w fun e w' => Below w.heap.size w w' ∧
      ((lastP l1 at_ = none ∧ e = .returned (.tuple #[.agg #[.int .i64 0, .slice none 0 0], .bool false])) ∨
        ∃ (p : S49) (A : Option Addr) (c : Nat), lastP l1 at_ = some p ∧ e = .returned (.tuple #[.agg #[.int .i64 p.f0, .slice A p.f1.length c], .bool true]) ∧ p.f1.length ≤ c ∧ Kd.C (Kd.int .u8) w A p.f1.length p.f1) := by
  have hm : l1.length ≤ 9223372036854775807 := hr.2.1
  have hch : ∀ j : Nat, ∃ q : Option Addr × Nat, j < l1.length → ∃ ad, A1 = some ad ∧ w.cell? (ad.add (j * 2)) = some (.int .i64 (rd_T49 l1 (j : Int)).f0) ∧ w.cell? ⟨(ad.add (j * 2)).block, (ad.add (j * 2)).off + 1, none⟩ = some (.slice q.1 (rd_T49 l1 (j : Int)).f1.length q.2) ∧ (rd_T49 l1 (j : Int)).f1.length ≤ q.2 ∧ Kd.C (Kd.int .u8) w q.1 (rd_T49 l1 (j : Int)).f1.length (rd_T49 l1 (j : Int)).f1 := by
    intro j
    by_cases hj : j < l1.length
    · obtain ⟨ad, A, c, e, h0, h1, h2, h3⟩ := at_T49 hr (j : Int) (by omega) (by omega)
      exact ⟨(A, c), fun _ => ⟨ad, e, h0, h1, h2, h3⟩⟩
    · exact ⟨(none, 0), fun h => absurd h hj⟩
  obtain ⟨q, hq⟩ := Classical.axiomOfChoice hch
  let F : Fence := { fn := fun _ => True }
  have hin := hLast.in_ F 3 trivial trivial trivial rfl (by omega) A0 n0 c0 A1 l1.length c1 at_ (fun j => (rd_T49 l1 (j : Int)).f0) (fun j => (q j).1) (fun j => (rd_T49 l1 (j : Int)).f1.length) (fun j => (q j).2) hm w (fun h => by
    obtain ⟨ad, e, h0, _⟩ := hq 0 h
    refine ⟨ad, e, ?_, fun j hj => ?_⟩
    · have := World.block_lt_of_cell? w _ h0
      rwa [add_block_] at this
    · obtain ⟨ad', e', g0, g1, _⟩ := hq j hj
      rw [e] at e'
      injection e' with e'
      subst e'
      exact ⟨g0, g1⟩)
  refine (hin.calls (fun _ _ h => by cases h)).mono ?_
  rintro e w' ⟨hB, ⟨rfl, h⟩ | ⟨m, hm1, h0, h, rfl⟩⟩
  · exact ⟨hB, .inl ⟨lastP_none h, rfl⟩⟩
  · obtain ⟨ad, e, _, _, h2, h3⟩ := hq m hm1
    exact ⟨hB, .inr ⟨rd_T49 l1 (m : Int), _, _, lastP_some hm1 h0 h, rfl, h2, h3⟩⟩
end Go.Proofs.Ytdkjhcdniepbhaa.P
end
section
set_option linter.unusedVariables false
set_option linter.unusedSimpArgs false
namespace Go.Proofs.Ytdkjhcdniepbhaa.P
open Go.RowKit Go.Proofs.PrintWords Go.Proofs.PrintLast Go.Proofs.PrintMore
attribute [local go_sem] max2_int min2_int max_two min_two max_three min_three max_four min_four
theorem rd65_at {l : List S49} {n : Nat} (hn : n < l.length) : rd_T49 l (n : Int) = l[n] := by unfold rd_T49; rw [List.getD_eq_getElem?_getD]; simp [hn]
end Go.Proofs.Ytdkjhcdniepbhaa.P
end
section
set_option linter.unusedVariables false
set_option linter.unusedSimpArgs false
namespace Go.Proofs.Ytdkjhcdniepbhaa.P
open Go.RowKit Go.Proofs.PrintWords Go.Proofs.PrintLast Go.Proofs.PrintMore
attribute [local go_sem] max2_int min2_int max_two min_two max_three min_three max_four min_four
def dAsked (l0 : List S39) (l1 : List S49) (at_ : Int) : Int := if okDisk l0 l1 = true then (if at_ < 0 then 2 else if at_ ≥ (l0.length : Int) then 2 else 0) else 8
theorem dAsked_is (l0 : List S39) (l1 : List S49) (at_ : Int) : disk_asked.f l0 l1 at_ = some (dAsked l0 l1 at_) := by
  unfold disk_asked.f hCheck.f dAsked
  cases okDisk l0 l1 with
  | false => rfl
  | true =>
    simp only [Option.bind_some, if_true]
    by_cases h1 : at_ < 0
    · simp [h1]
    · by_cases h2 : at_ ≥ (l0.length : Int) <;> simp [h1, h2]
theorem dAsked_ok {l0 : List S39} {l1 : List S49} {at_ : Int} (h : dAsked l0 l1 at_ = 0) : okDisk l0 l1 = true ∧ 0 ≤ at_ ∧ at_ < l0.length := by
  unfold dAsked at h
  cases hk : okDisk l0 l1
  · simp [hk] at h
  · simp only [hk, if_true] at h
    by_cases h1 : at_ < 0
    · simp [h1] at h
    · by_cases h2 : at_ ≥ (l0.length : Int)
      · simp [h1, h2] at h
      · exact ⟨rfl, by omega, by omega⟩
theorem okDisk_sec {l0 : List S39} {l1 : List S49} (h : okDisk l0 l1 = true) (s : S39) (hs : s ∈ l0) : s.f0.length = 32 := by
  simp only [okDisk, Bool.and_eq_true, List.all_eq_true] at h
  have := h.1.2 s hs
  simp only [okSec, Bool.and_eq_true, okLen, decide_eq_true_eq] at this
  exact this.1
theorem okDisk_pend {l0 : List S39} {l1 : List S49} (h : okDisk l0 l1 = true) (p : S49) (hp : p ∈ l1) : p.f1.length = 32 ∧ 0 ≤ p.f0 ∧ p.f0 < l0.length := by
  simp only [okDisk, Bool.and_eq_true, List.all_eq_true] at h
  have := h.2 p hp
  simp only [okPend, Bool.and_eq_true, okLen, decide_eq_true_eq] at this
  exact ⟨this.2, this.1.1, this.1.2⟩
theorem lastP_mem {l : List S49} {at_ : Int} {p : S49} (h : lastP l at_ = some p) : p ∈ l := List.mem_reverse.1 (List.mem_of_find?_eq_some h)
theorem rd_mem {l : List S39} {i : Int} (h0 : 0 ≤ i) (h1 : i < l.length) : rd_T39 l i ∈ l := by
  have : i.toNat < l.length := by omega
  unfold rd_T39
  rw [List.getD_eq_getElem?_getD, List.getElem?_eq_getElem this]
  exact List.getElem_mem this
theorem hLast.is_none (A0 : Option Addr) (n0 c0 : Nat) (A1 : Option Addr) (c1 : Nat) (l1 : List S49) (at_ : Int) (w : World) (hr : Kd.C k49 w A1 l1.length l1) (hl : lastP l1 at_ = none) :
    Calls Try.prog 58 #[.agg #[.slice A0 n0 c0, .slice A1 l1.length c1], .int .i64 at_] w fun e w' => e = .returned (.tuple #[.agg #[.int .i64 0, .slice none 0 0], .bool false]) ∧ Below w.heap.size w w' := by
  refine (hLast.calls A0 n0 c0 A1 c1 l1 at_ w hr).mono ?_
  rintro e w' ⟨hB, ⟨_, rfl⟩ | ⟨p, A, c, h, _⟩⟩
  · exact ⟨rfl, hB⟩
  · rw [hl] at h; cases h
theorem hLast.is_some (p : S49) (A0 : Option Addr) (n0 c0 : Nat) (A1 : Option Addr) (c1 : Nat) (l1 : List S49) (at_ : Int) (w : World) (hr : Kd.C k49 w A1 l1.length l1) (hl : lastP l1 at_ = some p) :
    Calls Try.prog 58 #[.agg #[.slice A0 n0 c0, .slice A1 l1.length c1], .int .i64 at_] w fun e w' => ∃ (A : Option Addr) (c : Nat), e = .returned (.tuple #[.agg #[.int .i64 p.f0, .slice A p.f1.length c], .bool true]) ∧ Below w.heap.size w w' ∧ p.f1.length ≤ c ∧ Kd.C (Kd.int .u8) w A p.f1.length p.f1 := by
  refine (hLast.calls A0 n0 c0 A1 c1 l1 at_ w hr).mono ?_
  rintro e w' ⟨hB, ⟨h, _⟩ | ⟨q, A, c, h, rfl, h1, h2⟩⟩
  · rw [hl] at h; cases h
  · rw [hl] at h
    injection h with h
    subst h
    exact ⟨A, c, rfl, hB, h1, h2⟩
theorem clone32 {l : List Int} (h : l.length = 32) : hClone.f l = some l := by
  unfold hClone.f
  rw [if_pos (by omega)]
def dRead (l0 : List S39) (l1 : List S49) (at_ : Int) : List Int × Int :=
  if dAsked l0 l1 at_ = 0 then (match lastP l1 at_ with | some p => (p.f1, 0) | none => if (rd_T39 l0 at_).f1 = true then ([], 50) else ((rd_T39 l0 at_).f0, 0)) else ([], dAsked l0 l1 at_)
def hRead.f (l0 : List S39) (l1 : List S49) (at_ : Int) : Option (List Int × Int) := some (dRead l0 l1 at_)
set_option maxHeartbeats 4000000 in
set_option maxRecDepth 100000 in
theorem hRead.calls (A0_0 : Option Addr) (c0_0 : Nat) (l0_0 : List S39) (A0_1 : Option Addr) (c0_1 : Nat) (l0_1 : List S49) (a1 : Int) (r1 : List Int) (r2 : Int) (w : World) (hr0_0 : Kd.C k39 w A0_0 l0_0.length l0_0) (hc0_0 : l0_0.length ≤ c0_0) (hr0_1 : Kd.C k49 w A0_1 l0_1.length l0_1) (hc0_1 : l0_1.length ≤ c0_1) (h : hRead.f l0_0 l0_1 a1 = some (r1, r2)) :
    Calls Try.prog 17 #[.agg #[.slice A0_0 l0_0.length c0_0, .slice A0_1 l0_1.length c0_1], .int .i64 a1] w fun e w' => ∃ v0_ : Value, e = .returned (.tuple #[v0_, .int .i64 r2]) ∧ Kd.R (Kd.int .u8) 5 w' w.heap.size (fun _ => True) v0_ r1 ∧ Below w.heap.size w w' := by
  have hu25 := Try.underlying25
  have hu65 := Try.underlying49
  have H : Aside0 (dRead l0_0 l0_1 a1 = (r1, r2)) := ⟨by unfold hRead.f at h; injection h⟩
  clear h
  have HR0 := Aside0.mk hr0_0
  have HR1 := Aside0.mk hr0_1
  have HC0 := Aside0.mk hc0_0
  have HC1 := Aside0.mk hc0_1
  have hm0 : l0_0.length ≤ 9223372036854775807 := hr0_0.2.1
  clear hr0_0 hr0_1 hc0_0 hc0_1
  have hB0 := below_alloc (Below.refl w.heap.size w) (.cells #[.slice A0_0 l0_0.length c0_0, .slice A0_1 l0_1.length c0_1] 25)
  have HB0 := Aside0.mk hB0
  have HK0 := Aside0.mk (heap_alloc_new w (.cells #[.slice A0_0 l0_0.length c0_0, .slice A0_1 l0_1.length c0_1] 25))
  clear hB0
  have HASK := fun (W : World) (hb : Below w.heap.size w W) => disk_asked.calls A0_0 c0_0 l0_0 A0_1 c0_1 l0_1 a1 (dAsked l0_0 l0_1 a1) W (Kd.C_below HR0.out hb) HC0.out (Kd.C_below HR1.out hb) HC1.out (dAsked_is l0_0 l0_1 a1)
  have HASK := Aside0.mk HASK
  by_cases ha : dAsked l0_0 l0_1 a1 = 0
  · obtain ⟨hok, h0, h1⟩ := dAsked_ok ha
    have hdr := H.out
    unfold dRead at hdr
    rw [if_pos ha] at hdr
    have hb : (dAsked l0_0 l0_1 a1 != 0) = false := by simpa using ha
    have HBZ := Aside0.mk hb
    have HOK := Aside0.mk hok
    clear H ha hok hb
    cases hl : lastP l0_1 a1 with
    | some p =>
      rw [hl] at hdr
      obtain ⟨rfl, rfl⟩ : p.f1 = r1 ∧ 0 = r2 := by simpa using hdr
      have HL := Aside0.mk hl
      have H32 := Aside0.mk (okDisk_pend HOK.out p (lastP_mem hl)).1
      clear hdr hl
      have hbz := HBZ.out
      go_enter Try.func17, Try.ntmps17
      go_wp2_with (first
        | (go_at_call 57; refine (HASK.out _ HB0.out).mono ?_; rintro e w1 ⟨rfl, hb1⟩; have HB1 := Aside0.mk (below_step HB0.out hb1); have HK1 := Aside0.mk ((hb1.block _ (by simp)).trans HK0.out); have hq0 : w1.cell? ⟨w.heap.size, 0, none⟩ = some (.slice A0_0 l0_0.length c0_0) := (blk_cell HK1.out 0).trans rfl; have hq1 : w1.cell? ⟨w.heap.size, 1, none⟩ = some (.slice A0_1 l0_1.length c0_1) := (blk_cell HK1.out 1).trans rfl; clear hb1)
        | (go_at_call 58; refine (hLast.is_some p _ _ _ _ _ l0_1 a1 _ (Kd.C_below HR1.out HB1.out) HL.out).mono ?_; rintro e w2 ⟨A, c, rfl, hb2, hc2, hr2⟩; have HB2 := Aside0.mk (below_step HB1.out hb2); have HC2 := Aside0.mk hc2; have HR2 := Aside0.mk (Kd.C_below hr2 hb2); clear hb2 hc2 hr2)
        | (go_at_call 59; refine (hClone.calls A c p.f1 p.f1 _ (Kd.C_alloc HR2.out _) HC2.out (clone32 H32.out)).mono ?_; rintro e w3 ⟨v3, rfl, ho3, hb3⟩; have HB3 := Aside0.mk (below_step (below_alloc HB2.out _) hb3); have HO3 := Aside0.mk (Kd.R_lower ho3 (below_size (below_alloc HB2.out _))); clear ho3 hb3))
      go_ret2
      exact ⟨_, rfl, HO3.out, HB3.out⟩
    | none =>
      rw [hl] at hdr
      have HL := Aside0.mk hl
      clear hl
      have hs := okDisk_sec HOK.out (rd_T39 l0_0 a1) (rd_mem h0 h1)
      obtain ⟨ad, A1, c1, rfl, hx0, hx1, hl1, hi1⟩ := at_T39 HR0.out a1 h0 h1
      have HX0 := Aside0.mk hx0
      have HX1 := Aside0.mk hx1
      have HI := Aside0.mk hi1
      have HL1 := Aside0.mk hl1
      have HS := Aside0.mk hs
      clear hx0 hx1 hi1 hl1 hs
      cases hbad : (rd_T39 l0_0 a1).f1 with
      | true =>
        obtain ⟨rfl, rfl⟩ : [] = r1 ∧ 50 = r2 := by simpa [hbad] using hdr
        have HBD := Aside0.mk hbad
        clear hdr hbad
        have hbz := HBZ.out
        go_enter Try.func17, Try.ntmps17
        go_wp2_with (first
          | (go_at_call 57; refine (HASK.out _ HB0.out).mono ?_; rintro e w1 ⟨rfl, hb1⟩; have HB1 := Aside0.mk (below_step HB0.out hb1); have HK1 := Aside0.mk ((hb1.block _ (by simp)).trans HK0.out); have hq0 : w1.cell? ⟨w.heap.size, 0, none⟩ = some (.slice (some ad) l0_0.length c0_0) := (blk_cell HK1.out 0).trans rfl; have hq1 : w1.cell? ⟨w.heap.size, 1, none⟩ = some (.slice A0_1 l0_1.length c0_1) := (blk_cell HK1.out 1).trans rfl; clear hb1)
          | (go_at_call 58; refine (hLast.is_none _ _ _ _ _ l0_1 a1 _ (Kd.C_below HR1.out HB1.out) HL.out).mono ?_; rintro e w2 ⟨rfl, hb2⟩; have HB2 := Aside0.mk (below_step HB1.out hb2); have HK2 := Aside0.mk ((hb2.block _ (blk_lt HK1.out)).trans HK1.out); have hs0 : w2.cell? ⟨w.heap.size, 0, none⟩ = some (.slice (some ad) l0_0.length c0_0) := (blk_cell HK2.out 0).trans rfl; have hs1 : w.heap.size < w2.heap.size := blk_lt HK2.out; have hx1 : w2.cell? ⟨(ad.add (a1.toNat * 2)).block, (ad.add (a1.toNat * 2)).off + 1, none⟩ = some (.bool true) := ((HB2.out.cell (World.block_lt_of_cell? w _ HX1.out)).trans HX1.out).trans (by rw [HBD.out]); have hlt : (ad.add (a1.toNat * 2)).block < w2.heap.size := Nat.lt_of_lt_of_le (World.block_lt_of_cell? w _ HX0.out) HB2.out.size; clear hb2))
        go_ret2
        exact ⟨_, rfl, Kd.R_nil _ _ _ _ _, below_alloc HB2.out _⟩
      | false =>
        obtain ⟨rfl, rfl⟩ : (rd_T39 l0_0 a1).f0 = r1 ∧ 0 = r2 := by simpa [hbad] using hdr
        have HBD := Aside0.mk hbad
        clear hdr hbad
        have hbz := HBZ.out
        go_enter Try.func17, Try.ntmps17
        go_wp2_with (first
          | (go_at_call 57; refine (HASK.out _ HB0.out).mono ?_; rintro e w1 ⟨rfl, hb1⟩; have HB1 := Aside0.mk (below_step HB0.out hb1); have HK1 := Aside0.mk ((hb1.block _ (by simp)).trans HK0.out); have hq0 : w1.cell? ⟨w.heap.size, 0, none⟩ = some (.slice (some ad) l0_0.length c0_0) := (blk_cell HK1.out 0).trans rfl; have hq1 : w1.cell? ⟨w.heap.size, 1, none⟩ = some (.slice A0_1 l0_1.length c0_1) := (blk_cell HK1.out 1).trans rfl; clear hb1)
          | (go_at_call 58; refine (hLast.is_none _ _ _ _ _ l0_1 a1 _ (Kd.C_below HR1.out HB1.out) HL.out).mono ?_; rintro e w2 ⟨rfl, hb2⟩; have HB2 := Aside0.mk (below_step HB1.out hb2); have HK2 := Aside0.mk ((hb2.block _ (blk_lt HK1.out)).trans HK1.out); have hs0 : w2.cell? ⟨w.heap.size, 0, none⟩ = some (.slice (some ad) l0_0.length c0_0) := (blk_cell HK2.out 0).trans rfl; have hs1 : w.heap.size < w2.heap.size := blk_lt HK2.out; have hx1 : w2.cell? ⟨(ad.add (a1.toNat * 2)).block, (ad.add (a1.toNat * 2)).off + 1, none⟩ = some (.bool false) := ((HB2.out.cell (World.block_lt_of_cell? w _ HX1.out)).trans HX1.out).trans (by rw [HBD.out]); have hx0 : w2.cell? (ad.add (a1.toNat * 2)) = some (.slice A1 (rd_T39 l0_0 a1).f0.length c1) := (HB2.out.cell (World.block_lt_of_cell? w _ HX0.out)).trans HX0.out; have hlt : (ad.add (a1.toNat * 2)).block < w2.heap.size := Nat.lt_of_lt_of_le (World.block_lt_of_cell? w _ HX0.out) HB2.out.size; clear hb2)
          | (go_at_call 59; refine (hClone.calls A1 c1 (rd_T39 l0_0 a1).f0 (rd_T39 l0_0 a1).f0 _ (Kd.C_below HI.out (below_alloc HB2.out _)) HL1.out (clone32 HS.out)).mono ?_; rintro e w3 ⟨v3, rfl, ho3, hb3⟩; have HB3 := Aside0.mk (below_step (below_alloc HB2.out _) hb3); have HO3 := Aside0.mk (Kd.R_lower ho3 (below_size (below_alloc HB2.out _))); clear ho3 hb3))
        go_ret2
        exact ⟨_, rfl, HO3.out, HB3.out⟩
  · obtain ⟨rfl, rfl⟩ : [] = r1 ∧ dAsked l0_0 l0_1 a1 = r2 := by
      have := H.out
      unfold dRead at this
      rw [if_neg ha] at this
      simpa using this
    have hb : (dAsked l0_0 l0_1 a1 != 0) = true := by simpa using ha
    clear H ha
    go_enter Try.func17, Try.ntmps17
    go_wp2_with (go_at_call 57; refine (HASK.out _ HB0.out).mono ?_; rintro e w1 ⟨rfl, hb1⟩; have HB1 := Aside0.mk (below_step HB0.out hb1); clear hb1)
    go_ret2
    exact ⟨_, rfl, Kd.R_nil _ _ _ _ _, HB1.out⟩
def dWaits (l0 : List S39) (l1 : List S49) (at_ : Int) : Bool × Int := if dAsked l0 l1 at_ = 0 then ((lastP l1 at_).isSome, 0) else (false, dAsked l0 l1 at_)
def hWaits.f (l0 : List S39) (l1 : List S49) (at_ : Int) : Option (Bool × Int) := some (dWaits l0 l1 at_)
set_option maxHeartbeats 4000000 in
set_option maxRecDepth 100000 in
theorem hWaits.calls (A0_0 : Option Addr) (c0_0 : Nat) (l0_0 : List S39) (A0_1 : Option Addr) (c0_1 : Nat) (l0_1 : List S49) (a1 : Int) (r1 : Bool) (r2 : Int) (w : World) (hr0_0 : Kd.C k39 w A0_0 l0_0.length l0_0) (hc0_0 : l0_0.length ≤ c0_0) (hr0_1 : Kd.C k49 w A0_1 l0_1.length l0_1) (hc0_1 : l0_1.length ≤ c0_1) (h : hWaits.f l0_0 l0_1 a1 = some (r1, r2)) :
    Calls Try.prog 20 #[.agg #[.slice A0_0 l0_0.length c0_0, .slice A0_1 l0_1.length c0_1], .int .i64 a1] w fun e w' => e = .returned (.tuple #[.bool r1, .int .i64 r2]) ∧ Below w.heap.size w w' := by
  have hu25 := Try.underlying25
  have hu65 := Try.underlying49
  have H : Aside0 (dWaits l0_0 l0_1 a1 = (r1, r2)) := ⟨by unfold hWaits.f at h; injection h⟩
  clear h
  have HR0 := Aside0.mk hr0_0
  have HR1 := Aside0.mk hr0_1
  have HC0 := Aside0.mk hc0_0
  have HC1 := Aside0.mk hc0_1
  clear hr0_0 hr0_1 hc0_0 hc0_1
  have HB0 := Aside0.mk (below_alloc (Below.refl w.heap.size w) (.cells #[.slice A0_0 l0_0.length c0_0, .slice A0_1 l0_1.length c0_1] 25))
  have HK0 := Aside0.mk (heap_alloc_new w (.cells #[.slice A0_0 l0_0.length c0_0, .slice A0_1 l0_1.length c0_1] 25))
  have HASK := Aside0.mk (fun (W : World) (hb : Below w.heap.size w W) => disk_asked.calls A0_0 c0_0 l0_0 A0_1 c0_1 l0_1 a1 (dAsked l0_0 l0_1 a1) W (Kd.C_below HR0.out hb) HC0.out (Kd.C_below HR1.out hb) HC1.out (dAsked_is l0_0 l0_1 a1))
  by_cases ha : dAsked l0_0 l0_1 a1 = 0
  · have hdr := H.out
    unfold dWaits at hdr
    rw [if_pos ha] at hdr
    have hbz : (dAsked l0_0 l0_1 a1 != 0) = false := by simpa using ha
    clear H ha
    cases hl : lastP l0_1 a1 with
    | some p =>
      obtain ⟨rfl, rfl⟩ : true = r1 ∧ 0 = r2 := by simpa [hl] using hdr
      have HL := Aside0.mk hl
      clear hdr hl
      go_enter Try.func20, Try.ntmps20
      go_wp2_with (first
        | (go_at_call 57; refine (HASK.out _ HB0.out).mono ?_; rintro e w1 ⟨rfl, hb1⟩; have HB1 := Aside0.mk (below_step HB0.out hb1); have HK1 := Aside0.mk ((hb1.block _ (by simp)).trans HK0.out); have hq0 : w1.cell? ⟨w.heap.size, 0, none⟩ = some (.slice A0_0 l0_0.length c0_0) := (blk_cell HK1.out 0).trans rfl; have hq1 : w1.cell? ⟨w.heap.size, 1, none⟩ = some (.slice A0_1 l0_1.length c0_1) := (blk_cell HK1.out 1).trans rfl; clear hb1)
        | (go_at_call 58; refine (hLast.is_some p _ _ _ _ _ l0_1 a1 _ (Kd.C_below HR1.out HB1.out) HL.out).mono ?_; rintro e w2 ⟨A, c, rfl, hb2, hc2, hr2⟩; have HB2 := Aside0.mk (below_step HB1.out hb2); clear hb2 hc2 hr2))
      go_ret2
      exact ⟨rfl, below_alloc HB2.out _⟩
    | none =>
      obtain ⟨rfl, rfl⟩ : false = r1 ∧ 0 = r2 := by simpa [hl] using hdr
      have HL := Aside0.mk hl
      clear hdr hl
      go_enter Try.func20, Try.ntmps20
      go_wp2_with (first
        | (go_at_call 57; refine (HASK.out _ HB0.out).mono ?_; rintro e w1 ⟨rfl, hb1⟩; have HB1 := Aside0.mk (below_step HB0.out hb1); have HK1 := Aside0.mk ((hb1.block _ (by simp)).trans HK0.out); have hq0 : w1.cell? ⟨w.heap.size, 0, none⟩ = some (.slice A0_0 l0_0.length c0_0) := (blk_cell HK1.out 0).trans rfl; have hq1 : w1.cell? ⟨w.heap.size, 1, none⟩ = some (.slice A0_1 l0_1.length c0_1) := (blk_cell HK1.out 1).trans rfl; clear hb1)
        | (go_at_call 58; refine (hLast.is_none _ _ _ _ _ l0_1 a1 _ (Kd.C_below HR1.out HB1.out) HL.out).mono ?_; rintro e w2 ⟨rfl, hb2⟩; have HB2 := Aside0.mk (below_step HB1.out hb2); clear hb2))
      go_ret2
      exact ⟨rfl, below_alloc HB2.out _⟩
  · obtain ⟨rfl, rfl⟩ : false = r1 ∧ dAsked l0_0 l0_1 a1 = r2 := by
      have := H.out
      unfold dWaits at this
      rw [if_neg ha] at this
      simpa using this
    have hb : (dAsked l0_0 l0_1 a1 != 0) = true := by simpa using ha
    clear H ha
    go_enter Try.func20, Try.ntmps20
    go_wp2_with (go_at_call 57; refine (HASK.out _ HB0.out).mono ?_; rintro e w1 ⟨rfl, hb1⟩; have HB1 := Aside0.mk (below_step HB0.out hb1); clear hb1)
    go_ret2
    exact ⟨rfl, HB1.out⟩
end Go.Proofs.Ytdkjhcdniepbhaa.P
end
section
set_option linter.unusedVariables false
set_option linter.unusedSimpArgs false
namespace Go.Proofs.Ytdkjhcdniepbhaa.P
open Go.RowKit Go.Proofs.PrintWords Go.Proofs.PrintLast Go.Proofs.PrintMore
attribute [local go_sem] max2_int min2_int max_two min_two max_three min_three max_four min_four
theorem twin_l1 : ∀ (m k n : Nat) (l1 : List S49) (o0 : List S39), n + m = l1.length → m + 1 ≤ k → l1.length ≤ 100000 → (∀ p ∈ l1, p.f1.length ≤ 100000) → disk_Twin.l1 k l1 (l1.length : Int) (n : Int) o0 (l1.take n) = some (o0, l1)
  | 0, k + 1, n, l1, o0, h, _, _, _ => by
    obtain rfl : n = l1.length := by omega
    unfold disk_Twin.l1
    rw [if_neg (by omega), List.take_length]
  | m + 1, k + 1, n, l1, o0, h, hk, hl, hb => by
    have hn : n < l1.length := by omega
    have hg : rd_T49 l1 (n : Int) = l1[n] := by unfold rd_T49; rw [List.getD_eq_getElem?_getD]; simp [hn]
    have hx := hb l1[n] (List.getElem_mem hn)
    have hw : wrap64 ((n : Int) + 1) = ((n + 1 : Nat) : Int) := by unfold wrap64; omega
    have ht : (l1.take n).length = n := by rw [List.length_take]; omega
    unfold disk_Twin.l1
    rw [if_pos (by omega), if_pos (by omega), if_pos (by omega), hg]
    unfold hClone.f
    rw [if_pos (by omega), Option.bind_some, if_pos (by omega), hw, ← twin_l1 m k (n + 1) l1 o0 (by omega) (by omega) hl hb, List.take_add_one, List.getElem?_eq_getElem hn]
    rfl
theorem twin_l0 : ∀ (m k n : Nat) (l0 : List S39) (l1 : List S49), n + m = l0.length → m + l1.length + 2 ≤ k → l0.length ≤ 100000 → l1.length ≤ 100000 → (∀ p ∈ l0, p.f0.length ≤ 100000) → (∀ p ∈ l1, p.f1.length ≤ 100000) → disk_Twin.l0 k l0 (l0.length : Int) (n : Int) l0 l1 (l0.take n) = some (l0, l1)
  | 0, k + 1, n, l0, l1, h, hk, _, hl1, _, hb1 => by
    obtain rfl : n = l0.length := by omega
    unfold disk_Twin.l0
    rw [if_neg (by omega), List.take_length]
    exact twin_l1 l1.length k 0 l1 l0 (by omega) (by omega) hl1 hb1
  | m + 1, k + 1, n, l0, l1, h, hk, hl, hl1, hb, hb1 => by
    have hn : n < l0.length := by omega
    have hg : rd_T39 l0 (n : Int) = l0[n] := by unfold rd_T39; rw [List.getD_eq_getElem?_getD]; simp [hn]
    have hx := hb l0[n] (List.getElem_mem hn)
    have hw : wrap64 ((n : Int) + 1) = ((n + 1 : Nat) : Int) := by unfold wrap64; omega
    have ht : (l0.take n).length = n := by rw [List.length_take]; omega
    unfold disk_Twin.l0
    rw [if_pos (by omega), if_pos (by omega), if_pos (by omega), hg]
    unfold hClone.f
    rw [if_pos (by omega), Option.bind_some, if_pos (by omega), hw, ← twin_l0 m k (n + 1) l0 l1 (by omega) (by omega) hl hl1 hb hb1, List.take_add_one, List.getElem?_eq_getElem hn]
    rfl
theorem disk_Twin.is (k : Nat) (l0 : List S39) (l1 : List S49) (hk : l0.length + l1.length + 2 ≤ k) (hl : l0.length ≤ 100000) (hl1 : l1.length ≤ 100000) (hb : ∀ p ∈ l0, p.f0.length ≤ 100000) (hb1 : ∀ p ∈ l1, p.f1.length ≤ 100000) : disk_Twin.f k l0 l1 = some (l0, l1) := by
  unfold disk_Twin.f
  exact twin_l0 l0.length k 0 l0 l1 (by omega) hk hl hl1 hb hb1
theorem okDisk_len {l0 : List S39} {l1 : List S49} (h : okDisk l0 l1 = true) : 1 ≤ l0.length ∧ l0.length ≤ 1024 ∧ l1.length ≤ 64 := by
  simp only [okDisk, Bool.and_eq_true, decide_eq_true_eq] at h
  omega
theorem okDisk_twin {l0 : List S39} {l1 : List S49} (h : okDisk l0 l1 = true) : disk_Twin.f 1200 l0 l1 = some (l0, l1) := by
  have := okDisk_len h
  exact disk_Twin.is 1200 l0 l1 (by omega) (by omega) (by omega) (fun p hp => by rw [okDisk_sec h p hp]; omega) (fun p hp => by rw [(okDisk_pend h p hp).1]; omega)
def dWrite (l0 : List S39) (l1 : List S49) (at_ : Int) (b : List Int) : List S39 × List S49 × Int :=
  if dAsked l0 l1 at_ = 0 then (if b.length = 32 then (if l1.length = 64 then ([], [], 9) else (l0, l1 ++ [⟨at_, b⟩], 0)) else ([], [], 2)) else ([], [], dAsked l0 l1 at_)
def hWrite.f (l0 : List S39) (l1 : List S49) (at_ : Int) (b : List Int) : Option (List S39 × List S49 × Int) := some (dWrite l0 l1 at_ b)
def hWrite.T9 : Bool × List (List Nat × List Nat) := (true, [([], []), ([0], [0]), ([], []), ([], []), ([3], [3]), ([2, 4], [2, 4]), ([5], [5]), ([1, 6, 4], [1, 6]), ([0, 1, 2, 3, 4, 5, 6, 7], []), ([8, 7, 7, 0, 1, 2, 3, 4, 5, 6, 7], [7, 8])])
def hWrite.B9 : List Nat := [0, 1, 0, 0, 8, 28, 60, 127, 255, 511]
theorem hWrite.tab9 : rtab .any (opsOf Try.f18 9) = hWrite.T9 := by kernel_rfl
theorem hWrite.bits9 : waitsOk hWrite.T9.2 hWrite.B9 = true := by kernel_rfl
set_option maxHeartbeats 4000000 in
set_option maxRecDepth 100000 in
theorem hWrite.calls (A0_0 : Option Addr) (c0_0 : Nat) (l0_0 : List S39) (A0_1 : Option Addr) (c0_1 : Nat) (l0_1 : List S49) (a1 : Int) (A2 : Option Addr) (c2 : Nat) (l2 : List Int) (r1 : List S39) (r2 : List S49) (r3 : Int) (w : World) (hr0_0 : Kd.C k39 w A0_0 l0_0.length l0_0) (hc0_0 : l0_0.length ≤ c0_0) (hr0_1 : Kd.C k49 w A0_1 l0_1.length l0_1) (hc0_1 : l0_1.length ≤ c0_1) (hr2 : Kd.C (Kd.int .u8) w A2 l2.length l2) (hc2 : l2.length ≤ c2) (h : hWrite.f l0_0 l0_1 a1 l2 = some (r1, r2, r3)) :
    Calls Try.prog 18 #[.agg #[.slice A0_0 l0_0.length c0_0, .slice A0_1 l0_1.length c0_1], .int .i64 a1, .slice A2 l2.length c2] w fun e w' => ∃ v0_ v1_ : Value, e = .returned (.tuple #[.agg #[v0_, v1_], .int .i64 r3]) ∧ Kd.S k39 39 w' w.heap.size (fun _ => True) v0_ r1 ∧ Kd.S k49 49 w' w.heap.size (fun _ => True) v1_ r2 ∧ Below w.heap.size w w' := by
  have hu25 := Try.underlying25
  have hu65 := Try.underlying49
  have H : Aside0 (dWrite l0_0 l0_1 a1 l2 = (r1, r2, r3)) := ⟨by unfold hWrite.f at h; injection h⟩
  clear h
  have HR0 := Aside0.mk hr0_0
  have HR1 := Aside0.mk hr0_1
  have HR2 := Aside0.mk hr2
  have HC0 := Aside0.mk hc0_0
  have HC1 := Aside0.mk hc0_1
  have HC2 := Aside0.mk hc2
  clear hr0_0 hr0_1 hr2 hc0_0 hc0_1 hc2
  have hB0 := below_alloc (below_alloc (Below.refl w.heap.size w) (.cells #[.slice A0_0 l0_0.length c0_0, .slice A0_1 l0_1.length c0_1] 25)) (.cells #[.slice none 0 0, .slice none 0 0] 25)
  have HB0 := Aside0.mk hB0
  have HK0 := Aside0.mk (blk_alloc (heap_alloc_new w (.cells #[.slice A0_0 l0_0.length c0_0, .slice A0_1 l0_1.length c0_1] 25)) (.cells #[.slice none 0 0, .slice none 0 0] 25))
  have HK6 := Aside0.mk (heap_alloc_at w (.cells #[.slice A0_0 l0_0.length c0_0, .slice A0_1 l0_1.length c0_1] 25) (.cells #[.slice none 0 0, .slice none 0 0] 25) (w.heap.size + 1) rfl)
  clear hB0
  have HASK := fun (W : World) (hb : Below w.heap.size w W) => disk_asked.calls A0_0 c0_0 l0_0 A0_1 c0_1 l0_1 a1 (dAsked l0_0 l0_1 a1) W (Kd.C_below HR0.out hb) HC0.out (Kd.C_below HR1.out hb) HC1.out (dAsked_is l0_0 l0_1 a1)
  have HASK := Aside0.mk HASK
  by_cases ha : dAsked l0_0 l0_1 a1 = 0
  · obtain ⟨hok, h0, h1⟩ := dAsked_ok ha
    have hdr := H.out
    unfold dWrite at hdr
    rw [if_pos ha] at hdr
    have hb : (dAsked l0_0 l0_1 a1 != 0) = false := by simpa using ha
    have HBZ := Aside0.mk hb
    have HOK := Aside0.mk hok
    clear H ha hok hb
    by_cases h32 : l2.length = 32
    · rw [if_pos h32] at hdr
      have hz := HBZ.out
      by_cases h64 : l0_1.length = 64
      · rw [if_pos h64] at hdr
        obtain ⟨rfl, rfl, rfl⟩ : [] = r1 ∧ [] = r2 ∧ 9 = r3 := by simpa using hdr
        have h64b : ((l0_1.length : Int) == 64) = true := by rw [h64]; rfl
        clear hdr
        have H32 := Aside0.mk (show okLen l2 = true by unfold okLen; simp [h32])
        clear h32 h64
        go_enter Try.func18, Try.ntmps18
        go_wp2_with (first
          | (go_at_call 57; refine (HASK.out _ HB0.out).mono ?_; rintro e w1 ⟨rfl, hb1⟩; have HB1 := Aside0.mk (below_step HB0.out hb1); have HK1 := Aside0.mk ((hb1.block _ (blk_lt HK0.out)).trans HK0.out); have HL1 := Aside0.mk ((hb1.block _ (blk_lt HK6.out)).trans HK6.out); have hq0 : w1.cell? ⟨w.heap.size, 0, none⟩ = some (.slice A0_0 l0_0.length c0_0) := (blk_cell HK1.out 0).trans rfl; have hq1 : w1.cell? ⟨w.heap.size, 1, none⟩ = some (.slice A0_1 l0_1.length c0_1) := (blk_cell HK1.out 1).trans rfl; have hy0 : w1.cell? ⟨w.heap.size + 1, 0, none⟩ = some (.slice none 0 0) := (blk_cell HL1.out 0).trans rfl; have hy1 : w1.cell? ⟨w.heap.size + 1, 1, none⟩ = some (.slice none 0 0) := (blk_cell HL1.out 1).trans rfl; have hf0 := blk_frozen HL1.out 0; have hf1 := blk_frozen HL1.out 1; clear hb1)
          | (go_at_call 60; refine (hSized.one_is true _ A2 c2 l2 _ H32.out (by simp) HC2.out (Kd.C_below HR2.out (below_alloc HB1.out _))).mono ?_; rintro e w2 ⟨rfl, hb2⟩; have HB2 := Aside0.mk (below_then (below_alloc HB1.out _) (below_size (below_alloc HB1.out _)) hb2); have HK2 := Aside0.mk ((hb2.block _ (blk_lt (blk_alloc HK1.out _))).trans (blk_alloc HK1.out _)); have HL2 := Aside0.mk ((hb2.block _ (blk_lt (blk_alloc HL1.out _))).trans (blk_alloc HL1.out _)); clear hq0 hq1 hy0 hy1 hf0 hf1; have hq0 : w2.cell? ⟨w.heap.size, 0, none⟩ = some (.slice A0_0 l0_0.length c0_0) := (blk_cell HK2.out 0).trans rfl; have hq1 : w2.cell? ⟨w.heap.size, 1, none⟩ = some (.slice A0_1 l0_1.length c0_1) := (blk_cell HK2.out 1).trans rfl; have hy0 : w2.cell? ⟨w.heap.size + 1, 0, none⟩ = some (.slice none 0 0) := (blk_cell HL2.out 0).trans rfl; have hy1 : w2.cell? ⟨w.heap.size + 1, 1, none⟩ = some (.slice none 0 0) := (blk_cell HL2.out 1).trans rfl; have hf0 := blk_frozen HL2.out 0; have hf1 := blk_frozen HL2.out 1; clear hb2))
        refine bodyPost_ret (results_ct rfl _ _ (w.heap.size + 1) 25 #[.slice none 0 0, .slice none 0 0] (0, 0) _ rfl (blk_put (cs := #[.slice none 0 0, .slice none 0 0]) (blk_put (cs := #[.slice none 0 0, .slice none 0 0]) HL2.out 0 _ rfl) 1 _ rfl) Try.underlying25 rfl (by kernel_rfl)) rfl ?_
        exact ⟨_, _, rfl, Kd.S_nil _ _ _ _ _, Kd.S_nil _ _ _ _ _, below_set (below_set HB2.out (Nat.le_succ _)) (Nat.le_succ _)⟩
      · rw [if_neg h64] at hdr
        obtain ⟨rfl, rfl, rfl⟩ : l0_0 = r1 ∧ l0_1 ++ [⟨a1, l2⟩] = r2 ∧ 0 = r3 := by simpa using hdr
        have h64b : ((l0_1.length : Int) == 64) = false := by rw [beq_eq_false_iff_ne]; omega
        clear hdr
        have HT := fun (W : World) (hb : Below w.heap.size w W) => disk_Twin.calls 1200 A0_0 c0_0 l0_0 A0_1 c0_1 l0_1 l0_0 l0_1 W (Kd.C_below HR0.out hb) HC0.out (Kd.C_below HR1.out hb) HC1.out (okDisk_twin HOK.out)
        have HT := Aside0.mk HT
        have H32n := Aside0.mk h32
        have H32 := Aside0.mk (show okLen l2 = true by unfold okLen; simp [h32])
        clear h32 h64
        go_enter Try.func18, Try.ntmps18
        go_wp2_with (first
          | (go_at_call 57; refine (HASK.out _ HB0.out).mono ?_; rintro e w1 ⟨rfl, hb1⟩; have HB1 := Aside0.mk (below_step HB0.out hb1); have HK1 := Aside0.mk ((hb1.block _ (blk_lt HK0.out)).trans HK0.out); have HL1 := Aside0.mk ((hb1.block _ (blk_lt HK6.out)).trans HK6.out); have hq0 : w1.cell? ⟨w.heap.size, 0, none⟩ = some (.slice A0_0 l0_0.length c0_0) := (blk_cell HK1.out 0).trans rfl; have hq1 : w1.cell? ⟨w.heap.size, 1, none⟩ = some (.slice A0_1 l0_1.length c0_1) := (blk_cell HK1.out 1).trans rfl; have hy0 : w1.cell? ⟨w.heap.size + 1, 0, none⟩ = some (.slice none 0 0) := (blk_cell HL1.out 0).trans rfl; have hy1 : w1.cell? ⟨w.heap.size + 1, 1, none⟩ = some (.slice none 0 0) := (blk_cell HL1.out 1).trans rfl; have hf0 := blk_frozen HL1.out 0; have hf1 := blk_frozen HL1.out 1; clear hb1)
          | (go_at_call 60; refine (hSized.one_is true _ A2 c2 l2 _ H32.out (by simp) HC2.out (Kd.C_below HR2.out (below_alloc HB1.out _))).mono ?_; rintro e w2 ⟨rfl, hb2⟩; have HB2 := Aside0.mk (below_then (below_alloc HB1.out _) (below_size (below_alloc HB1.out _)) hb2); have HK2 := Aside0.mk ((hb2.block _ (blk_lt (blk_alloc HK1.out _))).trans (blk_alloc HK1.out _)); have HL2 := Aside0.mk ((hb2.block _ (blk_lt (blk_alloc HL1.out _))).trans (blk_alloc HL1.out _)); clear hq0 hq1 hy0 hy1 hf0 hf1; have hq0 : w2.cell? ⟨w.heap.size, 0, none⟩ = some (.slice A0_0 l0_0.length c0_0) := (blk_cell HK2.out 0).trans rfl; have hq1 : w2.cell? ⟨w.heap.size, 1, none⟩ = some (.slice A0_1 l0_1.length c0_1) := (blk_cell HK2.out 1).trans rfl; have hy0 : w2.cell? ⟨w.heap.size + 1, 0, none⟩ = some (.slice none 0 0) := (blk_cell HL2.out 0).trans rfl; have hy1 : w2.cell? ⟨w.heap.size + 1, 1, none⟩ = some (.slice none 0 0) := (blk_cell HL2.out 1).trans rfl; have hf0 := blk_frozen HL2.out 0; have hf1 := blk_frozen HL2.out 1; clear hb2)
          | (go_at_call 61; refine (HT.out _ HB2.out).mono ?_; rintro e w3 ⟨v1, v2, rfl, ho1, ho2, hb3⟩; obtain ⟨Ao1, co1, eo1⟩ := Kd.S_slice ho1; subst eo1; obtain ⟨Ao2, co2, eo2⟩ := Kd.S_slice ho2; subst eo2; have HB3 := Aside0.mk (below_step HB2.out hb3); have HK3 := Aside0.mk ((hb3.block _ (blk_lt HK2.out)).trans HK2.out); have HL3 := Aside0.mk ((hb3.block _ (blk_lt HL2.out)).trans HL2.out); have HO1 := Aside0.mk (Kd.S_lower ho1 (below_size HB2.out)); have HO2 := Aside0.mk (Kd.S_lower ho2 (below_size HB2.out)); clear hb3 ho1 ho2; clear hq0 hq1 hy0 hy1 hf0 hf1))
        have HB9 := Aside0.mk (below_alloc HB3.out (.cells #[.slice Ao1 l0_0.length co1, .slice Ao2 l0_1.length co2] 25))
        have HK9 := Aside0.mk (heap_alloc_new w3 (.cells #[.slice Ao1 l0_0.length co1, .slice Ao2 l0_1.length co2] 25))
        have HL9 := Aside0.mk (blk_alloc HL3.out (.cells #[.slice Ao1 l0_0.length co1, .slice Ao2 l0_1.length co2] 25))
        have HP1 := Aside0.mk (Kd.S_alloc HO1.out (.cells #[.slice Ao1 l0_0.length co1, .slice Ao2 l0_1.length co2] 25))
        have HP2 := Aside0.mk (Kd.S_alloc HO2.out (.cells #[.slice Ao1 l0_0.length co1, .slice Ao2 l0_1.length co2] 25))
        have HG := Aside0.mk (below_size HB3.out)
        have HN := Aside0.mk (show w.heap.size + 1 ≠ w3.heap.size from Nat.ne_of_lt (blk_lt HL3.out))
        generalize (w3.alloc (.cells #[.slice Ao1 l0_0.length co1, .slice Ao2 l0_1.length co2] 25)) = W9 at HB9 HK9 HL9 HP1 HP2 ⊢
        generalize w3.heap.size = g at HK9 HG HN ⊢
        clear HO1 HO2 HK3 HL3 HK2 HL2 HK1 HL1 HK0 HK6 HB0 HB1 HB2 HB3
        refine start_ (n := 10) (S := fun w' => w'.cell? ⟨g, 0, none⟩ = some (.slice Ao1 l0_0.length co1) ∧ w'.cell? ⟨g, 1, none⟩ = some (.slice Ao2 l0_1.length co2)) (ds := [9]) #[false, false, false, false, false, false, false, false, false, false] (by kernel_rfl) rfl rfl ⟨(blk_cell (blk_drew HK9.out) 0).trans rfl, (blk_cell (blk_drew HK9.out) 1).trans rfl⟩ (fun hHeld => ?_); refine wtW hWrite.tab9 hWrite.bits9 (fun HT_ HW_ => ?_)
        have HBa := Aside0.mk (bdr1 HB9.out)
        have HKa := Aside0.mk (blk_drew HK9.out)
        have HLa := Aside0.mk (blk_drew HL9.out)
        have HQ1 := Aside0.mk (Kd.S_drew HP1.out)
        have HQ2 := Aside0.mk (Kd.S_drew HP2.out)
        generalize W9.drew = Wa at HBa HKa HLa HQ1 HQ2 hHeld ⊢
        clear HB9 HK9 HL9 HP1 HP2
        refine pure_ (i := 0) (N := some 32) (v := ?_) (a' := ?_) #[true, false, false, false, false, false, false, false, false, false] rfl rfl (any_of HT_.out (by kernel_rfl)) (fun _ _ _ h => h) (Or.inl ⟨by rfl, ?_⟩) ?_ ?_
        rotate_left
        · intro w'
          go_simp
          with_reducible rfl
        rotate_left
        · simp only [Act.put, List.setIfInBounds_toArray, List.set_cons_zero, List.set_cons_succ, i64_w, i32_w]
          rfl
        refine pure_ (i := 2) (N := some 34) (v := ?_) (a' := ?_) #[true, false, true, false, false, false, false, false, false, false] rfl rfl (any_of HT_.out (by kernel_rfl)) (fun _ _ _ h => h) (Or.inl ⟨by rfl, ?_⟩) ?_ ?_
        rotate_left
        · intro w'
          go_simp
          with_reducible rfl
        rotate_left
        · simp only [Act.put, List.setIfInBounds_toArray, List.set_cons_zero, List.set_cons_succ, i64_w, i32_w]
          rfl
        refine pure_ (i := 3) (N := some 35) (v := ?_) (a' := ?_) #[true, false, true, true, false, false, false, false, false, false] rfl rfl (any_of HT_.out (by kernel_rfl)) (fun _ _ _ h => h) (Or.inl ⟨by rfl, ?_⟩) ?_ ?_
        rotate_left
        · intro w'
          go_simp
          with_reducible rfl
        rotate_left
        · simp only [Act.put, List.setIfInBounds_toArray, List.set_cons_zero, List.set_cons_succ, i64_w, i32_w]
          rfl
        refine take_ (i := 1) (N := some 33) (v := ?_) (a' := ?_) #[true, true, true, true, false, false, false, false, false, false] rfl rfl (take_ofW HT_.out HW_.out (by kernel_rfl)) (fun _ _ _ h => h) (Or.inl ⟨by rfl, ?_⟩) hHeld ?_ ?_
        rotate_left
        · rintro w' ⟨s0, s1⟩
          go_simp
          with_reducible rfl
        rotate_left
        · simp only [Act.put, List.setIfInBounds_toArray, List.set_cons_zero, List.set_cons_succ, i64_w, i32_w]
          rfl
        refine one_ (i := 4) (N := some 36) #[true, true, true, true, true, false, false, false, false, false] rfl rfl (one_of HT_.out (by kernel_rfl)) (by decide) (fun K hK => ?_)
        refine goes_ Try.func59 (by kernel_rfl) rfl #[.slice A2 l2.length c2] (by rfl) rfl rfl (by (try simp only [List.map_toArray, List.map_cons, List.map_nil]); first | done | rfl | (simp only [List.length_drop, List.length_take]; rfl)) ?_
        refine (hClone.calls A2 c2 l2 l2 _ (Kd.C_below HR2.out HBa.out) HC2.out (clone32 H32n.out)).mono ?_
        rintro e w4 ⟨v4, rfl, ho4, hb4⟩
        obtain ⟨Ao4, co4, eo4⟩ := Kd.R_slice ho4
        subst eo4
        refine ⟨_, rfl, ?_⟩
        have HO4 := Aside0.mk (Kd.R_lower ho4 (below_size HBa.out))
        have HB4 := Aside0.mk (below_step HBa.out hb4)
        have HK4 := Aside0.mk ((hb4.block _ (blk_lt HKa.out)).trans HKa.out)
        have HL4 := Aside0.mk ((hb4.block _ (blk_lt HLa.out)).trans HLa.out)
        have HX1 := Aside0.mk (Kd.S_below HQ1.out hb4)
        have HX2 := Aside0.mk (Kd.S_elder' HQ2.out (Kd.R_base ho4) hb4)
        clear ho4 hb4
        refine hK.out _ _ ⟨(blk_cell HK4.out 0).trans rfl, (blk_cell HK4.out 1).trans rfl⟩ (fun hHeld => ?_)
        clear hK K
        refine norm_ (a' := ?_) ?_ ?_
        rotate_left
        · show Act.put _ (some 36) _ = _
          simp only [Act.put, List.setIfInBounds_toArray, List.set_cons_zero, List.set_cons_succ, i64_w, i32_w]
          rfl
        refine pure_ (i := 5) (N := some 37) (v := ?_) (a' := ?_) #[true, true, true, true, true, true, false, false, false, false] rfl rfl (any_of HT_.out (by kernel_rfl)) (fun _ _ _ h => h) (Or.inl ⟨by rfl, ?_⟩) ?_ ?_
        rotate_left
        · intro w'
          go_simp
          with_reducible rfl
        rotate_left
        · simp only [Act.put, List.setIfInBounds_toArray, List.set_cons_zero, List.set_cons_succ, i64_w, i32_w]
          rfl
        refine one_ (i := 6) (N := some 38) #[true, true, true, true, true, true, true, false, false, false] rfl rfl (one_of HT_.out (by kernel_rfl)) (by decide) (fun K hK => ?_)
        refine value_ (w1 := ?_) (v := ?_) (by rfl) rfl ?_ ?_
        rotate_left 2
        · go_simp
          constructor
          · rfl
          · rfl
        refine hK.out _ _ ⟨(blk_cell (blk_alloc HK4.out _) 0).trans rfl, (blk_cell (blk_alloc HK4.out _) 1).trans rfl⟩ (fun hHeld => ?_)
        clear hK K
        refine norm_ (a' := ?_) ?_ ?_
        rotate_left
        · show Act.put _ (some 38) _ = _
          simp only [Act.put, List.setIfInBounds_toArray, List.set_cons_zero, List.set_cons_succ, i64_w, i32_w]
          rfl
        refine one_ (i := 7) (N := some 39) #[true, true, true, true, true, true, true, true, false, false] rfl rfl (one_of HT_.out (by kernel_rfl)) (by decide) (fun K hK => ?_)
        refine Kd.S_append_step k49 (w0 := w) w.heap.size (by rfl) (.tmp 33) (.tmp 38) 23 49 (.agg #[(.int .i64 0), (.slice none 0 0)]) 32 rfl Try.underlying23 info49 rfl (by decide) (by omega) (.slice Ao2 l0_1.length co2) l0_1 (⟨a1, l2⟩ : S49) [.int .i64 a1, .slice Ao4 l2.length co4] (fun _ => True) (fun k_ => some k_ = (.slice Ao4 l2.length co4 : Value).ownBlock) rfl rfl ?aP (fun k_ hk_ => ((Kd.R_mono (ok' := fun k_ => ((fun _ => True)) k_ ∧ some k_ ≠ (.slice Ao2 l0_1.length co2 : Value).ownBlock) (Kd.R_apart' (HO4.out) (Kd.S_typed HX2.out) (by decide)) (fun k_ hk => ⟨trivial, hk.2⟩))).1 k_ hk_.symm) ?aF ?aO ?aB ?aS ?aL ?_
        (case aP => exact k49_mkM _ _ _ (⟨a1, l2⟩ : S49) (Kd.R_mono (Kd.R_tight rfl (Kd.R_mono (ok' := fun k_ => ((fun _ => True)) k_ ∧ some k_ ≠ (.slice Ao2 l0_1.length co2 : Value).ownBlock) (Kd.R_apart' (HO4.out) (Kd.S_typed HX2.out) (by decide)) (fun k_ hk => ⟨trivial, hk.2⟩))) (fun _ h_ => h_)))
        (case aB => exact HB4.out)
        (case aF => exact (fun _ _ => trivial))
        (case aO => exact Kd.S_mono HX2.out (fun k_ hk => ⟨trivial, fun e_ => hk.2 e_⟩))
        (case aS => exact below_size HB4.out)
        (case aL => have := (okDisk_len HOK.out).2.2; omega)
        intro v5 w5 ho5 hb5 hg5 hat5
        have HK5 := Aside0.mk (blk_grown (g := g) (o := .cells #[.slice Ao1 l0_0.length co1, .slice Ao2 l0_1.length co2] 25 (0, 0)) HK4.out hg5 (Kd.S_ne HX2.out HK4.out (by decide)))
        have HL5 := Aside0.mk (blk_grown (g := w.heap.size + 1) (o := .cells #[.slice none 0 0, .slice none 0 0] 25 (0, 0)) HL4.out hg5 (Kd.S_ne HX2.out HL4.out (by decide)))
        have HX5 := Aside0.mk (Kd.S_over' HX1.out (Kd.S_typed HX2.out) (by decide) hg5)
        have HB5 := Aside0.mk hb5
        obtain ⟨Ao5, co5, eo5⟩ := Kd.S_slice ho5
        subst eo5
        have HY5 := Aside0.mk ho5
        clear ho5 hb5 hg5 hat5 HX1 HX2 HK4 HL4 HB4
        refine hK.out _ _ ⟨(blk_cell HK5.out 0).trans rfl, (blk_cell HK5.out 1).trans rfl⟩ (fun hHeld => ?_)
        clear hK K
        refine norm_ (a' := ?_) ?_ ?_
        rotate_left
        · show Act.put _ (some 39) _ = _
          simp only [Act.put, List.setIfInBounds_toArray, List.set_cons_zero, List.set_cons_succ, i64_w, i32_w]
          rfl
        refine pure_ (i := 8) (N := some 40) (v := ?_) (a' := ?_) #[true, true, true, true, true, true, true, true, true, false] rfl rfl (any_of HT_.out (by kernel_rfl)) (fun _ _ _ h => h) (Or.inl ⟨by rfl, ?_⟩) ?_ ?_
        rotate_left
        · intro w'
          go_simp
          with_reducible rfl
        rotate_left
        · simp only [Act.put, List.setIfInBounds_toArray, List.set_cons_zero, List.set_cons_succ, i64_w, i32_w]
          rfl
        refine last_ (i := 9) (N := none) #[true, true, true, true, true, true, true, true, true, true] rfl rfl (one_of HT_.out (by kernel_rfl)) (by decide) (fun K hK => ?_)
        have hs6 : w5.cell? ⟨g, 1, none⟩ = some (.slice Ao2 l0_1.length co2) := (blk_cell HK5.out 1).trans rfl
        have hfs6 := blk_frozen HK5.out 1
        refine skip_ (w1 := ?_) (by rfl) rfl ?_ ?_
        rotate_left
        · go_simp
          rfl
        refine hK.out _ _ ?_
        refine done_ (done_of HT_.out (by kernel_rfl)) ?_
        have hcz0 : w5.cell? ⟨g, 0, none⟩ = some (.slice Ao1 l0_0.length co1) := (blk_cell HK5.out 0).trans rfl
        have hcz1 : w5.cell? ⟨g, 1, none⟩ = some (.slice Ao2 l0_1.length co2) := (blk_cell HK5.out 1).trans rfl
        have hfz0 := blk_frozen HK5.out 0
        have hy0 : w5.cell? ⟨w.heap.size + 1, 0, none⟩ = some (.slice none 0 0) := (blk_cell HL5.out 0).trans rfl
        have hy1 : w5.cell? ⟨w.heap.size + 1, 1, none⟩ = some (.slice none 0 0) := (blk_cell HL5.out 1).trans rfl
        have hfy0 := blk_frozen HL5.out 0
        have hfy1 := blk_frozen HL5.out 1
        have hne := HN.out
        have hne' := Ne.symm HN.out
        try go_wp2
        have e5 : (l0_1 ++ [(⟨a1, l2⟩ : S49)]).length = l0_1.length + 1 := by simp
        have hy5 := HY5.out
        rw [e5] at hy5
        refine bodyPost_ret (results_ct rfl _ _ (w.heap.size + 1) 25 #[.slice Ao1 l0_0.length co1, .slice Ao5 (l0_1.length + 1) co5] (0, 0) _ rfl (blk_put (cs := #[.slice Ao1 l0_0.length co1, .slice none 0 0]) (blk_put (cs := #[.slice none 0 0, .slice none 0 0]) (blk_far HL5.out hne _) 0 _ rfl) 1 _ rfl) Try.underlying25 rfl (by kernel_rfl)) rfl ?_
        refine ⟨_, _, rfl, ?_, ?_, below_set (below_set (below_set HB5.out HG.out) (Nat.le_succ _)) (Nat.le_succ _)⟩
        · exact Kd.S_mono (Kd.S_far (p := ⟨w.heap.size + 1, 1, none⟩) (Kd.S_far (p := ⟨w.heap.size + 1, 0, none⟩) (Kd.S_far (p := ⟨g, 1, none⟩) (Kd.S_types (Kd.S_types HX5.out HK5.out (by decide)) HL5.out (by decide)) (fun _ hk => hk.1.2) _) (fun _ hk => hk.2) _) (fun _ hk => hk.2) _) (fun _ _ => trivial)
        · exact Kd.S_mono (Kd.S_far (p := ⟨w.heap.size + 1, 1, none⟩) (Kd.S_far (p := ⟨w.heap.size + 1, 0, none⟩) (Kd.S_far (p := ⟨g, 1, none⟩) (Kd.S_types (Kd.S_types hy5 HK5.out (by decide)) HL5.out (by decide)) (fun _ hk => hk.1.2) _) (fun _ hk => hk.2) _) (fun _ hk => hk.2) _) (fun _ _ => trivial)
    · rw [if_neg h32] at hdr
      obtain ⟨rfl, rfl, rfl⟩ : [] = r1 ∧ [] = r2 ∧ 2 = r3 := by simpa using hdr
      have hz := HBZ.out
      clear hdr
      have H32 := Aside0.mk (show okLen l2 = false by unfold okLen; simp [h32])
      clear h32
      go_enter Try.func18, Try.ntmps18
      go_wp2_with (first
        | (go_at_call 57; refine (HASK.out _ HB0.out).mono ?_; rintro e w1 ⟨rfl, hb1⟩; have HB1 := Aside0.mk (below_step HB0.out hb1); have HK1 := Aside0.mk ((hb1.block _ (blk_lt HK0.out)).trans HK0.out); have HL1 := Aside0.mk ((hb1.block _ (blk_lt HK6.out)).trans HK6.out); have hq0 : w1.cell? ⟨w.heap.size, 0, none⟩ = some (.slice A0_0 l0_0.length c0_0) := (blk_cell HK1.out 0).trans rfl; have hq1 : w1.cell? ⟨w.heap.size, 1, none⟩ = some (.slice A0_1 l0_1.length c0_1) := (blk_cell HK1.out 1).trans rfl; have hy0 : w1.cell? ⟨w.heap.size + 1, 0, none⟩ = some (.slice none 0 0) := (blk_cell HL1.out 0).trans rfl; have hy1 : w1.cell? ⟨w.heap.size + 1, 1, none⟩ = some (.slice none 0 0) := (blk_cell HL1.out 1).trans rfl; have hf0 := blk_frozen HL1.out 0; have hf1 := blk_frozen HL1.out 1; clear hb1)
        | (go_at_call 60; refine (hSized.one_is false _ A2 c2 l2 _ H32.out (by simp) HC2.out (Kd.C_below HR2.out (below_alloc HB1.out _))).mono ?_; rintro e w2 ⟨rfl, hb2⟩; have HB2 := Aside0.mk (below_then (below_alloc HB1.out _) (below_size (below_alloc HB1.out _)) hb2); have HK2 := Aside0.mk ((hb2.block _ (blk_lt (blk_alloc HK1.out _))).trans (blk_alloc HK1.out _)); have HL2 := Aside0.mk ((hb2.block _ (blk_lt (blk_alloc HL1.out _))).trans (blk_alloc HL1.out _)); clear hq0 hq1 hy0 hy1 hf0 hf1; have hq0 : w2.cell? ⟨w.heap.size, 0, none⟩ = some (.slice A0_0 l0_0.length c0_0) := (blk_cell HK2.out 0).trans rfl; have hq1 : w2.cell? ⟨w.heap.size, 1, none⟩ = some (.slice A0_1 l0_1.length c0_1) := (blk_cell HK2.out 1).trans rfl; have hy0 : w2.cell? ⟨w.heap.size + 1, 0, none⟩ = some (.slice none 0 0) := (blk_cell HL2.out 0).trans rfl; have hy1 : w2.cell? ⟨w.heap.size + 1, 1, none⟩ = some (.slice none 0 0) := (blk_cell HL2.out 1).trans rfl; have hf0 := blk_frozen HL2.out 0; have hf1 := blk_frozen HL2.out 1; clear hb2))
      refine bodyPost_ret (results_ct rfl _ _ (w.heap.size + 1) 25 #[.slice none 0 0, .slice none 0 0] (0, 0) _ rfl (blk_put (cs := #[.slice none 0 0, .slice none 0 0]) (blk_put (cs := #[.slice none 0 0, .slice none 0 0]) HL2.out 0 _ rfl) 1 _ rfl) Try.underlying25 rfl (by kernel_rfl)) rfl ?_
      exact ⟨_, _, rfl, Kd.S_nil _ _ _ _ _, Kd.S_nil _ _ _ _ _, below_set (below_set HB2.out (Nat.le_succ _)) (Nat.le_succ _)⟩
  · have hdr := H.out
    unfold dWrite at hdr
    rw [if_neg ha] at hdr
    obtain ⟨rfl, rfl, rfl⟩ : [] = r1 ∧ [] = r2 ∧ dAsked l0_0 l0_1 a1 = r3 := by simpa using hdr
    have hz : (dAsked l0_0 l0_1 a1 != 0) = true := by simpa using ha
    clear hdr ha
    go_enter Try.func18, Try.ntmps18
    go_wp2_with (go_at_call 57; refine (HASK.out _ HB0.out).mono ?_; rintro e w1 ⟨rfl, hb1⟩; have HB1 := Aside0.mk (below_step HB0.out hb1); have HK1 := Aside0.mk ((hb1.block _ (blk_lt HK0.out)).trans HK0.out); have HL1 := Aside0.mk ((hb1.block _ (blk_lt HK6.out)).trans HK6.out); have hq0 : w1.cell? ⟨w.heap.size, 0, none⟩ = some (.slice A0_0 l0_0.length c0_0) := (blk_cell HK1.out 0).trans rfl; have hq1 : w1.cell? ⟨w.heap.size, 1, none⟩ = some (.slice A0_1 l0_1.length c0_1) := (blk_cell HK1.out 1).trans rfl; have hy0 : w1.cell? ⟨w.heap.size + 1, 0, none⟩ = some (.slice none 0 0) := (blk_cell HL1.out 0).trans rfl; have hy1 : w1.cell? ⟨w.heap.size + 1, 1, none⟩ = some (.slice none 0 0) := (blk_cell HL1.out 1).trans rfl; have hf0 := blk_frozen HL1.out 0; have hf1 := blk_frozen HL1.out 1; clear hb1)
    refine bodyPost_ret (results_ct rfl _ _ (w.heap.size + 1) 25 #[.slice none 0 0, .slice none 0 0] (0, 0) _ rfl (blk_put (cs := #[.slice none 0 0, .slice none 0 0]) (blk_put (cs := #[.slice none 0 0, .slice none 0 0]) HL1.out 0 _ rfl) 1 _ rfl) Try.underlying25 rfl (by kernel_rfl)) rfl ?_
    exact ⟨_, _, rfl, Kd.S_nil _ _ _ _ _, Kd.S_nil _ _ _ _ _, below_set (below_set HB1.out (Nat.le_succ _)) (Nat.le_succ _)⟩
end Go.Proofs.Ytdkjhcdniepbhaa.P
end
section
set_option linter.unusedVariables false
set_option linter.unusedSimpArgs false
namespace Go.Proofs.Ytdkjhcdniepbhaa.P
open Go.RowKit Go.Proofs.PrintWords Go.Proofs.PrintLast Go.Proofs.PrintMore
attribute [local go_sem] max2_int min2_int max_two min_two max_three min_three max_four min_four
def fateOf (l : List S39) (p : S49) (f : Int) : List S39 := if Int.tmod f 3 = 1 then l.set p.f0.toNat ⟨p.f1, false⟩ else if Int.tmod f 3 = 2 then l.set p.f0.toNat ⟨zero32, true⟩ else l
def crashTo (l0 : List S39) (l1 : List S49) (fates : List Int) : Nat → List S39
  | 0 => l0
  | k + 1 => fateOf (crashTo l0 l1 fates k) (rd_T49 l1 (k : Int)) (rd fates (k : Int))
theorem fateOf_length (l : List S39) (p : S49) (f : Int) : (fateOf l p f).length = l.length := by
  unfold fateOf
  split
  · exact List.length_set ..
  · split
    · exact List.length_set ..
    · rfl
theorem crashTo_length (l0 : List S39) (l1 : List S49) (fates : List Int) : ∀ k, (crashTo l0 l1 fates k).length = l0.length
  | 0 => rfl
  | k + 1 => (fateOf_length _ _ _).trans (crashTo_length l0 l1 fates k)
def dBehind (l0 : List S39) (l1 : List S49) (fates : List Int) : List S39 := crashTo l0 l1 fates (min l1.length fates.length)
theorem dBehind_length (l0 : List S39) (l1 : List S49) (fates : List Int) : (dBehind l0 l1 fates).length = l0.length := crashTo_length ..
def dCrash (l0 : List S39) (l1 : List S49) (fates : List Int) : List S39 × List S49 × Int := if okDisk l0 l1 = true then (dBehind l0 l1 fates, [], 0) else ([], [], 8)
theorem okSec_pend {l0 : List S39} {l1 : List S49} (h : okDisk l0 l1 = true) {p : S49} (hp : p ∈ l1) : okSec ⟨p.f1, false⟩ = true := by
  have := (okDisk_pend h p hp).1
  simp [okSec, okLen, this]
theorem okSec_bad : okSec ⟨zero32, true⟩ = true := by simp [okSec, okLen, zero32]
theorem okDisk_all {l0 : List S39} {l1 : List S49} (h : okDisk l0 l1 = true) (s : S39) (hs : s ∈ l0) : okSec s = true := by
  simp only [okDisk, Bool.and_eq_true, List.all_eq_true] at h
  exact h.1.2 s hs
theorem fateOf_all {q : S39 → Prop} {l : List S39} {p : S49} {f : Int} (hl : ∀ s ∈ l, q s) (h1 : q ⟨p.f1, false⟩) (h2 : q ⟨zero32, true⟩) : ∀ s ∈ fateOf l p f, q s := by
  intro s hs
  unfold fateOf at hs
  split at hs
  · rcases List.mem_or_eq_of_mem_set hs with h | rfl
    · exact hl s h
    · exact h1
  · split at hs
    · rcases List.mem_or_eq_of_mem_set hs with h | rfl
      · exact hl s h
      · exact h2
    · exact hl s hs
theorem crashTo_all {q : S39 → Prop} {l0 : List S39} {l1 : List S49} (fates : List Int) (hl : ∀ s ∈ l0, q s) (h1 : ∀ p ∈ l1, q ⟨p.f1, false⟩) (h2 : q ⟨zero32, true⟩) : ∀ k, k ≤ l1.length → ∀ s ∈ crashTo l0 l1 fates k, q s
  | 0, _ => hl
  | k + 1, hk => fateOf_all (crashTo_all fates hl h1 h2 k (by omega)) (h1 _ (by rw [rd65_at (by omega : k < l1.length)]; exact List.getElem_mem _)) h2
theorem dBehind_all {q : S39 → Prop} {l0 : List S39} {l1 : List S49} (fates : List Int) (hl : ∀ s ∈ l0, q s) (h1 : ∀ p ∈ l1, q ⟨p.f1, false⟩) (h2 : q ⟨zero32, true⟩) : ∀ s ∈ dBehind l0 l1 fates, q s := crashTo_all fates hl h1 h2 _ (Nat.min_le_left _ _)
theorem dBehind_ok {l0 : List S39} {l1 : List S49} (fates : List Int) (h : okDisk l0 l1 = true) : okDisk (dBehind l0 l1 fates) [] = true := by
  have hl := okDisk_len h
  have ha := dBehind_all (q := fun s => okSec s = true) fates (okDisk_all h) (fun p hp => okSec_pend h hp) okSec_bad
  unfold okDisk
  rw [dBehind_length]
  simp only [Bool.and_eq_true, decide_eq_true_eq, List.all_eq_true]
  exact ⟨⟨⟨⟨hl.1, hl.2.1⟩, by simp⟩, ha⟩, by simp⟩
end Go.Proofs.Ytdkjhcdniepbhaa.P
end
section
set_option linter.unusedVariables false
set_option linter.unusedSimpArgs false
namespace Go.Proofs.Ytdkjhcdniepbhaa.P
open Go.RowKit Go.Proofs.PrintWords Go.Proofs.PrintLast Go.Proofs.PrintMore
attribute [local go_sem] max2_int min2_int max_two min_two max_three min_three max_four min_four
def hCrash.f (l0 : List S39) (l1 : List S49) (fates : List Int) : Option (List S39 × List S49 × Int) := some (dCrash l0 l1 fates)
def hCrash.T13 : Bool × List (List Nat × List Nat) := (true, [([], []), ([0], [0]), ([], []), ([2], [2]), ([], []), ([4], [4]), ([1, 3, 0, 1, 2, 3, 4, 5], [1, 3]), ([6, 5, 4, 0, 1, 2, 3, 4, 5], [5, 6])])
def hCrash.B13 : List Nat := [0, 1, 0, 4, 0, 16, 63, 127]
theorem hCrash.tab13 : rtab .any (opsOf Try.f56 13) = hCrash.T13 := by kernel_rfl
theorem hCrash.bits13 : waitsOk hCrash.T13.2 hCrash.B13 = true := by kernel_rfl
def hCrash.T18 : Bool × List (List Nat × List Nat) := (true, [([], []), ([0], [0]), ([], []), ([], []), ([3], [3]), ([], []), ([4, 5], [4, 5]), ([6], [6]), ([7], [7]), ([8], [8]), ([1, 2, 0, 1, 2, 3, 4, 5, 6, 7, 8, 9], [1, 2]), ([10, 0, 1, 2, 3, 4, 5, 6, 7, 8, 9], [10]), ([11, 9, 9, 0, 1, 2, 3, 4, 5, 6, 7, 8, 9], [9, 11])])
def hCrash.B18 : List Nat := [0, 1, 0, 0, 8, 0, 56, 120, 248, 504, 1023, 2047, 4095]
theorem hCrash.tab18 : rtab .any (opsOf Try.f56 18) = hCrash.T18 := by kernel_rfl
theorem hCrash.bits18 : waitsOk hCrash.T18.2 hCrash.B18 = true := by kernel_rfl
set_option maxHeartbeats 8000000 in
set_option maxRecDepth 100000 in
theorem hCrash.calls (A0_0 : Option Addr) (c0_0 : Nat) (l0_0 : List S39) (A0_1 : Option Addr) (c0_1 : Nat) (l0_1 : List S49) (A1 : Option Addr) (c1 : Nat) (l1 : List Int) (r1 : List S39) (r2 : List S49) (r3 : Int) (w : World) (hr0_0 : Kd.C k39 w A0_0 l0_0.length l0_0) (hc0_0 : l0_0.length ≤ c0_0) (hr0_1 : Kd.C k49 w A0_1 l0_1.length l0_1) (hc0_1 : l0_1.length ≤ c0_1) (hr1 : Kd.C (Kd.int .u8) w A1 l1.length l1) (hc1 : l1.length ≤ c1) (h : hCrash.f l0_0 l0_1 l1 = some (r1, r2, r3)) :
    Calls Try.prog 56 #[.agg #[.slice A0_0 l0_0.length c0_0, .slice A0_1 l0_1.length c0_1], .slice A1 l1.length c1] w fun e w' => ∃ v0_ v1_ : Value, e = .returned (.tuple #[.agg #[v0_, v1_], .int .i64 r3]) ∧ Kd.S k39 39 w' w.heap.size (fun _ => True) v0_ r1 ∧ Kd.S k49 49 w' w.heap.size (fun _ => True) v1_ r2 ∧ Below w.heap.size w w' := by
  have hu25 := Try.underlying25
  have hu52 := Try.underlying39
  have hu65 := Try.underlying49
  have H : Aside0 (dCrash l0_0 l0_1 l1 = (r1, r2, r3)) := ⟨by unfold hCrash.f at h; injection h⟩
  have HR0 := Aside0.mk hr0_0
  have HR1 := Aside0.mk hr0_1
  have HR2 := Aside0.mk hr1
  have HC0 := Aside0.mk hc0_0
  have HC1 := Aside0.mk hc0_1
  have HC2 := Aside0.mk hc1
  clear h hr0_0 hr0_1 hr1 hc0_0 hc0_1 hc1
  have HB0 := Aside0.mk (below_alloc (below_alloc (Below.refl w.heap.size w) (.cells #[.slice A0_0 l0_0.length c0_0, .slice A0_1 l0_1.length c0_1] 25)) (.cells #[.slice none 0 0, .slice none 0 0] 25))
  have HK0 := Aside0.mk (blk_alloc (heap_alloc_new w (.cells #[.slice A0_0 l0_0.length c0_0, .slice A0_1 l0_1.length c0_1] 25)) (.cells #[.slice none 0 0, .slice none 0 0] 25))
  have HL0 := Aside0.mk (heap_alloc_at w (.cells #[.slice A0_0 l0_0.length c0_0, .slice A0_1 l0_1.length c0_1] 25) (.cells #[.slice none 0 0, .slice none 0 0] 25) (w.heap.size + 1) rfl)
  cases hok : okDisk l0_0 l0_1 with
  | false =>
    obtain ⟨rfl, rfl, rfl⟩ : [] = r1 ∧ [] = r2 ∧ 8 = r3 := by have hd := H.out; unfold dCrash at hd; rw [hok] at hd; simpa using hd
    have HCH := Aside0.mk (show hCheck.f l0_0 l0_1 = some 8 by unfold hCheck.f; rw [hok]; rfl)
    clear H hok
    go_enter Try.func56, Try.ntmps56
    go_wp2_with (go_at_call 23; refine (hCheck.calls A0_0 c0_0 l0_0 A0_1 c0_1 l0_1 8 _ (Kd.C_below HR0.out HB0.out) HC0.out (Kd.C_below HR1.out HB0.out) HC1.out HCH.out).mono ?_; rintro e w1 ⟨rfl, hb1⟩; have HB1 := Aside0.mk (below_step HB0.out hb1); have HL1 := Aside0.mk (blk_below HL0.out hb1); have hy0 : w1.cell? ⟨w.heap.size + 1, 0, none⟩ = some (.slice none 0 0) := (blk_cell HL1.out 0).trans rfl; have hy1 : w1.cell? ⟨w.heap.size + 1, 1, none⟩ = some (.slice none 0 0) := (blk_cell HL1.out 1).trans rfl; have hf0 := blk_frozen HL1.out 0; have hf1 := blk_frozen HL1.out 1; clear hb1)
    refine bodyPost_ret (results_ct rfl _ _ (w.heap.size + 1) 25 #[.slice none 0 0, .slice none 0 0] (0, 0) _ rfl (blk_put (cs := #[.slice none 0 0, .slice none 0 0]) (blk_put (cs := #[.slice none 0 0, .slice none 0 0]) HL1.out 0 _ rfl) 1 _ rfl) Try.underlying25 rfl (by kernel_rfl)) rfl ?_
    exact ⟨_, _, rfl, Kd.S_nil _ _ _ _ _, Kd.S_nil _ _ _ _ _, below_set (below_set HB1.out (Nat.le_succ _)) (Nat.le_succ _)⟩
  | true =>
    obtain ⟨rfl, rfl, rfl⟩ : dBehind l0_0 l0_1 l1 = r1 ∧ [] = r2 ∧ 0 = r3 := by have hd := H.out; unfold dCrash at hd; rw [hok, if_pos rfl] at hd; simpa using hd
    have HCH := Aside0.mk (show hCheck.f l0_0 l0_1 = some 0 by unfold hCheck.f; rw [hok]; rfl)
    have HOK := Aside0.mk hok
    have HN0 := Aside0.mk (okDisk_len hok)
    clear H hok
    go_enter Try.func56, Try.ntmps56
    go_upto_block 0 with (first
      | (go_at_call 23; refine (hCheck.calls A0_0 c0_0 l0_0 A0_1 c0_1 l0_1 0 _ (Kd.C_below HR0.out HB0.out) HC0.out (Kd.C_below HR1.out HB0.out) HC1.out HCH.out).mono ?_; rintro e w1 ⟨rfl, hb1⟩; have HB1 := Aside0.mk (below_step HB0.out hb1); have HK1 := Aside0.mk (blk_below HK0.out hb1); have HL1 := Aside0.mk (blk_below HL0.out hb1); have hq0 : w1.cell? ⟨w.heap.size, 0, none⟩ = some (.slice A0_0 l0_0.length c0_0) := (blk_cell HK1.out 0).trans rfl; have hq1 : w1.cell? ⟨w.heap.size, 1, none⟩ = some (.slice A0_1 l0_1.length c0_1) := (blk_cell HK1.out 1).trans rfl; clear hb1)
      | (go_at_call 61; refine (disk_Twin.calls 1200 A0_0 c0_0 l0_0 A0_1 c0_1 l0_1 l0_0 l0_1 _ (Kd.C_below HR0.out HB1.out) HC0.out (Kd.C_below HR1.out HB1.out) HC1.out (okDisk_twin HOK.out)).mono ?_; rintro e w2 ⟨v1, v2, rfl, ho1, ho2, hb2⟩; obtain ⟨gs, co1, eo1, hs1⟩ := SecMid.of_S ho1 HN0.out.1; subst eo1; obtain ⟨Ao2, co2, eo2, hco2, hs2⟩ := PendVal.of_S ho2; subst eo2; have HB2 := Aside0.mk (below_step HB1.out hb2); have HL2 := Aside0.mk (blk_below HL1.out hb2); have HS := Aside0.mk (SecMid.lower hs1 (below_size HB1.out)); have HP := Aside0.mk (PendVal.lower hs2 (below_size HB1.out)); clear hb2 ho1 ho2 hs1 hs2 hco2 hq0 hq1))
    have HX3 := Aside0.mk (show CrashRel w (w2.alloc (.cells #[.slice (some ⟨gs, 0, none⟩) l0_0.length co1, .slice Ao2 l0_1.length co2] 25)) gs co1 w2.heap.size Ao2 co2 l0_0.length l0_0 l0_1 from ⟨HS.out.below (below_alloc (Below.refl _ _) (.cells #[.slice (some ⟨gs, 0, none⟩) l0_0.length co1, .slice Ao2 l0_1.length co2] 25)), HP.out.below (below_alloc (Below.refl _ _) (.cells #[.slice (some ⟨gs, 0, none⟩) l0_0.length co1, .slice Ao2 l0_1.length co2] 25)), heap_alloc_new w2 (.cells #[.slice (some ⟨gs, 0, none⟩) l0_0.length co1, .slice Ao2 l0_1.length co2] 25), blk_alloc HL2.out (.cells #[.slice (some ⟨gs, 0, none⟩) l0_0.length co1, .slice Ao2 l0_1.length co2] 25), below_alloc HB2.out (.cells #[.slice (some ⟨gs, 0, none⟩) l0_0.length co1, .slice Ao2 l0_1.length co2] 25)⟩)
    clear HS HP HK0 HL0 HB0 HK1 HL1
    generalize w2.alloc (.cells #[.slice (some ⟨gs, 0, none⟩) l0_0.length co1, .slice Ao2 l0_1.length co2] 25) = W3 at HX3 ⊢
    have HG7 := Aside0.mk (below_size HB2.out)
    have HNE := Aside0.mk (show w2.heap.size ≠ w.heap.size + 1 from Nat.ne_of_gt (blk_lt HL2.out))
    generalize w2.heap.size = g7 at HX3 HNE HG7 ⊢
    clear HB2 HB1 HCH HL2
    go_cut [] from 22 to 55 (fun wr => Aside0 (CrashRel w wr gs co1 g7 Ao2 co2 l0_0.length (crashTo l0_0 l0_1 l1 (min l0_1.length l1.length)) l0_1))
    case first =>
      go_wp2_with fail
      go_loopw [22] (fun i wr => ∃ k : Nat, k ≤ l0_1.length ∧ k ≤ l1.length ∧ i = .int .i64 k ∧ Aside0 (CrashRel w wr gs co1 g7 Ao2 co2 l0_0.length (crashTo l0_0 l0_1 l1 k) l0_1)) (fun i _ => l0_1.length - (intOf i).toNat)
      case atStart => exact ⟨0, Nat.zero_le _, Nat.zero_le _, rfl, HX3⟩
      case round =>
        clear HX3
        obtain ⟨k, hk0, hk1, rfl, HX⟩ := hrel
        by_cases hlt : k < l0_1.length
        · obtain ⟨gp, pcs, rfl, hp1, hp2, hp3⟩ := HX.out.pend.2 (by omega)
          obtain ⟨Ap, cp, d0, d1, hcp, hpv⟩ := hp3 k _ (List.getElem?_eq_getElem hlt)
          have hpd := okDisk_pend HOK.out _ (List.getElem_mem hlt)
          rw [← rd65_at hlt] at d0 d1 hcp hpv hpd
          obtain ⟨pa, pb, hpq⟩ : ∃ pa pb, rd_T49 l0_1 (k : Int) = ⟨pa, pb⟩ := ⟨_, _, rfl⟩
          rw [hpq] at d0 d1 hcp hpv hpd
          replace hpd : pb.length = 32 ∧ 0 ≤ pa ∧ pa < l0_0.length := hpd
          have hn64 := HN0.out.2.2
          have HPQ := Aside0.mk hpq
          have HPV := Aside0.mk hpv
          have HPD := Aside0.mk hpd
          have HCP := Aside0.mk hcp
          have hz20 : wr.cell? ⟨gp, k * 2, none⟩ = some (.int .i64 pa) := (blk_cell hp2 _).trans d0
          have hz21 : wr.cell? ⟨gp, k * 2 + 1, none⟩ = some (.slice Ap pb.length cp) := (blk_cell hp2 _).trans d1
          clear hp1 hp2 hp3 d0 d1 hpd hpv hcp hpq
          by_cases hlt1 : k < l1.length
          · obtain ⟨ad, rfl, had⟩ := Kd.at_int (Kd.C_below HR2.out HX.out.bel) (k : Int) (by omega) (by omega)
            simp only [Int.toNat_natCast] at had
            have hal := World.block_lt_of_cell? wr _ had
            have hk0' : 0 ≤ (k : Int) := by omega
            have hk1' : (k : Int) < l1.length := by omega
            have hk2' : (k : Int) < l0_1.length := by omega
            have hq0 : wr.cell? ⟨g7, 0, none⟩ = some (.slice (some ⟨gs, 0, none⟩) l0_0.length co1) := (blk_cell HX.out.box 0).trans rfl
            have hql : g7 < wr.heap.size := blk_lt HX.out.box
            have hpd2 := HPD.out.2.1
            have hpd3 := HPD.out.2.2
            have hsl : gs < wr.heap.size := by obtain ⟨_, hh⟩ := HX.out.sec.at; exact blk_lt hh
            obtain ⟨v0, v1, hw0, hw1, hfw0, hfw1⟩ := HX.out.sec.cells (i := pa.toNat) (by rw [crashTo_length]; omega)
            by_cases h1 : Int.tmod (rd l1 (k : Int)) 3 = 1
            · have h1b : (Int.tmod (rd l1 (k : Int)) 3 == 1) = true := beq_iff_eq.2 h1
              have H1 := Aside0.mk h1
              clear h1
              go_wp2_with fail
              go_roundw
              case rel =>
                refine ⟨k + 1, by omega, by omega, by go_num, ⟨?_⟩⟩
                rw [show crashTo l0_0 l0_1 l1 (k + 1) = (crashTo l0_0 l0_1 l1 k).set pa.toNat ⟨pb, false⟩ by show fateOf _ _ _ = _; unfold fateOf; rw [HPQ.out, if_pos H1.out]]
                exact CrashRel.below (HX.out.put (i := pa.toNat) (s := ⟨pb, false⟩) (by rw [crashTo_length]; omega) HCP.out HPV.out) (below_alloc (Below.refl _ _) _)
              case measure => simp [intOf]; omega
            · have h1b : (Int.tmod (rd l1 (k : Int)) 3 == 1) = false := beq_eq_false_iff_ne.2 h1
              have H1 := Aside0.mk h1
              clear h1
              by_cases h2 : Int.tmod (rd l1 (k : Int)) 3 = 2
              · have h2b : (Int.tmod (rd l1 (k : Int)) 3 == 2) = true := beq_iff_eq.2 h2
                have H2 := Aside0.mk h2
                clear h2
                go_wp2_with fail
                have HXb := Aside0.mk (HX.out.below (below_alloc (Below.refl _ _) (.cells #[.int .i64 pa, .slice Ap pb.length cp] 49)))
                have H9 := Aside0.mk (heap_alloc_new wr (.cells #[.int .i64 pa, .slice Ap pb.length cp] 49))
                clear HX hz20 hz21 hal hq0 hql hsl hw0 hw1 hfw0 hfw1 had
                generalize wr.alloc (.cells #[.int .i64 pa, .slice Ap pb.length cp] 49) = Wb at HXb H9 ⊢
                generalize wr.heap.size = g9 at H9 ⊢
                have HSS := Aside0.mk (show ∀ W : World, Below Wb.heap.size Wb W → W.cell? ⟨g7, 0, none⟩ = some (.slice (some ⟨gs, 0, none⟩) l0_0.length co1) ∧ W.cell? ⟨g9, 0, none⟩ = some (.int .i64 pa) from fun W hb => ⟨(blk_cell (blk_below HXb.out.box hb) 0).trans rfl, (blk_cell (blk_below H9.out hb) 0).trans rfl⟩)
                refine start_ (n := 8) (S := fun w' => w'.cell? ⟨g7, 0, none⟩ = some (.slice (some ⟨gs, 0, none⟩) l0_0.length co1) ∧ w'.cell? ⟨g9, 0, none⟩ = some (.int .i64 pa)) (ds := [7]) #[false, false, false, false, false, false, false, false] (by kernel_rfl) rfl rfl (by exact HSS.out _ (bdr1 (Below.refl _ _))) (fun hHeld => ?_); refine wtW hCrash.tab13 hCrash.bits13 (fun HT_ HW_ => ?_)
                refine pure_ (i := 0) (N := some 48) (v := ?_) (a' := ?_) #[true, false, false, false, false, false, false, false] rfl rfl (any_of HT_.out (by kernel_rfl)) (fun _ _ _ h => h) (Or.inl ⟨by rfl, ?_⟩) ?_ ?_
                rotate_left
                · intro w'
                  go_simp
                  with_reducible rfl
                rotate_left
                · simp only [Act.put, List.setIfInBounds_toArray, List.set_cons_zero, List.set_cons_succ, i64_w, i32_w]
                  rfl
                refine take_ (i := 1) (N := some 49) (v := ?_) (a' := ?_) #[true, true, false, false, false, false, false, false] rfl rfl (take_ofW HT_.out HW_.out (by kernel_rfl)) (fun _ _ _ h => h) (Or.inl ⟨by rfl, ?_⟩) hHeld ?_ ?_
                rotate_left
                · rintro w' ⟨s0, s1⟩
                  go_simp
                  with_reducible rfl
                rotate_left
                · simp only [Act.put, List.setIfInBounds_toArray, List.set_cons_zero, List.set_cons_succ, i64_w, i32_w]
                  rfl
                refine pure_ (i := 2) (N := some 50) (v := ?_) (a' := ?_) #[true, true, true, false, false, false, false, false] rfl rfl (any_of HT_.out (by kernel_rfl)) (fun _ _ _ h => h) (Or.inl ⟨by rfl, ?_⟩) ?_ ?_
                rotate_left
                · intro w'
                  go_simp
                  with_reducible rfl
                rotate_left
                · simp only [Act.put, List.setIfInBounds_toArray, List.set_cons_zero, List.set_cons_succ, i64_w, i32_w]
                  rfl
                refine take_ (i := 3) (N := some 51) (v := ?_) (a' := ?_) #[true, true, true, true, false, false, false, false] rfl rfl (take_ofW HT_.out HW_.out (by kernel_rfl)) (fun _ _ _ h => h) (Or.inl ⟨by rfl, ?_⟩) hHeld ?_ ?_
                rotate_left
                · rintro w' ⟨s0, s1⟩
                  go_simp
                  with_reducible rfl
                rotate_left
                · simp only [Act.put, List.setIfInBounds_toArray, List.set_cons_zero, List.set_cons_succ, i64_w, i32_w]
                  rfl
                refine one_ (i := 4) (N := some 52) #[true, true, true, true, true, false, false, false] rfl rfl (one_of HT_.out (by kernel_rfl)) (by decide) (fun K hK => ?_)
                refine goes_ Try.func63 (by kernel_rfl) rfl #[] (by rfl) rfl rfl (by (try simp only [List.map_toArray, List.map_cons, List.map_nil]); first | done | rfl | (simp only [List.length_drop, List.length_take]; rfl)) ?_
                refine (disk_none.calls zero32 _ (by unfold disk_none.f zero32; rw [if_pos (by decide)])).mono ?_
                rintro e w4 ⟨v4, rfl, ho4, hb4⟩
                obtain ⟨A4, c4, rfl, hc4, hv4⟩ := ByteVal.of_R ho4
                refine ⟨_, rfl, ?_⟩
                have HB4 := Aside0.mk (below_step (bdr1 (Below.refl Wb.heap.size Wb)) hb4)
                have HX4 := Aside0.mk (HXb.out.below HB4.out)
                have HV4 := Aside0.mk (ByteVal.lower hv4 (show w.heap.size ≤ Wb.drew.heap.size from below_size (bdr1 HXb.out.bel)))
                have HC4 := Aside0.mk hc4
                have hz32 : zero32.length = 32 := rfl
                clear hv4 ho4 hb4 hc4
                refine hK.out _ _ (by exact HSS.out _ HB4.out) (fun hHeld => ?_)
                clear hK K
                refine norm_ (a' := ?_) ?_ ?_
                rotate_left
                · show Act.put _ (some 52) _ = _
                  simp only [Act.put, List.setIfInBounds_toArray, List.set_cons_zero, List.set_cons_succ, i64_w, i32_w]
                  rfl
                refine pure_ (i := 5) (N := some 53) (v := ?_) (a' := ?_) #[true, true, true, true, true, true, false, false] rfl rfl (any_of HT_.out (by kernel_rfl)) (fun _ _ _ h => h) (Or.inl ⟨by rfl, ?_⟩) ?_ ?_
                rotate_left
                · intro w'
                  go_simp
                  with_reducible rfl
                rotate_left
                · simp only [Act.put, List.setIfInBounds_toArray, List.set_cons_zero, List.set_cons_succ, i64_w, i32_w]
                  rfl
                refine pure_ (i := 6) (N := some 54) (v := ?_) (a' := ?_) #[true, true, true, true, true, true, true, false] rfl rfl (any_of HT_.out (by kernel_rfl)) (fun _ _ _ h => h) (Or.inl ⟨by rfl, ?_⟩) ?_ ?_
                rotate_left
                · intro w'
                  go_simp
                  with_reducible rfl
                rotate_left
                · simp only [Act.put, List.setIfInBounds_toArray, List.set_cons_zero, List.set_cons_succ, i64_w, i32_w]
                  rfl
                refine last_ (i := 7) (N := none) #[true, true, true, true, true, true, true, true] rfl rfl (one_of HT_.out (by kernel_rfl)) (by decide) (fun K hK => ?_)
                obtain ⟨v0, v1, hw0, hw1, hfw0, hfw1⟩ := HX4.out.sec.cells (i := pa.toNat) (by rw [crashTo_length]; omega)
                refine skip_ (w1 := ?_) (by rfl) rfl ?_ ?_
                rotate_left
                · go_simp
                  rfl
                refine hK.out _ _ ?_
                refine done_ (done_of HT_.out (by kernel_rfl)) ?_
                try go_wp2
                go_roundw
                case rel =>
                  refine ⟨k + 1, by omega, by omega, by go_num, ⟨?_⟩⟩
                  rw [show crashTo l0_0 l0_1 l1 (k + 1) = (crashTo l0_0 l0_1 l1 k).set pa.toNat ⟨zero32, true⟩ by show fateOf _ _ _ = _; unfold fateOf; rw [HPQ.out, if_neg H1.out, if_pos H2.out]]
                  exact HX4.out.put (i := pa.toNat) (s := ⟨zero32, true⟩) (by rw [crashTo_length]; omega) HC4.out HV4.out
                case measure => simp [intOf]; omega
              · have h2b : (Int.tmod (rd l1 (k : Int)) 3 == 2) = false := beq_eq_false_iff_ne.2 h2
                have H2 := Aside0.mk h2
                clear h2
                go_wp2_with fail
                go_roundw
                case rel =>
                  refine ⟨k + 1, by omega, by omega, by go_num, ⟨?_⟩⟩
                  rw [show crashTo l0_0 l0_1 l1 (k + 1) = crashTo l0_0 l0_1 l1 k by show fateOf _ _ _ = _; unfold fateOf; rw [if_neg H1.out, if_neg H2.out]]
                  exact CrashRel.below HX.out (below_alloc (Below.refl _ _) _)
                case measure => simp [intOf]; omega
          · have hkn : ((k : Nat) : Int) ≥ l1.length := by omega
            go_wp2_with fail
            go_meet
            rw [show min l0_1.length l1.length = k by omega]
            exact ⟨CrashRel.below HX.out (below_alloc (Below.refl _ _) _)⟩
        · go_wp2_with fail
          go_meet
          rw [show min l0_1.length l1.length = k by omega]
          exact HX
    case rest =>
      have HX := hcut
      clear hcut HX3
      rw [show crashTo l0_0 l0_1 l1 (min l0_1.length l1.length) = dBehind l0_0 l0_1 l1 from rfl] at HX
      have hq0 : wc.cell? ⟨g7, 0, none⟩ = some (.slice (some ⟨gs, 0, none⟩) l0_0.length co1) := (blk_cell HX.out.box 0).trans rfl
      have HX2 := Aside0.mk (show CrashRel2 w wc gs co1 g7 Ao2 co2 l0_0.length l0_1.length 0 (dBehind l0_0 l0_1 l1) from ⟨HX.out.sec, HX.out.box, HX.out.res, HX.out.bel⟩)
      clear HX
      have HDL := Aside0.mk (dBehind_length l0_0 l0_1 l1)
      have HDO := Aside0.mk (dBehind_ok l1 HOK.out)
      generalize hLL : dBehind l0_0 l0_1 l1 = L at HX2 HDL HDO
      have HLL := Aside0.mk hLL
      clear hLL
      go_wp2_with fail
      go_loopw [59] (fun i wr => ∃ k : Nat, k ≤ l0_0.length ∧ i = .int .i64 k ∧ Aside0 (CrashRel2 w wr gs co1 g7 Ao2 co2 l0_0.length l0_1.length k L)) (fun i _ => l0_0.length - (intOf i).toNat)
      case atStart => exact ⟨0, Nat.zero_le _, rfl, HX2⟩
      case round =>
        clear HX2 hq0
        obtain ⟨k, hk0, rfl, HX⟩ := hrel
        have hn10 := HN0.out.2.1
        by_cases hlt : k < l0_0.length
        · have hlL : k < L.length := by rw [HDL.out]; exact hlt
          obtain ⟨A', c', d0, hc', hv'⟩ := HX.out.sec.text hlL
          have HV := Aside0.mk hv'
          have HC' := Aside0.mk hc'
          have H32 := Aside0.mk (okDisk_sec HDO.out _ (List.getElem_mem hlL))
          have HGL := Aside0.mk (List.getElem?_eq_getElem hlL)
          have HD0 := Aside0.mk d0
          generalize L[k] = s at HV HC' H32 HGL HD0
          clear d0 hc' hv'
          have hk0' : 0 ≤ (k : Int) := by omega
          have hk1' : (k : Int) < l0_0.length := by omega
          have HSS := Aside0.mk (show ∀ W : World, Below wr.heap.size wr W → W.cell? ⟨g7, 0, none⟩ = some (.slice (some ⟨gs, 0, none⟩) l0_0.length co1) ∧ W.cell? ⟨gs, k * 2, none⟩ = some (.slice A' s.f0.length c') from fun W hb => ⟨(blk_cell (blk_below HX.out.box hb) 0).trans rfl, (hb.cell (World.block_lt_of_cell? wr _ HD0.out)).trans HD0.out⟩)
          go_wp2_with fail
          refine start_ (n := 13) (S := fun w' => w'.cell? ⟨g7, 0, none⟩ = some (.slice (some ⟨gs, 0, none⟩) l0_0.length co1) ∧ w'.cell? ⟨gs, k * 2, none⟩ = some (.slice A' s.f0.length c')) (ds := [12]) #[false, false, false, false, false, false, false, false, false, false, false, false, false] (by kernel_rfl) rfl rfl (by exact HSS.out _ (bdr1 (Below.refl _ _))) (fun hHeld => ?_); refine wtW hCrash.tab18 hCrash.bits18 (fun HT_ HW_ => ?_)
          refine pure_ (i := 0) (N := some 62) (v := ?_) (a' := ?_) #[true, false, false, false, false, false, false, false, false, false, false, false, false] rfl rfl (any_of HT_.out (by kernel_rfl)) (fun _ _ _ h => h) (Or.inl ⟨by rfl, ?_⟩) ?_ ?_
          rotate_left
          · intro w'
            go_simp
            with_reducible rfl
          rotate_left
          · simp only [Act.put, List.setIfInBounds_toArray, List.set_cons_zero, List.set_cons_succ, i64_w, i32_w]
            rfl
          refine take_ (i := 1) (N := some 63) (v := ?_) (a' := ?_) #[true, true, false, false, false, false, false, false, false, false, false, false, false] rfl rfl (take_ofW HT_.out HW_.out (by kernel_rfl)) (fun _ _ _ h => h) (Or.inl ⟨by rfl, ?_⟩) hHeld ?_ ?_
          rotate_left
          · rintro w' ⟨s0, s1⟩
            go_simp
            with_reducible rfl
          rotate_left
          · simp only [Act.put, List.setIfInBounds_toArray, List.set_cons_zero, List.set_cons_succ, i64_w, i32_w]
            rfl
          refine pure_ (i := 2) (N := some 64) (v := ?_) (a' := ?_) #[true, true, true, false, false, false, false, false, false, false, false, false, false] rfl rfl (any_of HT_.out (by kernel_rfl)) (fun _ _ _ h => h) (Or.inl ⟨by rfl, ?_⟩) ?_ ?_
          rotate_left
          · intro w'
            go_simp
            with_reducible rfl
          rotate_left
          · simp only [Act.put, List.setIfInBounds_toArray, List.set_cons_zero, List.set_cons_succ, i64_w, i32_w]
            rfl
          refine pure_ (i := 3) (N := some 65) (v := ?_) (a' := ?_) #[true, true, true, true, false, false, false, false, false, false, false, false, false] rfl rfl (any_of HT_.out (by kernel_rfl)) (fun _ _ _ h => h) (Or.inl ⟨by rfl, ?_⟩) ?_ ?_
          rotate_left
          · intro w'
            go_simp
            with_reducible rfl
          rotate_left
          · simp only [Act.put, List.setIfInBounds_toArray, List.set_cons_zero, List.set_cons_succ, i64_w, i32_w]
            rfl
          refine take_ (i := 4) (N := some 66) (v := ?_) (a' := ?_) #[true, true, true, true, true, false, false, false, false, false, false, false, false] rfl rfl (take_ofW HT_.out HW_.out (by kernel_rfl)) (fun _ _ _ h => h) (Or.inl ⟨by rfl, ?_⟩) hHeld ?_ ?_
          rotate_left
          · rintro w' ⟨s0, s1⟩
            go_simp
            with_reducible rfl
          rotate_left
          · simp only [Act.put, List.setIfInBounds_toArray, List.set_cons_zero, List.set_cons_succ, i64_w, i32_w]
            rfl
          refine pure_ (i := 5) (N := some 67) (v := ?_) (a' := ?_) #[true, true, true, true, true, true, false, false, false, false, false, false, false] rfl rfl (any_of HT_.out (by kernel_rfl)) (fun _ _ _ h => h) (Or.inl ⟨by rfl, ?_⟩) ?_ ?_
          rotate_left
          · intro w'
            go_simp
            with_reducible rfl
          rotate_left
          · simp only [Act.put, List.setIfInBounds_toArray, List.set_cons_zero, List.set_cons_succ, i64_w, i32_w]
            rfl
          refine pure_ (i := 6) (N := some 68) (v := ?_) (a' := ?_) #[true, true, true, true, true, true, true, false, false, false, false, false, false] rfl rfl (any_of HT_.out (by kernel_rfl)) (fun _ _ _ h => h) (Or.inl ⟨by rfl, ?_⟩) ?_ ?_
          rotate_left
          · intro w'
            go_simp
            with_reducible rfl
          rotate_left
          · simp only [Act.put, List.setIfInBounds_toArray, List.set_cons_zero, List.set_cons_succ, i64_w, i32_w]
            rfl
          refine pure_ (i := 7) (N := some 69) (v := ?_) (a' := ?_) #[true, true, true, true, true, true, true, true, false, false, false, false, false] rfl rfl (any_of HT_.out (by kernel_rfl)) (fun _ _ _ h => h) (Or.inl ⟨by rfl, ?_⟩) ?_ ?_
          rotate_left
          · intro w'
            go_simp
            with_reducible rfl
          rotate_left
          · simp only [Act.put, List.setIfInBounds_toArray, List.set_cons_zero, List.set_cons_succ, i64_w, i32_w]
            rfl
          refine take_ (i := 8) (N := some 70) (v := ?_) (a' := ?_) #[true, true, true, true, true, true, true, true, true, false, false, false, false] rfl rfl (take_ofW HT_.out HW_.out (by kernel_rfl)) (fun _ _ _ h => h) (Or.inl ⟨by rfl, ?_⟩) hHeld ?_ ?_
          rotate_left
          · rintro w' ⟨s0, s1⟩
            go_simp
            with_reducible rfl
          rotate_left
          · simp only [Act.put, List.setIfInBounds_toArray, List.set_cons_zero, List.set_cons_succ, i64_w, i32_w]
            rfl
          refine one_ (i := 9) (N := some 71) #[true, true, true, true, true, true, true, true, true, true, false, false, false] rfl rfl (one_of HT_.out (by kernel_rfl)) (by decide) (fun K hK => ?_)
          refine goes_ Try.func59 (by kernel_rfl) rfl #[.slice A' s.f0.length c'] (by rfl) rfl rfl (by (try simp only [List.map_toArray, List.map_cons, List.map_nil]); first | done | rfl | (simp only [List.length_drop, List.length_take]; rfl)) ?_
          refine (hClone.calls A' c' s.f0 s.f0 wr.drew (Kd.C_below HV.out.C (bdr1 (Below.refl _ _))) HC'.out (clone32 H32.out)).mono ?_
          rintro e w4 ⟨v4, rfl, ho4, hb4⟩
          obtain ⟨A4, c4, e4⟩ := Kd.R_slice ho4
          subst e4
          refine ⟨_, rfl, ?_⟩
          have HB4 := Aside0.mk (below_step (bdr1 (Below.refl wr.heap.size wr)) hb4)
          have HX4 := Aside0.mk ((HX.out.below (bdr1 (Below.refl _ _))).step hb4 HGL.out ho4)
          have hw0 : w4.cell? ⟨gs, k * 2, none⟩ = some (.slice A' s.f0.length c') := (HSS.out _ HB4.out).2
          have hfw0 : w4.frozen? ⟨gs, k * 2, none⟩ = false := by obtain ⟨_, hh⟩ := (HX.out.below HB4.out).sec.at; exact blk_frozen hh _
          clear ho4 hb4
          refine hK.out _ _ (by exact HSS.out _ HB4.out) (fun hHeld => ?_)
          clear hK K
          refine norm_ (a' := ?_) ?_ ?_
          rotate_left
          · show Act.put _ (some 71) _ = _
            simp only [Act.put, List.setIfInBounds_toArray, List.set_cons_zero, List.set_cons_succ, i64_w, i32_w]
            rfl
          refine pure_ (i := 10) (N := some 72) (v := ?_) (a' := ?_) #[true, true, true, true, true, true, true, true, true, true, true, false, false] rfl rfl (any_of HT_.out (by kernel_rfl)) (fun _ _ _ h => h) (Or.inl ⟨by rfl, ?_⟩) ?_ ?_
          rotate_left
          · intro w'
            go_simp
            with_reducible rfl
          rotate_left
          · simp only [Act.put, List.setIfInBounds_toArray, List.set_cons_zero, List.set_cons_succ, i64_w, i32_w]
            rfl
          refine pure_ (i := 11) (N := some 73) (v := ?_) (a' := ?_) #[true, true, true, true, true, true, true, true, true, true, true, true, false] rfl rfl (any_of HT_.out (by kernel_rfl)) (fun _ _ _ h => h) (Or.inl ⟨by rfl, ?_⟩) ?_ ?_
          rotate_left
          · intro w'
            go_simp
            with_reducible rfl
          rotate_left
          · simp only [Act.put, List.setIfInBounds_toArray, List.set_cons_zero, List.set_cons_succ, i64_w, i32_w]
            rfl
          refine last_ (i := 12) (N := none) #[true, true, true, true, true, true, true, true, true, true, true, true, true] rfl rfl (one_of HT_.out (by kernel_rfl)) (by decide) (fun K hK => ?_)
          refine skip_ (w1 := ?_) (by rfl) rfl ?_ ?_
          rotate_left
          · go_simp
            rfl
          refine hK.out _ _ ?_
          refine done_ (done_of HT_.out (by kernel_rfl)) ?_
          clear hw0 hfw0
          try go_wp2
          go_roundw
          case rel => exact ⟨k + 1, by omega, by go_num, HX4⟩
          case measure => simp [intOf]; omega
        · obtain rfl : k = l0_0.length := by omega
          have HG := Aside0.mk HX.out.sec.at
          have hq0 : wr.cell? ⟨g7, 0, none⟩ = some (.slice (some ⟨gs, 0, none⟩) l0_0.length co1) := (blk_cell HX.out.box 0).trans rfl
          have hq1 : wr.cell? ⟨g7, 1, none⟩ = some (.slice Ao2 l0_1.length co2) := (blk_cell HX.out.box 1).trans rfl
          have hfq := blk_frozen HX.out.box 1
          have hy0 : wr.cell? ⟨w.heap.size + 1, 0, none⟩ = some (.slice none 0 0) := (blk_cell HX.out.res 0).trans rfl
          have hy1 : wr.cell? ⟨w.heap.size + 1, 1, none⟩ = some (.slice none 0 0) := (blk_cell HX.out.res 1).trans rfl
          have hf0 := blk_frozen HX.out.res 0
          have hf1 := blk_frozen HX.out.res 1
          have hne : g7 ≠ w.heap.size + 1 := HNE.out
          have hne' := Ne.symm hne
          go_wp2_with fail
          obtain ⟨_, hgs⟩ := HG.out
          have n7 : g7 ≠ gs := blk_ne HX.out.box hgs (by decide)
          have nz : w.heap.size + 1 ≠ gs := blk_ne HX.out.res hgs (by decide)
          have hr1 := blk_far HX.out.res (p := ⟨g7, 1, none⟩) hne' (.slice none 0 0)
          have hr2 := blk_put (cs := #[.slice none 0 0, .slice none 0 0]) hr1 0 (.slice (some ⟨gs, 0, none⟩) l0_0.length co1) rfl
          have hs1 := HX.out.sec.far (p := ⟨g7, 1, none⟩) HX.out.box (by decide) (by decide) (.slice none 0 0)
          have hs2 := hs1.far (p := ⟨w.heap.size + 1, 0, none⟩) hr1 (by decide) (by decide) (.slice (some ⟨gs, 0, none⟩) l0_0.length co1)
          have hs3 := hs2.far (p := ⟨w.heap.size + 1, 1, none⟩) hr2 (by decide) (by decide) (.slice none 0 0)
          rw [← HDL.out] at hs3
          have hs4 := hs3.S
          rw [HDL.out, ← HLL.out] at hs4
          refine bodyPost_ret (results_ct rfl _ _ (w.heap.size + 1) 25 #[.slice (some ⟨gs, 0, none⟩) l0_0.length co1, .slice none 0 0] (0, 0) _ rfl (blk_put (cs := #[.slice (some ⟨gs, 0, none⟩) l0_0.length co1, .slice none 0 0]) hr2 1 _ rfl) Try.underlying25 rfl (by kernel_rfl)) rfl ?_
          exact ⟨_, _, rfl, hs4, Kd.S_nil _ _ _ _ _, below_set (below_set (below_set HX.out.bel HG7.out) (Nat.le_succ _)) (Nat.le_succ _)⟩
end Go.Proofs.Ytdkjhcdniepbhaa.P
end
section
set_option linter.unusedVariables false
set_option linter.unusedSimpArgs false
namespace Go.Proofs.Ytdkjhcdniepbhaa.P
open Go.RowKit Go.Proofs.PrintWords Go.Proofs.PrintLast Go.Proofs.PrintMore
attribute [local go_sem] max2_int min2_int max_two min_two max_three min_three max_four min_four
theorem dAsked_zero {l0 : List S39} {l1 : List S49} {a : Int} (h : okDisk l0 l1 = true) (h0 : 0 ≤ a) (h1 : a < l0.length) : dAsked l0 l1 a = 0 := by
  unfold dAsked
  rw [h, if_pos rfl, if_neg (by omega), if_neg (by omega)]
theorem okDisk_snoc {l0 : List S39} {l1 : List S49} {a : Int} {b : List Int} (h : okDisk l0 l1 = true) (h0 : 0 ≤ a) (h1 : a < l0.length) (hb : b.length = 32) (hn : l1.length ≠ 64) : okDisk l0 (l1 ++ [⟨a, b⟩]) = true := by
  have hl := okDisk_len h
  unfold okDisk at h ⊢
  simp only [Bool.and_eq_true, decide_eq_true_eq, List.length_append, List.length_singleton, List.all_append, List.all_cons, List.all_nil, Bool.and_true] at h ⊢
  refine ⟨⟨⟨h.1.1.1, by omega⟩, h.1.2⟩, h.2, ?_⟩
  simp [okPend, okLen, hb, h0, h1]
theorem dCrash_of {l0 : List S39} {l1 : List S49} (fates : List Int) (h : okDisk l0 l1 = true) : dCrash l0 l1 fates = (dBehind l0 l1 fates, [], 0) := by unfold dCrash; rw [if_pos h]
end Go.Proofs.Ytdkjhcdniepbhaa.P
end
section
set_option linter.unusedVariables false
set_option linter.unusedSimpArgs false
namespace Go.Proofs.Ytdkjhcdniepbhaa.P
open Go.RowKit Go.Proofs.PrintWords Go.Proofs.PrintLast Go.Proofs.PrintMore
attribute [local go_sem] max2_int min2_int max_two min_two max_three min_three max_four min_four
def twoS : List S39 := [⟨zero32, false⟩, ⟨zero32, false⟩]
def of32 (c : Int) : List Int := List.replicate 32 c
def two0 : List S49 := []
def two1 : List S49 := [⟨1, of32 120⟩]
def two2 : List S49 := [⟨1, of32 120⟩, ⟨1, of32 121⟩]
def hTwo.f : Option (List S39 × List S49 × Bool) := some (twoS, two2, true)
theorem two_new : hNew.f 2 = some (twoS, two0, 0) := by kernel_rfl
theorem two_of120 : catamaranlaw05_of.f 50 120 = some (of32 120) := by kernel_rfl
theorem two_of121 : catamaranlaw05_of.f 50 121 = some (of32 121) := by kernel_rfl
theorem two_w1 : hWrite.f twoS two0 1 (of32 120) = some (twoS, two1, 0) := by kernel_rfl
theorem two_w2 : hWrite.f twoS two1 1 (of32 121) = some (twoS, two2, 0) := by kernel_rfl
def hTwo.T2 : Bool × List (List Nat × List Nat) := (true, [([], []), ([], []), ([0, 1, 1], [0, 1]), ([2], [2]), ([3], [3]), ([3], [3]), ([], []), ([6, 4, 2, 0, 1, 2, 3, 4, 6], [4, 6]), ([5, 7, 0, 1, 2, 3, 4, 5, 6, 7], [5])])
def hTwo.B2 : List Nat := [0, 0, 3, 7, 15, 15, 0, 95, 255]
theorem hTwo.tab2 : rtab .any (opsOf Try.f16 2) = hTwo.T2 := by kernel_rfl
theorem hTwo.bits2 : waitsOk hTwo.T2.2 hTwo.B2 = true := by kernel_rfl
def hTwo.T3 : Bool × List (List Nat × List Nat) := (true, [([], []), ([], []), ([0, 1, 1], [0, 1]), ([2], [2]), ([3], [3]), ([3], [3]), ([], []), ([6, 4, 2, 0, 1, 2, 3, 4, 6], [4, 6]), ([5, 7, 0, 1, 2, 3, 4, 5, 6, 7], [5])])
def hTwo.B3 : List Nat := [0, 0, 3, 7, 15, 15, 0, 95, 255]
theorem hTwo.tab3 : rtab .any (opsOf Try.f16 3) = hTwo.T3 := by kernel_rfl
theorem hTwo.bits3 : waitsOk hTwo.T3.2 hTwo.B3 = true := by kernel_rfl
set_option maxHeartbeats 8000000 in
set_option maxRecDepth 100000 in
theorem hTwo.calls (r1 : List S39) (r2 : List S49) (r3 : Bool) (w : World) (h : hTwo.f = some (r1, r2, r3)) :
    Calls Try.prog 16 #[] w fun e w' => ∃ v0_ v1_ : Value, e = .returned (.tuple #[.agg #[v0_, v1_], .bool r3]) ∧ Kd.S k39 39 w' w.heap.size (fun _ => True) v0_ r1 ∧ Kd.S k49 49 w' w.heap.size (fun _ => True) v1_ r2 ∧ Below w.heap.size w w' := by
  have hu25 := Try.underlying25
  obtain ⟨rfl, rfl, rfl⟩ : twoS = r1 ∧ two2 = r2 ∧ true = r3 := by unfold hTwo.f at h; injection h with h; injection h with h1 h; injection h with h2 h3; exact ⟨h1, h2, h3⟩
  clear h
  have HB := Aside0.mk (below_alloc (Below.refl w.heap.size w) (.cells #[.slice none 0 0, .slice none 0 0] 25))
  have HZ := Aside0.mk (heap_alloc_new w (.cells #[.slice none 0 0, .slice none 0 0] 25))
  go_enter Try.func16, Try.ntmps16
  go_upto_region 2 with (go_at_call 15; refine (hNew.calls 2 twoS two0 0 _ two_new).mono ?_; rintro e w1 ⟨v1, v2, rfl, ho1, ho2, hb1⟩; obtain ⟨Q1, q1, e1⟩ := Kd.S_slice ho1; subst e1; obtain ⟨Q2, q2, e2⟩ := Kd.S_slice ho2; subst e2; have HB1 := Aside0.mk (below_step HB.out hb1); have HZ1 := Aside0.mk (blk_below HZ.out hb1); have HQ1 := Aside0.mk (Kd.S_lower ho1 (below_size HB.out)); have HQ2 := Aside0.mk (Kd.S_lower ho2 (below_size HB.out)); clear ho1 ho2 hb1)
  have HB := Aside0.mk (below_alloc HB1.out (.cells #[.slice Q1 twoS.length q1, .slice Q2 two0.length q2] 25))
  replace HQ1 := Aside0.mk (Kd.S_alloc HQ1.out (.cells #[.slice Q1 twoS.length q1, .slice Q2 two0.length q2] 25))
  replace HQ2 := Aside0.mk (Kd.S_alloc HQ2.out (.cells #[.slice Q1 twoS.length q1, .slice Q2 two0.length q2] 25))
  have HZ := Aside0.mk (blk_alloc HZ1.out (.cells #[.slice Q1 twoS.length q1, .slice Q2 two0.length q2] 25))
  have H2 := Aside0.mk (heap_alloc_new w1 (.cells #[.slice Q1 twoS.length q1, .slice Q2 two0.length q2] 25))
  clear HB1 HZ1
  generalize w1.alloc (.cells #[.slice Q1 twoS.length q1, .slice Q2 two0.length q2] 25) = W0 at HB HQ1 HQ2 HZ H2 ⊢
  generalize w1.heap.size = g2 at H2 ⊢
  have HSS := Aside0.mk (show ∀ W : World, Below W0.heap.size W0 W → W.cell? ⟨g2, 0, none⟩ = some (.slice Q1 twoS.length q1) ∧ W.cell? ⟨g2, 1, none⟩ = some (.slice Q2 two0.length q2) from fun W hb => ⟨(blk_cell (blk_below H2.out hb) 0).trans rfl, (blk_cell (blk_below H2.out hb) 1).trans rfl⟩)
  go_cut [4, 5] from 12 to 17 (fun s4 s5 wx => ∃ (g4 : Nat) (X1 : Option Addr) (x1 : Nat) (X2 : Option Addr) (x2 : Nat), s4 = .pointer (some ⟨g4, 0, none⟩) ∧ s5 = .int .i64 0 ∧ Aside0 (wx.heap[g4]? = some (.cells #[.slice X1 twoS.length x1, .slice X2 two1.length x2] 25 (0, 0))) ∧ Aside0 (Kd.S k39 39 wx w.heap.size (fun _ => True) (.slice X1 twoS.length x1) twoS) ∧ Aside0 (Kd.S k49 49 wx w.heap.size (fun _ => True) (.slice X2 two1.length x2) two1) ∧ Aside0 (wx.heap[w.heap.size]? = some (.cells #[.slice none 0 0, .slice none 0 0] 25 (0, 0))) ∧ Aside0 (Below w.heap.size w wx))
  case first =>
    refine start_ (n := 9) (S := fun w' => w'.cell? ⟨g2, 0, none⟩ = some (.slice Q1 twoS.length q1) ∧ w'.cell? ⟨g2, 1, none⟩ = some (.slice Q2 two0.length q2)) (ds := [7]) #[false, false, false, false, false, false, false, false, false] (by kernel_rfl) rfl rfl (by exact HSS.out _ (bdr1 (Below.refl _ _))) (fun hHeld => ?_); refine wtW hTwo.tab2 hTwo.bits2 (fun HT_ HW_ => ?_)
    have HD := Aside0.mk (bdr1 (Below.refl W0.heap.size W0))
    replace HB := Aside0.mk (below_step HB.out (bdr1 (Below.refl W0.heap.size W0)))
    replace HZ := Aside0.mk (blk_below HZ.out (bdr1 (Below.refl W0.heap.size W0)))
    replace HQ1 := Aside0.mk (Kd.S_below HQ1.out (bdr1 (Below.refl W0.heap.size W0)))
    replace HQ2 := Aside0.mk (Kd.S_below HQ2.out (bdr1 (Below.refl W0.heap.size W0)))
    generalize W0.drew = Wd at HD HB HZ HQ1 HQ2 hHeld ⊢
    refine take_ (i := 0) (N := some 13) (v := ?_) (a' := ?_) #[true, false, false, false, false, false, false, false, false] rfl rfl (take_ofW HT_.out HW_.out (by kernel_rfl)) (fun _ _ _ h => h) (Or.inl ⟨by rfl, ?_⟩) hHeld ?_ ?_
    rotate_left
    · rintro w' ⟨s0, s1⟩
      go_simp
      with_reducible rfl
    rotate_left
    · simp only [Act.put, List.setIfInBounds_toArray, List.set_cons_zero, List.set_cons_succ, i64_w, i32_w]
      rfl
    refine two_ (i := 1) (j := 6) (Ni := some 14) (Nj := some 4) #[true, true, false, false, false, false, false, false, false] #[true, false, false, false, false, false, true, false, false] rfl rfl rfl rfl (two_of HT_.out (by kernel_rfl)) (by decide) (by decide) (fun K hK => ?_) (fun K hK => ?_)
    · skip
      refine goes_ Try.func19 (by kernel_rfl) rfl #[.int .u8 120] (by rfl) rfl rfl (by (try simp only [List.map_toArray, List.map_cons, List.map_nil]); first | done | rfl | (simp only [List.length_drop, List.length_take]; rfl)) ?_
      refine (catamaranlaw05_of.calls 50 120 (of32 120) Wd two_of120).mono ?_
      rintro e Wc1 ⟨v1, rfl, ho, hA⟩
      obtain ⟨Y, y, e1⟩ := Kd.R_slice ho
      subst e1
      have HY := Aside0.mk ho
      clear ho
      refine ⟨_, rfl, ?_⟩
      replace HB := Aside0.mk (below_step HB.out hA)
      replace HZ := Aside0.mk (blk_below HZ.out hA)
      replace HQ1 := Aside0.mk (Kd.S_below HQ1.out hA)
      replace HQ2 := Aside0.mk (Kd.S_below HQ2.out hA)
      replace HD := Aside0.mk (below_step HD.out hA)
      clear hA hHeld
      refine hK.out _ _ (by exact HSS.out _ HD.out) (fun hHeld => ?_)
      clear hK K
      refine norm_ (a' := ?_) ?_ ?_
      rotate_left
      · show Act.put _ (some 14) _ = _
        simp only [Act.put, List.setIfInBounds_toArray, List.set_cons_zero, List.set_cons_succ, i64_w, i32_w]
        rfl
      refine two_ (i := 2) (j := 6) (Ni := some 15) (Nj := some 4) #[true, true, true, false, false, false, false, false, false] #[true, true, false, false, false, false, true, false, false] rfl rfl rfl rfl (two_of HT_.out (by kernel_rfl)) (by decide) (by decide) (fun K hK => ?_) (fun K hK => ?_)
      · skip
        refine goes_ Try.func18 (by kernel_rfl) rfl #[.agg #[.slice Q1 twoS.length q1, .slice Q2 two0.length q2], .int .i64 1, .slice Y (of32 120).length y] (by rfl) rfl rfl (by (try simp only [List.map_toArray, List.map_cons, List.map_nil]); first | done | rfl | (simp only [List.length_drop, List.length_take]; rfl)) ?_
        refine (hWrite.calls Q1 q1 twoS Q2 q2 two0 1 Y y (of32 120) twoS two1 0 Wc1 (Kd.S_reads' HQ1.out).2.2 (Kd.S_reads' HQ1.out).2.1 (Kd.S_reads' HQ2.out).2.2 (Kd.S_reads' HQ2.out).2.1 (Kd.R_reads' HY.out).2.2 (Kd.R_reads' HY.out).2.1 two_w1).mono ?_
        rintro e Wc2 ⟨v1, v2, rfl, ho1, ho2, hA⟩
        obtain ⟨X1, x1, e1⟩ := Kd.S_slice ho1
        subst e1
        obtain ⟨X2, x2, e2⟩ := Kd.S_slice ho2
        subst e2
        have HX1 := Aside0.mk (Kd.S_lower ho1 (below_size HB.out))
        have HX2 := Aside0.mk (Kd.S_lower ho2 (below_size HB.out))
        clear ho1 ho2
        refine ⟨_, rfl, ?_⟩
        replace HB := Aside0.mk (below_step HB.out hA)
        replace HZ := Aside0.mk (blk_below HZ.out hA)
        replace HQ1 := Aside0.mk (Kd.S_below HQ1.out hA)
        replace HQ2 := Aside0.mk (Kd.S_below HQ2.out hA)
        replace HY := Aside0.mk (Kd.R_below HY.out hA)
        replace HD := Aside0.mk (below_step HD.out hA)
        clear hA hHeld
        clear HY
        clear HQ1
        clear HQ2
        refine hK.out _ _ (by exact HSS.out _ HD.out) (fun hHeld => ?_)
        clear hK K
        refine norm_ (a' := ?_) ?_ ?_
        rotate_left
        · show Act.put _ (some 15) _ = _
          simp only [Act.put, List.setIfInBounds_toArray, List.set_cons_zero, List.set_cons_succ, i64_w, i32_w]
          rfl
        refine pure_ (i := 3) (N := some 12) (v := ?_) (a' := ?_) #[true, true, true, true, false, false, false, false, false] rfl rfl (any_of HT_.out (by kernel_rfl)) (fun _ _ _ h => h) (Or.inl ⟨by rfl, ?_⟩) ?_ ?_
        rotate_left
        · intro w'
          go_simp
          with_reducible rfl
        rotate_left
        · simp only [Act.put, List.setIfInBounds_toArray, List.set_cons_zero, List.set_cons_succ, i64_w, i32_w]
          rfl
        refine pure_ (i := 4) (N := some 16) (v := ?_) (a' := ?_) #[true, true, true, true, true, false, false, false, false] rfl rfl (any_of HT_.out (by kernel_rfl)) (fun _ _ _ h => h) (Or.inl ⟨by rfl, ?_⟩) ?_ ?_
        rotate_left
        · intro w'
          go_simp
          with_reducible rfl
        rotate_left
        · simp only [Act.put, List.setIfInBounds_toArray, List.set_cons_zero, List.set_cons_succ, i64_w, i32_w]
          rfl
        refine pure_ (i := 5) (N := some 17) (v := ?_) (a' := ?_) #[true, true, true, true, true, true, false, false, false] rfl rfl (any_of HT_.out (by kernel_rfl)) (fun _ _ _ h => h) (Or.inl ⟨by rfl, ?_⟩) ?_ ?_
        rotate_left
        · intro w'
          go_simp
          with_reducible rfl
        rotate_left
        · simp only [Act.put, List.setIfInBounds_toArray, List.set_cons_zero, List.set_cons_succ, i64_w, i32_w]
          rfl
        refine one_ (i := 6) (N := some 4) #[true, true, true, true, true, true, true, false, false] rfl rfl (one_of HT_.out (by kernel_rfl)) (by decide) (fun K hK => ?_)
        refine value_ (w1 := ?_) (v := ?_) (by rfl) rfl ?_ ?_
        rotate_left 2
        · go_simp
          constructor
          · rfl
          · rfl
        have hA := below_alloc (Below.refl Wc2.heap.size Wc2) (.cells #[.slice none 0 0, .slice none 0 0] 25)
        have H4 := Aside0.mk (heap_alloc_new Wc2 (.cells #[.slice none 0 0, .slice none 0 0] 25))
        have HNE := Aside0.mk (show Wc2.heap.size ≠ w.heap.size from Nat.ne_of_gt (blk_lt HZ.out))
        have HLE := Aside0.mk (show w.heap.size ≤ Wc2.heap.size from below_size HB.out)
        replace HB := Aside0.mk (below_step HB.out hA)
        replace HZ := Aside0.mk (blk_below HZ.out hA)
        replace HX1 := Aside0.mk (Kd.S_below HX1.out hA)
        replace HX2 := Aside0.mk (Kd.S_below HX2.out hA)
        replace HD := Aside0.mk (below_step HD.out hA)
        clear hA hHeld
        generalize Wc2.alloc (.cells #[.slice none 0 0, .slice none 0 0] 25) = Wa3 at HD HB HZ HX1 HX2 H4 ⊢
        generalize Wc2.heap.size = g4 at H4 HNE HLE ⊢
        refine hK.out _ _ (by exact HSS.out _ HD.out) (fun hHeld => ?_)
        clear hK K
        refine norm_ (a' := ?_) ?_ ?_
        rotate_left
        · show Act.put _ (some 4) _ = _
          simp only [Act.put, List.setIfInBounds_toArray, List.set_cons_zero, List.set_cons_succ, i64_w, i32_w]
          rfl
        refine last_ (i := 7) (N := none) #[true, true, true, true, true, true, true, true, false] rfl rfl (one_of HT_.out (by kernel_rfl)) (by decide) (fun K hK => ?_)
        have hz0 : Wa3.cell? ⟨g4, 0, none⟩ = some (.slice none 0 0) := (blk_cell H4.out 0).trans rfl
        have hz1 : Wa3.cell? ⟨g4, 1, none⟩ = some (.slice none 0 0) := (blk_cell H4.out 1).trans rfl
        have hf0 := blk_frozen H4.out 0
        have hf1 := blk_frozen H4.out 1
        refine skip_ (w1 := ?_) (by rfl) rfl ?_ ?_
        rotate_left
        · go_simp
          rfl
        refine hK.out _ _ ?_
        refine pure_ (i := 8) (N := some 5) (v := ?_) (a' := ?_) #[true, true, true, true, true, true, true, true, true] rfl rfl (any_of HT_.out (by kernel_rfl)) (fun _ _ _ h => h) (Or.inl ⟨by rfl, ?_⟩) ?_ ?_
        rotate_left
        · intro w'
          go_simp
          with_reducible rfl
        rotate_left
        · simp only [Act.put, List.setIfInBounds_toArray, List.set_cons_zero, List.set_cons_succ, i64_w, i32_w]
          rfl
        refine done_ (done_of HT_.out (by kernel_rfl)) ?_
        try go_wp2
        go_meet
        have n52 : ∀ q, q ∈ 39 :: k39.E → q ≠ 25 := by decide
        have n65 : ∀ q, q ∈ 49 :: k49.E → q ≠ 25 := by decide
        have hr1 := blk_put (cs := #[.slice none 0 0, .slice none 0 0]) H4.out 0 (.slice X1 twoS.length x1) rfl
        have hr2 := blk_put (cs := #[.slice X1 twoS.length x1, .slice none 0 0]) hr1 1 (.slice X2 two1.length x2) rfl
        exact ⟨g4, X1, x1, X2, x2, rfl, rfl, ⟨hr2⟩, ⟨Kd.S_set (Kd.S_set HX1.out H4.out n52 _ _) hr1 n52 _ _⟩, ⟨Kd.S_set (Kd.S_set HX2.out H4.out n65 _ _) hr1 n65 _ _⟩, ⟨blk_far (blk_far HZ.out HNE.out.symm _) HNE.out.symm _⟩, ⟨below_set (below_set HB.out (by have := below_size HB.out; have := HNE.out; have := HLE.out; omega)) (by have := HLE.out; omega)⟩⟩
      · skip
        refine value_ (w1 := ?_) (v := ?_) (by rfl) rfl ?_ ?_
        rotate_left 2
        · go_simp
          constructor
          · rfl
          · rfl
        have hA := below_alloc (Below.refl Wc1.heap.size Wc1) (.cells #[.slice none 0 0, .slice none 0 0] 25)
        have H4 := Aside0.mk (heap_alloc_new Wc1 (.cells #[.slice none 0 0, .slice none 0 0] 25))
        have HNE := Aside0.mk (show Wc1.heap.size ≠ w.heap.size from Nat.ne_of_gt (blk_lt HZ.out))
        have HLE := Aside0.mk (show w.heap.size ≤ Wc1.heap.size from below_size HB.out)
        replace HB := Aside0.mk (below_step HB.out hA)
        replace HZ := Aside0.mk (blk_below HZ.out hA)
        replace HQ1 := Aside0.mk (Kd.S_below HQ1.out hA)
        replace HQ2 := Aside0.mk (Kd.S_below HQ2.out hA)
        replace HY := Aside0.mk (Kd.R_below HY.out hA)
        replace HD := Aside0.mk (below_step HD.out hA)
        clear hA hHeld
        generalize Wc1.alloc (.cells #[.slice none 0 0, .slice none 0 0] 25) = Wa5 at HD HB HZ HQ1 HQ2 HY H4 ⊢
        generalize Wc1.heap.size = g4 at H4 HNE HLE ⊢
        refine hK.out _ _ (by exact HSS.out _ HD.out) (fun hHeld => ?_)
        clear hK K
        refine norm_ (a' := ?_) ?_ ?_
        rotate_left
        · show Act.put _ (some 4) _ = _
          simp only [Act.put, List.setIfInBounds_toArray, List.set_cons_zero, List.set_cons_succ, i64_w, i32_w]
          rfl
        refine one_ (i := 2) (N := some 15) #[true, true, true, false, false, false, true, false, false] rfl rfl (one_of HT_.out (by kernel_rfl)) (by decide) (fun K hK => ?_)
        refine goes_ Try.func18 (by kernel_rfl) rfl #[.agg #[.slice Q1 twoS.length q1, .slice Q2 two0.length q2], .int .i64 1, .slice Y (of32 120).length y] (by rfl) rfl rfl (by (try simp only [List.map_toArray, List.map_cons, List.map_nil]); first | done | rfl | (simp only [List.length_drop, List.length_take]; rfl)) ?_
        refine (hWrite.calls Q1 q1 twoS Q2 q2 two0 1 Y y (of32 120) twoS two1 0 Wa5 (Kd.S_reads' HQ1.out).2.2 (Kd.S_reads' HQ1.out).2.1 (Kd.S_reads' HQ2.out).2.2 (Kd.S_reads' HQ2.out).2.1 (Kd.R_reads' HY.out).2.2 (Kd.R_reads' HY.out).2.1 two_w1).mono ?_
        rintro e Wc6 ⟨v1, v2, rfl, ho1, ho2, hA⟩
        obtain ⟨X1, x1, e1⟩ := Kd.S_slice ho1
        subst e1
        obtain ⟨X2, x2, e2⟩ := Kd.S_slice ho2
        subst e2
        have HX1 := Aside0.mk (Kd.S_lower ho1 (below_size HB.out))
        have HX2 := Aside0.mk (Kd.S_lower ho2 (below_size HB.out))
        clear ho1 ho2
        refine ⟨_, rfl, ?_⟩
        replace HB := Aside0.mk (below_step HB.out hA)
        replace HZ := Aside0.mk (blk_below HZ.out hA)
        replace HQ1 := Aside0.mk (Kd.S_below HQ1.out hA)
        replace HQ2 := Aside0.mk (Kd.S_below HQ2.out hA)
        replace HY := Aside0.mk (Kd.R_below HY.out hA)
        replace H4 := Aside0.mk (blk_below H4.out hA)
        replace HD := Aside0.mk (below_step HD.out hA)
        clear hA hHeld
        clear HY
        clear HQ1
        clear HQ2
        refine hK.out _ _ (by exact HSS.out _ HD.out) (fun hHeld => ?_)
        clear hK K
        refine norm_ (a' := ?_) ?_ ?_
        rotate_left
        · show Act.put _ (some 15) _ = _
          simp only [Act.put, List.setIfInBounds_toArray, List.set_cons_zero, List.set_cons_succ, i64_w, i32_w]
          rfl
        refine pure_ (i := 3) (N := some 12) (v := ?_) (a' := ?_) #[true, true, true, true, false, false, true, false, false] rfl rfl (any_of HT_.out (by kernel_rfl)) (fun _ _ _ h => h) (Or.inl ⟨by rfl, ?_⟩) ?_ ?_
        rotate_left
        · intro w'
          go_simp
          with_reducible rfl
        rotate_left
        · simp only [Act.put, List.setIfInBounds_toArray, List.set_cons_zero, List.set_cons_succ, i64_w, i32_w]
          rfl
        refine pure_ (i := 4) (N := some 16) (v := ?_) (a' := ?_) #[true, true, true, true, true, false, true, false, false] rfl rfl (any_of HT_.out (by kernel_rfl)) (fun _ _ _ h => h) (Or.inl ⟨by rfl, ?_⟩) ?_ ?_
        rotate_left
        · intro w'
          go_simp
          with_reducible rfl
        rotate_left
        · simp only [Act.put, List.setIfInBounds_toArray, List.set_cons_zero, List.set_cons_succ, i64_w, i32_w]
          rfl
        refine pure_ (i := 5) (N := some 17) (v := ?_) (a' := ?_) #[true, true, true, true, true, true, true, false, false] rfl rfl (any_of HT_.out (by kernel_rfl)) (fun _ _ _ h => h) (Or.inl ⟨by rfl, ?_⟩) ?_ ?_
        rotate_left
        · intro w'
          go_simp
          with_reducible rfl
        rotate_left
        · simp only [Act.put, List.setIfInBounds_toArray, List.set_cons_zero, List.set_cons_succ, i64_w, i32_w]
          rfl
        refine last_ (i := 7) (N := none) #[true, true, true, true, true, true, true, true, false] rfl rfl (one_of HT_.out (by kernel_rfl)) (by decide) (fun K hK => ?_)
        have hz0 : Wc6.cell? ⟨g4, 0, none⟩ = some (.slice none 0 0) := (blk_cell H4.out 0).trans rfl
        have hz1 : Wc6.cell? ⟨g4, 1, none⟩ = some (.slice none 0 0) := (blk_cell H4.out 1).trans rfl
        have hf0 := blk_frozen H4.out 0
        have hf1 := blk_frozen H4.out 1
        refine skip_ (w1 := ?_) (by rfl) rfl ?_ ?_
        rotate_left
        · go_simp
          rfl
        refine hK.out _ _ ?_
        refine pure_ (i := 8) (N := some 5) (v := ?_) (a' := ?_) #[true, true, true, true, true, true, true, true, true] rfl rfl (any_of HT_.out (by kernel_rfl)) (fun _ _ _ h => h) (Or.inl ⟨by rfl, ?_⟩) ?_ ?_
        rotate_left
        · intro w'
          go_simp
          with_reducible rfl
        rotate_left
        · simp only [Act.put, List.setIfInBounds_toArray, List.set_cons_zero, List.set_cons_succ, i64_w, i32_w]
          rfl
        refine done_ (done_of HT_.out (by kernel_rfl)) ?_
        try go_wp2
        go_meet
        have n52 : ∀ q, q ∈ 39 :: k39.E → q ≠ 25 := by decide
        have n65 : ∀ q, q ∈ 49 :: k49.E → q ≠ 25 := by decide
        have hr1 := blk_put (cs := #[.slice none 0 0, .slice none 0 0]) H4.out 0 (.slice X1 twoS.length x1) rfl
        have hr2 := blk_put (cs := #[.slice X1 twoS.length x1, .slice none 0 0]) hr1 1 (.slice X2 two1.length x2) rfl
        exact ⟨g4, X1, x1, X2, x2, rfl, rfl, ⟨hr2⟩, ⟨Kd.S_set (Kd.S_set HX1.out H4.out n52 _ _) hr1 n52 _ _⟩, ⟨Kd.S_set (Kd.S_set HX2.out H4.out n65 _ _) hr1 n65 _ _⟩, ⟨blk_far (blk_far HZ.out HNE.out.symm _) HNE.out.symm _⟩, ⟨below_set (below_set HB.out (by have := below_size HB.out; have := HNE.out; have := HLE.out; omega)) (by have := HLE.out; omega)⟩⟩
    · skip
      refine value_ (w1 := ?_) (v := ?_) (by rfl) rfl ?_ ?_
      rotate_left 2
      · go_simp
        constructor
        · rfl
        · rfl
      have hA := below_alloc (Below.refl Wd.heap.size Wd) (.cells #[.slice none 0 0, .slice none 0 0] 25)
      have H4 := Aside0.mk (heap_alloc_new Wd (.cells #[.slice none 0 0, .slice none 0 0] 25))
      have HNE := Aside0.mk (show Wd.heap.size ≠ w.heap.size from Nat.ne_of_gt (blk_lt HZ.out))
      have HLE := Aside0.mk (show w.heap.size ≤ Wd.heap.size from below_size HB.out)
      replace HB := Aside0.mk (below_step HB.out hA)
      replace HZ := Aside0.mk (blk_below HZ.out hA)
      replace HQ1 := Aside0.mk (Kd.S_below HQ1.out hA)
      replace HQ2 := Aside0.mk (Kd.S_below HQ2.out hA)
      replace HD := Aside0.mk (below_step HD.out hA)
      clear hA hHeld
      generalize Wd.alloc (.cells #[.slice none 0 0, .slice none 0 0] 25) = Wa8 at HD HB HZ HQ1 HQ2 H4 ⊢
      generalize Wd.heap.size = g4 at H4 HNE HLE ⊢
      refine hK.out _ _ (by exact HSS.out _ HD.out) (fun hHeld => ?_)
      clear hK K
      refine norm_ (a' := ?_) ?_ ?_
      rotate_left
      · show Act.put _ (some 4) _ = _
        simp only [Act.put, List.setIfInBounds_toArray, List.set_cons_zero, List.set_cons_succ, i64_w, i32_w]
        rfl
      refine one_ (i := 1) (N := some 14) #[true, true, false, false, false, false, true, false, false] rfl rfl (one_of HT_.out (by kernel_rfl)) (by decide) (fun K hK => ?_)
      refine goes_ Try.func19 (by kernel_rfl) rfl #[.int .u8 120] (by rfl) rfl rfl (by (try simp only [List.map_toArray, List.map_cons, List.map_nil]); first | done | rfl | (simp only [List.length_drop, List.length_take]; rfl)) ?_
      refine (catamaranlaw05_of.calls 50 120 (of32 120) Wa8 two_of120).mono ?_
      rintro e Wc9 ⟨v1, rfl, ho, hA⟩
      obtain ⟨Y, y, e1⟩ := Kd.R_slice ho
      subst e1
      have HY := Aside0.mk ho
      clear ho
      refine ⟨_, rfl, ?_⟩
      replace HB := Aside0.mk (below_step HB.out hA)
      replace HZ := Aside0.mk (blk_below HZ.out hA)
      replace HQ1 := Aside0.mk (Kd.S_below HQ1.out hA)
      replace HQ2 := Aside0.mk (Kd.S_below HQ2.out hA)
      replace H4 := Aside0.mk (blk_below H4.out hA)
      replace HD := Aside0.mk (below_step HD.out hA)
      clear hA hHeld
      refine hK.out _ _ (by exact HSS.out _ HD.out) (fun hHeld => ?_)
      clear hK K
      refine norm_ (a' := ?_) ?_ ?_
      rotate_left
      · show Act.put _ (some 14) _ = _
        simp only [Act.put, List.setIfInBounds_toArray, List.set_cons_zero, List.set_cons_succ, i64_w, i32_w]
        rfl
      refine one_ (i := 2) (N := some 15) #[true, true, true, false, false, false, true, false, false] rfl rfl (one_of HT_.out (by kernel_rfl)) (by decide) (fun K hK => ?_)
      refine goes_ Try.func18 (by kernel_rfl) rfl #[.agg #[.slice Q1 twoS.length q1, .slice Q2 two0.length q2], .int .i64 1, .slice Y (of32 120).length y] (by rfl) rfl rfl (by (try simp only [List.map_toArray, List.map_cons, List.map_nil]); first | done | rfl | (simp only [List.length_drop, List.length_take]; rfl)) ?_
      refine (hWrite.calls Q1 q1 twoS Q2 q2 two0 1 Y y (of32 120) twoS two1 0 Wc9 (Kd.S_reads' HQ1.out).2.2 (Kd.S_reads' HQ1.out).2.1 (Kd.S_reads' HQ2.out).2.2 (Kd.S_reads' HQ2.out).2.1 (Kd.R_reads' HY.out).2.2 (Kd.R_reads' HY.out).2.1 two_w1).mono ?_
      rintro e Wc10 ⟨v1, v2, rfl, ho1, ho2, hA⟩
      obtain ⟨X1, x1, e1⟩ := Kd.S_slice ho1
      subst e1
      obtain ⟨X2, x2, e2⟩ := Kd.S_slice ho2
      subst e2
      have HX1 := Aside0.mk (Kd.S_lower ho1 (below_size HB.out))
      have HX2 := Aside0.mk (Kd.S_lower ho2 (below_size HB.out))
      clear ho1 ho2
      refine ⟨_, rfl, ?_⟩
      replace HB := Aside0.mk (below_step HB.out hA)
      replace HZ := Aside0.mk (blk_below HZ.out hA)
      replace HQ1 := Aside0.mk (Kd.S_below HQ1.out hA)
      replace HQ2 := Aside0.mk (Kd.S_below HQ2.out hA)
      replace H4 := Aside0.mk (blk_below H4.out hA)
      replace HY := Aside0.mk (Kd.R_below HY.out hA)
      replace HD := Aside0.mk (below_step HD.out hA)
      clear hA hHeld
      clear HY
      clear HQ1
      clear HQ2
      refine hK.out _ _ (by exact HSS.out _ HD.out) (fun hHeld => ?_)
      clear hK K
      refine norm_ (a' := ?_) ?_ ?_
      rotate_left
      · show Act.put _ (some 15) _ = _
        simp only [Act.put, List.setIfInBounds_toArray, List.set_cons_zero, List.set_cons_succ, i64_w, i32_w]
        rfl
      refine pure_ (i := 3) (N := some 12) (v := ?_) (a' := ?_) #[true, true, true, true, false, false, true, false, false] rfl rfl (any_of HT_.out (by kernel_rfl)) (fun _ _ _ h => h) (Or.inl ⟨by rfl, ?_⟩) ?_ ?_
      rotate_left
      · intro w'
        go_simp
        with_reducible rfl
      rotate_left
      · simp only [Act.put, List.setIfInBounds_toArray, List.set_cons_zero, List.set_cons_succ, i64_w, i32_w]
        rfl
      refine pure_ (i := 4) (N := some 16) (v := ?_) (a' := ?_) #[true, true, true, true, true, false, true, false, false] rfl rfl (any_of HT_.out (by kernel_rfl)) (fun _ _ _ h => h) (Or.inl ⟨by rfl, ?_⟩) ?_ ?_
      rotate_left
      · intro w'
        go_simp
        with_reducible rfl
      rotate_left
      · simp only [Act.put, List.setIfInBounds_toArray, List.set_cons_zero, List.set_cons_succ, i64_w, i32_w]
        rfl
      refine pure_ (i := 5) (N := some 17) (v := ?_) (a' := ?_) #[true, true, true, true, true, true, true, false, false] rfl rfl (any_of HT_.out (by kernel_rfl)) (fun _ _ _ h => h) (Or.inl ⟨by rfl, ?_⟩) ?_ ?_
      rotate_left
      · intro w'
        go_simp
        with_reducible rfl
      rotate_left
      · simp only [Act.put, List.setIfInBounds_toArray, List.set_cons_zero, List.set_cons_succ, i64_w, i32_w]
        rfl
      refine last_ (i := 7) (N := none) #[true, true, true, true, true, true, true, true, false] rfl rfl (one_of HT_.out (by kernel_rfl)) (by decide) (fun K hK => ?_)
      have hz0 : Wc10.cell? ⟨g4, 0, none⟩ = some (.slice none 0 0) := (blk_cell H4.out 0).trans rfl
      have hz1 : Wc10.cell? ⟨g4, 1, none⟩ = some (.slice none 0 0) := (blk_cell H4.out 1).trans rfl
      have hf0 := blk_frozen H4.out 0
      have hf1 := blk_frozen H4.out 1
      refine skip_ (w1 := ?_) (by rfl) rfl ?_ ?_
      rotate_left
      · go_simp
        rfl
      refine hK.out _ _ ?_
      refine pure_ (i := 8) (N := some 5) (v := ?_) (a' := ?_) #[true, true, true, true, true, true, true, true, true] rfl rfl (any_of HT_.out (by kernel_rfl)) (fun _ _ _ h => h) (Or.inl ⟨by rfl, ?_⟩) ?_ ?_
      rotate_left
      · intro w'
        go_simp
        with_reducible rfl
      rotate_left
      · simp only [Act.put, List.setIfInBounds_toArray, List.set_cons_zero, List.set_cons_succ, i64_w, i32_w]
        rfl
      refine done_ (done_of HT_.out (by kernel_rfl)) ?_
      try go_wp2
      go_meet
      have n52 : ∀ q, q ∈ 39 :: k39.E → q ≠ 25 := by decide
      have n65 : ∀ q, q ∈ 49 :: k49.E → q ≠ 25 := by decide
      have hr1 := blk_put (cs := #[.slice none 0 0, .slice none 0 0]) H4.out 0 (.slice X1 twoS.length x1) rfl
      have hr2 := blk_put (cs := #[.slice X1 twoS.length x1, .slice none 0 0]) hr1 1 (.slice X2 two1.length x2) rfl
      exact ⟨g4, X1, x1, X2, x2, rfl, rfl, ⟨hr2⟩, ⟨Kd.S_set (Kd.S_set HX1.out H4.out n52 _ _) hr1 n52 _ _⟩, ⟨Kd.S_set (Kd.S_set HX2.out H4.out n65 _ _) hr1 n65 _ _⟩, ⟨blk_far (blk_far HZ.out HNE.out.symm _) HNE.out.symm _⟩, ⟨below_set (below_set HB.out (by have := below_size HB.out; have := HNE.out; have := HLE.out; omega)) (by have := HLE.out; omega)⟩⟩
  case rest =>
  clear HB HQ1 HQ2 HZ H2 HSS
  obtain ⟨g2', Q1, q1, Q2, q2, rfl, rfl, H2, HQ1, HQ2, HZ, HB⟩ := hcut
  go_upto_region 3 with fail
  have HSS := Aside0.mk (show ∀ W : World, Below wc.heap.size wc W → W.cell? ⟨g2', 0, none⟩ = some (.slice Q1 twoS.length q1) ∧ W.cell? ⟨g2', 1, none⟩ = some (.slice Q2 two1.length q2) from fun W hb => ⟨(blk_cell (blk_below H2.out hb) 0).trans rfl, (blk_cell (blk_below H2.out hb) 1).trans rfl⟩)
  go_cut [6, 7] from 18 to 23 (fun s4 s5 wx => ∃ (g4 : Nat) (X1 : Option Addr) (x1 : Nat) (X2 : Option Addr) (x2 : Nat), s4 = .pointer (some ⟨g4, 0, none⟩) ∧ s5 = .int .i64 0 ∧ Aside0 (wx.heap[g4]? = some (.cells #[.slice X1 twoS.length x1, .slice X2 two2.length x2] 25 (0, 0))) ∧ Aside0 (Kd.S k39 39 wx w.heap.size (fun _ => True) (.slice X1 twoS.length x1) twoS) ∧ Aside0 (Kd.S k49 49 wx w.heap.size (fun _ => True) (.slice X2 two2.length x2) two2) ∧ Aside0 (wx.heap[w.heap.size]? = some (.cells #[.slice none 0 0, .slice none 0 0] 25 (0, 0))) ∧ Aside0 (Below w.heap.size w wx))
  case first =>
    refine start_ (n := 9) (S := fun w' => w'.cell? ⟨g2', 0, none⟩ = some (.slice Q1 twoS.length q1) ∧ w'.cell? ⟨g2', 1, none⟩ = some (.slice Q2 two1.length q2)) (ds := [7]) #[false, false, false, false, false, false, false, false, false] (by kernel_rfl) rfl rfl (by exact HSS.out _ (bdr1 (Below.refl _ _))) (fun hHeld => ?_); refine wtW hTwo.tab3 hTwo.bits3 (fun HT_ HW_ => ?_)
    have HD := Aside0.mk (bdr1 (Below.refl wc.heap.size wc))
    replace HB := Aside0.mk (below_step HB.out (bdr1 (Below.refl wc.heap.size wc)))
    replace HZ := Aside0.mk (blk_below HZ.out (bdr1 (Below.refl wc.heap.size wc)))
    replace HQ1 := Aside0.mk (Kd.S_below HQ1.out (bdr1 (Below.refl wc.heap.size wc)))
    replace HQ2 := Aside0.mk (Kd.S_below HQ2.out (bdr1 (Below.refl wc.heap.size wc)))
    generalize wc.drew = Wd at HD HB HZ HQ1 HQ2 hHeld ⊢
    refine take_ (i := 0) (N := some 19) (v := ?_) (a' := ?_) #[true, false, false, false, false, false, false, false, false] rfl rfl (take_ofW HT_.out HW_.out (by kernel_rfl)) (fun _ _ _ h => h) (Or.inl ⟨by rfl, ?_⟩) hHeld ?_ ?_
    rotate_left
    · rintro w' ⟨s0, s1⟩
      go_simp
      with_reducible rfl
    rotate_left
    · simp only [Act.put, List.setIfInBounds_toArray, List.set_cons_zero, List.set_cons_succ, i64_w, i32_w]
      rfl
    refine two_ (i := 1) (j := 6) (Ni := some 20) (Nj := some 6) #[true, true, false, false, false, false, false, false, false] #[true, false, false, false, false, false, true, false, false] rfl rfl rfl rfl (two_of HT_.out (by kernel_rfl)) (by decide) (by decide) (fun K hK => ?_) (fun K hK => ?_)
    · skip
      refine goes_ Try.func19 (by kernel_rfl) rfl #[.int .u8 121] (by rfl) rfl rfl (by (try simp only [List.map_toArray, List.map_cons, List.map_nil]); first | done | rfl | (simp only [List.length_drop, List.length_take]; rfl)) ?_
      refine (catamaranlaw05_of.calls 50 121 (of32 121) Wd two_of121).mono ?_
      rintro e Wc1 ⟨v1, rfl, ho, hA⟩
      obtain ⟨Y, y, e1⟩ := Kd.R_slice ho
      subst e1
      have HY := Aside0.mk ho
      clear ho
      refine ⟨_, rfl, ?_⟩
      replace HB := Aside0.mk (below_step HB.out hA)
      replace HZ := Aside0.mk (blk_below HZ.out hA)
      replace HQ1 := Aside0.mk (Kd.S_below HQ1.out hA)
      replace HQ2 := Aside0.mk (Kd.S_below HQ2.out hA)
      replace HD := Aside0.mk (below_step HD.out hA)
      clear hA hHeld
      refine hK.out _ _ (by exact HSS.out _ HD.out) (fun hHeld => ?_)
      clear hK K
      refine norm_ (a' := ?_) ?_ ?_
      rotate_left
      · show Act.put _ (some 20) _ = _
        simp only [Act.put, List.setIfInBounds_toArray, List.set_cons_zero, List.set_cons_succ, i64_w, i32_w]
        rfl
      refine two_ (i := 2) (j := 6) (Ni := some 21) (Nj := some 6) #[true, true, true, false, false, false, false, false, false] #[true, true, false, false, false, false, true, false, false] rfl rfl rfl rfl (two_of HT_.out (by kernel_rfl)) (by decide) (by decide) (fun K hK => ?_) (fun K hK => ?_)
      · skip
        refine goes_ Try.func18 (by kernel_rfl) rfl #[.agg #[.slice Q1 twoS.length q1, .slice Q2 two1.length q2], .int .i64 1, .slice Y (of32 121).length y] (by rfl) rfl rfl (by (try simp only [List.map_toArray, List.map_cons, List.map_nil]); first | done | rfl | (simp only [List.length_drop, List.length_take]; rfl)) ?_
        refine (hWrite.calls Q1 q1 twoS Q2 q2 two1 1 Y y (of32 121) twoS two2 0 Wc1 (Kd.S_reads' HQ1.out).2.2 (Kd.S_reads' HQ1.out).2.1 (Kd.S_reads' HQ2.out).2.2 (Kd.S_reads' HQ2.out).2.1 (Kd.R_reads' HY.out).2.2 (Kd.R_reads' HY.out).2.1 two_w2).mono ?_
        rintro e Wc2 ⟨v1, v2, rfl, ho1, ho2, hA⟩
        obtain ⟨X1, x1, e1⟩ := Kd.S_slice ho1
        subst e1
        obtain ⟨X2, x2, e2⟩ := Kd.S_slice ho2
        subst e2
        have HX1 := Aside0.mk (Kd.S_lower ho1 (below_size HB.out))
        have HX2 := Aside0.mk (Kd.S_lower ho2 (below_size HB.out))
        clear ho1 ho2
        refine ⟨_, rfl, ?_⟩
        replace HB := Aside0.mk (below_step HB.out hA)
        replace HZ := Aside0.mk (blk_below HZ.out hA)
        replace HQ1 := Aside0.mk (Kd.S_below HQ1.out hA)
        replace HQ2 := Aside0.mk (Kd.S_below HQ2.out hA)
        replace HY := Aside0.mk (Kd.R_below HY.out hA)
        replace HD := Aside0.mk (below_step HD.out hA)
        clear hA hHeld
        clear HY
        clear HQ1
        clear HQ2
        refine hK.out _ _ (by exact HSS.out _ HD.out) (fun hHeld => ?_)
        clear hK K
        refine norm_ (a' := ?_) ?_ ?_
        rotate_left
        · show Act.put _ (some 21) _ = _
          simp only [Act.put, List.setIfInBounds_toArray, List.set_cons_zero, List.set_cons_succ, i64_w, i32_w]
          rfl
        refine pure_ (i := 3) (N := some 18) (v := ?_) (a' := ?_) #[true, true, true, true, false, false, false, false, false] rfl rfl (any_of HT_.out (by kernel_rfl)) (fun _ _ _ h => h) (Or.inl ⟨by rfl, ?_⟩) ?_ ?_
        rotate_left
        · intro w'
          go_simp
          with_reducible rfl
        rotate_left
        · simp only [Act.put, List.setIfInBounds_toArray, List.set_cons_zero, List.set_cons_succ, i64_w, i32_w]
          rfl
        refine pure_ (i := 4) (N := some 22) (v := ?_) (a' := ?_) #[true, true, true, true, true, false, false, false, false] rfl rfl (any_of HT_.out (by kernel_rfl)) (fun _ _ _ h => h) (Or.inl ⟨by rfl, ?_⟩) ?_ ?_
        rotate_left
        · intro w'
          go_simp
          with_reducible rfl
        rotate_left
        · simp only [Act.put, List.setIfInBounds_toArray, List.set_cons_zero, List.set_cons_succ, i64_w, i32_w]
          rfl
        refine pure_ (i := 5) (N := some 23) (v := ?_) (a' := ?_) #[true, true, true, true, true, true, false, false, false] rfl rfl (any_of HT_.out (by kernel_rfl)) (fun _ _ _ h => h) (Or.inl ⟨by rfl, ?_⟩) ?_ ?_
        rotate_left
        · intro w'
          go_simp
          with_reducible rfl
        rotate_left
        · simp only [Act.put, List.setIfInBounds_toArray, List.set_cons_zero, List.set_cons_succ, i64_w, i32_w]
          rfl
        refine one_ (i := 6) (N := some 6) #[true, true, true, true, true, true, true, false, false] rfl rfl (one_of HT_.out (by kernel_rfl)) (by decide) (fun K hK => ?_)
        refine value_ (w1 := ?_) (v := ?_) (by rfl) rfl ?_ ?_
        rotate_left 2
        · go_simp
          constructor
          · rfl
          · rfl
        have hA := below_alloc (Below.refl Wc2.heap.size Wc2) (.cells #[.slice none 0 0, .slice none 0 0] 25)
        have H4 := Aside0.mk (heap_alloc_new Wc2 (.cells #[.slice none 0 0, .slice none 0 0] 25))
        have HNE := Aside0.mk (show Wc2.heap.size ≠ w.heap.size from Nat.ne_of_gt (blk_lt HZ.out))
        have HLE := Aside0.mk (show w.heap.size ≤ Wc2.heap.size from below_size HB.out)
        replace HB := Aside0.mk (below_step HB.out hA)
        replace HZ := Aside0.mk (blk_below HZ.out hA)
        replace HX1 := Aside0.mk (Kd.S_below HX1.out hA)
        replace HX2 := Aside0.mk (Kd.S_below HX2.out hA)
        replace HD := Aside0.mk (below_step HD.out hA)
        clear hA hHeld
        generalize Wc2.alloc (.cells #[.slice none 0 0, .slice none 0 0] 25) = Wa3 at HD HB HZ HX1 HX2 H4 ⊢
        generalize Wc2.heap.size = g4 at H4 HNE HLE ⊢
        refine hK.out _ _ (by exact HSS.out _ HD.out) (fun hHeld => ?_)
        clear hK K
        refine norm_ (a' := ?_) ?_ ?_
        rotate_left
        · show Act.put _ (some 6) _ = _
          simp only [Act.put, List.setIfInBounds_toArray, List.set_cons_zero, List.set_cons_succ, i64_w, i32_w]
          rfl
        refine last_ (i := 7) (N := none) #[true, true, true, true, true, true, true, true, false] rfl rfl (one_of HT_.out (by kernel_rfl)) (by decide) (fun K hK => ?_)
        have hz0 : Wa3.cell? ⟨g4, 0, none⟩ = some (.slice none 0 0) := (blk_cell H4.out 0).trans rfl
        have hz1 : Wa3.cell? ⟨g4, 1, none⟩ = some (.slice none 0 0) := (blk_cell H4.out 1).trans rfl
        have hf0 := blk_frozen H4.out 0
        have hf1 := blk_frozen H4.out 1
        refine skip_ (w1 := ?_) (by rfl) rfl ?_ ?_
        rotate_left
        · go_simp
          rfl
        refine hK.out _ _ ?_
        refine pure_ (i := 8) (N := some 7) (v := ?_) (a' := ?_) #[true, true, true, true, true, true, true, true, true] rfl rfl (any_of HT_.out (by kernel_rfl)) (fun _ _ _ h => h) (Or.inl ⟨by rfl, ?_⟩) ?_ ?_
        rotate_left
        · intro w'
          go_simp
          with_reducible rfl
        rotate_left
        · simp only [Act.put, List.setIfInBounds_toArray, List.set_cons_zero, List.set_cons_succ, i64_w, i32_w]
          rfl
        refine done_ (done_of HT_.out (by kernel_rfl)) ?_
        try go_wp2
        go_meet
        have n52 : ∀ q, q ∈ 39 :: k39.E → q ≠ 25 := by decide
        have n65 : ∀ q, q ∈ 49 :: k49.E → q ≠ 25 := by decide
        have hr1 := blk_put (cs := #[.slice none 0 0, .slice none 0 0]) H4.out 0 (.slice X1 twoS.length x1) rfl
        have hr2 := blk_put (cs := #[.slice X1 twoS.length x1, .slice none 0 0]) hr1 1 (.slice X2 two2.length x2) rfl
        exact ⟨g4, X1, x1, X2, x2, rfl, rfl, ⟨hr2⟩, ⟨Kd.S_set (Kd.S_set HX1.out H4.out n52 _ _) hr1 n52 _ _⟩, ⟨Kd.S_set (Kd.S_set HX2.out H4.out n65 _ _) hr1 n65 _ _⟩, ⟨blk_far (blk_far HZ.out HNE.out.symm _) HNE.out.symm _⟩, ⟨below_set (below_set HB.out (by have := below_size HB.out; have := HNE.out; have := HLE.out; omega)) (by have := HLE.out; omega)⟩⟩
      · skip
        refine value_ (w1 := ?_) (v := ?_) (by rfl) rfl ?_ ?_
        rotate_left 2
        · go_simp
          constructor
          · rfl
          · rfl
        have hA := below_alloc (Below.refl Wc1.heap.size Wc1) (.cells #[.slice none 0 0, .slice none 0 0] 25)
        have H4 := Aside0.mk (heap_alloc_new Wc1 (.cells #[.slice none 0 0, .slice none 0 0] 25))
        have HNE := Aside0.mk (show Wc1.heap.size ≠ w.heap.size from Nat.ne_of_gt (blk_lt HZ.out))
        have HLE := Aside0.mk (show w.heap.size ≤ Wc1.heap.size from below_size HB.out)
        replace HB := Aside0.mk (below_step HB.out hA)
        replace HZ := Aside0.mk (blk_below HZ.out hA)
        replace HQ1 := Aside0.mk (Kd.S_below HQ1.out hA)
        replace HQ2 := Aside0.mk (Kd.S_below HQ2.out hA)
        replace HY := Aside0.mk (Kd.R_below HY.out hA)
        replace HD := Aside0.mk (below_step HD.out hA)
        clear hA hHeld
        generalize Wc1.alloc (.cells #[.slice none 0 0, .slice none 0 0] 25) = Wa5 at HD HB HZ HQ1 HQ2 HY H4 ⊢
        generalize Wc1.heap.size = g4 at H4 HNE HLE ⊢
        refine hK.out _ _ (by exact HSS.out _ HD.out) (fun hHeld => ?_)
        clear hK K
        refine norm_ (a' := ?_) ?_ ?_
        rotate_left
        · show Act.put _ (some 6) _ = _
          simp only [Act.put, List.setIfInBounds_toArray, List.set_cons_zero, List.set_cons_succ, i64_w, i32_w]
          rfl
        refine one_ (i := 2) (N := some 21) #[true, true, true, false, false, false, true, false, false] rfl rfl (one_of HT_.out (by kernel_rfl)) (by decide) (fun K hK => ?_)
        refine goes_ Try.func18 (by kernel_rfl) rfl #[.agg #[.slice Q1 twoS.length q1, .slice Q2 two1.length q2], .int .i64 1, .slice Y (of32 121).length y] (by rfl) rfl rfl (by (try simp only [List.map_toArray, List.map_cons, List.map_nil]); first | done | rfl | (simp only [List.length_drop, List.length_take]; rfl)) ?_
        refine (hWrite.calls Q1 q1 twoS Q2 q2 two1 1 Y y (of32 121) twoS two2 0 Wa5 (Kd.S_reads' HQ1.out).2.2 (Kd.S_reads' HQ1.out).2.1 (Kd.S_reads' HQ2.out).2.2 (Kd.S_reads' HQ2.out).2.1 (Kd.R_reads' HY.out).2.2 (Kd.R_reads' HY.out).2.1 two_w2).mono ?_
        rintro e Wc6 ⟨v1, v2, rfl, ho1, ho2, hA⟩
        obtain ⟨X1, x1, e1⟩ := Kd.S_slice ho1
        subst e1
        obtain ⟨X2, x2, e2⟩ := Kd.S_slice ho2
        subst e2
        have HX1 := Aside0.mk (Kd.S_lower ho1 (below_size HB.out))
        have HX2 := Aside0.mk (Kd.S_lower ho2 (below_size HB.out))
        clear ho1 ho2
        refine ⟨_, rfl, ?_⟩
        replace HB := Aside0.mk (below_step HB.out hA)
        replace HZ := Aside0.mk (blk_below HZ.out hA)
        replace HQ1 := Aside0.mk (Kd.S_below HQ1.out hA)
        replace HQ2 := Aside0.mk (Kd.S_below HQ2.out hA)
        replace HY := Aside0.mk (Kd.R_below HY.out hA)
        replace H4 := Aside0.mk (blk_below H4.out hA)
        replace HD := Aside0.mk (below_step HD.out hA)
        clear hA hHeld
        clear HY
        clear HQ1
        clear HQ2
        refine hK.out _ _ (by exact HSS.out _ HD.out) (fun hHeld => ?_)
        clear hK K
        refine norm_ (a' := ?_) ?_ ?_
        rotate_left
        · show Act.put _ (some 21) _ = _
          simp only [Act.put, List.setIfInBounds_toArray, List.set_cons_zero, List.set_cons_succ, i64_w, i32_w]
          rfl
        refine pure_ (i := 3) (N := some 18) (v := ?_) (a' := ?_) #[true, true, true, true, false, false, true, false, false] rfl rfl (any_of HT_.out (by kernel_rfl)) (fun _ _ _ h => h) (Or.inl ⟨by rfl, ?_⟩) ?_ ?_
        rotate_left
        · intro w'
          go_simp
          with_reducible rfl
        rotate_left
        · simp only [Act.put, List.setIfInBounds_toArray, List.set_cons_zero, List.set_cons_succ, i64_w, i32_w]
          rfl
        refine pure_ (i := 4) (N := some 22) (v := ?_) (a' := ?_) #[true, true, true, true, true, false, true, false, false] rfl rfl (any_of HT_.out (by kernel_rfl)) (fun _ _ _ h => h) (Or.inl ⟨by rfl, ?_⟩) ?_ ?_
        rotate_left
        · intro w'
          go_simp
          with_reducible rfl
        rotate_left
        · simp only [Act.put, List.setIfInBounds_toArray, List.set_cons_zero, List.set_cons_succ, i64_w, i32_w]
          rfl
        refine pure_ (i := 5) (N := some 23) (v := ?_) (a' := ?_) #[true, true, true, true, true, true, true, false, false] rfl rfl (any_of HT_.out (by kernel_rfl)) (fun _ _ _ h => h) (Or.inl ⟨by rfl, ?_⟩) ?_ ?_
        rotate_left
        · intro w'
          go_simp
          with_reducible rfl
        rotate_left
        · simp only [Act.put, List.setIfInBounds_toArray, List.set_cons_zero, List.set_cons_succ, i64_w, i32_w]
          rfl
        refine last_ (i := 7) (N := none) #[true, true, true, true, true, true, true, true, false] rfl rfl (one_of HT_.out (by kernel_rfl)) (by decide) (fun K hK => ?_)
        have hz0 : Wc6.cell? ⟨g4, 0, none⟩ = some (.slice none 0 0) := (blk_cell H4.out 0).trans rfl
        have hz1 : Wc6.cell? ⟨g4, 1, none⟩ = some (.slice none 0 0) := (blk_cell H4.out 1).trans rfl
        have hf0 := blk_frozen H4.out 0
        have hf1 := blk_frozen H4.out 1
        refine skip_ (w1 := ?_) (by rfl) rfl ?_ ?_
        rotate_left
        · go_simp
          rfl
        refine hK.out _ _ ?_
        refine pure_ (i := 8) (N := some 7) (v := ?_) (a' := ?_) #[true, true, true, true, true, true, true, true, true] rfl rfl (any_of HT_.out (by kernel_rfl)) (fun _ _ _ h => h) (Or.inl ⟨by rfl, ?_⟩) ?_ ?_
        rotate_left
        · intro w'
          go_simp
          with_reducible rfl
        rotate_left
        · simp only [Act.put, List.setIfInBounds_toArray, List.set_cons_zero, List.set_cons_succ, i64_w, i32_w]
          rfl
        refine done_ (done_of HT_.out (by kernel_rfl)) ?_
        try go_wp2
        go_meet
        have n52 : ∀ q, q ∈ 39 :: k39.E → q ≠ 25 := by decide
        have n65 : ∀ q, q ∈ 49 :: k49.E → q ≠ 25 := by decide
        have hr1 := blk_put (cs := #[.slice none 0 0, .slice none 0 0]) H4.out 0 (.slice X1 twoS.length x1) rfl
        have hr2 := blk_put (cs := #[.slice X1 twoS.length x1, .slice none 0 0]) hr1 1 (.slice X2 two2.length x2) rfl
        exact ⟨g4, X1, x1, X2, x2, rfl, rfl, ⟨hr2⟩, ⟨Kd.S_set (Kd.S_set HX1.out H4.out n52 _ _) hr1 n52 _ _⟩, ⟨Kd.S_set (Kd.S_set HX2.out H4.out n65 _ _) hr1 n65 _ _⟩, ⟨blk_far (blk_far HZ.out HNE.out.symm _) HNE.out.symm _⟩, ⟨below_set (below_set HB.out (by have := below_size HB.out; have := HNE.out; have := HLE.out; omega)) (by have := HLE.out; omega)⟩⟩
    · skip
      refine value_ (w1 := ?_) (v := ?_) (by rfl) rfl ?_ ?_
      rotate_left 2
      · go_simp
        constructor
        · rfl
        · rfl
      have hA := below_alloc (Below.refl Wd.heap.size Wd) (.cells #[.slice none 0 0, .slice none 0 0] 25)
      have H4 := Aside0.mk (heap_alloc_new Wd (.cells #[.slice none 0 0, .slice none 0 0] 25))
      have HNE := Aside0.mk (show Wd.heap.size ≠ w.heap.size from Nat.ne_of_gt (blk_lt HZ.out))
      have HLE := Aside0.mk (show w.heap.size ≤ Wd.heap.size from below_size HB.out)
      replace HB := Aside0.mk (below_step HB.out hA)
      replace HZ := Aside0.mk (blk_below HZ.out hA)
      replace HQ1 := Aside0.mk (Kd.S_below HQ1.out hA)
      replace HQ2 := Aside0.mk (Kd.S_below HQ2.out hA)
      replace HD := Aside0.mk (below_step HD.out hA)
      clear hA hHeld
      generalize Wd.alloc (.cells #[.slice none 0 0, .slice none 0 0] 25) = Wa8 at HD HB HZ HQ1 HQ2 H4 ⊢
      generalize Wd.heap.size = g4 at H4 HNE HLE ⊢
      refine hK.out _ _ (by exact HSS.out _ HD.out) (fun hHeld => ?_)
      clear hK K
      refine norm_ (a' := ?_) ?_ ?_
      rotate_left
      · show Act.put _ (some 6) _ = _
        simp only [Act.put, List.setIfInBounds_toArray, List.set_cons_zero, List.set_cons_succ, i64_w, i32_w]
        rfl
      refine one_ (i := 1) (N := some 20) #[true, true, false, false, false, false, true, false, false] rfl rfl (one_of HT_.out (by kernel_rfl)) (by decide) (fun K hK => ?_)
      refine goes_ Try.func19 (by kernel_rfl) rfl #[.int .u8 121] (by rfl) rfl rfl (by (try simp only [List.map_toArray, List.map_cons, List.map_nil]); first | done | rfl | (simp only [List.length_drop, List.length_take]; rfl)) ?_
      refine (catamaranlaw05_of.calls 50 121 (of32 121) Wa8 two_of121).mono ?_
      rintro e Wc9 ⟨v1, rfl, ho, hA⟩
      obtain ⟨Y, y, e1⟩ := Kd.R_slice ho
      subst e1
      have HY := Aside0.mk ho
      clear ho
      refine ⟨_, rfl, ?_⟩
      replace HB := Aside0.mk (below_step HB.out hA)
      replace HZ := Aside0.mk (blk_below HZ.out hA)
      replace HQ1 := Aside0.mk (Kd.S_below HQ1.out hA)
      replace HQ2 := Aside0.mk (Kd.S_below HQ2.out hA)
      replace H4 := Aside0.mk (blk_below H4.out hA)
      replace HD := Aside0.mk (below_step HD.out hA)
      clear hA hHeld
      refine hK.out _ _ (by exact HSS.out _ HD.out) (fun hHeld => ?_)
      clear hK K
      refine norm_ (a' := ?_) ?_ ?_
      rotate_left
      · show Act.put _ (some 20) _ = _
        simp only [Act.put, List.setIfInBounds_toArray, List.set_cons_zero, List.set_cons_succ, i64_w, i32_w]
        rfl
      refine one_ (i := 2) (N := some 21) #[true, true, true, false, false, false, true, false, false] rfl rfl (one_of HT_.out (by kernel_rfl)) (by decide) (fun K hK => ?_)
      refine goes_ Try.func18 (by kernel_rfl) rfl #[.agg #[.slice Q1 twoS.length q1, .slice Q2 two1.length q2], .int .i64 1, .slice Y (of32 121).length y] (by rfl) rfl rfl (by (try simp only [List.map_toArray, List.map_cons, List.map_nil]); first | done | rfl | (simp only [List.length_drop, List.length_take]; rfl)) ?_
      refine (hWrite.calls Q1 q1 twoS Q2 q2 two1 1 Y y (of32 121) twoS two2 0 Wc9 (Kd.S_reads' HQ1.out).2.2 (Kd.S_reads' HQ1.out).2.1 (Kd.S_reads' HQ2.out).2.2 (Kd.S_reads' HQ2.out).2.1 (Kd.R_reads' HY.out).2.2 (Kd.R_reads' HY.out).2.1 two_w2).mono ?_
      rintro e Wc10 ⟨v1, v2, rfl, ho1, ho2, hA⟩
      obtain ⟨X1, x1, e1⟩ := Kd.S_slice ho1
      subst e1
      obtain ⟨X2, x2, e2⟩ := Kd.S_slice ho2
      subst e2
      have HX1 := Aside0.mk (Kd.S_lower ho1 (below_size HB.out))
      have HX2 := Aside0.mk (Kd.S_lower ho2 (below_size HB.out))
      clear ho1 ho2
      refine ⟨_, rfl, ?_⟩
      replace HB := Aside0.mk (below_step HB.out hA)
      replace HZ := Aside0.mk (blk_below HZ.out hA)
      replace HQ1 := Aside0.mk (Kd.S_below HQ1.out hA)
      replace HQ2 := Aside0.mk (Kd.S_below HQ2.out hA)
      replace H4 := Aside0.mk (blk_below H4.out hA)
      replace HY := Aside0.mk (Kd.R_below HY.out hA)
      replace HD := Aside0.mk (below_step HD.out hA)
      clear hA hHeld
      clear HY
      clear HQ1
      clear HQ2
      refine hK.out _ _ (by exact HSS.out _ HD.out) (fun hHeld => ?_)
      clear hK K
      refine norm_ (a' := ?_) ?_ ?_
      rotate_left
      · show Act.put _ (some 21) _ = _
        simp only [Act.put, List.setIfInBounds_toArray, List.set_cons_zero, List.set_cons_succ, i64_w, i32_w]
        rfl
      refine pure_ (i := 3) (N := some 18) (v := ?_) (a' := ?_) #[true, true, true, true, false, false, true, false, false] rfl rfl (any_of HT_.out (by kernel_rfl)) (fun _ _ _ h => h) (Or.inl ⟨by rfl, ?_⟩) ?_ ?_
      rotate_left
      · intro w'
        go_simp
        with_reducible rfl
      rotate_left
      · simp only [Act.put, List.setIfInBounds_toArray, List.set_cons_zero, List.set_cons_succ, i64_w, i32_w]
        rfl
      refine pure_ (i := 4) (N := some 22) (v := ?_) (a' := ?_) #[true, true, true, true, true, false, true, false, false] rfl rfl (any_of HT_.out (by kernel_rfl)) (fun _ _ _ h => h) (Or.inl ⟨by rfl, ?_⟩) ?_ ?_
      rotate_left
      · intro w'
        go_simp
        with_reducible rfl
      rotate_left
      · simp only [Act.put, List.setIfInBounds_toArray, List.set_cons_zero, List.set_cons_succ, i64_w, i32_w]
        rfl
      refine pure_ (i := 5) (N := some 23) (v := ?_) (a' := ?_) #[true, true, true, true, true, true, true, false, false] rfl rfl (any_of HT_.out (by kernel_rfl)) (fun _ _ _ h => h) (Or.inl ⟨by rfl, ?_⟩) ?_ ?_
      rotate_left
      · intro w'
        go_simp
        with_reducible rfl
      rotate_left
      · simp only [Act.put, List.setIfInBounds_toArray, List.set_cons_zero, List.set_cons_succ, i64_w, i32_w]
        rfl
      refine last_ (i := 7) (N := none) #[true, true, true, true, true, true, true, true, false] rfl rfl (one_of HT_.out (by kernel_rfl)) (by decide) (fun K hK => ?_)
      have hz0 : Wc10.cell? ⟨g4, 0, none⟩ = some (.slice none 0 0) := (blk_cell H4.out 0).trans rfl
      have hz1 : Wc10.cell? ⟨g4, 1, none⟩ = some (.slice none 0 0) := (blk_cell H4.out 1).trans rfl
      have hf0 := blk_frozen H4.out 0
      have hf1 := blk_frozen H4.out 1
      refine skip_ (w1 := ?_) (by rfl) rfl ?_ ?_
      rotate_left
      · go_simp
        rfl
      refine hK.out _ _ ?_
      refine pure_ (i := 8) (N := some 7) (v := ?_) (a' := ?_) #[true, true, true, true, true, true, true, true, true] rfl rfl (any_of HT_.out (by kernel_rfl)) (fun _ _ _ h => h) (Or.inl ⟨by rfl, ?_⟩) ?_ ?_
      rotate_left
      · intro w'
        go_simp
        with_reducible rfl
      rotate_left
      · simp only [Act.put, List.setIfInBounds_toArray, List.set_cons_zero, List.set_cons_succ, i64_w, i32_w]
        rfl
      refine done_ (done_of HT_.out (by kernel_rfl)) ?_
      try go_wp2
      go_meet
      have n52 : ∀ q, q ∈ 39 :: k39.E → q ≠ 25 := by decide
      have n65 : ∀ q, q ∈ 49 :: k49.E → q ≠ 25 := by decide
      have hr1 := blk_put (cs := #[.slice none 0 0, .slice none 0 0]) H4.out 0 (.slice X1 twoS.length x1) rfl
      have hr2 := blk_put (cs := #[.slice X1 twoS.length x1, .slice none 0 0]) hr1 1 (.slice X2 two2.length x2) rfl
      exact ⟨g4, X1, x1, X2, x2, rfl, rfl, ⟨hr2⟩, ⟨Kd.S_set (Kd.S_set HX1.out H4.out n52 _ _) hr1 n52 _ _⟩, ⟨Kd.S_set (Kd.S_set HX2.out H4.out n65 _ _) hr1 n65 _ _⟩, ⟨blk_far (blk_far HZ.out HNE.out.symm _) HNE.out.symm _⟩, ⟨below_set (below_set HB.out (by have := below_size HB.out; have := HNE.out; have := HLE.out; omega)) (by have := HLE.out; omega)⟩⟩
  case rest =>
  clear HB HQ1 HQ2 HZ H2 HSS
  obtain ⟨g4, Q1, q1, Q2, q2, rfl, rfl, H2, HQ1, HQ2, HZ, HB⟩ := hcut
  have hc0 : wc.cell? ⟨g4, 0, none⟩ = some (.slice Q1 twoS.length q1) := (blk_cell H2.out 0).trans rfl
  have hc1 : wc.cell? ⟨g4, 1, none⟩ = some (.slice Q2 two2.length q2) := (blk_cell H2.out 1).trans rfl
  have hy0 : wc.cell? ⟨w.heap.size, 0, none⟩ = some (.slice none 0 0) := (blk_cell HZ.out 0).trans rfl
  have hy1 : wc.cell? ⟨w.heap.size, 1, none⟩ = some (.slice none 0 0) := (blk_cell HZ.out 1).trans rfl
  have hf0 := blk_frozen HZ.out 0
  have hf1 := blk_frozen HZ.out 1
  go_wp2_with fail
  have hr1 := blk_put (cs := #[.slice none 0 0, .slice none 0 0]) HZ.out 0 (.slice Q1 twoS.length q1) rfl
  have hr2 := blk_put (cs := #[.slice Q1 twoS.length q1, .slice none 0 0]) hr1 1 (.slice Q2 two2.length q2) rfl
  have n52 : ∀ q, q ∈ 39 :: k39.E → q ≠ 25 := by decide
  have n65 : ∀ q, q ∈ 49 :: k49.E → q ≠ 25 := by decide
  refine bodyPost_ret (results_ct rfl _ _ w.heap.size 25 #[.slice Q1 twoS.length q1, .slice Q2 two2.length q2] (0, 0) _ rfl hr2 Try.underlying25 rfl (by kernel_rfl)) rfl ?_
  exact ⟨_, _, rfl, Kd.S_set (Kd.S_set HQ1.out HZ.out n52 _ _) hr1 n52 _ _, Kd.S_set (Kd.S_set HQ2.out HZ.out n65 _ _) hr1 n65 _ _, below_set (below_set HB.out (Nat.le_refl _)) (Nat.le_refl _)⟩
end Go.Proofs.Ytdkjhcdniepbhaa.P
end
section
set_option linter.unusedVariables false
set_option linter.unusedSimpArgs false
namespace Go.Proofs.Ytdkjhcdniepbhaa.P
open Go.RowKit Go.Proofs.PrintWords Go.Proofs.PrintLast Go.Proofs.PrintMore
attribute [local go_sem] max2_int min2_int max_two min_two max_three min_three max_four min_four
theorem two_ok : okDisk twoS two2 = true := by kernel_rfl
def leaf (l0 : List Int) : List Int × Int := dRead (dBehind twoS two2 l0) [] 1
set_option maxHeartbeats 8000000 in
set_option maxRecDepth 100000 in
theorem hLeaves.calls (A0 : Option Addr) (c0 : Nat) (l0 : List Int) (A1 : Option Addr) (c1 : Nat) (l1 : List Int) (w : World) (hr0 : Kd.C (Kd.int .u8) w A0 l0.length l0) (hc0 : l0.length ≤ c0) (hr1 : Kd.C (Kd.int .u8) w A1 l1.length l1) (hc1 : l1.length ≤ c1) (h : leaf l0 = (l1, 0) ∨ leaf l0 = ([], 50) ∧ l1 = []) :
    Calls Try.prog 22 #[.slice A0 l0.length c0, .slice A1 l1.length c1] w fun e w' => e = .returned (.bool true) ∧ Below w.heap.size w w' := by
  have hu25 := Try.underlying25
  have HR0 := Aside0.mk hr0
  have HR1 := Aside0.mk hr1
  have HC0 := Aside0.mk hc0
  have HC1 := Aside0.mk hc1
  obtain ⟨L, hL⟩ : ∃ L, dBehind twoS two2 l0 = L := ⟨_, rfl⟩
  have FC := Aside0.mk (show hCrash.f twoS two2 l0 = some (L, [], 0) by unfold hCrash.f; rw [dCrash_of _ two_ok, hL])
  have key : ∀ (rb : List Int) (re : Int), leaf l0 = (rb, re) → (re = 0 ∧ rb = l1 ∨ re = 50 ∧ rb = [] ∧ l1 = []) → Calls Try.prog 22 #[.slice A0 l0.length c0, .slice A1 l1.length c1] w fun e w' => e = .returned (.bool true) ∧ Below w.heap.size w w' := by
    intro rb re hre hcase
    have FR := Aside0.mk (show hRead.f L [] 1 = some (rb, re) by unfold hRead.f; rw [← hL]; exact congrArg some hre)
    clear hre h hr0 hr1 hc0 hc1 hL
    have go : ∀ (P : Prop), P = P := fun _ => rfl
    clear go
    rcases hcase with ⟨rfl, rfl⟩ | ⟨rfl, rfl, rfl⟩
    all_goals
      go_enter Try.func22, Try.ntmps22
      go_wp2_with (first
        | (go_at_call 16; refine (hTwo.calls twoS two2 true _ rfl).mono ?_; rintro e w1 ⟨v1, v2, rfl, ho1, ho2, hb1⟩; obtain ⟨T1, t1, e1⟩ := Kd.S_slice ho1; subst e1; obtain ⟨T2, t2, e2⟩ := Kd.S_slice ho2; subst e2; have HB1 := Aside0.mk hb1; have HT1 := Aside0.mk ho1; have HT2 := Aside0.mk ho2; clear ho1 ho2 hb1)
        | (go_at_call 56; have HB2 := Aside0.mk (below_alloc HB1.out (.cells #[.slice T1 twoS.length t1, .slice T2 two2.length t2] 25)); have HU1 := Aside0.mk (Kd.S_reads' (Kd.S_alloc HT1.out (.cells #[.slice T1 twoS.length t1, .slice T2 two2.length t2] 25))).2; have HU2 := Aside0.mk (Kd.S_reads' (Kd.S_alloc HT2.out (.cells #[.slice T1 twoS.length t1, .slice T2 two2.length t2] 25))).2; refine (hCrash.calls T1 t1 twoS T2 t2 two2 A0 c0 l0 L [] 0 _ HU1.out.2 HU1.out.1 HU2.out.2 HU2.out.1 (Kd.C_below HR0.out HB2.out) HC0.out FC.out).mono ?_; rintro e w2 ⟨v1, v2, rfl, ho1, ho2, hb2⟩; obtain ⟨X1, x1, e1⟩ := Kd.S_slice ho1; subst e1; obtain ⟨X2, x2, e2⟩ := Kd.S_slice ho2; subst e2; have HB3 := Aside0.mk (below_step HB2.out hb2); have HX1 := Aside0.mk ho1; have HX2 := Aside0.mk ho2; clear ho1 ho2 hb2)
        | (go_at_call 17; have HB4 := Aside0.mk (below_alloc HB3.out (.cells #[.slice X1 L.length x1, .slice X2 ([] : List S49).length x2] 25)); have HU3 := Aside0.mk (Kd.S_reads' (Kd.S_alloc HX1.out (.cells #[.slice X1 L.length x1, .slice X2 ([] : List S49).length x2] 25))).2; have HU4 := Aside0.mk (Kd.S_reads' (Kd.S_alloc HX2.out (.cells #[.slice X1 L.length x1, .slice X2 ([] : List S49).length x2] 25))).2; refine (hRead.calls X1 x1 L X2 x2 [] 1 _ _ _ HU3.out.2 HU3.out.1 HU4.out.2 HU4.out.1 FR.out).mono ?_; rintro e w3 ⟨v1, rfl, ho1, hb3⟩; obtain ⟨Y, y, e1⟩ := Kd.R_slice ho1; subst e1; have HB5 := Aside0.mk (below_step HB4.out hb3); have hs1 := Kd.C_string (P := Try.prog) (A := Y) (c := y) Try.underlying31 Try.underlying5 Try.underlying9 (Kd.R_reads' ho1).2.2; have hs2 := Kd.C_string (P := Try.prog) (A := A1) (c := c1) Try.underlying31 Try.underlying5 Try.underlying9 (Kd.C_below HR1.out HB5.out); clear ho1 hb3))
      go_ret
      exact ⟨rfl, HB5.out⟩
  rcases h with h | ⟨h, rfl⟩
  · exact key _ _ h (.inl ⟨rfl, rfl⟩)
  · exact key _ _ h (.inr ⟨rfl, rfl, rfl⟩)
end Go.Proofs.Ytdkjhcdniepbhaa.P
end
section
set_option linter.unusedVariables false
set_option linter.unusedSimpArgs false
namespace Go.Proofs.Ytdkjhcdniepbhaa.P
open Go.RowKit Go.Proofs.PrintWords Go.Proofs.PrintLast Go.Proofs.PrintMore
attribute [local go_sem] max2_int min2_int max_two min_two max_three min_three max_four min_four
theorem leaf1 : leaf [1] = (of32 120, 0) := by kernel_rfl
theorem leaf0 : leaf [] = (of32 0, 0) := by kernel_rfl
theorem leaf12 : leaf [1, 2] = ([], 50) := by kernel_rfl
theorem two_of0 : catamaranlaw05_of.f 50 0 = some (of32 0) := by kernel_rfl
theorem two_read : hRead.f twoS two2 1 = some (of32 121, 0) := by kernel_rfl
theorem lit_C {w : World} {g : Nat} (xs : List Int) (hl : xs.length ≤ 9223372036854775807) (h : w.heap[g]? = some (.cells (xs.map (Value.int .u8)).toArray 5 (0, 0))) : Kd.C (Kd.int .u8) w (some ⟨g, 0, none⟩) xs.length xs := by
  refine ⟨rfl, hl, fun hn => ⟨_, rfl, fun j p hj => ⟨[.int .u8 p], rfl, rfl, fun i u hu => ?_⟩⟩⟩
  have hi : i = 0 := by
    have := (List.getElem?_eq_some_iff.1 hu).1
    simpa using this
  subst hi
  have hu : Value.int .u8 p = u := by simpa using hu
  subst hu
  rw [add_plain, blk_cell h]
  simp [Kd.int, Kd.scalar, hj]
theorem nil_C (w : World) : Kd.C (Kd.int .u8) w none ([] : List Int).length [] := ⟨rfl, by simp, fun h => absurd h (by simp)⟩
def hAlive.f : Option Bool := some true
def hAlive.T3 : Bool × List (List Nat × List Nat) := (true, [([], []), ([0], [0]), ([1], [1]), ([2, 1], [1, 2]), ([1, 3], [1, 3]), ([4, 1], [4]), ([5], [5]), ([6, 5], [5, 6]), ([5, 5], [5]), ([8, 5], [5, 8]), ([7, 9, 5], [5, 7, 9]), ([5, 10], [5, 10]), ([11, 8], [11]), ([12], [12]), ([12, 12], [12]), ([13, 14, 14, 12], [12, 13, 14]), ([12, 15], [12, 15]), ([16, 15], [16]), ([17, 17], [17]), ([18, 18, 17], [17, 18]), ([17, 19], [17, 19]), ([20, 19], [20]), ([21], [21]), ([22, 21, 21], [21, 22]), ([21, 23], [21, 23]), ([24, 23, 0, 1, 2, 3, 4, 5, 6, 7, 8, 9, 10, 11, 12, 13, 14, 15, 16, 17, 18, 19, 20, 21, 22, 23, 24], [24])])
def hAlive.B3 : List Nat := [0, 1, 3, 7, 15, 31, 63, 127, 63, 319, 1023, 2047, 4095, 8191, 8191, 32767, 65535, 131071, 262143, 524287, 1048575, 2097151, 4194303, 8388607, 16777215, 33554431]
theorem hAlive.tab3 : rtab .any (opsOf Try.f21 3) = hAlive.T3 := by kernel_rfl
theorem hAlive.bits3 : waitsOk hAlive.T3.2 hAlive.B3 = true := by kernel_rfl
set_option maxHeartbeats 8000000 in
set_option maxRecDepth 100000 in
theorem hAlive.calls (r : Bool) (w : World) (h : hAlive.f = some r) :
    Calls Try.prog 21 #[] w fun e w' => e = .returned (.bool r) ∧ Below w.heap.size w w' := by
  have hu25 := Try.underlying25
  obtain rfl : true = r := by unfold hAlive.f at h; injection h
  clear h
  go_enter Try.func21, Try.ntmps21
  go_wp2_with (first
    | (go_at_call 16; refine (hTwo.calls twoS two2 true _ rfl).mono ?_; rintro e w1 ⟨v1, v2, rfl, ho1, ho2, hb1⟩; obtain ⟨T1, t1, e1⟩ := Kd.S_slice ho1; subst e1; obtain ⟨T2, t2, e2⟩ := Kd.S_slice ho2; subst e2; have HB1 := Aside0.mk hb1; have HT1 := Aside0.mk ho1; have HT2 := Aside0.mk ho2; clear ho1 ho2 hb1)
    | (go_at_call 17; have HB2 := Aside0.mk (below_alloc HB1.out (.cells #[.slice T1 twoS.length t1, .slice T2 two2.length t2] 25)); have HU1 := Aside0.mk (Kd.S_reads' (Kd.S_alloc HT1.out (.cells #[.slice T1 twoS.length t1, .slice T2 two2.length t2] 25))).2; have HU2 := Aside0.mk (Kd.S_reads' (Kd.S_alloc HT2.out (.cells #[.slice T1 twoS.length t1, .slice T2 two2.length t2] 25))).2; refine (hRead.calls T1 t1 twoS T2 t2 two2 1 _ _ _ HU1.out.2 HU1.out.1 HU2.out.2 HU2.out.1 two_read).mono ?_; rintro e w3 ⟨v1, rfl, ho1, hb3⟩; obtain ⟨B, b, e1⟩ := Kd.R_slice ho1; subst e1; have HB := Aside0.mk (below_step HB2.out hb3); have HV := Aside0.mk ho1; clear ho1 hb3 HB1 HT1 HT2 HU1 HU2 HB2))
  have HSS := Aside0.mk (show ∀ W : World, Below w3.heap.size w3 W → (convert 31 9 (.slice B (of32 121).length b)).run Try.prog W = .ok (.string (strOfNums (of32 121))) W from fun W hb => Kd.C_string (P := Try.prog) (A := B) (c := b) Try.underlying31 Try.underlying5 Try.underlying9 (Kd.C_below (Kd.R_reads' HV.out).2.2 hb))
  clear HV
  refine start_ (n := 26) (S := fun w' => (convert 31 9 (.slice B (of32 121).length b)).run Try.prog w' = .ok (.string (strOfNums (of32 121))) w') (ds := []) #[false, false, false, false, false, false, false, false, false, false, false, false, false, false, false, false, false, false, false, false, false, false, false, false, false, false] (by kernel_rfl) rfl rfl (by exact HSS.out _ (bdr1 (Below.refl _ _))) (fun hHeld => ?_); refine wtW hAlive.tab3 hAlive.bits3 (fun HT_ HW_ => ?_)
  have HD := Aside0.mk (bdr1 (Below.refl w3.heap.size w3))
  replace HB := Aside0.mk (below_step HB.out (bdr1 (Below.refl w3.heap.size w3)))
  generalize w3.drew = Wd at HD HB hHeld ⊢
  refine pure_ (i := 0) (N := some 14) (v := ?_) (a' := ?_) #[true, false, false, false, false, false, false, false, false, false, false, false, false, false, false, false, false, false, false, false, false, false, false, false, false, false] rfl rfl (any_of HT_.out (by kernel_rfl)) (fun _ _ _ h => h) (Or.inl ⟨by rfl, ?_⟩) ?_ ?_
  rotate_left
  · intro w'
    go_simp
    with_reducible rfl
  rotate_left
  · simp only [Act.put, List.setIfInBounds_toArray, List.set_cons_zero, List.set_cons_succ, i64_w, i32_w]
    rfl
  refine pure_ (i := 1) (N := some 15) (v := ?_) (a' := ?_) #[true, true, false, false, false, false, false, false, false, false, false, false, false, false, false, false, false, false, false, false, false, false, false, false, false, false] rfl rfl (any_of HT_.out (by kernel_rfl)) (fun _ _ _ h => h) (Or.inl ⟨by rfl, ?_⟩) ?_ ?_
  rotate_left
  · intro w'
    go_simp
    with_reducible rfl
  rotate_left
  · simp only [Act.put, List.setIfInBounds_toArray, List.set_cons_zero, List.set_cons_succ, i64_w, i32_w]
    rfl
  refine pure_ (i := 2) (N := some 16) (v := ?_) (a' := ?_) #[true, true, true, false, false, false, false, false, false, false, false, false, false, false, false, false, false, false, false, false, false, false, false, false, false, false] rfl rfl (any_of HT_.out (by kernel_rfl)) (fun _ _ _ h => h) (Or.inl ⟨by rfl, ?_⟩) ?_ ?_
  rotate_left
  · intro w'
    go_simp
    with_reducible rfl
  rotate_left
  · simp only [Act.put, List.setIfInBounds_toArray, List.set_cons_zero, List.set_cons_succ, i64_w, i32_w]
    rfl
  refine pure_ (i := 3) (N := some 17) (v := ?_) (a' := ?_) #[true, true, true, true, false, false, false, false, false, false, false, false, false, false, false, false, false, false, false, false, false, false, false, false, false, false] rfl rfl (any_of HT_.out (by kernel_rfl)) (fun _ _ _ h => h) (Or.inl ⟨by rfl, ?_⟩) ?_ ?_
  rotate_left
  · intro w'
    go_simp
    with_reducible rfl
  rotate_left
  · simp only [Act.put, List.setIfInBounds_toArray, List.set_cons_zero, List.set_cons_succ, i64_w, i32_w]
    rfl
  refine pure_ (i := 4) (N := some 18) (v := ?_) (a' := ?_) #[true, true, true, true, true, false, false, false, false, false, false, false, false, false, false, false, false, false, false, false, false, false, false, false, false, false] rfl rfl (any_of HT_.out (by kernel_rfl)) (fun _ _ _ h => h) (Or.inl ⟨by rfl, ?_⟩) ?_ ?_
  rotate_left
  · intro w'
    go_simp
    with_reducible rfl
  rotate_left
  · simp only [Act.put, List.setIfInBounds_toArray, List.set_cons_zero, List.set_cons_succ, i64_w, i32_w]
    rfl
  refine pure_ (i := 5) (N := some 19) (v := ?_) (a' := ?_) #[true, true, true, true, true, true, false, false, false, false, false, false, false, false, false, false, false, false, false, false, false, false, false, false, false, false] rfl rfl (any_of HT_.out (by kernel_rfl)) (fun _ _ _ h => h) (Or.inl ⟨by rfl, ?_⟩) ?_ ?_
  rotate_left
  · intro w'
    go_simp
    with_reducible rfl
  rotate_left
  · simp only [Act.put, List.setIfInBounds_toArray, List.set_cons_zero, List.set_cons_succ, i64_w, i32_w]
    rfl
  refine pure_ (i := 6) (N := some 20) (v := ?_) (a' := ?_) #[true, true, true, true, true, true, true, false, false, false, false, false, false, false, false, false, false, false, false, false, false, false, false, false, false, false] rfl rfl (any_of HT_.out (by kernel_rfl)) (fun _ _ _ h => h) (Or.inl ⟨by rfl, ?_⟩) ?_ ?_
  rotate_left
  · intro w'
    go_simp
    with_reducible rfl
  rotate_left
  · simp only [Act.put, List.setIfInBounds_toArray, List.set_cons_zero, List.set_cons_succ, i64_w, i32_w]
    rfl
  refine take_ (i := 7) (N := some 21) (v := ?_) (a' := ?_) #[true, true, true, true, true, true, true, true, false, false, false, false, false, false, false, false, false, false, false, false, false, false, false, false, false, false] rfl rfl (take_ofW HT_.out HW_.out (by kernel_rfl)) (fun _ _ _ h => h) (Or.inl ⟨by rfl, ?_⟩) hHeld ?_ ?_
  rotate_left
  · rintro w' s0
    go_simp
    with_reducible rfl
  rotate_left
  · simp only [Act.put, List.setIfInBounds_toArray, List.set_cons_zero, List.set_cons_succ, i64_w, i32_w]
    rfl
  refine one_ (i := 8) (N := some 22) #[true, true, true, true, true, true, true, true, true, false, false, false, false, false, false, false, false, false, false, false, false, false, false, false, false, false] rfl rfl (one_of HT_.out (by kernel_rfl)) (by decide) (fun K hK => ?_)
  refine goes_ Try.func19 (by kernel_rfl) rfl #[.int .u8 121] (by rfl) rfl rfl (by (try simp only [List.map_toArray, List.map_cons, List.map_nil]); first | done | rfl | (simp only [List.length_drop, List.length_take]; rfl)) ?_
  refine (catamaranlaw05_of.calls 50 121 (of32 121) Wd two_of121).mono ?_
  rintro e Wc1 ⟨v1, rfl, ho, hA⟩
  obtain ⟨Y, y, e1⟩ := Kd.R_slice ho
  subst e1
  have HY := Aside0.mk ho
  clear ho
  refine ⟨_, rfl, ?_⟩
  replace HB := Aside0.mk (below_step HB.out hA)
  replace HD := Aside0.mk (below_step HD.out hA)
  clear hA hHeld
  refine hK.out _ _ (by exact HSS.out _ HD.out) (fun hHeld => ?_)
  clear hK K
  refine norm_ (a' := ?_) ?_ ?_
  rotate_left
  · show Act.put _ (some 22) _ = _
    simp only [Act.put, List.setIfInBounds_toArray, List.set_cons_zero, List.set_cons_succ, i64_w, i32_w]
    rfl
  refine one_ (i := 9) (N := some 23) #[true, true, true, true, true, true, true, true, true, true, false, false, false, false, false, false, false, false, false, false, false, false, false, false, false, false] rfl rfl (one_of HT_.out (by kernel_rfl)) (by decide) (fun K hK => ?_)
  have hcv := Kd.C_string (P := Try.prog) (A := Y) (c := y) Try.underlying31 Try.underlying5 Try.underlying9 (Kd.R_reads' HY.out).2.2
  refine value_ (w1 := ?_) (v := ?_) (by rfl) rfl ?_ ?_
  rotate_left 2
  · go_simp
    constructor
    · rfl
    · rfl
  clear hcv hHeld
  clear HY
  refine hK.out _ _ (by exact HSS.out _ HD.out) (fun hHeld => ?_)
  clear hK K
  refine norm_ (a' := ?_) ?_ ?_
  rotate_left
  · show Act.put _ (some 23) _ = _
    simp only [Act.put, List.setIfInBounds_toArray, List.set_cons_zero, List.set_cons_succ, i64_w, i32_w]
    rfl
  refine pure_ (i := 10) (N := some 24) (v := ?_) (a' := ?_) #[true, true, true, true, true, true, true, true, true, true, true, false, false, false, false, false, false, false, false, false, false, false, false, false, false, false] rfl rfl (any_of HT_.out (by kernel_rfl)) (fun _ _ _ h => h) (Or.inl ⟨by rfl, ?_⟩) ?_ ?_
  rotate_left
  · intro w'
    go_simp
    with_reducible rfl
  rotate_left
  · simp only [Act.put, List.setIfInBounds_toArray, List.set_cons_zero, List.set_cons_succ, i64_w, i32_w]
    rfl
  refine pure_ (i := 11) (N := some 25) (v := ?_) (a' := ?_) #[true, true, true, true, true, true, true, true, true, true, true, true, false, false, false, false, false, false, false, false, false, false, false, false, false, false] rfl rfl (any_of HT_.out (by kernel_rfl)) (fun _ _ _ h => h) (Or.inl ⟨by rfl, ?_⟩) ?_ ?_
  rotate_left
  · intro w'
    go_simp
    with_reducible rfl
  rotate_left
  · simp only [Act.put, List.setIfInBounds_toArray, List.set_cons_zero, List.set_cons_succ, i64_w, i32_w]
    rfl
  refine pure_ (i := 12) (N := some 26) (v := ?_) (a' := ?_) #[true, true, true, true, true, true, true, true, true, true, true, true, true, false, false, false, false, false, false, false, false, false, false, false, false, false] rfl rfl (any_of HT_.out (by kernel_rfl)) (fun _ _ _ h => h) (Or.inl ⟨by rfl, ?_⟩) ?_ ?_
  rotate_left
  · intro w'
    go_simp
    with_reducible rfl
  rotate_left
  · simp only [Act.put, List.setIfInBounds_toArray, List.set_cons_zero, List.set_cons_succ, i64_w, i32_w]
    rfl
  refine two_ (i := 13) (j := 14) (Ni := some 27) (Nj := some 28) #[true, true, true, true, true, true, true, true, true, true, true, true, true, true, false, false, false, false, false, false, false, false, false, false, false, false] #[true, true, true, true, true, true, true, true, true, true, true, true, true, false, true, false, false, false, false, false, false, false, false, false, false, false] rfl rfl rfl rfl (two_of HT_.out (by kernel_rfl)) (by decide) (by decide) (fun K hK => ?_) (fun K hK => ?_)
  · skip
    refine value_ (w1 := ?_) (v := ?_) (by rfl) rfl ?_ ?_
    rotate_left 2
    · go_simp
      constructor
      · rfl
      · rfl
    have hA := below_alloc (Below.refl Wc1.heap.size Wc1) (.cells #[.int .u8 1] 5)
    have HLg1 := Aside0.mk (heap_alloc_new Wc1 (.cells #[.int .u8 1] 5))
    replace HB := Aside0.mk (below_step HB.out hA)
    replace HD := Aside0.mk (below_step HD.out hA)
    clear hA hHeld
    generalize Wc1.alloc (.cells #[.int .u8 1] 5) = Wa3 at HD HB HLg1 ⊢
    generalize Wc1.heap.size = g1 at HLg1 ⊢
    refine hK.out _ _ (by exact HSS.out _ HD.out) (fun hHeld => ?_)
    clear hK K
    refine norm_ (a' := ?_) ?_ ?_
    rotate_left
    · show Act.put _ (some 27) _ = _
      simp only [Act.put, List.setIfInBounds_toArray, List.set_cons_zero, List.set_cons_succ, i64_w, i32_w]
      rfl
    refine one_ (i := 14) (N := some 28) #[true, true, true, true, true, true, true, true, true, true, true, true, true, true, true, false, false, false, false, false, false, false, false, false, false, false] rfl rfl (one_of HT_.out (by kernel_rfl)) (by decide) (fun K hK => ?_)
    refine goes_ Try.func19 (by kernel_rfl) rfl #[.int .u8 120] (by rfl) rfl rfl (by (try simp only [List.map_toArray, List.map_cons, List.map_nil]); first | done | rfl | (simp only [List.length_drop, List.length_take]; rfl)) ?_
    refine (catamaranlaw05_of.calls 50 120 (of32 120) Wa3 two_of120).mono ?_
    rintro e Wc4 ⟨v1, rfl, ho, hA⟩
    obtain ⟨X, x, e1⟩ := Kd.R_slice ho
    subst e1
    have HX := Aside0.mk ho
    clear ho
    refine ⟨_, rfl, ?_⟩
    replace HB := Aside0.mk (below_step HB.out hA)
    replace HLg1 := Aside0.mk (blk_below HLg1.out hA)
    replace HD := Aside0.mk (below_step HD.out hA)
    clear hA hHeld
    refine hK.out _ _ (by exact HSS.out _ HD.out) (fun hHeld => ?_)
    clear hK K
    refine norm_ (a' := ?_) ?_ ?_
    rotate_left
    · show Act.put _ (some 28) _ = _
      simp only [Act.put, List.setIfInBounds_toArray, List.set_cons_zero, List.set_cons_succ, i64_w, i32_w]
      rfl
    refine one_ (i := 15) (N := some 29) #[true, true, true, true, true, true, true, true, true, true, true, true, true, true, true, true, false, false, false, false, false, false, false, false, false, false] rfl rfl (one_of HT_.out (by kernel_rfl)) (by decide) (fun K hK => ?_)
    refine goes_ Try.func22 (by kernel_rfl) rfl #[.slice (some ⟨g1, 0, none⟩) 1 1, .slice X (of32 120).length x] (by rfl) rfl rfl (by (try simp only [List.map_toArray, List.map_cons, List.map_nil]); first | done | rfl | (simp only [List.length_drop, List.length_take]; rfl)) ?_
    refine (hLeaves.calls (some ⟨g1, 0, none⟩) 1 [1] X x (of32 120) Wc4 (lit_C [1] (by simp) HLg1.out) (Nat.le_refl _) (Kd.R_reads' HX.out).2.2 (Kd.R_reads' HX.out).2.1 (.inl leaf1)).mono ?_
    rintro e Wc5 ⟨rfl, hA⟩
    refine ⟨_, rfl, ?_⟩
    replace HB := Aside0.mk (below_step HB.out hA)
    replace HLg1 := Aside0.mk (blk_below HLg1.out hA)
    replace HX := Aside0.mk (Kd.R_below HX.out hA)
    replace HD := Aside0.mk (below_step HD.out hA)
    clear hA hHeld
    clear HX
    clear HLg1
    refine hK.out _ _ (by exact HSS.out _ HD.out) (fun hHeld => ?_)
    clear hK K
    refine norm_ (a' := ?_) ?_ ?_
    rotate_left
    · show Act.put _ (some 29) _ = _
      simp only [Act.put, List.setIfInBounds_toArray, List.set_cons_zero, List.set_cons_succ, i64_w, i32_w]
      rfl
    refine pure_ (i := 16) (N := some 30) (v := ?_) (a' := ?_) #[true, true, true, true, true, true, true, true, true, true, true, true, true, true, true, true, true, false, false, false, false, false, false, false, false, false] rfl rfl (any_of HT_.out (by kernel_rfl)) (fun _ _ _ h => h) (Or.inl ⟨by rfl, ?_⟩) ?_ ?_
    rotate_left
    · intro w'
      go_simp
      with_reducible rfl
    rotate_left
    · simp only [Act.put, List.setIfInBounds_toArray, List.set_cons_zero, List.set_cons_succ, i64_w, i32_w]
      rfl
    refine pure_ (i := 17) (N := some 31) (v := ?_) (a' := ?_) #[true, true, true, true, true, true, true, true, true, true, true, true, true, true, true, true, true, true, false, false, false, false, false, false, false, false] rfl rfl (any_of HT_.out (by kernel_rfl)) (fun _ _ _ h => h) (Or.inl ⟨by rfl, ?_⟩) ?_ ?_
    rotate_left
    · intro w'
      go_simp
      with_reducible rfl
    rotate_left
    · simp only [Act.put, List.setIfInBounds_toArray, List.set_cons_zero, List.set_cons_succ, i64_w, i32_w]
      rfl
    refine one_ (i := 18) (N := some 32) #[true, true, true, true, true, true, true, true, true, true, true, true, true, true, true, true, true, true, true, false, false, false, false, false, false, false] rfl rfl (one_of HT_.out (by kernel_rfl)) (by decide) (fun K hK => ?_)
    refine goes_ Try.func19 (by kernel_rfl) rfl #[.int .u8 0] (by rfl) rfl rfl (by (try simp only [List.map_toArray, List.map_cons, List.map_nil]); first | done | rfl | (simp only [List.length_drop, List.length_take]; rfl)) ?_
    refine (catamaranlaw05_of.calls 50 0 (of32 0) Wc5 two_of0).mono ?_
    rintro e Wc6 ⟨v1, rfl, ho, hA⟩
    obtain ⟨Z, z, e1⟩ := Kd.R_slice ho
    subst e1
    have HZ := Aside0.mk ho
    clear ho
    refine ⟨_, rfl, ?_⟩
    replace HB := Aside0.mk (below_step HB.out hA)
    replace HD := Aside0.mk (below_step HD.out hA)
    clear hA hHeld
    refine hK.out _ _ (by exact HSS.out _ HD.out) (fun hHeld => ?_)
    clear hK K
    refine norm_ (a' := ?_) ?_ ?_
    rotate_left
    · show Act.put _ (some 32) _ = _
      simp only [Act.put, List.setIfInBounds_toArray, List.set_cons_zero, List.set_cons_succ, i64_w, i32_w]
      rfl
    refine one_ (i := 19) (N := some 33) #[true, true, true, true, true, true, true, true, true, true, true, true, true, true, true, true, true, true, true, true, false, false, false, false, false, false] rfl rfl (one_of HT_.out (by kernel_rfl)) (by decide) (fun K hK => ?_)
    refine goes_ Try.func22 (by kernel_rfl) rfl #[.slice none 0 0, .slice Z (of32 0).length z] (by rfl) rfl rfl (by (try simp only [List.map_toArray, List.map_cons, List.map_nil]); first | done | rfl | (simp only [List.length_drop, List.length_take]; rfl)) ?_
    refine (hLeaves.calls none 0 [] Z z (of32 0) Wc6 (nil_C _) (Nat.le_refl _) (Kd.R_reads' HZ.out).2.2 (Kd.R_reads' HZ.out).2.1 (.inl leaf0)).mono ?_
    rintro e Wc7 ⟨rfl, hA⟩
    refine ⟨_, rfl, ?_⟩
    replace HB := Aside0.mk (below_step HB.out hA)
    replace HZ := Aside0.mk (Kd.R_below HZ.out hA)
    replace HD := Aside0.mk (below_step HD.out hA)
    clear hA hHeld
    clear HZ
    refine hK.out _ _ (by exact HSS.out _ HD.out) (fun hHeld => ?_)
    clear hK K
    refine norm_ (a' := ?_) ?_ ?_
    rotate_left
    · show Act.put _ (some 33) _ = _
      simp only [Act.put, List.setIfInBounds_toArray, List.set_cons_zero, List.set_cons_succ, i64_w, i32_w]
      rfl
    refine pure_ (i := 20) (N := some 34) (v := ?_) (a' := ?_) #[true, true, true, true, true, true, true, true, true, true, true, true, true, true, true, true, true, true, true, true, true, false, false, false, false, false] rfl rfl (any_of HT_.out (by kernel_rfl)) (fun _ _ _ h => h) (Or.inl ⟨by rfl, ?_⟩) ?_ ?_
    rotate_left
    · intro w'
      go_simp
      with_reducible rfl
    rotate_left
    · simp only [Act.put, List.setIfInBounds_toArray, List.set_cons_zero, List.set_cons_succ, i64_w, i32_w]
      rfl
    refine pure_ (i := 21) (N := some 35) (v := ?_) (a' := ?_) #[true, true, true, true, true, true, true, true, true, true, true, true, true, true, true, true, true, true, true, true, true, true, false, false, false, false] rfl rfl (any_of HT_.out (by kernel_rfl)) (fun _ _ _ h => h) (Or.inl ⟨by rfl, ?_⟩) ?_ ?_
    rotate_left
    · intro w'
      go_simp
      with_reducible rfl
    rotate_left
    · simp only [Act.put, List.setIfInBounds_toArray, List.set_cons_zero, List.set_cons_succ, i64_w, i32_w]
      rfl
    refine one_ (i := 22) (N := some 36) #[true, true, true, true, true, true, true, true, true, true, true, true, true, true, true, true, true, true, true, true, true, true, true, false, false, false] rfl rfl (one_of HT_.out (by kernel_rfl)) (by decide) (fun K hK => ?_)
    refine value_ (w1 := ?_) (v := ?_) (by rfl) rfl ?_ ?_
    rotate_left 2
    · go_simp
      constructor
      · rfl
      · rfl
    have hA := below_alloc (Below.refl Wc7.heap.size Wc7) (.cells #[.int .u8 1, .int .u8 2] 5)
    have HLg2 := Aside0.mk (heap_alloc_new Wc7 (.cells #[.int .u8 1, .int .u8 2] 5))
    replace HB := Aside0.mk (below_step HB.out hA)
    replace HD := Aside0.mk (below_step HD.out hA)
    clear hA hHeld
    generalize Wc7.alloc (.cells #[.int .u8 1, .int .u8 2] 5) = Wa8 at HD HB HLg2 ⊢
    generalize Wc7.heap.size = g2 at HLg2 ⊢
    refine hK.out _ _ (by exact HSS.out _ HD.out) (fun hHeld => ?_)
    clear hK K
    refine norm_ (a' := ?_) ?_ ?_
    rotate_left
    · show Act.put _ (some 36) _ = _
      simp only [Act.put, List.setIfInBounds_toArray, List.set_cons_zero, List.set_cons_succ, i64_w, i32_w]
      rfl
    refine one_ (i := 23) (N := some 37) #[true, true, true, true, true, true, true, true, true, true, true, true, true, true, true, true, true, true, true, true, true, true, true, true, false, false] rfl rfl (one_of HT_.out (by kernel_rfl)) (by decide) (fun K hK => ?_)
    refine goes_ Try.func22 (by kernel_rfl) rfl #[.slice (some ⟨g2, 0, none⟩) 2 2, .slice none 0 0] (by rfl) rfl rfl (by (try simp only [List.map_toArray, List.map_cons, List.map_nil]); first | done | rfl | (simp only [List.length_drop, List.length_take]; rfl)) ?_
    refine (hLeaves.calls (some ⟨g2, 0, none⟩) 2 [1, 2] none 0 [] Wa8 (lit_C [1, 2] (by simp) HLg2.out) (Nat.le_refl _) (nil_C _) (Nat.le_refl _) (.inr ⟨leaf12, rfl⟩)).mono ?_
    rintro e Wc9 ⟨rfl, hA⟩
    refine ⟨_, rfl, ?_⟩
    replace HB := Aside0.mk (below_step HB.out hA)
    replace HLg2 := Aside0.mk (blk_below HLg2.out hA)
    replace HD := Aside0.mk (below_step HD.out hA)
    clear hA hHeld
    clear HLg2
    refine hK.out _ _ (by exact HSS.out _ HD.out) (fun hHeld => ?_)
    clear hK K
    refine norm_ (a' := ?_) ?_ ?_
    rotate_left
    · show Act.put _ (some 37) _ = _
      simp only [Act.put, List.setIfInBounds_toArray, List.set_cons_zero, List.set_cons_succ, i64_w, i32_w]
      rfl
    refine pure_ (i := 24) (N := some 38) (v := ?_) (a' := ?_) #[true, true, true, true, true, true, true, true, true, true, true, true, true, true, true, true, true, true, true, true, true, true, true, true, true, false] rfl rfl (any_of HT_.out (by kernel_rfl)) (fun _ _ _ h => h) (Or.inl ⟨by rfl, ?_⟩) ?_ ?_
    rotate_left
    · intro w'
      go_simp
      with_reducible rfl
    rotate_left
    · simp only [Act.put, List.setIfInBounds_toArray, List.set_cons_zero, List.set_cons_succ, i64_w, i32_w]
      rfl
    refine pure_ (i := 25) (N := some 0) (v := ?_) (a' := ?_) #[true, true, true, true, true, true, true, true, true, true, true, true, true, true, true, true, true, true, true, true, true, true, true, true, true, true] rfl rfl (any_of HT_.out (by kernel_rfl)) (fun _ _ _ h => h) (Or.inl ⟨by rfl, ?_⟩) ?_ ?_
    rotate_left
    · intro w'
      go_simp
      with_reducible rfl
    rotate_left
    · simp only [Act.put, List.setIfInBounds_toArray, List.set_cons_zero, List.set_cons_succ, i64_w, i32_w]
      rfl
    refine done_ (done_of HT_.out (by kernel_rfl)) ?_
    try go_wp2
    go_ret
    exact ⟨rfl, HB.out⟩
  · skip
    refine goes_ Try.func19 (by kernel_rfl) rfl #[.int .u8 120] (by rfl) rfl rfl (by (try simp only [List.map_toArray, List.map_cons, List.map_nil]); first | done | rfl | (simp only [List.length_drop, List.length_take]; rfl)) ?_
    refine (catamaranlaw05_of.calls 50 120 (of32 120) Wc1 two_of120).mono ?_
    rintro e Wc10 ⟨v1, rfl, ho, hA⟩
    obtain ⟨X, x, e1⟩ := Kd.R_slice ho
    subst e1
    have HX := Aside0.mk ho
    clear ho
    refine ⟨_, rfl, ?_⟩
    replace HB := Aside0.mk (below_step HB.out hA)
    replace HD := Aside0.mk (below_step HD.out hA)
    clear hA hHeld
    refine hK.out _ _ (by exact HSS.out _ HD.out) (fun hHeld => ?_)
    clear hK K
    refine norm_ (a' := ?_) ?_ ?_
    rotate_left
    · show Act.put _ (some 28) _ = _
      simp only [Act.put, List.setIfInBounds_toArray, List.set_cons_zero, List.set_cons_succ, i64_w, i32_w]
      rfl
    refine one_ (i := 13) (N := some 27) #[true, true, true, true, true, true, true, true, true, true, true, true, true, true, true, false, false, false, false, false, false, false, false, false, false, false] rfl rfl (one_of HT_.out (by kernel_rfl)) (by decide) (fun K hK => ?_)
    refine value_ (w1 := ?_) (v := ?_) (by rfl) rfl ?_ ?_
    rotate_left 2
    · go_simp
      constructor
      · rfl
      · rfl
    have hA := below_alloc (Below.refl Wc10.heap.size Wc10) (.cells #[.int .u8 1] 5)
    have HLg1 := Aside0.mk (heap_alloc_new Wc10 (.cells #[.int .u8 1] 5))
    replace HB := Aside0.mk (below_step HB.out hA)
    replace HX := Aside0.mk (Kd.R_below HX.out hA)
    replace HD := Aside0.mk (below_step HD.out hA)
    clear hA hHeld
    generalize Wc10.alloc (.cells #[.int .u8 1] 5) = Wa11 at HD HB HX HLg1 ⊢
    generalize Wc10.heap.size = g1 at HLg1 ⊢
    refine hK.out _ _ (by exact HSS.out _ HD.out) (fun hHeld => ?_)
    clear hK K
    refine norm_ (a' := ?_) ?_ ?_
    rotate_left
    · show Act.put _ (some 27) _ = _
      simp only [Act.put, List.setIfInBounds_toArray, List.set_cons_zero, List.set_cons_succ, i64_w, i32_w]
      rfl
    refine one_ (i := 15) (N := some 29) #[true, true, true, true, true, true, true, true, true, true, true, true, true, true, true, true, false, false, false, false, false, false, false, false, false, false] rfl rfl (one_of HT_.out (by kernel_rfl)) (by decide) (fun K hK => ?_)
    refine goes_ Try.func22 (by kernel_rfl) rfl #[.slice (some ⟨g1, 0, none⟩) 1 1, .slice X (of32 120).length x] (by rfl) rfl rfl (by (try simp only [List.map_toArray, List.map_cons, List.map_nil]); first | done | rfl | (simp only [List.length_drop, List.length_take]; rfl)) ?_
    refine (hLeaves.calls (some ⟨g1, 0, none⟩) 1 [1] X x (of32 120) Wa11 (lit_C [1] (by simp) HLg1.out) (Nat.le_refl _) (Kd.R_reads' HX.out).2.2 (Kd.R_reads' HX.out).2.1 (.inl leaf1)).mono ?_
    rintro e Wc12 ⟨rfl, hA⟩
    refine ⟨_, rfl, ?_⟩
    replace HB := Aside0.mk (below_step HB.out hA)
    replace HX := Aside0.mk (Kd.R_below HX.out hA)
    replace HLg1 := Aside0.mk (blk_below HLg1.out hA)
    replace HD := Aside0.mk (below_step HD.out hA)
    clear hA hHeld
    clear HX
    clear HLg1
    refine hK.out _ _ (by exact HSS.out _ HD.out) (fun hHeld => ?_)
    clear hK K
    refine norm_ (a' := ?_) ?_ ?_
    rotate_left
    · show Act.put _ (some 29) _ = _
      simp only [Act.put, List.setIfInBounds_toArray, List.set_cons_zero, List.set_cons_succ, i64_w, i32_w]
      rfl
    refine pure_ (i := 16) (N := some 30) (v := ?_) (a' := ?_) #[true, true, true, true, true, true, true, true, true, true, true, true, true, true, true, true, true, false, false, false, false, false, false, false, false, false] rfl rfl (any_of HT_.out (by kernel_rfl)) (fun _ _ _ h => h) (Or.inl ⟨by rfl, ?_⟩) ?_ ?_
    rotate_left
    · intro w'
      go_simp
      with_reducible rfl
    rotate_left
    · simp only [Act.put, List.setIfInBounds_toArray, List.set_cons_zero, List.set_cons_succ, i64_w, i32_w]
      rfl
    refine pure_ (i := 17) (N := some 31) (v := ?_) (a' := ?_) #[true, true, true, true, true, true, true, true, true, true, true, true, true, true, true, true, true, true, false, false, false, false, false, false, false, false] rfl rfl (any_of HT_.out (by kernel_rfl)) (fun _ _ _ h => h) (Or.inl ⟨by rfl, ?_⟩) ?_ ?_
    rotate_left
    · intro w'
      go_simp
      with_reducible rfl
    rotate_left
    · simp only [Act.put, List.setIfInBounds_toArray, List.set_cons_zero, List.set_cons_succ, i64_w, i32_w]
      rfl
    refine one_ (i := 18) (N := some 32) #[true, true, true, true, true, true, true, true, true, true, true, true, true, true, true, true, true, true, true, false, false, false, false, false, false, false] rfl rfl (one_of HT_.out (by kernel_rfl)) (by decide) (fun K hK => ?_)
    refine goes_ Try.func19 (by kernel_rfl) rfl #[.int .u8 0] (by rfl) rfl rfl (by (try simp only [List.map_toArray, List.map_cons, List.map_nil]); first | done | rfl | (simp only [List.length_drop, List.length_take]; rfl)) ?_
    refine (catamaranlaw05_of.calls 50 0 (of32 0) Wc12 two_of0).mono ?_
    rintro e Wc13 ⟨v1, rfl, ho, hA⟩
    obtain ⟨Z, z, e1⟩ := Kd.R_slice ho
    subst e1
    have HZ := Aside0.mk ho
    clear ho
    refine ⟨_, rfl, ?_⟩
    replace HB := Aside0.mk (below_step HB.out hA)
    replace HD := Aside0.mk (below_step HD.out hA)
    clear hA hHeld
    refine hK.out _ _ (by exact HSS.out _ HD.out) (fun hHeld => ?_)
    clear hK K
    refine norm_ (a' := ?_) ?_ ?_
    rotate_left
    · show Act.put _ (some 32) _ = _
      simp only [Act.put, List.setIfInBounds_toArray, List.set_cons_zero, List.set_cons_succ, i64_w, i32_w]
      rfl
    refine one_ (i := 19) (N := some 33) #[true, true, true, true, true, true, true, true, true, true, true, true, true, true, true, true, true, true, true, true, false, false, false, false, false, false] rfl rfl (one_of HT_.out (by kernel_rfl)) (by decide) (fun K hK => ?_)
    refine goes_ Try.func22 (by kernel_rfl) rfl #[.slice none 0 0, .slice Z (of32 0).length z] (by rfl) rfl rfl (by (try simp only [List.map_toArray, List.map_cons, List.map_nil]); first | done | rfl | (simp only [List.length_drop, List.length_take]; rfl)) ?_
    refine (hLeaves.calls none 0 [] Z z (of32 0) Wc13 (nil_C _) (Nat.le_refl _) (Kd.R_reads' HZ.out).2.2 (Kd.R_reads' HZ.out).2.1 (.inl leaf0)).mono ?_
    rintro e Wc14 ⟨rfl, hA⟩
    refine ⟨_, rfl, ?_⟩
    replace HB := Aside0.mk (below_step HB.out hA)
    replace HZ := Aside0.mk (Kd.R_below HZ.out hA)
    replace HD := Aside0.mk (below_step HD.out hA)
    clear hA hHeld
    clear HZ
    refine hK.out _ _ (by exact HSS.out _ HD.out) (fun hHeld => ?_)
    clear hK K
    refine norm_ (a' := ?_) ?_ ?_
    rotate_left
    · show Act.put _ (some 33) _ = _
      simp only [Act.put, List.setIfInBounds_toArray, List.set_cons_zero, List.set_cons_succ, i64_w, i32_w]
      rfl
    refine pure_ (i := 20) (N := some 34) (v := ?_) (a' := ?_) #[true, true, true, true, true, true, true, true, true, true, true, true, true, true, true, true, true, true, true, true, true, false, false, false, false, false] rfl rfl (any_of HT_.out (by kernel_rfl)) (fun _ _ _ h => h) (Or.inl ⟨by rfl, ?_⟩) ?_ ?_
    rotate_left
    · intro w'
      go_simp
      with_reducible rfl
    rotate_left
    · simp only [Act.put, List.setIfInBounds_toArray, List.set_cons_zero, List.set_cons_succ, i64_w, i32_w]
      rfl
    refine pure_ (i := 21) (N := some 35) (v := ?_) (a' := ?_) #[true, true, true, true, true, true, true, true, true, true, true, true, true, true, true, true, true, true, true, true, true, true, false, false, false, false] rfl rfl (any_of HT_.out (by kernel_rfl)) (fun _ _ _ h => h) (Or.inl ⟨by rfl, ?_⟩) ?_ ?_
    rotate_left
    · intro w'
      go_simp
      with_reducible rfl
    rotate_left
    · simp only [Act.put, List.setIfInBounds_toArray, List.set_cons_zero, List.set_cons_succ, i64_w, i32_w]
      rfl
    refine one_ (i := 22) (N := some 36) #[true, true, true, true, true, true, true, true, true, true, true, true, true, true, true, true, true, true, true, true, true, true, true, false, false, false] rfl rfl (one_of HT_.out (by kernel_rfl)) (by decide) (fun K hK => ?_)
    refine value_ (w1 := ?_) (v := ?_) (by rfl) rfl ?_ ?_
    rotate_left 2
    · go_simp
      constructor
      · rfl
      · rfl
    have hA := below_alloc (Below.refl Wc14.heap.size Wc14) (.cells #[.int .u8 1, .int .u8 2] 5)
    have HLg2 := Aside0.mk (heap_alloc_new Wc14 (.cells #[.int .u8 1, .int .u8 2] 5))
    replace HB := Aside0.mk (below_step HB.out hA)
    replace HD := Aside0.mk (below_step HD.out hA)
    clear hA hHeld
    generalize Wc14.alloc (.cells #[.int .u8 1, .int .u8 2] 5) = Wa15 at HD HB HLg2 ⊢
    generalize Wc14.heap.size = g2 at HLg2 ⊢
    refine hK.out _ _ (by exact HSS.out _ HD.out) (fun hHeld => ?_)
    clear hK K
    refine norm_ (a' := ?_) ?_ ?_
    rotate_left
    · show Act.put _ (some 36) _ = _
      simp only [Act.put, List.setIfInBounds_toArray, List.set_cons_zero, List.set_cons_succ, i64_w, i32_w]
      rfl
    refine one_ (i := 23) (N := some 37) #[true, true, true, true, true, true, true, true, true, true, true, true, true, true, true, true, true, true, true, true, true, true, true, true, false, false] rfl rfl (one_of HT_.out (by kernel_rfl)) (by decide) (fun K hK => ?_)
    refine goes_ Try.func22 (by kernel_rfl) rfl #[.slice (some ⟨g2, 0, none⟩) 2 2, .slice none 0 0] (by rfl) rfl rfl (by (try simp only [List.map_toArray, List.map_cons, List.map_nil]); first | done | rfl | (simp only [List.length_drop, List.length_take]; rfl)) ?_
    refine (hLeaves.calls (some ⟨g2, 0, none⟩) 2 [1, 2] none 0 [] Wa15 (lit_C [1, 2] (by simp) HLg2.out) (Nat.le_refl _) (nil_C _) (Nat.le_refl _) (.inr ⟨leaf12, rfl⟩)).mono ?_
    rintro e Wc16 ⟨rfl, hA⟩
    refine ⟨_, rfl, ?_⟩
    replace HB := Aside0.mk (below_step HB.out hA)
    replace HLg2 := Aside0.mk (blk_below HLg2.out hA)
    replace HD := Aside0.mk (below_step HD.out hA)
    clear hA hHeld
    clear HLg2
    refine hK.out _ _ (by exact HSS.out _ HD.out) (fun hHeld => ?_)
    clear hK K
    refine norm_ (a' := ?_) ?_ ?_
    rotate_left
    · show Act.put _ (some 37) _ = _
      simp only [Act.put, List.setIfInBounds_toArray, List.set_cons_zero, List.set_cons_succ, i64_w, i32_w]
      rfl
    refine pure_ (i := 24) (N := some 38) (v := ?_) (a' := ?_) #[true, true, true, true, true, true, true, true, true, true, true, true, true, true, true, true, true, true, true, true, true, true, true, true, true, false] rfl rfl (any_of HT_.out (by kernel_rfl)) (fun _ _ _ h => h) (Or.inl ⟨by rfl, ?_⟩) ?_ ?_
    rotate_left
    · intro w'
      go_simp
      with_reducible rfl
    rotate_left
    · simp only [Act.put, List.setIfInBounds_toArray, List.set_cons_zero, List.set_cons_succ, i64_w, i32_w]
      rfl
    refine pure_ (i := 25) (N := some 0) (v := ?_) (a' := ?_) #[true, true, true, true, true, true, true, true, true, true, true, true, true, true, true, true, true, true, true, true, true, true, true, true, true, true] rfl rfl (any_of HT_.out (by kernel_rfl)) (fun _ _ _ h => h) (Or.inl ⟨by rfl, ?_⟩) ?_ ?_
    rotate_left
    · intro w'
      go_simp
      with_reducible rfl
    rotate_left
    · simp only [Act.put, List.setIfInBounds_toArray, List.set_cons_zero, List.set_cons_succ, i64_w, i32_w]
      rfl
    refine done_ (done_of HT_.out (by kernel_rfl)) ?_
    try go_wp2
    go_ret
    exact ⟨rfl, HB.out⟩
end Go.Proofs.Ytdkjhcdniepbhaa.P
end
section
set_option linter.unusedVariables false
set_option linter.unusedSimpArgs false
namespace Go.Proofs.Ytdkjhcdniepbhaa.P
open Go.RowKit Go.Proofs.PrintWords Go.Proofs.PrintLast Go.Proofs.PrintMore
attribute [local go_sem] max2_int min2_int max_two min_two max_three min_three max_four min_four
def dk (k : Nat) : List S49 := two2 ++ List.replicate k ⟨0, of32 122⟩
theorem dk_length (k : Nat) : (dk k).length = k + 2 := by
  unfold dk
  rw [List.length_append, List.length_replicate]
  show 2 + k = k + 2
  omega
theorem dk_succ (k : Nat) : dk (k + 1) = dk k ++ [⟨0, of32 122⟩] := by
  unfold dk
  rw [List.replicate_succ', List.append_assoc]
theorem dk_ok : ∀ k, k ≤ 62 → okDisk twoS (dk k) = true
  | 0, _ => by
    show okDisk twoS (two2 ++ []) = true
    rw [List.append_nil]
    exact two_ok
  | k + 1, h => by
    rw [dk_succ]
    exact okDisk_snoc (dk_ok k (by omega)) (by decide) (by decide) (by rfl) (by rw [dk_length]; omega)
theorem dk_write (k : Nat) (h : k < 62) : hWrite.f twoS (dk k) 0 (of32 122) = some (twoS, dk (k + 1), 0) := by
  unfold hWrite.f dWrite
  rw [if_pos (dAsked_zero (dk_ok k (by omega)) (by decide) (by decide)), if_pos (by rfl), if_neg (by rw [dk_length]; omega), ← dk_succ]
theorem dk_full : hWrite.f twoS (dk 62) 0 (of32 122) = some ([], [], 9) := by
  unfold hWrite.f dWrite
  rw [if_pos (dAsked_zero (dk_ok 62 (by omega)) (by decide) (by decide)), if_pos (by rfl), if_pos (by rw [dk_length])]
theorem nm_new0 : hNew.f 0 = some ([], [], 2) := by kernel_rfl
theorem nm_new1 : hNew.f 1025 = some ([], [], 2) := by kernel_rfl
theorem nm_read : hRead.f twoS two2 2 = some ([], 2) := by kernel_rfl
theorem nm_short : hWrite.f twoS two2 0 (List.replicate 31 122) = some ([], [], 2) := by kernel_rfl
theorem nm_waits0 : hWaits.f twoS two2 0 = some (false, 0) := by kernel_rfl
theorem nm_waits1 : hWaits.f twoS two2 1 = some (true, 0) := by kernel_rfl
theorem nm_wrong : hCheck.f [⟨of32 122, true⟩] [] = some 8 := by kernel_rfl
theorem nm_none : hCheck.f [] [] = some 8 := by kernel_rfl
theorem leaf21 : leaf [2, 1] = (of32 121, 0) := by kernel_rfl
theorem leaf43 : leaf [4, 3] = (of32 120, 0) := by kernel_rfl
end Go.Proofs.Ytdkjhcdniepbhaa.P
end
section
set_option linter.unusedVariables false
set_option linter.unusedSimpArgs false
namespace Go.Proofs.Ytdkjhcdniepbhaa.P
open Go.RowKit Go.Proofs.PrintWords Go.Proofs.PrintLast Go.Proofs.PrintMore
attribute [local go_sem] max2_int min2_int max_two min_two max_three min_three max_four min_four
theorem wrap_small {a : Int} (h0 : 0 ≤ a) (h1 : a < 9223372036854775808) : wrap64 a = a := by unfold wrap64; omega
theorem wrap_sucK {n k : Nat} (h : k < n) (hn : n ≤ 1000000) : wrap64 ((k : Int) + 1) = (k : Int) + 1 := wrap_small (by omega) (by omega)
theorem meas_lt {n k : Nat} (h : k < n) : n - (intOf (.int .i64 ((k : Int) + 1))).toNat < n - (intOf (.int .i64 (k : Int))).toNat := by simp [intOf]; omega
end Go.Proofs.Ytdkjhcdniepbhaa.P
end
