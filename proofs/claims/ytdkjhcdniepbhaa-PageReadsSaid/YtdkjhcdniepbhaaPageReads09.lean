/- Part 9 of the proof: PageReads: for every config, disk and pair the program's marks of the pair, or its error, are the document's, the disk stays, and what is answered is new memory; no condition. -/
import Derived.RangeFuncNested
import Derived.RangeFuncBox
import Derived.RangeFuncLeaves
import Derived.Shelf.Abstract
import Derived.OwnWalkIn
import Derived.TacticsInMore
import Derived.LoopNIn
import Derived.LoopIn
import Derived.Test.YtdkjhcdniepbhaaPageReads08
section
set_option linter.unusedVariables false
set_option linter.unusedSimpArgs false
namespace Go.Proofs.Ytdkjhcdniepbhaa.P
open Go.RowKit Go.Proofs.PrintWords Go.Proofs.PrintLast Go.Proofs.PrintMore
attribute [local go_sem] max2_int min2_int max_two min_two max_three min_three max_four min_four
open Go.Shelf
theorem blk_own {β : Type} (g : Nat) (t : TypeId) (cs : Array Value) : Own (fun (_ : β) W => W.heap[g]? = some (.cells cs t (0, 0))) := fun _ X _ row hs hg hrow =>
  (hg.block g (blk_lt hs) (fun e => by obtain ⟨o, ho, hc⟩ := hrow g e.symm; rw [hs] at ho; cases ho; cases hc)).trans hs
def down (n k : Nat) : List Nat := (List.range k).map fun j => n - 1 - j
theorem down_succ (n k : Nat) : down n (k + 1) = down n k ++ [n - 1 - k] := by simp [down, List.range_succ]
theorem down_length (n k : Nat) : (down n k).length = k := by simp [down]
theorem mem_down {n k j : Nat} (h : j < n) (hk : n - 1 - j < k) : j ∈ down n k := by
  unfold down
  exact List.mem_map.2 ⟨n - 1 - j, List.mem_range.2 hk, by omega⟩
attribute [local go_sem] Oper.semAt_some
set_option maxRecDepth 100000 in
set_option maxHeartbeats 2000000 in
theorem hBack.in1 (F : Fence) (n : Nat) (h7 : F.fn 126) (hro : F.round = none) (hn : 1 ≤ n) (l Bs n₀ : Nat) (A : Option Addr) (len cap : Nat) (u0 u1 : Nat → Value) (hm : len ≤ 9223372036854775807) (J Jx : List Nat → World → Prop)
    (hY : ∀ pre (x : Nat) W, J pre W → pre.length < len → YieldAt F (n - 1) Try.prog l #[.int .i64 (x : Int), .agg #[u0 x, u1 x]] W fun e W' =>
      (e = .returned (.bool true) ∧ J (pre ++ [x]) W' ∧ Below n₀ W W') ∨ (e = .returned (.bool false) ∧ Jx (pre ++ [x]) W'))
    (W : World) (hB : Bs < n₀) (hBs : W.cell? ⟨Bs, 0, none⟩ = some (.slice A len cap))
    (hA : 0 < len → ∃ ad, A = some ad ∧ ad.block < n₀ ∧ ∀ j, j < len → W.cell? (ad.add (j * 2)) = some (u0 j) ∧ W.cell? ⟨(ad.add (j * 2)).block, (ad.add (j * 2)).off + 1, none⟩ = some (u1 j)) (h0 : J [] W) :
    CallsIn F n Try.prog 126 #[.func (.yield l) #[] #[], .pointer (some ⟨Bs, 0, none⟩)] W fun e W' => (∃ v, e = .returned v) ∧
      ((∃ ys, ys = down len len ∧ J ys W') ∨ (∃ pre, (∃ k, k ≤ len ∧ pre = down len k) ∧ Jx pre W')) := by
  refine callsIn_of_wp Try.func126 rfl h7 ?_ hro
  simp only [Try.ntmps126, List.size_toArray, List.length_cons, List.length_nil, Nat.reduceAdd, Nat.reduceSub, Array.replicate_succ, Array.replicate_zero, List.push_toArray, List.append_toArray, List.nil_append, List.cons_append]
  gi_wp2
  gi_loopw [3] (fun i wr => ∃ m : Nat, m ≤ len ∧ i = .int .i64 ((m : Int) - 1) ∧ Aside0 (J (down len (len - m)) wr) ∧ Aside0 (Below n₀ W wr))
    (fun i _ => (intOf i + 1).toNat)
  case atStart => exact ⟨len, Nat.le_refl _, by go_num, ⟨by rw [Nat.sub_self]; exact h0⟩, ⟨Below.refl _ _⟩⟩
  case round =>
    obtain ⟨m, hk, rfl, HJ, HX⟩ := hrel
    have hb0 := (HX.out.cell (p := ⟨Bs, 0, none⟩) hB).trans hBs
    cases m with
    | zero =>
      rw [show (((0 : Nat) : Int) - 1) = -1 from rfl]
      gi_wp2
      go_end0
      exact ⟨⟨_, rfl⟩, .inl ⟨_, rfl, HJ.out⟩⟩
    | succ m =>
      rw [show (((m + 1 : Nat) : Int) - 1) = (m : Int) from by omega]
      obtain ⟨ad, rfl, had, hcs⟩ := hA (by omega)
      have hc0 := (HX.out.cell (p := ad.add (m * 2)) (by rw [add_block_]; exact had)).trans (hcs m (by omega)).1
      have hc1 := (HX.out.cell (p := ⟨(ad.add (m * 2)).block, (ad.add (m * 2)).off + 1, none⟩) (by show (ad.add (m * 2)).block < n₀; rw [add_block_]; exact had)).trans (hcs m (by omega)).2
      have hlen : (down len (len - (m + 1))).length < len := by rw [down_length]; omega
      have hnx : down len (len - (m + 1)) ++ [m] = down len (len - m) := by
        rw [show len - m = (len - (m + 1)) + 1 from by omega, down_succ, show len - 1 - (len - (m + 1)) = m from by omega]
      obtain ⟨fn, tmps, assign, body, hy, hR⟩ := hY _ m wr HJ.out hlen
      have HNX := Aside0.mk hnx
      have HCS := Aside0.mk hcs
      clear hnx hcs hlen
      gi_wp2
      refine hR.mono ?_
      rintro e W3 (⟨rfl, hJ3, hk3⟩ | ⟨rfl, hJx3⟩)
      · have HJ3 := Aside0.mk hJ3
        have HX3 := Aside0.mk (HX.out.trans hk3)
        clear hJ3 hk3
        gi_wp2
        go_roundw
        case rel => exact ⟨m, by omega, by go_num, ⟨by rw [← HNX.out]; exact HJ3.out⟩, HX3⟩
        case measure => simp [intOf]
      · have HJ3 := Aside0.mk hJx3
        clear hJx3
        gi_wp2
        refine bodyPost_ret (results_none rfl _ _ _) rfl ?_
        exact ⟨⟨_, rfl⟩, .inr ⟨_, ⟨len - m, by omega, HNX.out⟩, HJ3.out⟩⟩
theorem hBack.mk (F : Fence) (n : Nat) (h5 : F.fn 93) (hro : F.round = none) (a : Option Addr) (len cap : Nat) (w : World) :
    CallsIn F n Try.prog 93 #[.slice a len cap] w fun e w' => e = .returned (.func (.func 126) #[] #[.pointer (some ⟨w.heap.size, 0, none⟩)]) ∧ w' = w.alloc (.cells #[.slice a len cap] 23) := by
  refine callsIn_of_wp Try.func93 rfl h5 ?_ hro
  simp only [Try.ntmps93, List.size_toArray, List.length_cons, List.length_nil, Nat.reduceAdd, Nat.reduceSub, Array.replicate_succ, Array.replicate_zero, List.push_toArray, List.append_toArray, List.nil_append, List.cons_append]
  gi_wp2
  go_ret
  exact ⟨rfl, rfl⟩
theorem hBack.stops (F : Fence) (n : Nat) (h7 : F.fn 126) (hro : F.round = none) (hn : 1 ≤ n) (Bs n₀ : Nat) (A : Option Addr) (len cap : Nat) (u0 u1 : Nat → Value) (hm : len ≤ 9223372036854775807) (w : World) (hB : Bs < n₀) (hn₀ : n₀ ≤ w.heap.size)
    (hBs : w.cell? ⟨Bs, 0, none⟩ = some (.slice A len cap))
    (hA : 0 < len → ∃ ad, A = some ad ∧ ad.block < n₀ ∧ ∀ j, j < len → w.cell? (ad.add (j * 2)) = some (u0 j) ∧ w.cell? ⟨(ad.add (j * 2)).block, (ad.add (j * 2)).off + 1, none⟩ = some (u1 j)) :
    SeqStopsK F n Try.prog 126 #[.pointer (some ⟨Bs, 0, none⟩)] (fun x : Nat => #[Value.int .i64 (x : Int), .agg #[u0 x, u1 x]]) (Below n₀) (fun ys => ys = down len len) (fun pre => ∃ k, k ≤ len ∧ pre = down len k) len w := fun l J Jx W hW _ _ hY h0 => by
  have hW' := hW.mono hn₀
  refine hBack.in1 F n h7 hro hn l Bs n₀ A len cap u0 u1 hm J Jx hY W hB ((hW'.cell (p := ⟨Bs, 0, none⟩) hB).trans hBs) (fun h => ?_) h0
  obtain ⟨ad, e, hb, hc⟩ := hA h
  exact ⟨ad, e, hb, fun j hj => ⟨(hW'.cell (p := ad.add (j * 2)) (by rw [add_block_]; exact hb)).trans (hc j hj).1, (hW'.cell (p := ⟨(ad.add (j * 2)).block, (ad.add (j * 2)).off + 1, none⟩) (by show (ad.add (j * 2)).block < n₀; rw [add_block_]; exact hb)).trans (hc j hj).2⟩⟩
set_option maxRecDepth 100000 in
set_option maxHeartbeats 4000000 in
theorem hLast.in_ (F : Fence) (n : Nat) (h3 : F.fn 58) (h5 : F.fn 93) (h7 : F.fn 126) (hro : F.round = none) (hn : 3 ≤ n) (A0 : Option Addr) (n0 c0 : Nat) (A : Option Addr) (len cap : Nat) (at_ : Int) (u0 : Nat → Int) (ua : Nat → Option Addr) (um uc : Nat → Nat) (hm : len ≤ 9223372036854775807) (w : World)
    (hA : 0 < len → ∃ ad, A = some ad ∧ ad.block < w.heap.size ∧ ∀ j, j < len → w.cell? (ad.add (j * 2)) = some (.int .i64 (u0 j)) ∧ w.cell? ⟨(ad.add (j * 2)).block, (ad.add (j * 2)).off + 1, none⟩ = some (.slice (ua j) (um j) (uc j))) :
    CallsIn F n Try.prog 58 #[.agg #[.slice A0 n0 c0, .slice A len cap], .int .i64 at_] w fun e W' => Below w.heap.size w W' ∧
      ((e = .returned (.tuple #[.agg #[.int .i64 0, .slice none 0 0], .bool false]) ∧ ∀ j, j < len → u0 j ≠ at_) ∨
        ∃ m, m < len ∧ u0 m = at_ ∧ (∀ j, m < j → j < len → u0 j ≠ at_) ∧ e = .returned (.tuple #[.agg #[.int .i64 (u0 m), .slice (ua m) (um m) (uc m)], .bool true])) := by
  have h1 : 1 ≤ n := by omega
  have hu25 := Try.underlying25
  have hu65 := Try.underlying49
  refine callsIn_of_wp_marks Try.func58 rfl h3 ?_ hro
  simp only [Try.ntmps58, List.size_toArray, List.length_cons, List.length_nil, Nat.reduceAdd, Nat.reduceSub, Array.replicate_succ, Array.replicate_zero, List.push_toArray, List.append_toArray, List.nil_append, List.cons_append]
  gi_wp2_with (gi_at_call 93; refine (hBack.mk F (n - 1) h5 hro _ _ _ _).mono ?_; rintro e w' ⟨rfl, rfl⟩)
  have b1 : ((((((w.alloc (.cells #[.slice A0 n0 c0, .slice A len cap] 25)).alloc (.cells #[.int .i64 at_] 3)).alloc (.cells #[.int .i64 0, .slice none 0 0] 49)).alloc (.cells #[.bool false] 4)).alloc (.cells #[.slice A len cap] 23))).heap[w.heap.size + 1]? = some (.cells #[.int .i64 at_] 3 (0, 0)) := by
    refine blk_alloc (blk_alloc (blk_alloc ?_ _) _) _
    have := heap_alloc_new (w.alloc (.cells #[.slice A0 n0 c0, .slice A len cap] 25)) (.cells #[.int .i64 at_] 3)
    rwa [World.size_alloc] at this
  have b2 : ((((((w.alloc (.cells #[.slice A0 n0 c0, .slice A len cap] 25)).alloc (.cells #[.int .i64 at_] 3)).alloc (.cells #[.int .i64 0, .slice none 0 0] 49)).alloc (.cells #[.bool false] 4)).alloc (.cells #[.slice A len cap] 23))).heap[w.heap.size + 1 + 1]? = some (.cells #[.int .i64 0, .slice none 0 0] 49 (0, 0)) := by
    refine blk_alloc (blk_alloc ?_ _) _
    have := heap_alloc_new ((w.alloc (.cells #[.slice A0 n0 c0, .slice A len cap] 25)).alloc (.cells #[.int .i64 at_] 3)) (.cells #[.int .i64 0, .slice none 0 0] 49)
    rwa [World.size_alloc, World.size_alloc] at this
  have b3 : ((((((w.alloc (.cells #[.slice A0 n0 c0, .slice A len cap] 25)).alloc (.cells #[.int .i64 at_] 3)).alloc (.cells #[.int .i64 0, .slice none 0 0] 49)).alloc (.cells #[.bool false] 4)).alloc (.cells #[.slice A len cap] 23))).heap[w.heap.size + 1 + 1 + 1]? = some (.cells #[.bool false] 4 (0, 0)) := by
    refine blk_alloc ?_ _
    have := heap_alloc_new (((w.alloc (.cells #[.slice A0 n0 c0, .slice A len cap] 25)).alloc (.cells #[.int .i64 at_] 3)).alloc (.cells #[.int .i64 0, .slice none 0 0] 49)) (.cells #[.bool false] 4)
    rwa [World.size_alloc, World.size_alloc, World.size_alloc] at this
  have b4 : ((((((w.alloc (.cells #[.slice A0 n0 c0, .slice A len cap] 25)).alloc (.cells #[.int .i64 at_] 3)).alloc (.cells #[.int .i64 0, .slice none 0 0] 49)).alloc (.cells #[.bool false] 4)).alloc (.cells #[.slice A len cap] 23))).heap[w.heap.size + 1 + 1 + 1 + 1]? = some (.cells #[.slice A len cap] 23 (0, 0)) := by
    have := heap_alloc_new ((((w.alloc (.cells #[.slice A0 n0 c0, .slice A len cap] 25)).alloc (.cells #[.int .i64 at_] 3)).alloc (.cells #[.int .i64 0, .slice none 0 0] 49)).alloc (.cells #[.bool false] 4)) (.cells #[.slice A len cap] 23)
    rwa [World.size_alloc, World.size_alloc, World.size_alloc, World.size_alloc] at this
  have hB0 := below_alloc (below_alloc (below_alloc (below_alloc (below_alloc (Below.refl w.heap.size w) (.cells #[.slice A0 n0 c0, .slice A len cap] 25)) (.cells #[.int .i64 at_] 3)) (.cells #[.int .i64 0, .slice none 0 0] 49)) (.cells #[.bool false] 4)) (.cells #[.slice A len cap] 23)
  have hsz : ((((((w.alloc (.cells #[.slice A0 n0 c0, .slice A len cap] 25)).alloc (.cells #[.int .i64 at_] 3)).alloc (.cells #[.int .i64 0, .slice none 0 0] 49)).alloc (.cells #[.bool false] 4)).alloc (.cells #[.slice A len cap] 23))).heap.size = w.heap.size + 5 := by simp
  obtain ⟨W0, hW0⟩ : ∃ W0, (((((w.alloc (.cells #[.slice A0 n0 c0, .slice A len cap] 25)).alloc (.cells #[.int .i64 at_] 3)).alloc (.cells #[.int .i64 0, .slice none 0 0] 49)).alloc (.cells #[.bool false] 4)).alloc (.cells #[.slice A len cap] 23)) = W0 := ⟨_, rfl⟩
  rw [hW0] at b1 b2 b3 b4 hB0 hsz ⊢
  clear hW0
  have b4c : W0.cell? ⟨w.heap.size + 1 + 1 + 1 + 1, 0, none⟩ = some (.slice A len cap) := (blk_cell b4 0).trans rfl
  refine wpIn_rangeFunc_ownH hro h1 (gf := 126) (lb := #[.pointer (some ⟨w.heap.size + 1 + 1 + 1 + 1, 0, none⟩)]) rfl h7 (enters_of Try.func126 (by kernel_rfl) rfl)
    (hBack.stops F (n - 1) h7 hro (by omega) (w.heap.size + 1 + 1 + 1 + 1) (w.heap.size + 5) A len cap (fun j => .int .i64 (u0 j)) (fun j => .slice (ua j) (um j) (uc j)) hm W0 (by omega) (by omega) b4c (fun h => by
      obtain ⟨ad, e, hb, hc⟩ := hA h
      exact ⟨ad, e, by omega, fun j hj => ⟨(hB0.cell (p := ad.add (j * 2)) (by rw [add_block_]; exact hb)).trans (hc j hj).1, (hB0.cell (p := ⟨(ad.add (j * 2)).block, (ad.add (j * 2)).off + 1, none⟩) (by show (ad.add (j * 2)).block < w.heap.size; rw [add_block_]; exact hb)).trans (hc j hj).2⟩⟩))
    belowK_t (belowK_b (by omega)) (Below.refl _ _) (fun _ => rfl)
    (fun pre W => ((∀ j ∈ pre, u0 j ≠ at_) ∧ W.heap[w.heap.size + 1]? = some (.cells #[.int .i64 at_] 3 (0, 0)) ∧ W.heap[w.heap.size + 1 + 1]? = some (.cells #[.int .i64 0, .slice none 0 0] 49 (0, 0)) ∧ W.heap[w.heap.size + 1 + 1 + 1]? = some (.cells #[.bool false] 4 (0, 0)) ∧ w.heap.size + 5 ≤ W.heap.size) ∧ Below w.heap.size w W)
    (fun c pre W => (c = .ret ∧ ∃ ini m, pre = ini ++ [m] ∧ (∀ j ∈ ini, u0 j ≠ at_) ∧ u0 m = at_ ∧ W.heap[w.heap.size + 1 + 1]? = some (.cells #[.int .i64 (u0 m), .slice (ua m) (um m) (uc m)] 49 (0, 0)) ∧ W.heap[w.heap.size + 1 + 1 + 1]? = some (.cells #[.bool true] 4 (0, 0))) ∧ Below w.heap.size w W)
    (OwnFrom.and (Own.from (fun s X Y row hs hg hr => ⟨hs.1, blk_own _ _ _ () X Y row hs.2.1 hg hr, blk_own _ _ _ () X Y row hs.2.2.1 hg hr, blk_own _ _ _ () X Y row hs.2.2.2.1 hg hr, Nat.le_trans hs.2.2.2.2 hg.size⟩) _) (ownFrom_below (Nat.le_refl _) (by omega)))
    (fun c => OwnFrom.and (Own.from (fun s X Y row hs hg hr => by obtain ⟨hc, ini, m, e1, e2, e3, e4, e5⟩ := hs; exact ⟨hc, ini, m, e1, e2, e3, blk_own _ _ _ () X Y row e4 hg hr, blk_own _ _ _ () X Y row e5 hg hr⟩) _) (ownFrom_below (Nat.le_refl _) (by omega)))
    ⟨⟨by simp, b1, b2, b3, by omega⟩, hB0⟩
    (fun x a' W => ∃ Bx, w.heap.size + 5 ≤ Bx ∧ W.heap[Bx]? = some (.cells #[.int .i64 (u0 x), .slice (ua x) (um x) (uc x)] 49 (0, 0)) ∧ a' = { tmps := #[.agg #[.slice A0 n0 c0, .slice A len cap], .int .i64 at_, .pointer (some ⟨w.heap.size, 0, none⟩), .pointer (some ⟨w.heap.size + 1, 0, none⟩), .pointer (some ⟨w.heap.size + 1 + 1, 0, none⟩), .pointer (some ⟨w.heap.size + 1 + 1 + 1, 0, none⟩), undef, .pointer (some ⟨Bx, 0, none⟩), .pointer (some ⟨w.heap.size, 1, none⟩), .slice A len cap, .func (.func 126) #[] #[.pointer (some ⟨w.heap.size + 1 + 1 + 1 + 1, 0, none⟩)], .int .i64 (x : Int), .agg #[.int .i64 (u0 x), .slice (ua x) (um x) (uc x)], undef, undef, undef, undef, undef, undef], defers := [] })
    (fun x a' => Own.from (fun s X Y row hs hg hr => by obtain ⟨Bx, h1, h2, h3⟩ := hs; exact ⟨Bx, h1, blk_own _ _ _ () X Y row h2 hg hr, h3⟩) _)
    ?assign ?body ?done ?stop
  case assign =>
    rintro l pre x W K ⟨⟨i1, i2, i3, i4, i5⟩, iB⟩ hK
    have HK := Aside0.mk hK
    clear hK
    gi_wp2
    exact HK.out _ _ ((KeepsOthers.alloc _ _).from _) ((Below.refl _ W).alloc i5 _) ⟨⟨i1, blk_alloc i2 _, blk_alloc i3 _, blk_alloc i4 _, by simp; omega⟩, iB.alloc (by omega) _⟩ ⟨W.heap.size, i5, heap_alloc_new W _, rfl⟩
  case body =>
    rintro l pre x a' W hl ⟨r, hr⟩ ⟨⟨i1, i2, i3, i4, i5⟩, iB⟩ ⟨Bx, hBx, bX, rfl⟩ hlt
    have I1 := Aside0.mk i1
    have I2 := Aside0.mk i2
    have I3 := Aside0.mk i3
    have I4 := Aside0.mk i4
    have IB := Aside0.mk iB
    have BX := Aside0.mk bX
    clear i1 i2 i3 i4 iB bX hr
    have c0 : W.cell? ⟨Bx, 0, none⟩ = some (.int .i64 (u0 x)) := (blk_cell BX.out 0).trans rfl
    have c1 : W.cell? ⟨Bx, 1, none⟩ = some (.slice (ua x) (um x) (uc x)) := (blk_cell BX.out 1).trans rfl
    have c2 : W.cell? ⟨w.heap.size + 1, 0, none⟩ = some (.int .i64 at_) := (blk_cell I2.out 0).trans rfl
    by_cases hx : u0 x = at_
    · have hb : (u0 x == at_) = true := by simpa using hx
      have HX := Aside0.mk hx
      clear hx
      have d0 : W.cell? ⟨w.heap.size + 1 + 1, 0, none⟩ = some (.int .i64 0) := (blk_cell I3.out 0).trans rfl
      have d1 : W.cell? ⟨w.heap.size + 1 + 1, 1, none⟩ = some (.slice none 0 0) := (blk_cell I3.out 1).trans rfl
      have f0 := blk_frozen I3.out 0
      have f1 := blk_frozen I3.out 1
      have d2 : W.cell? ⟨w.heap.size + 1 + 1 + 1, 0, none⟩ = some (.bool false) := (blk_cell I4.out 0).trans rfl
      have f2 := blk_frozen I4.out 0
      gi_wp2
      refine ⟨(((KeepsOthers.setCell _ _ _).trans (KeepsOthers.setCell _ _ _)).trans (KeepsOthers.setCell _ _ _)).from _, ⟨rfl, pre, x, rfl, I1.out, HX.out, ?_, ?_⟩, ((IB.out.setCell (by simp; omega) _).setCell (by simp; omega) _).setCell (by simp; omega) _⟩
      · refine blk_far ?_ (by simp) _
        simpa using blk_set (blk_set I3.out 0 (.int .i64 (u0 x))) 1 (.slice (ua x) (um x) (uc x))
      · simpa using blk_set (blk_far (blk_far I4.out (p := ⟨w.heap.size + 1 + 1, 0, none⟩) (by simp) (.int .i64 (u0 x))) (p := ⟨w.heap.size + 1 + 1, 1, none⟩) (by simp) (.slice (ua x) (um x) (uc x))) 0 (.bool true)
    · have hb : (u0 x == at_) = false := by simpa using hx
      have HX := Aside0.mk hx
      clear hx
      gi_wp2
      exact ⟨KeepsFrom.refl _ _, Below.refl _ _, ⟨⟨fun j hj => (List.mem_append.1 hj).elim (I1.out j) (fun e => by simp at e; subst e; exact HX.out), I2.out, I3.out, I4.out, i5⟩, IB.out⟩⟩
  case done =>
    rintro D ys W hD rfl ⟨⟨i1, i2, i3, i4, i5⟩, iB⟩ hK
    have I1 := Aside0.mk i1
    have I3 := Aside0.mk i3
    have I4 := Aside0.mk i4
    have IB := Aside0.mk iB
    have HK := Aside0.mk hK
    clear i1 i2 i3 i4 iB hK
    have d0 : W.cell? ⟨w.heap.size + 1 + 1, 0, none⟩ = some (.int .i64 0) := (blk_cell I3.out 0).trans rfl
    have d1 : W.cell? ⟨w.heap.size + 1 + 1, 1, none⟩ = some (.slice none 0 0) := (blk_cell I3.out 1).trans rfl
    have f0 := blk_frozen I3.out 0
    have f1 := blk_frozen I3.out 1
    have d2 : W.cell? ⟨w.heap.size + 1 + 1 + 1, 0, none⟩ = some (.bool false) := (blk_cell I4.out 0).trans rfl
    have f2 := blk_frozen I4.out 0
    gi_wp2
    have B2 : (((W.setCell ⟨w.heap.size + 1 + 1, 0, none⟩ (.int .i64 0)).setCell ⟨w.heap.size + 1 + 1, 1, none⟩ (.slice none 0 0)).setCell ⟨w.heap.size + 1 + 1 + 1, 0, none⟩ (.bool false)).heap[w.heap.size + 1 + 1]? = some (.cells #[.int .i64 0, .slice none 0 0] 49 (0, 0)) := by
      refine blk_far ?_ (by simp) _
      simpa using blk_set (blk_set I3.out 0 (.int .i64 0)) 1 (.slice none 0 0)
    have B3 : (((W.setCell ⟨w.heap.size + 1 + 1, 0, none⟩ (.int .i64 0)).setCell ⟨w.heap.size + 1 + 1, 1, none⟩ (.slice none 0 0)).setCell ⟨w.heap.size + 1 + 1 + 1, 0, none⟩ (.bool false)).heap[w.heap.size + 1 + 1 + 1]? = some (.cells #[.bool false] 4 (0, 0)) := by
      simpa using blk_set (blk_far (blk_far I4.out (p := ⟨w.heap.size + 1 + 1, 0, none⟩) (by simp) (.int .i64 0)) (p := ⟨w.heap.size + 1 + 1, 1, none⟩) (by simp) (.slice none 0 0)) 0 (.bool false)
    have HBW : Below w.heap.size w (((W.setCell ⟨w.heap.size + 1 + 1, 0, none⟩ (.int .i64 0)).setCell ⟨w.heap.size + 1 + 1, 1, none⟩ (.slice none 0 0)).setCell ⟨w.heap.size + 1 + 1 + 1, 0, none⟩ (.bool false)) := ((IB.out.setCell (by simp; omega) _).setCell (by simp; omega) _).setCell (by simp; omega) _
    have hK' := (((KeepsOthers.setCell W ⟨w.heap.size + 1 + 1, 0, none⟩ (.int .i64 0)).trans (KeepsOthers.setCell _ ⟨w.heap.size + 1 + 1, 1, none⟩ (.slice none 0 0))).trans (KeepsOthers.setCell _ ⟨w.heap.size + 1 + 1 + 1, 0, none⟩ (.bool false))).same D _ HK.out rfl
    generalize (((W.setCell ⟨w.heap.size + 1 + 1, 0, none⟩ (.int .i64 0)).setCell ⟨w.heap.size + 1 + 1, 1, none⟩ (.slice none 0 0)).setCell ⟨w.heap.size + 1 + 1 + 1, 0, none⟩ (.bool false)) = W3 at B2 B3 HBW hK' ⊢
    have C2 := blk_own _ _ _ () W3 (W3.putObj D (.deferred none)) (some D) B2 (grownBy_putObj' W3 D (.deferred none)) (fun r e => by cases e; exact ⟨_, hK', rfl⟩)
    have C3 := blk_own _ _ _ () W3 (W3.putObj D (.deferred none)) (some D) B3 (grownBy_putObj' W3 D (.deferred none)) (fun r e => by cases e; exact ⟨_, hK', rfl⟩)
    have z0 : (W3.putObj D (.deferred none)).cell? ⟨w.heap.size + 1 + 1, 0, none⟩ = some (.int .i64 0) := (blk_cell C2 0).trans rfl
    have z1 : (W3.putObj D (.deferred none)).cell? ⟨w.heap.size + 1 + 1, 1, none⟩ = some (.slice none 0 0) := (blk_cell C2 1).trans rfl
    have z2 : (W3.putObj D (.deferred none)).cell? ⟨w.heap.size + 1 + 1 + 1, 0, none⟩ = some (.bool false) := (blk_cell C3 0).trans rfl
    refine ⟨by simp, .inl ⟨_, _, rfl, run_takeDeferred hK', ?_⟩⟩
    refine ⟨.tuple #[.agg #[.int .i64 0, .slice none 0 0], .bool false], ?_, HBW.trans (belowK_b (w := w) (Nat.le_refl _) W3 D _ _ (by omega) hK' rfl rfl), .inl ⟨rfl, fun j hj => I1.out j (mem_down hj (by omega))⟩⟩
    simp [results, Try.f58, go_sem, z0, z1, z2]
  case stop =>
    rintro D c pre W hD ⟨k, hk, rfl⟩ ⟨⟨rfl, ini, m, e1, e2, e3, e4, e5⟩, iB⟩ hK
    have E4 := Aside0.mk e4
    have E5 := Aside0.mk e5
    have IB := Aside0.mk iB
    have HK := Aside0.mk hK
    have E1 := Aside0.mk e1
    clear e4 e5 iB hK e1
    gi_wp2
    have C2 := blk_own _ _ _ () W (W.putObj D (.deferred none)) (some D) E4.out (grownBy_putObj' W D (.deferred none)) (fun r e => by cases e; exact ⟨_, HK.out, rfl⟩)
    have C3 := blk_own _ _ _ () W (W.putObj D (.deferred none)) (some D) E5.out (grownBy_putObj' W D (.deferred none)) (fun r e => by cases e; exact ⟨_, HK.out, rfl⟩)
    have z0 : (W.putObj D (.deferred none)).cell? ⟨w.heap.size + 1 + 1, 0, none⟩ = some (.int .i64 (u0 m)) := (blk_cell C2 0).trans rfl
    have z1 : (W.putObj D (.deferred none)).cell? ⟨w.heap.size + 1 + 1, 1, none⟩ = some (.slice (ua m) (um m) (uc m)) := (blk_cell C2 1).trans rfl
    have z2 : (W.putObj D (.deferred none)).cell? ⟨w.heap.size + 1 + 1 + 1, 0, none⟩ = some (.bool true) := (blk_cell C3 0).trans rfl
    refine ⟨by simp, .inl ⟨_, _, rfl, run_takeDeferred HK.out, ?_⟩⟩
    have e1 := E1.out
    obtain ⟨k', rfl⟩ : ∃ k', k = k' + 1 := by
      cases k with
      | zero => simp [down] at e1
      | succ k' => exact ⟨k', rfl⟩
    rw [down_succ] at e1
    obtain ⟨rfl, e6⟩ := List.append_inj' e1 rfl
    obtain rfl : len - 1 - k' = m := by simpa using e6
    refine ⟨.tuple #[.agg #[.int .i64 (u0 (len - 1 - k')), .slice (ua (len - 1 - k')) (um (len - 1 - k')) (uc (len - 1 - k'))], .bool true], ?_, IB.out.trans (belowK_b (w := w) (Nat.le_refl _) W D _ _ (by omega) HK.out rfl rfl), .inr ⟨len - 1 - k', by omega, e3, fun j hj1 hj2 => e2 j (mem_down hj2 (by omega)), rfl⟩⟩
    simp [results, Try.f58, go_sem, z0, z1, z2]
def lastP (l : List S49) (at_ : Int) : Option S49 := l.reverse.find? (fun p => p.f0 == at_)
theorem lastP_none {l : List S49} {at_ : Int} (h : ∀ j, j < l.length → (rd_T49 l (j : Int)).f0 ≠ at_) : lastP l at_ = none := by
  unfold lastP
  rw [List.find?_eq_none]
  intro p hp
  obtain ⟨j, hj, rfl⟩ := List.getElem_of_mem (List.mem_reverse.1 hp)
  have := h j hj
  simp [rd_T49, List.getD_eq_getElem?_getD, List.getElem?_eq_getElem hj] at this
  simpa using this
theorem lastP_some {l : List S49} {at_ : Int} {m : Nat} (hm : m < l.length) (h0 : (rd_T49 l (m : Int)).f0 = at_) (h : ∀ j, m < j → j < l.length → (rd_T49 l (j : Int)).f0 ≠ at_) : lastP l at_ = some (rd_T49 l (m : Int)) := by
  have hsplit : l = l.take m ++ (l[m] :: l.drop (m + 1)) := by rw [← List.drop_eq_getElem_cons hm, List.take_append_drop]
  have hrd : rd_T49 l (m : Int) = l[m] := by simp [rd_T49, List.getD_eq_getElem?_getD, List.getElem?_eq_getElem hm]
  rw [hrd] at h0 ⊢
  have hnone : (l.drop (m + 1)).reverse.find? (fun p => p.f0 == at_) = none := by
    rw [List.find?_eq_none]
    intro p hp
    obtain ⟨j, hj, rfl⟩ := List.getElem_of_mem (List.mem_reverse.1 hp)
    rw [List.length_drop] at hj
    have := h (m + 1 + j) (by omega) (by omega)
    unfold rd_T49 at this
    rw [Int.toNat_natCast, List.getD_eq_getElem?_getD, List.getElem?_eq_getElem (show m + 1 + j < l.length by omega)] at this
    simpa [List.getElem_drop] using this
  unfold lastP
  conv => lhs; rw [hsplit]
  rw [List.reverse_append, List.reverse_cons, List.append_assoc, List.find?_append, hnone]
  simp [h0]
theorem hLast.calls (A0 : Option Addr) (n0 c0 : Nat) (A1 : Option Addr) (c1 : Nat) (l1 : List S49) (at_ : Int) (w : World) (hr : Kd.C k49 w A1 l1.length l1) :
    Calls Try.prog 58 #[.agg #[.slice A0 n0 c0, .slice A1 l1.length c1], .int .i64 at_] w fun e w' => Below w.heap.size w w' ∧
      ((lastP l1 at_ = none ∧ e = .returned (.tuple #[.agg #[.int .i64 0, .slice none 0 0], .bool false])) ∨
        ∃ (p : S49) (A : Option Addr) (c : Nat), lastP l1 at_ = some p ∧ e = .returned (.tuple #[.agg #[.int .i64 p.f0, .slice A p.f1.length c], .bool true]) ∧ p.f1.length ≤ c ∧ Kd.C (Kd.int .u8) w A p.f1.length p.f1) := by
  have hm : l1.length ≤ 9223372036854775807 := hr.2.1
  have hch : ∀ j : Nat, ∃ q : Option Addr × Nat, j < l1.length → ∃ ad, A1 = some ad ∧ w.cell? (ad.add (j * 2)) = some (.int .i64 (rd_T49 l1 (j : Int)).f0) ∧ w.cell? ⟨(ad.add (j * 2)).block, (ad.add (j * 2)).off + 1, none⟩ = some (.slice q.1 (rd_T49 l1 (j : Int)).f1.length q.2) ∧ (rd_T49 l1 (j : Int)).f1.length ≤ q.2 ∧ Kd.C (Kd.int .u8) w q.1 (rd_T49 l1 (j : Int)).f1.length (rd_T49 l1 (j : Int)).f1 := by
    intro j
    by_cases hj : j < l1.length
    · obtain ⟨ad, A, c, e, h0, h1, h2, h3⟩ := at_T49 hr (j : Int) (by omega) (by omega)
      exact ⟨(A, c), fun _ => ⟨ad, e, h0, h1, h2, h3⟩⟩
    · exact ⟨(none, 0), fun h => absurd h hj⟩
  obtain ⟨q, hq⟩ := Classical.axiomOfChoice hch
  let F : Fence := { fn := fun _ => True }
  have hin := hLast.in_ F 3 trivial trivial trivial rfl (by omega) A0 n0 c0 A1 l1.length c1 at_ (fun j => (rd_T49 l1 (j : Int)).f0) (fun j => (q j).1) (fun j => (rd_T49 l1 (j : Int)).f1.length) (fun j => (q j).2) hm w (fun h => by
    obtain ⟨ad, e, h0, _⟩ := hq 0 h
    refine ⟨ad, e, ?_, fun j hj => ?_⟩
    · have := World.block_lt_of_cell? w _ h0
      rwa [add_block_] at this
    · obtain ⟨ad', e', g0, g1, _⟩ := hq j hj
      rw [e] at e'
      injection e' with e'
      subst e'
      exact ⟨g0, g1⟩)
  refine (hin.calls (fun _ _ h => by cases h)).mono ?_
  rintro e w' ⟨hB, ⟨rfl, h⟩ | ⟨m, hm1, h0, h, rfl⟩⟩
  · exact ⟨hB, .inl ⟨lastP_none h, rfl⟩⟩
  · obtain ⟨ad, e, _, _, h2, h3⟩ := hq m hm1
    exact ⟨hB, .inr ⟨rd_T49 l1 (m : Int), _, _, lastP_some hm1 h0 h, rfl, h2, h3⟩⟩
end Go.Proofs.Ytdkjhcdniepbhaa.P
end
section
set_option linter.unusedVariables false
set_option linter.unusedSimpArgs false
namespace Go.Proofs.Ytdkjhcdniepbhaa.P
open Go.RowKit Go.Proofs.PrintWords Go.Proofs.PrintLast Go.Proofs.PrintMore
attribute [local go_sem] max2_int min2_int max_two min_two max_three min_three max_four min_four
theorem rd52_at {l : List S39} {n : Nat} (hn : n < l.length) : rd_T39 l (n : Int) = l[n] := by unfold rd_T39; rw [List.getD_eq_getElem?_getD]; simp [hn]
theorem rd65_at {l : List S49} {n : Nat} (hn : n < l.length) : rd_T49 l (n : Int) = l[n] := by unfold rd_T49; rw [List.getD_eq_getElem?_getD]; simp [hn]
theorem rd_at {l : List Int} {n : Nat} (hn : n < l.length) : rd l (n : Int) = l[n] := by unfold rd; rw [List.getD_eq_getElem?_getD]; simp [hn]
theorem wrap_succ {n : Nat} (h : n ≤ 1000000000) : wrap64 ((n : Int) + 1) = ((n + 1 : Nat) : Int) := by unfold wrap64; omega
theorem great_l1 (l0 : List S39) (l1 : List S49) (m : Int) : ∀ (d k n : Nat), 100 ≤ n + d → n ≤ 100 → 2 * d + 2 ≤ k → ∃ b, catamaranref05_Great.l1 k m (n : Int) l0 l1 = some b ∧ (b = false → (l0.length : Int) ≤ m ∧ l1.length ≤ 100 ∧ ∀ i, n ≤ i → (hi : i < l1.length) → (l1[i]).f1.length ≤ 100)
  | d, k, n, h, h2, hk => by
    obtain ⟨k, rfl⟩ : ∃ k', k = k' + 2 := ⟨k - 2, by omega⟩
    unfold catamaranref05_Great.l1
    by_cases hn : n < l1.length
    · rw [if_pos (by omega)]
      unfold catamaranref05_Great.j3
      by_cases h100 : n < 100
      · rw [if_pos (by simp; omega), if_pos (by omega), if_pos (by omega), rd65_at hn]
        by_cases hb : ((l1[n]).f1.length : Int) > 100
        · rw [if_pos hb]
          exact ⟨true, rfl, fun h => by cases h⟩
        · rw [if_neg hb, wrap_succ (by omega)]
          obtain ⟨b, e, hbb⟩ := great_l1 l0 l1 m (d - 1) k (n + 1) (by omega) (by omega) (by omega)
          refine ⟨b, e, fun h => ?_⟩
          obtain ⟨p1, p2, p3⟩ := hbb h
          refine ⟨p1, p2, fun i hi hil => ?_⟩
          by_cases hin : i = n
          · subst hin; omega
          · exact p3 i (by omega) hil
      · rw [if_neg (by simp; omega)]
        by_cases hl : (l0.length : Int) > m
        · rw [if_pos hl]; exact ⟨true, rfl, fun h => by cases h⟩
        · rw [if_neg hl]
          exact ⟨_, rfl, fun h => by have := of_decide_eq_false h; omega⟩
    · rw [if_neg (by omega)]
      unfold catamaranref05_Great.j3
      rw [if_neg (by simp)]
      by_cases hl : (l0.length : Int) > m
      · rw [if_pos hl]; exact ⟨true, rfl, fun h => by cases h⟩
      · rw [if_neg hl]
        exact ⟨_, rfl, fun h => by have := of_decide_eq_false h; exact ⟨by omega, by omega, fun i hi hil => by omega⟩⟩
set_option maxRecDepth 20000 in
theorem great_l0 (l0 : List S39) (l1 : List S49) (m : Nat) (hm : m ≤ 1000) : ∀ (d k n : Nat), m ≤ n + d → n ≤ m → 2 * d + 204 ≤ k → ∃ b, catamaranref05_Great.l0 k (m : Int) (n : Int) l0 l1 = some b ∧ (b = false → l0.length ≤ m ∧ l1.length ≤ 100 ∧ (∀ i, n ≤ i → (hi : i < l0.length) → (l0[i]).f0.length ≤ 100) ∧ ∀ p ∈ l1, p.f1.length ≤ 100)
  | d, k, n, h, h2, hk => by
    obtain ⟨k, rfl⟩ : ∃ k', k = k' + 2 := ⟨k - 2, by omega⟩
    have hend : ∃ b, catamaranref05_Great.l1 k (m : Int) 0 l0 l1 = some b ∧ (b = false → l0.length ≤ m ∧ l1.length ≤ 100 ∧ ∀ p ∈ l1, p.f1.length ≤ 100) := by
      obtain ⟨b, e, hb⟩ := great_l1 l0 l1 m 100 k 0 (by omega) (by omega) (by omega)
      refine ⟨b, e, fun h => ?_⟩
      obtain ⟨p1, p2, p3⟩ := hb h
      refine ⟨by omega, p2, fun p hp => ?_⟩
      obtain ⟨i, hi, rfl⟩ := List.mem_iff_getElem.1 hp
      exact p3 i (by omega) hi
    unfold catamaranref05_Great.l0
    by_cases hn : n < l0.length
    · rw [if_pos (by omega)]
      unfold catamaranref05_Great.j1
      by_cases h100 : n < m
      · rw [if_pos (by simp; omega), if_pos (by omega), if_pos (by omega), rd52_at hn]
        by_cases hb : ((l0[n]).f0.length : Int) > 100
        · rw [if_pos hb]
          exact ⟨true, rfl, fun h => by cases h⟩
        · rw [if_neg hb, wrap_succ (by omega)]
          obtain ⟨b, e, hbb⟩ := great_l0 l0 l1 m hm (d - 1) k (n + 1) (by omega) (by omega) (by omega)
          refine ⟨b, e, fun h => ?_⟩
          obtain ⟨p1, p2, p3, p4⟩ := hbb h
          refine ⟨p1, p2, fun i hi hil => ?_, p4⟩
          by_cases hin : i = n
          · subst hin; omega
          · exact p3 i (by omega) hil
      · rw [if_neg (by simp; omega)]
        obtain ⟨b, e, hb⟩ := hend
        exact ⟨b, e, fun h => by obtain ⟨p1, p2, p3⟩ := hb h; exact ⟨p1, p2, fun i hi hil => by omega, p3⟩⟩
    · rw [if_neg (by omega)]
      unfold catamaranref05_Great.j1
      rw [if_neg (by simp)]
      obtain ⟨b, e, hb⟩ := great_l1 l0 l1 m 100 k 0 (by omega) (by omega) (by omega)
      refine ⟨b, e, fun h => ?_⟩
      obtain ⟨p1, p2, p3⟩ := hb h
      refine ⟨by omega, p2, fun i hi hil => by omega, fun p hp => ?_⟩
      obtain ⟨i, hi, rfl⟩ := List.mem_iff_getElem.1 hp
      exact p3 i (by omega) hi
theorem great_is (l0 : List S39) (l1 : List S49) (m : Nat) (hm : m ≤ 1000) (k : Nat) (hk : 2 * m + 204 ≤ k) : ∃ b, catamaranref05_Great.f k l0 l1 (m : Int) = some b ∧ (b = false → l0.length ≤ m ∧ l1.length ≤ 100 ∧ (∀ s ∈ l0, s.f0.length ≤ 100) ∧ ∀ p ∈ l1, p.f1.length ≤ 100) := by
  obtain ⟨b, e, hb⟩ := great_l0 l0 l1 m hm m k 0 (by omega) (by omega) hk
  refine ⟨b, e, fun h => ?_⟩
  obtain ⟨p1, p2, p3, p4⟩ := hb h
  refine ⟨p1, p2, fun p hp => ?_, p4⟩
  obtain ⟨i, hi, rfl⟩ := List.mem_iff_getElem.1 hp
  exact p3 i (by omega) hi
theorem rtwin_l1 (l0 o0 : List S39) : ∀ (m k n : Nat) (l1 : List S49), n + m = l1.length → m + 1 ≤ k → l1.length ≤ 100000 → (∀ p ∈ l1, p.f1.length ≤ 100000) → catamaranref05_Twin.l1 k (n : Int) l0 l1 o0 (l1.take n) = some (o0, l1)
  | 0, k + 1, n, l1, h, _, _, _ => by
    obtain rfl : n = l1.length := by omega
    unfold catamaranref05_Twin.l1
    rw [if_neg (by omega), List.take_length]
  | m + 1, k + 1, n, l1, h, hk, hl, hb => by
    have hn : n < l1.length := by omega
    have hx := hb l1[n] (List.getElem_mem hn)
    have ht : (l1.take n).length = n := by rw [List.length_take]; omega
    unfold catamaranref05_Twin.l1
    rw [if_pos (by omega), if_pos (by omega), Option.bind_some, rd65_at hn, if_pos (by simp; omega), if_pos (by omega), wrap_succ (by omega), ← rtwin_l1 l0 o0 m k (n + 1) l1 (by omega) (by omega) hl hb, List.take_add_one, List.getElem?_eq_getElem hn]
    rfl
theorem rtwin_l0 : ∀ (m k n : Nat) (l0 : List S39) (l1 : List S49), n + m = l0.length → m + l1.length + 2 ≤ k → l0.length ≤ 100000 → l1.length ≤ 100000 → (∀ p ∈ l0, p.f0.length ≤ 100000) → (∀ p ∈ l1, p.f1.length ≤ 100000) → catamaranref05_Twin.l0 k (n : Int) l0 l1 (l0.take n) = some (l0, l1)
  | 0, k + 1, n, l0, l1, h, hk, _, hl1, _, hb1 => by
    obtain rfl : n = l0.length := by omega
    unfold catamaranref05_Twin.l0
    rw [if_neg (by omega), List.take_length]
    exact rtwin_l1 l0 l0 l1.length k 0 l1 (by omega) (by omega) hl1 hb1
  | m + 1, k + 1, n, l0, l1, h, hk, hl, hl1, hb, hb1 => by
    have hn : n < l0.length := by omega
    have hx := hb l0[n] (List.getElem_mem hn)
    have ht : (l0.take n).length = n := by rw [List.length_take]; omega
    unfold catamaranref05_Twin.l0
    rw [if_pos (by omega), Option.bind_some, if_pos (by omega), rd52_at hn, if_pos (by simp; omega), if_pos (by omega), wrap_succ (by omega), ← rtwin_l0 m k (n + 1) l0 l1 (by omega) (by omega) hl hl1 hb hb1, List.take_add_one, List.getElem?_eq_getElem hn]
    rfl
theorem rTwin_is (k : Nat) (l0 : List S39) (l1 : List S49) (hk : l0.length + l1.length + 2 ≤ k) (hl : l0.length ≤ 100000) (hl1 : l1.length ≤ 100000) (hb : ∀ p ∈ l0, p.f0.length ≤ 100000) (hb1 : ∀ p ∈ l1, p.f1.length ≤ 100000) : catamaranref05_Twin.f k l0 l1 = some (l0, l1) := by
  unfold catamaranref05_Twin.f
  exact rtwin_l0 l0.length k 0 l0 l1 (by omega) hk hl hl1 hb hb1
theorem blank_l0 : ∀ (m k n : Nat) (b : List Int), n + m = b.length → m + 1 ≤ k → b.length ≤ 100000 → (b.take n).all (· == 0) = true → catamaranref05_blank.l0 k b (n : Int) = some (b.all (· == 0))
  | 0, k + 1, n, b, h, _, _, ht => by
    obtain rfl : n = b.length := by omega
    unfold catamaranref05_blank.l0
    rw [List.take_length] at ht
    rw [if_neg (by omega), ht]
  | m + 1, k + 1, n, b, h, hk, hl, ht => by
    have hn : n < b.length := by omega
    unfold catamaranref05_blank.l0
    rw [if_pos (by omega), if_pos (by omega), rd_at hn]
    by_cases hz : b[n] = 0
    · rw [if_pos hz, wrap_succ (by omega)]
      refine blank_l0 m k (n + 1) b (by omega) (by omega) hl ?_
      rw [List.take_succ_eq_append_getElem hn, List.all_append, ht]
      simp [hz]
    · rw [if_neg hz]
      congr 1
      symm
      rw [List.all_eq_false]
      exact ⟨b[n], List.getElem_mem hn, by simpa using hz⟩
theorem blank_is (k : Nat) (b : List Int) (hk : b.length + 1 ≤ k) (hl : b.length ≤ 100000) : catamaranref05_blank.f k b = some (b.all (· == 0)) := by
  unfold catamaranref05_blank.f
  exact blank_l0 b.length k 0 b (by omega) hk hl (by simp)
def byteL (b : List Int) : Prop := ∀ n ∈ b, 0 ≤ n ∧ n ≤ 255
theorem str_list (l : List Int) : (strOfNums l).toList = l.map fun n => UInt8.ofNat n.toNat := by
  unfold strOfNums
  simp [ByteArray.toList_eq]
theorem byte_inj {x y : Int} (hx : 0 ≤ x ∧ x ≤ 255) (hy : 0 ≤ y ∧ y ≤ 255) (h : UInt8.ofNat x.toNat = UInt8.ofNat y.toNat) : x = y := by
  have e := congrArg UInt8.toNat h
  simp only [UInt8.toNat_ofNat'] at e
  omega
theorem str_inj : ∀ {a b : List Int}, byteL a → byteL b → (strOfNums a).toList = (strOfNums b).toList → a = b := by
  intro a b
  rw [str_list, str_list]
  induction a generalizing b with
  | nil => intro _ _ h; cases b with
    | nil => rfl
    | cons y ys => simp at h
  | cons x xs ih => intro ha hb h; cases b with
    | nil => simp at h
    | cons y ys =>
      simp only [List.map_cons, List.cons.injEq] at h
      rw [byte_inj (ha x (by simp)) (hb y (by simp)) h.1, ih (fun n hn => ha n (by simp [hn])) (fun n hn => hb n (by simp [hn])) h.2]
theorem zero32_byte : byteL zero32 := by
  intro n hn
  have := List.eq_of_mem_replicate hn
  omega
theorem all_zero : ∀ (b : List Int) (n : Nat), b.length = n → (b.all (· == 0) = true ↔ b = List.replicate n 0)
  | [], n, h => by subst h; simp
  | x :: xs, n, h => by
    subst h
    have := all_zero xs xs.length rfl
    simp only [List.all_cons, Bool.and_eq_true, List.length_cons, List.replicate_succ, List.cons.injEq, this, beq_iff_eq]
theorem blank_zero {b : List Int} (hb : byteL b) (h : b.length = 32) : b.all (· == 0) = ((strOfNums b).toList == (strOfNums zero32).toList) := by
  rw [Bool.eq_iff_iff, all_zero b 32 h, beq_iff_eq]
  exact ⟨fun e => by rw [e]; rfl, fun e => str_inj hb zero32_byte e⟩
def bytesD (l0 : List S39) (l1 : List S49) : Prop := (∀ s ∈ l0, byteL s.f0) ∧ ∀ p ∈ l1, byteL p.f1
theorem may_l1 (l0 : List S39) (m : Int) : ∀ (d k n : Nat) (l1 : List S49), n + d = l1.length → d + 1 ≤ k → l1.length ≤ 100000 → (l1.take n).all (okPend m) = true → catamaranref05_May.l1 k m (n : Int) l0 l1 = some (l1.all (okPend m))
  | 0, k + 1, n, l1, h, _, _, ht => by
    obtain rfl : n = l1.length := by omega
    unfold catamaranref05_May.l1
    rw [List.take_length] at ht
    rw [if_neg (by omega), ht]
  | d + 1, k + 1, n, l1, h, hk, hl, ht => by
    have hn : n < l1.length := by omega
    have hf : okPend m l1[n] = false → l1.all (okPend m) = false := fun h => by
      rw [List.all_eq_false]
      exact ⟨l1[n], List.getElem_mem hn, by simp [h]⟩
    unfold catamaranref05_May.l1
    rw [if_pos (by omega), if_pos (by omega), rd65_at hn]
    by_cases h0 : (l1[n]).f0 < 0
    · rw [if_pos h0, hf]
      unfold okPend
      rw [decide_eq_false (by omega : ¬ 0 ≤ (l1[n]).f0)]; rfl
    · rw [if_neg h0]
      by_cases h1 : (l1[n]).f0 ≥ m
      · rw [if_pos h1, hf]
        unfold okPend
        rw [decide_eq_false (by omega : ¬ (l1[n]).f0 < m)]; simp
      · rw [if_neg h1]
        by_cases h2 : ((l1[n]).f1.length : Int) = 32
        · rw [if_pos h2, wrap_succ (by omega)]
          refine may_l1 l0 m d k (n + 1) l1 (by omega) (by omega) hl ?_
          rw [List.take_succ_eq_append_getElem hn, List.all_append, ht]
          simp only [List.all_cons, List.all_nil, Bool.and_true, Bool.true_and]
          unfold okPend okLen
          simp
          omega
        · rw [if_neg h2, hf]
          unfold okPend okLen
          have : ¬ (l1[n]).f1.length = 32 := by omega
          simp [this]
set_option maxRecDepth 20000 in
theorem may_l0 : ∀ (d k n : Nat) (l0 : List S39) (l1 : List S49), n + d = l0.length → d + l1.length + 40 ≤ k → l0.length ≤ 100000 → l1.length ≤ 100000 → bytesD l0 l1 → (l0.take n).all okSec = true → catamaranref05_May.l0 k (l0.length : Int) (n : Int) l0 l1 = some (l0.all okSec && l1.all (okPend l0.length))
  | 0, k + 1, n, l0, l1, h, hk, _, hl1, _, ht => by
    obtain rfl : n = l0.length := by omega
    unfold catamaranref05_May.l0
    rw [List.take_length] at ht
    rw [if_neg (by omega), ht, Bool.true_and]
    exact may_l1 l0 l0.length l1.length k 0 l1 (by omega) (by omega) hl1 (by simp)
  | d + 1, k + 1, n, l0, l1, h, hk, hl, hl1, hby, ht => by
    have hn : n < l0.length := by omega
    have hf : okSec l0[n] = false → l0.all okSec = false := fun h => by
      rw [List.all_eq_false]
      exact ⟨l0[n], List.getElem_mem hn, by simp [h]⟩
    have hgo : okSec l0[n] = true → catamaranref05_May.l0 k (l0.length : Int) (wrap64 ((n : Int) + 1)) l0 l1 = some (l0.all okSec && l1.all (okPend l0.length)) := fun hs => by
      rw [wrap_succ (by omega)]
      refine may_l0 d k (n + 1) l0 l1 (by omega) (by omega) hl hl1 hby ?_
      rw [List.take_succ_eq_append_getElem hn, List.all_append, ht]
      simp [hs]
    unfold catamaranref05_May.l0
    rw [if_pos (by omega), if_pos (by omega), if_pos (by omega), rd52_at hn]
    by_cases h32 : ((l0[n]).f0.length : Int) = 32
    · rw [if_pos h32]
      have h32' : (l0[n]).f0.length = 32 := by omega
      by_cases hbad : (l0[n]).f1 = true
      · rw [if_pos hbad, blank_is k _ (by omega) (by omega), Option.bind_some]
        have hz := blank_zero (hby.1 _ (List.getElem_mem hn)) h32'
        have hs : okSec l0[n] = (l0[n]).f0.all (· == 0) := by unfold okSec okLen; rw [hz, hbad]; simp [h32']
        cases hq : (l0[n]).f0.all (· == 0)
        · rw [if_neg (by simp), hf (by rw [hs, hq])]; rfl
        · rw [if_pos rfl, hgo (by rw [hs, hq])]
      · rw [if_neg hbad]
        have hbf : (l0[n]).f1 = false := by simpa using hbad
        exact hgo (by unfold okSec okLen; simp [h32', hbf])
    · rw [if_neg h32, hf]
      · rfl
      · unfold okSec okLen
        have : ¬ (l0[n]).f0.length = 32 := by omega
        simp [this]
theorem may_is (k : Nat) (hk : 1200 ≤ k) (l0 : List S39) (l1 : List S49) (hby : bytesD l0 l1) : catamaranref05_May.f k l0 l1 = some (okDisk l0 l1) := by
  obtain ⟨k, rfl⟩ : ∃ k', k = k' + 1 := ⟨k - 1, by omega⟩
  unfold catamaranref05_May.f okDisk
  by_cases h1 : (l0.length : Int) < 1
  · rw [if_pos h1]
    unfold catamaranref05_May.j0
    have : ¬ 1 ≤ l0.length := by omega
    simp [this]
  · rw [if_neg h1]
    by_cases h2 : (l0.length : Int) > 1024
    · rw [if_pos h2]
      unfold catamaranref05_May.j0
      have : ¬ l0.length ≤ 1024 := by omega
      simp [this]
    · rw [if_neg h2]
      have ej : catamaranref05_May.j0 (k + 1) (l0.length : Int) (decide ((l1.length : Int) > 64)) l0 l1 = if decide ((l1.length : Int) > 64) = true then some false else catamaranref05_May.l0 k (l0.length : Int) 0 l0 l1 := rfl
      rw [ej]
      by_cases h3 : (l1.length : Int) > 64
      · rw [if_pos (decide_eq_true h3)]
        have : ¬ l1.length ≤ 64 := by omega
        simp [this]
      · rw [if_neg (by rw [decide_eq_false h3]; exact Bool.false_ne_true)]
        have e := may_l0 l0.length k 0 l0 l1 (by omega) (by omega) (by omega) (by omega) hby (by simp)
        rw [show ((0 : Nat) : Int) = 0 from rfl] at e
        rw [e, decide_eq_true (by omega : 1 ≤ l0.length), decide_eq_true (by omega : l0.length ≤ 1024), decide_eq_true (by omega : l1.length ≤ 64)]
        simp
theorem lastP_snoc (l : List S49) (p : S49) (a : Int) : lastP (l ++ [p]) a = if p.f0 = a then some p else lastP l a := by
  unfold lastP
  rw [List.reverse_append]
  simp only [List.reverse_cons, List.reverse_nil, List.nil_append, List.singleton_append, List.find?_cons]
  by_cases h : p.f0 = a
  · simp [h]
  · rw [if_neg h, (beq_eq_false_iff_ne.2 h)]
theorem got_l0 (l0 : List S39) (a : Int) (h0 : 0 ≤ a) (h1 : a < l0.length) (hs : (rd_T39 l0 a).f0.length ≤ 100000) : ∀ (n k : Nat) (l1 : List S49), n ≤ l1.length → n + 1 ≤ k → l1.length ≤ 100000 → (∀ p ∈ l1, p.f1.length ≤ 100000) →
    catamaranref05_Got.l0 k a ((n : Int) - 1) l0 l1 = some (match lastP (l1.take n) a with | some p => (p.f1, true) | none => ((rd_T39 l0 a).f0, !(rd_T39 l0 a).f1))
  | 0, k + 1, l1, _, _, _, _ => by
    unfold catamaranref05_Got.l0
    rw [if_neg (by omega), Option.bind_some, if_pos h0, if_pos h1, if_pos (by simp; omega)]
    rfl
  | n + 1, k + 1, l1, hn, hk, hl, hb => by
    have hn' : n < l1.length := by omega
    have e : ((n + 1 : Nat) : Int) - 1 = (n : Int) := by omega
    unfold catamaranref05_Got.l0
    rw [e, if_pos (by omega), if_pos (by omega), if_pos (by omega), rd65_at hn', List.take_succ_eq_append_getElem hn', lastP_snoc]
    by_cases hx : (l1[n]).f0 = a
    · have hle := hb l1[n] (List.getElem_mem hn')
      rw [if_pos hx, if_pos hx, Option.bind_some, if_pos (by simp; omega)]
      rfl
    · rw [if_neg hx, if_neg hx, show wrap64 ((n : Int) - 1) = (n : Int) - 1 by unfold wrap64; omega]
      exact got_l0 l0 a h0 h1 hs n k l1 (by omega) (by omega) hl hb
theorem dSame_refl (l0 : List S39) (l1 : List S49) : dSame l0 l1 l0 l1 = true := by
  unfold dSame allTo sEq pEq
  simp
end Go.Proofs.Ytdkjhcdniepbhaa.P
end
section
set_option linter.unusedVariables false
set_option linter.unusedSimpArgs false
namespace Go.Proofs.Ytdkjhcdniepbhaa.P
open Go.RowKit Go.Proofs.PrintWords Go.Proofs.PrintLast Go.Proofs.PrintMore
attribute [local go_sem] max2_int min2_int max_two min_two max_three min_three max_four min_four
theorem wrap_small {a : Int} (h0 : 0 ≤ a) (h1 : a < 9223372036854775808) : wrap64 a = a := by unfold wrap64; omega
end Go.Proofs.Ytdkjhcdniepbhaa.P
end
section
set_option linter.unusedVariables false
set_option linter.unusedSimpArgs false
namespace Go.Proofs.Ytdkjhcdniepbhaa.P
open Go.RowKit Go.Proofs.PrintWords Go.Proofs.PrintLast Go.Proofs.PrintMore
attribute [local go_sem] max2_int min2_int max_two min_two max_three min_three max_four min_four
theorem in_is (a b c : Int) : catamaranref07_in.f a b c = some (decide (b ≤ a) && decide (a ≤ c)) := by
  unfold catamaranref07_in.f
  by_cases h : a ≥ b
  · rw [if_pos h, show decide (b ≤ a) = true from decide_eq_true h, Bool.true_and]
  · rw [if_neg h, show decide (b ≤ a) = false from decide_eq_false h, Bool.false_and]
theorem okCfg_iff (p t a m w q : Int) : okCfg p t a m w q = true ↔ (1 ≤ p ∧ p ≤ 3) ∧ (1 ≤ t ∧ t ≤ 16) ∧ (1 ≤ a ∧ a ≤ 32) ∧ (1 ≤ m ∧ m ≤ p) ∧ (1 ≤ w ∧ w ≤ 4) ∧ (4 ≤ q ∧ q ≤ 64) ∧ p + 2 ≤ a := by
  simp only [okCfg, inB, List.all_cons, List.all_nil, Bool.and_true, Bool.and_eq_true, decide_eq_true_eq]
  exact ⟨fun h => ⟨h.1.1, h.1.2.1, h.1.2.2.1, h.1.2.2.2.1, h.1.2.2.2.2.1, h.1.2.2.2.2.2, h.2⟩, fun h => ⟨⟨h.1, h.2.1, h.2.2.1, h.2.2.2.1, h.2.2.2.2.1, h.2.2.2.2.2.1⟩, h.2.2.2.2.2.2⟩⟩
theorem may07_is (k : Nat) (p t a m w q : Int) : catamaranref07_May.f (k + 1) p t a m w q = some (okCfg p t a m w q) := by
  have hb : ∀ b : Bool, (okCfg p t a m w q = true ↔ b = true) → some b = some (okCfg p t a m w q) := fun b h => by
    cases b <;> cases hk : okCfg p t a m w q <;> simp_all
  unfold catamaranref07_May.f
  simp only [catamaranref07_May.j0, in_is, Option.bind_some, okCfg_iff] at hb ⊢
  by_cases h1 : 1 ≤ p ∧ p ≤ 3
  rotate_left
  · rw [if_neg (by simpa using h1), if_pos trivial]
    exact hb false (by simp; omega)
  rw [if_pos (by simpa using h1)]
  by_cases h2 : 1 ≤ t ∧ t ≤ 16
  rotate_left
  · rw [if_neg (by simpa using h2), if_pos trivial]
    exact hb false (by simp; omega)
  rw [if_pos (by simpa using h2), show wrap64 (p + 2) = p + 2 by unfold wrap64; omega]
  by_cases h3 : p + 2 ≤ a ∧ a ≤ 32
  rotate_left
  · rw [if_neg (by simpa using h3), if_pos trivial]
    exact hb false (by simp; omega)
  rw [if_pos (by simpa using h3)]
  by_cases h4 : 1 ≤ m ∧ m ≤ p
  rotate_left
  · rw [if_pos (by simp; omega)]
    exact hb false (by simp; omega)
  rw [if_neg (by simp; omega)]
  by_cases h5 : 1 ≤ w ∧ w ≤ 4
  rotate_left
  · rw [if_neg (by simpa using h5)]
    exact hb false (by simp; omega)
  rw [if_pos (by simpa using h5)]
  exact hb _ (by simp; omega)
theorem pgs_bound (t : Int) : 1 ≤ pgs t ∧ pgs t ≤ 2 := by unfold pgs; split <;> omega
theorem many07_is (p t a m w q : Int) : catamaranref07_Many.f p t a m w q = some (pgs t) := by
  unfold catamaranref07_Many.f pgs
  by_cases h : t > 8
  · rw [if_pos h, if_neg (by omega)]
  · rw [if_neg h, if_pos (by omega)]
theorem mul_bound {a b c d : Int} (ha : 0 ≤ a) (hb : a ≤ c) (hc : 0 ≤ b) (hd : b ≤ d) : 0 ≤ a * b ∧ a * b ≤ c * d := ⟨Int.mul_nonneg ha hc, Int.mul_le_mul hb hd hc (by omega)⟩
theorem first_is {p t a m w q : Int} (h : okCfg p t a m w q = true) : catamaranref07_first.f p t a m w q = some (2, 2 + 2 * a, 2 + 2 * a + p * pgs t, nSec p t a) := by
  have hc := (okCfg_iff p t a m w q).1 h
  have hp := pgs_bound t
  unfold catamaranref07_first.f
  rw [many07_is, Option.bind_some]
  have h1 := mul_bound (a := p) (b := pgs t) (c := 3) (d := 2) (by omega) (by omega) (by omega) (by omega)
  have h2 := mul_bound (a := p) (b := t) (c := 3) (d := 16) (by omega) (by omega) (by omega) (by omega)
  have e2 : 4 * p * t = 4 * (p * t) := Int.mul_assoc ..
  rw [wrap_small (a := 2 * a) (by omega) (by omega), wrap_small (a := 2 + 2 * a) (by omega) (by omega), wrap_small (a := p * pgs t) (by omega) (by omega), wrap_small (a := 4 * p) (by omega) (by omega), wrap_small (a := 4 * p * t) (by omega) (by omega), wrap_small (a := 2 + 2 * a + p * pgs t) (by omega) (by omega), wrap_small (by omega) (by omega), e2]
  rfl
def okSite (p t a m w q : Int) (l0 : List S39) (l1 : List S49) : Bool := okCfg p t a m w q && decide ((l0.length : Int) = nSec p t a) && okDisk l0 l1
theorem may08_is (k : Nat) (hk : 1200 ≤ k) (p t a m w q : Int) (l0 : List S39) (l1 : List S49) (hby : bytesD l0 l1) : catamaranref08_May.f k p t a m w q l0 l1 = some (okSite p t a m w q l0 l1) := by
  obtain ⟨k, rfl⟩ : ∃ m, k = m + 1 := ⟨k - 1, by omega⟩
  unfold catamaranref08_May.f okSite
  rw [may07_is, Option.bind_some]
  cases h : okCfg p t a m w q
  · rfl
  · rw [if_pos rfl]
    unfold catamaranref07_Size.f
    rw [first_is h, Option.bind_some, Option.bind_some]
    by_cases hl : (l0.length : Int) = nSec p t a
    · rw [if_pos hl, may_is (k + 1) hk l0 l1 hby, Option.bind_some, decide_eq_true hl]
      simp
    · rw [if_neg hl, decide_eq_false hl]
      simp
theorem tCheck_is (p t a m w q : Int) (l0 : List S39) (l1 : List S49) : track_Check.f p t a m w q l0 l1 = some (if okSite p t a m w q l0 l1 = true then 0 else 8) := by
  unfold track_Check.f hSectors.f okSite
  rw [Option.bind_some]
  cases h : okCfg p t a m w q
  · rfl
  · simp only [if_true, Bool.true_and]
    by_cases hl : (l0.length : Int) = nSec p t a
    · rw [if_pos hl, decide_eq_true hl]
      unfold hCheck.f
      simp
    · rw [if_neg hl, decide_eq_false hl]
      simp
end Go.Proofs.Ytdkjhcdniepbhaa.P
end
section
set_option linter.unusedVariables false
set_option linter.unusedSimpArgs false
namespace Go.Proofs.Ytdkjhcdniepbhaa.P
open Go.RowKit Go.Proofs.PrintWords Go.Proofs.PrintLast Go.Proofs.PrintMore
attribute [local go_sem] max2_int min2_int max_two min_two max_three min_three max_four min_four
def dAsked (l0 : List S39) (l1 : List S49) (at_ : Int) : Int := if okDisk l0 l1 = true then (if at_ < 0 then 2 else if at_ ≥ (l0.length : Int) then 2 else 0) else 8
theorem dAsked_is (l0 : List S39) (l1 : List S49) (at_ : Int) : disk_asked.f l0 l1 at_ = some (dAsked l0 l1 at_) := by
  unfold disk_asked.f hCheck.f dAsked
  cases okDisk l0 l1 with
  | false => rfl
  | true =>
    simp only [Option.bind_some, if_true]
    by_cases h1 : at_ < 0
    · simp [h1]
    · by_cases h2 : at_ ≥ (l0.length : Int) <;> simp [h1, h2]
theorem dAsked_ok {l0 : List S39} {l1 : List S49} {at_ : Int} (h : dAsked l0 l1 at_ = 0) : okDisk l0 l1 = true ∧ 0 ≤ at_ ∧ at_ < l0.length := by
  unfold dAsked at h
  cases hk : okDisk l0 l1
  · simp [hk] at h
  · simp only [hk, if_true] at h
    by_cases h1 : at_ < 0
    · simp [h1] at h
    · by_cases h2 : at_ ≥ (l0.length : Int)
      · simp [h1, h2] at h
      · exact ⟨rfl, by omega, by omega⟩
theorem okDisk_sec {l0 : List S39} {l1 : List S49} (h : okDisk l0 l1 = true) (s : S39) (hs : s ∈ l0) : s.f0.length = 32 := by
  simp only [okDisk, Bool.and_eq_true, List.all_eq_true] at h
  have := h.1.2 s hs
  simp only [okSec, Bool.and_eq_true, okLen, decide_eq_true_eq] at this
  exact this.1
theorem okDisk_pend {l0 : List S39} {l1 : List S49} (h : okDisk l0 l1 = true) (p : S49) (hp : p ∈ l1) : p.f1.length = 32 ∧ 0 ≤ p.f0 ∧ p.f0 < l0.length := by
  simp only [okDisk, Bool.and_eq_true, List.all_eq_true] at h
  have := h.2 p hp
  simp only [okPend, Bool.and_eq_true, okLen, decide_eq_true_eq] at this
  exact ⟨this.2, this.1.1, this.1.2⟩
theorem lastP_mem {l : List S49} {at_ : Int} {p : S49} (h : lastP l at_ = some p) : p ∈ l := List.mem_reverse.1 (List.mem_of_find?_eq_some h)
theorem rd_mem {l : List S39} {i : Int} (h0 : 0 ≤ i) (h1 : i < l.length) : rd_T39 l i ∈ l := by
  have : i.toNat < l.length := by omega
  unfold rd_T39
  rw [List.getD_eq_getElem?_getD, List.getElem?_eq_getElem this]
  exact List.getElem_mem this
theorem hLast.is_none (A0 : Option Addr) (n0 c0 : Nat) (A1 : Option Addr) (c1 : Nat) (l1 : List S49) (at_ : Int) (w : World) (hr : Kd.C k49 w A1 l1.length l1) (hl : lastP l1 at_ = none) :
    Calls Try.prog 58 #[.agg #[.slice A0 n0 c0, .slice A1 l1.length c1], .int .i64 at_] w fun e w' => e = .returned (.tuple #[.agg #[.int .i64 0, .slice none 0 0], .bool false]) ∧ Below w.heap.size w w' := by
  refine (hLast.calls A0 n0 c0 A1 c1 l1 at_ w hr).mono ?_
  rintro e w' ⟨hB, ⟨_, rfl⟩ | ⟨p, A, c, h, _⟩⟩
  · exact ⟨rfl, hB⟩
  · rw [hl] at h; cases h
theorem hLast.is_some (p : S49) (A0 : Option Addr) (n0 c0 : Nat) (A1 : Option Addr) (c1 : Nat) (l1 : List S49) (at_ : Int) (w : World) (hr : Kd.C k49 w A1 l1.length l1) (hl : lastP l1 at_ = some p) :
    Calls Try.prog 58 #[.agg #[.slice A0 n0 c0, .slice A1 l1.length c1], .int .i64 at_] w fun e w' => ∃ (A : Option Addr) (c : Nat), e = .returned (.tuple #[.agg #[.int .i64 p.f0, .slice A p.f1.length c], .bool true]) ∧ Below w.heap.size w w' ∧ p.f1.length ≤ c ∧ Kd.C (Kd.int .u8) w A p.f1.length p.f1 := by
  refine (hLast.calls A0 n0 c0 A1 c1 l1 at_ w hr).mono ?_
  rintro e w' ⟨hB, ⟨h, _⟩ | ⟨q, A, c, h, rfl, h1, h2⟩⟩
  · rw [hl] at h; cases h
  · rw [hl] at h
    injection h with h
    subst h
    exact ⟨A, c, rfl, hB, h1, h2⟩
theorem clone32 {l : List Int} (h : l.length = 32) : hClone.f l = some l := by
  unfold hClone.f
  rw [if_pos (by omega)]
def dRead (l0 : List S39) (l1 : List S49) (at_ : Int) : List Int × Int :=
  if dAsked l0 l1 at_ = 0 then (match lastP l1 at_ with | some p => (p.f1, 0) | none => if (rd_T39 l0 at_).f1 = true then ([], 50) else ((rd_T39 l0 at_).f0, 0)) else ([], dAsked l0 l1 at_)
def hRead.f (l0 : List S39) (l1 : List S49) (at_ : Int) : Option (List Int × Int) := some (dRead l0 l1 at_)
set_option maxHeartbeats 4000000 in
set_option maxRecDepth 100000 in
theorem hRead.calls (A0_0 : Option Addr) (c0_0 : Nat) (l0_0 : List S39) (A0_1 : Option Addr) (c0_1 : Nat) (l0_1 : List S49) (a1 : Int) (r1 : List Int) (r2 : Int) (w : World) (hr0_0 : Kd.C k39 w A0_0 l0_0.length l0_0) (hc0_0 : l0_0.length ≤ c0_0) (hr0_1 : Kd.C k49 w A0_1 l0_1.length l0_1) (hc0_1 : l0_1.length ≤ c0_1) (h : hRead.f l0_0 l0_1 a1 = some (r1, r2)) :
    Calls Try.prog 17 #[.agg #[.slice A0_0 l0_0.length c0_0, .slice A0_1 l0_1.length c0_1], .int .i64 a1] w fun e w' => ∃ v0_ : Value, e = .returned (.tuple #[v0_, .int .i64 r2]) ∧ Kd.R (Kd.int .u8) 5 w' w.heap.size (fun _ => True) v0_ r1 ∧ Below w.heap.size w w' := by
  have hu25 := Try.underlying25
  have hu65 := Try.underlying49
  have H : Aside0 (dRead l0_0 l0_1 a1 = (r1, r2)) := ⟨by unfold hRead.f at h; injection h⟩
  clear h
  have HR0 := Aside0.mk hr0_0
  have HR1 := Aside0.mk hr0_1
  have HC0 := Aside0.mk hc0_0
  have HC1 := Aside0.mk hc0_1
  have hm0 : l0_0.length ≤ 9223372036854775807 := hr0_0.2.1
  clear hr0_0 hr0_1 hc0_0 hc0_1
  have hB0 := below_alloc (Below.refl w.heap.size w) (.cells #[.slice A0_0 l0_0.length c0_0, .slice A0_1 l0_1.length c0_1] 25)
  have HB0 := Aside0.mk hB0
  have HK0 := Aside0.mk (heap_alloc_new w (.cells #[.slice A0_0 l0_0.length c0_0, .slice A0_1 l0_1.length c0_1] 25))
  clear hB0
  have HASK := fun (W : World) (hb : Below w.heap.size w W) => disk_asked.calls A0_0 c0_0 l0_0 A0_1 c0_1 l0_1 a1 (dAsked l0_0 l0_1 a1) W (Kd.C_below HR0.out hb) HC0.out (Kd.C_below HR1.out hb) HC1.out (dAsked_is l0_0 l0_1 a1)
  have HASK := Aside0.mk HASK
  by_cases ha : dAsked l0_0 l0_1 a1 = 0
  · obtain ⟨hok, h0, h1⟩ := dAsked_ok ha
    have hdr := H.out
    unfold dRead at hdr
    rw [if_pos ha] at hdr
    have hb : (dAsked l0_0 l0_1 a1 != 0) = false := by simpa using ha
    have HBZ := Aside0.mk hb
    have HOK := Aside0.mk hok
    clear H ha hok hb
    cases hl : lastP l0_1 a1 with
    | some p =>
      rw [hl] at hdr
      obtain ⟨rfl, rfl⟩ : p.f1 = r1 ∧ 0 = r2 := by simpa using hdr
      have HL := Aside0.mk hl
      have H32 := Aside0.mk (okDisk_pend HOK.out p (lastP_mem hl)).1
      clear hdr hl
      have hbz := HBZ.out
      go_enter Try.func17, Try.ntmps17
      go_wp2_with (first
        | (go_at_call 57; refine (HASK.out _ HB0.out).mono ?_; rintro e w1 ⟨rfl, hb1⟩; have HB1 := Aside0.mk (below_step HB0.out hb1); have HK1 := Aside0.mk ((hb1.block _ (by simp)).trans HK0.out); have hq0 : w1.cell? ⟨w.heap.size, 0, none⟩ = some (.slice A0_0 l0_0.length c0_0) := (blk_cell HK1.out 0).trans rfl; have hq1 : w1.cell? ⟨w.heap.size, 1, none⟩ = some (.slice A0_1 l0_1.length c0_1) := (blk_cell HK1.out 1).trans rfl; clear hb1)
        | (go_at_call 58; refine (hLast.is_some p _ _ _ _ _ l0_1 a1 _ (Kd.C_below HR1.out HB1.out) HL.out).mono ?_; rintro e w2 ⟨A, c, rfl, hb2, hc2, hr2⟩; have HB2 := Aside0.mk (below_step HB1.out hb2); have HC2 := Aside0.mk hc2; have HR2 := Aside0.mk (Kd.C_below hr2 hb2); clear hb2 hc2 hr2)
        | (go_at_call 59; refine (hClone.calls A c p.f1 p.f1 _ (Kd.C_alloc HR2.out _) HC2.out (clone32 H32.out)).mono ?_; rintro e w3 ⟨v3, rfl, ho3, hb3⟩; have HB3 := Aside0.mk (below_step (below_alloc HB2.out _) hb3); have HO3 := Aside0.mk (Kd.R_lower ho3 (below_size (below_alloc HB2.out _))); clear ho3 hb3))
      go_ret2
      exact ⟨_, rfl, HO3.out, HB3.out⟩
    | none =>
      rw [hl] at hdr
      have HL := Aside0.mk hl
      clear hl
      have hs := okDisk_sec HOK.out (rd_T39 l0_0 a1) (rd_mem h0 h1)
      obtain ⟨ad, A1, c1, rfl, hx0, hx1, hl1, hi1⟩ := at_T39 HR0.out a1 h0 h1
      have HX0 := Aside0.mk hx0
      have HX1 := Aside0.mk hx1
      have HI := Aside0.mk hi1
      have HL1 := Aside0.mk hl1
      have HS := Aside0.mk hs
      clear hx0 hx1 hi1 hl1 hs
      cases hbad : (rd_T39 l0_0 a1).f1 with
      | true =>
        obtain ⟨rfl, rfl⟩ : [] = r1 ∧ 50 = r2 := by simpa [hbad] using hdr
        have HBD := Aside0.mk hbad
        clear hdr hbad
        have hbz := HBZ.out
        go_enter Try.func17, Try.ntmps17
        go_wp2_with (first
          | (go_at_call 57; refine (HASK.out _ HB0.out).mono ?_; rintro e w1 ⟨rfl, hb1⟩; have HB1 := Aside0.mk (below_step HB0.out hb1); have HK1 := Aside0.mk ((hb1.block _ (by simp)).trans HK0.out); have hq0 : w1.cell? ⟨w.heap.size, 0, none⟩ = some (.slice (some ad) l0_0.length c0_0) := (blk_cell HK1.out 0).trans rfl; have hq1 : w1.cell? ⟨w.heap.size, 1, none⟩ = some (.slice A0_1 l0_1.length c0_1) := (blk_cell HK1.out 1).trans rfl; clear hb1)
          | (go_at_call 58; refine (hLast.is_none _ _ _ _ _ l0_1 a1 _ (Kd.C_below HR1.out HB1.out) HL.out).mono ?_; rintro e w2 ⟨rfl, hb2⟩; have HB2 := Aside0.mk (below_step HB1.out hb2); have HK2 := Aside0.mk ((hb2.block _ (blk_lt HK1.out)).trans HK1.out); have hs0 : w2.cell? ⟨w.heap.size, 0, none⟩ = some (.slice (some ad) l0_0.length c0_0) := (blk_cell HK2.out 0).trans rfl; have hs1 : w.heap.size < w2.heap.size := blk_lt HK2.out; have hx1 : w2.cell? ⟨(ad.add (a1.toNat * 2)).block, (ad.add (a1.toNat * 2)).off + 1, none⟩ = some (.bool true) := ((HB2.out.cell (World.block_lt_of_cell? w _ HX1.out)).trans HX1.out).trans (by rw [HBD.out]); have hlt : (ad.add (a1.toNat * 2)).block < w2.heap.size := Nat.lt_of_lt_of_le (World.block_lt_of_cell? w _ HX0.out) HB2.out.size; clear hb2))
        go_ret2
        exact ⟨_, rfl, Kd.R_nil _ _ _ _ _, below_alloc HB2.out _⟩
      | false =>
        obtain ⟨rfl, rfl⟩ : (rd_T39 l0_0 a1).f0 = r1 ∧ 0 = r2 := by simpa [hbad] using hdr
        have HBD := Aside0.mk hbad
        clear hdr hbad
        have hbz := HBZ.out
        go_enter Try.func17, Try.ntmps17
        go_wp2_with (first
          | (go_at_call 57; refine (HASK.out _ HB0.out).mono ?_; rintro e w1 ⟨rfl, hb1⟩; have HB1 := Aside0.mk (below_step HB0.out hb1); have HK1 := Aside0.mk ((hb1.block _ (by simp)).trans HK0.out); have hq0 : w1.cell? ⟨w.heap.size, 0, none⟩ = some (.slice (some ad) l0_0.length c0_0) := (blk_cell HK1.out 0).trans rfl; have hq1 : w1.cell? ⟨w.heap.size, 1, none⟩ = some (.slice A0_1 l0_1.length c0_1) := (blk_cell HK1.out 1).trans rfl; clear hb1)
          | (go_at_call 58; refine (hLast.is_none _ _ _ _ _ l0_1 a1 _ (Kd.C_below HR1.out HB1.out) HL.out).mono ?_; rintro e w2 ⟨rfl, hb2⟩; have HB2 := Aside0.mk (below_step HB1.out hb2); have HK2 := Aside0.mk ((hb2.block _ (blk_lt HK1.out)).trans HK1.out); have hs0 : w2.cell? ⟨w.heap.size, 0, none⟩ = some (.slice (some ad) l0_0.length c0_0) := (blk_cell HK2.out 0).trans rfl; have hs1 : w.heap.size < w2.heap.size := blk_lt HK2.out; have hx1 : w2.cell? ⟨(ad.add (a1.toNat * 2)).block, (ad.add (a1.toNat * 2)).off + 1, none⟩ = some (.bool false) := ((HB2.out.cell (World.block_lt_of_cell? w _ HX1.out)).trans HX1.out).trans (by rw [HBD.out]); have hx0 : w2.cell? (ad.add (a1.toNat * 2)) = some (.slice A1 (rd_T39 l0_0 a1).f0.length c1) := (HB2.out.cell (World.block_lt_of_cell? w _ HX0.out)).trans HX0.out; have hlt : (ad.add (a1.toNat * 2)).block < w2.heap.size := Nat.lt_of_lt_of_le (World.block_lt_of_cell? w _ HX0.out) HB2.out.size; clear hb2)
          | (go_at_call 59; refine (hClone.calls A1 c1 (rd_T39 l0_0 a1).f0 (rd_T39 l0_0 a1).f0 _ (Kd.C_below HI.out (below_alloc HB2.out _)) HL1.out (clone32 HS.out)).mono ?_; rintro e w3 ⟨v3, rfl, ho3, hb3⟩; have HB3 := Aside0.mk (below_step (below_alloc HB2.out _) hb3); have HO3 := Aside0.mk (Kd.R_lower ho3 (below_size (below_alloc HB2.out _))); clear ho3 hb3))
        go_ret2
        exact ⟨_, rfl, HO3.out, HB3.out⟩
  · obtain ⟨rfl, rfl⟩ : [] = r1 ∧ dAsked l0_0 l0_1 a1 = r2 := by
      have := H.out
      unfold dRead at this
      rw [if_neg ha] at this
      simpa using this
    have hb : (dAsked l0_0 l0_1 a1 != 0) = true := by simpa using ha
    clear H ha
    go_enter Try.func17, Try.ntmps17
    go_wp2_with (go_at_call 57; refine (HASK.out _ HB0.out).mono ?_; rintro e w1 ⟨rfl, hb1⟩; have HB1 := Aside0.mk (below_step HB0.out hb1); clear hb1)
    go_ret2
    exact ⟨_, rfl, Kd.R_nil _ _ _ _ _, HB1.out⟩
def dWaits (l0 : List S39) (l1 : List S49) (at_ : Int) : Bool × Int := if dAsked l0 l1 at_ = 0 then ((lastP l1 at_).isSome, 0) else (false, dAsked l0 l1 at_)
def hWaits.f (l0 : List S39) (l1 : List S49) (at_ : Int) : Option (Bool × Int) := some (dWaits l0 l1 at_)
set_option maxHeartbeats 4000000 in
set_option maxRecDepth 100000 in
theorem hWaits.calls (A0_0 : Option Addr) (c0_0 : Nat) (l0_0 : List S39) (A0_1 : Option Addr) (c0_1 : Nat) (l0_1 : List S49) (a1 : Int) (r1 : Bool) (r2 : Int) (w : World) (hr0_0 : Kd.C k39 w A0_0 l0_0.length l0_0) (hc0_0 : l0_0.length ≤ c0_0) (hr0_1 : Kd.C k49 w A0_1 l0_1.length l0_1) (hc0_1 : l0_1.length ≤ c0_1) (h : hWaits.f l0_0 l0_1 a1 = some (r1, r2)) :
    Calls Try.prog 20 #[.agg #[.slice A0_0 l0_0.length c0_0, .slice A0_1 l0_1.length c0_1], .int .i64 a1] w fun e w' => e = .returned (.tuple #[.bool r1, .int .i64 r2]) ∧ Below w.heap.size w w' := by
  have hu25 := Try.underlying25
  have hu65 := Try.underlying49
  have H : Aside0 (dWaits l0_0 l0_1 a1 = (r1, r2)) := ⟨by unfold hWaits.f at h; injection h⟩
  clear h
  have HR0 := Aside0.mk hr0_0
  have HR1 := Aside0.mk hr0_1
  have HC0 := Aside0.mk hc0_0
  have HC1 := Aside0.mk hc0_1
  clear hr0_0 hr0_1 hc0_0 hc0_1
  have HB0 := Aside0.mk (below_alloc (Below.refl w.heap.size w) (.cells #[.slice A0_0 l0_0.length c0_0, .slice A0_1 l0_1.length c0_1] 25))
  have HK0 := Aside0.mk (heap_alloc_new w (.cells #[.slice A0_0 l0_0.length c0_0, .slice A0_1 l0_1.length c0_1] 25))
  have HASK := Aside0.mk (fun (W : World) (hb : Below w.heap.size w W) => disk_asked.calls A0_0 c0_0 l0_0 A0_1 c0_1 l0_1 a1 (dAsked l0_0 l0_1 a1) W (Kd.C_below HR0.out hb) HC0.out (Kd.C_below HR1.out hb) HC1.out (dAsked_is l0_0 l0_1 a1))
  by_cases ha : dAsked l0_0 l0_1 a1 = 0
  · have hdr := H.out
    unfold dWaits at hdr
    rw [if_pos ha] at hdr
    have hbz : (dAsked l0_0 l0_1 a1 != 0) = false := by simpa using ha
    clear H ha
    cases hl : lastP l0_1 a1 with
    | some p =>
      obtain ⟨rfl, rfl⟩ : true = r1 ∧ 0 = r2 := by simpa [hl] using hdr
      have HL := Aside0.mk hl
      clear hdr hl
      go_enter Try.func20, Try.ntmps20
      go_wp2_with (first
        | (go_at_call 57; refine (HASK.out _ HB0.out).mono ?_; rintro e w1 ⟨rfl, hb1⟩; have HB1 := Aside0.mk (below_step HB0.out hb1); have HK1 := Aside0.mk ((hb1.block _ (by simp)).trans HK0.out); have hq0 : w1.cell? ⟨w.heap.size, 0, none⟩ = some (.slice A0_0 l0_0.length c0_0) := (blk_cell HK1.out 0).trans rfl; have hq1 : w1.cell? ⟨w.heap.size, 1, none⟩ = some (.slice A0_1 l0_1.length c0_1) := (blk_cell HK1.out 1).trans rfl; clear hb1)
        | (go_at_call 58; refine (hLast.is_some p _ _ _ _ _ l0_1 a1 _ (Kd.C_below HR1.out HB1.out) HL.out).mono ?_; rintro e w2 ⟨A, c, rfl, hb2, hc2, hr2⟩; have HB2 := Aside0.mk (below_step HB1.out hb2); clear hb2 hc2 hr2))
      go_ret2
      exact ⟨rfl, below_alloc HB2.out _⟩
    | none =>
      obtain ⟨rfl, rfl⟩ : false = r1 ∧ 0 = r2 := by simpa [hl] using hdr
      have HL := Aside0.mk hl
      clear hdr hl
      go_enter Try.func20, Try.ntmps20
      go_wp2_with (first
        | (go_at_call 57; refine (HASK.out _ HB0.out).mono ?_; rintro e w1 ⟨rfl, hb1⟩; have HB1 := Aside0.mk (below_step HB0.out hb1); have HK1 := Aside0.mk ((hb1.block _ (by simp)).trans HK0.out); have hq0 : w1.cell? ⟨w.heap.size, 0, none⟩ = some (.slice A0_0 l0_0.length c0_0) := (blk_cell HK1.out 0).trans rfl; have hq1 : w1.cell? ⟨w.heap.size, 1, none⟩ = some (.slice A0_1 l0_1.length c0_1) := (blk_cell HK1.out 1).trans rfl; clear hb1)
        | (go_at_call 58; refine (hLast.is_none _ _ _ _ _ l0_1 a1 _ (Kd.C_below HR1.out HB1.out) HL.out).mono ?_; rintro e w2 ⟨rfl, hb2⟩; have HB2 := Aside0.mk (below_step HB1.out hb2); clear hb2))
      go_ret2
      exact ⟨rfl, below_alloc HB2.out _⟩
  · obtain ⟨rfl, rfl⟩ : false = r1 ∧ dAsked l0_0 l0_1 a1 = r2 := by
      have := H.out
      unfold dWaits at this
      rw [if_neg ha] at this
      simpa using this
    have hb : (dAsked l0_0 l0_1 a1 != 0) = true := by simpa using ha
    clear H ha
    go_enter Try.func20, Try.ntmps20
    go_wp2_with (go_at_call 57; refine (HASK.out _ HB0.out).mono ?_; rintro e w1 ⟨rfl, hb1⟩; have HB1 := Aside0.mk (below_step HB0.out hb1); clear hb1)
    go_ret2
    exact ⟨rfl, HB1.out⟩
end Go.Proofs.Ytdkjhcdniepbhaa.P
end
section
set_option linter.unusedVariables false
set_option linter.unusedSimpArgs false
namespace Go.Proofs.Ytdkjhcdniepbhaa.P
open Go.RowKit Go.Proofs.PrintWords Go.Proofs.PrintLast Go.Proofs.PrintMore
attribute [local go_sem] max2_int min2_int max_two min_two max_three min_three max_four min_four
def pgAll (t n : Int) : Int := if n < pgs t - 1 then 255 else (match t with
  | 1 => 1 | 2 => 3 | 3 => 7 | 4 => 15 | 5 => 31 | 6 => 63 | 7 => 127 | 8 => 255 | 9 => 1 | 10 => 3 | 11 => 7 | 12 => 15 | 13 => 31 | 14 => 63 | 15 => 127 | _ => 255)
def pgAlls (t : Int) : List Int := (List.range (pgs t).toNat).map fun (i : Nat) => pgAll t (i : Int)
theorem bitsAll_1 : bits_All.f 1 = some (pgAlls 1, 0) := by kernel_rfl
theorem bitsAll_2 : bits_All.f 2 = some (pgAlls 2, 0) := by kernel_rfl
theorem bitsAll_3 : bits_All.f 3 = some (pgAlls 3, 0) := by kernel_rfl
theorem bitsAll_4 : bits_All.f 4 = some (pgAlls 4, 0) := by kernel_rfl
theorem bitsAll_5 : bits_All.f 5 = some (pgAlls 5, 0) := by kernel_rfl
theorem bitsAll_6 : bits_All.f 6 = some (pgAlls 6, 0) := by kernel_rfl
theorem bitsAll_7 : bits_All.f 7 = some (pgAlls 7, 0) := by kernel_rfl
theorem bitsAll_8 : bits_All.f 8 = some (pgAlls 8, 0) := by kernel_rfl
theorem bitsAll_9 : bits_All.f 9 = some (pgAlls 9, 0) := by kernel_rfl
theorem bitsAll_10 : bits_All.f 10 = some (pgAlls 10, 0) := by kernel_rfl
theorem bitsAll_11 : bits_All.f 11 = some (pgAlls 11, 0) := by kernel_rfl
theorem bitsAll_12 : bits_All.f 12 = some (pgAlls 12, 0) := by kernel_rfl
theorem bitsAll_13 : bits_All.f 13 = some (pgAlls 13, 0) := by kernel_rfl
theorem bitsAll_14 : bits_All.f 14 = some (pgAlls 14, 0) := by kernel_rfl
theorem bitsAll_15 : bits_All.f 15 = some (pgAlls 15, 0) := by kernel_rfl
theorem bitsAll_16 : bits_All.f 16 = some (pgAlls 16, 0) := by kernel_rfl
theorem bitsAll_of {t : Int} (h : 1 ≤ t ∧ t ≤ 16) : bits_All.f t = some (pgAlls t, 0) := by
  have : t = 1 ∨ t = 2 ∨ t = 3 ∨ t = 4 ∨ t = 5 ∨ t = 6 ∨ t = 7 ∨ t = 8 ∨ t = 9 ∨ t = 10 ∨ t = 11 ∨ t = 12 ∨ t = 13 ∨ t = 14 ∨ t = 15 ∨ t = 16 := by omega
  rcases this with rfl | rfl | rfl | rfl | rfl | rfl | rfl | rfl | rfl | rfl | rfl | rfl | rfl | rfl | rfl | rfl
  · exact bitsAll_1
  · exact bitsAll_2
  · exact bitsAll_3
  · exact bitsAll_4
  · exact bitsAll_5
  · exact bitsAll_6
  · exact bitsAll_7
  · exact bitsAll_8
  · exact bitsAll_9
  · exact bitsAll_10
  · exact bitsAll_11
  · exact bitsAll_12
  · exact bitsAll_13
  · exact bitsAll_14
  · exact bitsAll_15
  · exact bitsAll_16
theorem pgAlls_len (t : Int) : (pgAlls t).length = (pgs t).toNat := by simp [pgAlls]
theorem pgAlls_rd {t : Int} {n : Int} (h0 : 0 ≤ n) (h1 : n < pgs t) : rd (pgAlls t) n = pgAll t n := by
  obtain ⟨j, rfl⟩ := Int.eq_ofNat_of_zero_le h0
  have hl := pgAlls_len t
  rw [rd_at (by omega)]
  simp [pgAlls]
def pgAt (p t a pair n : Int) : Int := 2 + 2 * a + (pair * pgs t + n)
def pgIn (p t pair n : Int) : Prop := (0 ≤ pair ∧ pair < p) ∧ (0 ≤ n ∧ n < pgs t)
instance pgIn_dec (p t pair n : Int) : Decidable (pgIn p t pair n) := by unfold pgIn; exact inferInstance
theorem pageAt_is {p t a m w q pair n : Int} (hc : okCfg p t a m w q = true) (hi : pgIn p t pair n) : page_at.f p t a m w q pair n = some (pgAt p t a pair n, pgAll t n, 0) := by
  have hb := (okCfg_iff p t a m w q).1 hc
  have hp := pgs_bound t
  obtain ⟨h1, h2⟩ := hi
  unfold page_at.f place_Page.f hFind.f dFind
  rw [if_pos (by simp), hc]
  simp only [if_true, Option.bind_some]
  have hl := pgAlls_len t
  rw [if_neg (show ¬ ((3 : Int) = 2) by decide), if_pos (show ([(pair, 0, p - 1), (n, 0, pgs t - 1)] : List (Int × Int × Int)).all inB = true by simp [inB]; omega)]
  simp only [if_true]
  rw [bitsAll_of hb.2.1, Option.bind_some, if_pos h2.1]
  simp only []
  rw [if_pos (by omega), pgAlls_rd h2.1 h2.2]
  rfl
def pgText (pair n b : Int) : List Int := [1, pair % 256, n % 256, b] ++ List.replicate 28 0
theorem pageText_is (pair n b : Int) : page_text.f pair n b = some (pgText pair n b) := by
  unfold page_text.f pgText
  rw [if_pos (by omega), Option.bind_some]
  rfl
theorem only_l0 (x : List Int) (hx : x.length ≤ 100000) : ∀ d k n, x.length = n + d → d < k → (x.take n).all (· == 0) = true → page_list_byte_only.l0 k 0 x (x.length : Int) (n : Int) = some (x.all (· == 0))
  | 0, k, n, hn, hk, ha => by
    obtain ⟨k, rfl⟩ : ∃ m, k = m + 1 := ⟨k - 1, by omega⟩
    simp only [page_list_byte_only.l0]
    rw [if_neg (by omega)]
    rw [List.take_of_length_le (by omega)] at ha
    rw [ha]
  | d + 1, k, n, hn, hk, ha => by
    obtain ⟨k, rfl⟩ : ∃ m, k = m + 1 := ⟨k - 1, by omega⟩
    simp only [page_list_byte_only.l0]
    have hlt : n < x.length := by omega
    rw [if_pos (by omega), if_pos (by omega), if_pos (by omega)]
    by_cases h : rd x (n : Int) = 0
    · rw [if_pos h, wrap_succ (by omega)]
      refine only_l0 x hx d k (n + 1) (by omega) (by omega) ?_
      rw [List.take_succ_eq_append_getElem hlt, List.all_append, ha, ← rd_at hlt, h]
      rfl
    · rw [if_neg h]
      have : x.all (· == 0) = false := by
        rw [List.all_eq_false]
        exact ⟨x[n], List.getElem_mem hlt, by rw [← rd_at hlt]; simpa using h⟩
      rw [this]
theorem only_is (k : Nat) (x : List Int) (hk : x.length + 1 ≤ k) (hx : x.length ≤ 100000) : page_list_byte_only.f k x 0 = some (x.all (· == 0)) := only_l0 x hx x.length k 0 (by omega) (by omega) rfl
def pgTold (pair n all : Int) (x : List Int) (e : Int) : Int :=
  if e = 0 then (if x.all (· == 0) = true then 0 else if Go.bits .andNot .u8 (rd x 3) all = 0 then (if ((strOfNums x).toList == (strOfNums (pgText pair n (rd x 3))).toList) = true then rd x 3 else all) else all) else all
def hTold.f (p t a m w q : Int) (l0 : List S39) (l1 : List S49) (pair n : Int) : Option Int :=
  if okCfg p t a m w q = true ∧ pgIn p t pair n ∧ ((dRead l0 l1 (pgAt p t a pair n)).2 ≠ 0 ∨ (dRead l0 l1 (pgAt p t a pair n)).1.length = 32) then some (pgTold pair n (pgAll t n) (dRead l0 l1 (pgAt p t a pair n)).1 (dRead l0 l1 (pgAt p t a pair n)).2) else none
theorem u8_blkR {w : World} {b : Nat} {ok : Nat → Prop} {v : Value} {xs : List Int} (h : (Kd.int .u8).R 5 w b ok v xs) (hn : 0 < xs.length) : ∃ g c, v = .slice (some ⟨g, 0, none⟩) xs.length c := by
  obtain ⟨_, inner, ho, _⟩ := h
  rcases ho.2 with ⟨_, hi⟩ | ⟨g, cap, cur, he, _, _, h1, _⟩
  · omega
  · exact ⟨g, cap, he⟩
def hTold.T4 : Bool × List (List Nat × List Nat) := (true, [([], []), ([0], [0]), ([1], [1]), ([], []), ([2, 3], [2, 3]), ([4], [4]), ([5], [5]), ([6], [6]), ([7, 6], [6, 7]), ([6], [6]), ([6], [6]), ([6], [6]), ([11, 6], [6, 11]), ([12, 6], [6, 12]), ([9, 10, 13, 6, 6], [6, 9, 10, 13]), ([14, 6], [6, 14]), ([8, 15, 6], [6, 8, 15]), ([6, 16], [6, 16])])
def hTold.B4 : List Nat := [0, 1, 3, 0, 15, 31, 63, 127, 255, 127, 127, 127, 2175, 6271, 15999, 32383, 65535, 131071]
theorem hTold.tab4 : rtab .any (opsOf Try.f78 4) = hTold.T4 := by kernel_rfl
theorem hTold.bits4 : waitsOk hTold.T4.2 hTold.B4 = true := by kernel_rfl
set_option maxHeartbeats 8000000 in
set_option maxRecDepth 100000 in
theorem hTold.calls (a0_0 a0_1 a0_2 a0_3 a0_4 a0_5 : Int) (A1_0 : Option Addr) (c1_0 : Nat) (l1_0 : List S39) (A1_1 : Option Addr) (c1_1 : Nat) (l1_1 : List S49) (a2 a3 : Int) (r : Int) (w : World) (hr1_0 : Kd.C k39 w A1_0 l1_0.length l1_0) (hc1_0 : l1_0.length ≤ c1_0) (hr1_1 : Kd.C k49 w A1_1 l1_1.length l1_1) (hc1_1 : l1_1.length ≤ c1_1) (h : hTold.f a0_0 a0_1 a0_2 a0_3 a0_4 a0_5 l1_0 l1_1 a2 a3 = some r) :
    Calls Try.prog 78 #[.agg #[.int .i64 a0_0, .int .i64 a0_1, .int .i64 a0_2, .int .i64 a0_3, .int .i64 a0_4, .int .i64 a0_5], .agg #[.slice A1_0 l1_0.length c1_0, .slice A1_1 l1_1.length c1_1], .int .i64 a2, .int .i64 a3] w fun e w' => e = .returned (.int .u8 r) ∧ Below w.heap.size w w' := by
  have hu25 := Try.underlying25
  have hu44 := Try.underlying44
  unfold hTold.f at h
  by_cases hcond : okCfg a0_0 a0_1 a0_2 a0_3 a0_4 a0_5 = true ∧ pgIn a0_0 a0_1 a2 a3 ∧ ((dRead l1_0 l1_1 (pgAt a0_0 a0_1 a0_2 a2 a3)).2 ≠ 0 ∨ (dRead l1_0 l1_1 (pgAt a0_0 a0_1 a0_2 a2 a3)).1.length = 32)
  rotate_left
  · rw [if_neg hcond] at h
    cases h
  rw [if_pos hcond] at h
  injection h with h
  obtain ⟨hc, hi, h32⟩ := hcond
  have HA := Aside0.mk (pageAt_is hc hi)
  obtain ⟨⟨x, er⟩, hx⟩ : ∃ y, dRead l1_0 l1_1 (pgAt a0_0 a0_1 a0_2 a2 a3) = y := ⟨_, rfl⟩
  have FR := Aside0.mk (show hRead.f l1_0 l1_1 (pgAt a0_0 a0_1 a0_2 a2 a3) = some (x, er) by unfold hRead.f; rw [hx])
  rw [hx] at h h32
  have H := Aside0.mk h
  have H32 := Aside0.mk h32
  have HR0 := Aside0.mk hr1_0
  have HR1 := Aside0.mk hr1_1
  have HC0 := Aside0.mk hc1_0
  have HC1 := Aside0.mk hc1_1
  clear h h32 hx hc hi hr1_0 hr1_1 hc1_0 hc1_1
  generalize pgAt a0_0 a0_1 a0_2 a2 a3 = sec at HA FR
  generalize pgAll a0_1 a3 = all at HA H
  by_cases he : er = 0
  rotate_left
  · have hb1 : (er != 0) = true := bne_iff_ne.2 he
    obtain rfl : all = r := by have := H.out; unfold pgTold at this; rwa [if_neg he] at this
    clear H he
    go_enter Try.func78, Try.ntmps78
    go_wp2_with (first
      | ((with_reducible refine gate_dst (N := 4) rfl ?_); refine box_event ?hg (N := 4) ?hd (cs := #[.int .i64 a0_0, .int .i64 a0_1, .int .i64 a0_2, .int .i64 a0_3, .int .i64 a0_4, .int .i64 a0_5]) (t := 44) ?hr ?_; (case hd => rfl); (case hg => rfl); (case hr => first | (go_simp; done) | (go_simp; rfl)); intro g1 hg w1 hbox hb; have HB := Aside0.mk hb; have BK1 := Aside0.mk hbox; clear hg hbox hb)
      | ((with_reducible refine gate_dst (N := 5) rfl ?_); refine box_event ?hg (N := 5) ?hd (cs := #[.slice A1_0 l1_0.length c1_0, .slice A1_1 l1_1.length c1_1]) (t := 25) ?hr ?_; (case hd => rfl); (case hg => rfl); (case hr => first | (go_simp; done) | (go_simp; rfl)); intro g2 hg w2 hbox hb; have BK2 := Aside0.mk hbox; have HB2 := Aside0.mk (below_step HB.out hb); have hc0 : w2.cell? ⟨g1, 0, none⟩ = some (.int .i64 a0_0) := (blk_cell (blk_below BK1.out hb) 0).trans rfl; have hc1 : w2.cell? ⟨g1, 1, none⟩ = some (.int .i64 a0_1) := (blk_cell (blk_below BK1.out hb) 1).trans rfl; have hc2 : w2.cell? ⟨g1, 2, none⟩ = some (.int .i64 a0_2) := (blk_cell (blk_below BK1.out hb) 2).trans rfl; have hc3 : w2.cell? ⟨g1, 3, none⟩ = some (.int .i64 a0_3) := (blk_cell (blk_below BK1.out hb) 3).trans rfl; have hc4 : w2.cell? ⟨g1, 4, none⟩ = some (.int .i64 a0_4) := (blk_cell (blk_below BK1.out hb) 4).trans rfl; have hc5 : w2.cell? ⟨g1, 5, none⟩ = some (.int .i64 a0_5) := (blk_cell (blk_below BK1.out hb) 5).trans rfl; clear hg hbox hb))
    go_step3
    go_wp2_with (first
      | (go_at_call 111; refine (page_at.calls _ _ _ _ _ _ _ _ _ _ _ _ HA.out).mono ?_; rintro e w3 ⟨rfl, hq⟩; have HB3 := Aside0.mk (below_step HB2.out hq); have BK3 := Aside0.mk (blk_below BK2.out hq); have hz0 : w3.cell? ⟨g2, 0, none⟩ = some (.slice A1_0 l1_0.length c1_0) := (blk_cell BK3.out 0).trans rfl; have hz1 : w3.cell? ⟨g2, 1, none⟩ = some (.slice A1_1 l1_1.length c1_1) := (blk_cell BK3.out 1).trans rfl; clear hq hc0 hc1 hc2 hc3 hc4 hc5)
      | (go_at_call 17; refine (hRead.calls A1_0 c1_0 l1_0 A1_1 c1_1 l1_1 sec x er _ (Kd.C_below HR0.out HB3.out) HC0.out (Kd.C_below HR1.out HB3.out) HC1.out FR.out).mono ?_; rintro e w4 ⟨v2, rfl, ho2, hb2⟩; obtain ⟨Ax, cx, ex⟩ := Kd.R_slice ho2; subst ex; have HB4 := Aside0.mk (below_step HB3.out hb2); have HX := Aside0.mk (Kd.R_reads' ho2).2; clear ho2 hb2 hz0 hz1))
    go_step3
    go_wp2_with (fail)
    try rw [Exit.noGoto_ret]
    go_ret
    exact ⟨rfl, HB4.out⟩
  subst he
  have hxl : x.length = 32 := H32.out.resolve_left (fun h => h rfl)
  have HXP := Aside0.mk (show 0 < x.length by omega)
  cases hz : x.all (· == 0) with
  | true =>
    obtain rfl : 0 = r := by have := H.out; unfold pgTold at this; rwa [if_pos rfl, if_pos hz] at this
    have HO := Aside0.mk (show page_list_byte_only.f 40 x 0 = some true by rw [only_is 40 x (by omega) (by omega), hz])
    clear H hz hxl
    go_enter Try.func78, Try.ntmps78
    go_wp2_with (first
      | ((with_reducible refine gate_dst (N := 4) rfl ?_); refine box_event ?hg (N := 4) ?hd (cs := #[.int .i64 a0_0, .int .i64 a0_1, .int .i64 a0_2, .int .i64 a0_3, .int .i64 a0_4, .int .i64 a0_5]) (t := 44) ?hr ?_; (case hd => rfl); (case hg => rfl); (case hr => first | (go_simp; done) | (go_simp; rfl)); intro g1 hg w1 hbox hb; have HB := Aside0.mk hb; have BK1 := Aside0.mk hbox; clear hg hbox hb)
      | ((with_reducible refine gate_dst (N := 5) rfl ?_); refine box_event ?hg (N := 5) ?hd (cs := #[.slice A1_0 l1_0.length c1_0, .slice A1_1 l1_1.length c1_1]) (t := 25) ?hr ?_; (case hd => rfl); (case hg => rfl); (case hr => first | (go_simp; done) | (go_simp; rfl)); intro g2 hg w2 hbox hb; have BK2 := Aside0.mk hbox; have HB2 := Aside0.mk (below_step HB.out hb); have hc0 : w2.cell? ⟨g1, 0, none⟩ = some (.int .i64 a0_0) := (blk_cell (blk_below BK1.out hb) 0).trans rfl; have hc1 : w2.cell? ⟨g1, 1, none⟩ = some (.int .i64 a0_1) := (blk_cell (blk_below BK1.out hb) 1).trans rfl; have hc2 : w2.cell? ⟨g1, 2, none⟩ = some (.int .i64 a0_2) := (blk_cell (blk_below BK1.out hb) 2).trans rfl; have hc3 : w2.cell? ⟨g1, 3, none⟩ = some (.int .i64 a0_3) := (blk_cell (blk_below BK1.out hb) 3).trans rfl; have hc4 : w2.cell? ⟨g1, 4, none⟩ = some (.int .i64 a0_4) := (blk_cell (blk_below BK1.out hb) 4).trans rfl; have hc5 : w2.cell? ⟨g1, 5, none⟩ = some (.int .i64 a0_5) := (blk_cell (blk_below BK1.out hb) 5).trans rfl; clear hg hbox hb))
    go_step3
    go_wp2_with (first
      | (go_at_call 111; refine (page_at.calls _ _ _ _ _ _ _ _ _ _ _ _ HA.out).mono ?_; rintro e w3 ⟨rfl, hq⟩; have HB3 := Aside0.mk (below_step HB2.out hq); have BK3 := Aside0.mk (blk_below BK2.out hq); have hz0 : w3.cell? ⟨g2, 0, none⟩ = some (.slice A1_0 l1_0.length c1_0) := (blk_cell BK3.out 0).trans rfl; have hz1 : w3.cell? ⟨g2, 1, none⟩ = some (.slice A1_1 l1_1.length c1_1) := (blk_cell BK3.out 1).trans rfl; clear hq hc0 hc1 hc2 hc3 hc4 hc5)
      | (go_at_call 17; refine (hRead.calls A1_0 c1_0 l1_0 A1_1 c1_1 l1_1 sec x 0 _ (Kd.C_below HR0.out HB3.out) HC0.out (Kd.C_below HR1.out HB3.out) HC1.out FR.out).mono ?_; rintro e w4 ⟨v2, rfl, ho2, hb2⟩; obtain ⟨gx, cx, ex⟩ := u8_blkR ho2 HXP.out; subst ex; have HB4 := Aside0.mk (below_step HB3.out hb2); have HX := Aside0.mk (Kd.R_reads' ho2).2; clear ho2 hb2 hz0 hz1))
    go_step3
    go_wp2_with ((go_at_call 112; refine (page_list_byte_only.calls 40 (some ⟨gx, 0, none⟩) cx x 0 true _ HX.out.2 HX.out.1 HO.out).mono ?_; rintro e w5 ⟨rfl, hd⟩; have HB5 := Aside0.mk (below_step HB4.out (Drawn0.below hd)); have HX5 := Aside0.mk (Kd.C_below HX.out.2 (Drawn0.below hd)); clear hd))
    try rw [Exit.noGoto_ret]
    go_ret
    exact ⟨rfl, HB5.out⟩
  | false =>
    have HO := Aside0.mk (show page_list_byte_only.f 40 x 0 = some false by rw [only_is 40 x (by omega) (by omega), hz])
    have H := Aside0.mk (show (if Go.bits .andNot .u8 (rd x 3) all = 0 then (if ((strOfNums x).toList == (strOfNums (pgText a2 a3 (rd x 3))).toList) = true then rd x 3 else all) else all) = r by have := H.out; unfold pgTold at this; rwa [if_pos rfl, if_neg (by rw [hz]; simp)] at this)
    clear hz
    have HXL := Aside0.mk hxl
    clear hxl
    obtain ⟨b, hb0⟩ : ∃ b, rd x 3 = b := ⟨_, rfl⟩
    have HB3e := Aside0.mk hb0
    rw [hb0] at H
    clear hb0
    by_cases hn : Go.bits .andNot .u8 b all = 0
    rotate_left
    · have hn1 : (Go.bits .andNot .u8 b all != 0) = true := bne_iff_ne.2 hn
      obtain rfl : all = r := by have := H.out; rwa [if_neg hn] at this
      clear H
      go_enter Try.func78, Try.ntmps78
      go_wp2_with (first
        | ((with_reducible refine gate_dst (N := 4) rfl ?_); refine box_event ?hg (N := 4) ?hd (cs := #[.int .i64 a0_0, .int .i64 a0_1, .int .i64 a0_2, .int .i64 a0_3, .int .i64 a0_4, .int .i64 a0_5]) (t := 44) ?hr ?_; (case hd => rfl); (case hg => rfl); (case hr => first | (go_simp; done) | (go_simp; rfl)); intro g1 hg w1 hbox hb; have HB := Aside0.mk hb; have BK1 := Aside0.mk hbox; clear hg hbox hb)
        | ((with_reducible refine gate_dst (N := 5) rfl ?_); refine box_event ?hg (N := 5) ?hd (cs := #[.slice A1_0 l1_0.length c1_0, .slice A1_1 l1_1.length c1_1]) (t := 25) ?hr ?_; (case hd => rfl); (case hg => rfl); (case hr => first | (go_simp; done) | (go_simp; rfl)); intro g2 hg w2 hbox hb; have BK2 := Aside0.mk hbox; have HB2 := Aside0.mk (below_step HB.out hb); have hc0 : w2.cell? ⟨g1, 0, none⟩ = some (.int .i64 a0_0) := (blk_cell (blk_below BK1.out hb) 0).trans rfl; have hc1 : w2.cell? ⟨g1, 1, none⟩ = some (.int .i64 a0_1) := (blk_cell (blk_below BK1.out hb) 1).trans rfl; have hc2 : w2.cell? ⟨g1, 2, none⟩ = some (.int .i64 a0_2) := (blk_cell (blk_below BK1.out hb) 2).trans rfl; have hc3 : w2.cell? ⟨g1, 3, none⟩ = some (.int .i64 a0_3) := (blk_cell (blk_below BK1.out hb) 3).trans rfl; have hc4 : w2.cell? ⟨g1, 4, none⟩ = some (.int .i64 a0_4) := (blk_cell (blk_below BK1.out hb) 4).trans rfl; have hc5 : w2.cell? ⟨g1, 5, none⟩ = some (.int .i64 a0_5) := (blk_cell (blk_below BK1.out hb) 5).trans rfl; clear hg hbox hb))
      go_step3
      go_wp2_with (first
        | (go_at_call 111; refine (page_at.calls _ _ _ _ _ _ _ _ _ _ _ _ HA.out).mono ?_; rintro e w3 ⟨rfl, hq⟩; have HB3 := Aside0.mk (below_step HB2.out hq); have BK3 := Aside0.mk (blk_below BK2.out hq); have hz0 : w3.cell? ⟨g2, 0, none⟩ = some (.slice A1_0 l1_0.length c1_0) := (blk_cell BK3.out 0).trans rfl; have hz1 : w3.cell? ⟨g2, 1, none⟩ = some (.slice A1_1 l1_1.length c1_1) := (blk_cell BK3.out 1).trans rfl; clear hq hc0 hc1 hc2 hc3 hc4 hc5)
        | (go_at_call 17; refine (hRead.calls A1_0 c1_0 l1_0 A1_1 c1_1 l1_1 sec x 0 _ (Kd.C_below HR0.out HB3.out) HC0.out (Kd.C_below HR1.out HB3.out) HC1.out FR.out).mono ?_; rintro e w4 ⟨v2, rfl, ho2, hb2⟩; obtain ⟨gx, cx, ex⟩ := u8_blkR ho2 HXP.out; subst ex; have HB4 := Aside0.mk (below_step HB3.out hb2); have HX := Aside0.mk (Kd.R_reads' ho2).2; clear ho2 hb2 hz0 hz1))
      go_step3
      go_upto_region 4 with ((go_at_call 112; refine (page_list_byte_only.calls 40 (some ⟨gx, 0, none⟩) cx x 0 false _ HX.out.2 HX.out.1 HO.out).mono ?_; rintro e w5 ⟨rfl, hd⟩; have HB5 := Aside0.mk (below_step HB4.out (Drawn0.below hd)); have HX5 := Aside0.mk (Kd.C_below HX.out.2 (Drawn0.below hd)); clear hd))
      obtain ⟨_, e, hx3⟩ := Kd.at_int HX5.out 3 (by decide) (by rw [HXL.out]; decide)
      injection e with e
      subst e
      replace hx3 : w5.cell? ⟨gx, 3, none⟩ = some (.int .u8 (rd x 3)) := hx3
      rw [HB3e.out] at hx3
      have hbk := World.block_lt_of_cell? w5 _ hx3
      have HSS := Aside0.mk (show ∀ W : World, Below w5.heap.size w5 W → W.cell? ⟨gx, 3, none⟩ = some (.int .u8 b) from fun W hb => (hb.cell hbk).trans hx3)
      have hl3 : (3 : Int) < x.length := by rw [HXL.out]; decide
      clear hx3 hbk
      refine start_ (n := 18) (S := fun w' => w'.cell? ⟨gx, 3, none⟩ = some (.int .u8 b)) (ds := []) #[false, false, false, false, false, false, false, false, false, false, false, false, false, false, false, false, false, false] (by kernel_rfl) rfl rfl (by exact HSS.out _ (bdr1 (Below.refl _ _))) (fun hHeld => ?_); refine wtW hTold.tab4 hTold.bits4 (fun HT_ HW_ => ?_)
      refine pure_ (i := 0) (N := some 30) (v := ?_) (a' := ?_) #[true, false, false, false, false, false, false, false, false, false, false, false, false, false, false, false, false, false] rfl rfl (any_of HT_.out (by kernel_rfl)) (fun _ _ _ h => h) (Or.inl ⟨by rfl, ?_⟩) ?_ ?_
      rotate_left
      · intro w'
        go_simp
        with_reducible rfl
      rotate_left
      · simp only [Act.put, List.setIfInBounds_toArray, List.set_cons_zero, List.set_cons_succ, i64_w, i32_w]
        rfl
      refine pure_ (i := 1) (N := some 31) (v := ?_) (a' := ?_) #[true, true, false, false, false, false, false, false, false, false, false, false, false, false, false, false, false, false] rfl rfl (any_of HT_.out (by kernel_rfl)) (fun _ _ _ h => h) (Or.inl ⟨by rfl, ?_⟩) ?_ ?_
      rotate_left
      · intro w'
        go_simp
        with_reducible rfl
      rotate_left
      · simp only [Act.put, List.setIfInBounds_toArray, List.set_cons_zero, List.set_cons_succ, i64_w, i32_w]
        rfl
      refine take_ (i := 2) (N := some 32) (v := ?_) (a' := ?_) #[true, true, true, false, false, false, false, false, false, false, false, false, false, false, false, false, false, false] rfl rfl (take_ofW HT_.out HW_.out (by kernel_rfl)) (fun _ _ _ h => h) (Or.inl ⟨by rfl, ?_⟩) hHeld ?_ ?_
      rotate_left
      · rintro w' s0
        go_simp
        with_reducible rfl
      rotate_left
      · simp only [Act.put, List.setIfInBounds_toArray, List.set_cons_zero, List.set_cons_succ, i64_w, i32_w]
        rfl
      refine pure_ (i := 3) (N := some 33) (v := ?_) (a' := ?_) #[true, true, true, true, false, false, false, false, false, false, false, false, false, false, false, false, false, false] rfl rfl (any_of HT_.out (by kernel_rfl)) (fun _ _ _ h => h) (Or.inl ⟨by rfl, ?_⟩) ?_ ?_
      rotate_left
      · intro w'
        go_simp
        with_reducible rfl
      rotate_left
      · simp only [Act.put, List.setIfInBounds_toArray, List.set_cons_zero, List.set_cons_succ, i64_w, i32_w]
        rfl
      refine pure_ (i := 4) (N := some 34) (v := ?_) (a' := ?_) #[true, true, true, true, true, false, false, false, false, false, false, false, false, false, false, false, false, false] rfl rfl (any_of HT_.out (by kernel_rfl)) (fun _ _ _ h => h) (Or.inl ⟨by rfl, ?_⟩) ?_ ?_
      rotate_left
      · intro w'
        go_simp
        with_reducible rfl
      rotate_left
      · simp only [Act.put, List.setIfInBounds_toArray, List.set_cons_zero, List.set_cons_succ, i64_w, i32_w]
        rfl
      refine pure_ (i := 5) (N := some 35) (v := ?_) (a' := ?_) #[true, true, true, true, true, true, false, false, false, false, false, false, false, false, false, false, false, false] rfl rfl (any_of HT_.out (by kernel_rfl)) (fun _ _ _ h => h) (Or.inl ⟨by rfl, ?_⟩) ?_ ?_
      rotate_left
      · intro w'
        go_simp
        with_reducible rfl
      rotate_left
      · simp only [Act.put, List.setIfInBounds_toArray, List.set_cons_zero, List.set_cons_succ, i64_w, i32_w]
        rfl
      refine pure_ (i := 6) (N := some 36) (v := ?_) (a' := ?_) #[true, true, true, true, true, true, true, false, false, false, false, false, false, false, false, false, false, false] rfl rfl (any_of HT_.out (by kernel_rfl)) (fun _ _ _ h => h) (Or.inl ⟨by rfl, ?_⟩) ?_ ?_
      rotate_left
      · intro w'
        go_simp
        with_reducible rfl
      rotate_left
      · simp only [Act.put, List.setIfInBounds_toArray, List.set_cons_zero, List.set_cons_succ, i64_w, i32_w]
        rfl
      refine pure_ (i := 7) (N := some 37) (v := undef) (a' := ?_) #[true, true, true, true, true, true, true, true, false, false, false, false, false, false, false, false, false, false] rfl rfl (any_of HT_.out (by kernel_rfl)) (fun _ _ _ h => h) (Or.inr ⟨by rfl, rfl⟩) ?_ ?_
      rotate_left
      · simp only [Act.put, List.setIfInBounds_toArray, List.set_cons_zero, List.set_cons_succ, i64_w, i32_w]
        rfl
      refine pure_ (i := 8) (N := some 38) (v := undef) (a' := ?_) #[true, true, true, true, true, true, true, true, true, false, false, false, false, false, false, false, false, false] rfl rfl (any_of HT_.out (by kernel_rfl)) (fun _ _ _ h => h) (Or.inr ⟨by rfl, rfl⟩) ?_ ?_
      rotate_left
      · simp only [Act.put, List.setIfInBounds_toArray, List.set_cons_zero, List.set_cons_succ, i64_w, i32_w]
        rfl
      refine pure_ (i := 9) (N := some 39) (v := undef) (a' := ?_) #[true, true, true, true, true, true, true, true, true, true, false, false, false, false, false, false, false, false] rfl rfl (any_of HT_.out (by kernel_rfl)) (fun _ _ _ h => h) (Or.inr ⟨by rfl, rfl⟩) ?_ ?_
      rotate_left
      · simp only [Act.put, List.setIfInBounds_toArray, List.set_cons_zero, List.set_cons_succ, i64_w, i32_w]
        rfl
      refine pure_ (i := 10) (N := some 40) (v := undef) (a' := ?_) #[true, true, true, true, true, true, true, true, true, true, true, false, false, false, false, false, false, false] rfl rfl (any_of HT_.out (by kernel_rfl)) (fun _ _ _ h => h) (Or.inr ⟨by rfl, rfl⟩) ?_ ?_
      rotate_left
      · simp only [Act.put, List.setIfInBounds_toArray, List.set_cons_zero, List.set_cons_succ, i64_w, i32_w]
        rfl
      refine pure_ (i := 11) (N := some 41) (v := undef) (a' := ?_) #[true, true, true, true, true, true, true, true, true, true, true, true, false, false, false, false, false, false] rfl rfl (any_of HT_.out (by kernel_rfl)) (fun _ _ _ h => h) (Or.inr ⟨by rfl, rfl⟩) ?_ ?_
      rotate_left
      · simp only [Act.put, List.setIfInBounds_toArray, List.set_cons_zero, List.set_cons_succ, i64_w, i32_w]
        rfl
      refine pure_ (i := 12) (N := some 42) (v := undef) (a' := ?_) #[true, true, true, true, true, true, true, true, true, true, true, true, true, false, false, false, false, false] rfl rfl (any_of HT_.out (by kernel_rfl)) (fun _ _ _ h => h) (Or.inr ⟨by rfl, rfl⟩) ?_ ?_
      rotate_left
      · simp only [Act.put, List.setIfInBounds_toArray, List.set_cons_zero, List.set_cons_succ, i64_w, i32_w]
        rfl
      refine pure_ (i := 13) (N := some 43) (v := undef) (a' := ?_) #[true, true, true, true, true, true, true, true, true, true, true, true, true, true, false, false, false, false] rfl rfl (any_of HT_.out (by kernel_rfl)) (fun _ _ _ h => h) (Or.inr ⟨by rfl, rfl⟩) ?_ ?_
      rotate_left
      · simp only [Act.put, List.setIfInBounds_toArray, List.set_cons_zero, List.set_cons_succ, i64_w, i32_w]
        rfl
      refine pure_ (i := 14) (N := some 44) (v := undef) (a' := ?_) #[true, true, true, true, true, true, true, true, true, true, true, true, true, true, true, false, false, false] rfl rfl (any_of HT_.out (by kernel_rfl)) (fun _ _ _ h => h) (Or.inr ⟨by rfl, rfl⟩) ?_ ?_
      rotate_left
      · simp only [Act.put, List.setIfInBounds_toArray, List.set_cons_zero, List.set_cons_succ, i64_w, i32_w]
        rfl
      refine pure_ (i := 15) (N := some 45) (v := undef) (a' := ?_) #[true, true, true, true, true, true, true, true, true, true, true, true, true, true, true, true, false, false] rfl rfl (any_of HT_.out (by kernel_rfl)) (fun _ _ _ h => h) (Or.inr ⟨by rfl, rfl⟩) ?_ ?_
      rotate_left
      · simp only [Act.put, List.setIfInBounds_toArray, List.set_cons_zero, List.set_cons_succ, i64_w, i32_w]
        rfl
      refine pure_ (i := 16) (N := some 46) (v := undef) (a' := ?_) #[true, true, true, true, true, true, true, true, true, true, true, true, true, true, true, true, true, false] rfl rfl (any_of HT_.out (by kernel_rfl)) (fun _ _ _ h => h) (Or.inr ⟨by rfl, rfl⟩) ?_ ?_
      rotate_left
      · simp only [Act.put, List.setIfInBounds_toArray, List.set_cons_zero, List.set_cons_succ, i64_w, i32_w]
        rfl
      refine pure_ (i := 17) (N := some 47) (v := ?_) (a' := ?_) #[true, true, true, true, true, true, true, true, true, true, true, true, true, true, true, true, true, true] rfl rfl (any_of HT_.out (by kernel_rfl)) (fun _ _ _ h => h) (Or.inl ⟨by rfl, ?_⟩) ?_ ?_
      rotate_left
      · intro w'
        go_simp
        with_reducible rfl
      rotate_left
      · simp only [Act.put, List.setIfInBounds_toArray, List.set_cons_zero, List.set_cons_succ, i64_w, i32_w]
        rfl
      refine done_ (done_of HT_.out (by kernel_rfl)) ?_
      go_wp2
      try rw [Exit.noGoto_ret]
      go_ret
      exact ⟨rfl, bdr1 HB5.out⟩
    have hn1 : (Go.bits .andNot .u8 b all != 0) = false := bne_eq_false_iff_eq.2 hn
    have H := Aside0.mk (show (if ((strOfNums x).toList == (strOfNums (pgText a2 a3 b)).toList) = true then b else all) = r by have := H.out; rwa [if_pos hn] at this)
    clear hn
    go_enter Try.func78, Try.ntmps78
    go_wp2_with (first
      | ((with_reducible refine gate_dst (N := 4) rfl ?_); refine box_event ?hg (N := 4) ?hd (cs := #[.int .i64 a0_0, .int .i64 a0_1, .int .i64 a0_2, .int .i64 a0_3, .int .i64 a0_4, .int .i64 a0_5]) (t := 44) ?hr ?_; (case hd => rfl); (case hg => rfl); (case hr => first | (go_simp; done) | (go_simp; rfl)); intro g1 hg w1 hbox hb; have HB := Aside0.mk hb; have BK1 := Aside0.mk hbox; clear hg hbox hb)
      | ((with_reducible refine gate_dst (N := 5) rfl ?_); refine box_event ?hg (N := 5) ?hd (cs := #[.slice A1_0 l1_0.length c1_0, .slice A1_1 l1_1.length c1_1]) (t := 25) ?hr ?_; (case hd => rfl); (case hg => rfl); (case hr => first | (go_simp; done) | (go_simp; rfl)); intro g2 hg w2 hbox hb; have BK2 := Aside0.mk hbox; have HB2 := Aside0.mk (below_step HB.out hb); have hc0 : w2.cell? ⟨g1, 0, none⟩ = some (.int .i64 a0_0) := (blk_cell (blk_below BK1.out hb) 0).trans rfl; have hc1 : w2.cell? ⟨g1, 1, none⟩ = some (.int .i64 a0_1) := (blk_cell (blk_below BK1.out hb) 1).trans rfl; have hc2 : w2.cell? ⟨g1, 2, none⟩ = some (.int .i64 a0_2) := (blk_cell (blk_below BK1.out hb) 2).trans rfl; have hc3 : w2.cell? ⟨g1, 3, none⟩ = some (.int .i64 a0_3) := (blk_cell (blk_below BK1.out hb) 3).trans rfl; have hc4 : w2.cell? ⟨g1, 4, none⟩ = some (.int .i64 a0_4) := (blk_cell (blk_below BK1.out hb) 4).trans rfl; have hc5 : w2.cell? ⟨g1, 5, none⟩ = some (.int .i64 a0_5) := (blk_cell (blk_below BK1.out hb) 5).trans rfl; clear hg hbox hb))
    go_step3
    go_wp2_with (first
      | (go_at_call 111; refine (page_at.calls _ _ _ _ _ _ _ _ _ _ _ _ HA.out).mono ?_; rintro e w3 ⟨rfl, hq⟩; have HB3 := Aside0.mk (below_step HB2.out hq); have BK3 := Aside0.mk (blk_below BK2.out hq); have hz0 : w3.cell? ⟨g2, 0, none⟩ = some (.slice A1_0 l1_0.length c1_0) := (blk_cell BK3.out 0).trans rfl; have hz1 : w3.cell? ⟨g2, 1, none⟩ = some (.slice A1_1 l1_1.length c1_1) := (blk_cell BK3.out 1).trans rfl; clear hq hc0 hc1 hc2 hc3 hc4 hc5)
      | (go_at_call 17; refine (hRead.calls A1_0 c1_0 l1_0 A1_1 c1_1 l1_1 sec x 0 _ (Kd.C_below HR0.out HB3.out) HC0.out (Kd.C_below HR1.out HB3.out) HC1.out FR.out).mono ?_; rintro e w4 ⟨v2, rfl, ho2, hb2⟩; obtain ⟨gx, cx, ex⟩ := u8_blkR ho2 HXP.out; subst ex; have HB4 := Aside0.mk (below_step HB3.out hb2); have HX := Aside0.mk (Kd.R_reads' ho2).2; clear ho2 hb2 hz0 hz1))
    go_step3
    go_upto_region 4 with ((go_at_call 112; refine (page_list_byte_only.calls 40 (some ⟨gx, 0, none⟩) cx x 0 false _ HX.out.2 HX.out.1 HO.out).mono ?_; rintro e w5 ⟨rfl, hd⟩; have HB5 := Aside0.mk (below_step HB4.out (Drawn0.below hd)); have HX5 := Aside0.mk (Kd.C_below HX.out.2 (Drawn0.below hd)); clear hd))
    obtain ⟨_, e, hx3⟩ := Kd.at_int HX5.out 3 (by decide) (by rw [HXL.out]; decide)
    injection e with e
    subst e
    replace hx3 : w5.cell? ⟨gx, 3, none⟩ = some (.int .u8 (rd x 3)) := hx3
    rw [HB3e.out] at hx3
    have hbk := World.block_lt_of_cell? w5 _ hx3
    have HSS := Aside0.mk (show ∀ W : World, Below w5.heap.size w5 W → W.cell? ⟨gx, 3, none⟩ = some (.int .u8 b) ∧ (convert 31 9 (.slice (some ⟨gx, 0, none⟩) x.length cx)).run Try.prog W = .ok (.string (strOfNums x)) W from fun W hb => ⟨(hb.cell hbk).trans hx3, Kd.C_string (P := Try.prog) (A := some ⟨gx, 0, none⟩) (c := cx) Try.underlying31 Try.underlying5 Try.underlying9 (Kd.C_below HX5.out hb)⟩)
    have hl3 : (3 : Int) < x.length := by rw [HXL.out]; decide
    clear hx3 hbk
    refine start_ (n := 18) (S := fun w' => w'.cell? ⟨gx, 3, none⟩ = some (.int .u8 b) ∧ (convert 31 9 (.slice (some ⟨gx, 0, none⟩) x.length cx)).run Try.prog w' = .ok (.string (strOfNums x)) w') (ds := []) #[false, false, false, false, false, false, false, false, false, false, false, false, false, false, false, false, false, false] (by kernel_rfl) rfl rfl (by exact HSS.out _ (bdr1 (Below.refl _ _))) (fun hHeld => ?_); refine wtW hTold.tab4 hTold.bits4 (fun HT_ HW_ => ?_)
    refine pure_ (i := 0) (N := some 30) (v := ?_) (a' := ?_) #[true, false, false, false, false, false, false, false, false, false, false, false, false, false, false, false, false, false] rfl rfl (any_of HT_.out (by kernel_rfl)) (fun _ _ _ h => h) (Or.inl ⟨by rfl, ?_⟩) ?_ ?_
    rotate_left
    · intro w'
      go_simp
      with_reducible rfl
    rotate_left
    · simp only [Act.put, List.setIfInBounds_toArray, List.set_cons_zero, List.set_cons_succ, i64_w, i32_w]
      rfl
    refine pure_ (i := 1) (N := some 31) (v := ?_) (a' := ?_) #[true, true, false, false, false, false, false, false, false, false, false, false, false, false, false, false, false, false] rfl rfl (any_of HT_.out (by kernel_rfl)) (fun _ _ _ h => h) (Or.inl ⟨by rfl, ?_⟩) ?_ ?_
    rotate_left
    · intro w'
      go_simp
      with_reducible rfl
    rotate_left
    · simp only [Act.put, List.setIfInBounds_toArray, List.set_cons_zero, List.set_cons_succ, i64_w, i32_w]
      rfl
    refine take_ (i := 2) (N := some 32) (v := ?_) (a' := ?_) #[true, true, true, false, false, false, false, false, false, false, false, false, false, false, false, false, false, false] rfl rfl (take_ofW HT_.out HW_.out (by kernel_rfl)) (fun _ _ _ h => h) (Or.inl ⟨by rfl, ?_⟩) hHeld ?_ ?_
    rotate_left
    · rintro w' ⟨s0, s1⟩
      go_simp
      with_reducible rfl
    rotate_left
    · simp only [Act.put, List.setIfInBounds_toArray, List.set_cons_zero, List.set_cons_succ, i64_w, i32_w]
      rfl
    refine pure_ (i := 3) (N := some 33) (v := ?_) (a' := ?_) #[true, true, true, true, false, false, false, false, false, false, false, false, false, false, false, false, false, false] rfl rfl (any_of HT_.out (by kernel_rfl)) (fun _ _ _ h => h) (Or.inl ⟨by rfl, ?_⟩) ?_ ?_
    rotate_left
    · intro w'
      go_simp
      with_reducible rfl
    rotate_left
    · simp only [Act.put, List.setIfInBounds_toArray, List.set_cons_zero, List.set_cons_succ, i64_w, i32_w]
      rfl
    refine pure_ (i := 4) (N := some 34) (v := ?_) (a' := ?_) #[true, true, true, true, true, false, false, false, false, false, false, false, false, false, false, false, false, false] rfl rfl (any_of HT_.out (by kernel_rfl)) (fun _ _ _ h => h) (Or.inl ⟨by rfl, ?_⟩) ?_ ?_
    rotate_left
    · intro w'
      go_simp
      with_reducible rfl
    rotate_left
    · simp only [Act.put, List.setIfInBounds_toArray, List.set_cons_zero, List.set_cons_succ, i64_w, i32_w]
      rfl
    refine pure_ (i := 5) (N := some 35) (v := ?_) (a' := ?_) #[true, true, true, true, true, true, false, false, false, false, false, false, false, false, false, false, false, false] rfl rfl (any_of HT_.out (by kernel_rfl)) (fun _ _ _ h => h) (Or.inl ⟨by rfl, ?_⟩) ?_ ?_
    rotate_left
    · intro w'
      go_simp
      with_reducible rfl
    rotate_left
    · simp only [Act.put, List.setIfInBounds_toArray, List.set_cons_zero, List.set_cons_succ, i64_w, i32_w]
      rfl
    refine pure_ (i := 6) (N := some 36) (v := ?_) (a' := ?_) #[true, true, true, true, true, true, true, false, false, false, false, false, false, false, false, false, false, false] rfl rfl (any_of HT_.out (by kernel_rfl)) (fun _ _ _ h => h) (Or.inl ⟨by rfl, ?_⟩) ?_ ?_
    rotate_left
    · intro w'
      go_simp
      with_reducible rfl
    rotate_left
    · simp only [Act.put, List.setIfInBounds_toArray, List.set_cons_zero, List.set_cons_succ, i64_w, i32_w]
      rfl
    refine pure_ (i := 7) (N := some 37) (v := ?_) (a' := ?_) #[true, true, true, true, true, true, true, true, false, false, false, false, false, false, false, false, false, false] rfl rfl (any_of HT_.out (by kernel_rfl)) (fun _ _ _ h => h) (Or.inl ⟨by rfl, ?_⟩) ?_ ?_
    rotate_left
    · intro w'
      go_simp
      with_reducible rfl
    rotate_left
    · simp only [Act.put, List.setIfInBounds_toArray, List.set_cons_zero, List.set_cons_succ, i64_w, i32_w]
      rfl
    refine take_ (i := 8) (N := some 38) (v := ?_) (a' := ?_) #[true, true, true, true, true, true, true, true, true, false, false, false, false, false, false, false, false, false] rfl rfl (take_ofW HT_.out HW_.out (by kernel_rfl)) (fun _ _ _ h => h) (Or.inl ⟨by rfl, ?_⟩) hHeld ?_ ?_
    rotate_left
    · rintro w' ⟨s0, s1⟩
      go_simp
      with_reducible rfl
    rotate_left
    · simp only [Act.put, List.setIfInBounds_toArray, List.set_cons_zero, List.set_cons_succ, i64_w, i32_w]
      rfl
    refine pure_ (i := 9) (N := some 39) (v := ?_) (a' := ?_) #[true, true, true, true, true, true, true, true, true, true, false, false, false, false, false, false, false, false] rfl rfl (any_of HT_.out (by kernel_rfl)) (fun _ _ _ h => h) (Or.inl ⟨by rfl, ?_⟩) ?_ ?_
    rotate_left
    · intro w'
      go_simp
      with_reducible rfl
    rotate_left
    · simp only [Act.put, List.setIfInBounds_toArray, List.set_cons_zero, List.set_cons_succ, i64_w, i32_w]
      rfl
    refine pure_ (i := 10) (N := some 40) (v := ?_) (a' := ?_) #[true, true, true, true, true, true, true, true, true, true, true, false, false, false, false, false, false, false] rfl rfl (any_of HT_.out (by kernel_rfl)) (fun _ _ _ h => h) (Or.inl ⟨by rfl, ?_⟩) ?_ ?_
    rotate_left
    · intro w'
      go_simp
      with_reducible rfl
    rotate_left
    · simp only [Act.put, List.setIfInBounds_toArray, List.set_cons_zero, List.set_cons_succ, i64_w, i32_w]
      rfl
    refine pure_ (i := 11) (N := some 41) (v := ?_) (a' := ?_) #[true, true, true, true, true, true, true, true, true, true, true, true, false, false, false, false, false, false] rfl rfl (any_of HT_.out (by kernel_rfl)) (fun _ _ _ h => h) (Or.inl ⟨by rfl, ?_⟩) ?_ ?_
    rotate_left
    · intro w'
      go_simp
      with_reducible rfl
    rotate_left
    · simp only [Act.put, List.setIfInBounds_toArray, List.set_cons_zero, List.set_cons_succ, i64_w, i32_w]
      rfl
    refine pure_ (i := 12) (N := some 42) (v := ?_) (a' := ?_) #[true, true, true, true, true, true, true, true, true, true, true, true, true, false, false, false, false, false] rfl rfl (any_of HT_.out (by kernel_rfl)) (fun _ _ _ h => h) (Or.inl ⟨by rfl, ?_⟩) ?_ ?_
    rotate_left
    · intro w'
      go_simp
      with_reducible rfl
    rotate_left
    · simp only [Act.put, List.setIfInBounds_toArray, List.set_cons_zero, List.set_cons_succ, i64_w, i32_w]
      rfl
    refine take_ (i := 13) (N := some 43) (v := ?_) (a' := ?_) #[true, true, true, true, true, true, true, true, true, true, true, true, true, true, false, false, false, false] rfl rfl (take_ofW HT_.out HW_.out (by kernel_rfl)) (fun _ _ _ h => h) (Or.inl ⟨by rfl, ?_⟩) hHeld ?_ ?_
    rotate_left
    · rintro w' ⟨s0, s1⟩
      go_simp
      with_reducible rfl
    rotate_left
    · simp only [Act.put, List.setIfInBounds_toArray, List.set_cons_zero, List.set_cons_succ, i64_w, i32_w]
      rfl
    refine one_ (i := 14) (N := some 44) #[true, true, true, true, true, true, true, true, true, true, true, true, true, true, true, false, false, false] rfl rfl (one_of HT_.out (by kernel_rfl)) (by decide) (fun K hK => ?_)
    refine goes_ Try.func113 (by kernel_rfl) rfl #[.int .i64 a2, .int .i64 a3, .int .u8 b] (by rfl) rfl rfl (by (try simp only [List.map_toArray, List.map_cons, List.map_nil]); first | done | rfl | (simp only [List.length_drop, List.length_take]; rfl)) ?_
    refine (page_text.calls a2 a3 b (pgText a2 a3 b) _ (pageText_is a2 a3 b)).mono ?_
    rintro e w6 ⟨v1, rfl, ho, hA⟩
    obtain ⟨Y, y, ey⟩ := Kd.R_slice ho
    subst ey
    have HY := Aside0.mk (Kd.R_reads' ho).2.2
    have HD6 := Aside0.mk (below_step (bdr1 (Below.refl w5.heap.size w5)) hA)
    clear ho hA hHeld
    refine ⟨_, rfl, ?_⟩
    refine hK.out _ _ (by exact HSS.out _ HD6.out) (fun hHeld => ?_)
    clear hK K
    refine norm_ (a' := ?_) ?_ ?_
    rotate_left
    · show Act.put _ (some 44) _ = _
      simp only [Act.put, List.setIfInBounds_toArray, List.set_cons_zero, List.set_cons_succ, i64_w, i32_w]
      rfl
    refine one_ (i := 15) (N := some 45) #[true, true, true, true, true, true, true, true, true, true, true, true, true, true, true, true, false, false] rfl rfl (one_of HT_.out (by kernel_rfl)) (by decide) (fun K hK => ?_)
    have hcv := Kd.C_string (P := Try.prog) (A := Y) (c := y) Try.underlying31 Try.underlying5 Try.underlying9 HY.out
    refine value_ (w1 := ?_) (v := ?_) (by rfl) rfl ?_ ?_
    rotate_left 2
    · go_simp
      constructor
      · rfl
      · rfl
    clear hcv hHeld
    refine hK.out _ _ (by exact HSS.out _ HD6.out) (fun hHeld => ?_)
    clear hK K
    refine norm_ (a' := ?_) ?_ ?_
    rotate_left
    · show Act.put _ (some 45) _ = _
      simp only [Act.put, List.setIfInBounds_toArray, List.set_cons_zero, List.set_cons_succ, i64_w, i32_w]
      rfl
    refine pure_ (i := 16) (N := some 46) (v := ?_) (a' := ?_) #[true, true, true, true, true, true, true, true, true, true, true, true, true, true, true, true, true, false] rfl rfl (any_of HT_.out (by kernel_rfl)) (fun _ _ _ h => h) (Or.inl ⟨by rfl, ?_⟩) ?_ ?_
    rotate_left
    · intro w'
      go_simp
      with_reducible rfl
    rotate_left
    · simp only [Act.put, List.setIfInBounds_toArray, List.set_cons_zero, List.set_cons_succ, i64_w, i32_w]
      rfl
    refine pure_ (i := 17) (N := some 47) (v := ?_) (a' := ?_) #[true, true, true, true, true, true, true, true, true, true, true, true, true, true, true, true, true, true] rfl rfl (any_of HT_.out (by kernel_rfl)) (fun _ _ _ h => h) (Or.inl ⟨by rfl, ?_⟩) ?_ ?_
    rotate_left
    · intro w'
      go_simp
      with_reducible rfl
    rotate_left
    · simp only [Act.put, List.setIfInBounds_toArray, List.set_cons_zero, List.set_cons_succ, i64_w, i32_w]
      rfl
    refine done_ (done_of HT_.out (by kernel_rfl)) ?_
    obtain ⟨hq3, _⟩ := HSS.out _ HD6.out
    have HBW := Aside0.mk (below_step HB5.out HD6.out)
    rcases Bool.eq_false_or_eq_true ((strOfNums x).toList == (strOfNums (pgText a2 a3 b)).toList) with hq | hq
    · obtain rfl : b = r := by have := H.out; rwa [if_pos hq] at this
      rw [hq]
      clear H hq
      go_wp2
      try rw [Exit.noGoto_ret]
      go_ret
      exact ⟨rfl, HBW.out⟩
    · obtain rfl : all = r := by have := H.out; rwa [if_neg (by rw [hq]; simp)] at this
      rw [hq]
      clear H hq
      go_wp2
      try rw [Exit.noGoto_ret]
      go_ret
      exact ⟨rfl, HBW.out⟩
end Go.Proofs.Ytdkjhcdniepbhaa.P
end
section
set_option linter.unusedVariables false
set_option linter.unusedSimpArgs false
namespace Go.Proofs.Ytdkjhcdniepbhaa.P
open Go.RowKit Go.Proofs.PrintWords Go.Proofs.PrintLast Go.Proofs.PrintMore
attribute [local go_sem] max2_int min2_int max_two min_two max_three min_three max_four min_four
theorem twin_l1 : ∀ (m k n : Nat) (l1 : List S49) (o0 : List S39), n + m = l1.length → m + 1 ≤ k → l1.length ≤ 100000 → (∀ p ∈ l1, p.f1.length ≤ 100000) → disk_Twin.l1 k l1 (l1.length : Int) (n : Int) o0 (l1.take n) = some (o0, l1)
  | 0, k + 1, n, l1, o0, h, _, _, _ => by
    obtain rfl : n = l1.length := by omega
    unfold disk_Twin.l1
    rw [if_neg (by omega), List.take_length]
  | m + 1, k + 1, n, l1, o0, h, hk, hl, hb => by
    have hn : n < l1.length := by omega
    have hg : rd_T49 l1 (n : Int) = l1[n] := by unfold rd_T49; rw [List.getD_eq_getElem?_getD]; simp [hn]
    have hx := hb l1[n] (List.getElem_mem hn)
    have hw : wrap64 ((n : Int) + 1) = ((n + 1 : Nat) : Int) := by unfold wrap64; omega
    have ht : (l1.take n).length = n := by rw [List.length_take]; omega
    unfold disk_Twin.l1
    rw [if_pos (by omega), if_pos (by omega), if_pos (by omega), hg]
    unfold hClone.f
    rw [if_pos (by omega), Option.bind_some, if_pos (by omega), hw, ← twin_l1 m k (n + 1) l1 o0 (by omega) (by omega) hl hb, List.take_add_one, List.getElem?_eq_getElem hn]
    rfl
theorem twin_l0 : ∀ (m k n : Nat) (l0 : List S39) (l1 : List S49), n + m = l0.length → m + l1.length + 2 ≤ k → l0.length ≤ 100000 → l1.length ≤ 100000 → (∀ p ∈ l0, p.f0.length ≤ 100000) → (∀ p ∈ l1, p.f1.length ≤ 100000) → disk_Twin.l0 k l0 (l0.length : Int) (n : Int) l0 l1 (l0.take n) = some (l0, l1)
  | 0, k + 1, n, l0, l1, h, hk, _, hl1, _, hb1 => by
    obtain rfl : n = l0.length := by omega
    unfold disk_Twin.l0
    rw [if_neg (by omega), List.take_length]
    exact twin_l1 l1.length k 0 l1 l0 (by omega) (by omega) hl1 hb1
  | m + 1, k + 1, n, l0, l1, h, hk, hl, hl1, hb, hb1 => by
    have hn : n < l0.length := by omega
    have hg : rd_T39 l0 (n : Int) = l0[n] := by unfold rd_T39; rw [List.getD_eq_getElem?_getD]; simp [hn]
    have hx := hb l0[n] (List.getElem_mem hn)
    have hw : wrap64 ((n : Int) + 1) = ((n + 1 : Nat) : Int) := by unfold wrap64; omega
    have ht : (l0.take n).length = n := by rw [List.length_take]; omega
    unfold disk_Twin.l0
    rw [if_pos (by omega), if_pos (by omega), if_pos (by omega), hg]
    unfold hClone.f
    rw [if_pos (by omega), Option.bind_some, if_pos (by omega), hw, ← twin_l0 m k (n + 1) l0 l1 (by omega) (by omega) hl hl1 hb hb1, List.take_add_one, List.getElem?_eq_getElem hn]
    rfl
theorem disk_Twin.is (k : Nat) (l0 : List S39) (l1 : List S49) (hk : l0.length + l1.length + 2 ≤ k) (hl : l0.length ≤ 100000) (hl1 : l1.length ≤ 100000) (hb : ∀ p ∈ l0, p.f0.length ≤ 100000) (hb1 : ∀ p ∈ l1, p.f1.length ≤ 100000) : disk_Twin.f k l0 l1 = some (l0, l1) := by
  unfold disk_Twin.f
  exact twin_l0 l0.length k 0 l0 l1 (by omega) hk hl hl1 hb hb1
theorem okDisk_len {l0 : List S39} {l1 : List S49} (h : okDisk l0 l1 = true) : 1 ≤ l0.length ∧ l0.length ≤ 1024 ∧ l1.length ≤ 64 := by
  simp only [okDisk, Bool.and_eq_true, decide_eq_true_eq] at h
  omega
theorem okDisk_twin {l0 : List S39} {l1 : List S49} (h : okDisk l0 l1 = true) : disk_Twin.f 1200 l0 l1 = some (l0, l1) := by
  have := okDisk_len h
  exact disk_Twin.is 1200 l0 l1 (by omega) (by omega) (by omega) (fun p hp => by rw [okDisk_sec h p hp]; omega) (fun p hp => by rw [(okDisk_pend h p hp).1]; omega)
def dWrite (l0 : List S39) (l1 : List S49) (at_ : Int) (b : List Int) : List S39 × List S49 × Int :=
  if dAsked l0 l1 at_ = 0 then (if b.length = 32 then (if l1.length = 64 then ([], [], 9) else (l0, l1 ++ [⟨at_, b⟩], 0)) else ([], [], 2)) else ([], [], dAsked l0 l1 at_)
def hWrite.f (l0 : List S39) (l1 : List S49) (at_ : Int) (b : List Int) : Option (List S39 × List S49 × Int) := some (dWrite l0 l1 at_ b)
def hWrite.T9 : Bool × List (List Nat × List Nat) := (true, [([], []), ([0], [0]), ([], []), ([], []), ([3], [3]), ([2, 4], [2, 4]), ([5], [5]), ([1, 6, 4], [1, 6]), ([0, 1, 2, 3, 4, 5, 6, 7], []), ([8, 7, 7, 0, 1, 2, 3, 4, 5, 6, 7], [7, 8])])
def hWrite.B9 : List Nat := [0, 1, 0, 0, 8, 28, 60, 127, 255, 511]
theorem hWrite.tab9 : rtab .any (opsOf Try.f18 9) = hWrite.T9 := by kernel_rfl
theorem hWrite.bits9 : waitsOk hWrite.T9.2 hWrite.B9 = true := by kernel_rfl
set_option maxHeartbeats 4000000 in
set_option maxRecDepth 100000 in
theorem hWrite.calls (A0_0 : Option Addr) (c0_0 : Nat) (l0_0 : List S39) (A0_1 : Option Addr) (c0_1 : Nat) (l0_1 : List S49) (a1 : Int) (A2 : Option Addr) (c2 : Nat) (l2 : List Int) (r1 : List S39) (r2 : List S49) (r3 : Int) (w : World) (hr0_0 : Kd.C k39 w A0_0 l0_0.length l0_0) (hc0_0 : l0_0.length ≤ c0_0) (hr0_1 : Kd.C k49 w A0_1 l0_1.length l0_1) (hc0_1 : l0_1.length ≤ c0_1) (hr2 : Kd.C (Kd.int .u8) w A2 l2.length l2) (hc2 : l2.length ≤ c2) (h : hWrite.f l0_0 l0_1 a1 l2 = some (r1, r2, r3)) :
    Calls Try.prog 18 #[.agg #[.slice A0_0 l0_0.length c0_0, .slice A0_1 l0_1.length c0_1], .int .i64 a1, .slice A2 l2.length c2] w fun e w' => ∃ v0_ v1_ : Value, e = .returned (.tuple #[.agg #[v0_, v1_], .int .i64 r3]) ∧ Kd.S k39 39 w' w.heap.size (fun _ => True) v0_ r1 ∧ Kd.S k49 49 w' w.heap.size (fun _ => True) v1_ r2 ∧ Below w.heap.size w w' := by
  have hu25 := Try.underlying25
  have hu65 := Try.underlying49
  have H : Aside0 (dWrite l0_0 l0_1 a1 l2 = (r1, r2, r3)) := ⟨by unfold hWrite.f at h; injection h⟩
  clear h
  have HR0 := Aside0.mk hr0_0
  have HR1 := Aside0.mk hr0_1
  have HR2 := Aside0.mk hr2
  have HC0 := Aside0.mk hc0_0
  have HC1 := Aside0.mk hc0_1
  have HC2 := Aside0.mk hc2
  clear hr0_0 hr0_1 hr2 hc0_0 hc0_1 hc2
  have hB0 := below_alloc (below_alloc (Below.refl w.heap.size w) (.cells #[.slice A0_0 l0_0.length c0_0, .slice A0_1 l0_1.length c0_1] 25)) (.cells #[.slice none 0 0, .slice none 0 0] 25)
  have HB0 := Aside0.mk hB0
  have HK0 := Aside0.mk (blk_alloc (heap_alloc_new w (.cells #[.slice A0_0 l0_0.length c0_0, .slice A0_1 l0_1.length c0_1] 25)) (.cells #[.slice none 0 0, .slice none 0 0] 25))
  have HK6 := Aside0.mk (heap_alloc_at w (.cells #[.slice A0_0 l0_0.length c0_0, .slice A0_1 l0_1.length c0_1] 25) (.cells #[.slice none 0 0, .slice none 0 0] 25) (w.heap.size + 1) rfl)
  clear hB0
  have HASK := fun (W : World) (hb : Below w.heap.size w W) => disk_asked.calls A0_0 c0_0 l0_0 A0_1 c0_1 l0_1 a1 (dAsked l0_0 l0_1 a1) W (Kd.C_below HR0.out hb) HC0.out (Kd.C_below HR1.out hb) HC1.out (dAsked_is l0_0 l0_1 a1)
  have HASK := Aside0.mk HASK
  by_cases ha : dAsked l0_0 l0_1 a1 = 0
  · obtain ⟨hok, h0, h1⟩ := dAsked_ok ha
    have hdr := H.out
    unfold dWrite at hdr
    rw [if_pos ha] at hdr
    have hb : (dAsked l0_0 l0_1 a1 != 0) = false := by simpa using ha
    have HBZ := Aside0.mk hb
    have HOK := Aside0.mk hok
    clear H ha hok hb
    by_cases h32 : l2.length = 32
    · rw [if_pos h32] at hdr
      have hz := HBZ.out
      by_cases h64 : l0_1.length = 64
      · rw [if_pos h64] at hdr
        obtain ⟨rfl, rfl, rfl⟩ : [] = r1 ∧ [] = r2 ∧ 9 = r3 := by simpa using hdr
        have h64b : ((l0_1.length : Int) == 64) = true := by rw [h64]; rfl
        clear hdr
        have H32 := Aside0.mk (show okLen l2 = true by unfold okLen; simp [h32])
        clear h32 h64
        go_enter Try.func18, Try.ntmps18
        go_wp2_with (first
          | (go_at_call 57; refine (HASK.out _ HB0.out).mono ?_; rintro e w1 ⟨rfl, hb1⟩; have HB1 := Aside0.mk (below_step HB0.out hb1); have HK1 := Aside0.mk ((hb1.block _ (blk_lt HK0.out)).trans HK0.out); have HL1 := Aside0.mk ((hb1.block _ (blk_lt HK6.out)).trans HK6.out); have hq0 : w1.cell? ⟨w.heap.size, 0, none⟩ = some (.slice A0_0 l0_0.length c0_0) := (blk_cell HK1.out 0).trans rfl; have hq1 : w1.cell? ⟨w.heap.size, 1, none⟩ = some (.slice A0_1 l0_1.length c0_1) := (blk_cell HK1.out 1).trans rfl; have hy0 : w1.cell? ⟨w.heap.size + 1, 0, none⟩ = some (.slice none 0 0) := (blk_cell HL1.out 0).trans rfl; have hy1 : w1.cell? ⟨w.heap.size + 1, 1, none⟩ = some (.slice none 0 0) := (blk_cell HL1.out 1).trans rfl; have hf0 := blk_frozen HL1.out 0; have hf1 := blk_frozen HL1.out 1; clear hb1)
          | (go_at_call 60; refine (hSized.one_is true _ A2 c2 l2 _ H32.out (by simp) HC2.out (Kd.C_below HR2.out (below_alloc HB1.out _))).mono ?_; rintro e w2 ⟨rfl, hb2⟩; have HB2 := Aside0.mk (below_then (below_alloc HB1.out _) (below_size (below_alloc HB1.out _)) hb2); have HK2 := Aside0.mk ((hb2.block _ (blk_lt (blk_alloc HK1.out _))).trans (blk_alloc HK1.out _)); have HL2 := Aside0.mk ((hb2.block _ (blk_lt (blk_alloc HL1.out _))).trans (blk_alloc HL1.out _)); clear hq0 hq1 hy0 hy1 hf0 hf1; have hq0 : w2.cell? ⟨w.heap.size, 0, none⟩ = some (.slice A0_0 l0_0.length c0_0) := (blk_cell HK2.out 0).trans rfl; have hq1 : w2.cell? ⟨w.heap.size, 1, none⟩ = some (.slice A0_1 l0_1.length c0_1) := (blk_cell HK2.out 1).trans rfl; have hy0 : w2.cell? ⟨w.heap.size + 1, 0, none⟩ = some (.slice none 0 0) := (blk_cell HL2.out 0).trans rfl; have hy1 : w2.cell? ⟨w.heap.size + 1, 1, none⟩ = some (.slice none 0 0) := (blk_cell HL2.out 1).trans rfl; have hf0 := blk_frozen HL2.out 0; have hf1 := blk_frozen HL2.out 1; clear hb2))
        refine bodyPost_ret (results_ct rfl _ _ (w.heap.size + 1) 25 #[.slice none 0 0, .slice none 0 0] (0, 0) _ rfl (blk_put (cs := #[.slice none 0 0, .slice none 0 0]) (blk_put (cs := #[.slice none 0 0, .slice none 0 0]) HL2.out 0 _ rfl) 1 _ rfl) Try.underlying25 rfl (by kernel_rfl)) rfl ?_
        exact ⟨_, _, rfl, Kd.S_nil _ _ _ _ _, Kd.S_nil _ _ _ _ _, below_set (below_set HB2.out (Nat.le_succ _)) (Nat.le_succ _)⟩
      · rw [if_neg h64] at hdr
        obtain ⟨rfl, rfl, rfl⟩ : l0_0 = r1 ∧ l0_1 ++ [⟨a1, l2⟩] = r2 ∧ 0 = r3 := by simpa using hdr
        have h64b : ((l0_1.length : Int) == 64) = false := by rw [beq_eq_false_iff_ne]; omega
        clear hdr
        have HT := fun (W : World) (hb : Below w.heap.size w W) => disk_Twin.calls 1200 A0_0 c0_0 l0_0 A0_1 c0_1 l0_1 l0_0 l0_1 W (Kd.C_below HR0.out hb) HC0.out (Kd.C_below HR1.out hb) HC1.out (okDisk_twin HOK.out)
        have HT := Aside0.mk HT
        have H32n := Aside0.mk h32
        have H32 := Aside0.mk (show okLen l2 = true by unfold okLen; simp [h32])
        clear h32 h64
        go_enter Try.func18, Try.ntmps18
        go_wp2_with (first
          | (go_at_call 57; refine (HASK.out _ HB0.out).mono ?_; rintro e w1 ⟨rfl, hb1⟩; have HB1 := Aside0.mk (below_step HB0.out hb1); have HK1 := Aside0.mk ((hb1.block _ (blk_lt HK0.out)).trans HK0.out); have HL1 := Aside0.mk ((hb1.block _ (blk_lt HK6.out)).trans HK6.out); have hq0 : w1.cell? ⟨w.heap.size, 0, none⟩ = some (.slice A0_0 l0_0.length c0_0) := (blk_cell HK1.out 0).trans rfl; have hq1 : w1.cell? ⟨w.heap.size, 1, none⟩ = some (.slice A0_1 l0_1.length c0_1) := (blk_cell HK1.out 1).trans rfl; have hy0 : w1.cell? ⟨w.heap.size + 1, 0, none⟩ = some (.slice none 0 0) := (blk_cell HL1.out 0).trans rfl; have hy1 : w1.cell? ⟨w.heap.size + 1, 1, none⟩ = some (.slice none 0 0) := (blk_cell HL1.out 1).trans rfl; have hf0 := blk_frozen HL1.out 0; have hf1 := blk_frozen HL1.out 1; clear hb1)
          | (go_at_call 60; refine (hSized.one_is true _ A2 c2 l2 _ H32.out (by simp) HC2.out (Kd.C_below HR2.out (below_alloc HB1.out _))).mono ?_; rintro e w2 ⟨rfl, hb2⟩; have HB2 := Aside0.mk (below_then (below_alloc HB1.out _) (below_size (below_alloc HB1.out _)) hb2); have HK2 := Aside0.mk ((hb2.block _ (blk_lt (blk_alloc HK1.out _))).trans (blk_alloc HK1.out _)); have HL2 := Aside0.mk ((hb2.block _ (blk_lt (blk_alloc HL1.out _))).trans (blk_alloc HL1.out _)); clear hq0 hq1 hy0 hy1 hf0 hf1; have hq0 : w2.cell? ⟨w.heap.size, 0, none⟩ = some (.slice A0_0 l0_0.length c0_0) := (blk_cell HK2.out 0).trans rfl; have hq1 : w2.cell? ⟨w.heap.size, 1, none⟩ = some (.slice A0_1 l0_1.length c0_1) := (blk_cell HK2.out 1).trans rfl; have hy0 : w2.cell? ⟨w.heap.size + 1, 0, none⟩ = some (.slice none 0 0) := (blk_cell HL2.out 0).trans rfl; have hy1 : w2.cell? ⟨w.heap.size + 1, 1, none⟩ = some (.slice none 0 0) := (blk_cell HL2.out 1).trans rfl; have hf0 := blk_frozen HL2.out 0; have hf1 := blk_frozen HL2.out 1; clear hb2)
          | (go_at_call 61; refine (HT.out _ HB2.out).mono ?_; rintro e w3 ⟨v1, v2, rfl, ho1, ho2, hb3⟩; obtain ⟨Ao1, co1, eo1⟩ := Kd.S_slice ho1; subst eo1; obtain ⟨Ao2, co2, eo2⟩ := Kd.S_slice ho2; subst eo2; have HB3 := Aside0.mk (below_step HB2.out hb3); have HK3 := Aside0.mk ((hb3.block _ (blk_lt HK2.out)).trans HK2.out); have HL3 := Aside0.mk ((hb3.block _ (blk_lt HL2.out)).trans HL2.out); have HO1 := Aside0.mk (Kd.S_lower ho1 (below_size HB2.out)); have HO2 := Aside0.mk (Kd.S_lower ho2 (below_size HB2.out)); clear hb3 ho1 ho2; clear hq0 hq1 hy0 hy1 hf0 hf1))
        have HB9 := Aside0.mk (below_alloc HB3.out (.cells #[.slice Ao1 l0_0.length co1, .slice Ao2 l0_1.length co2] 25))
        have HK9 := Aside0.mk (heap_alloc_new w3 (.cells #[.slice Ao1 l0_0.length co1, .slice Ao2 l0_1.length co2] 25))
        have HL9 := Aside0.mk (blk_alloc HL3.out (.cells #[.slice Ao1 l0_0.length co1, .slice Ao2 l0_1.length co2] 25))
        have HP1 := Aside0.mk (Kd.S_alloc HO1.out (.cells #[.slice Ao1 l0_0.length co1, .slice Ao2 l0_1.length co2] 25))
        have HP2 := Aside0.mk (Kd.S_alloc HO2.out (.cells #[.slice Ao1 l0_0.length co1, .slice Ao2 l0_1.length co2] 25))
        have HG := Aside0.mk (below_size HB3.out)
        have HN := Aside0.mk (show w.heap.size + 1 ≠ w3.heap.size from Nat.ne_of_lt (blk_lt HL3.out))
        generalize (w3.alloc (.cells #[.slice Ao1 l0_0.length co1, .slice Ao2 l0_1.length co2] 25)) = W9 at HB9 HK9 HL9 HP1 HP2 ⊢
        generalize w3.heap.size = g at HK9 HG HN ⊢
        clear HO1 HO2 HK3 HL3 HK2 HL2 HK1 HL1 HK0 HK6 HB0 HB1 HB2 HB3
        refine start_ (n := 10) (S := fun w' => w'.cell? ⟨g, 0, none⟩ = some (.slice Ao1 l0_0.length co1) ∧ w'.cell? ⟨g, 1, none⟩ = some (.slice Ao2 l0_1.length co2)) (ds := [9]) #[false, false, false, false, false, false, false, false, false, false] (by kernel_rfl) rfl rfl ⟨(blk_cell (blk_drew HK9.out) 0).trans rfl, (blk_cell (blk_drew HK9.out) 1).trans rfl⟩ (fun hHeld => ?_); refine wtW hWrite.tab9 hWrite.bits9 (fun HT_ HW_ => ?_)
        have HBa := Aside0.mk (bdr1 HB9.out)
        have HKa := Aside0.mk (blk_drew HK9.out)
        have HLa := Aside0.mk (blk_drew HL9.out)
        have HQ1 := Aside0.mk (Kd.S_drew HP1.out)
        have HQ2 := Aside0.mk (Kd.S_drew HP2.out)
        generalize W9.drew = Wa at HBa HKa HLa HQ1 HQ2 hHeld ⊢
        clear HB9 HK9 HL9 HP1 HP2
        refine pure_ (i := 0) (N := some 32) (v := ?_) (a' := ?_) #[true, false, false, false, false, false, false, false, false, false] rfl rfl (any_of HT_.out (by kernel_rfl)) (fun _ _ _ h => h) (Or.inl ⟨by rfl, ?_⟩) ?_ ?_
        rotate_left
        · intro w'
          go_simp
          with_reducible rfl
        rotate_left
        · simp only [Act.put, List.setIfInBounds_toArray, List.set_cons_zero, List.set_cons_succ, i64_w, i32_w]
          rfl
        refine pure_ (i := 2) (N := some 34) (v := ?_) (a' := ?_) #[true, false, true, false, false, false, false, false, false, false] rfl rfl (any_of HT_.out (by kernel_rfl)) (fun _ _ _ h => h) (Or.inl ⟨by rfl, ?_⟩) ?_ ?_
        rotate_left
        · intro w'
          go_simp
          with_reducible rfl
        rotate_left
        · simp only [Act.put, List.setIfInBounds_toArray, List.set_cons_zero, List.set_cons_succ, i64_w, i32_w]
          rfl
        refine pure_ (i := 3) (N := some 35) (v := ?_) (a' := ?_) #[true, false, true, true, false, false, false, false, false, false] rfl rfl (any_of HT_.out (by kernel_rfl)) (fun _ _ _ h => h) (Or.inl ⟨by rfl, ?_⟩) ?_ ?_
        rotate_left
        · intro w'
          go_simp
          with_reducible rfl
        rotate_left
        · simp only [Act.put, List.setIfInBounds_toArray, List.set_cons_zero, List.set_cons_succ, i64_w, i32_w]
          rfl
        refine take_ (i := 1) (N := some 33) (v := ?_) (a' := ?_) #[true, true, true, true, false, false, false, false, false, false] rfl rfl (take_ofW HT_.out HW_.out (by kernel_rfl)) (fun _ _ _ h => h) (Or.inl ⟨by rfl, ?_⟩) hHeld ?_ ?_
        rotate_left
        · rintro w' ⟨s0, s1⟩
          go_simp
          with_reducible rfl
        rotate_left
        · simp only [Act.put, List.setIfInBounds_toArray, List.set_cons_zero, List.set_cons_succ, i64_w, i32_w]
          rfl
        refine one_ (i := 4) (N := some 36) #[true, true, true, true, true, false, false, false, false, false] rfl rfl (one_of HT_.out (by kernel_rfl)) (by decide) (fun K hK => ?_)
        refine goes_ Try.func59 (by kernel_rfl) rfl #[.slice A2 l2.length c2] (by rfl) rfl rfl (by (try simp only [List.map_toArray, List.map_cons, List.map_nil]); first | done | rfl | (simp only [List.length_drop, List.length_take]; rfl)) ?_
        refine (hClone.calls A2 c2 l2 l2 _ (Kd.C_below HR2.out HBa.out) HC2.out (clone32 H32n.out)).mono ?_
        rintro e w4 ⟨v4, rfl, ho4, hb4⟩
        obtain ⟨Ao4, co4, eo4⟩ := Kd.R_slice ho4
        subst eo4
        refine ⟨_, rfl, ?_⟩
        have HO4 := Aside0.mk (Kd.R_lower ho4 (below_size HBa.out))
        have HB4 := Aside0.mk (below_step HBa.out hb4)
        have HK4 := Aside0.mk ((hb4.block _ (blk_lt HKa.out)).trans HKa.out)
        have HL4 := Aside0.mk ((hb4.block _ (blk_lt HLa.out)).trans HLa.out)
        have HX1 := Aside0.mk (Kd.S_below HQ1.out hb4)
        have HX2 := Aside0.mk (Kd.S_elder' HQ2.out (Kd.R_base ho4) hb4)
        clear ho4 hb4
        refine hK.out _ _ ⟨(blk_cell HK4.out 0).trans rfl, (blk_cell HK4.out 1).trans rfl⟩ (fun hHeld => ?_)
        clear hK K
        refine norm_ (a' := ?_) ?_ ?_
        rotate_left
        · show Act.put _ (some 36) _ = _
          simp only [Act.put, List.setIfInBounds_toArray, List.set_cons_zero, List.set_cons_succ, i64_w, i32_w]
          rfl
        refine pure_ (i := 5) (N := some 37) (v := ?_) (a' := ?_) #[true, true, true, true, true, true, false, false, false, false] rfl rfl (any_of HT_.out (by kernel_rfl)) (fun _ _ _ h => h) (Or.inl ⟨by rfl, ?_⟩) ?_ ?_
        rotate_left
        · intro w'
          go_simp
          with_reducible rfl
        rotate_left
        · simp only [Act.put, List.setIfInBounds_toArray, List.set_cons_zero, List.set_cons_succ, i64_w, i32_w]
          rfl
        refine one_ (i := 6) (N := some 38) #[true, true, true, true, true, true, true, false, false, false] rfl rfl (one_of HT_.out (by kernel_rfl)) (by decide) (fun K hK => ?_)
        refine value_ (w1 := ?_) (v := ?_) (by rfl) rfl ?_ ?_
        rotate_left 2
        · go_simp
          constructor
          · rfl
          · rfl
        refine hK.out _ _ ⟨(blk_cell (blk_alloc HK4.out _) 0).trans rfl, (blk_cell (blk_alloc HK4.out _) 1).trans rfl⟩ (fun hHeld => ?_)
        clear hK K
        refine norm_ (a' := ?_) ?_ ?_
        rotate_left
        · show Act.put _ (some 38) _ = _
          simp only [Act.put, List.setIfInBounds_toArray, List.set_cons_zero, List.set_cons_succ, i64_w, i32_w]
          rfl
        refine one_ (i := 7) (N := some 39) #[true, true, true, true, true, true, true, true, false, false] rfl rfl (one_of HT_.out (by kernel_rfl)) (by decide) (fun K hK => ?_)
        refine Kd.S_append_step k49 (w0 := w) w.heap.size (by rfl) (.tmp 33) (.tmp 38) 23 49 (.agg #[(.int .i64 0), (.slice none 0 0)]) 32 rfl Try.underlying23 info49 rfl (by decide) (by omega) (.slice Ao2 l0_1.length co2) l0_1 (⟨a1, l2⟩ : S49) [.int .i64 a1, .slice Ao4 l2.length co4] (fun _ => True) (fun k_ => some k_ = (.slice Ao4 l2.length co4 : Value).ownBlock) rfl rfl ?aP (fun k_ hk_ => ((Kd.R_mono (ok' := fun k_ => ((fun _ => True)) k_ ∧ some k_ ≠ (.slice Ao2 l0_1.length co2 : Value).ownBlock) (Kd.R_apart' (HO4.out) (Kd.S_typed HX2.out) (by decide)) (fun k_ hk => ⟨trivial, hk.2⟩))).1 k_ hk_.symm) ?aF ?aO ?aB ?aS ?aL ?_
        (case aP => exact k49_mkM _ _ _ (⟨a1, l2⟩ : S49) (Kd.R_mono (Kd.R_tight rfl (Kd.R_mono (ok' := fun k_ => ((fun _ => True)) k_ ∧ some k_ ≠ (.slice Ao2 l0_1.length co2 : Value).ownBlock) (Kd.R_apart' (HO4.out) (Kd.S_typed HX2.out) (by decide)) (fun k_ hk => ⟨trivial, hk.2⟩))) (fun _ h_ => h_)))
        (case aB => exact HB4.out)
        (case aF => exact (fun _ _ => trivial))
        (case aO => exact Kd.S_mono HX2.out (fun k_ hk => ⟨trivial, fun e_ => hk.2 e_⟩))
        (case aS => exact below_size HB4.out)
        (case aL => have := (okDisk_len HOK.out).2.2; omega)
        intro v5 w5 ho5 hb5 hg5 hat5
        have HK5 := Aside0.mk (blk_grown (g := g) (o := .cells #[.slice Ao1 l0_0.length co1, .slice Ao2 l0_1.length co2] 25 (0, 0)) HK4.out hg5 (Kd.S_ne HX2.out HK4.out (by decide)))
        have HL5 := Aside0.mk (blk_grown (g := w.heap.size + 1) (o := .cells #[.slice none 0 0, .slice none 0 0] 25 (0, 0)) HL4.out hg5 (Kd.S_ne HX2.out HL4.out (by decide)))
        have HX5 := Aside0.mk (Kd.S_over' HX1.out (Kd.S_typed HX2.out) (by decide) hg5)
        have HB5 := Aside0.mk hb5
        obtain ⟨Ao5, co5, eo5⟩ := Kd.S_slice ho5
        subst eo5
        have HY5 := Aside0.mk ho5
        clear ho5 hb5 hg5 hat5 HX1 HX2 HK4 HL4 HB4
        refine hK.out _ _ ⟨(blk_cell HK5.out 0).trans rfl, (blk_cell HK5.out 1).trans rfl⟩ (fun hHeld => ?_)
        clear hK K
        refine norm_ (a' := ?_) ?_ ?_
        rotate_left
        · show Act.put _ (some 39) _ = _
          simp only [Act.put, List.setIfInBounds_toArray, List.set_cons_zero, List.set_cons_succ, i64_w, i32_w]
          rfl
        refine pure_ (i := 8) (N := some 40) (v := ?_) (a' := ?_) #[true, true, true, true, true, true, true, true, true, false] rfl rfl (any_of HT_.out (by kernel_rfl)) (fun _ _ _ h => h) (Or.inl ⟨by rfl, ?_⟩) ?_ ?_
        rotate_left
        · intro w'
          go_simp
          with_reducible rfl
        rotate_left
        · simp only [Act.put, List.setIfInBounds_toArray, List.set_cons_zero, List.set_cons_succ, i64_w, i32_w]
          rfl
        refine last_ (i := 9) (N := none) #[true, true, true, true, true, true, true, true, true, true] rfl rfl (one_of HT_.out (by kernel_rfl)) (by decide) (fun K hK => ?_)
        have hs6 : w5.cell? ⟨g, 1, none⟩ = some (.slice Ao2 l0_1.length co2) := (blk_cell HK5.out 1).trans rfl
        have hfs6 := blk_frozen HK5.out 1
        refine skip_ (w1 := ?_) (by rfl) rfl ?_ ?_
        rotate_left
        · go_simp
          rfl
        refine hK.out _ _ ?_
        refine done_ (done_of HT_.out (by kernel_rfl)) ?_
        have hcz0 : w5.cell? ⟨g, 0, none⟩ = some (.slice Ao1 l0_0.length co1) := (blk_cell HK5.out 0).trans rfl
        have hcz1 : w5.cell? ⟨g, 1, none⟩ = some (.slice Ao2 l0_1.length co2) := (blk_cell HK5.out 1).trans rfl
        have hfz0 := blk_frozen HK5.out 0
        have hy0 : w5.cell? ⟨w.heap.size + 1, 0, none⟩ = some (.slice none 0 0) := (blk_cell HL5.out 0).trans rfl
        have hy1 : w5.cell? ⟨w.heap.size + 1, 1, none⟩ = some (.slice none 0 0) := (blk_cell HL5.out 1).trans rfl
        have hfy0 := blk_frozen HL5.out 0
        have hfy1 := blk_frozen HL5.out 1
        have hne := HN.out
        have hne' := Ne.symm HN.out
        try go_wp2
        have e5 : (l0_1 ++ [(⟨a1, l2⟩ : S49)]).length = l0_1.length + 1 := by simp
        have hy5 := HY5.out
        rw [e5] at hy5
        refine bodyPost_ret (results_ct rfl _ _ (w.heap.size + 1) 25 #[.slice Ao1 l0_0.length co1, .slice Ao5 (l0_1.length + 1) co5] (0, 0) _ rfl (blk_put (cs := #[.slice Ao1 l0_0.length co1, .slice none 0 0]) (blk_put (cs := #[.slice none 0 0, .slice none 0 0]) (blk_far HL5.out hne _) 0 _ rfl) 1 _ rfl) Try.underlying25 rfl (by kernel_rfl)) rfl ?_
        refine ⟨_, _, rfl, ?_, ?_, below_set (below_set (below_set HB5.out HG.out) (Nat.le_succ _)) (Nat.le_succ _)⟩
        · exact Kd.S_mono (Kd.S_far (p := ⟨w.heap.size + 1, 1, none⟩) (Kd.S_far (p := ⟨w.heap.size + 1, 0, none⟩) (Kd.S_far (p := ⟨g, 1, none⟩) (Kd.S_types (Kd.S_types HX5.out HK5.out (by decide)) HL5.out (by decide)) (fun _ hk => hk.1.2) _) (fun _ hk => hk.2) _) (fun _ hk => hk.2) _) (fun _ _ => trivial)
        · exact Kd.S_mono (Kd.S_far (p := ⟨w.heap.size + 1, 1, none⟩) (Kd.S_far (p := ⟨w.heap.size + 1, 0, none⟩) (Kd.S_far (p := ⟨g, 1, none⟩) (Kd.S_types (Kd.S_types hy5 HK5.out (by decide)) HL5.out (by decide)) (fun _ hk => hk.1.2) _) (fun _ hk => hk.2) _) (fun _ hk => hk.2) _) (fun _ _ => trivial)
    · rw [if_neg h32] at hdr
      obtain ⟨rfl, rfl, rfl⟩ : [] = r1 ∧ [] = r2 ∧ 2 = r3 := by simpa using hdr
      have hz := HBZ.out
      clear hdr
      have H32 := Aside0.mk (show okLen l2 = false by unfold okLen; simp [h32])
      clear h32
      go_enter Try.func18, Try.ntmps18
      go_wp2_with (first
        | (go_at_call 57; refine (HASK.out _ HB0.out).mono ?_; rintro e w1 ⟨rfl, hb1⟩; have HB1 := Aside0.mk (below_step HB0.out hb1); have HK1 := Aside0.mk ((hb1.block _ (blk_lt HK0.out)).trans HK0.out); have HL1 := Aside0.mk ((hb1.block _ (blk_lt HK6.out)).trans HK6.out); have hq0 : w1.cell? ⟨w.heap.size, 0, none⟩ = some (.slice A0_0 l0_0.length c0_0) := (blk_cell HK1.out 0).trans rfl; have hq1 : w1.cell? ⟨w.heap.size, 1, none⟩ = some (.slice A0_1 l0_1.length c0_1) := (blk_cell HK1.out 1).trans rfl; have hy0 : w1.cell? ⟨w.heap.size + 1, 0, none⟩ = some (.slice none 0 0) := (blk_cell HL1.out 0).trans rfl; have hy1 : w1.cell? ⟨w.heap.size + 1, 1, none⟩ = some (.slice none 0 0) := (blk_cell HL1.out 1).trans rfl; have hf0 := blk_frozen HL1.out 0; have hf1 := blk_frozen HL1.out 1; clear hb1)
        | (go_at_call 60; refine (hSized.one_is false _ A2 c2 l2 _ H32.out (by simp) HC2.out (Kd.C_below HR2.out (below_alloc HB1.out _))).mono ?_; rintro e w2 ⟨rfl, hb2⟩; have HB2 := Aside0.mk (below_then (below_alloc HB1.out _) (below_size (below_alloc HB1.out _)) hb2); have HK2 := Aside0.mk ((hb2.block _ (blk_lt (blk_alloc HK1.out _))).trans (blk_alloc HK1.out _)); have HL2 := Aside0.mk ((hb2.block _ (blk_lt (blk_alloc HL1.out _))).trans (blk_alloc HL1.out _)); clear hq0 hq1 hy0 hy1 hf0 hf1; have hq0 : w2.cell? ⟨w.heap.size, 0, none⟩ = some (.slice A0_0 l0_0.length c0_0) := (blk_cell HK2.out 0).trans rfl; have hq1 : w2.cell? ⟨w.heap.size, 1, none⟩ = some (.slice A0_1 l0_1.length c0_1) := (blk_cell HK2.out 1).trans rfl; have hy0 : w2.cell? ⟨w.heap.size + 1, 0, none⟩ = some (.slice none 0 0) := (blk_cell HL2.out 0).trans rfl; have hy1 : w2.cell? ⟨w.heap.size + 1, 1, none⟩ = some (.slice none 0 0) := (blk_cell HL2.out 1).trans rfl; have hf0 := blk_frozen HL2.out 0; have hf1 := blk_frozen HL2.out 1; clear hb2))
      refine bodyPost_ret (results_ct rfl _ _ (w.heap.size + 1) 25 #[.slice none 0 0, .slice none 0 0] (0, 0) _ rfl (blk_put (cs := #[.slice none 0 0, .slice none 0 0]) (blk_put (cs := #[.slice none 0 0, .slice none 0 0]) HL2.out 0 _ rfl) 1 _ rfl) Try.underlying25 rfl (by kernel_rfl)) rfl ?_
      exact ⟨_, _, rfl, Kd.S_nil _ _ _ _ _, Kd.S_nil _ _ _ _ _, below_set (below_set HB2.out (Nat.le_succ _)) (Nat.le_succ _)⟩
  · have hdr := H.out
    unfold dWrite at hdr
    rw [if_neg ha] at hdr
    obtain ⟨rfl, rfl, rfl⟩ : [] = r1 ∧ [] = r2 ∧ dAsked l0_0 l0_1 a1 = r3 := by simpa using hdr
    have hz : (dAsked l0_0 l0_1 a1 != 0) = true := by simpa using ha
    clear hdr ha
    go_enter Try.func18, Try.ntmps18
    go_wp2_with (go_at_call 57; refine (HASK.out _ HB0.out).mono ?_; rintro e w1 ⟨rfl, hb1⟩; have HB1 := Aside0.mk (below_step HB0.out hb1); have HK1 := Aside0.mk ((hb1.block _ (blk_lt HK0.out)).trans HK0.out); have HL1 := Aside0.mk ((hb1.block _ (blk_lt HK6.out)).trans HK6.out); have hq0 : w1.cell? ⟨w.heap.size, 0, none⟩ = some (.slice A0_0 l0_0.length c0_0) := (blk_cell HK1.out 0).trans rfl; have hq1 : w1.cell? ⟨w.heap.size, 1, none⟩ = some (.slice A0_1 l0_1.length c0_1) := (blk_cell HK1.out 1).trans rfl; have hy0 : w1.cell? ⟨w.heap.size + 1, 0, none⟩ = some (.slice none 0 0) := (blk_cell HL1.out 0).trans rfl; have hy1 : w1.cell? ⟨w.heap.size + 1, 1, none⟩ = some (.slice none 0 0) := (blk_cell HL1.out 1).trans rfl; have hf0 := blk_frozen HL1.out 0; have hf1 := blk_frozen HL1.out 1; clear hb1)
    refine bodyPost_ret (results_ct rfl _ _ (w.heap.size + 1) 25 #[.slice none 0 0, .slice none 0 0] (0, 0) _ rfl (blk_put (cs := #[.slice none 0 0, .slice none 0 0]) (blk_put (cs := #[.slice none 0 0, .slice none 0 0]) HL1.out 0 _ rfl) 1 _ rfl) Try.underlying25 rfl (by kernel_rfl)) rfl ?_
    exact ⟨_, _, rfl, Kd.S_nil _ _ _ _ _, Kd.S_nil _ _ _ _ _, below_set (below_set HB1.out (Nat.le_succ _)) (Nat.le_succ _)⟩
end Go.Proofs.Ytdkjhcdniepbhaa.P
end
section
set_option linter.unusedVariables false
set_option linter.unusedSimpArgs false
namespace Go.Proofs.Ytdkjhcdniepbhaa.P
open Go.RowKit Go.Proofs.PrintWords Go.Proofs.PrintLast Go.Proofs.PrintMore
attribute [local go_sem] max2_int min2_int max_two min_two max_three min_three max_four min_four
def dGot (l0 : List S39) (l1 : List S49) (a : Int) : List Int × Bool := match lastP l1 a with | some p => (p.f1, true) | none => ((rd_T39 l0 a).f0, !(rd_T39 l0 a).f1)
theorem rGot_is (k : Nat) (hk : 100 ≤ k) {l0 : List S39} {l1 : List S49} (hok : okDisk l0 l1 = true) {a : Int} (h0 : 0 ≤ a) (h1 : a < l0.length) : catamaranref05_Got.f k l0 l1 a = some (dGot l0 l1 a) := by
  have hl := okDisk_len hok
  have hw : wrap64 ((l1.length : Int) - 1) = (l1.length : Int) - 1 := by unfold wrap64; omega
  unfold catamaranref05_Got.f
  rw [hw, got_l0 l0 a h0 h1 (by rw [okDisk_sec hok _ (rd_mem h0 h1)]; omega) l1.length k l1 (Nat.le_refl _) (by omega) (by omega) (fun p hp => by rw [(okDisk_pend hok p hp).1]; omega), List.take_length]
  rfl
theorem dGot_len {l0 : List S39} {l1 : List S49} (hok : okDisk l0 l1 = true) {a : Int} (h0 : 0 ≤ a) (h1 : a < l0.length) : (dGot l0 l1 a).1.length = 32 := by
  unfold dGot
  cases hl : lastP l1 a with
  | some p => exact (okDisk_pend hok p (lastP_mem hl)).1
  | none => exact okDisk_sec hok _ (rd_mem h0 h1)
theorem dGot_byte {l0 : List S39} {l1 : List S49} (hby : bytesD l0 l1) {a : Int} (h0 : 0 ≤ a) (h1 : a < l0.length) : byteL (dGot l0 l1 a).1 := by
  unfold dGot
  cases hl : lastP l1 a with
  | some p => exact hby.2 p (lastP_mem hl)
  | none => exact hby.1 _ (rd_mem h0 h1)
theorem dRead_got {l0 : List S39} {l1 : List S49} (hok : okDisk l0 l1 = true) {a : Int} (h0 : 0 ≤ a) (h1 : a < l0.length) : dRead l0 l1 a = if (dGot l0 l1 a).2 = true then ((dGot l0 l1 a).1, 0) else ([], 50) := by
  have ha : dAsked l0 l1 a = 0 := by unfold dAsked; rw [hok, if_pos rfl, if_neg (by omega), if_neg (by omega)]
  unfold dRead dGot
  rw [if_pos ha]
  cases lastP l1 a with
  | some p => rfl
  | none => cases (rd_T39 l0 a).f1 <;> rfl
theorem leO_up {α : Type} {f : Nat → Option α} (h : ∀ k, LeO (f k) (f (k + 1))) {k : Nat} {r : α} (hk : f k = some r) : ∀ d, f (k + d) = some r
  | 0 => hk
  | d + 1 => h (k + d) r (leO_up h hk d)
theorem full60_1 : catamaranref03_Full.f 60 1 = some (pgAlls 1) := by kernel_rfl
theorem full60_2 : catamaranref03_Full.f 60 2 = some (pgAlls 2) := by kernel_rfl
theorem full60_3 : catamaranref03_Full.f 60 3 = some (pgAlls 3) := by kernel_rfl
theorem full60_4 : catamaranref03_Full.f 60 4 = some (pgAlls 4) := by kernel_rfl
theorem full60_5 : catamaranref03_Full.f 60 5 = some (pgAlls 5) := by kernel_rfl
theorem full60_6 : catamaranref03_Full.f 60 6 = some (pgAlls 6) := by kernel_rfl
theorem full60_7 : catamaranref03_Full.f 60 7 = some (pgAlls 7) := by kernel_rfl
theorem full60_8 : catamaranref03_Full.f 60 8 = some (pgAlls 8) := by kernel_rfl
theorem full60_9 : catamaranref03_Full.f 60 9 = some (pgAlls 9) := by kernel_rfl
theorem full60_10 : catamaranref03_Full.f 60 10 = some (pgAlls 10) := by kernel_rfl
theorem full60_11 : catamaranref03_Full.f 60 11 = some (pgAlls 11) := by kernel_rfl
theorem full60_12 : catamaranref03_Full.f 60 12 = some (pgAlls 12) := by kernel_rfl
theorem full60_13 : catamaranref03_Full.f 60 13 = some (pgAlls 13) := by kernel_rfl
theorem full60_14 : catamaranref03_Full.f 60 14 = some (pgAlls 14) := by kernel_rfl
theorem full60_15 : catamaranref03_Full.f 60 15 = some (pgAlls 15) := by kernel_rfl
theorem full60_16 : catamaranref03_Full.f 60 16 = some (pgAlls 16) := by kernel_rfl
theorem full_of {t : Int} (h : 1 ≤ t ∧ t ≤ 16) (k : Nat) (hk : 60 ≤ k) : catamaranref03_Full.f k t = some (pgAlls t) := by
  have h1 : catamaranref03_Full.f 60 t = some (pgAlls t) := by
    have : t = 1 ∨ t = 2 ∨ t = 3 ∨ t = 4 ∨ t = 5 ∨ t = 6 ∨ t = 7 ∨ t = 8 ∨ t = 9 ∨ t = 10 ∨ t = 11 ∨ t = 12 ∨ t = 13 ∨ t = 14 ∨ t = 15 ∨ t = 16 := by omega
    rcases this with rfl | rfl | rfl | rfl | rfl | rfl | rfl | rfl | rfl | rfl | rfl | rfl | rfl | rfl | rfl | rfl
    · exact full60_1
    · exact full60_2
    · exact full60_3
    · exact full60_4
    · exact full60_5
    · exact full60_6
    · exact full60_7
    · exact full60_8
    · exact full60_9
    · exact full60_10
    · exact full60_11
    · exact full60_12
    · exact full60_13
    · exact full60_14
    · exact full60_15
    · exact full60_16
  have h2 := leO_up (f := fun k => catamaranref03_Full.f k t) (fun k => catamaranref03_Full.mono t k) h1 (k - 60)
  rwa [show 60 + (k - 60) = k by omega] at h2
def alls : List Int := [1, 3, 7, 15, 31, 63, 127, 255]
theorem pgAll_mem (t n : Int) : pgAll t n ∈ alls := by
  unfold pgAll
  split
  · decide
  · split <;> decide
theorem andNot_and : (List.range 256).all (fun x => alls.all fun a => (Go.bits .andNot .u8 (x : Int) a == 0) == (Go.bits .and .u8 (x : Int) a == (x : Int))) = true := by decide +kernel
theorem andNot_iff {x a : Int} (h0 : 0 ≤ x) (h1 : x ≤ 255) (ha : a ∈ alls) : Go.bits .andNot .u8 x a = 0 ↔ Go.bits .and .u8 x a = x := by
  have h := List.all_eq_true.1 (List.all_eq_true.1 andNot_and x.toNat (List.mem_range.2 (by omega))) a ha
  rw [show ((x.toNat : Nat) : Int) = x by omega] at h
  have h := beq_iff_eq.1 h
  constructor
  · intro e
    rw [e] at h
    exact beq_iff_eq.1 (h ▸ (by decide : ((0 : Int) == 0) = true))
  · intro e
    have e' : (Go.bits .and .u8 x a == x) = true := beq_iff_eq.2 e
    rw [e'] at h
    exact beq_iff_eq.1 h
theorem rSect13_is (pair n b : Int) : catamaranref13_Sector.f pair n b = some (pgText pair n b) := by
  unfold catamaranref13_Sector.f
  rw [Option.bind_some, if_pos (by simp)]
  rfl
theorem ofPage_is {p t a m w q pair n : Int} (hc : okCfg p t a m w q = true) (hi : pgIn p t pair n) : catamaranref07_OfPage.f p t a m w q pair n = some (pgAt p t a pair n) := by
  have hb := (okCfg_iff p t a m w q).1 hc
  have hp := pgs_bound t
  obtain ⟨h1, h2⟩ := hi
  have hm := mul_bound (a := pair) (b := pgs t) (c := 3) (d := 2) (by omega) (by omega) (by omega) (by omega)
  unfold catamaranref07_OfPage.f pgAt
  rw [first_is hc, Option.bind_some, many07_is, Option.bind_some]
  simp only []
  rw [wrap_small (a := pair * pgs t) (by omega) (by omega), wrap_small (a := 2 + 2 * a + pair * pgs t) (by omega) (by omega), wrap_small (by omega) (by omega), Int.add_assoc]
theorem pgAt_in {p t a m w q pair n : Int} (hc : okCfg p t a m w q = true) (hi : pgIn p t pair n) : 0 ≤ pgAt p t a pair n ∧ pgAt p t a pair n < nSec p t a := by
  have hb := (okCfg_iff p t a m w q).1 hc
  have hp := pgs_bound t
  obtain ⟨h1, h2⟩ := hi
  have hm := mul_bound (a := pair) (b := pgs t) (c := p - 1) (d := pgs t) (by omega) (by omega) (by omega) (by omega)
  have hq := mul_bound (a := p) (b := t) (c := 3) (d := 16) (by omega) (by omega) (by omega) (by omega)
  have e : (p - 1) * pgs t = p * pgs t - pgs t := by rw [Int.sub_mul, Int.one_mul]
  unfold pgAt nSec
  omega
theorem okSite_parts {p t a m w q : Int} {l0 : List S39} {l1 : List S49} (h : okSite p t a m w q l0 l1 = true) : okCfg p t a m w q = true ∧ (l0.length : Int) = nSec p t a ∧ okDisk l0 l1 = true := by
  unfold okSite at h
  simp only [Bool.and_eq_true, decide_eq_true_eq] at h
  exact ⟨h.1.1, h.1.2, h.2⟩
theorem rd3_byte {x : List Int} (hb : byteL x) (hl : x.length = 32) : 0 ≤ rd x 3 ∧ rd x 3 ≤ 255 := by
  have := rd_at (l := x) (n := 3) (by omega)
  rw [show ((3 : Nat) : Int) = 3 from rfl] at this
  rw [this]
  exact hb _ (List.getElem_mem _)
end Go.Proofs.Ytdkjhcdniepbhaa.P
end
section
set_option linter.unusedVariables false
set_option linter.unusedSimpArgs false
namespace Go.Proofs.Ytdkjhcdniepbhaa.P
open Go.RowKit Go.Proofs.PrintWords Go.Proofs.PrintLast Go.Proofs.PrintMore
attribute [local go_sem] max2_int min2_int max_two min_two max_three min_three max_four min_four
def rTolds (pair n all : Int) (x : List Int) : Int := if ((strOfNums x).toList == (strOfNums zero32).toList) = true then 0 else if Go.bits .and .u8 (rd x 3) all = rd x 3 then (if ((strOfNums x).toList == (strOfNums (pgText pair n (rd x 3))).toList) = true then rd x 3 else all) else all
def hRTold.f (p t a m w q : Int) (l0 : List S39) (l1 : List S49) (pair n : Int) : Option Int :=
  if okSite p t a m w q l0 l1 = true ∧ pgIn p t pair n then some (if (dGot l0 l1 (pgAt p t a pair n)).2 = true then rTolds pair n (pgAll t n) (dGot l0 l1 (pgAt p t a pair n)).1 else pgAll t n) else none
theorem num_cellI {w : World} {base g c : Nat} {ok : Nat → Prop} {l : List Int} (h : Kd.R (Kd.int .u8) 5 w base ok (.slice (some ⟨g, 0, none⟩) l.length c) l) {n : Int} (h0 : 0 ≤ n) (h1 : n < l.length) : w.cell? ⟨g, n.toNat, none⟩ = some (.int .u8 (rd l n)) := (Kd.R_cell (enc := Value.int .u8) (h1 := fun _ => rfl) (0 : Int) h n h0 h1).1
def hRTold.T2 : Bool × List (List Nat × List Nat) := (true, [([], []), ([], []), ([], []), ([], []), ([1, 2, 3], [1, 2, 3]), ([0, 4, 4], [0, 4]), ([5], [5]), ([6], [6]), ([6], [6]), ([7, 5, 0, 1, 2, 3, 4, 5, 6, 7], [7]), ([8, 9, 0, 1, 2, 3, 4, 5, 6, 7, 8, 9], [8])])
def hRTold.B2 : List Nat := [0, 0, 0, 0, 14, 31, 63, 127, 127, 255, 1023]
theorem hRTold.tab2 : rtab .any (opsOf Try.f117 2) = hRTold.T2 := by kernel_rfl
theorem hRTold.bits2 : waitsOk hRTold.T2.2 hRTold.B2 = true := by kernel_rfl
def hRTold.T5 : Bool × List (List Nat × List Nat) := (true, [([], []), ([0], [0]), ([], []), ([2], [2]), ([1, 3], [1, 3])])
def hRTold.B5 : List Nat := [0, 1, 0, 4, 15]
theorem hRTold.tab5 : rtab .any (opsOf Try.f117 5) = hRTold.T5 := by kernel_rfl
theorem hRTold.bits5 : waitsOk hRTold.T5.2 hRTold.B5 = true := by kernel_rfl
def hRTold.T7 : Bool × List (List Nat × List Nat) := (true, [([], []), ([0], [0]), ([1], [1]), ([], []), ([2, 3], [2, 3]), ([], []), ([5], [5]), ([6], [6]), ([4, 7], [4, 7]), ([8], [8]), ([9], [9]), ([10, 9], [9, 10]), ([9], [9]), ([9], [9]), ([9], [9]), ([14, 9], [9, 14]), ([15, 9], [9, 15]), ([12, 13, 16, 9, 9], [9, 12, 13, 16]), ([17, 9], [9, 17]), ([11, 18, 9], [9, 11, 18]), ([9, 19], [9, 19])])
def hRTold.B7 : List Nat := [0, 1, 3, 0, 15, 0, 32, 96, 255, 511, 1023, 2047, 1023, 1023, 1023, 17407, 50175, 127999, 259071, 524287, 1048575]
theorem hRTold.tab7 : rtab .any (opsOf Try.f117 7) = hRTold.T7 := by kernel_rfl
theorem hRTold.bits7 : waitsOk hRTold.T7.2 hRTold.B7 = true := by kernel_rfl
set_option maxHeartbeats 8000000 in
set_option maxRecDepth 100000 in
theorem hRTold.calls (a0_0 a0_1 a0_2 a0_3 a0_4 a0_5 : Int) (A1_0 : Option Addr) (c1_0 : Nat) (l1_0 : List S39) (A1_1 : Option Addr) (c1_1 : Nat) (l1_1 : List S49) (a2 a3 : Int) (r : Int) (w : World) (hr1_0 : Kd.C k39 w A1_0 l1_0.length l1_0) (hc1_0 : l1_0.length ≤ c1_0) (hr1_1 : Kd.C k49 w A1_1 l1_1.length l1_1) (hc1_1 : l1_1.length ≤ c1_1) (h : hRTold.f a0_0 a0_1 a0_2 a0_3 a0_4 a0_5 l1_0 l1_1 a2 a3 = some r) :
    Calls Try.prog 117 #[.agg #[.int .i64 a0_0, .int .i64 a0_1, .int .i64 a0_2, .int .i64 a0_3, .int .i64 a0_4, .int .i64 a0_5], .agg #[.slice A1_0 l1_0.length c1_0, .slice A1_1 l1_1.length c1_1], .int .i64 a2, .int .i64 a3] w fun e w' => e = .returned (.int .u8 r) ∧ Below w.heap.size w w' := by
  have hu25 := Try.underlying25
  have hu44 := Try.underlying44
  unfold hRTold.f at h
  by_cases hcond : okSite a0_0 a0_1 a0_2 a0_3 a0_4 a0_5 l1_0 l1_1 = true ∧ pgIn a0_0 a0_1 a2 a3
  rotate_left
  · rw [if_neg hcond] at h
    cases h
  rw [if_pos hcond] at h
  injection h with h
  obtain ⟨hs, hi⟩ := hcond
  obtain ⟨hc, hn, hok⟩ := okSite_parts hs
  have hin := pgAt_in hc hi
  have hb := (okCfg_iff _ _ _ _ _ _).1 hc
  have HF := Aside0.mk (full_of hb.2.1 60 (Nat.le_refl _))
  have hal := pgAlls_len a0_1
  have hpg := pgs_bound a0_1
  have HFL := Aside0.mk (show 0 < (pgAlls a0_1).length by omega)
  have HI := Aside0.mk hi.2
  have h30 : 0 ≤ a3 := hi.2.1
  have h31 : a3 < (pgAlls a0_1).length := by have := hi.2.2; omega
  have HIL := Aside0.mk h31
  have HALL := Aside0.mk (pgAlls_rd hi.2.1 hi.2.2)
  have HP := Aside0.mk (ofPage_is hc hi)
  have hgl := dGot_len hok hin.1 (show pgAt a0_0 a0_1 a0_2 a2 a3 < l1_0.length by omega)
  have hgf := rGot_is 100 (Nat.le_refl _) hok hin.1 (show pgAt a0_0 a0_1 a0_2 a2 a3 < l1_0.length by omega)
  obtain ⟨⟨x, is⟩, hx⟩ : ∃ y, dGot l1_0 l1_1 (pgAt a0_0 a0_1 a0_2 a2 a3) = y := ⟨_, rfl⟩
  rw [hx] at h hgl hgf
  have FG := Aside0.mk hgf
  have H := Aside0.mk h
  have HXL := Aside0.mk (show x.length = 32 from hgl)
  have HXP := Aside0.mk (show 0 < x.length by have : x.length = 32 := hgl; omega)
  have HR0 := Aside0.mk hr1_0
  have HR1 := Aside0.mk hr1_1
  have HC0 := Aside0.mk hc1_0
  have HC1 := Aside0.mk hc1_1
  clear h hgl hgf hx hc hi hs hn hok hin hb hal hpg hr1_0 hr1_1 hc1_0 hc1_1
  generalize pgAt a0_0 a0_1 a0_2 a2 a3 = sec at HP FG
  rw [← HALL.out] at H
  cases is with
  | false =>
    obtain rfl : rd (pgAlls a0_1) a3 = r := H.out
    clear H
    go_enter Try.func117, Try.ntmps117
    go_upto_region 2 with (first
      | ((with_reducible refine gate_dst (N := 4) rfl ?_); refine box_event ?hg (N := 4) ?hd (cs := #[.int .i64 a0_0, .int .i64 a0_1, .int .i64 a0_2, .int .i64 a0_3, .int .i64 a0_4, .int .i64 a0_5]) (t := 44) ?hr ?_; (case hd => rfl); (case hg => rfl); (case hr => first | (go_simp; done) | (go_simp; rfl)); intro g1 hg w1 hbox hb; have HB := Aside0.mk hb; have BK1 := Aside0.mk hbox; clear hg hbox hb)
      | ((with_reducible refine gate_dst (N := 5) rfl ?_); refine box_event ?hg (N := 5) ?hd (cs := #[.slice A1_0 l1_0.length c1_0, .slice A1_1 l1_1.length c1_1]) (t := 25) ?hr ?_; (case hd => rfl); (case hg => rfl); (case hr => first | (go_simp; done) | (go_simp; rfl)); intro g2 hg w2 hbox hb; have BK2 := Aside0.mk hbox; have HB2 := Aside0.mk (below_step HB.out hb); have BK1b := Aside0.mk (blk_below BK1.out hb); have hc0 : w2.cell? ⟨g1, 0, none⟩ = some (.int .i64 a0_0) := (blk_cell BK1b.out 0).trans rfl; have hc1 : w2.cell? ⟨g1, 1, none⟩ = some (.int .i64 a0_1) := (blk_cell BK1b.out 1).trans rfl; have hc2 : w2.cell? ⟨g1, 2, none⟩ = some (.int .i64 a0_2) := (blk_cell BK1b.out 2).trans rfl; have hc3 : w2.cell? ⟨g1, 3, none⟩ = some (.int .i64 a0_3) := (blk_cell BK1b.out 3).trans rfl; have hc4 : w2.cell? ⟨g1, 4, none⟩ = some (.int .i64 a0_4) := (blk_cell BK1b.out 4).trans rfl; have hc5 : w2.cell? ⟨g1, 5, none⟩ = some (.int .i64 a0_5) := (blk_cell BK1b.out 5).trans rfl; clear hg hbox hb)
      | (go_at_call 136; refine (catamaranref03_Full.calls 60 a0_1 (pgAlls a0_1) _ HF.out).mono ?_; rintro e w3 ⟨v3, rfl, ho3, hq⟩; obtain ⟨gf, cf, ef⟩ := u8_blkR ho3 HFL.out; subst ef; have hz3 := num_cellI ho3 HI.out.1 HIL.out; have HB3 := Aside0.mk (below_step HB2.out hq); have BK1c := Aside0.mk (blk_below BK1b.out hq); have BK2c := Aside0.mk (blk_below BK2.out hq); clear hq ho3 hc0 hc1 hc2 hc3 hc4 hc5))
    have HSS := Aside0.mk (show ∀ W : World, Below w3.heap.size w3 W → W.cell? ⟨g1, 0, none⟩ = some (.int .i64 a0_0) ∧ W.cell? ⟨g1, 1, none⟩ = some (.int .i64 a0_1) ∧ W.cell? ⟨g1, 2, none⟩ = some (.int .i64 a0_2) ∧ W.cell? ⟨g1, 3, none⟩ = some (.int .i64 a0_3) ∧ W.cell? ⟨g1, 4, none⟩ = some (.int .i64 a0_4) ∧ W.cell? ⟨g1, 5, none⟩ = some (.int .i64 a0_5) ∧ W.cell? ⟨g2, 0, none⟩ = some (.slice A1_0 l1_0.length c1_0) ∧ W.cell? ⟨g2, 1, none⟩ = some (.slice A1_1 l1_1.length c1_1) from fun W hb => ⟨(blk_cell (blk_below BK1c.out hb) 0).trans rfl, (blk_cell (blk_below BK1c.out hb) 1).trans rfl, (blk_cell (blk_below BK1c.out hb) 2).trans rfl, (blk_cell (blk_below BK1c.out hb) 3).trans rfl, (blk_cell (blk_below BK1c.out hb) 4).trans rfl, (blk_cell (blk_below BK1c.out hb) 5).trans rfl, (blk_cell (blk_below BK2c.out hb) 0).trans rfl, (blk_cell (blk_below BK2c.out hb) 1).trans rfl⟩)
    clear hz3
    refine start_ (n := 11) (S := fun w' => w'.cell? ⟨g1, 0, none⟩ = some (.int .i64 a0_0) ∧ w'.cell? ⟨g1, 1, none⟩ = some (.int .i64 a0_1) ∧ w'.cell? ⟨g1, 2, none⟩ = some (.int .i64 a0_2) ∧ w'.cell? ⟨g1, 3, none⟩ = some (.int .i64 a0_3) ∧ w'.cell? ⟨g1, 4, none⟩ = some (.int .i64 a0_4) ∧ w'.cell? ⟨g1, 5, none⟩ = some (.int .i64 a0_5) ∧ w'.cell? ⟨g2, 0, none⟩ = some (.slice A1_0 l1_0.length c1_0) ∧ w'.cell? ⟨g2, 1, none⟩ = some (.slice A1_1 l1_1.length c1_1)) (ds := []) #[false, false, false, false, false, false, false, false, false, false, false] (by kernel_rfl) rfl rfl (by exact HSS.out _ (bdr1 (Below.refl _ _))) (fun hHeld => ?_); refine wtW hRTold.tab2 hRTold.bits2 (fun HT_ HW_ => ?_)
    refine take_ (i := 0) (N := some 19) (v := ?_) (a' := ?_) #[true, false, false, false, false, false, false, false, false, false, false] rfl rfl (take_ofW HT_.out HW_.out (by kernel_rfl)) (fun _ _ _ h => h) (Or.inl ⟨by rfl, ?_⟩) hHeld ?_ ?_
    rotate_left
    · rintro w' ⟨s0, s1, s2, s3, s4, s5, s6, s7⟩
      go_simp
      with_reducible rfl
    rotate_left
    · simp only [Act.put, List.setIfInBounds_toArray, List.set_cons_zero, List.set_cons_succ, i64_w, i32_w]
      rfl
    refine take_ (i := 1) (N := some 20) (v := ?_) (a' := ?_) #[true, true, false, false, false, false, false, false, false, false, false] rfl rfl (take_ofW HT_.out HW_.out (by kernel_rfl)) (fun _ _ _ h => h) (Or.inl ⟨by rfl, ?_⟩) hHeld ?_ ?_
    rotate_left
    · rintro w' ⟨s0, s1, s2, s3, s4, s5, s6, s7⟩
      go_simp
      with_reducible rfl
    rotate_left
    · simp only [Act.put, List.setIfInBounds_toArray, List.set_cons_zero, List.set_cons_succ, i64_w, i32_w]
      rfl
    refine pure_ (i := 2) (N := some 21) (v := ?_) (a' := ?_) #[true, true, true, false, false, false, false, false, false, false, false] rfl rfl (any_of HT_.out (by kernel_rfl)) (fun _ _ _ h => h) (Or.inl ⟨by rfl, ?_⟩) ?_ ?_
    rotate_left
    · intro w'
      go_simp
      with_reducible rfl
    rotate_left
    · simp only [Act.put, List.setIfInBounds_toArray, List.set_cons_zero, List.set_cons_succ, i64_w, i32_w]
      rfl
    refine pure_ (i := 3) (N := some 22) (v := ?_) (a' := ?_) #[true, true, true, true, false, false, false, false, false, false, false] rfl rfl (any_of HT_.out (by kernel_rfl)) (fun _ _ _ h => h) (Or.inl ⟨by rfl, ?_⟩) ?_ ?_
    rotate_left
    · intro w'
      go_simp
      with_reducible rfl
    rotate_left
    · simp only [Act.put, List.setIfInBounds_toArray, List.set_cons_zero, List.set_cons_succ, i64_w, i32_w]
      rfl
    refine one_ (i := 4) (N := some 23) #[true, true, true, true, true, false, false, false, false, false, false] rfl rfl (one_of HT_.out (by kernel_rfl)) (by decide) (fun K hK => ?_)
    refine goes_ Try.func137 (by kernel_rfl) rfl #[.agg #[.int .i64 a0_0, .int .i64 a0_1, .int .i64 a0_2, .int .i64 a0_3, .int .i64 a0_4, .int .i64 a0_5], .int .i64 a2, .int .i64 a3] (by rfl) rfl rfl (by (try simp only [List.map_toArray, List.map_cons, List.map_nil]); first | done | rfl | (simp only [List.length_drop, List.length_take]; rfl)) ?_
    refine (catamaranref07_OfPage.calls _ _ _ _ _ _ _ _ _ _ HP.out).mono ?_
    rintro e w4 ⟨rfl, hA⟩
    have HD4 := Aside0.mk (below_step (bdr1 (Below.refl w3.heap.size w3)) hA)
    clear hA hHeld
    refine ⟨_, rfl, ?_⟩
    refine hK.out _ _ (by exact HSS.out _ HD4.out) (fun hHeld => ?_)
    clear hK K
    refine norm_ (a' := ?_) ?_ ?_
    rotate_left
    · show Act.put _ (some 23) _ = _
      simp only [Act.put, List.setIfInBounds_toArray, List.set_cons_zero, List.set_cons_succ, i64_w, i32_w]
      rfl
    refine one_ (i := 5) (N := some 24) #[true, true, true, true, true, true, false, false, false, false, false] rfl rfl (one_of HT_.out (by kernel_rfl)) (by decide) (fun K hK => ?_)
    refine goes_ Try.func119 (by kernel_rfl) rfl #[.agg #[.slice A1_0 l1_0.length c1_0, .slice A1_1 l1_1.length c1_1], .int .i64 sec] (by rfl) rfl rfl (by (try simp only [List.map_toArray, List.map_cons, List.map_nil]); first | done | rfl | (simp only [List.length_drop, List.length_take]; rfl)) ?_
    have HB4 := Aside0.mk (below_step HB3.out HD4.out)
    refine (catamaranref05_Got.calls 100 A1_0 c1_0 l1_0 A1_1 c1_1 l1_1 sec x false _ (Kd.C_below HR0.out HB4.out) HC0.out (Kd.C_below HR1.out HB4.out) HC1.out FG.out).mono ?_
    rintro e w5 ⟨v5, rfl, ho5, hA⟩
    obtain ⟨gx, cx, ex⟩ := u8_blkR ho5 HXP.out
    subst ex
    have HX := Aside0.mk (Kd.R_reads' ho5).2.2
    have HD5 := Aside0.mk (below_step HD4.out hA)
    have HB5 := Aside0.mk (below_step HB4.out hA)
    clear hA ho5 hHeld
    refine ⟨_, rfl, ?_⟩
    refine hK.out _ _ (by exact HSS.out _ HD5.out) (fun hHeld => ?_)
    clear hK K
    refine norm_ (a' := ?_) ?_ ?_
    rotate_left
    · show Act.put _ (some 24) _ = _
      simp only [Act.put, List.setIfInBounds_toArray, List.set_cons_zero, List.set_cons_succ, i64_w, i32_w]
      rfl
    refine pure_ (i := 6) (N := some 18) (v := ?_) (a' := ?_) #[true, true, true, true, true, true, true, false, false, false, false] rfl rfl (any_of HT_.out (by kernel_rfl)) (fun _ _ _ h => h) (Or.inl ⟨by rfl, ?_⟩) ?_ ?_
    rotate_left
    · intro w'
      go_simp
      with_reducible rfl
    rotate_left
    · simp only [Act.put, List.setIfInBounds_toArray, List.set_cons_zero, List.set_cons_succ, i64_w, i32_w]
      rfl
    refine pure_ (i := 7) (N := some 25) (v := ?_) (a' := ?_) #[true, true, true, true, true, true, true, true, false, false, false] rfl rfl (any_of HT_.out (by kernel_rfl)) (fun _ _ _ h => h) (Or.inl ⟨by rfl, ?_⟩) ?_ ?_
    rotate_left
    · intro w'
      go_simp
      with_reducible rfl
    rotate_left
    · simp only [Act.put, List.setIfInBounds_toArray, List.set_cons_zero, List.set_cons_succ, i64_w, i32_w]
      rfl
    refine pure_ (i := 8) (N := some 26) (v := ?_) (a' := ?_) #[true, true, true, true, true, true, true, true, true, false, false] rfl rfl (any_of HT_.out (by kernel_rfl)) (fun _ _ _ h => h) (Or.inl ⟨by rfl, ?_⟩) ?_ ?_
    rotate_left
    · intro w'
      go_simp
      with_reducible rfl
    rotate_left
    · simp only [Act.put, List.setIfInBounds_toArray, List.set_cons_zero, List.set_cons_succ, i64_w, i32_w]
      rfl
    refine pure_ (i := 9) (N := some 10) (v := ?_) (a' := ?_) #[true, true, true, true, true, true, true, true, true, true, false] rfl rfl (any_of HT_.out (by kernel_rfl)) (fun _ _ _ h => h) (Or.inl ⟨by rfl, ?_⟩) ?_ ?_
    rotate_left
    · intro w'
      go_simp
      with_reducible rfl
    rotate_left
    · simp only [Act.put, List.setIfInBounds_toArray, List.set_cons_zero, List.set_cons_succ, i64_w, i32_w]
      rfl
    refine pure_ (i := 10) (N := some 11) (v := ?_) (a' := ?_) #[true, true, true, true, true, true, true, true, true, true, true] rfl rfl (any_of HT_.out (by kernel_rfl)) (fun _ _ _ h => h) (Or.inl ⟨by rfl, ?_⟩) ?_ ?_
    rotate_left
    · intro w'
      go_simp
      with_reducible rfl
    rotate_left
    · simp only [Act.put, List.setIfInBounds_toArray, List.set_cons_zero, List.set_cons_succ, i64_w, i32_w]
      rfl
    refine done_ (done_of HT_.out (by kernel_rfl)) ?_
    go_wp2
    go_ret
    exact ⟨rfl, HB5.out⟩
  | true =>
  replace H := Aside0.mk (show rTolds a2 a3 (rd (pgAlls a0_1) a3) x = r from H.out)
  go_enter Try.func117, Try.ntmps117
  go_upto_region 2 with (first
    | ((with_reducible refine gate_dst (N := 4) rfl ?_); refine box_event ?hg (N := 4) ?hd (cs := #[.int .i64 a0_0, .int .i64 a0_1, .int .i64 a0_2, .int .i64 a0_3, .int .i64 a0_4, .int .i64 a0_5]) (t := 44) ?hr ?_; (case hd => rfl); (case hg => rfl); (case hr => first | (go_simp; done) | (go_simp; rfl)); intro g1 hg w1 hbox hb; have HB := Aside0.mk hb; have BK1 := Aside0.mk hbox; clear hg hbox hb)
    | ((with_reducible refine gate_dst (N := 5) rfl ?_); refine box_event ?hg (N := 5) ?hd (cs := #[.slice A1_0 l1_0.length c1_0, .slice A1_1 l1_1.length c1_1]) (t := 25) ?hr ?_; (case hd => rfl); (case hg => rfl); (case hr => first | (go_simp; done) | (go_simp; rfl)); intro g2 hg w2 hbox hb; have BK2 := Aside0.mk hbox; have HB2 := Aside0.mk (below_step HB.out hb); have BK1b := Aside0.mk (blk_below BK1.out hb); have hc0 : w2.cell? ⟨g1, 0, none⟩ = some (.int .i64 a0_0) := (blk_cell BK1b.out 0).trans rfl; have hc1 : w2.cell? ⟨g1, 1, none⟩ = some (.int .i64 a0_1) := (blk_cell BK1b.out 1).trans rfl; have hc2 : w2.cell? ⟨g1, 2, none⟩ = some (.int .i64 a0_2) := (blk_cell BK1b.out 2).trans rfl; have hc3 : w2.cell? ⟨g1, 3, none⟩ = some (.int .i64 a0_3) := (blk_cell BK1b.out 3).trans rfl; have hc4 : w2.cell? ⟨g1, 4, none⟩ = some (.int .i64 a0_4) := (blk_cell BK1b.out 4).trans rfl; have hc5 : w2.cell? ⟨g1, 5, none⟩ = some (.int .i64 a0_5) := (blk_cell BK1b.out 5).trans rfl; clear hg hbox hb)
    | (go_at_call 136; refine (catamaranref03_Full.calls 60 a0_1 (pgAlls a0_1) _ HF.out).mono ?_; rintro e w3 ⟨v3, rfl, ho3, hq⟩; obtain ⟨gf, cf, ef⟩ := u8_blkR ho3 HFL.out; subst ef; have hz3 := num_cellI ho3 HI.out.1 HIL.out; have HB3 := Aside0.mk (below_step HB2.out hq); have BK1c := Aside0.mk (blk_below BK1b.out hq); have BK2c := Aside0.mk (blk_below BK2.out hq); clear hq ho3 hc0 hc1 hc2 hc3 hc4 hc5))
  have HSS := Aside0.mk (show ∀ W : World, Below w3.heap.size w3 W → W.cell? ⟨g1, 0, none⟩ = some (.int .i64 a0_0) ∧ W.cell? ⟨g1, 1, none⟩ = some (.int .i64 a0_1) ∧ W.cell? ⟨g1, 2, none⟩ = some (.int .i64 a0_2) ∧ W.cell? ⟨g1, 3, none⟩ = some (.int .i64 a0_3) ∧ W.cell? ⟨g1, 4, none⟩ = some (.int .i64 a0_4) ∧ W.cell? ⟨g1, 5, none⟩ = some (.int .i64 a0_5) ∧ W.cell? ⟨g2, 0, none⟩ = some (.slice A1_0 l1_0.length c1_0) ∧ W.cell? ⟨g2, 1, none⟩ = some (.slice A1_1 l1_1.length c1_1) from fun W hb => ⟨(blk_cell (blk_below BK1c.out hb) 0).trans rfl, (blk_cell (blk_below BK1c.out hb) 1).trans rfl, (blk_cell (blk_below BK1c.out hb) 2).trans rfl, (blk_cell (blk_below BK1c.out hb) 3).trans rfl, (blk_cell (blk_below BK1c.out hb) 4).trans rfl, (blk_cell (blk_below BK1c.out hb) 5).trans rfl, (blk_cell (blk_below BK2c.out hb) 0).trans rfl, (blk_cell (blk_below BK2c.out hb) 1).trans rfl⟩)
  clear hz3
  refine start_ (n := 11) (S := fun w' => w'.cell? ⟨g1, 0, none⟩ = some (.int .i64 a0_0) ∧ w'.cell? ⟨g1, 1, none⟩ = some (.int .i64 a0_1) ∧ w'.cell? ⟨g1, 2, none⟩ = some (.int .i64 a0_2) ∧ w'.cell? ⟨g1, 3, none⟩ = some (.int .i64 a0_3) ∧ w'.cell? ⟨g1, 4, none⟩ = some (.int .i64 a0_4) ∧ w'.cell? ⟨g1, 5, none⟩ = some (.int .i64 a0_5) ∧ w'.cell? ⟨g2, 0, none⟩ = some (.slice A1_0 l1_0.length c1_0) ∧ w'.cell? ⟨g2, 1, none⟩ = some (.slice A1_1 l1_1.length c1_1)) (ds := []) #[false, false, false, false, false, false, false, false, false, false, false] (by kernel_rfl) rfl rfl (by exact HSS.out _ (bdr1 (Below.refl _ _))) (fun hHeld => ?_); refine wtW hRTold.tab2 hRTold.bits2 (fun HT_ HW_ => ?_)
  refine take_ (i := 0) (N := some 19) (v := ?_) (a' := ?_) #[true, false, false, false, false, false, false, false, false, false, false] rfl rfl (take_ofW HT_.out HW_.out (by kernel_rfl)) (fun _ _ _ h => h) (Or.inl ⟨by rfl, ?_⟩) hHeld ?_ ?_
  rotate_left
  · rintro w' ⟨s0, s1, s2, s3, s4, s5, s6, s7⟩
    go_simp
    with_reducible rfl
  rotate_left
  · simp only [Act.put, List.setIfInBounds_toArray, List.set_cons_zero, List.set_cons_succ, i64_w, i32_w]
    rfl
  refine take_ (i := 1) (N := some 20) (v := ?_) (a' := ?_) #[true, true, false, false, false, false, false, false, false, false, false] rfl rfl (take_ofW HT_.out HW_.out (by kernel_rfl)) (fun _ _ _ h => h) (Or.inl ⟨by rfl, ?_⟩) hHeld ?_ ?_
  rotate_left
  · rintro w' ⟨s0, s1, s2, s3, s4, s5, s6, s7⟩
    go_simp
    with_reducible rfl
  rotate_left
  · simp only [Act.put, List.setIfInBounds_toArray, List.set_cons_zero, List.set_cons_succ, i64_w, i32_w]
    rfl
  refine pure_ (i := 2) (N := some 21) (v := ?_) (a' := ?_) #[true, true, true, false, false, false, false, false, false, false, false] rfl rfl (any_of HT_.out (by kernel_rfl)) (fun _ _ _ h => h) (Or.inl ⟨by rfl, ?_⟩) ?_ ?_
  rotate_left
  · intro w'
    go_simp
    with_reducible rfl
  rotate_left
  · simp only [Act.put, List.setIfInBounds_toArray, List.set_cons_zero, List.set_cons_succ, i64_w, i32_w]
    rfl
  refine pure_ (i := 3) (N := some 22) (v := ?_) (a' := ?_) #[true, true, true, true, false, false, false, false, false, false, false] rfl rfl (any_of HT_.out (by kernel_rfl)) (fun _ _ _ h => h) (Or.inl ⟨by rfl, ?_⟩) ?_ ?_
  rotate_left
  · intro w'
    go_simp
    with_reducible rfl
  rotate_left
  · simp only [Act.put, List.setIfInBounds_toArray, List.set_cons_zero, List.set_cons_succ, i64_w, i32_w]
    rfl
  refine one_ (i := 4) (N := some 23) #[true, true, true, true, true, false, false, false, false, false, false] rfl rfl (one_of HT_.out (by kernel_rfl)) (by decide) (fun K hK => ?_)
  refine goes_ Try.func137 (by kernel_rfl) rfl #[.agg #[.int .i64 a0_0, .int .i64 a0_1, .int .i64 a0_2, .int .i64 a0_3, .int .i64 a0_4, .int .i64 a0_5], .int .i64 a2, .int .i64 a3] (by rfl) rfl rfl (by (try simp only [List.map_toArray, List.map_cons, List.map_nil]); first | done | rfl | (simp only [List.length_drop, List.length_take]; rfl)) ?_
  refine (catamaranref07_OfPage.calls _ _ _ _ _ _ _ _ _ _ HP.out).mono ?_
  rintro e w4 ⟨rfl, hA⟩
  have HD4 := Aside0.mk (below_step (bdr1 (Below.refl w3.heap.size w3)) hA)
  clear hA hHeld
  refine ⟨_, rfl, ?_⟩
  refine hK.out _ _ (by exact HSS.out _ HD4.out) (fun hHeld => ?_)
  clear hK K
  refine norm_ (a' := ?_) ?_ ?_
  rotate_left
  · show Act.put _ (some 23) _ = _
    simp only [Act.put, List.setIfInBounds_toArray, List.set_cons_zero, List.set_cons_succ, i64_w, i32_w]
    rfl
  refine one_ (i := 5) (N := some 24) #[true, true, true, true, true, true, false, false, false, false, false] rfl rfl (one_of HT_.out (by kernel_rfl)) (by decide) (fun K hK => ?_)
  refine goes_ Try.func119 (by kernel_rfl) rfl #[.agg #[.slice A1_0 l1_0.length c1_0, .slice A1_1 l1_1.length c1_1], .int .i64 sec] (by rfl) rfl rfl (by (try simp only [List.map_toArray, List.map_cons, List.map_nil]); first | done | rfl | (simp only [List.length_drop, List.length_take]; rfl)) ?_
  have HB4 := Aside0.mk (below_step HB3.out HD4.out)
  refine (catamaranref05_Got.calls 100 A1_0 c1_0 l1_0 A1_1 c1_1 l1_1 sec x true _ (Kd.C_below HR0.out HB4.out) HC0.out (Kd.C_below HR1.out HB4.out) HC1.out FG.out).mono ?_
  rintro e w5 ⟨v5, rfl, ho5, hA⟩
  obtain ⟨gx, cx, ex⟩ := u8_blkR ho5 HXP.out
  subst ex
  have HX := Aside0.mk (Kd.R_reads' ho5).2.2
  have HD5 := Aside0.mk (below_step HD4.out hA)
  have HB5 := Aside0.mk (below_step HB4.out hA)
  clear hA ho5 hHeld
  refine ⟨_, rfl, ?_⟩
  refine hK.out _ _ (by exact HSS.out _ HD5.out) (fun hHeld => ?_)
  clear hK K
  refine norm_ (a' := ?_) ?_ ?_
  rotate_left
  · show Act.put _ (some 24) _ = _
    simp only [Act.put, List.setIfInBounds_toArray, List.set_cons_zero, List.set_cons_succ, i64_w, i32_w]
    rfl
  refine pure_ (i := 6) (N := some 18) (v := ?_) (a' := ?_) #[true, true, true, true, true, true, true, false, false, false, false] rfl rfl (any_of HT_.out (by kernel_rfl)) (fun _ _ _ h => h) (Or.inl ⟨by rfl, ?_⟩) ?_ ?_
  rotate_left
  · intro w'
    go_simp
    with_reducible rfl
  rotate_left
  · simp only [Act.put, List.setIfInBounds_toArray, List.set_cons_zero, List.set_cons_succ, i64_w, i32_w]
    rfl
  refine pure_ (i := 7) (N := some 25) (v := ?_) (a' := ?_) #[true, true, true, true, true, true, true, true, false, false, false] rfl rfl (any_of HT_.out (by kernel_rfl)) (fun _ _ _ h => h) (Or.inl ⟨by rfl, ?_⟩) ?_ ?_
  rotate_left
  · intro w'
    go_simp
    with_reducible rfl
  rotate_left
  · simp only [Act.put, List.setIfInBounds_toArray, List.set_cons_zero, List.set_cons_succ, i64_w, i32_w]
    rfl
  refine pure_ (i := 8) (N := some 26) (v := ?_) (a' := ?_) #[true, true, true, true, true, true, true, true, true, false, false] rfl rfl (any_of HT_.out (by kernel_rfl)) (fun _ _ _ h => h) (Or.inl ⟨by rfl, ?_⟩) ?_ ?_
  rotate_left
  · intro w'
    go_simp
    with_reducible rfl
  rotate_left
  · simp only [Act.put, List.setIfInBounds_toArray, List.set_cons_zero, List.set_cons_succ, i64_w, i32_w]
    rfl
  refine pure_ (i := 9) (N := some 10) (v := ?_) (a' := ?_) #[true, true, true, true, true, true, true, true, true, true, false] rfl rfl (any_of HT_.out (by kernel_rfl)) (fun _ _ _ h => h) (Or.inl ⟨by rfl, ?_⟩) ?_ ?_
  rotate_left
  · intro w'
    go_simp
    with_reducible rfl
  rotate_left
  · simp only [Act.put, List.setIfInBounds_toArray, List.set_cons_zero, List.set_cons_succ, i64_w, i32_w]
    rfl
  refine pure_ (i := 10) (N := some 11) (v := ?_) (a' := ?_) #[true, true, true, true, true, true, true, true, true, true, true] rfl rfl (any_of HT_.out (by kernel_rfl)) (fun _ _ _ h => h) (Or.inl ⟨by rfl, ?_⟩) ?_ ?_
  rotate_left
  · intro w'
    go_simp
    with_reducible rfl
  rotate_left
  · simp only [Act.put, List.setIfInBounds_toArray, List.set_cons_zero, List.set_cons_succ, i64_w, i32_w]
    rfl
  refine done_ (done_of HT_.out (by kernel_rfl)) ?_
  generalize rd (pgAlls a0_1) a3 = all at H ⊢
  go_upto_region 5 with fail
  have HSX := Aside0.mk (show ∀ W : World, Below w5.heap.size w5 W → (convert 31 9 (.slice (some ⟨gx, 0, none⟩) x.length cx)).run Try.prog W = .ok (.string (strOfNums x)) W from fun W hb => Kd.C_string (P := Try.prog) (A := some ⟨gx, 0, none⟩) (c := cx) Try.underlying31 Try.underlying5 Try.underlying9 (Kd.C_below HX.out hb))
  refine start_ (n := 5) (S := fun w' => (convert 31 9 (.slice (some ⟨gx, 0, none⟩) x.length cx)).run Try.prog w' = .ok (.string (strOfNums x)) w') (ds := []) #[false, false, false, false, false] (by kernel_rfl) rfl rfl (by exact HSX.out _ (bdr1 (Below.refl _ _))) (fun hHeld => ?_); refine wtW hRTold.tab5 hRTold.bits5 (fun HT_ HW_ => ?_)
  refine pure_ (i := 0) (N := some 30) (v := ?_) (a' := ?_) #[true, false, false, false, false] rfl rfl (any_of HT_.out (by kernel_rfl)) (fun _ _ _ h => h) (Or.inl ⟨by rfl, ?_⟩) ?_ ?_
  rotate_left
  · intro w'
    go_simp
    with_reducible rfl
  rotate_left
  · simp only [Act.put, List.setIfInBounds_toArray, List.set_cons_zero, List.set_cons_succ, i64_w, i32_w]
    rfl
  refine take_ (i := 1) (N := some 31) (v := ?_) (a' := ?_) #[true, true, false, false, false] rfl rfl (take_ofW HT_.out HW_.out (by kernel_rfl)) (fun _ _ _ h => h) (Or.inl ⟨by rfl, ?_⟩) hHeld ?_ ?_
  rotate_left
  · rintro w' s0
    go_simp
    with_reducible rfl
  rotate_left
  · simp only [Act.put, List.setIfInBounds_toArray, List.set_cons_zero, List.set_cons_succ, i64_w, i32_w]
    rfl
  refine one_ (i := 2) (N := some 32) #[true, true, true, false, false] rfl rfl (one_of HT_.out (by kernel_rfl)) (by decide) (fun K hK => ?_)
  refine Kd.R_make_step (Kd.int .u8) _ 5 (by rfl) (N := 32) rfl 31 _ _ rfl 32 rfl rfl Try.underlying31 (.int .u8 0) 1 info5 rfl (by decide) (by omega) 0 (ok := fun _ => True) (okp := fun _ => True) rfl (fun _ hk => hk) trivial (by omega) (by omega) (Below.refl _ _) (Nat.le_refl _) ?_
  intro v6 w6 ho6 hb6 hg_ hnew_
  clear hg_ hnew_
  obtain ⟨z, hz0⟩ : ∃ z, List.replicate (32 : Int).toNat (0 : Int) = z := ⟨_, rfl⟩
  rw [hz0] at ho6
  have HZ0 := Aside0.mk (show z = zero32 from hz0.symm)
  clear hz0
  obtain ⟨Y, y, ey⟩ := Kd.R_slice ho6
  subst ey
  have HY := Aside0.mk (Kd.R_reads' ho6).2.2
  have HD6 := Aside0.mk (below_step (bdr1 (Below.refl w5.heap.size w5)) hb6)
  have HB6 := Aside0.mk (below_step HB5.out HD6.out)
  clear ho6 hb6 hHeld
  refine hK.out _ _ (by exact HSX.out _ HD6.out) (fun hHeld => ?_)
  clear hK K
  refine norm_ (a' := ?_) ?_ ?_
  rotate_left
  · show Act.put _ (some 32) _ = _
    simp only [Act.put, List.setIfInBounds_toArray, List.set_cons_zero, List.set_cons_succ, i64_w, i32_w]
    rfl
  refine one_ (i := 3) (N := some 33) #[true, true, true, true, false] rfl rfl (one_of HT_.out (by kernel_rfl)) (by decide) (fun K hK => ?_)
  have hcv := Kd.C_string (P := Try.prog) (A := Y) (c := y) Try.underlying31 Try.underlying5 Try.underlying9 HY.out
  refine value_ (w1 := ?_) (v := ?_) (by rfl) rfl ?_ ?_
  rotate_left 2
  · go_simp
    constructor
    · rfl
    · rfl
  clear hcv hHeld
  refine hK.out _ _ (by exact HSX.out _ HD6.out) (fun hHeld => ?_)
  clear hK K
  refine norm_ (a' := ?_) ?_ ?_
  rotate_left
  · show Act.put _ (some 33) _ = _
    simp only [Act.put, List.setIfInBounds_toArray, List.set_cons_zero, List.set_cons_succ, i64_w, i32_w]
    rfl
  refine pure_ (i := 4) (N := some 34) (v := ?_) (a' := ?_) #[true, true, true, true, true] rfl rfl (any_of HT_.out (by kernel_rfl)) (fun _ _ _ h => h) (Or.inl ⟨by rfl, ?_⟩) ?_ ?_
  rotate_left
  · intro w'
    go_simp
    with_reducible rfl
  rotate_left
  · simp only [Act.put, List.setIfInBounds_toArray, List.set_cons_zero, List.set_cons_succ, i64_w, i32_w]
    rfl
  refine done_ (done_of HT_.out (by kernel_rfl)) ?_
  rw [HZ0.out]
  clear HY
  rcases Bool.eq_false_or_eq_true ((strOfNums x).toList == (strOfNums zero32).toList) with hz | hz
  · obtain rfl : 0 = r := by have := H.out; unfold rTolds at this; rwa [if_pos hz] at this
    rw [hz]
    clear H hz
    go_wp2
    go_ret
    exact ⟨rfl, HB6.out⟩
  rw [hz]
  replace H := Aside0.mk (show (if Go.bits .and .u8 (rd x 3) all = rd x 3 then (if ((strOfNums x).toList == (strOfNums (pgText a2 a3 (rd x 3))).toList) = true then rd x 3 else all) else all) = r by have := H.out; unfold rTolds at this; rwa [if_neg (by rw [hz]; simp)] at this)
  clear hz HSX
  go_upto_region 7 with fail
  obtain ⟨_, e, hx3⟩ := Kd.at_int (Kd.C_below HX.out HD6.out) 3 (by decide) (by rw [HXL.out]; decide)
  injection e with e
  subst e
  replace hx3 : w6.cell? ⟨gx, 3, none⟩ = some (.int .u8 (rd x 3)) := hx3
  generalize rd x 3 = b at hx3 H
  have hbk := World.block_lt_of_cell? w6 _ hx3
  have hl3 : (3 : Int) < x.length := by rw [HXL.out]; decide
  by_cases hn : Go.bits .and .u8 b all = b
  rotate_left
  · have hn1 : (Go.bits .and .u8 b all == b) = false := beq_eq_false_iff_ne.2 hn
    obtain rfl : all = r := by have := H.out; rwa [if_neg hn] at this
    clear H hn
    have HSS7 := Aside0.mk (show ∀ W : World, Below w6.heap.size w6 W → W.cell? ⟨gx, 3, none⟩ = some (.int .u8 b) from fun W hb => (hb.cell hbk).trans hx3)
    clear hx3 hbk
    refine start_ (n := 21) (S := fun w' => w'.cell? ⟨gx, 3, none⟩ = some (.int .u8 b)) (ds := []) #[false, false, false, false, false, false, false, false, false, false, false, false, false, false, false, false, false, false, false, false, false] (by kernel_rfl) rfl rfl (by exact HSS7.out _ (bdr1 (Below.refl _ _))) (fun hHeld => ?_); refine wtW hRTold.tab7 hRTold.bits7 (fun HT_ HW_ => ?_)
    refine pure_ (i := 0) (N := some 35) (v := ?_) (a' := ?_) #[true, false, false, false, false, false, false, false, false, false, false, false, false, false, false, false, false, false, false, false, false] rfl rfl (any_of HT_.out (by kernel_rfl)) (fun _ _ _ h => h) (Or.inl ⟨by rfl, ?_⟩) ?_ ?_
    rotate_left
    · intro w'
      go_simp
      with_reducible rfl
    rotate_left
    · simp only [Act.put, List.setIfInBounds_toArray, List.set_cons_zero, List.set_cons_succ, i64_w, i32_w]
      rfl
    refine pure_ (i := 1) (N := some 36) (v := ?_) (a' := ?_) #[true, true, false, false, false, false, false, false, false, false, false, false, false, false, false, false, false, false, false, false, false] rfl rfl (any_of HT_.out (by kernel_rfl)) (fun _ _ _ h => h) (Or.inl ⟨by rfl, ?_⟩) ?_ ?_
    rotate_left
    · intro w'
      go_simp
      with_reducible rfl
    rotate_left
    · simp only [Act.put, List.setIfInBounds_toArray, List.set_cons_zero, List.set_cons_succ, i64_w, i32_w]
      rfl
    refine take_ (i := 2) (N := some 37) (v := ?_) (a' := ?_) #[true, true, true, false, false, false, false, false, false, false, false, false, false, false, false, false, false, false, false, false, false] rfl rfl (take_ofW HT_.out HW_.out (by kernel_rfl)) (fun _ _ _ h => h) (Or.inl ⟨by rfl, ?_⟩) hHeld ?_ ?_
    rotate_left
    · rintro w' s0
      go_simp
      with_reducible rfl
    rotate_left
    · simp only [Act.put, List.setIfInBounds_toArray, List.set_cons_zero, List.set_cons_succ, i64_w, i32_w]
      rfl
    refine pure_ (i := 3) (N := some 38) (v := ?_) (a' := ?_) #[true, true, true, true, false, false, false, false, false, false, false, false, false, false, false, false, false, false, false, false, false] rfl rfl (any_of HT_.out (by kernel_rfl)) (fun _ _ _ h => h) (Or.inl ⟨by rfl, ?_⟩) ?_ ?_
    rotate_left
    · intro w'
      go_simp
      with_reducible rfl
    rotate_left
    · simp only [Act.put, List.setIfInBounds_toArray, List.set_cons_zero, List.set_cons_succ, i64_w, i32_w]
      rfl
    refine pure_ (i := 4) (N := some 39) (v := ?_) (a' := ?_) #[true, true, true, true, true, false, false, false, false, false, false, false, false, false, false, false, false, false, false, false, false] rfl rfl (any_of HT_.out (by kernel_rfl)) (fun _ _ _ h => h) (Or.inl ⟨by rfl, ?_⟩) ?_ ?_
    rotate_left
    · intro w'
      go_simp
      with_reducible rfl
    rotate_left
    · simp only [Act.put, List.setIfInBounds_toArray, List.set_cons_zero, List.set_cons_succ, i64_w, i32_w]
      rfl
    refine pure_ (i := 5) (N := some 40) (v := ?_) (a' := ?_) #[true, true, true, true, true, true, false, false, false, false, false, false, false, false, false, false, false, false, false, false, false] rfl rfl (any_of HT_.out (by kernel_rfl)) (fun _ _ _ h => h) (Or.inl ⟨by rfl, ?_⟩) ?_ ?_
    rotate_left
    · intro w'
      go_simp
      with_reducible rfl
    rotate_left
    · simp only [Act.put, List.setIfInBounds_toArray, List.set_cons_zero, List.set_cons_succ, i64_w, i32_w]
      rfl
    refine pure_ (i := 6) (N := some 41) (v := ?_) (a' := ?_) #[true, true, true, true, true, true, true, false, false, false, false, false, false, false, false, false, false, false, false, false, false] rfl rfl (any_of HT_.out (by kernel_rfl)) (fun _ _ _ h => h) (Or.inl ⟨by rfl, ?_⟩) ?_ ?_
    rotate_left
    · intro w'
      go_simp
      with_reducible rfl
    rotate_left
    · simp only [Act.put, List.setIfInBounds_toArray, List.set_cons_zero, List.set_cons_succ, i64_w, i32_w]
      rfl
    refine take_ (i := 7) (N := some 42) (v := ?_) (a' := ?_) #[true, true, true, true, true, true, true, true, false, false, false, false, false, false, false, false, false, false, false, false, false] rfl rfl (take_ofW HT_.out HW_.out (by kernel_rfl)) (fun _ _ _ h => h) (Or.inl ⟨by rfl, ?_⟩) hHeld ?_ ?_
    rotate_left
    · rintro w' s0
      go_simp
      with_reducible rfl
    rotate_left
    · simp only [Act.put, List.setIfInBounds_toArray, List.set_cons_zero, List.set_cons_succ, i64_w, i32_w]
      rfl
    refine pure_ (i := 8) (N := some 43) (v := ?_) (a' := ?_) #[true, true, true, true, true, true, true, true, true, false, false, false, false, false, false, false, false, false, false, false, false] rfl rfl (any_of HT_.out (by kernel_rfl)) (fun _ _ _ h => h) (Or.inl ⟨by rfl, ?_⟩) ?_ ?_
    rotate_left
    · intro w'
      go_simp
      with_reducible rfl
    rotate_left
    · simp only [Act.put, List.setIfInBounds_toArray, List.set_cons_zero, List.set_cons_succ, i64_w, i32_w]
      rfl
    refine pure_ (i := 9) (N := some 44) (v := ?_) (a' := ?_) #[true, true, true, true, true, true, true, true, true, true, false, false, false, false, false, false, false, false, false, false, false] rfl rfl (any_of HT_.out (by kernel_rfl)) (fun _ _ _ h => h) (Or.inl ⟨by rfl, ?_⟩) ?_ ?_
    rotate_left
    · intro w'
      go_simp
      with_reducible rfl
    rotate_left
    · simp only [Act.put, List.setIfInBounds_toArray, List.set_cons_zero, List.set_cons_succ, i64_w, i32_w]
      rfl
    refine pure_ (i := 10) (N := some 45) (v := undef) (a' := ?_) #[true, true, true, true, true, true, true, true, true, true, true, false, false, false, false, false, false, false, false, false, false] rfl rfl (any_of HT_.out (by kernel_rfl)) (fun _ _ _ h => h) (Or.inr ⟨by rfl, rfl⟩) ?_ ?_
    rotate_left
    · simp only [Act.put, List.setIfInBounds_toArray, List.set_cons_zero, List.set_cons_succ, i64_w, i32_w]
      rfl
    refine pure_ (i := 11) (N := some 46) (v := undef) (a' := ?_) #[true, true, true, true, true, true, true, true, true, true, true, true, false, false, false, false, false, false, false, false, false] rfl rfl (any_of HT_.out (by kernel_rfl)) (fun _ _ _ h => h) (Or.inr ⟨by rfl, rfl⟩) ?_ ?_
    rotate_left
    · simp only [Act.put, List.setIfInBounds_toArray, List.set_cons_zero, List.set_cons_succ, i64_w, i32_w]
      rfl
    refine pure_ (i := 12) (N := some 47) (v := undef) (a' := ?_) #[true, true, true, true, true, true, true, true, true, true, true, true, true, false, false, false, false, false, false, false, false] rfl rfl (any_of HT_.out (by kernel_rfl)) (fun _ _ _ h => h) (Or.inr ⟨by rfl, rfl⟩) ?_ ?_
    rotate_left
    · simp only [Act.put, List.setIfInBounds_toArray, List.set_cons_zero, List.set_cons_succ, i64_w, i32_w]
      rfl
    refine pure_ (i := 13) (N := some 48) (v := undef) (a' := ?_) #[true, true, true, true, true, true, true, true, true, true, true, true, true, true, false, false, false, false, false, false, false] rfl rfl (any_of HT_.out (by kernel_rfl)) (fun _ _ _ h => h) (Or.inr ⟨by rfl, rfl⟩) ?_ ?_
    rotate_left
    · simp only [Act.put, List.setIfInBounds_toArray, List.set_cons_zero, List.set_cons_succ, i64_w, i32_w]
      rfl
    refine pure_ (i := 14) (N := some 49) (v := undef) (a' := ?_) #[true, true, true, true, true, true, true, true, true, true, true, true, true, true, true, false, false, false, false, false, false] rfl rfl (any_of HT_.out (by kernel_rfl)) (fun _ _ _ h => h) (Or.inr ⟨by rfl, rfl⟩) ?_ ?_
    rotate_left
    · simp only [Act.put, List.setIfInBounds_toArray, List.set_cons_zero, List.set_cons_succ, i64_w, i32_w]
      rfl
    refine pure_ (i := 15) (N := some 50) (v := undef) (a' := ?_) #[true, true, true, true, true, true, true, true, true, true, true, true, true, true, true, true, false, false, false, false, false] rfl rfl (any_of HT_.out (by kernel_rfl)) (fun _ _ _ h => h) (Or.inr ⟨by rfl, rfl⟩) ?_ ?_
    rotate_left
    · simp only [Act.put, List.setIfInBounds_toArray, List.set_cons_zero, List.set_cons_succ, i64_w, i32_w]
      rfl
    refine pure_ (i := 16) (N := some 51) (v := undef) (a' := ?_) #[true, true, true, true, true, true, true, true, true, true, true, true, true, true, true, true, true, false, false, false, false] rfl rfl (any_of HT_.out (by kernel_rfl)) (fun _ _ _ h => h) (Or.inr ⟨by rfl, rfl⟩) ?_ ?_
    rotate_left
    · simp only [Act.put, List.setIfInBounds_toArray, List.set_cons_zero, List.set_cons_succ, i64_w, i32_w]
      rfl
    refine pure_ (i := 17) (N := some 52) (v := undef) (a' := ?_) #[true, true, true, true, true, true, true, true, true, true, true, true, true, true, true, true, true, true, false, false, false] rfl rfl (any_of HT_.out (by kernel_rfl)) (fun _ _ _ h => h) (Or.inr ⟨by rfl, rfl⟩) ?_ ?_
    rotate_left
    · simp only [Act.put, List.setIfInBounds_toArray, List.set_cons_zero, List.set_cons_succ, i64_w, i32_w]
      rfl
    refine pure_ (i := 18) (N := some 53) (v := undef) (a' := ?_) #[true, true, true, true, true, true, true, true, true, true, true, true, true, true, true, true, true, true, true, false, false] rfl rfl (any_of HT_.out (by kernel_rfl)) (fun _ _ _ h => h) (Or.inr ⟨by rfl, rfl⟩) ?_ ?_
    rotate_left
    · simp only [Act.put, List.setIfInBounds_toArray, List.set_cons_zero, List.set_cons_succ, i64_w, i32_w]
      rfl
    refine pure_ (i := 19) (N := some 54) (v := undef) (a' := ?_) #[true, true, true, true, true, true, true, true, true, true, true, true, true, true, true, true, true, true, true, true, false] rfl rfl (any_of HT_.out (by kernel_rfl)) (fun _ _ _ h => h) (Or.inr ⟨by rfl, rfl⟩) ?_ ?_
    rotate_left
    · simp only [Act.put, List.setIfInBounds_toArray, List.set_cons_zero, List.set_cons_succ, i64_w, i32_w]
      rfl
    refine pure_ (i := 20) (N := some 55) (v := ?_) (a' := ?_) #[true, true, true, true, true, true, true, true, true, true, true, true, true, true, true, true, true, true, true, true, true] rfl rfl (any_of HT_.out (by kernel_rfl)) (fun _ _ _ h => h) (Or.inl ⟨by rfl, ?_⟩) ?_ ?_
    rotate_left
    · intro w'
      go_simp
      with_reducible rfl
    rotate_left
    · simp only [Act.put, List.setIfInBounds_toArray, List.set_cons_zero, List.set_cons_succ, i64_w, i32_w]
      rfl
    refine done_ (done_of HT_.out (by kernel_rfl)) ?_
    go_wp2
    go_ret
    exact ⟨rfl, bdr1 HB6.out⟩
  have hn1 : (Go.bits .and .u8 b all == b) = true := beq_iff_eq.2 hn
  replace H := Aside0.mk (show (if ((strOfNums x).toList == (strOfNums (pgText a2 a3 b)).toList) = true then b else all) = r by have := H.out; rwa [if_pos hn] at this)
  clear hn
  have HSS7 := Aside0.mk (show ∀ W : World, Below w6.heap.size w6 W → W.cell? ⟨gx, 3, none⟩ = some (.int .u8 b) ∧ (convert 31 9 (.slice (some ⟨gx, 0, none⟩) x.length cx)).run Try.prog W = .ok (.string (strOfNums x)) W from fun W hb => ⟨(hb.cell hbk).trans hx3, Kd.C_string (P := Try.prog) (A := some ⟨gx, 0, none⟩) (c := cx) Try.underlying31 Try.underlying5 Try.underlying9 (Kd.C_below HX.out (below_step HD6.out hb))⟩)
  clear hx3 hbk
  refine start_ (n := 21) (S := fun w' => w'.cell? ⟨gx, 3, none⟩ = some (.int .u8 b) ∧ (convert 31 9 (.slice (some ⟨gx, 0, none⟩) x.length cx)).run Try.prog w' = .ok (.string (strOfNums x)) w') (ds := []) #[false, false, false, false, false, false, false, false, false, false, false, false, false, false, false, false, false, false, false, false, false] (by kernel_rfl) rfl rfl (by exact HSS7.out _ (bdr1 (Below.refl _ _))) (fun hHeld => ?_); refine wtW hRTold.tab7 hRTold.bits7 (fun HT_ HW_ => ?_)
  refine pure_ (i := 0) (N := some 35) (v := ?_) (a' := ?_) #[true, false, false, false, false, false, false, false, false, false, false, false, false, false, false, false, false, false, false, false, false] rfl rfl (any_of HT_.out (by kernel_rfl)) (fun _ _ _ h => h) (Or.inl ⟨by rfl, ?_⟩) ?_ ?_
  rotate_left
  · intro w'
    go_simp
    with_reducible rfl
  rotate_left
  · simp only [Act.put, List.setIfInBounds_toArray, List.set_cons_zero, List.set_cons_succ, i64_w, i32_w]
    rfl
  refine pure_ (i := 1) (N := some 36) (v := ?_) (a' := ?_) #[true, true, false, false, false, false, false, false, false, false, false, false, false, false, false, false, false, false, false, false, false] rfl rfl (any_of HT_.out (by kernel_rfl)) (fun _ _ _ h => h) (Or.inl ⟨by rfl, ?_⟩) ?_ ?_
  rotate_left
  · intro w'
    go_simp
    with_reducible rfl
  rotate_left
  · simp only [Act.put, List.setIfInBounds_toArray, List.set_cons_zero, List.set_cons_succ, i64_w, i32_w]
    rfl
  refine take_ (i := 2) (N := some 37) (v := ?_) (a' := ?_) #[true, true, true, false, false, false, false, false, false, false, false, false, false, false, false, false, false, false, false, false, false] rfl rfl (take_ofW HT_.out HW_.out (by kernel_rfl)) (fun _ _ _ h => h) (Or.inl ⟨by rfl, ?_⟩) hHeld ?_ ?_
  rotate_left
  · rintro w' ⟨s0, s1⟩
    go_simp
    with_reducible rfl
  rotate_left
  · simp only [Act.put, List.setIfInBounds_toArray, List.set_cons_zero, List.set_cons_succ, i64_w, i32_w]
    rfl
  refine pure_ (i := 3) (N := some 38) (v := ?_) (a' := ?_) #[true, true, true, true, false, false, false, false, false, false, false, false, false, false, false, false, false, false, false, false, false] rfl rfl (any_of HT_.out (by kernel_rfl)) (fun _ _ _ h => h) (Or.inl ⟨by rfl, ?_⟩) ?_ ?_
  rotate_left
  · intro w'
    go_simp
    with_reducible rfl
  rotate_left
  · simp only [Act.put, List.setIfInBounds_toArray, List.set_cons_zero, List.set_cons_succ, i64_w, i32_w]
    rfl
  refine pure_ (i := 4) (N := some 39) (v := ?_) (a' := ?_) #[true, true, true, true, true, false, false, false, false, false, false, false, false, false, false, false, false, false, false, false, false] rfl rfl (any_of HT_.out (by kernel_rfl)) (fun _ _ _ h => h) (Or.inl ⟨by rfl, ?_⟩) ?_ ?_
  rotate_left
  · intro w'
    go_simp
    with_reducible rfl
  rotate_left
  · simp only [Act.put, List.setIfInBounds_toArray, List.set_cons_zero, List.set_cons_succ, i64_w, i32_w]
    rfl
  refine pure_ (i := 5) (N := some 40) (v := ?_) (a' := ?_) #[true, true, true, true, true, true, false, false, false, false, false, false, false, false, false, false, false, false, false, false, false] rfl rfl (any_of HT_.out (by kernel_rfl)) (fun _ _ _ h => h) (Or.inl ⟨by rfl, ?_⟩) ?_ ?_
  rotate_left
  · intro w'
    go_simp
    with_reducible rfl
  rotate_left
  · simp only [Act.put, List.setIfInBounds_toArray, List.set_cons_zero, List.set_cons_succ, i64_w, i32_w]
    rfl
  refine pure_ (i := 6) (N := some 41) (v := ?_) (a' := ?_) #[true, true, true, true, true, true, true, false, false, false, false, false, false, false, false, false, false, false, false, false, false] rfl rfl (any_of HT_.out (by kernel_rfl)) (fun _ _ _ h => h) (Or.inl ⟨by rfl, ?_⟩) ?_ ?_
  rotate_left
  · intro w'
    go_simp
    with_reducible rfl
  rotate_left
  · simp only [Act.put, List.setIfInBounds_toArray, List.set_cons_zero, List.set_cons_succ, i64_w, i32_w]
    rfl
  refine take_ (i := 7) (N := some 42) (v := ?_) (a' := ?_) #[true, true, true, true, true, true, true, true, false, false, false, false, false, false, false, false, false, false, false, false, false] rfl rfl (take_ofW HT_.out HW_.out (by kernel_rfl)) (fun _ _ _ h => h) (Or.inl ⟨by rfl, ?_⟩) hHeld ?_ ?_
  rotate_left
  · rintro w' ⟨s0, s1⟩
    go_simp
    with_reducible rfl
  rotate_left
  · simp only [Act.put, List.setIfInBounds_toArray, List.set_cons_zero, List.set_cons_succ, i64_w, i32_w]
    rfl
  refine pure_ (i := 8) (N := some 43) (v := ?_) (a' := ?_) #[true, true, true, true, true, true, true, true, true, false, false, false, false, false, false, false, false, false, false, false, false] rfl rfl (any_of HT_.out (by kernel_rfl)) (fun _ _ _ h => h) (Or.inl ⟨by rfl, ?_⟩) ?_ ?_
  rotate_left
  · intro w'
    go_simp
    with_reducible rfl
  rotate_left
  · simp only [Act.put, List.setIfInBounds_toArray, List.set_cons_zero, List.set_cons_succ, i64_w, i32_w]
    rfl
  refine pure_ (i := 9) (N := some 44) (v := ?_) (a' := ?_) #[true, true, true, true, true, true, true, true, true, true, false, false, false, false, false, false, false, false, false, false, false] rfl rfl (any_of HT_.out (by kernel_rfl)) (fun _ _ _ h => h) (Or.inl ⟨by rfl, ?_⟩) ?_ ?_
  rotate_left
  · intro w'
    go_simp
    with_reducible rfl
  rotate_left
  · simp only [Act.put, List.setIfInBounds_toArray, List.set_cons_zero, List.set_cons_succ, i64_w, i32_w]
    rfl
  refine pure_ (i := 10) (N := some 45) (v := ?_) (a' := ?_) #[true, true, true, true, true, true, true, true, true, true, true, false, false, false, false, false, false, false, false, false, false] rfl rfl (any_of HT_.out (by kernel_rfl)) (fun _ _ _ h => h) (Or.inl ⟨by rfl, ?_⟩) ?_ ?_
  rotate_left
  · intro w'
    go_simp
    with_reducible rfl
  rotate_left
  · simp only [Act.put, List.setIfInBounds_toArray, List.set_cons_zero, List.set_cons_succ, i64_w, i32_w]
    rfl
  refine take_ (i := 11) (N := some 46) (v := ?_) (a' := ?_) #[true, true, true, true, true, true, true, true, true, true, true, true, false, false, false, false, false, false, false, false, false] rfl rfl (take_ofW HT_.out HW_.out (by kernel_rfl)) (fun _ _ _ h => h) (Or.inl ⟨by rfl, ?_⟩) hHeld ?_ ?_
  rotate_left
  · rintro w' ⟨s0, s1⟩
    go_simp
    with_reducible rfl
  rotate_left
  · simp only [Act.put, List.setIfInBounds_toArray, List.set_cons_zero, List.set_cons_succ, i64_w, i32_w]
    rfl
  refine pure_ (i := 12) (N := some 47) (v := ?_) (a' := ?_) #[true, true, true, true, true, true, true, true, true, true, true, true, true, false, false, false, false, false, false, false, false] rfl rfl (any_of HT_.out (by kernel_rfl)) (fun _ _ _ h => h) (Or.inl ⟨by rfl, ?_⟩) ?_ ?_
  rotate_left
  · intro w'
    go_simp
    with_reducible rfl
  rotate_left
  · simp only [Act.put, List.setIfInBounds_toArray, List.set_cons_zero, List.set_cons_succ, i64_w, i32_w]
    rfl
  refine pure_ (i := 13) (N := some 48) (v := ?_) (a' := ?_) #[true, true, true, true, true, true, true, true, true, true, true, true, true, true, false, false, false, false, false, false, false] rfl rfl (any_of HT_.out (by kernel_rfl)) (fun _ _ _ h => h) (Or.inl ⟨by rfl, ?_⟩) ?_ ?_
  rotate_left
  · intro w'
    go_simp
    with_reducible rfl
  rotate_left
  · simp only [Act.put, List.setIfInBounds_toArray, List.set_cons_zero, List.set_cons_succ, i64_w, i32_w]
    rfl
  refine pure_ (i := 14) (N := some 49) (v := ?_) (a' := ?_) #[true, true, true, true, true, true, true, true, true, true, true, true, true, true, true, false, false, false, false, false, false] rfl rfl (any_of HT_.out (by kernel_rfl)) (fun _ _ _ h => h) (Or.inl ⟨by rfl, ?_⟩) ?_ ?_
  rotate_left
  · intro w'
    go_simp
    with_reducible rfl
  rotate_left
  · simp only [Act.put, List.setIfInBounds_toArray, List.set_cons_zero, List.set_cons_succ, i64_w, i32_w]
    rfl
  refine pure_ (i := 15) (N := some 50) (v := ?_) (a' := ?_) #[true, true, true, true, true, true, true, true, true, true, true, true, true, true, true, true, false, false, false, false, false] rfl rfl (any_of HT_.out (by kernel_rfl)) (fun _ _ _ h => h) (Or.inl ⟨by rfl, ?_⟩) ?_ ?_
  rotate_left
  · intro w'
    go_simp
    with_reducible rfl
  rotate_left
  · simp only [Act.put, List.setIfInBounds_toArray, List.set_cons_zero, List.set_cons_succ, i64_w, i32_w]
    rfl
  refine take_ (i := 16) (N := some 51) (v := ?_) (a' := ?_) #[true, true, true, true, true, true, true, true, true, true, true, true, true, true, true, true, true, false, false, false, false] rfl rfl (take_ofW HT_.out HW_.out (by kernel_rfl)) (fun _ _ _ h => h) (Or.inl ⟨by rfl, ?_⟩) hHeld ?_ ?_
  rotate_left
  · rintro w' ⟨s0, s1⟩
    go_simp
    with_reducible rfl
  rotate_left
  · simp only [Act.put, List.setIfInBounds_toArray, List.set_cons_zero, List.set_cons_succ, i64_w, i32_w]
    rfl
  refine one_ (i := 17) (N := some 52) #[true, true, true, true, true, true, true, true, true, true, true, true, true, true, true, true, true, true, false, false, false] rfl rfl (one_of HT_.out (by kernel_rfl)) (by decide) (fun K hK => ?_)
  refine goes_ Try.func138 (by kernel_rfl) rfl #[.int .i64 a2, .int .i64 a3, .int .u8 b] (by rfl) rfl rfl (by (try simp only [List.map_toArray, List.map_cons, List.map_nil]); first | done | rfl | (simp only [List.length_drop, List.length_take]; rfl)) ?_
  refine (catamaranref13_Sector.calls a2 a3 b (pgText a2 a3 b) _ (rSect13_is a2 a3 b)).mono ?_
  rintro e w7 ⟨v1, rfl, ho, hA⟩
  obtain ⟨Y, y, ey⟩ := Kd.R_slice ho
  subst ey
  have HY := Aside0.mk (Kd.R_reads' ho).2.2
  have HD7 := Aside0.mk (below_step (bdr1 (Below.refl w6.heap.size w6)) hA)
  clear ho hA hHeld
  refine ⟨_, rfl, ?_⟩
  refine hK.out _ _ (by exact HSS7.out _ HD7.out) (fun hHeld => ?_)
  clear hK K
  refine norm_ (a' := ?_) ?_ ?_
  rotate_left
  · show Act.put _ (some 52) _ = _
    simp only [Act.put, List.setIfInBounds_toArray, List.set_cons_zero, List.set_cons_succ, i64_w, i32_w]
    rfl
  refine one_ (i := 18) (N := some 53) #[true, true, true, true, true, true, true, true, true, true, true, true, true, true, true, true, true, true, true, false, false] rfl rfl (one_of HT_.out (by kernel_rfl)) (by decide) (fun K hK => ?_)
  have hcv := Kd.C_string (P := Try.prog) (A := Y) (c := y) Try.underlying31 Try.underlying5 Try.underlying9 HY.out
  refine value_ (w1 := ?_) (v := ?_) (by rfl) rfl ?_ ?_
  rotate_left 2
  · go_simp
    constructor
    · rfl
    · rfl
  clear hcv hHeld
  refine hK.out _ _ (by exact HSS7.out _ HD7.out) (fun hHeld => ?_)
  clear hK K
  refine norm_ (a' := ?_) ?_ ?_
  rotate_left
  · show Act.put _ (some 53) _ = _
    simp only [Act.put, List.setIfInBounds_toArray, List.set_cons_zero, List.set_cons_succ, i64_w, i32_w]
    rfl
  refine pure_ (i := 19) (N := some 54) (v := ?_) (a' := ?_) #[true, true, true, true, true, true, true, true, true, true, true, true, true, true, true, true, true, true, true, true, false] rfl rfl (any_of HT_.out (by kernel_rfl)) (fun _ _ _ h => h) (Or.inl ⟨by rfl, ?_⟩) ?_ ?_
  rotate_left
  · intro w'
    go_simp
    with_reducible rfl
  rotate_left
  · simp only [Act.put, List.setIfInBounds_toArray, List.set_cons_zero, List.set_cons_succ, i64_w, i32_w]
    rfl
  refine pure_ (i := 20) (N := some 55) (v := ?_) (a' := ?_) #[true, true, true, true, true, true, true, true, true, true, true, true, true, true, true, true, true, true, true, true, true] rfl rfl (any_of HT_.out (by kernel_rfl)) (fun _ _ _ h => h) (Or.inl ⟨by rfl, ?_⟩) ?_ ?_
  rotate_left
  · intro w'
    go_simp
    with_reducible rfl
  rotate_left
  · simp only [Act.put, List.setIfInBounds_toArray, List.set_cons_zero, List.set_cons_succ, i64_w, i32_w]
    rfl
  refine done_ (done_of HT_.out (by kernel_rfl)) ?_
  obtain ⟨hq3, _⟩ := HSS7.out _ HD7.out
  have HBW := Aside0.mk (below_step HB6.out HD7.out)
  rcases Bool.eq_false_or_eq_true ((strOfNums x).toList == (strOfNums (pgText a2 a3 b)).toList) with hq | hq
  · obtain rfl : b = r := by have := H.out; rwa [if_pos hq] at this
    rw [hq]
    clear H hq
    go_wp2
    go_ret
    exact ⟨rfl, HBW.out⟩
  · obtain rfl : all = r := by have := H.out; rwa [if_neg (by rw [hq]; simp)] at this
    rw [hq]
    clear H hq
    go_wp2
    go_ret
    exact ⟨rfl, HBW.out⟩
end Go.Proofs.Ytdkjhcdniepbhaa.P
end
section
set_option linter.unusedVariables false
set_option linter.unusedSimpArgs false
namespace Go.Proofs.Ytdkjhcdniepbhaa.P
open Go.RowKit Go.Proofs.PrintWords Go.Proofs.PrintLast Go.Proofs.PrintMore
attribute [local go_sem] max2_int min2_int max_two min_two max_three min_three max_four min_four
def catamaranref13_Marks.l0 : Nat → Int → List Int → Int → Int → Int → Int → Int → Int → Int → List (S39) → List (S49) → Option (List Int)
  | 0, _, _, _, _, _, _, _, _, _, _, _ => none
  | k + 1, x2, x7, x8, x1000, x1001, x1002, x1003, x1004, x1005, x1006, x1007 => (catamaranref07_Many.f x1000 x1001 x1002 x1003 x1004 x1005).bind fun t1008 => (if x8 < t1008 then ((hRTold.f x1000 x1001 x1002 x1003 x1004 x1005 x1006 x1007 x2 x8).bind fun t1009 => (if x7.length < 140737488355328 then (catamaranref13_Marks.l0 k x2 (x7 ++ [t1009]) (wrap64 (x8 + 1)) x1000 x1001 x1002 x1003 x1004 x1005 x1006 x1007) else (none))) else (some x7))
def catamaranref13_Marks.f (k : Nat) (a0_0 : Int) (a0_1 : Int) (a0_2 : Int) (a0_3 : Int) (a0_4 : Int) (a0_5 : Int) (l1_0 : List (S39)) (l1_1 : List (S49)) (a2 : Int) : Option (List Int) := catamaranref13_Marks.l0 k a2 ([] : List Int) 0 a0_0 a0_1 a0_2 a0_3 a0_4 a0_5 l1_0 l1_1
theorem catamaranref13_Marks.mono_l : ∀ k, (∀ y0 y1 y2 y3 y4 y5 y6 y7 y8 y9 y10, LeO (catamaranref13_Marks.l0 k y0 y1 y2 y3 y4 y5 y6 y7 y8 y9 y10) (catamaranref13_Marks.l0 (k + 1) y0 y1 y2 y3 y4 y5 y6 y7 y8 y9 y10))
  | 0 => fun _ _ _ _ _ _ _ _ _ _ _ r h => by simp [catamaranref13_Marks.l0] at h
  | k + 1 => by
    have ih0 := catamaranref13_Marks.mono_l k
    · intro y0 y1 y2 y3 y4 y5 y6 y7 y8 y9 y10
      unfold catamaranref13_Marks.l0
      repeat' first
      | (with_reducible exact ih0 _ _ _ _ _ _ _ _ _ _ _)
      | (with_reducible exact LeO.refl _)
      | (with_reducible exact LeO.none _)
      | (with_reducible refine LeO.ite ?_ ?_)
      | (with_reducible refine LeO.bind ?_ (fun _ => ?_))
      | exact ih0 _ _ _ _ _ _ _ _ _ _ _
      | exact LeO.none _
      | refine LeO.ite ?_ ?_
      | refine LeO.bind ?_ (fun _ => ?_)
theorem catamaranref13_Marks.mono : ∀ a0 a1 a2 a3 a4 a5 a6 a7 a8 k, LeO (catamaranref13_Marks.f k a0 a1 a2 a3 a4 a5 a6 a7 a8) (catamaranref13_Marks.f (k + 1) a0 a1 a2 a3 a4 a5 a6 a7 a8) := by
  intro a0 a1 a2 a3 a4 a5 a6 a7 a8 k
  have ih0 := catamaranref13_Marks.mono_l k
  unfold catamaranref13_Marks.f
  repeat' first
      | (with_reducible exact ih0 _ _ _ _ _ _ _ _ _ _ _)
      | (with_reducible exact LeO.refl _)
      | (with_reducible exact LeO.none _)
      | (with_reducible refine LeO.ite ?_ ?_)
      | (with_reducible refine LeO.bind ?_ (fun _ => ?_))
      | exact ih0 _ _ _ _ _ _ _ _ _ _ _
      | exact LeO.none _
      | refine LeO.ite ?_ ?_
      | refine LeO.bind ?_ (fun _ => ?_)
set_option maxHeartbeats 8000000 in
set_option maxRecDepth 100000 in
theorem catamaranref13_Marks.calls (k : Nat) (a0_0 : Int) (a0_1 : Int) (a0_2 : Int) (a0_3 : Int) (a0_4 : Int) (a0_5 : Int) (A1_0 : Option Addr) (c1_0 : Nat) (l1_0 : List (S39)) (A1_1 : Option Addr) (c1_1 : Nat) (l1_1 : List (S49)) (a2 : Int) (r : List Int) (w : World) (hr1_0 : Kd.C k39 w A1_0 l1_0.length l1_0) (hc1_0 : l1_0.length ≤ c1_0) (hr1_1 : Kd.C k49 w A1_1 l1_1.length l1_1) (hc1_1 : l1_1.length ≤ c1_1) (h : catamaranref13_Marks.f k a0_0 a0_1 a0_2 a0_3 a0_4 a0_5 l1_0 l1_1 a2 = some r) :
    Calls Try.prog 80 #[.agg #[.int .i64 a0_0, .int .i64 a0_1, .int .i64 a0_2, .int .i64 a0_3, .int .i64 a0_4, .int .i64 a0_5], .agg #[.slice A1_0 l1_0.length c1_0, .slice A1_1 l1_1.length c1_1], .int .i64 a2] w fun e w' => ∃ v0_ : Value, e = .returned (v0_) ∧ Kd.R (Kd.int .u8) 5 w' w.heap.size (fun _ => True) v0_ r ∧ Below w.heap.size w w' := by
  have hu44 := Try.underlying44
  have hu25 := Try.underlying25
  have HR1_0 := Aside0.mk hr1_0
  have HC1_0 := Aside0.mk hc1_0
  clear hr1_0 hc1_0
  have HR1_1 := Aside0.mk hr1_1
  have HC1_1 := Aside0.mk hc1_1
  clear hr1_1 hc1_1
  have HB := Aside0.mk (Below.refl w.heap.size w)
  have H : (catamaranref13_Marks.l0 k a2 ([] : List Int) 0 a0_0 a0_1 a0_2 a0_3 a0_4 a0_5 l1_0 l1_1) = some r := h
  clear h
  have H' := Aside0.mk H
  clear H
  go_enter Try.func80, Try.ntmps80
  go_wp2_with (first | ((with_reducible refine gate_dst (N := 3) rfl ?_); refine box_event ?hg (N := 3) ?hd (cs := #[.int .i64 a0_0, .int .i64 a0_1, .int .i64 a0_2, .int .i64 a0_3, .int .i64 a0_4, .int .i64 a0_5]) (t := 44) ?hr ?_; (case hd => rfl); (case hg => rfl); (case hr => first | (go_simp; done) | (go_simp; rfl)); intro gb1010 hg w4 hbox hb; have n0_ := Aside0.mk (below_step (by repeat (first | (with_reducible first | exact HB.out | apply below_alloc | apply pbdN | apply bdr1) | exact HB.out)) hb); have n1_ := Aside0.mk (hbox); have n2_ := Aside0.mk ((by rw [hg]; exact (below_size (by repeat (first | (with_reducible first | exact HB.out | apply below_alloc | apply pbdN | apply bdr1) | exact HB.out))) : w.heap.size ≤ gb1010)); have n3_ := Aside0.mk ((by rw [hg]; exact (below_size (by repeat (first | (with_reducible first | exact HB.out | apply below_alloc | apply pbdN | apply bdr1) | exact HB.out))) : w.heap.size ≤ gb1010)); clear HB; have HB := n0_; have BK1010 := n1_; have GW1010 := n2_; have GE1010 := n3_; clear n0_ n1_ n2_ n3_; clear hb hbox hg) | ((with_reducible refine gate_dst (N := 4) rfl ?_); refine box_event ?hg (N := 4) ?hd (cs := #[.slice A1_0 l1_0.length c1_0, .slice A1_1 l1_1.length c1_1]) (t := 25) ?hr ?_; (case hd => rfl); (case hg => rfl); (case hr => first | (go_simp; done) | (go_simp; rfl)); intro gb1011 hg w5 hbox hb; have n0_ := Aside0.mk (blk_below (g := gb1010) (o := .cells #[.int .i64 a0_0, .int .i64 a0_1, .int .i64 a0_2, .int .i64 a0_3, .int .i64 a0_4, .int .i64 a0_5] 44 (0, 0)) (by (with_reducible repeat (first | refine blk_drewN ?_ _ | refine blk_drew ?_ | refine blk_alloc ?_ _)); exact BK1010.out) hb); have n1_ := Aside0.mk (below_step (by repeat (first | (with_reducible first | exact HB.out | apply below_alloc | apply pbdN | apply bdr1 | refine below_set ?_ GE1010.out) | exact HB.out)) hb); have n2_ := Aside0.mk (hbox); have n3_ := Aside0.mk ((by rw [hg]; exact (below_size (by repeat (first | (with_reducible first | exact HB.out | apply below_alloc | apply pbdN | apply bdr1 | refine below_set ?_ GE1010.out) | exact HB.out))) : w.heap.size ≤ gb1011)); have n4_ := Aside0.mk ((by rw [hg]; exact (below_size (by repeat (first | (with_reducible first | exact HB.out | apply below_alloc | apply pbdN | apply bdr1 | refine below_set ?_ GE1010.out) | exact HB.out))) : w.heap.size ≤ gb1011)); have n5_ := Aside0.mk ((by rw [hg]; exact Nat.ne_of_lt (blk_lt (g := gb1010) (o := .cells #[.int .i64 a0_0, .int .i64 a0_1, .int .i64 a0_2, .int .i64 a0_3, .int .i64 a0_4, .int .i64 a0_5] 44 (0, 0)) (by (with_reducible repeat (first | refine blk_drewN ?_ _ | refine blk_drew ?_ | refine blk_alloc ?_ _)); exact BK1010.out)) : gb1010 ≠ gb1011)); have n6_ := Aside0.mk ((by rw [hg]; exact Nat.ne_of_gt (blk_lt (g := gb1010) (o := .cells #[.int .i64 a0_0, .int .i64 a0_1, .int .i64 a0_2, .int .i64 a0_3, .int .i64 a0_4, .int .i64 a0_5] 44 (0, 0)) (by (with_reducible repeat (first | refine blk_drewN ?_ _ | refine blk_drew ?_ | refine blk_alloc ?_ _)); exact BK1010.out)) : gb1011 ≠ gb1010)); clear BK1010; clear HB; have BK1010 := n0_; have HB := n1_; have BK1011 := n2_; have GW1011 := n3_; have GE1011 := n4_; have NB1010_616 := n5_; have NB1011_615 := n6_; clear n0_ n1_ n2_ n3_ n4_ n5_ n6_; clear hb hbox hg))
  go_loopg [7, 8] k (fun kq v7 v8 w' => ∃ (x7_1 : List Int) (x8_1 : Int), v8 = .int .i64 x8_1 ∧ Aside0 (catamaranref13_Marks.l0 kq a2 x7_1 x8_1 a0_0 a0_1 a0_2 a0_3 a0_4 a0_5 l1_0 l1_1 = some r) ∧ Aside0 (kq ≤ k) ∧ Aside0 (Kd.R (Kd.int .u8) 5 w' w.heap.size (fun _ => True) v7 x7_1) ∧ Aside0 (w'.heap[gb1010]? = some (.cells #[.int .i64 a0_0, .int .i64 a0_1, .int .i64 a0_2, .int .i64 a0_3, .int .i64 a0_4, .int .i64 a0_5] 44 (0, 0))) ∧ Aside0 (w'.heap[gb1011]? = some (.cells #[(.slice A1_0 l1_0.length c1_0), (.slice A1_1 l1_1.length c1_1)] 25 (0, 0))) ∧ Aside0 (Below w.heap.size w w'))
  case atStart => exact ⟨(([] : List Int)), (0), (by first | rfl | (simp; done) | (simp [*]; done)), H', ⟨Nat.le_refl _⟩, ⟨by first | exact Kd.R_nil _ _ _ _ _ | exact Kd.N_nil _ _ _ _ _ | exact Kd.V_nil _ _ _ _ _ | exact Kd.Q_nil _ _ _ _ _ | exact Kd.S_nil _ _ _ _ _⟩, ⟨by (with_reducible repeat (first | refine blk_drewN ?_ _ | refine blk_drew ?_ | refine blk_alloc ?_ _)); exact BK1010.out⟩, ⟨by (with_reducible repeat (first | refine blk_drewN ?_ _ | refine blk_drew ?_ | refine blk_alloc ?_ _)); exact BK1011.out⟩, ⟨by repeat (first | (with_reducible first | exact HB.out | apply below_alloc | apply pbdN | apply bdr1 | refine below_set ?_ GE1010.out | refine below_set ?_ GE1011.out) | exact HB.out)⟩⟩
  case round =>
    clear H'
    try clear c1
    try clear p2
    obtain ⟨x7_1, x8_1, rfl, HA, HK1, HO_7, BK1010, BK1011, HB⟩ := hrel
    cases gk with
    | zero => exact absurd HA.out (by simp [catamaranref13_Marks.l0])
    | succ k1 =>
      have H := HA.out
      clear HA
      simp only [catamaranref13_Marks.l0] at H
      replace H := Option.bind_eq_some_iff.mp H
      obtain ⟨t1008, A60, H⟩ := H
      replace H : (if x8_1 < t1008 then ((hRTold.f a0_0 a0_1 a0_2 a0_3 a0_4 a0_5 l1_0 l1_1 a2 x8_1).bind fun t1009 => (if x7_1.length < 140737488355328 then (catamaranref13_Marks.l0 k1 a2 (x7_1 ++ [t1009]) (wrap64 (x8_1 + 1)) a0_0 a0_1 a0_2 a0_3 a0_4 a0_5 l1_0 l1_1) else (none))) else (some x7_1)) = some r := H
      have A6 := Aside0.mk A60
      clear A60
      by_cases c7 : x8_1 < t1008
      · rw [if_pos c7] at H
        have c7b0 : decide (x8_1 < t1008) = true := decide_eq_true c7
        clear c7
        replace H := Option.bind_eq_some_iff.mp H
        obtain ⟨t1009, A80, H⟩ := H
        replace H : (if x7_1.length < 140737488355328 then (catamaranref13_Marks.l0 k1 a2 (x7_1 ++ [t1009]) (wrap64 (x8_1 + 1)) a0_0 a0_1 a0_2 a0_3 a0_4 a0_5 l1_0 l1_1) else (none)) = some r := H
        have A8 := Aside0.mk A80
        clear A80
        by_cases c9 : x7_1.length < 140737488355328
        · rw [if_pos c9] at H
          have LMc9 := Aside0.mk c9
          clear c9
          obtain ⟨y1012, hy1012⟩ : ∃ y_ : List Int, y_ = (x7_1 ++ [t1009]) := ⟨_, rfl⟩
          replace H : (catamaranref13_Marks.l0 k1 a2 y1012 (wrap64 (x8_1 + 1)) a0_0 a0_1 a0_2 a0_3 a0_4 a0_5 l1_0 l1_1) = some r := by first | (rw [hy1012]; with_reducible exact H) | (have H2_ := (Option.bind_some _ _).symm.trans H; rw [hy1012]; with_reducible exact H2_) | (have H2_ := (Option.bind_some _ _).symm.trans H; with_reducible exact H2_) | with_reducible exact H | (rw [hy1012]; exact H) | exact H
          have Ny1012 := Aside0.mk hy1012
          clear hy1012
          have H' := Aside0.mk H
          clear H
          have hnb10 := NB1010_616.out
          have hnc10 := NB1011_615.out
          have hcz11_0 : wr.cell? ⟨gb1010, 0, none⟩ = some (.int .i64 a0_0) := (blk_cell BK1010.out 0).trans rfl
          have hcz11_1 : wr.cell? ⟨gb1010, 1, none⟩ = some (.int .i64 a0_1) := (blk_cell BK1010.out 1).trans rfl
          have hcz11_2 : wr.cell? ⟨gb1010, 2, none⟩ = some (.int .i64 a0_2) := (blk_cell BK1010.out 2).trans rfl
          have hcz11_3 : wr.cell? ⟨gb1010, 3, none⟩ = some (.int .i64 a0_3) := (blk_cell BK1010.out 3).trans rfl
          have hcz11_4 : wr.cell? ⟨gb1010, 4, none⟩ = some (.int .i64 a0_4) := (blk_cell BK1010.out 4).trans rfl
          have hcz11_5 : wr.cell? ⟨gb1010, 5, none⟩ = some (.int .i64 a0_5) := (blk_cell BK1010.out 5).trans rfl
          have hfz11_0 := blk_frozen BK1010.out 0
          have hfz11_1 := blk_frozen BK1010.out 1
          have hfz11_2 := blk_frozen BK1010.out 2
          have hfz11_3 := blk_frozen BK1010.out 3
          have hfz11_4 := blk_frozen BK1010.out 4
          have hfz11_5 := blk_frozen BK1010.out 5
          go_wp2_with (first | ((with_reducible refine gate_callee (f := 116) rfl ?_); refine goesL_ (some 11) rfl rfl Try.func116 (by kernel_rfl) rfl #[.agg #[.int .i64 a0_0, .int .i64 a0_1, .int .i64 a0_2, .int .i64 a0_3, .int .i64 a0_4, .int .i64 a0_5]] rfl (by (try simp only [List.map_toArray, List.map_cons, List.map_nil]); first | done | rfl | (simp only [List.length_drop, List.length_take]; rfl)) ?_; (with_reducible refine (catamaranref07_Many.calls a0_0 a0_1 a0_2 a0_3 a0_4 a0_5 t1008 _ A6.out).mono ?_); rintro e w12 ⟨rfl, hb⟩; refine ⟨_, rfl, ?_⟩; have n0_ := Aside0.mk (Kd.R_below (by (with_reducible repeat (first | apply Kd.R_alloc | apply Kd.R_drewN | apply Kd.R_drew)); exact HO_7.out) hb); have n1_ := Aside0.mk (blk_below (g := gb1010) (o := .cells #[.int .i64 a0_0, .int .i64 a0_1, .int .i64 a0_2, .int .i64 a0_3, .int .i64 a0_4, .int .i64 a0_5] 44 (0, 0)) (by (with_reducible repeat (first | refine blk_drewN ?_ _ | refine blk_drew ?_ | refine blk_alloc ?_ _)); exact BK1010.out) hb); have n2_ := Aside0.mk (blk_below (g := gb1011) (o := .cells #[.slice A1_0 l1_0.length c1_0, .slice A1_1 l1_1.length c1_1] 25 (0, 0)) (by (with_reducible repeat (first | refine blk_drewN ?_ _ | refine blk_drew ?_ | refine blk_alloc ?_ _)); exact BK1011.out) hb); have n3_ := Aside0.mk (below_step (by repeat (first | (with_reducible first | exact HB.out | apply below_alloc | apply pbdN | apply bdr1 | refine below_set ?_ GE1010.out | refine below_set ?_ GE1011.out) | exact HB.out)) hb); clear HO_7; clear BK1010; clear BK1011; clear HB; have HO_7 := n0_; have BK1010 := n1_; have BK1011 := n2_; have HB := n3_; clear n0_ n1_ n2_ n3_; (try clear hb); (try clear hb2); (try clear hk); (try clear hi); have hcz13_0 : w12.cell? ⟨gb1010, 0, none⟩ = some (.int .i64 a0_0) := (blk_cell BK1010.out 0).trans rfl; have hcz13_1 : w12.cell? ⟨gb1010, 1, none⟩ = some (.int .i64 a0_1) := (blk_cell BK1010.out 1).trans rfl; have hcz13_2 : w12.cell? ⟨gb1010, 2, none⟩ = some (.int .i64 a0_2) := (blk_cell BK1010.out 2).trans rfl; have hcz13_3 : w12.cell? ⟨gb1010, 3, none⟩ = some (.int .i64 a0_3) := (blk_cell BK1010.out 3).trans rfl; have hcz13_4 : w12.cell? ⟨gb1010, 4, none⟩ = some (.int .i64 a0_4) := (blk_cell BK1010.out 4).trans rfl; have hcz13_5 : w12.cell? ⟨gb1010, 5, none⟩ = some (.int .i64 a0_5) := (blk_cell BK1010.out 5).trans rfl; have hfz13_0 := blk_frozen BK1010.out 0; have hfz13_1 := blk_frozen BK1010.out 1; have hfz13_2 := blk_frozen BK1010.out 2; have hfz13_3 := blk_frozen BK1010.out 3; have hfz13_4 := blk_frozen BK1010.out 4; have hfz13_5 := blk_frozen BK1010.out 5; have hcz14_0 : w12.cell? ⟨gb1011, 0, none⟩ = some (.slice A1_0 l1_0.length c1_0) := (blk_cell BK1011.out 0).trans rfl; have hcz14_1 : w12.cell? ⟨gb1011, 1, none⟩ = some (.slice A1_1 l1_1.length c1_1) := (blk_cell BK1011.out 1).trans rfl; have hfz14_0 := blk_frozen BK1011.out 0; have hfz14_1 := blk_frozen BK1011.out 1) | ((with_reducible refine gate_callee (f := 117) rfl ?_); refine goesL_ (some 20) rfl rfl Try.func117 (by kernel_rfl) rfl #[.agg #[.int .i64 a0_0, .int .i64 a0_1, .int .i64 a0_2, .int .i64 a0_3, .int .i64 a0_4, .int .i64 a0_5], .agg #[.slice A1_0 l1_0.length c1_0, .slice A1_1 l1_1.length c1_1], .int .i64 a2, .int .i64 x8_1] rfl (by (try simp only [List.map_toArray, List.map_cons, List.map_nil]); first | done | rfl | (simp only [List.length_drop, List.length_take]; rfl)) ?_; (with_reducible refine (hRTold.calls a0_0 a0_1 a0_2 a0_3 a0_4 a0_5 _ _ l1_0 _ _ l1_1 a2 x8_1 t1009 _ ?side1 ?side2 ?side3 ?side4 A8.out).mono ?_); (case side1 => repeat (first | exact (Kd.C_below HR1_0.out HB.out) | (with_reducible refine Kd.C_alloc ?_ _) | (with_reducible refine Kd.C_drewN ?_ _) | (with_reducible refine Kd.C_drew ?_))); (case side2 => exact HC1_0.out); (case side3 => repeat (first | exact (Kd.C_below HR1_1.out HB.out) | (with_reducible refine Kd.C_alloc ?_ _) | (with_reducible refine Kd.C_drewN ?_ _) | (with_reducible refine Kd.C_drew ?_))); (case side4 => exact HC1_1.out); rintro e w15 ⟨rfl, hb⟩; refine ⟨_, rfl, ?_⟩; have n0_ := Aside0.mk (Kd.R_below (by (with_reducible repeat (first | apply Kd.R_alloc | apply Kd.R_drewN | apply Kd.R_drew)); exact HO_7.out) hb); have n1_ := Aside0.mk (blk_below (g := gb1010) (o := .cells #[.int .i64 a0_0, .int .i64 a0_1, .int .i64 a0_2, .int .i64 a0_3, .int .i64 a0_4, .int .i64 a0_5] 44 (0, 0)) (by (with_reducible repeat (first | refine blk_drewN ?_ _ | refine blk_drew ?_ | refine blk_alloc ?_ _)); exact BK1010.out) hb); have n2_ := Aside0.mk (blk_below (g := gb1011) (o := .cells #[.slice A1_0 l1_0.length c1_0, .slice A1_1 l1_1.length c1_1] 25 (0, 0)) (by (with_reducible repeat (first | refine blk_drewN ?_ _ | refine blk_drew ?_ | refine blk_alloc ?_ _)); exact BK1011.out) hb); have n3_ := Aside0.mk (below_step (by repeat (first | (with_reducible first | exact HB.out | apply below_alloc | apply pbdN | apply bdr1 | refine below_set ?_ GE1010.out | refine below_set ?_ GE1011.out) | exact HB.out)) hb); clear HO_7; clear BK1010; clear BK1011; clear HB; have HO_7 := n0_; have BK1010 := n1_; have BK1011 := n2_; have HB := n3_; clear n0_ n1_ n2_ n3_; (try clear hb); (try clear hb2); (try clear hk); (try clear hi)) | ((with_reducible refine gate_builtin (b := .append) (xs := #[.tmp 15, .tmp 21]) rfl ?_); at_builtin; refine Kd.R_append (Kd.int .u8) (w0 := w) w.heap.size rfl (.tmp 15) (.tmp 21) 31 5 (.int .u8 0) 1 rfl Try.underlying31 info5 rfl (by decide) (by omega) u7 x7_1 t1009 [.int .u8 t1009] (fun _ => True) (fun _ => False) rfl rfl ?aP (fun _ hk => hk.elim) ?aF ?aO ?aB ?aS ?aL ?_; (case aP => exact rfl); (case aB => exact (by repeat (first | (with_reducible first | exact HB.out | apply below_alloc | apply pbdN | apply bdr1 | refine below_set ?_ GE1010.out | refine below_set ?_ GE1011.out) | exact HB.out))); (case aF => exact (fun _ _ => trivial)); (case aO => exact (by (with_reducible repeat (first | apply Kd.R_alloc | apply Kd.R_drewN | apply Kd.R_drew)); exact HO_7.out)); (case aS => exact (below_size (by repeat (first | (with_reducible first | exact HB.out | apply below_alloc | apply pbdN | apply bdr1 | refine below_set ?_ GE1010.out | refine below_set ?_ GE1011.out) | exact HB.out)))); (case aL => have := LMc9.out; omega); intro v1013 w16 ho hb hg hat; (first | (simp only [Int.reduceToNat] at ho; rw [← Ny1012.out] at ho) | rw [← Ny1012.out] at ho); have n0_ := Aside0.mk (blk_grown (g := gb1010) (o := .cells #[.int .i64 a0_0, .int .i64 a0_1, .int .i64 a0_2, .int .i64 a0_3, .int .i64 a0_4, .int .i64 a0_5] 44 (0, 0)) (by (with_reducible repeat (first | refine blk_drewN ?_ _ | refine blk_drew ?_ | refine blk_alloc ?_ _)); exact BK1010.out) hg (Kd.R_ne HO_7.out BK1010.out (by decide))); have n1_ := Aside0.mk (blk_grown (g := gb1011) (o := .cells #[.slice A1_0 l1_0.length c1_0, .slice A1_1 l1_1.length c1_1] 25 (0, 0)) (by (with_reducible repeat (first | refine blk_drewN ?_ _ | refine blk_drew ?_ | refine blk_alloc ?_ _)); exact BK1011.out) hg (Kd.R_ne HO_7.out BK1011.out (by decide))); have n2_ := Aside0.mk (hb); have n3_ := Aside0.mk (ho); clear BK1010; clear BK1011; clear HB; clear HO_7; have BK1010 := n0_; have BK1011 := n1_; have HB := n2_; have HO1014 := n3_; clear n0_ n1_ n2_ n3_; clear ho hb hg hat))
          go_roundg k1
          case measure => have := HK1.out; omega
          case rel => exact ⟨(y1012), (wrap64 (x8_1 + 1)), (by first | rfl | (simp; done) | (simp [*]; done)), H', ⟨by have := HK1.out; omega⟩, ⟨by (with_reducible repeat (first | apply Kd.R_alloc | apply Kd.R_drewN | apply Kd.R_drew)); exact HO1014.out⟩, ⟨by (with_reducible repeat (first | refine blk_drewN ?_ _ | refine blk_drew ?_ | refine blk_alloc ?_ _)); exact BK1010.out⟩, ⟨by (with_reducible repeat (first | refine blk_drewN ?_ _ | refine blk_drew ?_ | refine blk_alloc ?_ _)); exact BK1011.out⟩, ⟨by repeat (first | (with_reducible first | exact HB.out | apply below_alloc | apply pbdN | apply bdr1 | refine below_set ?_ GE1010.out | refine below_set ?_ GE1011.out) | exact HB.out)⟩⟩
        · rw [if_neg c9] at H
          exact absurd H (by simp)
      · rw [if_neg c7] at H
        have c7b0 : decide (x8_1 < t1008) = false := decide_eq_false c7
        clear c7
        obtain rfl := Option.some.inj H
        have hnb17 := NB1010_616.out
        have hnc17 := NB1011_615.out
        have hcz18_0 : wr.cell? ⟨gb1010, 0, none⟩ = some (.int .i64 a0_0) := (blk_cell BK1010.out 0).trans rfl
        have hcz18_1 : wr.cell? ⟨gb1010, 1, none⟩ = some (.int .i64 a0_1) := (blk_cell BK1010.out 1).trans rfl
        have hcz18_2 : wr.cell? ⟨gb1010, 2, none⟩ = some (.int .i64 a0_2) := (blk_cell BK1010.out 2).trans rfl
        have hcz18_3 : wr.cell? ⟨gb1010, 3, none⟩ = some (.int .i64 a0_3) := (blk_cell BK1010.out 3).trans rfl
        have hcz18_4 : wr.cell? ⟨gb1010, 4, none⟩ = some (.int .i64 a0_4) := (blk_cell BK1010.out 4).trans rfl
        have hcz18_5 : wr.cell? ⟨gb1010, 5, none⟩ = some (.int .i64 a0_5) := (blk_cell BK1010.out 5).trans rfl
        have hfz18_0 := blk_frozen BK1010.out 0
        have hfz18_1 := blk_frozen BK1010.out 1
        have hfz18_2 := blk_frozen BK1010.out 2
        have hfz18_3 := blk_frozen BK1010.out 3
        have hfz18_4 := blk_frozen BK1010.out 4
        have hfz18_5 := blk_frozen BK1010.out 5
        go_wp2_with (first | ((with_reducible refine gate_callee (f := 116) rfl ?_); refine goesL_ (some 11) rfl rfl Try.func116 (by kernel_rfl) rfl #[.agg #[.int .i64 a0_0, .int .i64 a0_1, .int .i64 a0_2, .int .i64 a0_3, .int .i64 a0_4, .int .i64 a0_5]] rfl (by (try simp only [List.map_toArray, List.map_cons, List.map_nil]); first | done | rfl | (simp only [List.length_drop, List.length_take]; rfl)) ?_; (with_reducible refine (catamaranref07_Many.calls a0_0 a0_1 a0_2 a0_3 a0_4 a0_5 t1008 _ A6.out).mono ?_); rintro e w19 ⟨rfl, hb⟩; refine ⟨_, rfl, ?_⟩; have n0_ := Aside0.mk (Kd.R_below (by (with_reducible repeat (first | apply Kd.R_alloc | apply Kd.R_drewN | apply Kd.R_drew)); exact HO_7.out) hb); have n1_ := Aside0.mk (blk_below (g := gb1010) (o := .cells #[.int .i64 a0_0, .int .i64 a0_1, .int .i64 a0_2, .int .i64 a0_3, .int .i64 a0_4, .int .i64 a0_5] 44 (0, 0)) (by (with_reducible repeat (first | refine blk_drewN ?_ _ | refine blk_drew ?_ | refine blk_alloc ?_ _)); exact BK1010.out) hb); have n2_ := Aside0.mk (blk_below (g := gb1011) (o := .cells #[.slice A1_0 l1_0.length c1_0, .slice A1_1 l1_1.length c1_1] 25 (0, 0)) (by (with_reducible repeat (first | refine blk_drewN ?_ _ | refine blk_drew ?_ | refine blk_alloc ?_ _)); exact BK1011.out) hb); have n3_ := Aside0.mk (below_step (by repeat (first | (with_reducible first | exact HB.out | apply below_alloc | apply pbdN | apply bdr1 | refine below_set ?_ GE1010.out | refine below_set ?_ GE1011.out) | exact HB.out)) hb); clear HO_7; clear BK1010; clear BK1011; clear HB; have HO_7 := n0_; have BK1010 := n1_; have BK1011 := n2_; have HB := n3_; clear n0_ n1_ n2_ n3_; (try clear hb); (try clear hb2); (try clear hk); (try clear hi)))
        go_ret
        exact ⟨_, by first | rfl | (simp [errW_none, errW_some] <;> rfl) | (simp [*, errW_none, errW_some] <;> rfl), by (with_reducible repeat (first | apply Kd.R_alloc | apply Kd.R_drewN | apply Kd.R_drew)); exact HO_7.out, by repeat (first | (with_reducible first | exact HB.out | apply below_alloc | apply pbdN | apply bdr1 | refine below_set ?_ GE1010.out | refine below_set ?_ GE1011.out) | exact HB.out)⟩
end Go.Proofs.Ytdkjhcdniepbhaa.P
end
section
set_option linter.unusedVariables false
set_option linter.unusedSimpArgs false
namespace Go.Proofs.Ytdkjhcdniepbhaa.P
open Go.RowKit Go.Proofs.PrintWords Go.Proofs.PrintLast Go.Proofs.PrintMore
attribute [local go_sem] max2_int min2_int max_two min_two max_three min_three max_four min_four
def catamaranref13_Read.f (k : Nat) (a0_0 : Int) (a0_1 : Int) (a0_2 : Int) (a0_3 : Int) (a0_4 : Int) (a0_5 : Int) (l1_0 : List (S39)) (l1_1 : List (S49)) (a2 : Int) : Option (List Int × Int) := (catamaranref08_May.f k a0_0 a0_1 a0_2 a0_3 a0_4 a0_5 l1_0 l1_1).bind fun t1000 => (if t1000 = true then (if a2 < 0 then (some (([] : List Int), 2)) else (if a2 ≥ a0_0 then (some (([] : List Int), 2)) else ((catamaranref13_Marks.f k a0_0 a0_1 a0_2 a0_3 a0_4 a0_5 l1_0 l1_1 a2).bind fun t1001 => (some (t1001, 0))))) else (some (([] : List Int), 8)))
theorem catamaranref13_Read.mono : ∀ a0 a1 a2 a3 a4 a5 a6 a7 a8 k, LeO (catamaranref13_Read.f k a0 a1 a2 a3 a4 a5 a6 a7 a8) (catamaranref13_Read.f (k + 1) a0 a1 a2 a3 a4 a5 a6 a7 a8) := by
  intro a0 a1 a2 a3 a4 a5 a6 a7 a8 k
  unfold catamaranref13_Read.f
  repeat' first
      | (with_reducible exact catamaranref08_May.mono _ _ _ _ _ _ _ _ _)
      | (with_reducible exact catamaranref13_Marks.mono _ _ _ _ _ _ _ _ _ _)
      | (with_reducible exact LeO.refl _)
      | (with_reducible exact LeO.none _)
      | (with_reducible refine LeO.ite ?_ ?_)
      | (with_reducible refine LeO.bind ?_ (fun _ => ?_))
      | exact catamaranref08_May.mono _ _ _ _ _ _ _ _ _
      | exact catamaranref13_Marks.mono _ _ _ _ _ _ _ _ _ _
      | exact LeO.none _
      | refine LeO.ite ?_ ?_
      | refine LeO.bind ?_ (fun _ => ?_)
set_option maxHeartbeats 8000000 in
set_option maxRecDepth 100000 in
theorem catamaranref13_Read.calls (k : Nat) (a0_0 : Int) (a0_1 : Int) (a0_2 : Int) (a0_3 : Int) (a0_4 : Int) (a0_5 : Int) (A1_0 : Option Addr) (c1_0 : Nat) (l1_0 : List (S39)) (A1_1 : Option Addr) (c1_1 : Nat) (l1_1 : List (S49)) (a2 : Int) (r1 : List Int) (r2 : Int) (w : World) (hr1_0 : Kd.C k39 w A1_0 l1_0.length l1_0) (hc1_0 : l1_0.length ≤ c1_0) (hr1_1 : Kd.C k49 w A1_1 l1_1.length l1_1) (hc1_1 : l1_1.length ≤ c1_1) (h : catamaranref13_Read.f k a0_0 a0_1 a0_2 a0_3 a0_4 a0_5 l1_0 l1_1 a2 = some (r1, r2)) :
    Calls Try.prog 37 #[.agg #[.int .i64 a0_0, .int .i64 a0_1, .int .i64 a0_2, .int .i64 a0_3, .int .i64 a0_4, .int .i64 a0_5], .agg #[.slice A1_0 l1_0.length c1_0, .slice A1_1 l1_1.length c1_1], .int .i64 a2] w fun e w' => ∃ v0_ : Value, e = .returned (.tuple #[v0_, .int .i64 r2]) ∧ Kd.R (Kd.int .u8) 5 w' w.heap.size (fun _ => True) v0_ r1 ∧ Below w.heap.size w w' := by
  have hu44 := Try.underlying44
  have hu25 := Try.underlying25
  have HR1_0 := Aside0.mk hr1_0
  have HC1_0 := Aside0.mk hc1_0
  clear hr1_0 hc1_0
  have HR1_1 := Aside0.mk hr1_1
  have HC1_1 := Aside0.mk hc1_1
  clear hr1_1 hc1_1
  have HB := Aside0.mk (Below.refl w.heap.size w)
  have H : ((catamaranref08_May.f k a0_0 a0_1 a0_2 a0_3 a0_4 a0_5 l1_0 l1_1).bind fun t1000 => (if t1000 = true then (if a2 < 0 then (some (([] : List Int), 2)) else (if a2 ≥ a0_0 then (some (([] : List Int), 2)) else ((catamaranref13_Marks.f k a0_0 a0_1 a0_2 a0_3 a0_4 a0_5 l1_0 l1_1 a2).bind fun t1001 => (some (t1001, 0))))) else (some (([] : List Int), 8)))) = some (r1, r2) := h
  clear h
  replace H := Option.bind_eq_some_iff.mp H
  obtain ⟨t1000, A40, H⟩ := H
  replace H : (if t1000 = true then (if a2 < 0 then (some (([] : List Int), 2)) else (if a2 ≥ a0_0 then (some (([] : List Int), 2)) else ((catamaranref13_Marks.f k a0_0 a0_1 a0_2 a0_3 a0_4 a0_5 l1_0 l1_1 a2).bind fun t1001 => (some (t1001, 0))))) else (some (([] : List Int), 8))) = some (r1, r2) := H
  have A4 := Aside0.mk A40
  clear A40
  by_cases c5 : t1000 = true
  · subst c5
    have H1 : (if a2 < 0 then (some (([] : List Int), 2)) else (if a2 ≥ a0_0 then (some (([] : List Int), 2)) else ((catamaranref13_Marks.f k a0_0 a0_1 a0_2 a0_3 a0_4 a0_5 l1_0 l1_1 a2).bind fun t1001 => (some (t1001, 0))))) = some (r1, r2) := by rw [if_pos rfl] at H; exact H
    clear H
    have H := H1
    clear H1
    by_cases c6 : a2 < 0
    · rw [if_pos c6] at H
      have c6b0 : decide (a2 < 0) = true := decide_eq_true c6
      clear c6
      simp only [Option.some.injEq, Prod.mk.injEq] at H
      obtain ⟨rfl, rfl⟩ := H
      go_enter Try.func37, Try.ntmps37
      go_wp2_with (first | ((with_reducible refine gate_dst (N := 3) rfl ?_); refine box_event ?hg (N := 3) ?hd (cs := #[.int .i64 a0_0, .int .i64 a0_1, .int .i64 a0_2, .int .i64 a0_3, .int .i64 a0_4, .int .i64 a0_5]) (t := 44) ?hr ?_; (case hd => rfl); (case hg => rfl); (case hr => first | (go_simp; done) | (go_simp; rfl)); intro gb1002 hg w7 hbox hb; have n0_ := Aside0.mk (below_step (by repeat (first | (with_reducible first | exact HB.out | apply below_alloc | apply pbdN | apply bdr1) | exact HB.out)) hb); have n1_ := Aside0.mk (hbox); have n2_ := Aside0.mk ((by rw [hg]; exact (below_size (by repeat (first | (with_reducible first | exact HB.out | apply below_alloc | apply pbdN | apply bdr1) | exact HB.out))) : w.heap.size ≤ gb1002)); have n3_ := Aside0.mk ((by rw [hg]; exact (below_size (by repeat (first | (with_reducible first | exact HB.out | apply below_alloc | apply pbdN | apply bdr1) | exact HB.out))) : w.heap.size ≤ gb1002)); clear HB; have HB := n0_; have BK1002 := n1_; have GW1002 := n2_; have GE1002 := n3_; clear n0_ n1_ n2_ n3_; clear hb hbox hg) | ((with_reducible refine gate_dst (N := 4) rfl ?_); refine box_event ?hg (N := 4) ?hd (cs := #[.slice A1_0 l1_0.length c1_0, .slice A1_1 l1_1.length c1_1]) (t := 25) ?hr ?_; (case hd => rfl); (case hg => rfl); (case hr => first | (go_simp; done) | (go_simp; rfl)); intro gb1003 hg w8 hbox hb; have n0_ := Aside0.mk (blk_below (g := gb1002) (o := .cells #[.int .i64 a0_0, .int .i64 a0_1, .int .i64 a0_2, .int .i64 a0_3, .int .i64 a0_4, .int .i64 a0_5] 44 (0, 0)) (by (with_reducible repeat (first | refine blk_drewN ?_ _ | refine blk_drew ?_ | refine blk_alloc ?_ _)); exact BK1002.out) hb); have n1_ := Aside0.mk (below_step (by repeat (first | (with_reducible first | exact HB.out | apply below_alloc | apply pbdN | apply bdr1 | refine below_set ?_ GE1002.out) | exact HB.out)) hb); have n2_ := Aside0.mk (hbox); have n3_ := Aside0.mk ((by rw [hg]; exact (below_size (by repeat (first | (with_reducible first | exact HB.out | apply below_alloc | apply pbdN | apply bdr1 | refine below_set ?_ GE1002.out) | exact HB.out))) : w.heap.size ≤ gb1003)); have n4_ := Aside0.mk ((by rw [hg]; exact (below_size (by repeat (first | (with_reducible first | exact HB.out | apply below_alloc | apply pbdN | apply bdr1 | refine below_set ?_ GE1002.out) | exact HB.out))) : w.heap.size ≤ gb1003)); have n5_ := Aside0.mk ((by rw [hg]; exact Nat.ne_of_lt (blk_lt (g := gb1002) (o := .cells #[.int .i64 a0_0, .int .i64 a0_1, .int .i64 a0_2, .int .i64 a0_3, .int .i64 a0_4, .int .i64 a0_5] 44 (0, 0)) (by (with_reducible repeat (first | refine blk_drewN ?_ _ | refine blk_drew ?_ | refine blk_alloc ?_ _)); exact BK1002.out)) : gb1002 ≠ gb1003)); have n6_ := Aside0.mk ((by rw [hg]; exact Nat.ne_of_gt (blk_lt (g := gb1002) (o := .cells #[.int .i64 a0_0, .int .i64 a0_1, .int .i64 a0_2, .int .i64 a0_3, .int .i64 a0_4, .int .i64 a0_5] 44 (0, 0)) (by (with_reducible repeat (first | refine blk_drewN ?_ _ | refine blk_drew ?_ | refine blk_alloc ?_ _)); exact BK1002.out)) : gb1003 ≠ gb1002)); clear BK1002; clear HB; have BK1002 := n0_; have HB := n1_; have BK1003 := n2_; have GW1003 := n3_; have GE1003 := n4_; have NB1002_623 := n5_; have NB1003_622 := n6_; clear n0_ n1_ n2_ n3_ n4_ n5_ n6_; clear hb hbox hg; have hnb9 := NB1002_623.out; have hnc9 := NB1003_622.out; have hcz10_0 : w8.cell? ⟨gb1002, 0, none⟩ = some (.int .i64 a0_0) := (blk_cell BK1002.out 0).trans rfl; have hcz10_1 : w8.cell? ⟨gb1002, 1, none⟩ = some (.int .i64 a0_1) := (blk_cell BK1002.out 1).trans rfl; have hcz10_2 : w8.cell? ⟨gb1002, 2, none⟩ = some (.int .i64 a0_2) := (blk_cell BK1002.out 2).trans rfl; have hcz10_3 : w8.cell? ⟨gb1002, 3, none⟩ = some (.int .i64 a0_3) := (blk_cell BK1002.out 3).trans rfl; have hcz10_4 : w8.cell? ⟨gb1002, 4, none⟩ = some (.int .i64 a0_4) := (blk_cell BK1002.out 4).trans rfl; have hcz10_5 : w8.cell? ⟨gb1002, 5, none⟩ = some (.int .i64 a0_5) := (blk_cell BK1002.out 5).trans rfl; have hfz10_0 := blk_frozen BK1002.out 0; have hfz10_1 := blk_frozen BK1002.out 1; have hfz10_2 := blk_frozen BK1002.out 2; have hfz10_3 := blk_frozen BK1002.out 3; have hfz10_4 := blk_frozen BK1002.out 4; have hfz10_5 := blk_frozen BK1002.out 5; have hcz11_0 : w8.cell? ⟨gb1003, 0, none⟩ = some (.slice A1_0 l1_0.length c1_0) := (blk_cell BK1003.out 0).trans rfl; have hcz11_1 : w8.cell? ⟨gb1003, 1, none⟩ = some (.slice A1_1 l1_1.length c1_1) := (blk_cell BK1003.out 1).trans rfl; have hfz11_0 := blk_frozen BK1003.out 0; have hfz11_1 := blk_frozen BK1003.out 1) | ((with_reducible refine gate_callee (f := 79) rfl ?_); refine goesL_ (some 10) rfl rfl Try.func79 (by kernel_rfl) rfl #[.agg #[.int .i64 a0_0, .int .i64 a0_1, .int .i64 a0_2, .int .i64 a0_3, .int .i64 a0_4, .int .i64 a0_5], .agg #[.slice A1_0 l1_0.length c1_0, .slice A1_1 l1_1.length c1_1]] rfl (by (try simp only [List.map_toArray, List.map_cons, List.map_nil]); first | done | rfl | (simp only [List.length_drop, List.length_take]; rfl)) ?_; (with_reducible refine (catamaranref08_May.calls k a0_0 a0_1 a0_2 a0_3 a0_4 a0_5 _ _ l1_0 _ _ l1_1 true _ ?side1 ?side2 ?side3 ?side4 A4.out).mono ?_); (case side1 => repeat (first | exact (Kd.C_below HR1_0.out HB.out) | (with_reducible refine Kd.C_alloc ?_ _) | (with_reducible refine Kd.C_drewN ?_ _) | (with_reducible refine Kd.C_drew ?_))); (case side2 => exact HC1_0.out); (case side3 => repeat (first | exact (Kd.C_below HR1_1.out HB.out) | (with_reducible refine Kd.C_alloc ?_ _) | (with_reducible refine Kd.C_drewN ?_ _) | (with_reducible refine Kd.C_drew ?_))); (case side4 => exact HC1_1.out); rintro e w12 ⟨rfl, hb⟩; refine ⟨_, rfl, ?_⟩; have n0_ := Aside0.mk (blk_below (g := gb1002) (o := .cells #[.int .i64 a0_0, .int .i64 a0_1, .int .i64 a0_2, .int .i64 a0_3, .int .i64 a0_4, .int .i64 a0_5] 44 (0, 0)) (by (with_reducible repeat (first | refine blk_drewN ?_ _ | refine blk_drew ?_ | refine blk_alloc ?_ _)); exact BK1002.out) hb); have n1_ := Aside0.mk (blk_below (g := gb1003) (o := .cells #[.slice A1_0 l1_0.length c1_0, .slice A1_1 l1_1.length c1_1] 25 (0, 0)) (by (with_reducible repeat (first | refine blk_drewN ?_ _ | refine blk_drew ?_ | refine blk_alloc ?_ _)); exact BK1003.out) hb); have n2_ := Aside0.mk (below_step (by repeat (first | (with_reducible first | exact HB.out | apply below_alloc | apply pbdN | apply bdr1 | refine below_set ?_ GE1002.out | refine below_set ?_ GE1003.out) | exact HB.out)) hb); clear BK1002; clear BK1003; clear HB; have BK1002 := n0_; have BK1003 := n1_; have HB := n2_; clear n0_ n1_ n2_; (try clear hb); (try clear hb2); (try clear hk); (try clear hi)))
      go_ret2
      exact ⟨_, by first | rfl | (simp [errW_none, errW_some] <;> rfl) | (simp [*, errW_none, errW_some] <;> rfl), by first | exact Kd.R_nil _ _ _ _ _ | exact Kd.N_nil _ _ _ _ _ | exact Kd.V_nil _ _ _ _ _ | exact Kd.Q_nil _ _ _ _ _ | exact Kd.S_nil _ _ _ _ _, by repeat (first | (with_reducible first | exact HB.out | apply below_alloc | apply pbdN | apply bdr1 | refine below_set ?_ GE1002.out | refine below_set ?_ GE1003.out) | exact HB.out)⟩
    · rw [if_neg c6] at H
      have c6b0 : decide (a2 < 0) = false := decide_eq_false c6
      clear c6
      by_cases c13 : a2 ≥ a0_0
      · rw [if_pos c13] at H
        have c13b0 : decide (a0_0 ≤ a2) = true := decide_eq_true c13
        clear c13
        simp only [Option.some.injEq, Prod.mk.injEq] at H
        obtain ⟨rfl, rfl⟩ := H
        go_enter Try.func37, Try.ntmps37
        go_wp2_with (first | ((with_reducible refine gate_dst (N := 3) rfl ?_); refine box_event ?hg (N := 3) ?hd (cs := #[.int .i64 a0_0, .int .i64 a0_1, .int .i64 a0_2, .int .i64 a0_3, .int .i64 a0_4, .int .i64 a0_5]) (t := 44) ?hr ?_; (case hd => rfl); (case hg => rfl); (case hr => first | (go_simp; done) | (go_simp; rfl)); intro gb1002 hg w14 hbox hb; have n0_ := Aside0.mk (below_step (by repeat (first | (with_reducible first | exact HB.out | apply below_alloc | apply pbdN | apply bdr1) | exact HB.out)) hb); have n1_ := Aside0.mk (hbox); have n2_ := Aside0.mk ((by rw [hg]; exact (below_size (by repeat (first | (with_reducible first | exact HB.out | apply below_alloc | apply pbdN | apply bdr1) | exact HB.out))) : w.heap.size ≤ gb1002)); have n3_ := Aside0.mk ((by rw [hg]; exact (below_size (by repeat (first | (with_reducible first | exact HB.out | apply below_alloc | apply pbdN | apply bdr1) | exact HB.out))) : w.heap.size ≤ gb1002)); clear HB; have HB := n0_; have BK1002 := n1_; have GW1002 := n2_; have GE1002 := n3_; clear n0_ n1_ n2_ n3_; clear hb hbox hg) | ((with_reducible refine gate_dst (N := 4) rfl ?_); refine box_event ?hg (N := 4) ?hd (cs := #[.slice A1_0 l1_0.length c1_0, .slice A1_1 l1_1.length c1_1]) (t := 25) ?hr ?_; (case hd => rfl); (case hg => rfl); (case hr => first | (go_simp; done) | (go_simp; rfl)); intro gb1003 hg w15 hbox hb; have n0_ := Aside0.mk (blk_below (g := gb1002) (o := .cells #[.int .i64 a0_0, .int .i64 a0_1, .int .i64 a0_2, .int .i64 a0_3, .int .i64 a0_4, .int .i64 a0_5] 44 (0, 0)) (by (with_reducible repeat (first | refine blk_drewN ?_ _ | refine blk_drew ?_ | refine blk_alloc ?_ _)); exact BK1002.out) hb); have n1_ := Aside0.mk (below_step (by repeat (first | (with_reducible first | exact HB.out | apply below_alloc | apply pbdN | apply bdr1 | refine below_set ?_ GE1002.out) | exact HB.out)) hb); have n2_ := Aside0.mk (hbox); have n3_ := Aside0.mk ((by rw [hg]; exact (below_size (by repeat (first | (with_reducible first | exact HB.out | apply below_alloc | apply pbdN | apply bdr1 | refine below_set ?_ GE1002.out) | exact HB.out))) : w.heap.size ≤ gb1003)); have n4_ := Aside0.mk ((by rw [hg]; exact (below_size (by repeat (first | (with_reducible first | exact HB.out | apply below_alloc | apply pbdN | apply bdr1 | refine below_set ?_ GE1002.out) | exact HB.out))) : w.heap.size ≤ gb1003)); have n5_ := Aside0.mk ((by rw [hg]; exact Nat.ne_of_lt (blk_lt (g := gb1002) (o := .cells #[.int .i64 a0_0, .int .i64 a0_1, .int .i64 a0_2, .int .i64 a0_3, .int .i64 a0_4, .int .i64 a0_5] 44 (0, 0)) (by (with_reducible repeat (first | refine blk_drewN ?_ _ | refine blk_drew ?_ | refine blk_alloc ?_ _)); exact BK1002.out)) : gb1002 ≠ gb1003)); have n6_ := Aside0.mk ((by rw [hg]; exact Nat.ne_of_gt (blk_lt (g := gb1002) (o := .cells #[.int .i64 a0_0, .int .i64 a0_1, .int .i64 a0_2, .int .i64 a0_3, .int .i64 a0_4, .int .i64 a0_5] 44 (0, 0)) (by (with_reducible repeat (first | refine blk_drewN ?_ _ | refine blk_drew ?_ | refine blk_alloc ?_ _)); exact BK1002.out)) : gb1003 ≠ gb1002)); clear BK1002; clear HB; have BK1002 := n0_; have HB := n1_; have BK1003 := n2_; have GW1003 := n3_; have GE1003 := n4_; have NB1002_623 := n5_; have NB1003_622 := n6_; clear n0_ n1_ n2_ n3_ n4_ n5_ n6_; clear hb hbox hg; have hnb16 := NB1002_623.out; have hnc16 := NB1003_622.out; have hcz17_0 : w15.cell? ⟨gb1002, 0, none⟩ = some (.int .i64 a0_0) := (blk_cell BK1002.out 0).trans rfl; have hcz17_1 : w15.cell? ⟨gb1002, 1, none⟩ = some (.int .i64 a0_1) := (blk_cell BK1002.out 1).trans rfl; have hcz17_2 : w15.cell? ⟨gb1002, 2, none⟩ = some (.int .i64 a0_2) := (blk_cell BK1002.out 2).trans rfl; have hcz17_3 : w15.cell? ⟨gb1002, 3, none⟩ = some (.int .i64 a0_3) := (blk_cell BK1002.out 3).trans rfl; have hcz17_4 : w15.cell? ⟨gb1002, 4, none⟩ = some (.int .i64 a0_4) := (blk_cell BK1002.out 4).trans rfl; have hcz17_5 : w15.cell? ⟨gb1002, 5, none⟩ = some (.int .i64 a0_5) := (blk_cell BK1002.out 5).trans rfl; have hfz17_0 := blk_frozen BK1002.out 0; have hfz17_1 := blk_frozen BK1002.out 1; have hfz17_2 := blk_frozen BK1002.out 2; have hfz17_3 := blk_frozen BK1002.out 3; have hfz17_4 := blk_frozen BK1002.out 4; have hfz17_5 := blk_frozen BK1002.out 5; have hcz18_0 : w15.cell? ⟨gb1003, 0, none⟩ = some (.slice A1_0 l1_0.length c1_0) := (blk_cell BK1003.out 0).trans rfl; have hcz18_1 : w15.cell? ⟨gb1003, 1, none⟩ = some (.slice A1_1 l1_1.length c1_1) := (blk_cell BK1003.out 1).trans rfl; have hfz18_0 := blk_frozen BK1003.out 0; have hfz18_1 := blk_frozen BK1003.out 1) | ((with_reducible refine gate_callee (f := 79) rfl ?_); refine goesL_ (some 10) rfl rfl Try.func79 (by kernel_rfl) rfl #[.agg #[.int .i64 a0_0, .int .i64 a0_1, .int .i64 a0_2, .int .i64 a0_3, .int .i64 a0_4, .int .i64 a0_5], .agg #[.slice A1_0 l1_0.length c1_0, .slice A1_1 l1_1.length c1_1]] rfl (by (try simp only [List.map_toArray, List.map_cons, List.map_nil]); first | done | rfl | (simp only [List.length_drop, List.length_take]; rfl)) ?_; (with_reducible refine (catamaranref08_May.calls k a0_0 a0_1 a0_2 a0_3 a0_4 a0_5 _ _ l1_0 _ _ l1_1 true _ ?side1 ?side2 ?side3 ?side4 A4.out).mono ?_); (case side1 => repeat (first | exact (Kd.C_below HR1_0.out HB.out) | (with_reducible refine Kd.C_alloc ?_ _) | (with_reducible refine Kd.C_drewN ?_ _) | (with_reducible refine Kd.C_drew ?_))); (case side2 => exact HC1_0.out); (case side3 => repeat (first | exact (Kd.C_below HR1_1.out HB.out) | (with_reducible refine Kd.C_alloc ?_ _) | (with_reducible refine Kd.C_drewN ?_ _) | (with_reducible refine Kd.C_drew ?_))); (case side4 => exact HC1_1.out); rintro e w19 ⟨rfl, hb⟩; refine ⟨_, rfl, ?_⟩; have n0_ := Aside0.mk (blk_below (g := gb1002) (o := .cells #[.int .i64 a0_0, .int .i64 a0_1, .int .i64 a0_2, .int .i64 a0_3, .int .i64 a0_4, .int .i64 a0_5] 44 (0, 0)) (by (with_reducible repeat (first | refine blk_drewN ?_ _ | refine blk_drew ?_ | refine blk_alloc ?_ _)); exact BK1002.out) hb); have n1_ := Aside0.mk (blk_below (g := gb1003) (o := .cells #[.slice A1_0 l1_0.length c1_0, .slice A1_1 l1_1.length c1_1] 25 (0, 0)) (by (with_reducible repeat (first | refine blk_drewN ?_ _ | refine blk_drew ?_ | refine blk_alloc ?_ _)); exact BK1003.out) hb); have n2_ := Aside0.mk (below_step (by repeat (first | (with_reducible first | exact HB.out | apply below_alloc | apply pbdN | apply bdr1 | refine below_set ?_ GE1002.out | refine below_set ?_ GE1003.out) | exact HB.out)) hb); clear BK1002; clear BK1003; clear HB; have BK1002 := n0_; have BK1003 := n1_; have HB := n2_; clear n0_ n1_ n2_; (try clear hb); (try clear hb2); (try clear hk); (try clear hi); have hcz20_0 : w19.cell? ⟨gb1002, 0, none⟩ = some (.int .i64 a0_0) := (blk_cell BK1002.out 0).trans rfl; have hcz20_1 : w19.cell? ⟨gb1002, 1, none⟩ = some (.int .i64 a0_1) := (blk_cell BK1002.out 1).trans rfl; have hcz20_2 : w19.cell? ⟨gb1002, 2, none⟩ = some (.int .i64 a0_2) := (blk_cell BK1002.out 2).trans rfl; have hcz20_3 : w19.cell? ⟨gb1002, 3, none⟩ = some (.int .i64 a0_3) := (blk_cell BK1002.out 3).trans rfl; have hcz20_4 : w19.cell? ⟨gb1002, 4, none⟩ = some (.int .i64 a0_4) := (blk_cell BK1002.out 4).trans rfl; have hcz20_5 : w19.cell? ⟨gb1002, 5, none⟩ = some (.int .i64 a0_5) := (blk_cell BK1002.out 5).trans rfl; have hfz20_0 := blk_frozen BK1002.out 0; have hfz20_1 := blk_frozen BK1002.out 1; have hfz20_2 := blk_frozen BK1002.out 2; have hfz20_3 := blk_frozen BK1002.out 3; have hfz20_4 := blk_frozen BK1002.out 4; have hfz20_5 := blk_frozen BK1002.out 5))
        go_ret2
        exact ⟨_, by first | rfl | (simp [errW_none, errW_some] <;> rfl) | (simp [*, errW_none, errW_some] <;> rfl), by first | exact Kd.R_nil _ _ _ _ _ | exact Kd.N_nil _ _ _ _ _ | exact Kd.V_nil _ _ _ _ _ | exact Kd.Q_nil _ _ _ _ _ | exact Kd.S_nil _ _ _ _ _, by repeat (first | (with_reducible first | exact HB.out | apply below_alloc | apply pbdN | apply bdr1 | refine below_set ?_ GE1002.out | refine below_set ?_ GE1003.out) | exact HB.out)⟩
      · rw [if_neg c13] at H
        have c13b0 : decide (a0_0 ≤ a2) = false := decide_eq_false c13
        clear c13
        replace H := Option.bind_eq_some_iff.mp H
        obtain ⟨t1001, A1004, H⟩ := H
        replace H : (some (t1001, 0)) = some (r1, r2) := H
        have A21 := Aside0.mk A1004
        clear A1004
        simp only [Option.some.injEq, Prod.mk.injEq] at H
        obtain ⟨rfl, rfl⟩ := H
        go_enter Try.func37, Try.ntmps37
        go_wp2_with (first | ((with_reducible refine gate_dst (N := 3) rfl ?_); refine box_event ?hg (N := 3) ?hd (cs := #[.int .i64 a0_0, .int .i64 a0_1, .int .i64 a0_2, .int .i64 a0_3, .int .i64 a0_4, .int .i64 a0_5]) (t := 44) ?hr ?_; (case hd => rfl); (case hg => rfl); (case hr => first | (go_simp; done) | (go_simp; rfl)); intro gb1002 hg w22 hbox hb; have n0_ := Aside0.mk (below_step (by repeat (first | (with_reducible first | exact HB.out | apply below_alloc | apply pbdN | apply bdr1) | exact HB.out)) hb); have n1_ := Aside0.mk (hbox); have n2_ := Aside0.mk ((by rw [hg]; exact (below_size (by repeat (first | (with_reducible first | exact HB.out | apply below_alloc | apply pbdN | apply bdr1) | exact HB.out))) : w.heap.size ≤ gb1002)); have n3_ := Aside0.mk ((by rw [hg]; exact (below_size (by repeat (first | (with_reducible first | exact HB.out | apply below_alloc | apply pbdN | apply bdr1) | exact HB.out))) : w.heap.size ≤ gb1002)); clear HB; have HB := n0_; have BK1002 := n1_; have GW1002 := n2_; have GE1002 := n3_; clear n0_ n1_ n2_ n3_; clear hb hbox hg) | ((with_reducible refine gate_dst (N := 4) rfl ?_); refine box_event ?hg (N := 4) ?hd (cs := #[.slice A1_0 l1_0.length c1_0, .slice A1_1 l1_1.length c1_1]) (t := 25) ?hr ?_; (case hd => rfl); (case hg => rfl); (case hr => first | (go_simp; done) | (go_simp; rfl)); intro gb1003 hg w23 hbox hb; have n0_ := Aside0.mk (blk_below (g := gb1002) (o := .cells #[.int .i64 a0_0, .int .i64 a0_1, .int .i64 a0_2, .int .i64 a0_3, .int .i64 a0_4, .int .i64 a0_5] 44 (0, 0)) (by (with_reducible repeat (first | refine blk_drewN ?_ _ | refine blk_drew ?_ | refine blk_alloc ?_ _)); exact BK1002.out) hb); have n1_ := Aside0.mk (below_step (by repeat (first | (with_reducible first | exact HB.out | apply below_alloc | apply pbdN | apply bdr1 | refine below_set ?_ GE1002.out) | exact HB.out)) hb); have n2_ := Aside0.mk (hbox); have n3_ := Aside0.mk ((by rw [hg]; exact (below_size (by repeat (first | (with_reducible first | exact HB.out | apply below_alloc | apply pbdN | apply bdr1 | refine below_set ?_ GE1002.out) | exact HB.out))) : w.heap.size ≤ gb1003)); have n4_ := Aside0.mk ((by rw [hg]; exact (below_size (by repeat (first | (with_reducible first | exact HB.out | apply below_alloc | apply pbdN | apply bdr1 | refine below_set ?_ GE1002.out) | exact HB.out))) : w.heap.size ≤ gb1003)); have n5_ := Aside0.mk ((by rw [hg]; exact Nat.ne_of_lt (blk_lt (g := gb1002) (o := .cells #[.int .i64 a0_0, .int .i64 a0_1, .int .i64 a0_2, .int .i64 a0_3, .int .i64 a0_4, .int .i64 a0_5] 44 (0, 0)) (by (with_reducible repeat (first | refine blk_drewN ?_ _ | refine blk_drew ?_ | refine blk_alloc ?_ _)); exact BK1002.out)) : gb1002 ≠ gb1003)); have n6_ := Aside0.mk ((by rw [hg]; exact Nat.ne_of_gt (blk_lt (g := gb1002) (o := .cells #[.int .i64 a0_0, .int .i64 a0_1, .int .i64 a0_2, .int .i64 a0_3, .int .i64 a0_4, .int .i64 a0_5] 44 (0, 0)) (by (with_reducible repeat (first | refine blk_drewN ?_ _ | refine blk_drew ?_ | refine blk_alloc ?_ _)); exact BK1002.out)) : gb1003 ≠ gb1002)); clear BK1002; clear HB; have BK1002 := n0_; have HB := n1_; have BK1003 := n2_; have GW1003 := n3_; have GE1003 := n4_; have NB1002_623 := n5_; have NB1003_622 := n6_; clear n0_ n1_ n2_ n3_ n4_ n5_ n6_; clear hb hbox hg; have hnb24 := NB1002_623.out; have hnc24 := NB1003_622.out; have hcz25_0 : w23.cell? ⟨gb1002, 0, none⟩ = some (.int .i64 a0_0) := (blk_cell BK1002.out 0).trans rfl; have hcz25_1 : w23.cell? ⟨gb1002, 1, none⟩ = some (.int .i64 a0_1) := (blk_cell BK1002.out 1).trans rfl; have hcz25_2 : w23.cell? ⟨gb1002, 2, none⟩ = some (.int .i64 a0_2) := (blk_cell BK1002.out 2).trans rfl; have hcz25_3 : w23.cell? ⟨gb1002, 3, none⟩ = some (.int .i64 a0_3) := (blk_cell BK1002.out 3).trans rfl; have hcz25_4 : w23.cell? ⟨gb1002, 4, none⟩ = some (.int .i64 a0_4) := (blk_cell BK1002.out 4).trans rfl; have hcz25_5 : w23.cell? ⟨gb1002, 5, none⟩ = some (.int .i64 a0_5) := (blk_cell BK1002.out 5).trans rfl; have hfz25_0 := blk_frozen BK1002.out 0; have hfz25_1 := blk_frozen BK1002.out 1; have hfz25_2 := blk_frozen BK1002.out 2; have hfz25_3 := blk_frozen BK1002.out 3; have hfz25_4 := blk_frozen BK1002.out 4; have hfz25_5 := blk_frozen BK1002.out 5; have hcz26_0 : w23.cell? ⟨gb1003, 0, none⟩ = some (.slice A1_0 l1_0.length c1_0) := (blk_cell BK1003.out 0).trans rfl; have hcz26_1 : w23.cell? ⟨gb1003, 1, none⟩ = some (.slice A1_1 l1_1.length c1_1) := (blk_cell BK1003.out 1).trans rfl; have hfz26_0 := blk_frozen BK1003.out 0; have hfz26_1 := blk_frozen BK1003.out 1) | ((with_reducible refine gate_callee (f := 79) rfl ?_); refine goesL_ (some 10) rfl rfl Try.func79 (by kernel_rfl) rfl #[.agg #[.int .i64 a0_0, .int .i64 a0_1, .int .i64 a0_2, .int .i64 a0_3, .int .i64 a0_4, .int .i64 a0_5], .agg #[.slice A1_0 l1_0.length c1_0, .slice A1_1 l1_1.length c1_1]] rfl (by (try simp only [List.map_toArray, List.map_cons, List.map_nil]); first | done | rfl | (simp only [List.length_drop, List.length_take]; rfl)) ?_; (with_reducible refine (catamaranref08_May.calls k a0_0 a0_1 a0_2 a0_3 a0_4 a0_5 _ _ l1_0 _ _ l1_1 true _ ?side1 ?side2 ?side3 ?side4 A4.out).mono ?_); (case side1 => repeat (first | exact (Kd.C_below HR1_0.out HB.out) | (with_reducible refine Kd.C_alloc ?_ _) | (with_reducible refine Kd.C_drewN ?_ _) | (with_reducible refine Kd.C_drew ?_))); (case side2 => exact HC1_0.out); (case side3 => repeat (first | exact (Kd.C_below HR1_1.out HB.out) | (with_reducible refine Kd.C_alloc ?_ _) | (with_reducible refine Kd.C_drewN ?_ _) | (with_reducible refine Kd.C_drew ?_))); (case side4 => exact HC1_1.out); rintro e w27 ⟨rfl, hb⟩; refine ⟨_, rfl, ?_⟩; have n0_ := Aside0.mk (blk_below (g := gb1002) (o := .cells #[.int .i64 a0_0, .int .i64 a0_1, .int .i64 a0_2, .int .i64 a0_3, .int .i64 a0_4, .int .i64 a0_5] 44 (0, 0)) (by (with_reducible repeat (first | refine blk_drewN ?_ _ | refine blk_drew ?_ | refine blk_alloc ?_ _)); exact BK1002.out) hb); have n1_ := Aside0.mk (blk_below (g := gb1003) (o := .cells #[.slice A1_0 l1_0.length c1_0, .slice A1_1 l1_1.length c1_1] 25 (0, 0)) (by (with_reducible repeat (first | refine blk_drewN ?_ _ | refine blk_drew ?_ | refine blk_alloc ?_ _)); exact BK1003.out) hb); have n2_ := Aside0.mk (below_step (by repeat (first | (with_reducible first | exact HB.out | apply below_alloc | apply pbdN | apply bdr1 | refine below_set ?_ GE1002.out | refine below_set ?_ GE1003.out) | exact HB.out)) hb); clear BK1002; clear BK1003; clear HB; have BK1002 := n0_; have BK1003 := n1_; have HB := n2_; clear n0_ n1_ n2_; (try clear hb); (try clear hb2); (try clear hk); (try clear hi); have hcz28_0 : w27.cell? ⟨gb1002, 0, none⟩ = some (.int .i64 a0_0) := (blk_cell BK1002.out 0).trans rfl; have hcz28_1 : w27.cell? ⟨gb1002, 1, none⟩ = some (.int .i64 a0_1) := (blk_cell BK1002.out 1).trans rfl; have hcz28_2 : w27.cell? ⟨gb1002, 2, none⟩ = some (.int .i64 a0_2) := (blk_cell BK1002.out 2).trans rfl; have hcz28_3 : w27.cell? ⟨gb1002, 3, none⟩ = some (.int .i64 a0_3) := (blk_cell BK1002.out 3).trans rfl; have hcz28_4 : w27.cell? ⟨gb1002, 4, none⟩ = some (.int .i64 a0_4) := (blk_cell BK1002.out 4).trans rfl; have hcz28_5 : w27.cell? ⟨gb1002, 5, none⟩ = some (.int .i64 a0_5) := (blk_cell BK1002.out 5).trans rfl; have hfz28_0 := blk_frozen BK1002.out 0; have hfz28_1 := blk_frozen BK1002.out 1; have hfz28_2 := blk_frozen BK1002.out 2; have hfz28_3 := blk_frozen BK1002.out 3; have hfz28_4 := blk_frozen BK1002.out 4; have hfz28_5 := blk_frozen BK1002.out 5; have hcz29_0 : w27.cell? ⟨gb1003, 0, none⟩ = some (.slice A1_0 l1_0.length c1_0) := (blk_cell BK1003.out 0).trans rfl; have hcz29_1 : w27.cell? ⟨gb1003, 1, none⟩ = some (.slice A1_1 l1_1.length c1_1) := (blk_cell BK1003.out 1).trans rfl; have hfz29_0 := blk_frozen BK1003.out 0; have hfz29_1 := blk_frozen BK1003.out 1) | ((with_reducible refine gate_callee (f := 80) rfl ?_); refine goesL_ (some 23) rfl rfl Try.func80 (by kernel_rfl) rfl #[.agg #[.int .i64 a0_0, .int .i64 a0_1, .int .i64 a0_2, .int .i64 a0_3, .int .i64 a0_4, .int .i64 a0_5], .agg #[.slice A1_0 l1_0.length c1_0, .slice A1_1 l1_1.length c1_1], .int .i64 a2] rfl (by (try simp only [List.map_toArray, List.map_cons, List.map_nil]); first | done | rfl | (simp only [List.length_drop, List.length_take]; rfl)) ?_; (with_reducible refine (catamaranref13_Marks.calls k a0_0 a0_1 a0_2 a0_3 a0_4 a0_5 _ _ l1_0 _ _ l1_1 a2 t1001 _ ?side1 ?side2 ?side3 ?side4 A21.out).mono ?_); (case side1 => repeat (first | exact (Kd.C_below HR1_0.out HB.out) | (with_reducible refine Kd.C_alloc ?_ _) | (with_reducible refine Kd.C_drewN ?_ _) | (with_reducible refine Kd.C_drew ?_))); (case side2 => exact HC1_0.out); (case side3 => repeat (first | exact (Kd.C_below HR1_1.out HB.out) | (with_reducible refine Kd.C_alloc ?_ _) | (with_reducible refine Kd.C_drewN ?_ _) | (with_reducible refine Kd.C_drew ?_))); (case side4 => exact HC1_1.out); rintro e w30 ⟨v1005, rfl, ho0, hb⟩; refine ⟨_, rfl, ?_⟩; have n0_ := Aside0.mk (Kd.R_lower ho0 (below_size (by repeat (first | (with_reducible first | exact HB.out | apply below_alloc | apply pbdN | apply bdr1 | refine below_set ?_ GE1002.out | refine below_set ?_ GE1003.out) | exact HB.out)))); have n1_ := Aside0.mk (blk_below (g := gb1002) (o := .cells #[.int .i64 a0_0, .int .i64 a0_1, .int .i64 a0_2, .int .i64 a0_3, .int .i64 a0_4, .int .i64 a0_5] 44 (0, 0)) (by (with_reducible repeat (first | refine blk_drewN ?_ _ | refine blk_drew ?_ | refine blk_alloc ?_ _)); exact BK1002.out) hb); have n2_ := Aside0.mk (blk_below (g := gb1003) (o := .cells #[.slice A1_0 l1_0.length c1_0, .slice A1_1 l1_1.length c1_1] 25 (0, 0)) (by (with_reducible repeat (first | refine blk_drewN ?_ _ | refine blk_drew ?_ | refine blk_alloc ?_ _)); exact BK1003.out) hb); have n3_ := Aside0.mk (below_step (by repeat (first | (with_reducible first | exact HB.out | apply below_alloc | apply pbdN | apply bdr1 | refine below_set ?_ GE1002.out | refine below_set ?_ GE1003.out) | exact HB.out)) hb); clear BK1002; clear BK1003; clear HB; have HO1006 := n0_; have BK1002 := n1_; have BK1003 := n2_; have HB := n3_; clear n0_ n1_ n2_ n3_; (try clear hb); (try clear hb2); (try clear hk); (try clear hi); (try clear ho0)))
        go_ret2
        exact ⟨_, by first | rfl | (simp [errW_none, errW_some] <;> rfl) | (simp [*, errW_none, errW_some] <;> rfl), by (with_reducible repeat (first | apply Kd.R_alloc | apply Kd.R_drewN | apply Kd.R_drew)); exact HO1006.out, by repeat (first | (with_reducible first | exact HB.out | apply below_alloc | apply pbdN | apply bdr1 | refine below_set ?_ GE1002.out | refine below_set ?_ GE1003.out) | exact HB.out)⟩
  · replace c5 := Bool.eq_false_iff.mpr c5
    subst c5
    have H1 : (some (([] : List Int), 8)) = some (r1, r2) := by rw [if_neg (show ¬ (false = true) by decide)] at H; exact H
    clear H
    have H := H1
    clear H1
    simp only [Option.some.injEq, Prod.mk.injEq] at H
    obtain ⟨rfl, rfl⟩ := H
    go_enter Try.func37, Try.ntmps37
    go_wp2_with (first | ((with_reducible refine gate_dst (N := 3) rfl ?_); refine box_event ?hg (N := 3) ?hd (cs := #[.int .i64 a0_0, .int .i64 a0_1, .int .i64 a0_2, .int .i64 a0_3, .int .i64 a0_4, .int .i64 a0_5]) (t := 44) ?hr ?_; (case hd => rfl); (case hg => rfl); (case hr => first | (go_simp; done) | (go_simp; rfl)); intro gb1002 hg w31 hbox hb; have n0_ := Aside0.mk (below_step (by repeat (first | (with_reducible first | exact HB.out | apply below_alloc | apply pbdN | apply bdr1) | exact HB.out)) hb); have n1_ := Aside0.mk (hbox); have n2_ := Aside0.mk ((by rw [hg]; exact (below_size (by repeat (first | (with_reducible first | exact HB.out | apply below_alloc | apply pbdN | apply bdr1) | exact HB.out))) : w.heap.size ≤ gb1002)); have n3_ := Aside0.mk ((by rw [hg]; exact (below_size (by repeat (first | (with_reducible first | exact HB.out | apply below_alloc | apply pbdN | apply bdr1) | exact HB.out))) : w.heap.size ≤ gb1002)); clear HB; have HB := n0_; have BK1002 := n1_; have GW1002 := n2_; have GE1002 := n3_; clear n0_ n1_ n2_ n3_; clear hb hbox hg) | ((with_reducible refine gate_dst (N := 4) rfl ?_); refine box_event ?hg (N := 4) ?hd (cs := #[.slice A1_0 l1_0.length c1_0, .slice A1_1 l1_1.length c1_1]) (t := 25) ?hr ?_; (case hd => rfl); (case hg => rfl); (case hr => first | (go_simp; done) | (go_simp; rfl)); intro gb1003 hg w32 hbox hb; have n0_ := Aside0.mk (blk_below (g := gb1002) (o := .cells #[.int .i64 a0_0, .int .i64 a0_1, .int .i64 a0_2, .int .i64 a0_3, .int .i64 a0_4, .int .i64 a0_5] 44 (0, 0)) (by (with_reducible repeat (first | refine blk_drewN ?_ _ | refine blk_drew ?_ | refine blk_alloc ?_ _)); exact BK1002.out) hb); have n1_ := Aside0.mk (below_step (by repeat (first | (with_reducible first | exact HB.out | apply below_alloc | apply pbdN | apply bdr1 | refine below_set ?_ GE1002.out) | exact HB.out)) hb); have n2_ := Aside0.mk (hbox); have n3_ := Aside0.mk ((by rw [hg]; exact (below_size (by repeat (first | (with_reducible first | exact HB.out | apply below_alloc | apply pbdN | apply bdr1 | refine below_set ?_ GE1002.out) | exact HB.out))) : w.heap.size ≤ gb1003)); have n4_ := Aside0.mk ((by rw [hg]; exact (below_size (by repeat (first | (with_reducible first | exact HB.out | apply below_alloc | apply pbdN | apply bdr1 | refine below_set ?_ GE1002.out) | exact HB.out))) : w.heap.size ≤ gb1003)); have n5_ := Aside0.mk ((by rw [hg]; exact Nat.ne_of_lt (blk_lt (g := gb1002) (o := .cells #[.int .i64 a0_0, .int .i64 a0_1, .int .i64 a0_2, .int .i64 a0_3, .int .i64 a0_4, .int .i64 a0_5] 44 (0, 0)) (by (with_reducible repeat (first | refine blk_drewN ?_ _ | refine blk_drew ?_ | refine blk_alloc ?_ _)); exact BK1002.out)) : gb1002 ≠ gb1003)); have n6_ := Aside0.mk ((by rw [hg]; exact Nat.ne_of_gt (blk_lt (g := gb1002) (o := .cells #[.int .i64 a0_0, .int .i64 a0_1, .int .i64 a0_2, .int .i64 a0_3, .int .i64 a0_4, .int .i64 a0_5] 44 (0, 0)) (by (with_reducible repeat (first | refine blk_drewN ?_ _ | refine blk_drew ?_ | refine blk_alloc ?_ _)); exact BK1002.out)) : gb1003 ≠ gb1002)); clear BK1002; clear HB; have BK1002 := n0_; have HB := n1_; have BK1003 := n2_; have GW1003 := n3_; have GE1003 := n4_; have NB1002_623 := n5_; have NB1003_622 := n6_; clear n0_ n1_ n2_ n3_ n4_ n5_ n6_; clear hb hbox hg; have hnb33 := NB1002_623.out; have hnc33 := NB1003_622.out; have hcz34_0 : w32.cell? ⟨gb1002, 0, none⟩ = some (.int .i64 a0_0) := (blk_cell BK1002.out 0).trans rfl; have hcz34_1 : w32.cell? ⟨gb1002, 1, none⟩ = some (.int .i64 a0_1) := (blk_cell BK1002.out 1).trans rfl; have hcz34_2 : w32.cell? ⟨gb1002, 2, none⟩ = some (.int .i64 a0_2) := (blk_cell BK1002.out 2).trans rfl; have hcz34_3 : w32.cell? ⟨gb1002, 3, none⟩ = some (.int .i64 a0_3) := (blk_cell BK1002.out 3).trans rfl; have hcz34_4 : w32.cell? ⟨gb1002, 4, none⟩ = some (.int .i64 a0_4) := (blk_cell BK1002.out 4).trans rfl; have hcz34_5 : w32.cell? ⟨gb1002, 5, none⟩ = some (.int .i64 a0_5) := (blk_cell BK1002.out 5).trans rfl; have hfz34_0 := blk_frozen BK1002.out 0; have hfz34_1 := blk_frozen BK1002.out 1; have hfz34_2 := blk_frozen BK1002.out 2; have hfz34_3 := blk_frozen BK1002.out 3; have hfz34_4 := blk_frozen BK1002.out 4; have hfz34_5 := blk_frozen BK1002.out 5; have hcz35_0 : w32.cell? ⟨gb1003, 0, none⟩ = some (.slice A1_0 l1_0.length c1_0) := (blk_cell BK1003.out 0).trans rfl; have hcz35_1 : w32.cell? ⟨gb1003, 1, none⟩ = some (.slice A1_1 l1_1.length c1_1) := (blk_cell BK1003.out 1).trans rfl; have hfz35_0 := blk_frozen BK1003.out 0; have hfz35_1 := blk_frozen BK1003.out 1) | ((with_reducible refine gate_callee (f := 79) rfl ?_); refine goesL_ (some 10) rfl rfl Try.func79 (by kernel_rfl) rfl #[.agg #[.int .i64 a0_0, .int .i64 a0_1, .int .i64 a0_2, .int .i64 a0_3, .int .i64 a0_4, .int .i64 a0_5], .agg #[.slice A1_0 l1_0.length c1_0, .slice A1_1 l1_1.length c1_1]] rfl (by (try simp only [List.map_toArray, List.map_cons, List.map_nil]); first | done | rfl | (simp only [List.length_drop, List.length_take]; rfl)) ?_; (with_reducible refine (catamaranref08_May.calls k a0_0 a0_1 a0_2 a0_3 a0_4 a0_5 _ _ l1_0 _ _ l1_1 false _ ?side1 ?side2 ?side3 ?side4 A4.out).mono ?_); (case side1 => repeat (first | exact (Kd.C_below HR1_0.out HB.out) | (with_reducible refine Kd.C_alloc ?_ _) | (with_reducible refine Kd.C_drewN ?_ _) | (with_reducible refine Kd.C_drew ?_))); (case side2 => exact HC1_0.out); (case side3 => repeat (first | exact (Kd.C_below HR1_1.out HB.out) | (with_reducible refine Kd.C_alloc ?_ _) | (with_reducible refine Kd.C_drewN ?_ _) | (with_reducible refine Kd.C_drew ?_))); (case side4 => exact HC1_1.out); rintro e w36 ⟨rfl, hb⟩; refine ⟨_, rfl, ?_⟩; have n0_ := Aside0.mk (blk_below (g := gb1002) (o := .cells #[.int .i64 a0_0, .int .i64 a0_1, .int .i64 a0_2, .int .i64 a0_3, .int .i64 a0_4, .int .i64 a0_5] 44 (0, 0)) (by (with_reducible repeat (first | refine blk_drewN ?_ _ | refine blk_drew ?_ | refine blk_alloc ?_ _)); exact BK1002.out) hb); have n1_ := Aside0.mk (blk_below (g := gb1003) (o := .cells #[.slice A1_0 l1_0.length c1_0, .slice A1_1 l1_1.length c1_1] 25 (0, 0)) (by (with_reducible repeat (first | refine blk_drewN ?_ _ | refine blk_drew ?_ | refine blk_alloc ?_ _)); exact BK1003.out) hb); have n2_ := Aside0.mk (below_step (by repeat (first | (with_reducible first | exact HB.out | apply below_alloc | apply pbdN | apply bdr1 | refine below_set ?_ GE1002.out | refine below_set ?_ GE1003.out) | exact HB.out)) hb); clear BK1002; clear BK1003; clear HB; have BK1002 := n0_; have BK1003 := n1_; have HB := n2_; clear n0_ n1_ n2_; (try clear hb); (try clear hb2); (try clear hk); (try clear hi)))
    go_ret2
    exact ⟨_, by first | rfl | (simp [errW_none, errW_some] <;> rfl) | (simp [*, errW_none, errW_some] <;> rfl), by first | exact Kd.R_nil _ _ _ _ _ | exact Kd.N_nil _ _ _ _ _ | exact Kd.V_nil _ _ _ _ _ | exact Kd.Q_nil _ _ _ _ _ | exact Kd.S_nil _ _ _ _ _, by repeat (first | (with_reducible first | exact HB.out | apply below_alloc | apply pbdN | apply bdr1 | refine below_set ?_ GE1002.out | refine below_set ?_ GE1003.out) | exact HB.out)⟩
end Go.Proofs.Ytdkjhcdniepbhaa.P
end
section
set_option linter.unusedVariables false
set_option linter.unusedSimpArgs false
namespace Go.Proofs.Ytdkjhcdniepbhaa.P
open Go.RowKit Go.Proofs.PrintWords Go.Proofs.PrintLast Go.Proofs.PrintMore
attribute [local go_sem] max2_int min2_int max_two min_two max_three min_three max_four min_four
def pgOf (p t a : Int) (l0 : List S39) (l1 : List S49) (pair n : Int) : Int := pgTold pair n (pgAll t n) (dRead l0 l1 (pgAt p t a pair n)).1 (dRead l0 l1 (pgAt p t a pair n)).2
theorem told_is {p t a m w q : Int} {l0 : List S39} {l1 : List S49} (h : okSite p t a m w q l0 l1 = true) {pair n : Int} (hi : pgIn p t pair n) : hTold.f p t a m w q l0 l1 pair n = some (pgOf p t a l0 l1 pair n) := by
  obtain ⟨hc, hn, hok⟩ := okSite_parts h
  have hin := pgAt_in hc hi
  unfold hTold.f
  rw [if_pos]
  · rfl
  · refine ⟨hc, hi, ?_⟩
    rw [dRead_got hok hin.1 (by omega)]
    split
    · exact .inr (dGot_len hok hin.1 (by omega))
    · exact .inl (by decide)
theorem rTold_is {p t a m w q : Int} {l0 : List S39} {l1 : List S49} (hby : bytesD l0 l1) (h : okSite p t a m w q l0 l1 = true) {pair n : Int} (hi : pgIn p t pair n) : hRTold.f p t a m w q l0 l1 pair n = some (pgOf p t a l0 l1 pair n) := by
  obtain ⟨hc, hn, hok⟩ := okSite_parts h
  have hin := pgAt_in hc hi
  have hlen := dGot_len hok hin.1 (show pgAt p t a pair n < l0.length by omega)
  have hbyt := dGot_byte hby hin.1 (show pgAt p t a pair n < l0.length by omega)
  unfold hRTold.f pgOf
  rw [if_pos ⟨h, hi⟩, dRead_got hok hin.1 (by omega)]
  obtain ⟨⟨x, is⟩, hg⟩ : ∃ y, dGot l0 l1 (pgAt p t a pair n) = y := ⟨_, rfl⟩
  rw [hg] at hlen hbyt ⊢
  cases is with
  | false => rfl
  | true =>
    have hlen : x.length = 32 := hlen
    have hbyt : byteL x := hbyt
    have hr := rd3_byte hbyt hlen
    simp only [if_true]
    unfold pgTold rTolds
    rw [if_pos rfl, blank_zero hbyt hlen]
    by_cases hz : ((strOfNums x).toList == (strOfNums zero32).toList) = true
    · rw [if_pos hz, if_pos hz]
    · rw [if_neg hz, if_neg hz]
      by_cases ha : Go.bits .and .u8 (rd x 3) (pgAll t n) = rd x 3
      · rw [if_pos ha, if_pos ((andNot_iff hr.1 hr.2 (pgAll_mem t n)).2 ha)]
      · rw [if_neg ha, if_neg (fun e => ha ((andNot_iff hr.1 hr.2 (pgAll_mem t n)).1 e))]
def pgMarks (p t a : Int) (l0 : List S39) (l1 : List S49) (pair : Int) (k : Nat) : List Int := (List.range k).map fun (i : Nat) => pgOf p t a l0 l1 pair (i : Int)
theorem pgMarks_succ (p t a : Int) (l0 : List S39) (l1 : List S49) (pair : Int) (k : Nat) : pgMarks p t a l0 l1 pair (k + 1) = pgMarks p t a l0 l1 pair k ++ [pgOf p t a l0 l1 pair (k : Int)] := by unfold pgMarks; rw [List.range_succ, List.map_append]; rfl
theorem pgMarks_len (p t a : Int) (l0 : List S39) (l1 : List S49) (pair : Int) (k : Nat) : (pgMarks p t a l0 l1 pair k).length = k := by simp [pgMarks]
def pRead (p t a m w q : Int) (l0 : List S39) (l1 : List S49) (pair : Int) : List Int × Int := if okSite p t a m w q l0 l1 = true then (if 0 ≤ pair ∧ pair < p then (pgMarks p t a l0 l1 pair (pgs t).toNat, 0) else ([], 2)) else ([], 8)
theorem marks_l0 {p t a m w q : Int} {l0 : List S39} {l1 : List S49} (hby : bytesD l0 l1) (h : okSite p t a m w q l0 l1 = true) {pair : Int} (hpr : 0 ≤ pair ∧ pair < p) : ∀ (d k n : Nat), (pgs t).toNat = n + d → d + 100 ≤ k → catamaranref13_Marks.l0 k pair (pgMarks p t a l0 l1 pair n) (n : Int) p t a m w q l0 l1 = some (pgMarks p t a l0 l1 pair (pgs t).toNat)
  | 0, k, n, hn, hk => by
    obtain ⟨k, rfl⟩ : ∃ m, k = m + 1 := ⟨k - 1, by omega⟩
    simp only [catamaranref13_Marks.l0]
    rw [many07_is, Option.bind_some, if_neg (by omega), show n = (pgs t).toNat by omega]
  | d + 1, k, n, hn, hk => by
    obtain ⟨k, rfl⟩ : ∃ m, k = m + 1 := ⟨k - 1, by omega⟩
    have hp := pgs_bound t
    simp only [catamaranref13_Marks.l0]
    rw [many07_is, Option.bind_some, if_pos (by omega), rTold_is hby h ⟨hpr, by omega, by omega⟩, Option.bind_some, if_pos (by rw [pgMarks_len]; omega), wrap_succ (by omega), ← pgMarks_succ]
    exact marks_l0 hby h hpr d k (n + 1) (by omega) (by omega)
theorem rPRead_is (k : Nat) (hk : 1200 ≤ k) (p t a m w q : Int) (l0 : List S39) (l1 : List S49) (hby : bytesD l0 l1) (pair : Int) : catamaranref13_Read.f k p t a m w q l0 l1 pair = some (pRead p t a m w q l0 l1 pair) := by
  unfold catamaranref13_Read.f pRead
  rw [may08_is k hk p t a m w q l0 l1 hby, Option.bind_some]
  cases h : okSite p t a m w q l0 l1
  · rfl
  · simp only [if_true]
    by_cases h1 : pair < 0
    · rw [if_pos h1, if_neg (by omega)]
    · rw [if_neg h1]
      by_cases h2 : pair ≥ p
      · rw [if_pos h2, if_neg (by omega)]
      · rw [if_neg h2, if_pos (by omega)]
        unfold catamaranref13_Marks.f
        have := marks_l0 hby h (pair := pair) (by omega) (pgs t).toNat k 0 (by omega) (by have := pgs_bound t; omega)
        rw [show pgMarks p t a l0 l1 pair 0 = [] from rfl] at this
        rw [show ((0 : Nat) : Int) = 0 from rfl] at this
        rw [this, Option.bind_some]
end Go.Proofs.Ytdkjhcdniepbhaa.P
end
