/- Part 6 of the proof: catamaranlaw05.DiskEnds returns true for every two disks, fates and number, and its arguments read afterwards as they read before; no condition. -/
import Derived.Laws.CopyOwn
import Derived.Laws.BitsAllLaws
import Derived.Test.YtjlohdbkjoofcaaDiskEnds05
section
set_option linter.unusedVariables false
set_option linter.unusedSimpArgs false
namespace Go.Proofs.Ytjlohdbkjoofcaa.P
open Go.RowKit Go.Proofs.PrintWords Go.Proofs.PrintLast Go.Proofs.PrintMore
attribute [local go_sem] max2_int min2_int max_two min_two max_three min_three max_four min_four
def hRepeat.f (l0 : List Int) (a1 : Int) : Option (List Int) := if l0.length = 1 ∧ 0 ≤ a1 ∧ a1 ≤ 100000 then some (List.replicate a1.toNat (rd l0 0)) else none
theorem mul_one_n (n : Nat) (hn : n ≤ 100000) : bits_Mul.f 1 (n : Int) = some (0, (n : Int)) := by
  unfold bits_Mul.f bits_Mul64.f
  have e1 : Go.bits .and .u64 (1 : Int) 4294967295 = 1 := by rw [u64_and _ _ (by decide) (by decide) (by decide) (by decide)]; rfl
  have e0 : Go.bits .and .u64 (0 : Int) 4294967295 = 0 := by rw [u64_and _ _ (by decide) (by decide) (by decide) (by decide)]; rfl
  have en : Go.bits .and .u64 (n : Int) 4294967295 = n := by
    rw [u64_and _ _ (by omega) (by omega) (by decide) (by decide)]
    show ((n &&& 4294967295 : Nat) : Int) = n
    rw [show 4294967295 = 2 ^ 32 - 1 by decide, Nat.and_two_pow_sub_one_eq_mod]
    omega
  have d1 : (1 : Int) / 4294967296 = 0 := by decide
  have dn : (n : Int) / 4294967296 = 0 := by omega
  have w0 : IntKind.u64.wrap 0 = 0 := by decide
  have wn : IntKind.u64.wrap (n : Int) = n := by simp [IntKind.wrap, IntKind.bits, IntKind.signed]; omega
  have z0 : (0 : Int) / 4294967296 = 0 := by decide
  simp only [e1, en, d1, dn, Int.zero_mul, Int.mul_zero, w0, Int.one_mul, wn, z0, Int.add_zero, e0, Option.bind_some]
def RepRow (w : World) (g n cap k : Nat) (x : Int) : Prop := n ≤ cap ∧ cap ≤ maxLen ∧ ∃ cur : List Value, w.heap[g]? = some (.cells cur.toArray 5 (0, 0)) ∧ cur.length = cap ∧ ∀ i, i < k → cur[i]? = some (.int .u8 x)
theorem RepRow.R {w : World} {g n cap lo : Nat} {x : Int} (h : RepRow w g n cap n x) (hl : lo ≤ g) : Kd.R (Kd.int .u8) 5 w lo (fun _ => True) (.slice (some ⟨g, 0, none⟩) n cap) (List.replicate n x) := by
  obtain ⟨h1, h2, cur, hb, hz, hc⟩ := h
  refine Kd.R_of_own ⟨?_, .inr ⟨g, cap, cur.toArray, ?_, hl, hb, by rw [List.length_replicate]; exact h1, h2, by simpa using hz, ?_⟩⟩ (fun _ _ => trivial)
  · simp [encs]
  · rw [List.length_replicate]
  · refine List.ext_getElem? fun i => ?_
    simp only [List.length_replicate, Nat.mul_one, encs, List.map_replicate]
    rw [List.getElem?_take]
    by_cases hi : i < n
    · rw [if_pos hi, hc i hi, List.getElem?_replicate, if_pos hi]
    · rw [if_neg hi, List.getElem?_eq_none (by simpa using hi)]
theorem RepRow.of_R {w : World} {lo n k b : Nat} {x : Int} {v : Value} {xs : List Int} {ok : Nat → Prop} (h : Kd.R (Kd.int .u8) 5 w lo ok v xs) (hv : v.ownBlock = some b) (hl : xs.length = n) (hk : ∀ i, i < k → xs[i]? = some x) : ∃ cap, v = .slice (some ⟨b, 0, none⟩) n cap ∧ RepRow w b n cap k x ∧ lo ≤ b := by
  have ho := Kd.own_of_R (enc := Value.int .u8) (h1 := fun _ => rfl) h
  rcases ho.2 with ⟨e, _⟩ | ⟨g, cap, cur, e, hb, hh, h1, h2, h3, h4⟩
  · rw [e] at hv
    simp [Value.ownBlock] at hv
  · obtain rfl : g = b := by rw [e] at hv; simpa [Value.ownBlock] using hv
    subst hl
    refine ⟨cap, e, ⟨h1, h2, cur.toList, hh, by simpa using h3, fun i hi => ?_⟩, hb⟩
    have hx := hk i hi
    have hil := (List.getElem?_eq_some_iff.1 hx).1
    have e2 : (cur.toList.take (xs.length * 1))[i]? = (encs (Value.int .u8) xs)[i]? := by rw [h4]
    rw [List.getElem?_take, if_pos (by omega)] at e2
    rw [e2]
    simp [encs, hx]
theorem RepRow.splice {w' : World} {g n cap k : Nat} {x : Int} {cur : List Value} (h1 : n ≤ cap) (h2 : cap ≤ maxLen) (hz : cur.length = cap) (hc : ∀ i, i < k → cur[i]? = some (.int .u8 x)) (hk : k < n) (hb : w'.heap[g]? = some (.cells (splice cur k (List.replicate (min k (n - k)) (.int .u8 x))).toArray 5 (0, 0))) : RepRow w' g n cap (k + min k (n - k)) x := by
  refine ⟨h1, h2, _, hb, ?_, fun i hi => ?_⟩
  · rw [length_splice _ _ _ (by rw [List.length_replicate]; omega)]
    exact hz
  · unfold Go.splice
    by_cases hik : i < k
    · rw [List.getElem?_append_left (by rw [List.length_take]; omega), List.getElem?_take, if_pos hik]
      exact hc i hik
    · rw [List.getElem?_append_right (by rw [List.length_take]; omega), List.length_take, List.getElem?_append_left (by rw [List.length_replicate]; omega), List.getElem?_replicate, if_pos (by omega)]
def hRepeat.T9 : Bool × List (List Nat × List Nat) := (true, [([], []), ([], []), ([], []), ([1, 2], [1, 2]), ([], []), ([], []), ([4, 5], [4, 5]), ([3, 6], [3, 6]), ([0, 7], [0, 7]), ([8, 7, 0, 1, 2, 3, 4, 5, 6, 7, 8], [0, 2, 5, 8])])
def hRepeat.B9 : List Nat := [0, 0, 0, 6, 0, 0, 48, 126, 255, 511]
theorem hRepeat.tab9 : rtab .any (opsOf Try.f128 9) = hRepeat.T9 := by kernel_rfl
theorem hRepeat.bits9 : waitsOk hRepeat.T9.2 hRepeat.B9 = true := by kernel_rfl
set_option maxHeartbeats 4000000 in
set_option maxRecDepth 100000 in
theorem hRepeat.calls (A0 : Option Addr) (c0 : Nat) (l0 : List Int) (a1 : Int) (r : List Int) (w : World) (hr0 : Kd.C (Kd.int .u8) w A0 l0.length l0) (hc0 : l0.length ≤ c0) (h : hRepeat.f l0 a1 = some r) :
    Calls Try.prog 128 #[.slice A0 l0.length c0, .int .i64 a1] w fun e w' => ∃ v0_ : Value, e = .returned v0_ ∧ Kd.R (Kd.int .u8) 5 w' w.heap.size (fun _ => True) v0_ r ∧ Below w.heap.size w w' := by
  unfold hRepeat.f at h
  by_cases hh : l0.length = 1 ∧ 0 ≤ a1 ∧ a1 ≤ 100000
  · rw [if_pos hh] at h
    obtain ⟨h1, h2, h3⟩ := hh
    injection h with h
    subst h
    obtain ⟨n, rfl⟩ := Int.eq_ofNat_of_zero_le h2
    obtain ⟨x, rfl⟩ : ∃ x, l0 = [x] := by
      match l0, h1 with
      | [x], _ => exact ⟨x, rfl⟩
    show Calls _ _ _ _ fun e w' => ∃ v0_ : Value, e = .returned v0_ ∧ Kd.R (Kd.int .u8) 5 w' w.heap.size (fun _ => True) v0_ (List.replicate n x) ∧ Below w.heap.size w w'
    have HR := Aside0.mk hr0
    have hn : n ≤ 100000 := by omega
    have HM := Aside0.mk (mul_one_n n hn)
    have hw1 : IntKind.u64.wrap (n : Int) = n := by simp [IntKind.wrap, IntKind.bits, IntKind.signed]; omega
    have hw2 : IntKind.u64.wrap (1 : Int) = 1 := by decide
    have hw3 : wrap64 (n : Int) = n := by unfold wrap64; omega
    have hn0 : ¬ ((n : Int) < 0) := by omega
    clear hr0 h1 h2 h3
    go_enter Try.func128, Try.ntmps128
    go_upto_block 0 with (first
      | (go_at_call 189; refine (bits_Mul.calls 1 (n : Int) 0 (n : Int) _ HM.out).mono ?_; rintro e w' ⟨rfl, hq⟩; have HB1 := Aside0.mk (Drawn0.below hq); clear hq)
      | ((with_reducible refine gate_dst (N := 30) rfl ?_); refine Kd.R_make (Kd.int .u8) (w0 := w) w.heap.size 5 rfl (N := 30) rfl 26 _ _ rfl n rfl rfl Try.underlying26 (.int .u8 0) 1 info5 rfl (by decide) (by omega) 0 (ok := fun _ => True) (okp := fun _ => True) rfl (fun _ hk => hk) trivial (by omega) (by omega) HB1.out (below_size HB1.out) ?_; intro v2 w2 ho2 hb2 hg2 hnew2; obtain ⟨b2, hv2, hl2⟩ := hnew2; have HO2 := Aside0.mk ho2; have HB2 := Aside0.mk hb2; have HV2 := Aside0.mk hv2; clear ho2 hb2 hg2 hv2 hl2)
      | ((with_reducible refine gate_dst (N := 33) rfl ?_); refine Kd.R_copy (enc := Value.int .u8) (h1 := fun _ => rfl) (0 : Int) (w0 := w) w.heap.size rfl (.tmp 31) (.tmp 32) 26 26 5 rfl Try.underlying26 (by kernel_rfl) v2 (List.replicate n 0) [x] A0 1 c0 (fun _ => True) rfl rfl HO2.out (Kd.C_below HR.out HB2.out) HB2.out (below_size HB2.out) ?_; intro w3 ho3 hb3 hg3; have HO3 := Aside0.mk ho3; have HB3 := Aside0.mk hb3; clear ho3 hb3 hg3))
    obtain ⟨cap, e2, hrow, hlo⟩ := RepRow.of_R (k := min 1 n) HO3.out HV2.out (n := n) (by rw [List.length_append, List.length_take, List.length_drop, List.length_replicate, List.length_singleton]; omega) (x := x) (fun i hi => by
      have : i = 0 := by omega
      subst this
      rw [show min 1 (List.replicate n (0 : Int)).length = 1 by rw [List.length_replicate]; omega]
      rfl)
    subst e2
    have HRW := Aside0.mk hrow
    have HLO := Aside0.mk hlo
    have hcap := hrow.1
    have hmax := hrow.2.1
    clear hrow hlo HO3 HO2 HV2
    obtain ⟨k0, hk0⟩ : ∃ k0, min 1 n = k0 := ⟨_, rfl⟩
    have hk1 : k0 ≤ n := by omega
    have hk2 : 0 < n → 0 < k0 := by omega
    rw [hk0] at HRW ⊢
    clear hk0
    go_wp2_with fail
    go_loopw [8] (fun i wr => ∃ k : Nat, k ≤ n ∧ (0 < n → 0 < k) ∧ i = .int .i64 k ∧ Aside0 (RepRow wr b2 n cap k x) ∧ Aside0 (Below w.heap.size w wr)) (fun i _ => n - (intOf i).toNat)
    case atStart => exact ⟨k0, hk1, hk2, rfl, HRW, HB3⟩
    case round =>
      clear HRW HB3 hk1 hk2
      obtain ⟨k, hk, hkp, rfl, HRW, HB⟩ := hrel
      by_cases hlt : k < n
      · have hne : ¬ cap = k := by omega
        have hne2 : ¬ (cap : Int) = k := by omega
        have hk0' : 0 ≤ (k : Int) := by omega
        have hkc : k ≤ cap := by omega
        have hkc2 : (k : Int) ≤ cap := by omega
        go_wp2_with fail
        refine start_ (n := 10) (S := fun _ => True) (ds := []) #[false, false, false, false, false, false, false, false, false, false] (by kernel_rfl) rfl rfl trivial (fun hHeld => ?_); refine with_tabW hRepeat.tab9 hRepeat.bits9 (fun HT_ HW_ => ?_)
        refine pure_ (i := 0) (N := some 38) (v := ?_) (a' := ?_) #[true, false, false, false, false, false, false, false, false, false] rfl rfl (any_of HT_.out (by kernel_rfl)) (fun _ _ _ h => h) (Or.inl ⟨by rfl, ?_⟩) ?_ ?_
        rotate_left
        · intro w'
          go_simp
          with_reducible rfl
        rotate_left
        · simp only [Act.put, List.setIfInBounds_toArray, List.set_cons_zero, List.set_cons_succ, i64_w, i32_w]
          rfl
        refine pure_ (i := 1) (N := some 39) (v := ?_) (a' := ?_) #[true, true, false, false, false, false, false, false, false, false] rfl rfl (any_of HT_.out (by kernel_rfl)) (fun _ _ _ h => h) (Or.inl ⟨by rfl, ?_⟩) ?_ ?_
        rotate_left
        · intro w'
          go_simp
          with_reducible rfl
        rotate_left
        · simp only [Act.put, List.setIfInBounds_toArray, List.set_cons_zero, List.set_cons_succ, i64_w, i32_w]
          rfl
        refine pure_ (i := 2) (N := some 40) (v := ?_) (a' := ?_) #[true, true, true, false, false, false, false, false, false, false] rfl rfl (any_of HT_.out (by kernel_rfl)) (fun _ _ _ h => h) (Or.inl ⟨by rfl, ?_⟩) ?_ ?_
        rotate_left
        · intro w'
          go_simp
          with_reducible rfl
        rotate_left
        · simp only [Act.put, List.setIfInBounds_toArray, List.set_cons_zero, List.set_cons_succ, i64_w, i32_w]
          rfl
        refine pure_ (i := 3) (N := some 41) (v := ?_) (a' := ?_) #[true, true, true, true, false, false, false, false, false, false] rfl rfl (any_of HT_.out (by kernel_rfl)) (fun _ _ _ h => h) (Or.inl ⟨by rfl, ?_⟩) ?_ ?_
        rotate_left
        · intro w'
          go_simp
          with_reducible rfl
        rotate_left
        · simp only [Act.put, List.setIfInBounds_toArray, List.set_cons_zero, List.set_cons_succ, i64_w, i32_w]
          rfl
        refine pure_ (i := 4) (N := some 42) (v := ?_) (a' := ?_) #[true, true, true, true, true, false, false, false, false, false] rfl rfl (any_of HT_.out (by kernel_rfl)) (fun _ _ _ h => h) (Or.inl ⟨by rfl, ?_⟩) ?_ ?_
        rotate_left
        · intro w'
          go_simp
          with_reducible rfl
        rotate_left
        · simp only [Act.put, List.setIfInBounds_toArray, List.set_cons_zero, List.set_cons_succ, i64_w, i32_w]
          rfl
        refine pure_ (i := 5) (N := some 43) (v := ?_) (a' := ?_) #[true, true, true, true, true, true, false, false, false, false] rfl rfl (any_of HT_.out (by kernel_rfl)) (fun _ _ _ h => h) (Or.inl ⟨by rfl, ?_⟩) ?_ ?_
        rotate_left
        · intro w'
          go_simp
          with_reducible rfl
        rotate_left
        · simp only [Act.put, List.setIfInBounds_toArray, List.set_cons_zero, List.set_cons_succ, i64_w, i32_w]
          rfl
        refine pure_ (i := 6) (N := some 44) (v := ?_) (a' := ?_) #[true, true, true, true, true, true, true, false, false, false] rfl rfl (any_of HT_.out (by kernel_rfl)) (fun _ _ _ h => h) (Or.inl ⟨by rfl, ?_⟩) ?_ ?_
        rotate_left
        · intro w'
          go_simp
          with_reducible rfl
        rotate_left
        · simp only [Act.put, List.setIfInBounds_toArray, List.set_cons_zero, List.set_cons_succ, i64_w, i32_w]
          rfl
        refine one_ (i := 7) (N := some 45) #[true, true, true, true, true, true, true, true, false, false] rfl rfl (one_of HT_.out (by kernel_rfl)) (by decide) (fun K hK => ?_)
        obtain ⟨_, _, cur, hcur, hcz, hcc⟩ := HRW.out
        refine step_copy_splice (by rfl) (.tmp 41) (.tmp 44) 26 26 rfl 5 Try.underlying26 (by kernel_rfl) (some ⟨b2, k, none⟩) (some ⟨b2, 0, none⟩) (n - k) (cap - k) k cap (by rfl) (by rfl) b2 k cur 5 (blk_drew hcur) (List.replicate (min k (n - k)) (.int .u8 x)) (by rw [List.length_replicate]) (fun _ => ⟨rfl, ⟨b2, 0, none⟩, rfl, fun j v hj => ?_⟩) (by rw [List.length_replicate]; omega) (fun v hv => by rw [List.eq_of_mem_replicate hv]; rfl) w.heap.size w (below_drew1 HB.out) HLO.out ?_
        · rw [List.getElem?_replicate] at hj
          by_cases hjm : j < min k (n - k)
          · rw [if_pos hjm] at hj
            injection hj with hj
            subst hj
            rw [add_plain, blk_cell (blk_drew hcur)]
            simpa using hcc j (by omega)
          · rw [if_neg hjm] at hj
            cases hj
        · intro w4 hh4 hb4
          have HB4 := Aside0.mk hb4
          have HR4 := Aside0.mk (RepRow.splice hcap hmax hcz hcc hlt hh4)
          clear hh4 hb4 hcur hcz hcc
          rw [List.length_replicate]
          refine hK.out _ _ trivial (fun hHeld => ?_)
          clear hK K
          refine norm_ (a' := ?_) ?_ ?_
          rotate_left
          · show Act.put _ (some 45) _ = _
            simp only [Act.put, List.setIfInBounds_toArray, List.set_cons_zero, List.set_cons_succ, i64_w, i32_w]
            rfl
          refine pure_ (i := 8) (N := some 46) (v := ?_) (a' := ?_) #[true, true, true, true, true, true, true, true, true, false] rfl rfl (any_of HT_.out (by kernel_rfl)) (fun _ _ _ h => h) (Or.inl ⟨by rfl, ?_⟩) ?_ ?_
          rotate_left
          · intro w'
            go_simp
            with_reducible rfl
          rotate_left
          · simp only [Act.put, List.setIfInBounds_toArray, List.set_cons_zero, List.set_cons_succ, i64_w, i32_w]
            rfl
          refine pure_ (i := 9) (N := some 8) (v := ?_) (a' := ?_) #[true, true, true, true, true, true, true, true, true, true] rfl rfl (any_of HT_.out (by kernel_rfl)) (fun _ _ _ h => h) (Or.inl ⟨by rfl, ?_⟩) ?_ ?_
          rotate_left
          · intro w'
            go_simp
            with_reducible rfl
          rotate_left
          · simp only [Act.put, List.setIfInBounds_toArray, List.set_cons_zero, List.set_cons_succ, i64_w, i32_w]
            rfl
          refine done_ (done_of HT_.out (by kernel_rfl)) ?_
          try go_wp2
          go_roundw
          case rel => exact ⟨k + min k (n - k), by omega, by omega, by rw [show wrap64 ((k : Int) + ((min k (n - k) : Nat) : Int)) = ((k + min k (n - k) : Nat) : Int) by unfold wrap64; omega], HR4, HB4⟩
          case measure => rw [show wrap64 ((k : Int) + ((min k (n - k) : Nat) : Int)) = ((k + min k (n - k) : Nat) : Int) by unfold wrap64; omega]; have := hkp (by omega); simp only [intOf, Int.toNat_natCast]; omega
      · obtain rfl : k = n := by omega
        go_wp2_with fail
        go_ret
        exact ⟨_, rfl, HRW.out.R HLO.out, HB.out⟩
  · rw [if_neg hh] at h
    cases h
end Go.Proofs.Ytjlohdbkjoofcaa.P
end
