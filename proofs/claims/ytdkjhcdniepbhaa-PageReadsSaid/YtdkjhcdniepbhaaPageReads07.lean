/- Part 7 of the proof: PageReads: for every config, disk and pair the program's marks of the pair, or its error, are the document's, the disk stays, and what is answered is new memory; no condition. -/
import Derived.Laws.CopyOwn
import Derived.Laws.BitsAllLaws
import Derived.Test.YtdkjhcdniepbhaaPageReads06
section
set_option linter.unusedVariables false
set_option linter.unusedSimpArgs false
namespace Go.Proofs.Ytdkjhcdniepbhaa.P
open Go.RowKit Go.Proofs.PrintWords Go.Proofs.PrintLast Go.Proofs.PrintMore
attribute [local go_sem] max2_int min2_int max_two min_two max_three min_three max_four min_four
def hRepeat.f (l0 : List Int) (a1 : Int) : Option (List Int) := if l0.length = 1 ∧ 0 ≤ a1 ∧ a1 ≤ 100000 then some (List.replicate a1.toNat (rd l0 0)) else none
theorem mul_one_n (n : Nat) (hn : n ≤ 100000) : bits_Mul.f 1 (n : Int) = some (0, (n : Int)) := by
  unfold bits_Mul.f bits_Mul64.f
  have e1 : Go.bits .and .u64 (1 : Int) 4294967295 = 1 := by rw [u64_and _ _ (by decide) (by decide) (by decide) (by decide)]; rfl
  have e0 : Go.bits .and .u64 (0 : Int) 4294967295 = 0 := by rw [u64_and _ _ (by decide) (by decide) (by decide) (by decide)]; rfl
  have en : Go.bits .and .u64 (n : Int) 4294967295 = n := by
    rw [u64_and _ _ (by omega) (by omega) (by decide) (by decide)]
    show ((n &&& 4294967295 : Nat) : Int) = n
    rw [show 4294967295 = 2 ^ 32 - 1 by decide, Nat.and_two_pow_sub_one_eq_mod]
    omega
  have d1 : (1 : Int) / 4294967296 = 0 := by decide
  have dn : (n : Int) / 4294967296 = 0 := by omega
  have w0 : IntKind.u64.wrap 0 = 0 := by decide
  have wn : IntKind.u64.wrap (n : Int) = n := by simp [IntKind.wrap, IntKind.bits, IntKind.signed]; omega
  have z0 : (0 : Int) / 4294967296 = 0 := by decide
  simp only [e1, en, d1, dn, Int.zero_mul, Int.mul_zero, w0, Int.one_mul, wn, z0, Int.add_zero, e0, Option.bind_some]
def RepRow (w : World) (g n cap k : Nat) (x : Int) : Prop := n ≤ cap ∧ cap ≤ maxLen ∧ ∃ cur : List Value, w.heap[g]? = some (.cells cur.toArray 5 (0, 0)) ∧ cur.length = cap ∧ ∀ i, i < k → cur[i]? = some (.int .u8 x)
theorem RepRow.R {w : World} {g n cap lo : Nat} {x : Int} (h : RepRow w g n cap n x) (hl : lo ≤ g) : Kd.R (Kd.int .u8) 5 w lo (fun _ => True) (.slice (some ⟨g, 0, none⟩) n cap) (List.replicate n x) := by
  obtain ⟨h1, h2, cur, hb, hz, hc⟩ := h
  refine Kd.R_of_own ⟨?_, .inr ⟨g, cap, cur.toArray, ?_, hl, hb, by rw [List.length_replicate]; exact h1, h2, by simpa using hz, ?_⟩⟩ (fun _ _ => trivial)
  · simp [encs]
  · rw [List.length_replicate]
  · refine List.ext_getElem? fun i => ?_
    simp only [List.length_replicate, Nat.mul_one, encs, List.map_replicate]
    rw [List.getElem?_take]
    by_cases hi : i < n
    · rw [if_pos hi, hc i hi, List.getElem?_replicate, if_pos hi]
    · rw [if_neg hi, List.getElem?_eq_none (by simpa using hi)]
theorem RepRow.of_R {w : World} {lo n k b : Nat} {x : Int} {v : Value} {xs : List Int} {ok : Nat → Prop} (h : Kd.R (Kd.int .u8) 5 w lo ok v xs) (hv : v.ownBlock = some b) (hl : xs.length = n) (hk : ∀ i, i < k → xs[i]? = some x) : ∃ cap, v = .slice (some ⟨b, 0, none⟩) n cap ∧ RepRow w b n cap k x ∧ lo ≤ b := by
  have ho := Kd.own_of_R (enc := Value.int .u8) (h1 := fun _ => rfl) h
  rcases ho.2 with ⟨e, _⟩ | ⟨g, cap, cur, e, hb, hh, h1, h2, h3, h4⟩
  · rw [e] at hv
    simp [Value.ownBlock] at hv
  · obtain rfl : g = b := by rw [e] at hv; simpa [Value.ownBlock] using hv
    subst hl
    refine ⟨cap, e, ⟨h1, h2, cur.toList, hh, by simpa using h3, fun i hi => ?_⟩, hb⟩
    have hx := hk i hi
    have hil := (List.getElem?_eq_some_iff.1 hx).1
    have e2 : (cur.toList.take (xs.length * 1))[i]? = (encs (Value.int .u8) xs)[i]? := by rw [h4]
    rw [List.getElem?_take, if_pos (by omega)] at e2
    rw [e2]
    simp [encs, hx]
theorem RepRow.splice {w' : World} {g n cap k : Nat} {x : Int} {cur : List Value} (h1 : n ≤ cap) (h2 : cap ≤ maxLen) (hz : cur.length = cap) (hc : ∀ i, i < k → cur[i]? = some (.int .u8 x)) (hk : k < n) (hb : w'.heap[g]? = some (.cells (splice cur k (List.replicate (min k (n - k)) (.int .u8 x))).toArray 5 (0, 0))) : RepRow w' g n cap (k + min k (n - k)) x := by
  refine ⟨h1, h2, _, hb, ?_, fun i hi => ?_⟩
  · rw [length_splice _ _ _ (by rw [List.length_replicate]; omega)]
    exact hz
  · unfold Go.splice
    by_cases hik : i < k
    · rw [List.getElem?_append_left (by rw [List.length_take]; omega), List.getElem?_take, if_pos hik]
      exact hc i hik
    · rw [List.getElem?_append_right (by rw [List.length_take]; omega), List.length_take, List.getElem?_append_left (by rw [List.length_replicate]; omega), List.getElem?_replicate, if_pos (by omega)]
def hRepeat.T9 : Bool × List (List Nat × List Nat) := (true, [([], []), ([], []), ([], []), ([1, 2], [1, 2]), ([], []), ([], []), ([4, 5], [4, 5]), ([3, 6], [3, 6]), ([0, 7], [0, 7]), ([8, 7, 0, 1, 2, 3, 4, 5, 6, 7, 8], [0, 2, 5, 8])])
def hRepeat.B9 : List Nat := [0, 0, 0, 6, 0, 0, 48, 126, 255, 511]
theorem hRepeat.tab9 : rtab .any (opsOf Try.f92 9) = hRepeat.T9 := by kernel_rfl
theorem hRepeat.bits9 : waitsOk hRepeat.T9.2 hRepeat.B9 = true := by kernel_rfl
set_option maxHeartbeats 4000000 in
set_option maxRecDepth 100000 in
theorem hRepeat.calls (A0 : Option Addr) (c0 : Nat) (l0 : List Int) (a1 : Int) (r : List Int) (w : World) (hr0 : Kd.C (Kd.int .u8) w A0 l0.length l0) (hc0 : l0.length ≤ c0) (h : hRepeat.f l0 a1 = some r) :
    Calls Try.prog 92 #[.slice A0 l0.length c0, .int .i64 a1] w fun e w' => ∃ v0_ : Value, e = .returned v0_ ∧ Kd.R (Kd.int .u8) 5 w' w.heap.size (fun _ => True) v0_ r ∧ Below w.heap.size w w' := by
  unfold hRepeat.f at h
  by_cases hh : l0.length = 1 ∧ 0 ≤ a1 ∧ a1 ≤ 100000
  · rw [if_pos hh] at h
    obtain ⟨h1, h2, h3⟩ := hh
    injection h with h
    subst h
    obtain ⟨n, rfl⟩ := Int.eq_ofNat_of_zero_le h2
    obtain ⟨x, rfl⟩ : ∃ x, l0 = [x] := by
      match l0, h1 with
      | [x], _ => exact ⟨x, rfl⟩
    show Calls _ _ _ _ fun e w' => ∃ v0_ : Value, e = .returned v0_ ∧ Kd.R (Kd.int .u8) 5 w' w.heap.size (fun _ => True) v0_ (List.replicate n x) ∧ Below w.heap.size w w'
    have HR := Aside0.mk hr0
    have hn : n ≤ 100000 := by omega
    have HM := Aside0.mk (mul_one_n n hn)
    have hw1 : IntKind.u64.wrap (n : Int) = n := by simp [IntKind.wrap, IntKind.bits, IntKind.signed]; omega
    have hw2 : IntKind.u64.wrap (1 : Int) = 1 := by decide
    have hw3 : wrap64 (n : Int) = n := by unfold wrap64; omega
    have hn0 : ¬ ((n : Int) < 0) := by omega
    clear hr0 h1 h2 h3
    go_enter Try.func92, Try.ntmps92
    go_upto_block 0 with (first
      | (go_at_call 125; refine (bits_Mul.calls 1 (n : Int) 0 (n : Int) _ HM.out).mono ?_; rintro e w' ⟨rfl, hq⟩; have HB1 := Aside0.mk (Drawn0.below hq); clear hq)
      | ((with_reducible refine gate_dst (N := 30) rfl ?_); refine Kd.R_make (Kd.int .u8) (w0 := w) w.heap.size 5 rfl (N := 30) rfl 31 _ _ rfl n rfl rfl Try.underlying31 (.int .u8 0) 1 info5 rfl (by decide) (by omega) 0 (ok := fun _ => True) (okp := fun _ => True) rfl (fun _ hk => hk) trivial (by omega) (by omega) HB1.out (below_size HB1.out) ?_; intro v2 w2 ho2 hb2 hg2 hnew2; obtain ⟨b2, hv2, hl2⟩ := hnew2; have HO2 := Aside0.mk ho2; have HB2 := Aside0.mk hb2; have HV2 := Aside0.mk hv2; clear ho2 hb2 hg2 hv2 hl2)
      | ((with_reducible refine gate_dst (N := 33) rfl ?_); refine Kd.R_copy (enc := Value.int .u8) (h1 := fun _ => rfl) (0 : Int) (w0 := w) w.heap.size rfl (.tmp 31) (.tmp 32) 31 31 5 rfl Try.underlying31 (by kernel_rfl) v2 (List.replicate n 0) [x] A0 1 c0 (fun _ => True) rfl rfl HO2.out (Kd.C_below HR.out HB2.out) HB2.out (below_size HB2.out) ?_; intro w3 ho3 hb3 hg3; have HO3 := Aside0.mk ho3; have HB3 := Aside0.mk hb3; clear ho3 hb3 hg3))
    obtain ⟨cap, e2, hrow, hlo⟩ := RepRow.of_R (k := min 1 n) HO3.out HV2.out (n := n) (by rw [List.length_append, List.length_take, List.length_drop, List.length_replicate, List.length_singleton]; omega) (x := x) (fun i hi => by
      have : i = 0 := by omega
      subst this
      rw [show min 1 (List.replicate n (0 : Int)).length = 1 by rw [List.length_replicate]; omega]
      rfl)
    subst e2
    have HRW := Aside0.mk hrow
    have HLO := Aside0.mk hlo
    have hcap := hrow.1
    have hmax := hrow.2.1
    clear hrow hlo HO3 HO2 HV2
    obtain ⟨k0, hk0⟩ : ∃ k0, min 1 n = k0 := ⟨_, rfl⟩
    have hk1 : k0 ≤ n := by omega
    have hk2 : 0 < n → 0 < k0 := by omega
    rw [hk0] at HRW ⊢
    clear hk0
    go_wp2_with fail
    go_loopw [8] (fun i wr => ∃ k : Nat, k ≤ n ∧ (0 < n → 0 < k) ∧ i = .int .i64 k ∧ Aside0 (RepRow wr b2 n cap k x) ∧ Aside0 (Below w.heap.size w wr)) (fun i _ => n - (intOf i).toNat)
    case atStart => exact ⟨k0, hk1, hk2, rfl, HRW, HB3⟩
    case round =>
      clear HRW HB3 hk1 hk2
      obtain ⟨k, hk, hkp, rfl, HRW, HB⟩ := hrel
      by_cases hlt : k < n
      · have hne : ¬ cap = k := by omega
        have hne2 : ¬ (cap : Int) = k := by omega
        have hk0' : 0 ≤ (k : Int) := by omega
        have hkc : k ≤ cap := by omega
        have hkc2 : (k : Int) ≤ cap := by omega
        go_wp2_with fail
        refine start_ (n := 10) (S := fun _ => True) (ds := []) #[false, false, false, false, false, false, false, false, false, false] (by kernel_rfl) rfl rfl trivial (fun hHeld => ?_); refine wtW hRepeat.tab9 hRepeat.bits9 (fun HT_ HW_ => ?_)
        refine pure_ (i := 0) (N := some 38) (v := ?_) (a' := ?_) #[true, false, false, false, false, false, false, false, false, false] rfl rfl (any_of HT_.out (by kernel_rfl)) (fun _ _ _ h => h) (Or.inl ⟨by rfl, ?_⟩) ?_ ?_
        rotate_left
        · intro w'
          go_simp
          with_reducible rfl
        rotate_left
        · simp only [Act.put, List.setIfInBounds_toArray, List.set_cons_zero, List.set_cons_succ, i64_w, i32_w]
          rfl
        refine pure_ (i := 1) (N := some 39) (v := ?_) (a' := ?_) #[true, true, false, false, false, false, false, false, false, false] rfl rfl (any_of HT_.out (by kernel_rfl)) (fun _ _ _ h => h) (Or.inl ⟨by rfl, ?_⟩) ?_ ?_
        rotate_left
        · intro w'
          go_simp
          with_reducible rfl
        rotate_left
        · simp only [Act.put, List.setIfInBounds_toArray, List.set_cons_zero, List.set_cons_succ, i64_w, i32_w]
          rfl
        refine pure_ (i := 2) (N := some 40) (v := ?_) (a' := ?_) #[true, true, true, false, false, false, false, false, false, false] rfl rfl (any_of HT_.out (by kernel_rfl)) (fun _ _ _ h => h) (Or.inl ⟨by rfl, ?_⟩) ?_ ?_
        rotate_left
        · intro w'
          go_simp
          with_reducible rfl
        rotate_left
        · simp only [Act.put, List.setIfInBounds_toArray, List.set_cons_zero, List.set_cons_succ, i64_w, i32_w]
          rfl
        refine pure_ (i := 3) (N := some 41) (v := ?_) (a' := ?_) #[true, true, true, true, false, false, false, false, false, false] rfl rfl (any_of HT_.out (by kernel_rfl)) (fun _ _ _ h => h) (Or.inl ⟨by rfl, ?_⟩) ?_ ?_
        rotate_left
        · intro w'
          go_simp
          with_reducible rfl
        rotate_left
        · simp only [Act.put, List.setIfInBounds_toArray, List.set_cons_zero, List.set_cons_succ, i64_w, i32_w]
          rfl
        refine pure_ (i := 4) (N := some 42) (v := ?_) (a' := ?_) #[true, true, true, true, true, false, false, false, false, false] rfl rfl (any_of HT_.out (by kernel_rfl)) (fun _ _ _ h => h) (Or.inl ⟨by rfl, ?_⟩) ?_ ?_
        rotate_left
        · intro w'
          go_simp
          with_reducible rfl
        rotate_left
        · simp only [Act.put, List.setIfInBounds_toArray, List.set_cons_zero, List.set_cons_succ, i64_w, i32_w]
          rfl
        refine pure_ (i := 5) (N := some 43) (v := ?_) (a' := ?_) #[true, true, true, true, true, true, false, false, false, false] rfl rfl (any_of HT_.out (by kernel_rfl)) (fun _ _ _ h => h) (Or.inl ⟨by rfl, ?_⟩) ?_ ?_
        rotate_left
        · intro w'
          go_simp
          with_reducible rfl
        rotate_left
        · simp only [Act.put, List.setIfInBounds_toArray, List.set_cons_zero, List.set_cons_succ, i64_w, i32_w]
          rfl
        refine pure_ (i := 6) (N := some 44) (v := ?_) (a' := ?_) #[true, true, true, true, true, true, true, false, false, false] rfl rfl (any_of HT_.out (by kernel_rfl)) (fun _ _ _ h => h) (Or.inl ⟨by rfl, ?_⟩) ?_ ?_
        rotate_left
        · intro w'
          go_simp
          with_reducible rfl
        rotate_left
        · simp only [Act.put, List.setIfInBounds_toArray, List.set_cons_zero, List.set_cons_succ, i64_w, i32_w]
          rfl
        refine one_ (i := 7) (N := some 45) #[true, true, true, true, true, true, true, true, false, false] rfl rfl (one_of HT_.out (by kernel_rfl)) (by decide) (fun K hK => ?_)
        obtain ⟨_, _, cur, hcur, hcz, hcc⟩ := HRW.out
        refine step_copy_splice (by rfl) (.tmp 41) (.tmp 44) 31 31 rfl 5 Try.underlying31 (by kernel_rfl) (some ⟨b2, k, none⟩) (some ⟨b2, 0, none⟩) (n - k) (cap - k) k cap (by rfl) (by rfl) b2 k cur 5 (blk_drew hcur) (List.replicate (min k (n - k)) (.int .u8 x)) (by rw [List.length_replicate]) (fun _ => ⟨rfl, ⟨b2, 0, none⟩, rfl, fun j v hj => ?_⟩) (by rw [List.length_replicate]; omega) (fun v hv => by rw [List.eq_of_mem_replicate hv]; rfl) w.heap.size w (bdr1 HB.out) HLO.out ?_
        · rw [List.getElem?_replicate] at hj
          by_cases hjm : j < min k (n - k)
          · rw [if_pos hjm] at hj
            injection hj with hj
            subst hj
            rw [add_plain, blk_cell (blk_drew hcur)]
            simpa using hcc j (by omega)
          · rw [if_neg hjm] at hj
            cases hj
        · intro w4 hh4 hb4
          have HB4 := Aside0.mk hb4
          have HR4 := Aside0.mk (RepRow.splice hcap hmax hcz hcc hlt hh4)
          clear hh4 hb4 hcur hcz hcc
          rw [List.length_replicate]
          refine hK.out _ _ trivial (fun hHeld => ?_)
          clear hK K
          refine norm_ (a' := ?_) ?_ ?_
          rotate_left
          · show Act.put _ (some 45) _ = _
            simp only [Act.put, List.setIfInBounds_toArray, List.set_cons_zero, List.set_cons_succ, i64_w, i32_w]
            rfl
          refine pure_ (i := 8) (N := some 46) (v := ?_) (a' := ?_) #[true, true, true, true, true, true, true, true, true, false] rfl rfl (any_of HT_.out (by kernel_rfl)) (fun _ _ _ h => h) (Or.inl ⟨by rfl, ?_⟩) ?_ ?_
          rotate_left
          · intro w'
            go_simp
            with_reducible rfl
          rotate_left
          · simp only [Act.put, List.setIfInBounds_toArray, List.set_cons_zero, List.set_cons_succ, i64_w, i32_w]
            rfl
          refine pure_ (i := 9) (N := some 8) (v := ?_) (a' := ?_) #[true, true, true, true, true, true, true, true, true, true] rfl rfl (any_of HT_.out (by kernel_rfl)) (fun _ _ _ h => h) (Or.inl ⟨by rfl, ?_⟩) ?_ ?_
          rotate_left
          · intro w'
            go_simp
            with_reducible rfl
          rotate_left
          · simp only [Act.put, List.setIfInBounds_toArray, List.set_cons_zero, List.set_cons_succ, i64_w, i32_w]
            rfl
          refine done_ (done_of HT_.out (by kernel_rfl)) ?_
          try go_wp2
          go_roundw
          case rel => exact ⟨k + min k (n - k), by omega, by omega, by rw [show wrap64 ((k : Int) + ((min k (n - k) : Nat) : Int)) = ((k + min k (n - k) : Nat) : Int) by unfold wrap64; omega], HR4, HB4⟩
          case measure => rw [show wrap64 ((k : Int) + ((min k (n - k) : Nat) : Int)) = ((k + min k (n - k) : Nat) : Int) by unfold wrap64; omega]; have := hkp (by omega); simp only [intOf, Int.toNat_natCast]; omega
      · obtain rfl : k = n := by omega
        go_wp2_with fail
        go_ret
        exact ⟨_, rfl, HRW.out.R HLO.out, HB.out⟩
  · rw [if_neg hh] at h
    cases h
end Go.Proofs.Ytdkjhcdniepbhaa.P
end
section
set_option linter.unusedVariables false
set_option linter.unusedSimpArgs false
namespace Go.Proofs.Ytdkjhcdniepbhaa.P
open Go.RowKit Go.Proofs.PrintWords Go.Proofs.PrintLast Go.Proofs.PrintMore
attribute [local go_sem] max2_int min2_int max_two min_two max_three min_three max_four min_four
def bits_All.f (a0 : Int) : Option (List Int × Int) := (bits_size.f a0).bind fun t1000 => (if t1000 = true then ((hRepeat.f (([255] : List Int)) (wrap64 (Int.tdiv (wrap64 ((wrap64 (a0 + 8)) - 1)) 8))).bind fun t1001 => (if (Int.tmod a0 8) > 0 then (if 0 ≤ (Int.tmod a0 8) then (if 0 ≤ (wrap64 ((t1001.length : Int) - 1)) then (if (wrap64 ((t1001.length : Int) - 1)) < (t1001.length : Int) then (some ((t1001.set ((wrap64 ((t1001.length : Int) - 1)) : Int).toNat (((shl .u8 1 (Int.tmod a0 8)) - 1) % 256)), 0)) else (none)) else (none)) else (none)) else (some (t1001, 0)))) else (some (([] : List Int), 2)))
set_option maxHeartbeats 8000000 in
set_option maxRecDepth 100000 in
theorem bits_All.calls (a0 : Int) (r1 : List Int) (r2 : Int) (w : World) (h : bits_All.f a0 = some (r1, r2)) :
    Calls Try.prog 134 #[.int .i64 a0] w fun e w' => ∃ v0_ : Value, e = .returned (.tuple #[v0_, .int .i64 r2]) ∧ Kd.R (Kd.int .u8) 5 w' w.heap.size (fun _ => True) v0_ r1 ∧ Below w.heap.size w w' := by
  have HB := Aside0.mk (Below.refl w.heap.size w)
  have H : ((bits_size.f a0).bind fun t1000 => (if t1000 = true then ((hRepeat.f (([255] : List Int)) (wrap64 (Int.tdiv (wrap64 ((wrap64 (a0 + 8)) - 1)) 8))).bind fun t1001 => (if (Int.tmod a0 8) > 0 then (if 0 ≤ (Int.tmod a0 8) then (if 0 ≤ (wrap64 ((t1001.length : Int) - 1)) then (if (wrap64 ((t1001.length : Int) - 1)) < (t1001.length : Int) then (some ((t1001.set ((wrap64 ((t1001.length : Int) - 1)) : Int).toNat (((shl .u8 1 (Int.tmod a0 8)) - 1) % 256)), 0)) else (none)) else (none)) else (none)) else (some (t1001, 0)))) else (some (([] : List Int), 2)))) = some (r1, r2) := h
  clear h
  replace H := Option.bind_eq_some_iff.mp H
  obtain ⟨t1000, A20, H⟩ := H
  replace H : (if t1000 = true then ((hRepeat.f (([255] : List Int)) (wrap64 (Int.tdiv (wrap64 ((wrap64 (a0 + 8)) - 1)) 8))).bind fun t1001 => (if (Int.tmod a0 8) > 0 then (if 0 ≤ (Int.tmod a0 8) then (if 0 ≤ (wrap64 ((t1001.length : Int) - 1)) then (if (wrap64 ((t1001.length : Int) - 1)) < (t1001.length : Int) then (some ((t1001.set ((wrap64 ((t1001.length : Int) - 1)) : Int).toNat (((shl .u8 1 (Int.tmod a0 8)) - 1) % 256)), 0)) else (none)) else (none)) else (none)) else (some (t1001, 0)))) else (some (([] : List Int), 2))) = some (r1, r2) := H
  have A2 := Aside0.mk A20
  clear A20
  by_cases c3 : t1000 = true
  · subst c3
    have H1 : ((hRepeat.f (([255] : List Int)) (wrap64 (Int.tdiv (wrap64 ((wrap64 (a0 + 8)) - 1)) 8))).bind fun t1001 => (if (Int.tmod a0 8) > 0 then (if 0 ≤ (Int.tmod a0 8) then (if 0 ≤ (wrap64 ((t1001.length : Int) - 1)) then (if (wrap64 ((t1001.length : Int) - 1)) < (t1001.length : Int) then (some ((t1001.set ((wrap64 ((t1001.length : Int) - 1)) : Int).toNat (((shl .u8 1 (Int.tmod a0 8)) - 1) % 256)), 0)) else (none)) else (none)) else (none)) else (some (t1001, 0)))) = some (r1, r2) := by rw [if_pos rfl] at H; exact H
    clear H
    have H := H1
    clear H1
    obtain ⟨y1002, hy1002⟩ : ∃ y_ : List Int, y_ = (([255] : List Int)) := ⟨_, rfl⟩
    replace H : ((hRepeat.f y1002 (wrap64 (Int.tdiv (wrap64 ((wrap64 (a0 + 8)) - 1)) 8))).bind fun t1001 => (if (Int.tmod a0 8) > 0 then (if 0 ≤ (Int.tmod a0 8) then (if 0 ≤ (wrap64 ((t1001.length : Int) - 1)) then (if (wrap64 ((t1001.length : Int) - 1)) < (t1001.length : Int) then (some ((t1001.set ((wrap64 ((t1001.length : Int) - 1)) : Int).toNat (((shl .u8 1 (Int.tmod a0 8)) - 1) % 256)), 0)) else (none)) else (none)) else (none)) else (some (t1001, 0)))) = some (r1, r2) := by first | (rw [hy1002]; with_reducible exact H) | (have H2_ := (Option.bind_some _ _).symm.trans H; rw [hy1002]; with_reducible exact H2_) | (have H2_ := (Option.bind_some _ _).symm.trans H; with_reducible exact H2_) | with_reducible exact H | (rw [hy1002]; exact H) | exact H
    have Ny1002 := Aside0.mk hy1002
    clear hy1002
    replace H := Option.bind_eq_some_iff.mp H
    obtain ⟨t1001, A40, H⟩ := H
    replace H : (if (Int.tmod a0 8) > 0 then (if 0 ≤ (Int.tmod a0 8) then (if 0 ≤ (wrap64 ((t1001.length : Int) - 1)) then (if (wrap64 ((t1001.length : Int) - 1)) < (t1001.length : Int) then (some ((t1001.set ((wrap64 ((t1001.length : Int) - 1)) : Int).toNat (((shl .u8 1 (Int.tmod a0 8)) - 1) % 256)), 0)) else (none)) else (none)) else (none)) else (some (t1001, 0))) = some (r1, r2) := H
    have A4 := Aside0.mk A40
    clear A40
    by_cases c5 : (Int.tmod a0 8) > 0
    · rw [if_pos c5] at H
      have c5b0 : decide (0 < (Int.tmod a0 8)) = true := decide_eq_true c5
      clear c5
      obtain ⟨ji6, hji6⟩ : ∃ j_ : Int, (Int.tmod a0 8) = j_ := ⟨_, rfl⟩
      replace H : (if 0 ≤ (ji6) then (if 0 ≤ (wrap64 ((t1001.length : Int) - 1)) then (if (wrap64 ((t1001.length : Int) - 1)) < (t1001.length : Int) then (some ((t1001.set ((wrap64 ((t1001.length : Int) - 1)) : Int).toNat (((shl .u8 1 (ji6)) - 1) % 256)), 0)) else (none)) else (none)) else (none)) = some (r1, r2) := by first | (rw [hji6] at H; exact H) | (simp only [hji6] at H ⊢; exact H)
      (try rw [hji6] at c5b0)
      (try rw [hji6] at A2)
      (try rw [hji6] at A4)
      by_cases c7 : 0 ≤ (ji6)
      · rw [if_pos c7] at H
        have c7b0 := eq_true c7
        have c7b1 : decide (0 ≤ (ji6)) = true := decide_eq_true c7
        clear c7
        obtain ⟨ji8, hji8⟩ : ∃ j_ : Int, (shl .u8 1 (ji6)) = j_ := ⟨_, rfl⟩
        replace H : (if 0 ≤ (wrap64 ((t1001.length : Int) - 1)) then (if (wrap64 ((t1001.length : Int) - 1)) < (t1001.length : Int) then (some ((t1001.set ((wrap64 ((t1001.length : Int) - 1)) : Int).toNat (((ji8) - 1) % 256)), 0)) else (none)) else (none)) = some (r1, r2) := by first | (rw [hji8] at H; exact H) | (simp only [hji8] at H ⊢; exact H)
        (try rw [hji8] at A2)
        (try rw [hji8] at A4)
        have hji8_ : (IntKind.u8.wrap (1 * 2 ^ min (ji6).toNat 8)) = ji8 := hji8
        have hji8z : (ji6) ≤ 8 → (IntKind.u8.wrap (1 * 2 ^ (ji6).toNat)) = ji8 := shl_small hji8
        have hji8u : (IntKind.u8.wrap (2 ^ min (ji6).toNat 8)) = ji8 := by have h_ := hji8_; rw [Int.one_mul] at h_; exact h_
        have hji8v : (ji6) ≤ 8 → (IntKind.u8.wrap (2 ^ (ji6).toNat)) = ji8 := fun hle_ => by have h_ := hji8z hle_; rw [Int.one_mul] at h_; exact h_
        obtain ⟨ji9, hji9⟩ : ∃ j_ : Int, (wrap64 ((t1001.length : Int) - 1)) = j_ := ⟨_, rfl⟩
        replace H : (if 0 ≤ (ji9) then (if (ji9) < (t1001.length : Int) then (some ((t1001.set ((ji9) : Int).toNat (((ji8) - 1) % 256)), 0)) else (none)) else (none)) = some (r1, r2) := by first | (rw [hji9] at H; exact H) | (simp only [hji9] at H ⊢; exact H)
        (try rw [hji9] at A2)
        (try rw [hji9] at A4)
        have hji9w : (IntKind.i64.wrap ((t1001.length : Int) - 1)) = ji9 := (i64_w _).trans hji9
        by_cases c10 : 0 ≤ (ji9)
        · rw [if_pos c10] at H
          have c10b0 : decide (0 ≤ (ji9)) = true := decide_eq_true c10
          clear c10
          by_cases c11 : (ji9) < (t1001.length : Int)
          · rw [if_pos c11] at H
            have c11b0 : decide ((ji9) < (t1001.length : Int)) = true := decide_eq_true c11
            clear c11
            obtain ⟨y1003, hy1003⟩ : ∃ y_ : List Int, y_ = (t1001.set ((ji9) : Int).toNat (((ji8) - 1) % 256)) := ⟨_, rfl⟩
            replace H : (some (y1003, 0)) = some (r1, r2) := by first | (rw [hy1003]; with_reducible exact H) | (have H2_ := (Option.bind_some _ _).symm.trans H; rw [hy1003]; with_reducible exact H2_) | (have H2_ := (Option.bind_some _ _).symm.trans H; with_reducible exact H2_) | with_reducible exact H | (rw [hy1003]; exact H) | exact H
            have Ny1003 := Aside0.mk hy1003
            clear hy1003
            simp only [Option.some.injEq, Prod.mk.injEq] at H
            obtain ⟨rfl, rfl⟩ := H
            go_enter Try.func134, Try.ntmps134
            go_wp2_with (first | ((with_reducible refine gate_callee (f := 142) rfl ?_); refine goesL_ (some 7) rfl rfl Try.func142 (by kernel_rfl) rfl #[.int .i64 a0] rfl (by (try simp only [List.map_toArray, List.map_cons, List.map_nil]); first | done | rfl | (simp only [List.length_drop, List.length_take]; rfl)) ?_; (with_reducible refine (bits_size.calls a0 true _ A2.out).mono ?_); rintro e w' ⟨rfl, ⟨nd, rfl⟩⟩; refine ⟨_, rfl, ?_⟩) | ((with_reducible refine gate_dst (N := 9) rfl ?_); refine Kd.R_lit (Kd.int .u8) _ 5 ?hg (N := 9) ?hd (xs := ([255] : List Int)) (inner := [.int .u8 255]) (ok := fun _ => True) (okp := fun _ => True) ?hr ?hp (fun _ hk => hk) trivial (Below.refl _ _) (Nat.le_refl _) (by simp) ?_; (case hd => rfl); (case hg => rfl); (case hr => first | (go_simp; done) | (go_simp; rfl)); (case hp => exact (Reps.one (show Kd.M (Kd.int .u8) _ _ _ 255 [.int .u8 255] from rfl) (Reps.none _ _))); intro v1004 w13 ho14 hb hg_ hnew_; clear hg_ hnew_; (first | rw [← Ny1002.out] at ho14 | (simp only [Int.reduceToNat] at ho14; rw [← Ny1002.out] at ho14)); have n0_ := Aside0.mk (Kd.R_lower ho14 (below_size (by repeat (first | (with_reducible first | exact HB.out | apply below_alloc | apply pbdN | apply bdr1) | exact HB.out)))); have n1_ := Aside0.mk (below_step (by repeat (first | (with_reducible first | exact HB.out | apply below_alloc | apply pbdN | apply bdr1) | exact HB.out)) hb); clear HB; have HO1005 := n0_; have HB := n1_; clear n0_ n1_; clear hb ho14; obtain ⟨Ao15, co15, eo15⟩ := Kd.R_slice HO1005.out; subst eo15) | ((with_reducible refine gate_callee (f := 92) rfl ?_); refine goesL_ (some 14) rfl rfl Try.func92 (by kernel_rfl) rfl #[.slice Ao15 y1002.length co15, .int .i64 (wrap64 (Int.tdiv (wrap64 ((wrap64 (a0 + 8)) - 1)) 8))] rfl (by (try simp only [List.map_toArray, List.map_cons, List.map_nil]); first | done | rfl | (simp only [List.length_drop, List.length_take]; rfl)) ?_; (with_reducible refine (hRepeat.calls _ _ y1002 (wrap64 (Int.tdiv (wrap64 ((wrap64 (a0 + 8)) - 1)) 8)) t1001 _ ?side1 ?side2 A4.out).mono ?_); (case side1 => repeat (first | exact (Kd.R_reads' HO1005.out).2.2 | (with_reducible refine Kd.C_alloc ?_ _) | (with_reducible refine Kd.C_drewN ?_ _) | (with_reducible refine Kd.C_drew ?_))); (case side2 => exact (Kd.R_reads' HO1005.out).2.1); rintro e w16 ⟨v1006, rfl, ho0, hb⟩; refine ⟨_, rfl, ?_⟩; have n0_ := Aside0.mk (Kd.R_elder' (by (with_reducible repeat (first | apply Kd.R_alloc | apply Kd.R_drewN | apply Kd.R_drew)); exact HO1005.out) (Kd.R_base ho0) hb); have n1_ := Aside0.mk (Kd.R_lower (Kd.R_new' ho0 (Kd.R_lt (by (with_reducible repeat (first | apply Kd.R_alloc | apply Kd.R_drewN | apply Kd.R_drew)); exact HO1005.out))) (below_size (by repeat (first | (with_reducible first | exact HB.out | apply below_alloc | apply pbdN | apply bdr1) | exact HB.out)))); have n2_ := Aside0.mk (below_step (by repeat (first | (with_reducible first | exact HB.out | apply below_alloc | apply pbdN | apply bdr1) | exact HB.out)) hb); clear HO1005; clear HB; have HO1005 := n0_; have HO1007 := n1_; have HB := n2_; clear n0_ n1_ n2_; (try clear hb); (try clear hb2); (try clear hk); (try clear hi); (try clear ho0); obtain ⟨Ao17, co17, eo17⟩ := Kd.R_slice HO1007.out; subst eo17; have p12 : 0 ≤ ((ji9) : Int) := of_decide_eq_true (by first | (with_reducible assumption) | assumption); have q12 : ((ji9) : Int) < ((t1001.length : Int) : Int) := of_decide_eq_true (by first | (with_reducible assumption) | assumption); obtain ⟨go12, co12, eo12, gb12, gl12, cl12, HG12⟩ := Kd.R_form HO1007.out (by omega); (first | cases eo12 | (injection eo12 with ea_ en_ ec_; (first | subst ea_ | (injection ea_ with ea_; subst ea_)); subst ec_; clear en_)); have GB12 := Aside0.mk gb12; have GG12 := Aside0.mk HG12; clear gb12 gl12 HG12; obtain ⟨hx12_0, hf12_0⟩ := Kd.R_celln 0 HO1007.out ((ji9) : Int) p12 q12; replace p12 := eq_true p12; replace q12 := eq_true q12; have n_ := Aside0.mk (Kd.R_mono (ok' := (fun k_ => some k_ ≠ (.slice Ao15 y1002.length co15 : Value).ownBlock)) HO1007.out (fun k_ hk => hk.2)); clear HO1007; have HO1007 := n_; clear n_; obtain ⟨hy18_, hz18_⟩ := Kd.R_celln 0 HO1007.out ((ji9) : Int) (of_decide_eq_true (by first | (with_reducible assumption) | assumption)) (of_decide_eq_true (by first | (with_reducible assumption) | assumption)); have HP18 := Kd.R_putg HO1007.out ((ji9) : Int) (((ji8) - 1) % 256)) | ((with_reducible refine gate_store (t := 5) (p := 26) rfl ?_); refine store_event (t := 5) (p := 26) (v := ?vo_w19) (w1 := (w16.setCell ⟨go12, ((ji9) : Int).toNat, none⟩ (.int .u8 (((ji8) - 1) % 256)))) ?hg ?ho ?hn ?hr ?_; (case ho => rfl); (case hg => rfl); (case hn => rfl); (case hr => first | (go_simp; done) | (go_simp; rfl)); intro w19 hw; have hg : w16.grownBy w19 (some go12) := (by rw [hw]; exact HP18.2); have hp_ : Kd.R (Kd.int .u8) 5 w19 w.heap.size (fun k_ => some k_ ≠ (.slice Ao15 y1002.length co15 : Value).ownBlock) (.slice (some ⟨go12, 0, none⟩) t1001.length co17) y1003 := (by rw [hw, Ny1003.out]; exact HP18.1); clear HP18; have n0_ := Aside0.mk (Kd.R_after (v := (.slice (some ⟨go12, 0, none⟩) t1001.length co17)) (v1 := (.slice (some ⟨go12, 0, none⟩) t1001.length co17)) (ok := (fun _ => True)) (by (with_reducible repeat (first | apply Kd.R_alloc | apply Kd.R_drewN | apply Kd.R_drew)); exact HO1005.out) hg (.inl rfl)); have n1_ := Aside0.mk (hp_); have n2_ := Aside0.mk ((by rw [hw]; exact below_set (HB.out) GB12.out : Below w.heap.size w w19)); clear HO1005; clear HO1007; clear HB; have HO1005 := n0_; have HO1007 := n1_; have HB := n2_; clear n0_ n1_ n2_; clear hg hw hp_))
            go_ret2
            exact ⟨_, by first | rfl | (simp [errW_none, errW_some] <;> rfl) | (simp only [← hji6, ← hji8, ← hji9]; first | rfl | (simp [errW_none, errW_some] <;> rfl)) | (simp [*, errW_none, errW_some] <;> rfl), by (with_reducible repeat (first | apply Kd.R_alloc | apply Kd.R_drewN | apply Kd.R_drew)); exact Kd.R_mono HO1007.out (fun _ hk => trivial), by repeat (first | (with_reducible first | exact HB.out | apply below_alloc | apply pbdN | apply bdr1) | exact HB.out)⟩
          · rw [if_neg c11] at H
            exact absurd H (by simp)
        · rw [if_neg c10] at H
          exact absurd H (by simp)
      · rw [if_neg c7] at H
        exact absurd H (by simp)
    · rw [if_neg c5] at H
      have c5b0 : decide (0 < (Int.tmod a0 8)) = false := decide_eq_false c5
      clear c5
      simp only [Option.some.injEq, Prod.mk.injEq] at H
      obtain ⟨rfl, rfl⟩ := H
      go_enter Try.func134, Try.ntmps134
      go_wp2_with (first | ((with_reducible refine gate_callee (f := 142) rfl ?_); refine goesL_ (some 7) rfl rfl Try.func142 (by kernel_rfl) rfl #[.int .i64 a0] rfl (by (try simp only [List.map_toArray, List.map_cons, List.map_nil]); first | done | rfl | (simp only [List.length_drop, List.length_take]; rfl)) ?_; (with_reducible refine (bits_size.calls a0 true _ A2.out).mono ?_); rintro e w' ⟨rfl, ⟨nd, rfl⟩⟩; refine ⟨_, rfl, ?_⟩) | ((with_reducible refine gate_dst (N := 9) rfl ?_); refine Kd.R_lit (Kd.int .u8) _ 5 ?hg (N := 9) ?hd (xs := ([255] : List Int)) (inner := [.int .u8 255]) (ok := fun _ => True) (okp := fun _ => True) ?hr ?hp (fun _ hk => hk) trivial (Below.refl _ _) (Nat.le_refl _) (by simp) ?_; (case hd => rfl); (case hg => rfl); (case hr => first | (go_simp; done) | (go_simp; rfl)); (case hp => exact (Reps.one (show Kd.M (Kd.int .u8) _ _ _ 255 [.int .u8 255] from rfl) (Reps.none _ _))); intro v1004 w20 ho21 hb hg_ hnew_; clear hg_ hnew_; (first | rw [← Ny1002.out] at ho21 | (simp only [Int.reduceToNat] at ho21; rw [← Ny1002.out] at ho21)); have n0_ := Aside0.mk (Kd.R_lower ho21 (below_size (by repeat (first | (with_reducible first | exact HB.out | apply below_alloc | apply pbdN | apply bdr1) | exact HB.out)))); have n1_ := Aside0.mk (below_step (by repeat (first | (with_reducible first | exact HB.out | apply below_alloc | apply pbdN | apply bdr1) | exact HB.out)) hb); clear HB; have HO1005 := n0_; have HB := n1_; clear n0_ n1_; clear hb ho21; obtain ⟨Ao22, co22, eo22⟩ := Kd.R_slice HO1005.out; subst eo22) | ((with_reducible refine gate_callee (f := 92) rfl ?_); refine goesL_ (some 14) rfl rfl Try.func92 (by kernel_rfl) rfl #[.slice Ao22 y1002.length co22, .int .i64 (wrap64 (Int.tdiv (wrap64 ((wrap64 (a0 + 8)) - 1)) 8))] rfl (by (try simp only [List.map_toArray, List.map_cons, List.map_nil]); first | done | rfl | (simp only [List.length_drop, List.length_take]; rfl)) ?_; (with_reducible refine (hRepeat.calls _ _ y1002 (wrap64 (Int.tdiv (wrap64 ((wrap64 (a0 + 8)) - 1)) 8)) t1001 _ ?side1 ?side2 A4.out).mono ?_); (case side1 => repeat (first | exact (Kd.R_reads' HO1005.out).2.2 | (with_reducible refine Kd.C_alloc ?_ _) | (with_reducible refine Kd.C_drewN ?_ _) | (with_reducible refine Kd.C_drew ?_))); (case side2 => exact (Kd.R_reads' HO1005.out).2.1); rintro e w23 ⟨v1006, rfl, ho0, hb⟩; refine ⟨_, rfl, ?_⟩; have n0_ := Aside0.mk (Kd.R_elder' (by (with_reducible repeat (first | apply Kd.R_alloc | apply Kd.R_drewN | apply Kd.R_drew)); exact HO1005.out) (Kd.R_base ho0) hb); have n1_ := Aside0.mk (Kd.R_lower (Kd.R_new' ho0 (Kd.R_lt (by (with_reducible repeat (first | apply Kd.R_alloc | apply Kd.R_drewN | apply Kd.R_drew)); exact HO1005.out))) (below_size (by repeat (first | (with_reducible first | exact HB.out | apply below_alloc | apply pbdN | apply bdr1) | exact HB.out)))); have n2_ := Aside0.mk (below_step (by repeat (first | (with_reducible first | exact HB.out | apply below_alloc | apply pbdN | apply bdr1) | exact HB.out)) hb); clear HO1005; clear HB; have HO1005 := n0_; have HO1007 := n1_; have HB := n2_; clear n0_ n1_ n2_; (try clear hb); (try clear hb2); (try clear hk); (try clear hi); (try clear ho0)))
      go_ret2
      exact ⟨_, by first | rfl | (simp [errW_none, errW_some] <;> rfl) | (simp [*, errW_none, errW_some] <;> rfl), by (with_reducible repeat (first | apply Kd.R_alloc | apply Kd.R_drewN | apply Kd.R_drew)); exact Kd.R_mono HO1007.out (fun _ hk => trivial), by repeat (first | (with_reducible first | exact HB.out | apply below_alloc | apply pbdN | apply bdr1) | exact HB.out)⟩
  · replace c3 := Bool.eq_false_iff.mpr c3
    subst c3
    have H1 : (some (([] : List Int), 2)) = some (r1, r2) := by rw [if_neg (show ¬ (false = true) by decide)] at H; exact H
    clear H
    have H := H1
    clear H1
    simp only [Option.some.injEq, Prod.mk.injEq] at H
    obtain ⟨rfl, rfl⟩ := H
    go_enter Try.func134, Try.ntmps134
    go_wp2_with (first | ((with_reducible refine gate_callee (f := 142) rfl ?_); refine goesL_ (some 7) rfl rfl Try.func142 (by kernel_rfl) rfl #[.int .i64 a0] rfl (by (try simp only [List.map_toArray, List.map_cons, List.map_nil]); first | done | rfl | (simp only [List.length_drop, List.length_take]; rfl)) ?_; (with_reducible refine (bits_size.calls a0 false _ A2.out).mono ?_); rintro e w' ⟨rfl, ⟨nd, rfl⟩⟩; refine ⟨_, rfl, ?_⟩))
    go_ret2
    exact ⟨_, by first | rfl | (simp [errW_none, errW_some] <;> rfl) | (simp [*, errW_none, errW_some] <;> rfl), by first | exact Kd.R_nil _ _ _ _ _ | exact Kd.N_nil _ _ _ _ _ | exact Kd.V_nil _ _ _ _ _ | exact Kd.Q_nil _ _ _ _ _ | exact Kd.S_nil _ _ _ _ _, by repeat (first | (with_reducible first | exact HB.out | apply below_alloc | apply pbdN | apply bdr1) | exact HB.out)⟩
end Go.Proofs.Ytdkjhcdniepbhaa.P
end
section
set_option linter.unusedVariables false
set_option linter.unusedSimpArgs false
namespace Go.Proofs.Ytdkjhcdniepbhaa.P
open Go.RowKit Go.Proofs.PrintWords Go.Proofs.PrintLast Go.Proofs.PrintMore
attribute [local go_sem] max2_int min2_int max_two min_two max_three min_three max_four min_four
def page_at.f (a0_0 : Int) (a0_1 : Int) (a0_2 : Int) (a0_3 : Int) (a0_4 : Int) (a0_5 : Int) (a1 : Int) (a2 : Int) : Option (Int × Int × Int) := (place_Page.f a0_0 a0_1 a0_2 a0_3 a0_4 a0_5 a1 a2).bind fun bt1000 => (if bt1000.2 = 0 then ((bits_All.f a0_1).bind fun bt1001 => (if 0 ≤ a2 then (if a2 < (bt1001.1.length : Int) then (some (bt1000.1, rd bt1001.1 a2, 0)) else (none)) else (none))) else (some (0, 0, bt1000.2)))
set_option maxHeartbeats 8000000 in
set_option maxRecDepth 100000 in
theorem page_at.calls (a0_0 : Int) (a0_1 : Int) (a0_2 : Int) (a0_3 : Int) (a0_4 : Int) (a0_5 : Int) (a1 : Int) (a2 : Int) (r1 : Int) (r2 : Int) (r3 : Int) (w : World) (h : page_at.f a0_0 a0_1 a0_2 a0_3 a0_4 a0_5 a1 a2 = some (r1, r2, r3)) :
    Calls Try.prog 111 #[.agg #[.int .i64 a0_0, .int .i64 a0_1, .int .i64 a0_2, .int .i64 a0_3, .int .i64 a0_4, .int .i64 a0_5], .int .i64 a1, .int .i64 a2] w fun e w' => e = .returned (.tuple #[.int .i64 r1, .int .u8 r2, .int .i64 r3]) ∧ Below w.heap.size w w' := by
  have hu44 := Try.underlying44
  have HB := Aside0.mk (Below.refl w.heap.size w)
  have H : ((place_Page.f a0_0 a0_1 a0_2 a0_3 a0_4 a0_5 a1 a2).bind fun bt1000 => (if bt1000.2 = 0 then ((bits_All.f a0_1).bind fun bt1001 => (if 0 ≤ a2 then (if a2 < (bt1001.1.length : Int) then (some (bt1000.1, rd bt1001.1 a2, 0)) else (none)) else (none))) else (some (0, 0, bt1000.2)))) = some (r1, r2, r3) := h
  clear h
  replace H := Option.bind_eq_some_iff.mp H
  obtain ⟨⟨t1000, t1002⟩, A40, H⟩ := H
  replace H : (if t1002 = 0 then ((bits_All.f a0_1).bind fun bt1001 => (if 0 ≤ a2 then (if a2 < (bt1001.1.length : Int) then (some (t1000, rd bt1001.1 a2, 0)) else (none)) else (none))) else (some (0, 0, t1002))) = some (r1, r2, r3) := H
  have A4 := Aside0.mk A40
  clear A40
  by_cases c5 : t1002 = 0
  · rw [if_pos c5] at H
    have c5b0 : (t1002 == 0) = true := beq_iff_eq.mpr c5
    have c5b1 : (t1002 != 0) = false := bne_eq_false_iff_eq.mpr c5
    clear c5
    replace H := Option.bind_eq_some_iff.mp H
    obtain ⟨⟨t1001, t1003⟩, A60, H⟩ := H
    replace H : (if 0 ≤ a2 then (if a2 < (t1001.length : Int) then (some (t1000, rd t1001 a2, 0)) else (none)) else (none)) = some (r1, r2, r3) := H
    have A6 := Aside0.mk A60
    clear A60
    by_cases c7 : 0 ≤ a2
    · rw [if_pos c7] at H
      have c7b0 : decide (0 ≤ a2) = true := decide_eq_true c7
      clear c7
      by_cases c8 : a2 < (t1001.length : Int)
      · rw [if_pos c8] at H
        have c8b0 : decide (a2 < (t1001.length : Int)) = true := decide_eq_true c8
        clear c8
        simp only [Option.some.injEq, Prod.mk.injEq] at H
        obtain ⟨rfl, rfl, rfl⟩ := H
        go_enter Try.func111, Try.ntmps111
        go_wp2_with (first | ((with_reducible refine gate_dst (N := 3) rfl ?_); refine box_event ?hg (N := 3) ?hd (cs := #[.int .i64 a0_0, .int .i64 a0_1, .int .i64 a0_2, .int .i64 a0_3, .int .i64 a0_4, .int .i64 a0_5]) (t := 44) ?hr ?_; (case hd => rfl); (case hg => rfl); (case hr => first | (go_simp; done) | (go_simp; rfl)); intro gb1004 hg w9 hbox hb; have n0_ := Aside0.mk (below_step (by repeat (first | (with_reducible first | exact HB.out | apply below_alloc | apply pbdN | apply bdr1) | exact HB.out)) hb); have n1_ := Aside0.mk (hbox); have n2_ := Aside0.mk ((by rw [hg]; exact (below_size (by repeat (first | (with_reducible first | exact HB.out | apply below_alloc | apply pbdN | apply bdr1) | exact HB.out))) : w.heap.size ≤ gb1004)); have n3_ := Aside0.mk ((by rw [hg]; exact (below_size (by repeat (first | (with_reducible first | exact HB.out | apply below_alloc | apply pbdN | apply bdr1) | exact HB.out))) : w.heap.size ≤ gb1004)); clear HB; have HB := n0_; have BK1004 := n1_; have GW1004 := n2_; have GE1004 := n3_; clear n0_ n1_ n2_ n3_; clear hb hbox hg; have hcz10_0 : w9.cell? ⟨gb1004, 0, none⟩ = some (.int .i64 a0_0) := (blk_cell BK1004.out 0).trans rfl; have hcz10_1 : w9.cell? ⟨gb1004, 1, none⟩ = some (.int .i64 a0_1) := (blk_cell BK1004.out 1).trans rfl; have hcz10_2 : w9.cell? ⟨gb1004, 2, none⟩ = some (.int .i64 a0_2) := (blk_cell BK1004.out 2).trans rfl; have hcz10_3 : w9.cell? ⟨gb1004, 3, none⟩ = some (.int .i64 a0_3) := (blk_cell BK1004.out 3).trans rfl; have hcz10_4 : w9.cell? ⟨gb1004, 4, none⟩ = some (.int .i64 a0_4) := (blk_cell BK1004.out 4).trans rfl; have hcz10_5 : w9.cell? ⟨gb1004, 5, none⟩ = some (.int .i64 a0_5) := (blk_cell BK1004.out 5).trans rfl; have hfz10_0 := blk_frozen BK1004.out 0; have hfz10_1 := blk_frozen BK1004.out 1; have hfz10_2 := blk_frozen BK1004.out 2; have hfz10_3 := blk_frozen BK1004.out 3; have hfz10_4 := blk_frozen BK1004.out 4; have hfz10_5 := blk_frozen BK1004.out 5) | (go_at_call 133; (with_reducible refine (place_Page.calls a0_0 a0_1 a0_2 a0_3 a0_4 a0_5 a1 a2 t1000 t1002 _ A4.out).mono ?_); rintro e w11 ⟨rfl, hb⟩; have n0_ := Aside0.mk (blk_below (g := gb1004) (o := .cells #[.int .i64 a0_0, .int .i64 a0_1, .int .i64 a0_2, .int .i64 a0_3, .int .i64 a0_4, .int .i64 a0_5] 44 (0, 0)) (by (with_reducible repeat (first | refine blk_drewN ?_ _ | refine blk_drew ?_ | refine blk_alloc ?_ _)); exact BK1004.out) hb); have n1_ := Aside0.mk (below_step (by repeat (first | (with_reducible first | exact HB.out | apply below_alloc | apply pbdN | apply bdr1 | refine below_set ?_ GE1004.out) | exact HB.out)) hb); clear BK1004; clear HB; have BK1004 := n0_; have HB := n1_; clear n0_ n1_; (try clear hb); (try clear hb2); (try clear hk); (try clear hi); have hcz12_0 : w11.cell? ⟨gb1004, 0, none⟩ = some (.int .i64 a0_0) := (blk_cell BK1004.out 0).trans rfl; have hcz12_1 : w11.cell? ⟨gb1004, 1, none⟩ = some (.int .i64 a0_1) := (blk_cell BK1004.out 1).trans rfl; have hcz12_2 : w11.cell? ⟨gb1004, 2, none⟩ = some (.int .i64 a0_2) := (blk_cell BK1004.out 2).trans rfl; have hcz12_3 : w11.cell? ⟨gb1004, 3, none⟩ = some (.int .i64 a0_3) := (blk_cell BK1004.out 3).trans rfl; have hcz12_4 : w11.cell? ⟨gb1004, 4, none⟩ = some (.int .i64 a0_4) := (blk_cell BK1004.out 4).trans rfl; have hcz12_5 : w11.cell? ⟨gb1004, 5, none⟩ = some (.int .i64 a0_5) := (blk_cell BK1004.out 5).trans rfl; have hfz12_0 := blk_frozen BK1004.out 0; have hfz12_1 := blk_frozen BK1004.out 1; have hfz12_2 := blk_frozen BK1004.out 2; have hfz12_3 := blk_frozen BK1004.out 3; have hfz12_4 := blk_frozen BK1004.out 4; have hfz12_5 := blk_frozen BK1004.out 5) | (go_at_call 134; (with_reducible refine (bits_All.calls a0_1 t1001 t1003 _ A6.out).mono ?_); rintro e w13 ⟨v1005, rfl, ho0, hb⟩; have n0_ := Aside0.mk (Kd.R_lower ho0 (below_size (by repeat (first | (with_reducible first | exact HB.out | apply below_alloc | apply pbdN | apply bdr1 | refine below_set ?_ GE1004.out) | exact HB.out)))); have n1_ := Aside0.mk (blk_below (g := gb1004) (o := .cells #[.int .i64 a0_0, .int .i64 a0_1, .int .i64 a0_2, .int .i64 a0_3, .int .i64 a0_4, .int .i64 a0_5] 44 (0, 0)) (by (with_reducible repeat (first | refine blk_drewN ?_ _ | refine blk_drew ?_ | refine blk_alloc ?_ _)); exact BK1004.out) hb); have n2_ := Aside0.mk (below_step (by repeat (first | (with_reducible first | exact HB.out | apply below_alloc | apply pbdN | apply bdr1 | refine below_set ?_ GE1004.out) | exact HB.out)) hb); clear BK1004; clear HB; have HO1006 := n0_; have BK1004 := n1_; have HB := n2_; clear n0_ n1_ n2_; (try clear hb); (try clear hb2); (try clear hk); (try clear hi); (try clear ho0); obtain ⟨Ao14, co14, eo14⟩ := Kd.R_slice HO1006.out; subst eo14; have p1007 : 0 ≤ (a2 : Int) := of_decide_eq_true (by first | (with_reducible assumption) | assumption); have q1007 : a2 < (t1001.length : Int) := of_decide_eq_true (by first | (with_reducible assumption) | assumption); obtain ⟨ad1007, e1007, hx1007_0⟩ := Kd.at_int (Kd.R_reads' HO1006.out).2.2 a2 p1007 q1007; cases e1007; replace p1007 := eq_true p1007; replace q1007 := eq_true q1007))
        repeat (go_quiet (first | ((with_reducible refine gate_dst (N := 3) rfl ?_); refine box_event ?hg (N := 3) ?hd (cs := #[.int .i64 a0_0, .int .i64 a0_1, .int .i64 a0_2, .int .i64 a0_3, .int .i64 a0_4, .int .i64 a0_5]) (t := 44) ?hr ?_; (case hd => rfl); (case hg => rfl); (case hr => first | (go_simp; done) | (go_simp; rfl)); intro gb1004 hg w9 hbox hb; have n0_ := Aside0.mk (below_step (by repeat (first | (with_reducible first | exact HB.out | apply below_alloc | apply pbdN | apply bdr1) | exact HB.out)) hb); have n1_ := Aside0.mk (hbox); have n2_ := Aside0.mk ((by rw [hg]; exact (below_size (by repeat (first | (with_reducible first | exact HB.out | apply below_alloc | apply pbdN | apply bdr1) | exact HB.out))) : w.heap.size ≤ gb1004)); have n3_ := Aside0.mk ((by rw [hg]; exact (below_size (by repeat (first | (with_reducible first | exact HB.out | apply below_alloc | apply pbdN | apply bdr1) | exact HB.out))) : w.heap.size ≤ gb1004)); clear HB; have HB := n0_; have BK1004 := n1_; have GW1004 := n2_; have GE1004 := n3_; clear n0_ n1_ n2_ n3_; clear hb hbox hg; have hcz10_0 : w9.cell? ⟨gb1004, 0, none⟩ = some (.int .i64 a0_0) := (blk_cell BK1004.out 0).trans rfl; have hcz10_1 : w9.cell? ⟨gb1004, 1, none⟩ = some (.int .i64 a0_1) := (blk_cell BK1004.out 1).trans rfl; have hcz10_2 : w9.cell? ⟨gb1004, 2, none⟩ = some (.int .i64 a0_2) := (blk_cell BK1004.out 2).trans rfl; have hcz10_3 : w9.cell? ⟨gb1004, 3, none⟩ = some (.int .i64 a0_3) := (blk_cell BK1004.out 3).trans rfl; have hcz10_4 : w9.cell? ⟨gb1004, 4, none⟩ = some (.int .i64 a0_4) := (blk_cell BK1004.out 4).trans rfl; have hcz10_5 : w9.cell? ⟨gb1004, 5, none⟩ = some (.int .i64 a0_5) := (blk_cell BK1004.out 5).trans rfl; have hfz10_0 := blk_frozen BK1004.out 0; have hfz10_1 := blk_frozen BK1004.out 1; have hfz10_2 := blk_frozen BK1004.out 2; have hfz10_3 := blk_frozen BK1004.out 3; have hfz10_4 := blk_frozen BK1004.out 4; have hfz10_5 := blk_frozen BK1004.out 5) | (go_at_call 133; (with_reducible refine (place_Page.calls a0_0 a0_1 a0_2 a0_3 a0_4 a0_5 a1 a2 t1000 t1002 _ A4.out).mono ?_); rintro e w11 ⟨rfl, hb⟩; have n0_ := Aside0.mk (blk_below (g := gb1004) (o := .cells #[.int .i64 a0_0, .int .i64 a0_1, .int .i64 a0_2, .int .i64 a0_3, .int .i64 a0_4, .int .i64 a0_5] 44 (0, 0)) (by (with_reducible repeat (first | refine blk_drewN ?_ _ | refine blk_drew ?_ | refine blk_alloc ?_ _)); exact BK1004.out) hb); have n1_ := Aside0.mk (below_step (by repeat (first | (with_reducible first | exact HB.out | apply below_alloc | apply pbdN | apply bdr1 | refine below_set ?_ GE1004.out) | exact HB.out)) hb); clear BK1004; clear HB; have BK1004 := n0_; have HB := n1_; clear n0_ n1_; (try clear hb); (try clear hb2); (try clear hk); (try clear hi); have hcz12_0 : w11.cell? ⟨gb1004, 0, none⟩ = some (.int .i64 a0_0) := (blk_cell BK1004.out 0).trans rfl; have hcz12_1 : w11.cell? ⟨gb1004, 1, none⟩ = some (.int .i64 a0_1) := (blk_cell BK1004.out 1).trans rfl; have hcz12_2 : w11.cell? ⟨gb1004, 2, none⟩ = some (.int .i64 a0_2) := (blk_cell BK1004.out 2).trans rfl; have hcz12_3 : w11.cell? ⟨gb1004, 3, none⟩ = some (.int .i64 a0_3) := (blk_cell BK1004.out 3).trans rfl; have hcz12_4 : w11.cell? ⟨gb1004, 4, none⟩ = some (.int .i64 a0_4) := (blk_cell BK1004.out 4).trans rfl; have hcz12_5 : w11.cell? ⟨gb1004, 5, none⟩ = some (.int .i64 a0_5) := (blk_cell BK1004.out 5).trans rfl; have hfz12_0 := blk_frozen BK1004.out 0; have hfz12_1 := blk_frozen BK1004.out 1; have hfz12_2 := blk_frozen BK1004.out 2; have hfz12_3 := blk_frozen BK1004.out 3; have hfz12_4 := blk_frozen BK1004.out 4; have hfz12_5 := blk_frozen BK1004.out 5) | (go_at_call 134; (with_reducible refine (bits_All.calls a0_1 t1001 t1003 _ A6.out).mono ?_); rintro e w13 ⟨v1005, rfl, ho0, hb⟩; have n0_ := Aside0.mk (Kd.R_lower ho0 (below_size (by repeat (first | (with_reducible first | exact HB.out | apply below_alloc | apply pbdN | apply bdr1 | refine below_set ?_ GE1004.out) | exact HB.out)))); have n1_ := Aside0.mk (blk_below (g := gb1004) (o := .cells #[.int .i64 a0_0, .int .i64 a0_1, .int .i64 a0_2, .int .i64 a0_3, .int .i64 a0_4, .int .i64 a0_5] 44 (0, 0)) (by (with_reducible repeat (first | refine blk_drewN ?_ _ | refine blk_drew ?_ | refine blk_alloc ?_ _)); exact BK1004.out) hb); have n2_ := Aside0.mk (below_step (by repeat (first | (with_reducible first | exact HB.out | apply below_alloc | apply pbdN | apply bdr1 | refine below_set ?_ GE1004.out) | exact HB.out)) hb); clear BK1004; clear HB; have HO1006 := n0_; have BK1004 := n1_; have HB := n2_; clear n0_ n1_ n2_; (try clear hb); (try clear hb2); (try clear hk); (try clear hi); (try clear ho0); obtain ⟨Ao14, co14, eo14⟩ := Kd.R_slice HO1006.out; subst eo14; have p1007 : 0 ≤ (a2 : Int) := of_decide_eq_true (by first | (with_reducible assumption) | assumption); have q1007 : a2 < (t1001.length : Int) := of_decide_eq_true (by first | (with_reducible assumption) | assumption); obtain ⟨ad1007, e1007, hx1007_0⟩ := Kd.at_int (Kd.R_reads' HO1006.out).2.2 a2 p1007 q1007; cases e1007; replace p1007 := eq_true p1007; replace q1007 := eq_true q1007)); try go_wp2_with (first | ((with_reducible refine gate_dst (N := 3) rfl ?_); refine box_event ?hg (N := 3) ?hd (cs := #[.int .i64 a0_0, .int .i64 a0_1, .int .i64 a0_2, .int .i64 a0_3, .int .i64 a0_4, .int .i64 a0_5]) (t := 44) ?hr ?_; (case hd => rfl); (case hg => rfl); (case hr => first | (go_simp; done) | (go_simp; rfl)); intro gb1004 hg w9 hbox hb; have n0_ := Aside0.mk (below_step (by repeat (first | (with_reducible first | exact HB.out | apply below_alloc | apply pbdN | apply bdr1) | exact HB.out)) hb); have n1_ := Aside0.mk (hbox); have n2_ := Aside0.mk ((by rw [hg]; exact (below_size (by repeat (first | (with_reducible first | exact HB.out | apply below_alloc | apply pbdN | apply bdr1) | exact HB.out))) : w.heap.size ≤ gb1004)); have n3_ := Aside0.mk ((by rw [hg]; exact (below_size (by repeat (first | (with_reducible first | exact HB.out | apply below_alloc | apply pbdN | apply bdr1) | exact HB.out))) : w.heap.size ≤ gb1004)); clear HB; have HB := n0_; have BK1004 := n1_; have GW1004 := n2_; have GE1004 := n3_; clear n0_ n1_ n2_ n3_; clear hb hbox hg; have hcz10_0 : w9.cell? ⟨gb1004, 0, none⟩ = some (.int .i64 a0_0) := (blk_cell BK1004.out 0).trans rfl; have hcz10_1 : w9.cell? ⟨gb1004, 1, none⟩ = some (.int .i64 a0_1) := (blk_cell BK1004.out 1).trans rfl; have hcz10_2 : w9.cell? ⟨gb1004, 2, none⟩ = some (.int .i64 a0_2) := (blk_cell BK1004.out 2).trans rfl; have hcz10_3 : w9.cell? ⟨gb1004, 3, none⟩ = some (.int .i64 a0_3) := (blk_cell BK1004.out 3).trans rfl; have hcz10_4 : w9.cell? ⟨gb1004, 4, none⟩ = some (.int .i64 a0_4) := (blk_cell BK1004.out 4).trans rfl; have hcz10_5 : w9.cell? ⟨gb1004, 5, none⟩ = some (.int .i64 a0_5) := (blk_cell BK1004.out 5).trans rfl; have hfz10_0 := blk_frozen BK1004.out 0; have hfz10_1 := blk_frozen BK1004.out 1; have hfz10_2 := blk_frozen BK1004.out 2; have hfz10_3 := blk_frozen BK1004.out 3; have hfz10_4 := blk_frozen BK1004.out 4; have hfz10_5 := blk_frozen BK1004.out 5) | (go_at_call 133; (with_reducible refine (place_Page.calls a0_0 a0_1 a0_2 a0_3 a0_4 a0_5 a1 a2 t1000 t1002 _ A4.out).mono ?_); rintro e w11 ⟨rfl, hb⟩; have n0_ := Aside0.mk (blk_below (g := gb1004) (o := .cells #[.int .i64 a0_0, .int .i64 a0_1, .int .i64 a0_2, .int .i64 a0_3, .int .i64 a0_4, .int .i64 a0_5] 44 (0, 0)) (by (with_reducible repeat (first | refine blk_drewN ?_ _ | refine blk_drew ?_ | refine blk_alloc ?_ _)); exact BK1004.out) hb); have n1_ := Aside0.mk (below_step (by repeat (first | (with_reducible first | exact HB.out | apply below_alloc | apply pbdN | apply bdr1 | refine below_set ?_ GE1004.out) | exact HB.out)) hb); clear BK1004; clear HB; have BK1004 := n0_; have HB := n1_; clear n0_ n1_; (try clear hb); (try clear hb2); (try clear hk); (try clear hi); have hcz12_0 : w11.cell? ⟨gb1004, 0, none⟩ = some (.int .i64 a0_0) := (blk_cell BK1004.out 0).trans rfl; have hcz12_1 : w11.cell? ⟨gb1004, 1, none⟩ = some (.int .i64 a0_1) := (blk_cell BK1004.out 1).trans rfl; have hcz12_2 : w11.cell? ⟨gb1004, 2, none⟩ = some (.int .i64 a0_2) := (blk_cell BK1004.out 2).trans rfl; have hcz12_3 : w11.cell? ⟨gb1004, 3, none⟩ = some (.int .i64 a0_3) := (blk_cell BK1004.out 3).trans rfl; have hcz12_4 : w11.cell? ⟨gb1004, 4, none⟩ = some (.int .i64 a0_4) := (blk_cell BK1004.out 4).trans rfl; have hcz12_5 : w11.cell? ⟨gb1004, 5, none⟩ = some (.int .i64 a0_5) := (blk_cell BK1004.out 5).trans rfl; have hfz12_0 := blk_frozen BK1004.out 0; have hfz12_1 := blk_frozen BK1004.out 1; have hfz12_2 := blk_frozen BK1004.out 2; have hfz12_3 := blk_frozen BK1004.out 3; have hfz12_4 := blk_frozen BK1004.out 4; have hfz12_5 := blk_frozen BK1004.out 5) | (go_at_call 134; (with_reducible refine (bits_All.calls a0_1 t1001 t1003 _ A6.out).mono ?_); rintro e w13 ⟨v1005, rfl, ho0, hb⟩; have n0_ := Aside0.mk (Kd.R_lower ho0 (below_size (by repeat (first | (with_reducible first | exact HB.out | apply below_alloc | apply pbdN | apply bdr1 | refine below_set ?_ GE1004.out) | exact HB.out)))); have n1_ := Aside0.mk (blk_below (g := gb1004) (o := .cells #[.int .i64 a0_0, .int .i64 a0_1, .int .i64 a0_2, .int .i64 a0_3, .int .i64 a0_4, .int .i64 a0_5] 44 (0, 0)) (by (with_reducible repeat (first | refine blk_drewN ?_ _ | refine blk_drew ?_ | refine blk_alloc ?_ _)); exact BK1004.out) hb); have n2_ := Aside0.mk (below_step (by repeat (first | (with_reducible first | exact HB.out | apply below_alloc | apply pbdN | apply bdr1 | refine below_set ?_ GE1004.out) | exact HB.out)) hb); clear BK1004; clear HB; have HO1006 := n0_; have BK1004 := n1_; have HB := n2_; clear n0_ n1_ n2_; (try clear hb); (try clear hb2); (try clear hk); (try clear hi); (try clear ho0); obtain ⟨Ao14, co14, eo14⟩ := Kd.R_slice HO1006.out; subst eo14; have p1007 : 0 ≤ (a2 : Int) := of_decide_eq_true (by first | (with_reducible assumption) | assumption); have q1007 : a2 < (t1001.length : Int) := of_decide_eq_true (by first | (with_reducible assumption) | assumption); obtain ⟨ad1007, e1007, hx1007_0⟩ := Kd.at_int (Kd.R_reads' HO1006.out).2.2 a2 p1007 q1007; cases e1007; replace p1007 := eq_true p1007; replace q1007 := eq_true q1007)))
        go_ret3
        exact ⟨by first | rfl | (simp [errW_none, errW_some] <;> rfl) | (simp [*, errW_none, errW_some] <;> rfl), by repeat (first | (with_reducible first | exact HB.out | apply below_alloc | apply pbdN | apply bdr1 | refine below_set ?_ GE1004.out) | exact HB.out)⟩
      · rw [if_neg c8] at H
        exact absurd H (by simp)
    · rw [if_neg c7] at H
      exact absurd H (by simp)
  · rw [if_neg c5] at H
    have c5b0 : (t1002 == 0) = false := beq_eq_false_iff_ne.mpr c5
    have c5b1 : (t1002 != 0) = true := bne_iff_ne.mpr c5
    simp only [Option.some.injEq, Prod.mk.injEq] at H
    obtain ⟨rfl, rfl, rfl⟩ := H
    go_enter Try.func111, Try.ntmps111
    go_wp2_with (first | ((with_reducible refine gate_dst (N := 3) rfl ?_); refine box_event ?hg (N := 3) ?hd (cs := #[.int .i64 a0_0, .int .i64 a0_1, .int .i64 a0_2, .int .i64 a0_3, .int .i64 a0_4, .int .i64 a0_5]) (t := 44) ?hr ?_; (case hd => rfl); (case hg => rfl); (case hr => first | (go_simp; done) | (go_simp; rfl)); intro gb1004 hg w15 hbox hb; have n0_ := Aside0.mk (below_step (by repeat (first | (with_reducible first | exact HB.out | apply below_alloc | apply pbdN | apply bdr1) | exact HB.out)) hb); have n1_ := Aside0.mk (hbox); have n2_ := Aside0.mk ((by rw [hg]; exact (below_size (by repeat (first | (with_reducible first | exact HB.out | apply below_alloc | apply pbdN | apply bdr1) | exact HB.out))) : w.heap.size ≤ gb1004)); have n3_ := Aside0.mk ((by rw [hg]; exact (below_size (by repeat (first | (with_reducible first | exact HB.out | apply below_alloc | apply pbdN | apply bdr1) | exact HB.out))) : w.heap.size ≤ gb1004)); clear HB; have HB := n0_; have BK1004 := n1_; have GW1004 := n2_; have GE1004 := n3_; clear n0_ n1_ n2_ n3_; clear hb hbox hg; have hcz16_0 : w15.cell? ⟨gb1004, 0, none⟩ = some (.int .i64 a0_0) := (blk_cell BK1004.out 0).trans rfl; have hcz16_1 : w15.cell? ⟨gb1004, 1, none⟩ = some (.int .i64 a0_1) := (blk_cell BK1004.out 1).trans rfl; have hcz16_2 : w15.cell? ⟨gb1004, 2, none⟩ = some (.int .i64 a0_2) := (blk_cell BK1004.out 2).trans rfl; have hcz16_3 : w15.cell? ⟨gb1004, 3, none⟩ = some (.int .i64 a0_3) := (blk_cell BK1004.out 3).trans rfl; have hcz16_4 : w15.cell? ⟨gb1004, 4, none⟩ = some (.int .i64 a0_4) := (blk_cell BK1004.out 4).trans rfl; have hcz16_5 : w15.cell? ⟨gb1004, 5, none⟩ = some (.int .i64 a0_5) := (blk_cell BK1004.out 5).trans rfl; have hfz16_0 := blk_frozen BK1004.out 0; have hfz16_1 := blk_frozen BK1004.out 1; have hfz16_2 := blk_frozen BK1004.out 2; have hfz16_3 := blk_frozen BK1004.out 3; have hfz16_4 := blk_frozen BK1004.out 4; have hfz16_5 := blk_frozen BK1004.out 5) | (go_at_call 133; (with_reducible refine (place_Page.calls a0_0 a0_1 a0_2 a0_3 a0_4 a0_5 a1 a2 t1000 t1002 _ A4.out).mono ?_); rintro e w17 ⟨rfl, hb⟩; have n0_ := Aside0.mk (blk_below (g := gb1004) (o := .cells #[.int .i64 a0_0, .int .i64 a0_1, .int .i64 a0_2, .int .i64 a0_3, .int .i64 a0_4, .int .i64 a0_5] 44 (0, 0)) (by (with_reducible repeat (first | refine blk_drewN ?_ _ | refine blk_drew ?_ | refine blk_alloc ?_ _)); exact BK1004.out) hb); have n1_ := Aside0.mk (below_step (by repeat (first | (with_reducible first | exact HB.out | apply below_alloc | apply pbdN | apply bdr1 | refine below_set ?_ GE1004.out) | exact HB.out)) hb); clear BK1004; clear HB; have BK1004 := n0_; have HB := n1_; clear n0_ n1_; (try clear hb); (try clear hb2); (try clear hk); (try clear hi)))
    repeat (go_quiet (first | ((with_reducible refine gate_dst (N := 3) rfl ?_); refine box_event ?hg (N := 3) ?hd (cs := #[.int .i64 a0_0, .int .i64 a0_1, .int .i64 a0_2, .int .i64 a0_3, .int .i64 a0_4, .int .i64 a0_5]) (t := 44) ?hr ?_; (case hd => rfl); (case hg => rfl); (case hr => first | (go_simp; done) | (go_simp; rfl)); intro gb1004 hg w15 hbox hb; have n0_ := Aside0.mk (below_step (by repeat (first | (with_reducible first | exact HB.out | apply below_alloc | apply pbdN | apply bdr1) | exact HB.out)) hb); have n1_ := Aside0.mk (hbox); have n2_ := Aside0.mk ((by rw [hg]; exact (below_size (by repeat (first | (with_reducible first | exact HB.out | apply below_alloc | apply pbdN | apply bdr1) | exact HB.out))) : w.heap.size ≤ gb1004)); have n3_ := Aside0.mk ((by rw [hg]; exact (below_size (by repeat (first | (with_reducible first | exact HB.out | apply below_alloc | apply pbdN | apply bdr1) | exact HB.out))) : w.heap.size ≤ gb1004)); clear HB; have HB := n0_; have BK1004 := n1_; have GW1004 := n2_; have GE1004 := n3_; clear n0_ n1_ n2_ n3_; clear hb hbox hg; have hcz16_0 : w15.cell? ⟨gb1004, 0, none⟩ = some (.int .i64 a0_0) := (blk_cell BK1004.out 0).trans rfl; have hcz16_1 : w15.cell? ⟨gb1004, 1, none⟩ = some (.int .i64 a0_1) := (blk_cell BK1004.out 1).trans rfl; have hcz16_2 : w15.cell? ⟨gb1004, 2, none⟩ = some (.int .i64 a0_2) := (blk_cell BK1004.out 2).trans rfl; have hcz16_3 : w15.cell? ⟨gb1004, 3, none⟩ = some (.int .i64 a0_3) := (blk_cell BK1004.out 3).trans rfl; have hcz16_4 : w15.cell? ⟨gb1004, 4, none⟩ = some (.int .i64 a0_4) := (blk_cell BK1004.out 4).trans rfl; have hcz16_5 : w15.cell? ⟨gb1004, 5, none⟩ = some (.int .i64 a0_5) := (blk_cell BK1004.out 5).trans rfl; have hfz16_0 := blk_frozen BK1004.out 0; have hfz16_1 := blk_frozen BK1004.out 1; have hfz16_2 := blk_frozen BK1004.out 2; have hfz16_3 := blk_frozen BK1004.out 3; have hfz16_4 := blk_frozen BK1004.out 4; have hfz16_5 := blk_frozen BK1004.out 5) | (go_at_call 133; (with_reducible refine (place_Page.calls a0_0 a0_1 a0_2 a0_3 a0_4 a0_5 a1 a2 t1000 t1002 _ A4.out).mono ?_); rintro e w17 ⟨rfl, hb⟩; have n0_ := Aside0.mk (blk_below (g := gb1004) (o := .cells #[.int .i64 a0_0, .int .i64 a0_1, .int .i64 a0_2, .int .i64 a0_3, .int .i64 a0_4, .int .i64 a0_5] 44 (0, 0)) (by (with_reducible repeat (first | refine blk_drewN ?_ _ | refine blk_drew ?_ | refine blk_alloc ?_ _)); exact BK1004.out) hb); have n1_ := Aside0.mk (below_step (by repeat (first | (with_reducible first | exact HB.out | apply below_alloc | apply pbdN | apply bdr1 | refine below_set ?_ GE1004.out) | exact HB.out)) hb); clear BK1004; clear HB; have BK1004 := n0_; have HB := n1_; clear n0_ n1_; (try clear hb); (try clear hb2); (try clear hk); (try clear hi))); try go_wp2_with (first | ((with_reducible refine gate_dst (N := 3) rfl ?_); refine box_event ?hg (N := 3) ?hd (cs := #[.int .i64 a0_0, .int .i64 a0_1, .int .i64 a0_2, .int .i64 a0_3, .int .i64 a0_4, .int .i64 a0_5]) (t := 44) ?hr ?_; (case hd => rfl); (case hg => rfl); (case hr => first | (go_simp; done) | (go_simp; rfl)); intro gb1004 hg w15 hbox hb; have n0_ := Aside0.mk (below_step (by repeat (first | (with_reducible first | exact HB.out | apply below_alloc | apply pbdN | apply bdr1) | exact HB.out)) hb); have n1_ := Aside0.mk (hbox); have n2_ := Aside0.mk ((by rw [hg]; exact (below_size (by repeat (first | (with_reducible first | exact HB.out | apply below_alloc | apply pbdN | apply bdr1) | exact HB.out))) : w.heap.size ≤ gb1004)); have n3_ := Aside0.mk ((by rw [hg]; exact (below_size (by repeat (first | (with_reducible first | exact HB.out | apply below_alloc | apply pbdN | apply bdr1) | exact HB.out))) : w.heap.size ≤ gb1004)); clear HB; have HB := n0_; have BK1004 := n1_; have GW1004 := n2_; have GE1004 := n3_; clear n0_ n1_ n2_ n3_; clear hb hbox hg; have hcz16_0 : w15.cell? ⟨gb1004, 0, none⟩ = some (.int .i64 a0_0) := (blk_cell BK1004.out 0).trans rfl; have hcz16_1 : w15.cell? ⟨gb1004, 1, none⟩ = some (.int .i64 a0_1) := (blk_cell BK1004.out 1).trans rfl; have hcz16_2 : w15.cell? ⟨gb1004, 2, none⟩ = some (.int .i64 a0_2) := (blk_cell BK1004.out 2).trans rfl; have hcz16_3 : w15.cell? ⟨gb1004, 3, none⟩ = some (.int .i64 a0_3) := (blk_cell BK1004.out 3).trans rfl; have hcz16_4 : w15.cell? ⟨gb1004, 4, none⟩ = some (.int .i64 a0_4) := (blk_cell BK1004.out 4).trans rfl; have hcz16_5 : w15.cell? ⟨gb1004, 5, none⟩ = some (.int .i64 a0_5) := (blk_cell BK1004.out 5).trans rfl; have hfz16_0 := blk_frozen BK1004.out 0; have hfz16_1 := blk_frozen BK1004.out 1; have hfz16_2 := blk_frozen BK1004.out 2; have hfz16_3 := blk_frozen BK1004.out 3; have hfz16_4 := blk_frozen BK1004.out 4; have hfz16_5 := blk_frozen BK1004.out 5) | (go_at_call 133; (with_reducible refine (place_Page.calls a0_0 a0_1 a0_2 a0_3 a0_4 a0_5 a1 a2 t1000 t1002 _ A4.out).mono ?_); rintro e w17 ⟨rfl, hb⟩; have n0_ := Aside0.mk (blk_below (g := gb1004) (o := .cells #[.int .i64 a0_0, .int .i64 a0_1, .int .i64 a0_2, .int .i64 a0_3, .int .i64 a0_4, .int .i64 a0_5] 44 (0, 0)) (by (with_reducible repeat (first | refine blk_drewN ?_ _ | refine blk_drew ?_ | refine blk_alloc ?_ _)); exact BK1004.out) hb); have n1_ := Aside0.mk (below_step (by repeat (first | (with_reducible first | exact HB.out | apply below_alloc | apply pbdN | apply bdr1 | refine below_set ?_ GE1004.out) | exact HB.out)) hb); clear BK1004; clear HB; have BK1004 := n0_; have HB := n1_; clear n0_ n1_; (try clear hb); (try clear hb2); (try clear hk); (try clear hi))))
    go_ret3
    exact ⟨by first | rfl | (simp [errW_none, errW_some] <;> rfl) | (simp [*, errW_none, errW_some] <;> rfl), by repeat (first | (with_reducible first | exact HB.out | apply below_alloc | apply pbdN | apply bdr1 | refine below_set ?_ GE1004.out) | exact HB.out)⟩
end Go.Proofs.Ytdkjhcdniepbhaa.P
end
