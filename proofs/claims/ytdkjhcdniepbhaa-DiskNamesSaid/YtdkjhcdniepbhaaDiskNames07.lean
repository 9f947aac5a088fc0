/- Part 7 of the proof: DiskNames: the examples of the chapter on disks and the limits', fates' and errors' numbers hold of the program; no arguments, no condition. -/
import Derived.Test.YtdkjhcdniepbhaaDiskNames06
section
set_option linter.unusedVariables false
set_option linter.unusedSimpArgs false
namespace Go.Proofs.Ytdkjhcdniepbhaa.P
open Go.RowKit Go.Proofs.PrintWords Go.Proofs.PrintLast Go.Proofs.PrintMore
attribute [local go_sem] max2_int min2_int max_two min_two max_three min_three max_four min_four
theorem tail_C {w : World} {g : Nat} {x : Int} (h : Kd.C (Kd.int .u8) w (some ⟨g, 0, none⟩) (of32 x).length (of32 x)) : Kd.C (Kd.int .u8) w (some ⟨g, 1, none⟩) (List.replicate 31 x).length (List.replicate 31 x) := by
  refine ⟨rfl, by rw [List.length_replicate]; decide, fun _ => ⟨_, rfl, fun j p hj => ?_⟩⟩
  obtain ⟨ad, e, hc⟩ := h.2.2 (by show 0 < (List.replicate 32 x).length; rw [List.length_replicate]; decide)
  injection e with e
  subst e
  obtain ⟨hj1, hj2⟩ := List.getElem?_eq_some_iff.1 hj
  rw [List.length_replicate] at hj1
  rw [List.getElem_replicate] at hj2
  subst hj2
  obtain ⟨cs, h1, h2, h3⟩ := hc (j + 1) x (by show (List.replicate 32 x)[j + 1]? = some x; rw [List.getElem?_replicate, if_pos (by omega)])
  refine ⟨cs, h1, h2, fun i u hu => ?_⟩
  have h4 := h3 i u hu
  rw [add_at] at h4 ⊢
  have hsz : (Kd.int .u8).sz = 1 := rfl
  rw [hsz] at h4 ⊢
  rw [show 1 + (j * 1 + i) = 0 + ((j + 1) * 1 + i) by omega]
  exact h4
theorem R_block {w : World} {b : Nat} {ok : Nat → Prop} {v : Value} {xs : List Int} (h : (Kd.int .u8).R 5 w b ok v xs) (hn : 0 < xs.length) : ∃ g c, v = .slice (some ⟨g, 0, none⟩) xs.length c ∧ xs.length ≤ c := by
  obtain ⟨_, inner, ho, _⟩ := h
  rcases ho.2 with ⟨_, hi⟩ | ⟨g, cap, cur, he, _, _, h1, _⟩
  · omega
  · exact ⟨g, cap, he, h1⟩
theorem nm_of : catamaranlaw05_of.f 50 122 = some (of32 122) := by kernel_rfl
theorem nil52_C (w : World) : Kd.C k39 w none ([] : List S39).length [] := ⟨rfl, by simp, fun h => absurd h (by simp)⟩
theorem nil65_C (w : World) : Kd.C k49 w none ([] : List S49).length [] := ⟨rfl, by simp, fun h => absurd h (by simp)⟩
theorem sec1_C {w : World} {g : Nat} {Y : Option Addr} {y : Nat} {x : List Int} {b : Bool} (h : w.heap[g]? = some (.cells #[.slice Y x.length y, .bool b] 39 (0, 0))) (hl : x.length ≤ y) (hc : Kd.C (Kd.int .u8) w Y x.length x) : Kd.C k39 w (some ⟨g, 0, none⟩) ([⟨x, b⟩] : List S39).length [⟨x, b⟩] := by
  refine ⟨rfl, by simp, fun _ => ⟨_, rfl, fun j p hj => ?_⟩⟩
  match j, hj with
  | 0, hj =>
    have hj : (⟨x, b⟩ : S39) = p := by simpa using hj
    subst hj
    refine ⟨[.slice Y x.length y, .bool b], rfl, k39_mk w ⟨x, b⟩ hl hc, fun i u hu => ?_⟩
    match i, hu with
    | 0, hu => rw [add_plain, blk_cell h]; simpa using hu
    | 1, hu => rw [add_plain, blk_cell h]; simpa using hu
    | i + 2, hu => simp at hu
  | j + 1, hj => simp at hj
def law4.T5 : Bool × List (List Nat × List Nat) := (true, [([], []), ([], []), ([1], [1]), ([0, 2, 1], [0, 2]), ([3], [3]), ([4], [4]), ([4], [4]), ([], []), ([7, 5, 3, 0, 1, 2, 3, 4, 5, 7], [5, 7]), ([6, 8, 0, 1, 2, 3, 4, 5, 6, 7, 8], [6])])
def law4.B5 : List Nat := [0, 0, 2, 7, 15, 31, 31, 0, 191, 511]
theorem law4.tab5 : rtab .any (opsOf Try.f3 5) = law4.T5 := by kernel_rfl
theorem law4.bits5 : waitsOk law4.T5.2 law4.B5 = true := by kernel_rfl
def law4.T11 : Bool × List (List Nat × List Nat) := (true, [([], []), ([], []), ([0, 1, 1], [0, 1]), ([2], [2]), ([3], [3]), ([3], [3]), ([], []), ([6, 4, 2, 0, 1, 2, 3, 4, 6], [4, 6]), ([5, 7, 0, 1, 2, 3, 4, 5, 6, 7], [5])])
def law4.B11 : List Nat := [0, 0, 3, 7, 15, 15, 0, 95, 255]
theorem law4.tab11 : rtab .any (opsOf Try.f3 11) = law4.T11 := by kernel_rfl
theorem law4.bits11 : waitsOk law4.T11.2 law4.B11 = true := by kernel_rfl
def law4.T15 : Bool × List (List Nat × List Nat) := (true, [([], []), ([], []), ([0, 1, 1], [0, 1]), ([2], [2]), ([3], [3]), ([3], [3]), ([], []), ([6, 4, 2, 0, 1, 2, 3, 4, 6], [4, 6]), ([5, 7, 0, 1, 2, 3, 4, 5, 6, 7], [5])])
def law4.B15 : List Nat := [0, 0, 3, 7, 15, 15, 0, 95, 255]
theorem law4.tab15 : rtab .any (opsOf Try.f3 15) = law4.T15 := by kernel_rfl
theorem law4.bits15 : waitsOk law4.T15.2 law4.B15 = true := by kernel_rfl
set_option maxHeartbeats 16000000 in
set_option maxRecDepth 100000 in
theorem law4.calls (w : World) : Calls Try.prog 3 #[] w fun e w' => e = .returned (.bool true) ∧ Below w.heap.size w w' := by
  have hu25 := Try.underlying25
  have TK1 := Aside0.mk (show 0 = 0 from rfl)
  go_enter Try.func3, Try.ntmps3
  go_upto_region 5 with (first
    | (go_at_call 15; clear TK1; have TK2 := Aside0.mk (show 0 = 0 from rfl); refine (hNew.calls 0 [] [] 2 _ nm_new0).mono ?_; rintro e w1 ⟨v1, v2, rfl, ho1, ho2, hb_⟩; obtain ⟨Aa0, ca0, e_a0⟩ := Kd.S_slice ho1; subst e_a0; obtain ⟨Aa1, ca1, e_a1⟩ := Kd.S_slice ho2; subst e_a1; have HS1 := Aside0.mk hb_; have Ha0 := Aside0.mk ho1; have Ha1 := Aside0.mk ho2; clear hb_ ho1 ho2)
    | (go_at_call 15; clear TK2; have TK3 := Aside0.mk (show 0 = 0 from rfl); refine (hNew.calls 1025 [] [] 2 _ nm_new1).mono ?_; rintro e w2 ⟨v1, v2, rfl, ho1, ho2, hb_⟩; obtain ⟨Ab0, cb0, e_b0⟩ := Kd.S_slice ho1; subst e_b0; obtain ⟨Ab1, cb1, e_b1⟩ := Kd.S_slice ho2; subst e_b1; have HS2 := Aside0.mk hb_; have Hb0 := Aside0.mk ho1; have Hb1 := Aside0.mk ho2; clear hb_ ho1 ho2)
    | (go_at_call 16; clear TK3; have TK4 := Aside0.mk (show 0 = 0 from rfl); refine (hTwo.calls twoS two2 true _ rfl).mono ?_; rintro e w3 ⟨v1, v2, rfl, ho1, ho2, hb_⟩; obtain ⟨Ad0, cd0, e_d0⟩ := Kd.S_slice ho1; subst e_d0; obtain ⟨Ad1, cd1, e_d1⟩ := Kd.S_slice ho2; subst e_d1; have HS3 := Aside0.mk hb_; have Hd0 := Aside0.mk ho1; have Hd1 := Aside0.mk ho2; clear hb_ ho1 ho2)
    | (go_at_call 17; clear TK4; have TK5 := Aside0.mk (show 0 = 0 from rfl); refine (hRead.calls Ad0 cd0 twoS Ad1 cd1 two2 2 [] 2 _ (Kd.S_reads' (Kd.S_below Hd0.out (below_alloc (Below.refl _ _) (.cells #[.slice Ad0 twoS.length cd0, .slice Ad1 two2.length cd1] 25)))).2.2 (Kd.S_reads' (Kd.S_below Hd0.out (below_alloc (Below.refl _ _) (.cells #[.slice Ad0 twoS.length cd0, .slice Ad1 two2.length cd1] 25)))).2.1 (Kd.S_reads' (Kd.S_below Hd1.out (below_alloc (Below.refl _ _) (.cells #[.slice Ad0 twoS.length cd0, .slice Ad1 two2.length cd1] 25)))).2.2 (Kd.S_reads' (Kd.S_below Hd1.out (below_alloc (Below.refl _ _) (.cells #[.slice Ad0 twoS.length cd0, .slice Ad1 two2.length cd1] 25)))).2.1 nm_read).mono ?_; rintro e w4 ⟨v1, rfl, ho1, hb_⟩; obtain ⟨Ar, cr, e_r⟩ := Kd.R_slice ho1; subst e_r; have HS4 := Aside0.mk hb_; have Hr := Aside0.mk ho1; clear hb_ ho1; have hcd0 : w4.cell? ⟨w3.heap.size, 0, none⟩ = some (.slice Ad0 twoS.length cd0) := (blk_cell (blk_below (heap_alloc_new w3 (.cells #[.slice Ad0 twoS.length cd0, .slice Ad1 two2.length cd1] 25)) (below_step (Below.refl _ _) HS4.out)) 0).trans rfl; have hcd1 : w4.cell? ⟨w3.heap.size, 1, none⟩ = some (.slice Ad1 two2.length cd1) := (blk_cell (blk_below (heap_alloc_new w3 (.cells #[.slice Ad0 twoS.length cd0, .slice Ad1 two2.length cd1] 25)) (below_step (Below.refl _ _) HS4.out)) 1).trans rfl; have hld : w3.heap.size < w4.heap.size := blk_lt (blk_below (heap_alloc_new w3 (.cells #[.slice Ad0 twoS.length cd0, .slice Ad1 two2.length cd1] 25)) (below_step (Below.refl _ _) HS4.out))))
  have HB := Aside0.mk (below_step (below_alloc (below_step (below_alloc (below_step (below_alloc (below_step (Below.refl _ _) HS1.out) (.cells #[.slice Aa0 ([] : List S39).length ca0, .slice Aa1 ([] : List S49).length ca1] 25)) HS2.out) (.cells #[.slice Ab0 ([] : List S39).length cb0, .slice Ab1 ([] : List S49).length cb1] 25)) HS3.out) (.cells #[.slice Ad0 twoS.length cd0, .slice Ad1 two2.length cd1] 25)) HS4.out)
  have H2 := Aside0.mk (blk_below (heap_alloc_new w3 (.cells #[.slice Ad0 twoS.length cd0, .slice Ad1 two2.length cd1] 25)) (below_step (Below.refl _ _) HS4.out))
  have HQ1 := Aside0.mk (Kd.S_below Hd0.out (below_step (below_alloc (Below.refl _ _) (.cells #[.slice Ad0 twoS.length cd0, .slice Ad1 two2.length cd1] 25)) HS4.out))
  have HQ2 := Aside0.mk (Kd.S_below Hd1.out (below_step (below_alloc (Below.refl _ _) (.cells #[.slice Ad0 twoS.length cd0, .slice Ad1 two2.length cd1] 25)) HS4.out))
  clear hcd0 hcd1 hld
  have HSS := Aside0.mk (show ∀ W : World, Below w4.heap.size w4 W → W.cell? ⟨w3.heap.size, 0, none⟩ = some (.slice Ad0 twoS.length cd0) ∧ W.cell? ⟨w3.heap.size, 1, none⟩ = some (.slice Ad1 two2.length cd1) from fun W hb => ⟨(blk_cell (blk_below H2.out hb) 0).trans rfl, (blk_cell (blk_below H2.out hb) 1).trans rfl⟩)
  go_cut [10] from 38 to 44 (fun s10 wx => s10 = .int .i64 2 ∧ Aside0 (Below w4.heap.size w4 wx))
  case first =>
    refine start_ (n := 10) (S := fun w' => w'.cell? ⟨w3.heap.size, 0, none⟩ = some (.slice Ad0 twoS.length cd0) ∧ w'.cell? ⟨w3.heap.size, 1, none⟩ = some (.slice Ad1 two2.length cd1)) (ds := [8]) #[false, false, false, false, false, false, false, false, false, false] (by kernel_rfl) rfl rfl (by exact HSS.out _ (bdr1 (Below.refl _ _))) (fun hHeld => ?_); refine wtW law4.tab5 law4.bits5 (fun HT_ HW_ => ?_)
    have HD := Aside0.mk (bdr1 (Below.refl w4.heap.size w4))
    replace HB := Aside0.mk (below_step HB.out (bdr1 (Below.refl w4.heap.size w4)))
    replace HQ1 := Aside0.mk (Kd.S_below HQ1.out (bdr1 (Below.refl w4.heap.size w4)))
    replace HQ2 := Aside0.mk (Kd.S_below HQ2.out (bdr1 (Below.refl w4.heap.size w4)))
    generalize w4.drew = Wd at HD HB HQ1 HQ2 hHeld ⊢
    refine take_ (i := 0) (N := some 39) (v := ?_) (a' := ?_) #[true, false, false, false, false, false, false, false, false, false] rfl rfl (take_ofW HT_.out HW_.out (by kernel_rfl)) (fun _ _ _ h => h) (Or.inl ⟨by rfl, ?_⟩) hHeld ?_ ?_
    rotate_left
    · rintro w' ⟨s0, s1⟩
      go_simp
      with_reducible rfl
    rotate_left
    · simp only [Act.put, List.setIfInBounds_toArray, List.set_cons_zero, List.set_cons_succ, i64_w, i32_w]
      rfl
    refine two_ (i := 1) (j := 7) (Ni := some 40) (Nj := some 9) #[true, true, false, false, false, false, false, false, false, false] #[true, false, false, false, false, false, false, true, false, false] rfl rfl rfl rfl (two_of HT_.out (by kernel_rfl)) (by decide) (by decide) (fun K hK => ?_) (fun K hK => ?_)
    · skip
      refine goes_ Try.func19 (by kernel_rfl) rfl #[.int .u8 122] (by rfl) rfl rfl (by (try simp only [List.map_toArray, List.map_cons, List.map_nil]); first | done | rfl | (simp only [List.length_drop, List.length_take]; rfl)) ?_
      refine (catamaranlaw05_of.calls 50 122 (of32 122) Wd nm_of).mono ?_
      rintro e Wc1 ⟨v1, rfl, ho, hA⟩
      obtain ⟨gy, y, e1, hy⟩ := R_block ho (by decide)
      rw [show (of32 122).length = 32 from rfl] at e1 hy
      subst e1
      have HY := Aside0.mk ho
      have hy1 : ¬ y = 1 := by omega
      have hy2 : ¬ (y : Int) = 1 := by omega
      have hy3 : 1 ≤ y := by omega
      have hy4 : (1 : Int) ≤ y := by omega
      clear ho
      refine ⟨_, rfl, ?_⟩
      replace HB := Aside0.mk (below_step HB.out hA)
      replace HQ1 := Aside0.mk (Kd.S_below HQ1.out hA)
      replace HQ2 := Aside0.mk (Kd.S_below HQ2.out hA)
      replace HD := Aside0.mk (below_step HD.out hA)
      clear hA hHeld
      refine hK.out _ _ (by exact HSS.out _ HD.out) (fun hHeld => ?_)
      clear hK K
      refine norm_ (a' := ?_) ?_ ?_
      rotate_left
      · show Act.put _ (some 40) _ = _
        simp only [Act.put, List.setIfInBounds_toArray, List.set_cons_zero, List.set_cons_succ, i64_w, i32_w]
        rfl
      refine pure_ (i := 2) (N := some 41) (v := ?_) (a' := ?_) #[true, true, true, false, false, false, false, false, false, false] rfl rfl (any_of HT_.out (by kernel_rfl)) (fun _ _ _ h => h) (Or.inl ⟨by rfl, ?_⟩) ?_ ?_
      rotate_left
      · intro w'
        go_simp
        with_reducible rfl
      rotate_left
      · simp only [Act.put, List.setIfInBounds_toArray, List.set_cons_zero, List.set_cons_succ, i64_w, i32_w]
        rfl
      refine two_ (i := 3) (j := 7) (Ni := some 42) (Nj := some 9) #[true, true, true, true, false, false, false, false, false, false] #[true, true, true, false, false, false, false, true, false, false] rfl rfl rfl rfl (two_of HT_.out (by kernel_rfl)) (by decide) (by decide) (fun K hK => ?_) (fun K hK => ?_)
      · skip
        refine goes_ Try.func18 (by kernel_rfl) rfl #[.agg #[.slice Ad0 twoS.length cd0, .slice Ad1 two2.length cd1], .int .i64 0, .slice (some ⟨gy, 1, none⟩) 31 (y - 1)] (by rfl) rfl rfl (by (try simp only [List.map_toArray, List.map_cons, List.map_nil]); first | done | rfl | (simp only [List.length_drop, List.length_take]; rfl)) ?_
        refine (hWrite.calls Ad0 cd0 twoS Ad1 cd1 two2 0 (some ⟨gy, 1, none⟩) (y - 1) (List.replicate 31 122) [] [] 2 Wc1 (Kd.S_reads' HQ1.out).2.2 (Kd.S_reads' HQ1.out).2.1 (Kd.S_reads' HQ2.out).2.2 (Kd.S_reads' HQ2.out).2.1 (tail_C (x := 122) (Kd.R_reads' HY.out).2.2) (by rw [List.length_replicate]; omega) nm_short).mono ?_
        rintro e Wc2 ⟨v1, v2, rfl, ho1, ho2, hA⟩
        obtain ⟨X1, x1, e1⟩ := Kd.S_slice ho1
        subst e1
        obtain ⟨X2, x2, e2⟩ := Kd.S_slice ho2
        subst e2
        clear ho1 ho2
        refine ⟨_, rfl, ?_⟩
        replace HB := Aside0.mk (below_step HB.out hA)
        replace HQ1 := Aside0.mk (Kd.S_below HQ1.out hA)
        replace HQ2 := Aside0.mk (Kd.S_below HQ2.out hA)
        replace HY := Aside0.mk (Kd.R_below HY.out hA)
        replace HD := Aside0.mk (below_step HD.out hA)
        clear hA hHeld
        clear HY
        clear HQ1
        clear HQ2
        refine hK.out _ _ (by exact HSS.out _ HD.out) (fun hHeld => ?_)
        clear hK K
        refine norm_ (a' := ?_) ?_ ?_
        rotate_left
        · show Act.put _ (some 42) _ = _
          simp only [Act.put, List.setIfInBounds_toArray, List.set_cons_zero, List.set_cons_succ, i64_w, i32_w]
          rfl
        refine pure_ (i := 4) (N := some 38) (v := ?_) (a' := ?_) #[true, true, true, true, true, false, false, false, false, false] rfl rfl (any_of HT_.out (by kernel_rfl)) (fun _ _ _ h => h) (Or.inl ⟨by rfl, ?_⟩) ?_ ?_
        rotate_left
        · intro w'
          go_simp
          with_reducible rfl
        rotate_left
        · simp only [Act.put, List.setIfInBounds_toArray, List.set_cons_zero, List.set_cons_succ, i64_w, i32_w]
          rfl
        refine pure_ (i := 5) (N := some 43) (v := ?_) (a' := ?_) #[true, true, true, true, true, true, false, false, false, false] rfl rfl (any_of HT_.out (by kernel_rfl)) (fun _ _ _ h => h) (Or.inl ⟨by rfl, ?_⟩) ?_ ?_
        rotate_left
        · intro w'
          go_simp
          with_reducible rfl
        rotate_left
        · simp only [Act.put, List.setIfInBounds_toArray, List.set_cons_zero, List.set_cons_succ, i64_w, i32_w]
          rfl
        refine pure_ (i := 6) (N := some 44) (v := ?_) (a' := ?_) #[true, true, true, true, true, true, true, false, false, false] rfl rfl (any_of HT_.out (by kernel_rfl)) (fun _ _ _ h => h) (Or.inl ⟨by rfl, ?_⟩) ?_ ?_
        rotate_left
        · intro w'
          go_simp
          with_reducible rfl
        rotate_left
        · simp only [Act.put, List.setIfInBounds_toArray, List.set_cons_zero, List.set_cons_succ, i64_w, i32_w]
          rfl
        refine one_ (i := 7) (N := some 9) #[true, true, true, true, true, true, true, true, false, false] rfl rfl (one_of HT_.out (by kernel_rfl)) (by decide) (fun K hK => ?_)
        refine value_ (w1 := ?_) (v := ?_) (by rfl) rfl ?_ ?_
        rotate_left 2
        · go_simp
          constructor
          · rfl
          · rfl
        have hA := below_alloc (Below.refl Wc2.heap.size Wc2) (.cells #[.slice none 0 0, .slice none 0 0] 25)
        have H4 := Aside0.mk (heap_alloc_new Wc2 (.cells #[.slice none 0 0, .slice none 0 0] 25))
        have HLE := Aside0.mk (show w.heap.size ≤ Wc2.heap.size from below_size HB.out)
        have HLD := Aside0.mk (show w4.heap.size ≤ Wc2.heap.size from below_size HD.out)
        replace HB := Aside0.mk (below_step HB.out hA)
        replace HD := Aside0.mk (below_step HD.out hA)
        clear hA hHeld
        generalize Wc2.alloc (.cells #[.slice none 0 0, .slice none 0 0] 25) = Wa3 at HD HB H4 ⊢
        generalize Wc2.heap.size = g4 at H4 HLE HLD ⊢
        refine hK.out _ _ (by exact HSS.out _ HD.out) (fun hHeld => ?_)
        clear hK K
        refine norm_ (a' := ?_) ?_ ?_
        rotate_left
        · show Act.put _ (some 9) _ = _
          simp only [Act.put, List.setIfInBounds_toArray, List.set_cons_zero, List.set_cons_succ, i64_w, i32_w]
          rfl
        refine last_ (i := 8) (N := none) #[true, true, true, true, true, true, true, true, true, false] rfl rfl (one_of HT_.out (by kernel_rfl)) (by decide) (fun K hK => ?_)
        have hz0 : Wa3.cell? ⟨g4, 0, none⟩ = some (.slice none 0 0) := (blk_cell H4.out 0).trans rfl
        have hz1 : Wa3.cell? ⟨g4, 1, none⟩ = some (.slice none 0 0) := (blk_cell H4.out 1).trans rfl
        have hf0 := blk_frozen H4.out 0
        have hf1 := blk_frozen H4.out 1
        refine skip_ (w1 := ?_) (by rfl) rfl ?_ ?_
        rotate_left
        · go_simp
          rfl
        refine hK.out _ _ ?_
        refine pure_ (i := 9) (N := some 10) (v := ?_) (a' := ?_) #[true, true, true, true, true, true, true, true, true, true] rfl rfl (any_of HT_.out (by kernel_rfl)) (fun _ _ _ h => h) (Or.inl ⟨by rfl, ?_⟩) ?_ ?_
        rotate_left
        · intro w'
          go_simp
          with_reducible rfl
        rotate_left
        · simp only [Act.put, List.setIfInBounds_toArray, List.set_cons_zero, List.set_cons_succ, i64_w, i32_w]
          rfl
        refine done_ (done_of HT_.out (by kernel_rfl)) ?_
        try go_wp2
        go_meet
        exact ⟨rfl, ⟨below_set (below_set HD.out HLD.out) HLD.out⟩⟩
      · skip
        refine value_ (w1 := ?_) (v := ?_) (by rfl) rfl ?_ ?_
        rotate_left 2
        · go_simp
          constructor
          · rfl
          · rfl
        have hA := below_alloc (Below.refl Wc1.heap.size Wc1) (.cells #[.slice none 0 0, .slice none 0 0] 25)
        have H4 := Aside0.mk (heap_alloc_new Wc1 (.cells #[.slice none 0 0, .slice none 0 0] 25))
        have HLE := Aside0.mk (show w.heap.size ≤ Wc1.heap.size from below_size HB.out)
        have HLD := Aside0.mk (show w4.heap.size ≤ Wc1.heap.size from below_size HD.out)
        replace HB := Aside0.mk (below_step HB.out hA)
        replace HQ1 := Aside0.mk (Kd.S_below HQ1.out hA)
        replace HQ2 := Aside0.mk (Kd.S_below HQ2.out hA)
        replace HY := Aside0.mk (Kd.R_below HY.out hA)
        replace HD := Aside0.mk (below_step HD.out hA)
        clear hA hHeld
        generalize Wc1.alloc (.cells #[.slice none 0 0, .slice none 0 0] 25) = Wa5 at HD HB HQ1 HQ2 HY H4 ⊢
        generalize Wc1.heap.size = g4 at H4 HLE HLD ⊢
        refine hK.out _ _ (by exact HSS.out _ HD.out) (fun hHeld => ?_)
        clear hK K
        refine norm_ (a' := ?_) ?_ ?_
        rotate_left
        · show Act.put _ (some 9) _ = _
          simp only [Act.put, List.setIfInBounds_toArray, List.set_cons_zero, List.set_cons_succ, i64_w, i32_w]
          rfl
        refine one_ (i := 3) (N := some 42) #[true, true, true, true, false, false, false, true, false, false] rfl rfl (one_of HT_.out (by kernel_rfl)) (by decide) (fun K hK => ?_)
        refine goes_ Try.func18 (by kernel_rfl) rfl #[.agg #[.slice Ad0 twoS.length cd0, .slice Ad1 two2.length cd1], .int .i64 0, .slice (some ⟨gy, 1, none⟩) 31 (y - 1)] (by rfl) rfl rfl (by (try simp only [List.map_toArray, List.map_cons, List.map_nil]); first | done | rfl | (simp only [List.length_drop, List.length_take]; rfl)) ?_
        refine (hWrite.calls Ad0 cd0 twoS Ad1 cd1 two2 0 (some ⟨gy, 1, none⟩) (y - 1) (List.replicate 31 122) [] [] 2 Wa5 (Kd.S_reads' HQ1.out).2.2 (Kd.S_reads' HQ1.out).2.1 (Kd.S_reads' HQ2.out).2.2 (Kd.S_reads' HQ2.out).2.1 (tail_C (x := 122) (Kd.R_reads' HY.out).2.2) (by rw [List.length_replicate]; omega) nm_short).mono ?_
        rintro e Wc6 ⟨v1, v2, rfl, ho1, ho2, hA⟩
        obtain ⟨X1, x1, e1⟩ := Kd.S_slice ho1
        subst e1
        obtain ⟨X2, x2, e2⟩ := Kd.S_slice ho2
        subst e2
        clear ho1 ho2
        refine ⟨_, rfl, ?_⟩
        replace HB := Aside0.mk (below_step HB.out hA)
        replace HQ1 := Aside0.mk (Kd.S_below HQ1.out hA)
        replace HQ2 := Aside0.mk (Kd.S_below HQ2.out hA)
        replace HY := Aside0.mk (Kd.R_below HY.out hA)
        replace H4 := Aside0.mk (blk_below H4.out hA)
        replace HD := Aside0.mk (below_step HD.out hA)
        clear hA hHeld
        clear HY
        clear HQ1
        clear HQ2
        refine hK.out _ _ (by exact HSS.out _ HD.out) (fun hHeld => ?_)
        clear hK K
        refine norm_ (a' := ?_) ?_ ?_
        rotate_left
        · show Act.put _ (some 42) _ = _
          simp only [Act.put, List.setIfInBounds_toArray, List.set_cons_zero, List.set_cons_succ, i64_w, i32_w]
          rfl
        refine pure_ (i := 4) (N := some 38) (v := ?_) (a' := ?_) #[true, true, true, true, true, false, false, true, false, false] rfl rfl (any_of HT_.out (by kernel_rfl)) (fun _ _ _ h => h) (Or.inl ⟨by rfl, ?_⟩) ?_ ?_
        rotate_left
        · intro w'
          go_simp
          with_reducible rfl
        rotate_left
        · simp only [Act.put, List.setIfInBounds_toArray, List.set_cons_zero, List.set_cons_succ, i64_w, i32_w]
          rfl
        refine pure_ (i := 5) (N := some 43) (v := ?_) (a' := ?_) #[true, true, true, true, true, true, false, true, false, false] rfl rfl (any_of HT_.out (by kernel_rfl)) (fun _ _ _ h => h) (Or.inl ⟨by rfl, ?_⟩) ?_ ?_
        rotate_left
        · intro w'
          go_simp
          with_reducible rfl
        rotate_left
        · simp only [Act.put, List.setIfInBounds_toArray, List.set_cons_zero, List.set_cons_succ, i64_w, i32_w]
          rfl
        refine pure_ (i := 6) (N := some 44) (v := ?_) (a' := ?_) #[true, true, true, true, true, true, true, true, false, false] rfl rfl (any_of HT_.out (by kernel_rfl)) (fun _ _ _ h => h) (Or.inl ⟨by rfl, ?_⟩) ?_ ?_
        rotate_left
        · intro w'
          go_simp
          with_reducible rfl
        rotate_left
        · simp only [Act.put, List.setIfInBounds_toArray, List.set_cons_zero, List.set_cons_succ, i64_w, i32_w]
          rfl
        refine last_ (i := 8) (N := none) #[true, true, true, true, true, true, true, true, true, false] rfl rfl (one_of HT_.out (by kernel_rfl)) (by decide) (fun K hK => ?_)
        have hz0 : Wc6.cell? ⟨g4, 0, none⟩ = some (.slice none 0 0) := (blk_cell H4.out 0).trans rfl
        have hz1 : Wc6.cell? ⟨g4, 1, none⟩ = some (.slice none 0 0) := (blk_cell H4.out 1).trans rfl
        have hf0 := blk_frozen H4.out 0
        have hf1 := blk_frozen H4.out 1
        refine skip_ (w1 := ?_) (by rfl) rfl ?_ ?_
        rotate_left
        · go_simp
          rfl
        refine hK.out _ _ ?_
        refine pure_ (i := 9) (N := some 10) (v := ?_) (a' := ?_) #[true, true, true, true, true, true, true, true, true, true] rfl rfl (any_of HT_.out (by kernel_rfl)) (fun _ _ _ h => h) (Or.inl ⟨by rfl, ?_⟩) ?_ ?_
        rotate_left
        · intro w'
          go_simp
          with_reducible rfl
        rotate_left
        · simp only [Act.put, List.setIfInBounds_toArray, List.set_cons_zero, List.set_cons_succ, i64_w, i32_w]
          rfl
        refine done_ (done_of HT_.out (by kernel_rfl)) ?_
        try go_wp2
        go_meet
        exact ⟨rfl, ⟨below_set (below_set HD.out HLD.out) HLD.out⟩⟩
    · skip
      refine value_ (w1 := ?_) (v := ?_) (by rfl) rfl ?_ ?_
      rotate_left 2
      · go_simp
        constructor
        · rfl
        · rfl
      have hA := below_alloc (Below.refl Wd.heap.size Wd) (.cells #[.slice none 0 0, .slice none 0 0] 25)
      have H4 := Aside0.mk (heap_alloc_new Wd (.cells #[.slice none 0 0, .slice none 0 0] 25))
      have HLE := Aside0.mk (show w.heap.size ≤ Wd.heap.size from below_size HB.out)
      have HLD := Aside0.mk (show w4.heap.size ≤ Wd.heap.size from below_size HD.out)
      replace HB := Aside0.mk (below_step HB.out hA)
      replace HQ1 := Aside0.mk (Kd.S_below HQ1.out hA)
      replace HQ2 := Aside0.mk (Kd.S_below HQ2.out hA)
      replace HD := Aside0.mk (below_step HD.out hA)
      clear hA hHeld
      generalize Wd.alloc (.cells #[.slice none 0 0, .slice none 0 0] 25) = Wa8 at HD HB HQ1 HQ2 H4 ⊢
      generalize Wd.heap.size = g4 at H4 HLE HLD ⊢
      refine hK.out _ _ (by exact HSS.out _ HD.out) (fun hHeld => ?_)
      clear hK K
      refine norm_ (a' := ?_) ?_ ?_
      rotate_left
      · show Act.put _ (some 9) _ = _
        simp only [Act.put, List.setIfInBounds_toArray, List.set_cons_zero, List.set_cons_succ, i64_w, i32_w]
        rfl
      refine one_ (i := 1) (N := some 40) #[true, true, false, false, false, false, false, true, false, false] rfl rfl (one_of HT_.out (by kernel_rfl)) (by decide) (fun K hK => ?_)
      refine goes_ Try.func19 (by kernel_rfl) rfl #[.int .u8 122] (by rfl) rfl rfl (by (try simp only [List.map_toArray, List.map_cons, List.map_nil]); first | done | rfl | (simp only [List.length_drop, List.length_take]; rfl)) ?_
      refine (catamaranlaw05_of.calls 50 122 (of32 122) Wa8 nm_of).mono ?_
      rintro e Wc9 ⟨v1, rfl, ho, hA⟩
      obtain ⟨gy, y, e1, hy⟩ := R_block ho (by decide)
      rw [show (of32 122).length = 32 from rfl] at e1 hy
      subst e1
      have HY := Aside0.mk ho
      have hy1 : ¬ y = 1 := by omega
      have hy2 : ¬ (y : Int) = 1 := by omega
      have hy3 : 1 ≤ y := by omega
      have hy4 : (1 : Int) ≤ y := by omega
      clear ho
      refine ⟨_, rfl, ?_⟩
      replace HB := Aside0.mk (below_step HB.out hA)
      replace HQ1 := Aside0.mk (Kd.S_below HQ1.out hA)
      replace HQ2 := Aside0.mk (Kd.S_below HQ2.out hA)
      replace H4 := Aside0.mk (blk_below H4.out hA)
      replace HD := Aside0.mk (below_step HD.out hA)
      clear hA hHeld
      refine hK.out _ _ (by exact HSS.out _ HD.out) (fun hHeld => ?_)
      clear hK K
      refine norm_ (a' := ?_) ?_ ?_
      rotate_left
      · show Act.put _ (some 40) _ = _
        simp only [Act.put, List.setIfInBounds_toArray, List.set_cons_zero, List.set_cons_succ, i64_w, i32_w]
        rfl
      refine pure_ (i := 2) (N := some 41) (v := ?_) (a' := ?_) #[true, true, true, false, false, false, false, true, false, false] rfl rfl (any_of HT_.out (by kernel_rfl)) (fun _ _ _ h => h) (Or.inl ⟨by rfl, ?_⟩) ?_ ?_
      rotate_left
      · intro w'
        go_simp
        with_reducible rfl
      rotate_left
      · simp only [Act.put, List.setIfInBounds_toArray, List.set_cons_zero, List.set_cons_succ, i64_w, i32_w]
        rfl
      refine one_ (i := 3) (N := some 42) #[true, true, true, true, false, false, false, true, false, false] rfl rfl (one_of HT_.out (by kernel_rfl)) (by decide) (fun K hK => ?_)
      refine goes_ Try.func18 (by kernel_rfl) rfl #[.agg #[.slice Ad0 twoS.length cd0, .slice Ad1 two2.length cd1], .int .i64 0, .slice (some ⟨gy, 1, none⟩) 31 (y - 1)] (by rfl) rfl rfl (by (try simp only [List.map_toArray, List.map_cons, List.map_nil]); first | done | rfl | (simp only [List.length_drop, List.length_take]; rfl)) ?_
      refine (hWrite.calls Ad0 cd0 twoS Ad1 cd1 two2 0 (some ⟨gy, 1, none⟩) (y - 1) (List.replicate 31 122) [] [] 2 Wc9 (Kd.S_reads' HQ1.out).2.2 (Kd.S_reads' HQ1.out).2.1 (Kd.S_reads' HQ2.out).2.2 (Kd.S_reads' HQ2.out).2.1 (tail_C (x := 122) (Kd.R_reads' HY.out).2.2) (by rw [List.length_replicate]; omega) nm_short).mono ?_
      rintro e Wc10 ⟨v1, v2, rfl, ho1, ho2, hA⟩
      obtain ⟨X1, x1, e1⟩ := Kd.S_slice ho1
      subst e1
      obtain ⟨X2, x2, e2⟩ := Kd.S_slice ho2
      subst e2
      clear ho1 ho2
      refine ⟨_, rfl, ?_⟩
      replace HB := Aside0.mk (below_step HB.out hA)
      replace HQ1 := Aside0.mk (Kd.S_below HQ1.out hA)
      replace HQ2 := Aside0.mk (Kd.S_below HQ2.out hA)
      replace H4 := Aside0.mk (blk_below H4.out hA)
      replace HY := Aside0.mk (Kd.R_below HY.out hA)
      replace HD := Aside0.mk (below_step HD.out hA)
      clear hA hHeld
      clear HY
      clear HQ1
      clear HQ2
      refine hK.out _ _ (by exact HSS.out _ HD.out) (fun hHeld => ?_)
      clear hK K
      refine norm_ (a' := ?_) ?_ ?_
      rotate_left
      · show Act.put _ (some 42) _ = _
        simp only [Act.put, List.setIfInBounds_toArray, List.set_cons_zero, List.set_cons_succ, i64_w, i32_w]
        rfl
      refine pure_ (i := 4) (N := some 38) (v := ?_) (a' := ?_) #[true, true, true, true, true, false, false, true, false, false] rfl rfl (any_of HT_.out (by kernel_rfl)) (fun _ _ _ h => h) (Or.inl ⟨by rfl, ?_⟩) ?_ ?_
      rotate_left
      · intro w'
        go_simp
        with_reducible rfl
      rotate_left
      · simp only [Act.put, List.setIfInBounds_toArray, List.set_cons_zero, List.set_cons_succ, i64_w, i32_w]
        rfl
      refine pure_ (i := 5) (N := some 43) (v := ?_) (a' := ?_) #[true, true, true, true, true, true, false, true, false, false] rfl rfl (any_of HT_.out (by kernel_rfl)) (fun _ _ _ h => h) (Or.inl ⟨by rfl, ?_⟩) ?_ ?_
      rotate_left
      · intro w'
        go_simp
        with_reducible rfl
      rotate_left
      · simp only [Act.put, List.setIfInBounds_toArray, List.set_cons_zero, List.set_cons_succ, i64_w, i32_w]
        rfl
      refine pure_ (i := 6) (N := some 44) (v := ?_) (a' := ?_) #[true, true, true, true, true, true, true, true, false, false] rfl rfl (any_of HT_.out (by kernel_rfl)) (fun _ _ _ h => h) (Or.inl ⟨by rfl, ?_⟩) ?_ ?_
      rotate_left
      · intro w'
        go_simp
        with_reducible rfl
      rotate_left
      · simp only [Act.put, List.setIfInBounds_toArray, List.set_cons_zero, List.set_cons_succ, i64_w, i32_w]
        rfl
      refine last_ (i := 8) (N := none) #[true, true, true, true, true, true, true, true, true, false] rfl rfl (one_of HT_.out (by kernel_rfl)) (by decide) (fun K hK => ?_)
      have hz0 : Wc10.cell? ⟨g4, 0, none⟩ = some (.slice none 0 0) := (blk_cell H4.out 0).trans rfl
      have hz1 : Wc10.cell? ⟨g4, 1, none⟩ = some (.slice none 0 0) := (blk_cell H4.out 1).trans rfl
      have hf0 := blk_frozen H4.out 0
      have hf1 := blk_frozen H4.out 1
      refine skip_ (w1 := ?_) (by rfl) rfl ?_ ?_
      rotate_left
      · go_simp
        rfl
      refine hK.out _ _ ?_
      refine pure_ (i := 9) (N := some 10) (v := ?_) (a' := ?_) #[true, true, true, true, true, true, true, true, true, true] rfl rfl (any_of HT_.out (by kernel_rfl)) (fun _ _ _ h => h) (Or.inl ⟨by rfl, ?_⟩) ?_ ?_
      rotate_left
      · intro w'
        go_simp
        with_reducible rfl
      rotate_left
      · simp only [Act.put, List.setIfInBounds_toArray, List.set_cons_zero, List.set_cons_succ, i64_w, i32_w]
        rfl
      refine done_ (done_of HT_.out (by kernel_rfl)) ?_
      try go_wp2
      go_meet
      exact ⟨rfl, ⟨below_set (below_set HD.out HLD.out) HLD.out⟩⟩
  case rest =>
  obtain ⟨rfl, HD⟩ := hcut
  replace HB := Aside0.mk (below_step HB.out HD.out)
  replace HQ1 := Aside0.mk (Kd.S_lower (Kd.S_below HQ1.out HD.out) (below_size (below_alloc (below_step (below_alloc (below_step (Below.refl _ _) HS1.out) (.cells #[.slice Aa0 ([] : List S39).length ca0, .slice Aa1 ([] : List S49).length ca1] 25)) HS2.out) (.cells #[.slice Ab0 ([] : List S39).length cb0, .slice Ab1 ([] : List S49).length cb1] 25))))
  replace HQ2 := Aside0.mk (Kd.S_lower (Kd.S_below HQ2.out HD.out) (below_size (below_alloc (below_step (below_alloc (below_step (Below.refl _ _) HS1.out) (.cells #[.slice Aa0 ([] : List S39).length ca0, .slice Aa1 ([] : List S49).length ca1] 25)) HS2.out) (.cells #[.slice Ab0 ([] : List S39).length cb0, .slice Ab1 ([] : List S49).length cb1] 25))))
  replace H2 := Aside0.mk (blk_below H2.out HD.out)
  have Hw3.heap.size := Aside0.mk (show w.heap.size ≤ w3.heap.size from below_size (below_step (below_alloc (below_step (below_alloc (below_step (Below.refl _ _) HS1.out) (.cells #[.slice Aa0 ([] : List S39).length ca0, .slice Aa1 ([] : List S49).length ca1] 25)) HS2.out) (.cells #[.slice Ab0 ([] : List S39).length cb0, .slice Ab1 ([] : List S49).length cb1] 25)) HS3.out))
  clear HSS HD
  generalize w3.heap.size = gd at H2 Hw3.heap.size ⊢
  have hq0 : wc.cell? ⟨gd, 0, none⟩ = some (.slice Ad0 twoS.length cd0) := (blk_cell H2.out 0).trans rfl
  have hq1 : wc.cell? ⟨gd, 1, none⟩ = some (.slice Ad1 two2.length cd1) := (blk_cell H2.out 1).trans rfl
  go_upto_block 0 with (first
    | (go_at_call 20; clear TK5; have TK6 := Aside0.mk (show 0 = 0 from rfl); refine (hWaits.calls Ad0 cd0 twoS Ad1 cd1 two2 0 false 0 _ (Kd.S_reads' HQ1.out).2.2 (Kd.S_reads' HQ1.out).2.1 (Kd.S_reads' HQ2.out).2.2 (Kd.S_reads' HQ2.out).2.1 nm_waits0).mono ?_; rintro e w5 ⟨rfl, hb_⟩; replace HB := Aside0.mk (below_step HB.out hb_); replace HQ1 := Aside0.mk (Kd.S_below HQ1.out hb_); replace HQ2 := Aside0.mk (Kd.S_below HQ2.out hb_); replace H2 := Aside0.mk (blk_below H2.out hb_); clear hq0 hq1; have hq0 : w5.cell? ⟨gd, 0, none⟩ = some (.slice Ad0 twoS.length cd0) := (blk_cell H2.out 0).trans rfl; have hq1 : w5.cell? ⟨gd, 1, none⟩ = some (.slice Ad1 two2.length cd1) := (blk_cell H2.out 1).trans rfl; clear hb_)
    | (go_at_call 20; clear TK6; have TK7 := Aside0.mk (show 0 = 0 from rfl); refine (hWaits.calls Ad0 cd0 twoS Ad1 cd1 two2 1 true 0 _ (Kd.S_reads' HQ1.out).2.2 (Kd.S_reads' HQ1.out).2.1 (Kd.S_reads' HQ2.out).2.2 (Kd.S_reads' HQ2.out).2.1 nm_waits1).mono ?_; rintro e w6 ⟨rfl, hb_⟩; replace HB := Aside0.mk (below_step HB.out hb_); replace HQ1 := Aside0.mk (Kd.S_below HQ1.out hb_); replace HQ2 := Aside0.mk (Kd.S_below HQ2.out hb_); replace H2 := Aside0.mk (blk_below H2.out hb_); clear hq0 hq1; have hq0 : w6.cell? ⟨gd, 0, none⟩ = some (.slice Ad0 twoS.length cd0) := (blk_cell H2.out 0).trans rfl; have hq1 : w6.cell? ⟨gd, 1, none⟩ = some (.slice Ad1 two2.length cd1) := (blk_cell H2.out 1).trans rfl; clear hb_))
  clear hq0 hq1
  go_wp2_with fail
  go_loopw [15] (fun iv wr => ∃ k : Nat, k ≤ 62 ∧ iv = .int .i64 k ∧ ∃ Q1 q1 Q2 q2, Aside0 (wr.heap[gd]? = some (.cells #[.slice Q1 twoS.length q1, .slice Q2 (dk k).length q2] 25 (0, 0))) ∧ Aside0 (Kd.S k39 39 wr w.heap.size (fun _ => True) (.slice Q1 twoS.length q1) twoS) ∧ Aside0 (Kd.S k49 49 wr w.heap.size (fun _ => True) (.slice Q2 (dk k).length q2) (dk k)) ∧ Aside0 (Below w.heap.size w wr)) (fun iv _ => 62 - (intOf iv).toNat)
  case atStart => exact ⟨0, by omega, rfl, Ad0, cd0, Ad1, cd1, H2, HQ1, HQ2, HB⟩
  case round =>
    clear H2 HQ1 HQ2 HB
    obtain ⟨k, hk, rfl, Q1, q1, Q2, q2, H2, HQ1, HQ2, HB⟩ := hrel
    by_cases hlt : k < 62
    · have hlt' : (k : Int) < 62 := by omega
      go_wp2_with fail
      have HSS := Aside0.mk (show ∀ W : World, Below wr.heap.size wr W → W.cell? ⟨gd, 0, none⟩ = some (.slice Q1 twoS.length q1) ∧ W.cell? ⟨gd, 1, none⟩ = some (.slice Q2 (dk k).length q2) from fun W hb => ⟨(blk_cell (blk_below H2.out hb) 0).trans rfl, (blk_cell (blk_below H2.out hb) 1).trans rfl⟩)
      go_cut [16, 17] from 59 to 64 (fun sp se wx => ∃ g4 X1 x1 X2 x2, sp = .pointer (some ⟨g4, 0, none⟩) ∧ se = .int .i64 0 ∧ Aside0 (wx.heap[g4]? = some (.cells #[.slice X1 (twoS).length x1, .slice X2 (dk (k + 1)).length x2] 25 (0, 0))) ∧ Aside0 (Kd.S k39 39 wx w.heap.size (fun _ => True) (.slice X1 (twoS).length x1) (twoS)) ∧ Aside0 (Kd.S k49 49 wx w.heap.size (fun _ => True) (.slice X2 (dk (k + 1)).length x2) (dk (k + 1))) ∧ Aside0 (Below wr.heap.size wr wx) ∧ Aside0 (wr.heap.size ≤ g4))
      case first =>
        refine start_ (n := 9) (S := fun w' => w'.cell? ⟨gd, 0, none⟩ = some (.slice Q1 twoS.length q1) ∧ w'.cell? ⟨gd, 1, none⟩ = some (.slice Q2 (dk k).length q2)) (ds := [7]) #[false, false, false, false, false, false, false, false, false] (by kernel_rfl) rfl rfl (by exact HSS.out _ (bdr1 (Below.refl _ _))) (fun hHeld => ?_); refine wtW law4.tab11 law4.bits11 (fun HT_ HW_ => ?_)
        have HD := Aside0.mk (bdr1 (Below.refl wr.heap.size wr))
        replace HB := Aside0.mk (below_step HB.out (bdr1 (Below.refl wr.heap.size wr)))
        replace HQ1 := Aside0.mk (Kd.S_below HQ1.out (bdr1 (Below.refl wr.heap.size wr)))
        replace HQ2 := Aside0.mk (Kd.S_below HQ2.out (bdr1 (Below.refl wr.heap.size wr)))
        generalize wr.drew = Wd at HD HB HQ1 HQ2 hHeld ⊢
        refine take_ (i := 0) (N := some 60) (v := ?_) (a' := ?_) #[true, false, false, false, false, false, false, false, false] rfl rfl (take_ofW HT_.out HW_.out (by kernel_rfl)) (fun _ _ _ h => h) (Or.inl ⟨by rfl, ?_⟩) hHeld ?_ ?_
        rotate_left
        · rintro w' ⟨s0, s1⟩
          go_simp
          with_reducible rfl
        rotate_left
        · simp only [Act.put, List.setIfInBounds_toArray, List.set_cons_zero, List.set_cons_succ, i64_w, i32_w]
          rfl
        refine two_ (i := 1) (j := 6) (Ni := some 61) (Nj := some 16) #[true, true, false, false, false, false, false, false, false] #[true, false, false, false, false, false, true, false, false] rfl rfl rfl rfl (two_of HT_.out (by kernel_rfl)) (by decide) (by decide) (fun K hK => ?_) (fun K hK => ?_)
        · skip
          refine goes_ Try.func19 (by kernel_rfl) rfl #[.int .u8 122] (by rfl) rfl rfl (by (try simp only [List.map_toArray, List.map_cons, List.map_nil]); first | done | rfl | (simp only [List.length_drop, List.length_take]; rfl)) ?_
          refine (catamaranlaw05_of.calls 50 122 (of32 122) Wd nm_of).mono ?_
          rintro e Wc1 ⟨v1, rfl, ho, hA⟩
          obtain ⟨Y, y, ey⟩ := Kd.R_slice ho
          subst ey
          have HY := Aside0.mk (Kd.R_reads' ho).2.2
          have HYL := Aside0.mk (Kd.R_reads' ho).2.1
          clear ho
          refine ⟨_, rfl, ?_⟩
          replace HB := Aside0.mk (below_step HB.out hA)
          replace HQ1 := Aside0.mk (Kd.S_below HQ1.out hA)
          replace HQ2 := Aside0.mk (Kd.S_below HQ2.out hA)
          replace HD := Aside0.mk (below_step HD.out hA)
          clear hA hHeld
          refine hK.out _ _ (by exact HSS.out _ HD.out) (fun hHeld => ?_)
          clear hK K
          refine norm_ (a' := ?_) ?_ ?_
          rotate_left
          · show Act.put _ (some 61) _ = _
            simp only [Act.put, List.setIfInBounds_toArray, List.set_cons_zero, List.set_cons_succ, i64_w, i32_w]
            rfl
          refine two_ (i := 2) (j := 6) (Ni := some 62) (Nj := some 16) #[true, true, true, false, false, false, false, false, false] #[true, true, false, false, false, false, true, false, false] rfl rfl rfl rfl (two_of HT_.out (by kernel_rfl)) (by decide) (by decide) (fun K hK => ?_) (fun K hK => ?_)
          · skip
            refine goes_ Try.func18 (by kernel_rfl) rfl #[.agg #[.slice Q1 twoS.length q1, .slice Q2 (dk k).length q2], .int .i64 0, .slice Y (of32 122).length y] (by rfl) rfl rfl (by (try simp only [List.map_toArray, List.map_cons, List.map_nil]); first | done | rfl | (simp only [List.length_drop, List.length_take]; rfl)) ?_
            refine (hWrite.calls Q1 q1 twoS Q2 q2 (dk k) 0 Y y (of32 122) (twoS) (dk (k + 1)) 0 Wc1 (Kd.S_reads' HQ1.out).2.2 (Kd.S_reads' HQ1.out).2.1 (Kd.S_reads' HQ2.out).2.2 (Kd.S_reads' HQ2.out).2.1 HY.out HYL.out (dk_write k hlt)).mono ?_
            rintro e Wc2 ⟨v1, v2, rfl, ho1, ho2, hA⟩
            obtain ⟨X1, x1, e1⟩ := Kd.S_slice ho1
            subst e1
            obtain ⟨X2, x2, e2⟩ := Kd.S_slice ho2
            subst e2
            have HX1 := Aside0.mk (Kd.S_lower ho1 (below_size HB.out))
            have HX2 := Aside0.mk (Kd.S_lower ho2 (below_size HB.out))
            clear ho1 ho2
            refine ⟨_, rfl, ?_⟩
            replace HB := Aside0.mk (below_step HB.out hA)
            replace HQ1 := Aside0.mk (Kd.S_below HQ1.out hA)
            replace HQ2 := Aside0.mk (Kd.S_below HQ2.out hA)
            replace HY := Aside0.mk (Kd.C_below HY.out hA)
            replace HD := Aside0.mk (below_step HD.out hA)
            clear hA hHeld
            clear HY
            clear HQ1
            clear HQ2
            refine hK.out _ _ (by exact HSS.out _ HD.out) (fun hHeld => ?_)
            clear hK K
            refine norm_ (a' := ?_) ?_ ?_
            rotate_left
            · show Act.put _ (some 62) _ = _
              simp only [Act.put, List.setIfInBounds_toArray, List.set_cons_zero, List.set_cons_succ, i64_w, i32_w]
              rfl
            refine pure_ (i := 3) (N := some 59) (v := ?_) (a' := ?_) #[true, true, true, true, false, false, false, false, false] rfl rfl (any_of HT_.out (by kernel_rfl)) (fun _ _ _ h => h) (Or.inl ⟨by rfl, ?_⟩) ?_ ?_
            rotate_left
            · intro w'
              go_simp
              with_reducible rfl
            rotate_left
            · simp only [Act.put, List.setIfInBounds_toArray, List.set_cons_zero, List.set_cons_succ, i64_w, i32_w]
              rfl
            refine pure_ (i := 4) (N := some 63) (v := ?_) (a' := ?_) #[true, true, true, true, true, false, false, false, false] rfl rfl (any_of HT_.out (by kernel_rfl)) (fun _ _ _ h => h) (Or.inl ⟨by rfl, ?_⟩) ?_ ?_
            rotate_left
            · intro w'
              go_simp
              with_reducible rfl
            rotate_left
            · simp only [Act.put, List.setIfInBounds_toArray, List.set_cons_zero, List.set_cons_succ, i64_w, i32_w]
              rfl
            refine pure_ (i := 5) (N := some 64) (v := ?_) (a' := ?_) #[true, true, true, true, true, true, false, false, false] rfl rfl (any_of HT_.out (by kernel_rfl)) (fun _ _ _ h => h) (Or.inl ⟨by rfl, ?_⟩) ?_ ?_
            rotate_left
            · intro w'
              go_simp
              with_reducible rfl
            rotate_left
            · simp only [Act.put, List.setIfInBounds_toArray, List.set_cons_zero, List.set_cons_succ, i64_w, i32_w]
              rfl
            refine one_ (i := 6) (N := some 16) #[true, true, true, true, true, true, true, false, false] rfl rfl (one_of HT_.out (by kernel_rfl)) (by decide) (fun K hK => ?_)
            refine value_ (w1 := ?_) (v := ?_) (by rfl) rfl ?_ ?_
            rotate_left 2
            · go_simp
              constructor
              · rfl
              · rfl
            have hA := below_alloc (Below.refl Wc2.heap.size Wc2) (.cells #[.slice none 0 0, .slice none 0 0] 25)
            have H4 := Aside0.mk (heap_alloc_new Wc2 (.cells #[.slice none 0 0, .slice none 0 0] 25))
            have HLD := Aside0.mk (show wr.heap.size ≤ Wc2.heap.size from below_size HD.out)
            replace HB := Aside0.mk (below_step HB.out hA)
            replace HX1 := Aside0.mk (Kd.S_below HX1.out hA)
            replace HX2 := Aside0.mk (Kd.S_below HX2.out hA)
            replace HD := Aside0.mk (below_step HD.out hA)
            clear hA hHeld
            generalize Wc2.alloc (.cells #[.slice none 0 0, .slice none 0 0] 25) = Wa3 at HD HB HX1 HX2 H4 ⊢
            generalize Wc2.heap.size = g4 at H4 HLD ⊢
            refine hK.out _ _ (by exact HSS.out _ HD.out) (fun hHeld => ?_)
            clear hK K
            refine norm_ (a' := ?_) ?_ ?_
            rotate_left
            · show Act.put _ (some 16) _ = _
              simp only [Act.put, List.setIfInBounds_toArray, List.set_cons_zero, List.set_cons_succ, i64_w, i32_w]
              rfl
            refine last_ (i := 7) (N := none) #[true, true, true, true, true, true, true, true, false] rfl rfl (one_of HT_.out (by kernel_rfl)) (by decide) (fun K hK => ?_)
            have hz0 : Wa3.cell? ⟨g4, 0, none⟩ = some (.slice none 0 0) := (blk_cell H4.out 0).trans rfl
            have hz1 : Wa3.cell? ⟨g4, 1, none⟩ = some (.slice none 0 0) := (blk_cell H4.out 1).trans rfl
            have hf0 := blk_frozen H4.out 0
            have hf1 := blk_frozen H4.out 1
            refine skip_ (w1 := ?_) (by rfl) rfl ?_ ?_
            rotate_left
            · go_simp
              rfl
            refine hK.out _ _ ?_
            refine pure_ (i := 8) (N := some 17) (v := ?_) (a' := ?_) #[true, true, true, true, true, true, true, true, true] rfl rfl (any_of HT_.out (by kernel_rfl)) (fun _ _ _ h => h) (Or.inl ⟨by rfl, ?_⟩) ?_ ?_
            rotate_left
            · intro w'
              go_simp
              with_reducible rfl
            rotate_left
            · simp only [Act.put, List.setIfInBounds_toArray, List.set_cons_zero, List.set_cons_succ, i64_w, i32_w]
              rfl
            refine done_ (done_of HT_.out (by kernel_rfl)) ?_
            try go_wp2
            go_meet
            have n52 : ∀ q, q ∈ 39 :: k39.E → q ≠ 25 := by decide
            have n65 : ∀ q, q ∈ 49 :: k49.E → q ≠ 25 := by decide
            have hr1 := blk_put (cs := #[.slice none 0 0, .slice none 0 0]) H4.out 0 (.slice X1 (twoS).length x1) rfl
            have hr2 := blk_put (cs := #[.slice X1 (twoS).length x1, .slice none 0 0]) hr1 1 (.slice X2 (dk (k + 1)).length x2) rfl
            exact ⟨g4, X1, x1, X2, x2, rfl, rfl, ⟨hr2⟩, ⟨Kd.S_set (Kd.S_set HX1.out H4.out n52 _ _) hr1 n52 _ _⟩, ⟨Kd.S_set (Kd.S_set HX2.out H4.out n65 _ _) hr1 n65 _ _⟩, ⟨below_set (below_set HD.out HLD.out) HLD.out⟩, HLD⟩
          · skip
            refine value_ (w1 := ?_) (v := ?_) (by rfl) rfl ?_ ?_
            rotate_left 2
            · go_simp
              constructor
              · rfl
              · rfl
            have hA := below_alloc (Below.refl Wc1.heap.size Wc1) (.cells #[.slice none 0 0, .slice none 0 0] 25)
            have H4 := Aside0.mk (heap_alloc_new Wc1 (.cells #[.slice none 0 0, .slice none 0 0] 25))
            have HLD := Aside0.mk (show wr.heap.size ≤ Wc1.heap.size from below_size HD.out)
            replace HB := Aside0.mk (below_step HB.out hA)
            replace HQ1 := Aside0.mk (Kd.S_below HQ1.out hA)
            replace HQ2 := Aside0.mk (Kd.S_below HQ2.out hA)
            replace HY := Aside0.mk (Kd.C_below HY.out hA)
            replace HD := Aside0.mk (below_step HD.out hA)
            clear hA hHeld
            generalize Wc1.alloc (.cells #[.slice none 0 0, .slice none 0 0] 25) = Wa5 at HD HB HQ1 HQ2 HY H4 ⊢
            generalize Wc1.heap.size = g4 at H4 HLD ⊢
            refine hK.out _ _ (by exact HSS.out _ HD.out) (fun hHeld => ?_)
            clear hK K
            refine norm_ (a' := ?_) ?_ ?_
            rotate_left
            · show Act.put _ (some 16) _ = _
              simp only [Act.put, List.setIfInBounds_toArray, List.set_cons_zero, List.set_cons_succ, i64_w, i32_w]
              rfl
            refine one_ (i := 2) (N := some 62) #[true, true, true, false, false, false, true, false, false] rfl rfl (one_of HT_.out (by kernel_rfl)) (by decide) (fun K hK => ?_)
            refine goes_ Try.func18 (by kernel_rfl) rfl #[.agg #[.slice Q1 twoS.length q1, .slice Q2 (dk k).length q2], .int .i64 0, .slice Y (of32 122).length y] (by rfl) rfl rfl (by (try simp only [List.map_toArray, List.map_cons, List.map_nil]); first | done | rfl | (simp only [List.length_drop, List.length_take]; rfl)) ?_
            refine (hWrite.calls Q1 q1 twoS Q2 q2 (dk k) 0 Y y (of32 122) (twoS) (dk (k + 1)) 0 Wa5 (Kd.S_reads' HQ1.out).2.2 (Kd.S_reads' HQ1.out).2.1 (Kd.S_reads' HQ2.out).2.2 (Kd.S_reads' HQ2.out).2.1 HY.out HYL.out (dk_write k hlt)).mono ?_
            rintro e Wc6 ⟨v1, v2, rfl, ho1, ho2, hA⟩
            obtain ⟨X1, x1, e1⟩ := Kd.S_slice ho1
            subst e1
            obtain ⟨X2, x2, e2⟩ := Kd.S_slice ho2
            subst e2
            have HX1 := Aside0.mk (Kd.S_lower ho1 (below_size HB.out))
            have HX2 := Aside0.mk (Kd.S_lower ho2 (below_size HB.out))
            clear ho1 ho2
            refine ⟨_, rfl, ?_⟩
            replace HB := Aside0.mk (below_step HB.out hA)
            replace HQ1 := Aside0.mk (Kd.S_below HQ1.out hA)
            replace HQ2 := Aside0.mk (Kd.S_below HQ2.out hA)
            replace HY := Aside0.mk (Kd.C_below HY.out hA)
            replace H4 := Aside0.mk (blk_below H4.out hA)
            replace HD := Aside0.mk (below_step HD.out hA)
            clear hA hHeld
            clear HY
            clear HQ1
            clear HQ2
            refine hK.out _ _ (by exact HSS.out _ HD.out) (fun hHeld => ?_)
            clear hK K
            refine norm_ (a' := ?_) ?_ ?_
            rotate_left
            · show Act.put _ (some 62) _ = _
              simp only [Act.put, List.setIfInBounds_toArray, List.set_cons_zero, List.set_cons_succ, i64_w, i32_w]
              rfl
            refine pure_ (i := 3) (N := some 59) (v := ?_) (a' := ?_) #[true, true, true, true, false, false, true, false, false] rfl rfl (any_of HT_.out (by kernel_rfl)) (fun _ _ _ h => h) (Or.inl ⟨by rfl, ?_⟩) ?_ ?_
            rotate_left
            · intro w'
              go_simp
              with_reducible rfl
            rotate_left
            · simp only [Act.put, List.setIfInBounds_toArray, List.set_cons_zero, List.set_cons_succ, i64_w, i32_w]
              rfl
            refine pure_ (i := 4) (N := some 63) (v := ?_) (a' := ?_) #[true, true, true, true, true, false, true, false, false] rfl rfl (any_of HT_.out (by kernel_rfl)) (fun _ _ _ h => h) (Or.inl ⟨by rfl, ?_⟩) ?_ ?_
            rotate_left
            · intro w'
              go_simp
              with_reducible rfl
            rotate_left
            · simp only [Act.put, List.setIfInBounds_toArray, List.set_cons_zero, List.set_cons_succ, i64_w, i32_w]
              rfl
            refine pure_ (i := 5) (N := some 64) (v := ?_) (a' := ?_) #[true, true, true, true, true, true, true, false, false] rfl rfl (any_of HT_.out (by kernel_rfl)) (fun _ _ _ h => h) (Or.inl ⟨by rfl, ?_⟩) ?_ ?_
            rotate_left
            · intro w'
              go_simp
              with_reducible rfl
            rotate_left
            · simp only [Act.put, List.setIfInBounds_toArray, List.set_cons_zero, List.set_cons_succ, i64_w, i32_w]
              rfl
            refine last_ (i := 7) (N := none) #[true, true, true, true, true, true, true, true, false] rfl rfl (one_of HT_.out (by kernel_rfl)) (by decide) (fun K hK => ?_)
            have hz0 : Wc6.cell? ⟨g4, 0, none⟩ = some (.slice none 0 0) := (blk_cell H4.out 0).trans rfl
            have hz1 : Wc6.cell? ⟨g4, 1, none⟩ = some (.slice none 0 0) := (blk_cell H4.out 1).trans rfl
            have hf0 := blk_frozen H4.out 0
            have hf1 := blk_frozen H4.out 1
            refine skip_ (w1 := ?_) (by rfl) rfl ?_ ?_
            rotate_left
            · go_simp
              rfl
            refine hK.out _ _ ?_
            refine pure_ (i := 8) (N := some 17) (v := ?_) (a' := ?_) #[true, true, true, true, true, true, true, true, true] rfl rfl (any_of HT_.out (by kernel_rfl)) (fun _ _ _ h => h) (Or.inl ⟨by rfl, ?_⟩) ?_ ?_
            rotate_left
            · intro w'
              go_simp
              with_reducible rfl
            rotate_left
            · simp only [Act.put, List.setIfInBounds_toArray, List.set_cons_zero, List.set_cons_succ, i64_w, i32_w]
              rfl
            refine done_ (done_of HT_.out (by kernel_rfl)) ?_
            try go_wp2
            go_meet
            have n52 : ∀ q, q ∈ 39 :: k39.E → q ≠ 25 := by decide
            have n65 : ∀ q, q ∈ 49 :: k49.E → q ≠ 25 := by decide
            have hr1 := blk_put (cs := #[.slice none 0 0, .slice none 0 0]) H4.out 0 (.slice X1 (twoS).length x1) rfl
            have hr2 := blk_put (cs := #[.slice X1 (twoS).length x1, .slice none 0 0]) hr1 1 (.slice X2 (dk (k + 1)).length x2) rfl
            exact ⟨g4, X1, x1, X2, x2, rfl, rfl, ⟨hr2⟩, ⟨Kd.S_set (Kd.S_set HX1.out H4.out n52 _ _) hr1 n52 _ _⟩, ⟨Kd.S_set (Kd.S_set HX2.out H4.out n65 _ _) hr1 n65 _ _⟩, ⟨below_set (below_set HD.out HLD.out) HLD.out⟩, HLD⟩
        · skip
          refine value_ (w1 := ?_) (v := ?_) (by rfl) rfl ?_ ?_
          rotate_left 2
          · go_simp
            constructor
            · rfl
            · rfl
          have hA := below_alloc (Below.refl Wd.heap.size Wd) (.cells #[.slice none 0 0, .slice none 0 0] 25)
          have H4 := Aside0.mk (heap_alloc_new Wd (.cells #[.slice none 0 0, .slice none 0 0] 25))
          have HLD := Aside0.mk (show wr.heap.size ≤ Wd.heap.size from below_size HD.out)
          replace HB := Aside0.mk (below_step HB.out hA)
          replace HQ1 := Aside0.mk (Kd.S_below HQ1.out hA)
          replace HQ2 := Aside0.mk (Kd.S_below HQ2.out hA)
          replace HD := Aside0.mk (below_step HD.out hA)
          clear hA hHeld
          generalize Wd.alloc (.cells #[.slice none 0 0, .slice none 0 0] 25) = Wa8 at HD HB HQ1 HQ2 H4 ⊢
          generalize Wd.heap.size = g4 at H4 HLD ⊢
          refine hK.out _ _ (by exact HSS.out _ HD.out) (fun hHeld => ?_)
          clear hK K
          refine norm_ (a' := ?_) ?_ ?_
          rotate_left
          · show Act.put _ (some 16) _ = _
            simp only [Act.put, List.setIfInBounds_toArray, List.set_cons_zero, List.set_cons_succ, i64_w, i32_w]
            rfl
          refine one_ (i := 1) (N := some 61) #[true, true, false, false, false, false, true, false, false] rfl rfl (one_of HT_.out (by kernel_rfl)) (by decide) (fun K hK => ?_)
          refine goes_ Try.func19 (by kernel_rfl) rfl #[.int .u8 122] (by rfl) rfl rfl (by (try simp only [List.map_toArray, List.map_cons, List.map_nil]); first | done | rfl | (simp only [List.length_drop, List.length_take]; rfl)) ?_
          refine (catamaranlaw05_of.calls 50 122 (of32 122) Wa8 nm_of).mono ?_
          rintro e Wc9 ⟨v1, rfl, ho, hA⟩
          obtain ⟨Y, y, ey⟩ := Kd.R_slice ho
          subst ey
          have HY := Aside0.mk (Kd.R_reads' ho).2.2
          have HYL := Aside0.mk (Kd.R_reads' ho).2.1
          clear ho
          refine ⟨_, rfl, ?_⟩
          replace HB := Aside0.mk (below_step HB.out hA)
          replace HQ1 := Aside0.mk (Kd.S_below HQ1.out hA)
          replace HQ2 := Aside0.mk (Kd.S_below HQ2.out hA)
          replace H4 := Aside0.mk (blk_below H4.out hA)
          replace HD := Aside0.mk (below_step HD.out hA)
          clear hA hHeld
          refine hK.out _ _ (by exact HSS.out _ HD.out) (fun hHeld => ?_)
          clear hK K
          refine norm_ (a' := ?_) ?_ ?_
          rotate_left
          · show Act.put _ (some 61) _ = _
            simp only [Act.put, List.setIfInBounds_toArray, List.set_cons_zero, List.set_cons_succ, i64_w, i32_w]
            rfl
          refine one_ (i := 2) (N := some 62) #[true, true, true, false, false, false, true, false, false] rfl rfl (one_of HT_.out (by kernel_rfl)) (by decide) (fun K hK => ?_)
          refine goes_ Try.func18 (by kernel_rfl) rfl #[.agg #[.slice Q1 twoS.length q1, .slice Q2 (dk k).length q2], .int .i64 0, .slice Y (of32 122).length y] (by rfl) rfl rfl (by (try simp only [List.map_toArray, List.map_cons, List.map_nil]); first | done | rfl | (simp only [List.length_drop, List.length_take]; rfl)) ?_
          refine (hWrite.calls Q1 q1 twoS Q2 q2 (dk k) 0 Y y (of32 122) (twoS) (dk (k + 1)) 0 Wc9 (Kd.S_reads' HQ1.out).2.2 (Kd.S_reads' HQ1.out).2.1 (Kd.S_reads' HQ2.out).2.2 (Kd.S_reads' HQ2.out).2.1 HY.out HYL.out (dk_write k hlt)).mono ?_
          rintro e Wc10 ⟨v1, v2, rfl, ho1, ho2, hA⟩
          obtain ⟨X1, x1, e1⟩ := Kd.S_slice ho1
          subst e1
          obtain ⟨X2, x2, e2⟩ := Kd.S_slice ho2
          subst e2
          have HX1 := Aside0.mk (Kd.S_lower ho1 (below_size HB.out))
          have HX2 := Aside0.mk (Kd.S_lower ho2 (below_size HB.out))
          clear ho1 ho2
          refine ⟨_, rfl, ?_⟩
          replace HB := Aside0.mk (below_step HB.out hA)
          replace HQ1 := Aside0.mk (Kd.S_below HQ1.out hA)
          replace HQ2 := Aside0.mk (Kd.S_below HQ2.out hA)
          replace H4 := Aside0.mk (blk_below H4.out hA)
          replace HY := Aside0.mk (Kd.C_below HY.out hA)
          replace HD := Aside0.mk (below_step HD.out hA)
          clear hA hHeld
          clear HY
          clear HQ1
          clear HQ2
          refine hK.out _ _ (by exact HSS.out _ HD.out) (fun hHeld => ?_)
          clear hK K
          refine norm_ (a' := ?_) ?_ ?_
          rotate_left
          · show Act.put _ (some 62) _ = _
            simp only [Act.put, List.setIfInBounds_toArray, List.set_cons_zero, List.set_cons_succ, i64_w, i32_w]
            rfl
          refine pure_ (i := 3) (N := some 59) (v := ?_) (a' := ?_) #[true, true, true, true, false, false, true, false, false] rfl rfl (any_of HT_.out (by kernel_rfl)) (fun _ _ _ h => h) (Or.inl ⟨by rfl, ?_⟩) ?_ ?_
          rotate_left
          · intro w'
            go_simp
            with_reducible rfl
          rotate_left
          · simp only [Act.put, List.setIfInBounds_toArray, List.set_cons_zero, List.set_cons_succ, i64_w, i32_w]
            rfl
          refine pure_ (i := 4) (N := some 63) (v := ?_) (a' := ?_) #[true, true, true, true, true, false, true, false, false] rfl rfl (any_of HT_.out (by kernel_rfl)) (fun _ _ _ h => h) (Or.inl ⟨by rfl, ?_⟩) ?_ ?_
          rotate_left
          · intro w'
            go_simp
            with_reducible rfl
          rotate_left
          · simp only [Act.put, List.setIfInBounds_toArray, List.set_cons_zero, List.set_cons_succ, i64_w, i32_w]
            rfl
          refine pure_ (i := 5) (N := some 64) (v := ?_) (a' := ?_) #[true, true, true, true, true, true, true, false, false] rfl rfl (any_of HT_.out (by kernel_rfl)) (fun _ _ _ h => h) (Or.inl ⟨by rfl, ?_⟩) ?_ ?_
          rotate_left
          · intro w'
            go_simp
            with_reducible rfl
          rotate_left
          · simp only [Act.put, List.setIfInBounds_toArray, List.set_cons_zero, List.set_cons_succ, i64_w, i32_w]
            rfl
          refine last_ (i := 7) (N := none) #[true, true, true, true, true, true, true, true, false] rfl rfl (one_of HT_.out (by kernel_rfl)) (by decide) (fun K hK => ?_)
          have hz0 : Wc10.cell? ⟨g4, 0, none⟩ = some (.slice none 0 0) := (blk_cell H4.out 0).trans rfl
          have hz1 : Wc10.cell? ⟨g4, 1, none⟩ = some (.slice none 0 0) := (blk_cell H4.out 1).trans rfl
          have hf0 := blk_frozen H4.out 0
          have hf1 := blk_frozen H4.out 1
          refine skip_ (w1 := ?_) (by rfl) rfl ?_ ?_
          rotate_left
          · go_simp
            rfl
          refine hK.out _ _ ?_
          refine pure_ (i := 8) (N := some 17) (v := ?_) (a' := ?_) #[true, true, true, true, true, true, true, true, true] rfl rfl (any_of HT_.out (by kernel_rfl)) (fun _ _ _ h => h) (Or.inl ⟨by rfl, ?_⟩) ?_ ?_
          rotate_left
          · intro w'
            go_simp
            with_reducible rfl
          rotate_left
          · simp only [Act.put, List.setIfInBounds_toArray, List.set_cons_zero, List.set_cons_succ, i64_w, i32_w]
            rfl
          refine done_ (done_of HT_.out (by kernel_rfl)) ?_
          try go_wp2
          go_meet
          have n52 : ∀ q, q ∈ 39 :: k39.E → q ≠ 25 := by decide
          have n65 : ∀ q, q ∈ 49 :: k49.E → q ≠ 25 := by decide
          have hr1 := blk_put (cs := #[.slice none 0 0, .slice none 0 0]) H4.out 0 (.slice X1 (twoS).length x1) rfl
          have hr2 := blk_put (cs := #[.slice X1 (twoS).length x1, .slice none 0 0]) hr1 1 (.slice X2 (dk (k + 1)).length x2) rfl
          exact ⟨g4, X1, x1, X2, x2, rfl, rfl, ⟨hr2⟩, ⟨Kd.S_set (Kd.S_set HX1.out H4.out n52 _ _) hr1 n52 _ _⟩, ⟨Kd.S_set (Kd.S_set HX2.out H4.out n65 _ _) hr1 n65 _ _⟩, ⟨below_set (below_set HD.out HLD.out) HLD.out⟩, HLD⟩
      case rest =>
        obtain ⟨g4, X1, x1, X2, x2, rfl, rfl, H4, HX1, HX2, HD, HLD⟩ := hcut
        have HBc := Aside0.mk (below_step HB.out HD.out)
        have H2c := Aside0.mk (blk_below H2.out HD.out)
        have hy0 : wc.cell? ⟨g4, 0, none⟩ = some (.slice X1 twoS.length x1) := (blk_cell H4.out 0).trans rfl
        have hy1 : wc.cell? ⟨g4, 1, none⟩ = some (.slice X2 (dk (k + 1)).length x2) := (blk_cell H4.out 1).trans rfl
        have hz0 : wc.cell? ⟨gd, 0, none⟩ = some (.slice Q1 twoS.length q1) := (blk_cell H2c.out 0).trans rfl
        have hz1 : wc.cell? ⟨gd, 1, none⟩ = some (.slice Q2 (dk k).length q2) := (blk_cell H2c.out 1).trans rfl
        have hf0 := blk_frozen H2c.out 0
        have hf1 := blk_frozen H2c.out 1
        have hw2 : wrap64 ((k : Int) + 1) = (k : Int) + 1 := wrap_sucK hlt (by decide)
        have hr1 := blk_put (cs := #[.slice Q1 twoS.length q1, .slice Q2 (dk k).length q2]) H2c.out 0 (.slice X1 twoS.length x1) rfl
        have hr2 := blk_put (cs := #[.slice X1 twoS.length x1, .slice Q2 (dk k).length q2]) hr1 1 (.slice X2 (dk (k + 1)).length x2) rfl
        have n52 : ∀ q, q ∈ 39 :: k39.E → q ≠ 25 := by decide
        have n65 : ∀ q, q ∈ 49 :: k49.E → q ≠ 25 := by decide
        have HN1 := Aside0.mk (Kd.S_set (Kd.S_set HX1.out H2c.out n52 0 (.slice X1 twoS.length x1)) hr1 n52 1 (.slice X2 (dk (k + 1)).length x2))
        have HN2 := Aside0.mk (Kd.S_set (Kd.S_set HX2.out H2c.out n65 0 (.slice X1 twoS.length x1)) hr1 n65 1 (.slice X2 (dk (k + 1)).length x2))
        have HN3 := Aside0.mk hr2
        have HN4 := Aside0.mk (below_set (below_set HBc.out Hw3.heap.size.out (j := 0) (v := .slice X1 twoS.length x1)) Hw3.heap.size.out (j := 1) (v := .slice X2 (dk (k + 1)).length x2))
        clear hr1 hr2 n52 n65 HSS
        go_wp2_with fail
        go_roundw
        case rel => exact ⟨k + 1, hlt, rfl, X1, x1, X2, x2, HN3, HN1, HN2, HN4⟩
        case measure => exact meas_lt hlt
    · obtain rfl : k = 62 := Nat.le_antisymm hk (Nat.le_of_not_lt hlt)
      go_upto_region 15 with fail
      have HSS := Aside0.mk (show ∀ W : World, Below wr.heap.size wr W → W.cell? ⟨gd, 0, none⟩ = some (.slice Q1 twoS.length q1) ∧ W.cell? ⟨gd, 1, none⟩ = some (.slice Q2 (dk 62).length q2) from fun W hb => ⟨(blk_cell (blk_below H2.out hb) 0).trans rfl, (blk_cell (blk_below H2.out hb) 1).trans rfl⟩)
      go_cut [18, 19] from 68 to 73 (fun sp se wx => ∃ g4 X1 x1 X2 x2, sp = .pointer (some ⟨g4, 0, none⟩) ∧ se = .int .i64 9 ∧ Aside0 (wx.heap[g4]? = some (.cells #[.slice X1 (([] : List S39)).length x1, .slice X2 (([] : List S49)).length x2] 25 (0, 0))) ∧ Aside0 (Kd.S k39 39 wx w.heap.size (fun _ => True) (.slice X1 (([] : List S39)).length x1) (([] : List S39))) ∧ Aside0 (Kd.S k49 49 wx w.heap.size (fun _ => True) (.slice X2 (([] : List S49)).length x2) (([] : List S49))) ∧ Aside0 (Below wr.heap.size wr wx) ∧ Aside0 (wr.heap.size ≤ g4))
      case first =>
        refine start_ (n := 9) (S := fun w' => w'.cell? ⟨gd, 0, none⟩ = some (.slice Q1 twoS.length q1) ∧ w'.cell? ⟨gd, 1, none⟩ = some (.slice Q2 (dk 62).length q2)) (ds := [7]) #[false, false, false, false, false, false, false, false, false] (by kernel_rfl) rfl rfl (by exact HSS.out _ (bdr1 (Below.refl _ _))) (fun hHeld => ?_); refine wtW law4.tab15 law4.bits15 (fun HT_ HW_ => ?_)
        have HD := Aside0.mk (bdr1 (Below.refl wr.heap.size wr))
        replace HB := Aside0.mk (below_step HB.out (bdr1 (Below.refl wr.heap.size wr)))
        replace HQ1 := Aside0.mk (Kd.S_below HQ1.out (bdr1 (Below.refl wr.heap.size wr)))
        replace HQ2 := Aside0.mk (Kd.S_below HQ2.out (bdr1 (Below.refl wr.heap.size wr)))
        generalize wr.drew = Wd at HD HB HQ1 HQ2 hHeld ⊢
        refine take_ (i := 0) (N := some 69) (v := ?_) (a' := ?_) #[true, false, false, false, false, false, false, false, false] rfl rfl (take_ofW HT_.out HW_.out (by kernel_rfl)) (fun _ _ _ h => h) (Or.inl ⟨by rfl, ?_⟩) hHeld ?_ ?_
        rotate_left
        · rintro w' ⟨s0, s1⟩
          go_simp
          with_reducible rfl
        rotate_left
        · simp only [Act.put, List.setIfInBounds_toArray, List.set_cons_zero, List.set_cons_succ, i64_w, i32_w]
          rfl
        refine two_ (i := 1) (j := 6) (Ni := some 70) (Nj := some 18) #[true, true, false, false, false, false, false, false, false] #[true, false, false, false, false, false, true, false, false] rfl rfl rfl rfl (two_of HT_.out (by kernel_rfl)) (by decide) (by decide) (fun K hK => ?_) (fun K hK => ?_)
        · skip
          refine goes_ Try.func19 (by kernel_rfl) rfl #[.int .u8 122] (by rfl) rfl rfl (by (try simp only [List.map_toArray, List.map_cons, List.map_nil]); first | done | rfl | (simp only [List.length_drop, List.length_take]; rfl)) ?_
          refine (catamaranlaw05_of.calls 50 122 (of32 122) Wd nm_of).mono ?_
          rintro e Wc1 ⟨v1, rfl, ho, hA⟩
          obtain ⟨Y, y, ey⟩ := Kd.R_slice ho
          subst ey
          have HY := Aside0.mk (Kd.R_reads' ho).2.2
          have HYL := Aside0.mk (Kd.R_reads' ho).2.1
          clear ho
          refine ⟨_, rfl, ?_⟩
          replace HB := Aside0.mk (below_step HB.out hA)
          replace HQ1 := Aside0.mk (Kd.S_below HQ1.out hA)
          replace HQ2 := Aside0.mk (Kd.S_below HQ2.out hA)
          replace HD := Aside0.mk (below_step HD.out hA)
          clear hA hHeld
          refine hK.out _ _ (by exact HSS.out _ HD.out) (fun hHeld => ?_)
          clear hK K
          refine norm_ (a' := ?_) ?_ ?_
          rotate_left
          · show Act.put _ (some 70) _ = _
            simp only [Act.put, List.setIfInBounds_toArray, List.set_cons_zero, List.set_cons_succ, i64_w, i32_w]
            rfl
          refine two_ (i := 2) (j := 6) (Ni := some 71) (Nj := some 18) #[true, true, true, false, false, false, false, false, false] #[true, true, false, false, false, false, true, false, false] rfl rfl rfl rfl (two_of HT_.out (by kernel_rfl)) (by decide) (by decide) (fun K hK => ?_) (fun K hK => ?_)
          · skip
            refine goes_ Try.func18 (by kernel_rfl) rfl #[.agg #[.slice Q1 twoS.length q1, .slice Q2 (dk 62).length q2], .int .i64 0, .slice Y (of32 122).length y] (by rfl) rfl rfl (by (try simp only [List.map_toArray, List.map_cons, List.map_nil]); first | done | rfl | (simp only [List.length_drop, List.length_take]; rfl)) ?_
            refine (hWrite.calls Q1 q1 twoS Q2 q2 (dk 62) 0 Y y (of32 122) (([] : List S39)) (([] : List S49)) 9 Wc1 (Kd.S_reads' HQ1.out).2.2 (Kd.S_reads' HQ1.out).2.1 (Kd.S_reads' HQ2.out).2.2 (Kd.S_reads' HQ2.out).2.1 HY.out HYL.out dk_full).mono ?_
            rintro e Wc2 ⟨v1, v2, rfl, ho1, ho2, hA⟩
            obtain ⟨X1, x1, e1⟩ := Kd.S_slice ho1
            subst e1
            obtain ⟨X2, x2, e2⟩ := Kd.S_slice ho2
            subst e2
            have HX1 := Aside0.mk (Kd.S_lower ho1 (below_size HB.out))
            have HX2 := Aside0.mk (Kd.S_lower ho2 (below_size HB.out))
            clear ho1 ho2
            refine ⟨_, rfl, ?_⟩
            replace HB := Aside0.mk (below_step HB.out hA)
            replace HQ1 := Aside0.mk (Kd.S_below HQ1.out hA)
            replace HQ2 := Aside0.mk (Kd.S_below HQ2.out hA)
            replace HY := Aside0.mk (Kd.C_below HY.out hA)
            replace HD := Aside0.mk (below_step HD.out hA)
            clear hA hHeld
            clear HY
            clear HQ1
            clear HQ2
            refine hK.out _ _ (by exact HSS.out _ HD.out) (fun hHeld => ?_)
            clear hK K
            refine norm_ (a' := ?_) ?_ ?_
            rotate_left
            · show Act.put _ (some 71) _ = _
              simp only [Act.put, List.setIfInBounds_toArray, List.set_cons_zero, List.set_cons_succ, i64_w, i32_w]
              rfl
            refine pure_ (i := 3) (N := some 68) (v := ?_) (a' := ?_) #[true, true, true, true, false, false, false, false, false] rfl rfl (any_of HT_.out (by kernel_rfl)) (fun _ _ _ h => h) (Or.inl ⟨by rfl, ?_⟩) ?_ ?_
            rotate_left
            · intro w'
              go_simp
              with_reducible rfl
            rotate_left
            · simp only [Act.put, List.setIfInBounds_toArray, List.set_cons_zero, List.set_cons_succ, i64_w, i32_w]
              rfl
            refine pure_ (i := 4) (N := some 72) (v := ?_) (a' := ?_) #[true, true, true, true, true, false, false, false, false] rfl rfl (any_of HT_.out (by kernel_rfl)) (fun _ _ _ h => h) (Or.inl ⟨by rfl, ?_⟩) ?_ ?_
            rotate_left
            · intro w'
              go_simp
              with_reducible rfl
            rotate_left
            · simp only [Act.put, List.setIfInBounds_toArray, List.set_cons_zero, List.set_cons_succ, i64_w, i32_w]
              rfl
            refine pure_ (i := 5) (N := some 73) (v := ?_) (a' := ?_) #[true, true, true, true, true, true, false, false, false] rfl rfl (any_of HT_.out (by kernel_rfl)) (fun _ _ _ h => h) (Or.inl ⟨by rfl, ?_⟩) ?_ ?_
            rotate_left
            · intro w'
              go_simp
              with_reducible rfl
            rotate_left
            · simp only [Act.put, List.setIfInBounds_toArray, List.set_cons_zero, List.set_cons_succ, i64_w, i32_w]
              rfl
            refine one_ (i := 6) (N := some 18) #[true, true, true, true, true, true, true, false, false] rfl rfl (one_of HT_.out (by kernel_rfl)) (by decide) (fun K hK => ?_)
            refine value_ (w1 := ?_) (v := ?_) (by rfl) rfl ?_ ?_
            rotate_left 2
            · go_simp
              constructor
              · rfl
              · rfl
            have hA := below_alloc (Below.refl Wc2.heap.size Wc2) (.cells #[.slice none 0 0, .slice none 0 0] 25)
            have H4 := Aside0.mk (heap_alloc_new Wc2 (.cells #[.slice none 0 0, .slice none 0 0] 25))
            have HLD := Aside0.mk (show wr.heap.size ≤ Wc2.heap.size from below_size HD.out)
            replace HB := Aside0.mk (below_step HB.out hA)
            replace HX1 := Aside0.mk (Kd.S_below HX1.out hA)
            replace HX2 := Aside0.mk (Kd.S_below HX2.out hA)
            replace HD := Aside0.mk (below_step HD.out hA)
            clear hA hHeld
            generalize Wc2.alloc (.cells #[.slice none 0 0, .slice none 0 0] 25) = Wa3 at HD HB HX1 HX2 H4 ⊢
            generalize Wc2.heap.size = g4 at H4 HLD ⊢
            refine hK.out _ _ (by exact HSS.out _ HD.out) (fun hHeld => ?_)
            clear hK K
            refine norm_ (a' := ?_) ?_ ?_
            rotate_left
            · show Act.put _ (some 18) _ = _
              simp only [Act.put, List.setIfInBounds_toArray, List.set_cons_zero, List.set_cons_succ, i64_w, i32_w]
              rfl
            refine last_ (i := 7) (N := none) #[true, true, true, true, true, true, true, true, false] rfl rfl (one_of HT_.out (by kernel_rfl)) (by decide) (fun K hK => ?_)
            have hz0 : Wa3.cell? ⟨g4, 0, none⟩ = some (.slice none 0 0) := (blk_cell H4.out 0).trans rfl
            have hz1 : Wa3.cell? ⟨g4, 1, none⟩ = some (.slice none 0 0) := (blk_cell H4.out 1).trans rfl
            have hf0 := blk_frozen H4.out 0
            have hf1 := blk_frozen H4.out 1
            refine skip_ (w1 := ?_) (by rfl) rfl ?_ ?_
            rotate_left
            · go_simp
              rfl
            refine hK.out _ _ ?_
            refine pure_ (i := 8) (N := some 19) (v := ?_) (a' := ?_) #[true, true, true, true, true, true, true, true, true] rfl rfl (any_of HT_.out (by kernel_rfl)) (fun _ _ _ h => h) (Or.inl ⟨by rfl, ?_⟩) ?_ ?_
            rotate_left
            · intro w'
              go_simp
              with_reducible rfl
            rotate_left
            · simp only [Act.put, List.setIfInBounds_toArray, List.set_cons_zero, List.set_cons_succ, i64_w, i32_w]
              rfl
            refine done_ (done_of HT_.out (by kernel_rfl)) ?_
            try go_wp2
            go_meet
            have n52 : ∀ q, q ∈ 39 :: k39.E → q ≠ 25 := by decide
            have n65 : ∀ q, q ∈ 49 :: k49.E → q ≠ 25 := by decide
            have hr1 := blk_put (cs := #[.slice none 0 0, .slice none 0 0]) H4.out 0 (.slice X1 (([] : List S39)).length x1) rfl
            have hr2 := blk_put (cs := #[.slice X1 (([] : List S39)).length x1, .slice none 0 0]) hr1 1 (.slice X2 (([] : List S49)).length x2) rfl
            exact ⟨g4, X1, x1, X2, x2, rfl, rfl, ⟨hr2⟩, ⟨Kd.S_set (Kd.S_set HX1.out H4.out n52 _ _) hr1 n52 _ _⟩, ⟨Kd.S_set (Kd.S_set HX2.out H4.out n65 _ _) hr1 n65 _ _⟩, ⟨below_set (below_set HD.out HLD.out) HLD.out⟩, HLD⟩
          · skip
            refine value_ (w1 := ?_) (v := ?_) (by rfl) rfl ?_ ?_
            rotate_left 2
            · go_simp
              constructor
              · rfl
              · rfl
            have hA := below_alloc (Below.refl Wc1.heap.size Wc1) (.cells #[.slice none 0 0, .slice none 0 0] 25)
            have H4 := Aside0.mk (heap_alloc_new Wc1 (.cells #[.slice none 0 0, .slice none 0 0] 25))
            have HLD := Aside0.mk (show wr.heap.size ≤ Wc1.heap.size from below_size HD.out)
            replace HB := Aside0.mk (below_step HB.out hA)
            replace HQ1 := Aside0.mk (Kd.S_below HQ1.out hA)
            replace HQ2 := Aside0.mk (Kd.S_below HQ2.out hA)
            replace HY := Aside0.mk (Kd.C_below HY.out hA)
            replace HD := Aside0.mk (below_step HD.out hA)
            clear hA hHeld
            generalize Wc1.alloc (.cells #[.slice none 0 0, .slice none 0 0] 25) = Wa5 at HD HB HQ1 HQ2 HY H4 ⊢
            generalize Wc1.heap.size = g4 at H4 HLD ⊢
            refine hK.out _ _ (by exact HSS.out _ HD.out) (fun hHeld => ?_)
            clear hK K
            refine norm_ (a' := ?_) ?_ ?_
            rotate_left
            · show Act.put _ (some 18) _ = _
              simp only [Act.put, List.setIfInBounds_toArray, List.set_cons_zero, List.set_cons_succ, i64_w, i32_w]
              rfl
            refine one_ (i := 2) (N := some 71) #[true, true, true, false, false, false, true, false, false] rfl rfl (one_of HT_.out (by kernel_rfl)) (by decide) (fun K hK => ?_)
            refine goes_ Try.func18 (by kernel_rfl) rfl #[.agg #[.slice Q1 twoS.length q1, .slice Q2 (dk 62).length q2], .int .i64 0, .slice Y (of32 122).length y] (by rfl) rfl rfl (by (try simp only [List.map_toArray, List.map_cons, List.map_nil]); first | done | rfl | (simp only [List.length_drop, List.length_take]; rfl)) ?_
            refine (hWrite.calls Q1 q1 twoS Q2 q2 (dk 62) 0 Y y (of32 122) (([] : List S39)) (([] : List S49)) 9 Wa5 (Kd.S_reads' HQ1.out).2.2 (Kd.S_reads' HQ1.out).2.1 (Kd.S_reads' HQ2.out).2.2 (Kd.S_reads' HQ2.out).2.1 HY.out HYL.out dk_full).mono ?_
            rintro e Wc6 ⟨v1, v2, rfl, ho1, ho2, hA⟩
            obtain ⟨X1, x1, e1⟩ := Kd.S_slice ho1
            subst e1
            obtain ⟨X2, x2, e2⟩ := Kd.S_slice ho2
            subst e2
            have HX1 := Aside0.mk (Kd.S_lower ho1 (below_size HB.out))
            have HX2 := Aside0.mk (Kd.S_lower ho2 (below_size HB.out))
            clear ho1 ho2
            refine ⟨_, rfl, ?_⟩
            replace HB := Aside0.mk (below_step HB.out hA)
            replace HQ1 := Aside0.mk (Kd.S_below HQ1.out hA)
            replace HQ2 := Aside0.mk (Kd.S_below HQ2.out hA)
            replace HY := Aside0.mk (Kd.C_below HY.out hA)
            replace H4 := Aside0.mk (blk_below H4.out hA)
            replace HD := Aside0.mk (below_step HD.out hA)
            clear hA hHeld
            clear HY
            clear HQ1
            clear HQ2
            refine hK.out _ _ (by exact HSS.out _ HD.out) (fun hHeld => ?_)
            clear hK K
            refine norm_ (a' := ?_) ?_ ?_
            rotate_left
            · show Act.put _ (some 71) _ = _
              simp only [Act.put, List.setIfInBounds_toArray, List.set_cons_zero, List.set_cons_succ, i64_w, i32_w]
              rfl
            refine pure_ (i := 3) (N := some 68) (v := ?_) (a' := ?_) #[true, true, true, true, false, false, true, false, false] rfl rfl (any_of HT_.out (by kernel_rfl)) (fun _ _ _ h => h) (Or.inl ⟨by rfl, ?_⟩) ?_ ?_
            rotate_left
            · intro w'
              go_simp
              with_reducible rfl
            rotate_left
            · simp only [Act.put, List.setIfInBounds_toArray, List.set_cons_zero, List.set_cons_succ, i64_w, i32_w]
              rfl
            refine pure_ (i := 4) (N := some 72) (v := ?_) (a' := ?_) #[true, true, true, true, true, false, true, false, false] rfl rfl (any_of HT_.out (by kernel_rfl)) (fun _ _ _ h => h) (Or.inl ⟨by rfl, ?_⟩) ?_ ?_
            rotate_left
            · intro w'
              go_simp
              with_reducible rfl
            rotate_left
            · simp only [Act.put, List.setIfInBounds_toArray, List.set_cons_zero, List.set_cons_succ, i64_w, i32_w]
              rfl
            refine pure_ (i := 5) (N := some 73) (v := ?_) (a' := ?_) #[true, true, true, true, true, true, true, false, false] rfl rfl (any_of HT_.out (by kernel_rfl)) (fun _ _ _ h => h) (Or.inl ⟨by rfl, ?_⟩) ?_ ?_
            rotate_left
            · intro w'
              go_simp
              with_reducible rfl
            rotate_left
            · simp only [Act.put, List.setIfInBounds_toArray, List.set_cons_zero, List.set_cons_succ, i64_w, i32_w]
              rfl
            refine last_ (i := 7) (N := none) #[true, true, true, true, true, true, true, true, false] rfl rfl (one_of HT_.out (by kernel_rfl)) (by decide) (fun K hK => ?_)
            have hz0 : Wc6.cell? ⟨g4, 0, none⟩ = some (.slice none 0 0) := (blk_cell H4.out 0).trans rfl
            have hz1 : Wc6.cell? ⟨g4, 1, none⟩ = some (.slice none 0 0) := (blk_cell H4.out 1).trans rfl
            have hf0 := blk_frozen H4.out 0
            have hf1 := blk_frozen H4.out 1
            refine skip_ (w1 := ?_) (by rfl) rfl ?_ ?_
            rotate_left
            · go_simp
              rfl
            refine hK.out _ _ ?_
            refine pure_ (i := 8) (N := some 19) (v := ?_) (a' := ?_) #[true, true, true, true, true, true, true, true, true] rfl rfl (any_of HT_.out (by kernel_rfl)) (fun _ _ _ h => h) (Or.inl ⟨by rfl, ?_⟩) ?_ ?_
            rotate_left
            · intro w'
              go_simp
              with_reducible rfl
            rotate_left
            · simp only [Act.put, List.setIfInBounds_toArray, List.set_cons_zero, List.set_cons_succ, i64_w, i32_w]
              rfl
            refine done_ (done_of HT_.out (by kernel_rfl)) ?_
            try go_wp2
            go_meet
            have n52 : ∀ q, q ∈ 39 :: k39.E → q ≠ 25 := by decide
            have n65 : ∀ q, q ∈ 49 :: k49.E → q ≠ 25 := by decide
            have hr1 := blk_put (cs := #[.slice none 0 0, .slice none 0 0]) H4.out 0 (.slice X1 (([] : List S39)).length x1) rfl
            have hr2 := blk_put (cs := #[.slice X1 (([] : List S39)).length x1, .slice none 0 0]) hr1 1 (.slice X2 (([] : List S49)).length x2) rfl
            exact ⟨g4, X1, x1, X2, x2, rfl, rfl, ⟨hr2⟩, ⟨Kd.S_set (Kd.S_set HX1.out H4.out n52 _ _) hr1 n52 _ _⟩, ⟨Kd.S_set (Kd.S_set HX2.out H4.out n65 _ _) hr1 n65 _ _⟩, ⟨below_set (below_set HD.out HLD.out) HLD.out⟩, HLD⟩
        · skip
          refine value_ (w1 := ?_) (v := ?_) (by rfl) rfl ?_ ?_
          rotate_left 2
          · go_simp
            constructor
            · rfl
            · rfl
          have hA := below_alloc (Below.refl Wd.heap.size Wd) (.cells #[.slice none 0 0, .slice none 0 0] 25)
          have H4 := Aside0.mk (heap_alloc_new Wd (.cells #[.slice none 0 0, .slice none 0 0] 25))
          have HLD := Aside0.mk (show wr.heap.size ≤ Wd.heap.size from below_size HD.out)
          replace HB := Aside0.mk (below_step HB.out hA)
          replace HQ1 := Aside0.mk (Kd.S_below HQ1.out hA)
          replace HQ2 := Aside0.mk (Kd.S_below HQ2.out hA)
          replace HD := Aside0.mk (below_step HD.out hA)
          clear hA hHeld
          generalize Wd.alloc (.cells #[.slice none 0 0, .slice none 0 0] 25) = Wa8 at HD HB HQ1 HQ2 H4 ⊢
          generalize Wd.heap.size = g4 at H4 HLD ⊢
          refine hK.out _ _ (by exact HSS.out _ HD.out) (fun hHeld => ?_)
          clear hK K
          refine norm_ (a' := ?_) ?_ ?_
          rotate_left
          · show Act.put _ (some 18) _ = _
            simp only [Act.put, List.setIfInBounds_toArray, List.set_cons_zero, List.set_cons_succ, i64_w, i32_w]
            rfl
          refine one_ (i := 1) (N := some 70) #[true, true, false, false, false, false, true, false, false] rfl rfl (one_of HT_.out (by kernel_rfl)) (by decide) (fun K hK => ?_)
          refine goes_ Try.func19 (by kernel_rfl) rfl #[.int .u8 122] (by rfl) rfl rfl (by (try simp only [List.map_toArray, List.map_cons, List.map_nil]); first | done | rfl | (simp only [List.length_drop, List.length_take]; rfl)) ?_
          refine (catamaranlaw05_of.calls 50 122 (of32 122) Wa8 nm_of).mono ?_
          rintro e Wc9 ⟨v1, rfl, ho, hA⟩
          obtain ⟨Y, y, ey⟩ := Kd.R_slice ho
          subst ey
          have HY := Aside0.mk (Kd.R_reads' ho).2.2
          have HYL := Aside0.mk (Kd.R_reads' ho).2.1
          clear ho
          refine ⟨_, rfl, ?_⟩
          replace HB := Aside0.mk (below_step HB.out hA)
          replace HQ1 := Aside0.mk (Kd.S_below HQ1.out hA)
          replace HQ2 := Aside0.mk (Kd.S_below HQ2.out hA)
          replace H4 := Aside0.mk (blk_below H4.out hA)
          replace HD := Aside0.mk (below_step HD.out hA)
          clear hA hHeld
          refine hK.out _ _ (by exact HSS.out _ HD.out) (fun hHeld => ?_)
          clear hK K
          refine norm_ (a' := ?_) ?_ ?_
          rotate_left
          · show Act.put _ (some 70) _ = _
            simp only [Act.put, List.setIfInBounds_toArray, List.set_cons_zero, List.set_cons_succ, i64_w, i32_w]
            rfl
          refine one_ (i := 2) (N := some 71) #[true, true, true, false, false, false, true, false, false] rfl rfl (one_of HT_.out (by kernel_rfl)) (by decide) (fun K hK => ?_)
          refine goes_ Try.func18 (by kernel_rfl) rfl #[.agg #[.slice Q1 twoS.length q1, .slice Q2 (dk 62).length q2], .int .i64 0, .slice Y (of32 122).length y] (by rfl) rfl rfl (by (try simp only [List.map_toArray, List.map_cons, List.map_nil]); first | done | rfl | (simp only [List.length_drop, List.length_take]; rfl)) ?_
          refine (hWrite.calls Q1 q1 twoS Q2 q2 (dk 62) 0 Y y (of32 122) (([] : List S39)) (([] : List S49)) 9 Wc9 (Kd.S_reads' HQ1.out).2.2 (Kd.S_reads' HQ1.out).2.1 (Kd.S_reads' HQ2.out).2.2 (Kd.S_reads' HQ2.out).2.1 HY.out HYL.out dk_full).mono ?_
          rintro e Wc10 ⟨v1, v2, rfl, ho1, ho2, hA⟩
          obtain ⟨X1, x1, e1⟩ := Kd.S_slice ho1
          subst e1
          obtain ⟨X2, x2, e2⟩ := Kd.S_slice ho2
          subst e2
          have HX1 := Aside0.mk (Kd.S_lower ho1 (below_size HB.out))
          have HX2 := Aside0.mk (Kd.S_lower ho2 (below_size HB.out))
          clear ho1 ho2
          refine ⟨_, rfl, ?_⟩
          replace HB := Aside0.mk (below_step HB.out hA)
          replace HQ1 := Aside0.mk (Kd.S_below HQ1.out hA)
          replace HQ2 := Aside0.mk (Kd.S_below HQ2.out hA)
          replace H4 := Aside0.mk (blk_below H4.out hA)
          replace HY := Aside0.mk (Kd.C_below HY.out hA)
          replace HD := Aside0.mk (below_step HD.out hA)
          clear hA hHeld
          clear HY
          clear HQ1
          clear HQ2
          refine hK.out _ _ (by exact HSS.out _ HD.out) (fun hHeld => ?_)
          clear hK K
          refine norm_ (a' := ?_) ?_ ?_
          rotate_left
          · show Act.put _ (some 71) _ = _
            simp only [Act.put, List.setIfInBounds_toArray, List.set_cons_zero, List.set_cons_succ, i64_w, i32_w]
            rfl
          refine pure_ (i := 3) (N := some 68) (v := ?_) (a' := ?_) #[true, true, true, true, false, false, true, false, false] rfl rfl (any_of HT_.out (by kernel_rfl)) (fun _ _ _ h => h) (Or.inl ⟨by rfl, ?_⟩) ?_ ?_
          rotate_left
          · intro w'
            go_simp
            with_reducible rfl
          rotate_left
          · simp only [Act.put, List.setIfInBounds_toArray, List.set_cons_zero, List.set_cons_succ, i64_w, i32_w]
            rfl
          refine pure_ (i := 4) (N := some 72) (v := ?_) (a' := ?_) #[true, true, true, true, true, false, true, false, false] rfl rfl (any_of HT_.out (by kernel_rfl)) (fun _ _ _ h => h) (Or.inl ⟨by rfl, ?_⟩) ?_ ?_
          rotate_left
          · intro w'
            go_simp
            with_reducible rfl
          rotate_left
          · simp only [Act.put, List.setIfInBounds_toArray, List.set_cons_zero, List.set_cons_succ, i64_w, i32_w]
            rfl
          refine pure_ (i := 5) (N := some 73) (v := ?_) (a' := ?_) #[true, true, true, true, true, true, true, false, false] rfl rfl (any_of HT_.out (by kernel_rfl)) (fun _ _ _ h => h) (Or.inl ⟨by rfl, ?_⟩) ?_ ?_
          rotate_left
          · intro w'
            go_simp
            with_reducible rfl
          rotate_left
          · simp only [Act.put, List.setIfInBounds_toArray, List.set_cons_zero, List.set_cons_succ, i64_w, i32_w]
            rfl
          refine last_ (i := 7) (N := none) #[true, true, true, true, true, true, true, true, false] rfl rfl (one_of HT_.out (by kernel_rfl)) (by decide) (fun K hK => ?_)
          have hz0 : Wc10.cell? ⟨g4, 0, none⟩ = some (.slice none 0 0) := (blk_cell H4.out 0).trans rfl
          have hz1 : Wc10.cell? ⟨g4, 1, none⟩ = some (.slice none 0 0) := (blk_cell H4.out 1).trans rfl
          have hf0 := blk_frozen H4.out 0
          have hf1 := blk_frozen H4.out 1
          refine skip_ (w1 := ?_) (by rfl) rfl ?_ ?_
          rotate_left
          · go_simp
            rfl
          refine hK.out _ _ ?_
          refine pure_ (i := 8) (N := some 19) (v := ?_) (a' := ?_) #[true, true, true, true, true, true, true, true, true] rfl rfl (any_of HT_.out (by kernel_rfl)) (fun _ _ _ h => h) (Or.inl ⟨by rfl, ?_⟩) ?_ ?_
          rotate_left
          · intro w'
            go_simp
            with_reducible rfl
          rotate_left
          · simp only [Act.put, List.setIfInBounds_toArray, List.set_cons_zero, List.set_cons_succ, i64_w, i32_w]
            rfl
          refine done_ (done_of HT_.out (by kernel_rfl)) ?_
          try go_wp2
          go_meet
          have n52 : ∀ q, q ∈ 39 :: k39.E → q ≠ 25 := by decide
          have n65 : ∀ q, q ∈ 49 :: k49.E → q ≠ 25 := by decide
          have hr1 := blk_put (cs := #[.slice none 0 0, .slice none 0 0]) H4.out 0 (.slice X1 (([] : List S39)).length x1) rfl
          have hr2 := blk_put (cs := #[.slice X1 (([] : List S39)).length x1, .slice none 0 0]) hr1 1 (.slice X2 (([] : List S49)).length x2) rfl
          exact ⟨g4, X1, x1, X2, x2, rfl, rfl, ⟨hr2⟩, ⟨Kd.S_set (Kd.S_set HX1.out H4.out n52 _ _) hr1 n52 _ _⟩, ⟨Kd.S_set (Kd.S_set HX2.out H4.out n65 _ _) hr1 n65 _ _⟩, ⟨below_set (below_set HD.out HLD.out) HLD.out⟩, HLD⟩
      case rest =>
      obtain ⟨g6, X1, x1, X2, x2, rfl, rfl, H6, HX1, HX2, HD, HLD⟩ := hcut
      have HBw7 := Aside0.mk (below_step HB.out HD.out)
      clear HSS HB HD HLD H6 HX1 HX2 HQ1 HQ2 H2 Hw3.heap.size
      go_wp2_with (first
        | (go_at_call 19; clear TK7; have TK8 := Aside0.mk (show 0 = 0 from rfl); refine (catamaranlaw05_of.calls 50 122 (of32 122) _ nm_of).mono ?_; rintro e w8 ⟨v1, rfl, ho_, hb_⟩; obtain ⟨Y, y, ey⟩ := Kd.R_slice ho_; subst ey; have HY := Aside0.mk (Kd.R_reads' ho_).2.2; have HYL := Aside0.mk (Kd.R_reads' ho_).2.1; have HBw8 := Aside0.mk (below_step (HBw7.out) hb_); clear ho_ hb_)
        | (go_at_call 21; clear TK8; have TK9 := Aside0.mk (show 0 = 0 from rfl); refine (hAlive.calls true _ rfl).mono ?_; rintro e w9 ⟨rfl, hb_⟩; have HBw9 := Aside0.mk (below_step (below_alloc (below_alloc HBw8.out (.cells #[.slice Y (of32 122).length y, .bool true] 39)) (.cells #[.slice (some ⟨w8.heap.size, 0, none⟩) 1 1, .slice none 0 0] 25)) hb_); have HS9 := Aside0.mk (blk_below (blk_alloc (heap_alloc_new w8 (.cells #[.slice Y (of32 122).length y, .bool true] 39)) (.cells #[.slice (some ⟨w8.heap.size, 0, none⟩) 1 1, .slice none 0 0] 25)) hb_); have HX9 := Aside0.mk (blk_below (heap_alloc_at w8 (.cells #[.slice Y (of32 122).length y, .bool true] 39) (.cells #[.slice (some ⟨w8.heap.size, 0, none⟩) 1 1, .slice none 0 0] 25) (w8.heap.size + 1) rfl) hb_); have HY9 := Aside0.mk (Kd.C_below (Kd.C_alloc (Kd.C_alloc HY.out (.cells #[.slice Y (of32 122).length y, .bool true] 39)) (.cells #[.slice (some ⟨w8.heap.size, 0, none⟩) 1 1, .slice none 0 0] 25)) hb_); clear hb_)
        | (go_at_call 19; clear TK9; have TK10 := Aside0.mk (show 0 = 0 from rfl); refine (catamaranlaw05_of.calls 50 121 (of32 121) _ two_of121).mono ?_; rintro e wA ⟨v1, rfl, ho_, hb_⟩; obtain ⟨V, v, ey⟩ := Kd.R_slice ho_; subst ey; have HV := Aside0.mk (Kd.R_reads' ho_).2.2; have HVL := Aside0.mk (Kd.R_reads' ho_).2.1; have HBwA := Aside0.mk (below_step (below_alloc HBw9.out (.cells #[.int .u8 2, .int .u8 1] 5)) hb_); have HL1 := Aside0.mk (blk_below (heap_alloc_new w9 (.cells #[.int .u8 2, .int .u8 1] 5)) hb_); have HSA := Aside0.mk (blk_below (blk_alloc HS9.out (.cells #[.int .u8 2, .int .u8 1] 5)) hb_); have HXA := Aside0.mk (blk_below (blk_alloc HX9.out (.cells #[.int .u8 2, .int .u8 1] 5)) hb_); have HYA := Aside0.mk (Kd.C_below (Kd.C_alloc HY9.out (.cells #[.int .u8 2, .int .u8 1] 5)) hb_); clear ho_ hb_)
        | (go_at_call 22; clear TK10; have TK11 := Aside0.mk (show 0 = 0 from rfl); refine (hLeaves.calls (some ⟨w9.heap.size, 0, none⟩) 2 [2, 1] V v (of32 121) _ (lit_C [2, 1] (by simp) HL1.out) (Nat.le_refl _) HV.out HVL.out (.inl leaf21)).mono ?_; rintro e wB ⟨rfl, hb_⟩; have HBwB := Aside0.mk (below_step HBwA.out hb_); have HSB := Aside0.mk (blk_below HSA.out hb_); have HXB := Aside0.mk (blk_below HXA.out hb_); have HYB := Aside0.mk (Kd.C_below HYA.out hb_); clear hb_)
        | (go_at_call 19; clear TK11; have TK12 := Aside0.mk (show 0 = 0 from rfl); refine (catamaranlaw05_of.calls 50 120 (of32 120) _ two_of120).mono ?_; rintro e wC ⟨v1, rfl, ho_, hb_⟩; obtain ⟨U, u, ey⟩ := Kd.R_slice ho_; subst ey; have HU := Aside0.mk (Kd.R_reads' ho_).2.2; have HUL := Aside0.mk (Kd.R_reads' ho_).2.1; have HBwC := Aside0.mk (below_step (below_alloc HBwB.out (.cells #[.int .u8 4, .int .u8 3] 5)) hb_); have HL2 := Aside0.mk (blk_below (heap_alloc_new wB (.cells #[.int .u8 4, .int .u8 3] 5)) hb_); have HSC := Aside0.mk (blk_below (blk_alloc HSB.out (.cells #[.int .u8 4, .int .u8 3] 5)) hb_); have HXC := Aside0.mk (blk_below (blk_alloc HXB.out (.cells #[.int .u8 4, .int .u8 3] 5)) hb_); have HYC := Aside0.mk (Kd.C_below (Kd.C_alloc HYB.out (.cells #[.int .u8 4, .int .u8 3] 5)) hb_); clear ho_ hb_)
        | (go_at_call 22; clear TK12; have TK13 := Aside0.mk (show 0 = 0 from rfl); refine (hLeaves.calls (some ⟨wB.heap.size, 0, none⟩) 2 [4, 3] U u (of32 120) _ (lit_C [4, 3] (by simp) HL2.out) (Nat.le_refl _) HU.out HUL.out (.inl leaf43)).mono ?_; rintro e wD ⟨rfl, hb_⟩; have HBwD := Aside0.mk (below_step HBwC.out hb_); have HSD := Aside0.mk (blk_below HSC.out hb_); have HXD := Aside0.mk (blk_below HXC.out hb_); have HYD := Aside0.mk (Kd.C_below HYC.out hb_); have hq0 : wD.cell? ⟨w8.heap.size + 1, 0, none⟩ = some (.slice (some ⟨w8.heap.size, 0, none⟩) 1 1) := (blk_cell HXD.out 0).trans rfl; have hq1 : wD.cell? ⟨w8.heap.size + 1, 1, none⟩ = some (.slice none 0 0) := (blk_cell HXD.out 1).trans rfl; clear hb_)
        | (go_at_call 23; clear TK13; have TK14 := Aside0.mk (show 0 = 0 from rfl); refine (hCheck.calls (some ⟨w8.heap.size, 0, none⟩) 1 [⟨of32 122, true⟩] none 0 [] 8 _ (sec1_C HSD.out HYL.out HYD.out) (Nat.le_refl _) (nil65_C _) (Nat.le_refl _) nm_wrong).mono ?_; rintro e wE ⟨rfl, hb_⟩; have HBwE := Aside0.mk (below_step HBwD.out hb_); clear hb_ hq0 hq1)
        | (go_at_call 23; clear TK14; have TK15 := Aside0.mk (show 0 = 0 from rfl); refine (hCheck.calls none 0 [] none 0 [] 8 _ (nil52_C _) (Nat.le_refl _) (nil65_C _) (Nat.le_refl _) nm_none).mono ?_; rintro e wF ⟨rfl, hb_⟩; have HBwF := Aside0.mk (below_step HBwE.out hb_); clear hb_))
      go_ret
      exact ⟨rfl, HBwF.out⟩
end Go.Proofs.Ytdkjhcdniepbhaa.P
end
