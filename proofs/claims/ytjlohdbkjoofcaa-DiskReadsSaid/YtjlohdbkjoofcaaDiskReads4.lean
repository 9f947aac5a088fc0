/- catamaranlaw05.DiskReads returns true for every disk, two sectors and bytes, and its arguments read afterwards as they read before; no condition. -/
import Derived.Laws.CopyOwn
import Derived.Laws.BitsAllLaws
import Derived.WalkKit
import Derived.ProofKit
import Derived.OpenShut
import Derived.Lib.SmallJoins
import Derived.Deep.Slices
import Derived.Deep.Fields
import Derived.ChangeSame
import Derived.Test.YtjlohdbkjoofcaaRows
import Derived.ShutString
import Derived.ChangeOld
import Derived.Below
import Derived.SizedLaws
import Derived.Test.YtjlohdbkjoofcaaDiskReads3
section
set_option linter.unusedVariables false
set_option linter.unusedSimpArgs false
namespace Go.Proofs.Ytjlohdbkjoofcaa.P
open Go.RowKit Go.Proofs.PrintWords Go.Proofs.PrintLast Go.Proofs.PrintMore
attribute [local go_sem] max2_int min2_int max_two min_two max_three min_three max_four min_four
def catamaranlaw05_of.l0 : Nat → Int → List Int → Int → Option (List Int)
  | 0, _, _, _ => none
  | k + 1, x0, x3, x4 => if x4 < (x3.length : Int) then (if 0 ≤ x4 then (catamaranlaw05_of.l0 k x0 (x3.set (x4 : Int).toNat x0) (wrap64 (x4 + 1))) else (none)) else (some x3)
def catamaranlaw05_of.f (k : Nat) (a0 : Int) : Option (List Int) := if 32 ≤ 281474976710656 then (catamaranlaw05_of.l0 k a0 (List.replicate 32 0) 0) else (none)
theorem catamaranlaw05_of.mono_l : ∀ k, (∀ y0 y1 y2, LeO (catamaranlaw05_of.l0 k y0 y1 y2) (catamaranlaw05_of.l0 (k + 1) y0 y1 y2))
  | 0 => fun _ _ _ r h => by simp [catamaranlaw05_of.l0] at h
  | k + 1 => by
    have ih0 := catamaranlaw05_of.mono_l k
    · intro y0 y1 y2
      unfold catamaranlaw05_of.l0
      repeat' first
      | (with_reducible exact ih0 _ _ _)
      | (with_reducible exact LeO.refl _)
      | (with_reducible exact LeO.none _)
      | (with_reducible refine LeO.ite ?_ ?_)
      | (with_reducible refine LeO.bind ?_ (fun _ => ?_))
      | exact ih0 _ _ _
      | exact LeO.none _
      | refine LeO.ite ?_ ?_
      | refine LeO.bind ?_ (fun _ => ?_)
theorem catamaranlaw05_of.mono : ∀ a0 k, LeO (catamaranlaw05_of.f k a0) (catamaranlaw05_of.f (k + 1) a0) := by
  intro a0 k
  have ih0 := catamaranlaw05_of.mono_l k
  unfold catamaranlaw05_of.f
  repeat' first
      | (with_reducible exact ih0 _ _ _)
      | (with_reducible exact LeO.refl _)
      | (with_reducible exact LeO.none _)
      | (with_reducible refine LeO.ite ?_ ?_)
      | (with_reducible refine LeO.bind ?_ (fun _ => ?_))
      | exact ih0 _ _ _
      | exact LeO.none _
      | refine LeO.ite ?_ ?_
      | refine LeO.bind ?_ (fun _ => ?_)
set_option maxHeartbeats 8000000 in
set_option maxRecDepth 100000 in
theorem catamaranlaw05_of.calls (k : Nat) (a0 : Int) (r : List Int) (w : World) (h : catamaranlaw05_of.f k a0 = some r) :
    Calls Try.prog 44 #[.int .u8 a0] w fun e w' => ∃ v0_ : Value, e = .returned (v0_) ∧ Kd.R (Kd.int .u8) 5 w' w.heap.size (fun _ => True) v0_ r ∧ Below w.heap.size w w' := by
  have HB := Aside0.mk (Below.refl w.heap.size w)
  have H : (if 32 ≤ 281474976710656 then (catamaranlaw05_of.l0 k a0 (List.replicate 32 0) 0) else (none)) = some r := h
  clear h
  by_cases c2 : 32 ≤ 281474976710656
  · rw [if_pos c2] at H
    have c2b0 := eq_true c2
    have c2b1 : decide (32 ≤ 281474976710656) = true := decide_eq_true c2
    clear c2
    obtain ⟨y266, hy266⟩ : ∃ y_ : List Int, y_ = (List.replicate 32 0) := ⟨_, rfl⟩
    replace H : (catamaranlaw05_of.l0 k a0 y266 0) = some r := by first | (rw [hy266]; with_reducible exact H) | (have H2_ := (Option.bind_some _ _).symm.trans H; rw [hy266]; with_reducible exact H2_) | (have H2_ := (Option.bind_some _ _).symm.trans H; with_reducible exact H2_) | with_reducible exact H | (rw [hy266]; exact H) | exact H
    have Ny266 := Aside0.mk hy266
    clear hy266
    have H' := Aside0.mk H
    clear H
    go_enter Try.func44, Try.ntmps44
    go_wp2_with (first | ((with_reducible refine gate_dst (N := 5) rfl ?_); refine Kd.R_make (Kd.int .u8) _ 5 rfl (N := 5) rfl 26 _ _ rfl 32 rfl rfl Try.underlying26 (.int .u8 0) 1 info5 rfl (by decide) (by omega) 0 (ok := fun _ => True) (okp := fun _ => True) rfl (fun _ hk => hk) trivial (by omega) (by omega) (Below.refl _ _) (Nat.le_refl _) ?_; intro v267 w3 ho4 hb hg_ hnew_; clear hg_ hnew_; (first | rw [← Ny266.out] at ho4 | (simp only [Int.reduceToNat] at ho4; rw [← Ny266.out] at ho4)); have n0_ := Aside0.mk (Kd.R_lower ho4 (below_size (by repeat (first | (with_reducible first | exact HB.out | apply below_alloc | apply pw_below_drewN | apply below_drew1) | exact HB.out)))); have n1_ := Aside0.mk (below_step (by repeat (first | (with_reducible first | exact HB.out | apply below_alloc | apply pw_below_drewN | apply below_drew1) | exact HB.out)) hb); clear HB; have HO268 := n0_; have HB := n1_; clear n0_ n1_; clear hb ho4))
    go_loopg [4] k (fun kq v4 w' => ∃ (x3_1 : List Int) (x4_1 : Int), v4 = .int .i64 x4_1 ∧ Aside0 (catamaranlaw05_of.l0 kq a0 x3_1 x4_1 = some r) ∧ Aside0 (kq ≤ k) ∧ Aside0 (Kd.R (Kd.int .u8) 5 w' w.heap.size (fun _ => True) v267 x3_1) ∧ Aside0 (Below w.heap.size w w'))
    case atStart => exact ⟨(y266), (0), (by first | rfl | (simp; done) | (simp [*]; done)), H', ⟨Nat.le_refl _⟩, ⟨by (with_reducible repeat (first | apply Kd.R_alloc | apply Kd.R_drewN | apply Kd.R_drew)); exact HO268.out⟩, ⟨by repeat (first | (with_reducible first | exact HB.out | apply below_alloc | apply pw_below_drewN | apply below_drew1) | exact HB.out)⟩⟩
    case round =>
      clear H'
      try clear c2
      try clear c2b0
      try clear c2b1
      try clear p2
      try clear c4
      obtain ⟨x3_1, x4_1, rfl, HA, HK1, HO_3, HB⟩ := hrel
      cases gk with
      | zero => exact absurd HA.out (by simp [catamaranlaw05_of.l0])
      | succ k1 =>
        have H := HA.out
        clear HA
        simp only [catamaranlaw05_of.l0] at H
        by_cases c5 : x4_1 < (x3_1.length : Int)
        · rw [if_pos c5] at H
          have c5b0 : decide (x4_1 < (x3_1.length : Int)) = true := decide_eq_true c5
          clear c5
          by_cases c6 : 0 ≤ x4_1
          · rw [if_pos c6] at H
            have c6b0 : decide (0 ≤ x4_1) = true := decide_eq_true c6
            clear c6
            obtain ⟨y269, hy269⟩ : ∃ y_ : List Int, y_ = (x3_1.set (x4_1 : Int).toNat a0) := ⟨_, rfl⟩
            replace H : (catamaranlaw05_of.l0 k1 a0 y269 (wrap64 (x4_1 + 1))) = some r := by first | (rw [hy269]; with_reducible exact H) | (have H2_ := (Option.bind_some _ _).symm.trans H; rw [hy269]; with_reducible exact H2_) | (have H2_ := (Option.bind_some _ _).symm.trans H; with_reducible exact H2_) | with_reducible exact H | (rw [hy269]; exact H) | exact H
            have Ny269 := Aside0.mk hy269
            clear hy269
            have H' := Aside0.mk H
            clear H
            obtain ⟨Ao8, co8, eo8⟩ := Kd.R_slice HO_3.out
            subst eo8
            have p7 : 0 ≤ (x4_1 : Int) := of_decide_eq_true (by first | (with_reducible assumption) | assumption)
            have q7 : (x4_1 : Int) < ((x3_1.length : Int) : Int) := of_decide_eq_true (by first | (with_reducible assumption) | assumption)
            obtain ⟨go7, co7, eo7, gb7, gl7, cl7, HG7⟩ := Kd.R_form HO_3.out (by omega)
            (first | cases eo7 | (injection eo7 with ea_ en_ ec_; (first | subst ea_ | (injection ea_ with ea_; subst ea_)); subst ec_; clear en_))
            have GB7 := Aside0.mk gb7
            have GG7 := Aside0.mk HG7
            clear gb7 gl7 HG7
            obtain ⟨hx7_0, hf7_0⟩ := Kd.R_celln 0 HO_3.out (x4_1 : Int) p7 q7
            replace p7 := eq_true p7
            replace q7 := eq_true q7
            have HP9 := Kd.R_putg HO_3.out (x4_1 : Int) a0
            go_wp2_with (first | ((with_reducible refine gate_store (t := 5) (p := 15) rfl ?_); refine store_event (t := 5) (p := 15) (v := ?vo_w10) (w1 := (wr.setCell ⟨go7, (x4_1 : Int).toNat, none⟩ (.int .u8 a0))) ?hg ?ho ?hn ?hr ?_; (case ho => rfl); (case hg => rfl); (case hn => rfl); (case hr => first | (go_simp; done) | (go_simp; rfl)); intro w10 hw; have hg : wr.grownBy w10 (some go7) := (by rw [hw]; exact HP9.2); have hp_ : Kd.R (Kd.int .u8) 5 w10 w.heap.size (fun _ => True) (.slice (some ⟨go7, 0, none⟩) x3_1.length co8) y269 := (by rw [hw, Ny269.out]; exact HP9.1); clear HP9; have n0_ := Aside0.mk (hp_); have n1_ := Aside0.mk ((by rw [hw]; exact below_set (HB.out) GB7.out : Below w.heap.size w w10)); clear HO_3; clear HB; have HO_3 := n0_; have HB := n1_; clear n0_ n1_; clear hg hw hp_))
            go_roundg k1
            case measure => have := HK1.out; omega
            case rel => exact ⟨(y269), (wrap64 (x4_1 + 1)), (by first | rfl | (simp; done) | (simp [*]; done)), H', ⟨by have := HK1.out; omega⟩, ⟨by (with_reducible repeat (first | apply Kd.R_alloc | apply Kd.R_drewN | apply Kd.R_drew)); exact HO_3.out⟩, ⟨by repeat (first | (with_reducible first | exact HB.out | apply below_alloc | apply pw_below_drewN | apply below_drew1) | exact HB.out)⟩⟩
          · rw [if_neg c6] at H
            exact absurd H (by simp)
        · rw [if_neg c5] at H
          have c5b0 : decide (x4_1 < (x3_1.length : Int)) = false := decide_eq_false c5
          clear c5
          obtain rfl := Option.some.inj H
          obtain ⟨Ao11, co11, eo11⟩ := Kd.R_slice HO_3.out
          subst eo11
          go_wp2
          go_ret
          exact ⟨_, by first | rfl | (simp [errW_none, errW_some] <;> rfl) | (simp [*, errW_none, errW_some] <;> rfl), by (with_reducible repeat (first | apply Kd.R_alloc | apply Kd.R_drewN | apply Kd.R_drew)); exact HO_3.out, by repeat (first | (with_reducible first | exact HB.out | apply below_alloc | apply pw_below_drewN | apply below_drew1) | exact HB.out)⟩
  · rw [if_neg c2] at H
    exact absurd H (by simp)
end Go.Proofs.Ytjlohdbkjoofcaa.P
end
section
set_option linter.unusedVariables false
set_option linter.unusedSimpArgs false
namespace Go.Proofs.Ytjlohdbkjoofcaa.P
open Go.RowKit Go.Proofs.PrintWords Go.Proofs.PrintLast Go.Proofs.PrintMore
attribute [local go_sem] max2_int min2_int max_two min_two max_three min_three max_four min_four
def twoS : List S52 := [⟨zero32, false⟩, ⟨zero32, false⟩]
def of32 (c : Int) : List Int := List.replicate 32 c
def two0 : List S65 := []
def two1 : List S65 := [⟨1, of32 120⟩]
def two2 : List S65 := [⟨1, of32 120⟩, ⟨1, of32 121⟩]
def hTwo.f : Option (List S52 × List S65 × Bool) := some (twoS, two2, true)
theorem two_new : hNew.f 2 = some (twoS, two0, 0) := by kernel_rfl
theorem two_of120 : catamaranlaw05_of.f 50 120 = some (of32 120) := by kernel_rfl
theorem two_of121 : catamaranlaw05_of.f 50 121 = some (of32 121) := by kernel_rfl
theorem two_w1 : hWrite.f twoS two0 1 (of32 120) = some (twoS, two1, 0) := by kernel_rfl
theorem two_w2 : hWrite.f twoS two1 1 (of32 121) = some (twoS, two2, 0) := by kernel_rfl
def hTwo.T2 : Bool × List (List Nat × List Nat) := (true, [([], []), ([], []), ([0, 1, 1], [0, 1]), ([2], [2]), ([3], [3]), ([3], [3]), ([], []), ([6, 4, 2, 0, 1, 2, 3, 4, 6], [4, 6]), ([5, 7, 0, 1, 2, 3, 4, 5, 6, 7], [5])])
def hTwo.B2 : List Nat := [0, 0, 3, 7, 15, 15, 0, 95, 255]
theorem hTwo.tab2 : rtab .any (opsOf Try.f43 2) = hTwo.T2 := by kernel_rfl
theorem hTwo.bits2 : waitsOk hTwo.T2.2 hTwo.B2 = true := by kernel_rfl
def hTwo.T3 : Bool × List (List Nat × List Nat) := (true, [([], []), ([], []), ([0, 1, 1], [0, 1]), ([2], [2]), ([3], [3]), ([3], [3]), ([], []), ([6, 4, 2, 0, 1, 2, 3, 4, 6], [4, 6]), ([5, 7, 0, 1, 2, 3, 4, 5, 6, 7], [5])])
def hTwo.B3 : List Nat := [0, 0, 3, 7, 15, 15, 0, 95, 255]
theorem hTwo.tab3 : rtab .any (opsOf Try.f43 3) = hTwo.T3 := by kernel_rfl
theorem hTwo.bits3 : waitsOk hTwo.T3.2 hTwo.B3 = true := by kernel_rfl
set_option maxHeartbeats 8000000 in
set_option maxRecDepth 100000 in
theorem hTwo.calls (r1 : List S52) (r2 : List S65) (r3 : Bool) (w : World) (h : hTwo.f = some (r1, r2, r3)) :
    Calls Try.prog 43 #[] w fun e w' => ∃ v0_ v1_ : Value, e = .returned (.tuple #[.agg #[v0_, v1_], .bool r3]) ∧ Kd.S k52 52 w' w.heap.size (fun _ => True) v0_ r1 ∧ Kd.S k65 65 w' w.heap.size (fun _ => True) v1_ r2 ∧ Below w.heap.size w w' := by
  have hu25 := Try.underlying25
  obtain ⟨rfl, rfl, rfl⟩ : twoS = r1 ∧ two2 = r2 ∧ true = r3 := by unfold hTwo.f at h; injection h with h; injection h with h1 h; injection h with h2 h3; exact ⟨h1, h2, h3⟩
  clear h
  have HB := Aside0.mk (below_alloc (Below.refl w.heap.size w) (.cells #[.slice none 0 0, .slice none 0 0] 25))
  have HZ := Aside0.mk (heap_alloc_new w (.cells #[.slice none 0 0, .slice none 0 0] 25))
  go_enter Try.func43, Try.ntmps43
  go_upto_region 2 with (go_at_call 42; refine (hNew.calls 2 twoS two0 0 _ two_new).mono ?_; rintro e w1 ⟨v1, v2, rfl, ho1, ho2, hb1⟩; obtain ⟨Q1, q1, e1⟩ := Kd.S_slice ho1; subst e1; obtain ⟨Q2, q2, e2⟩ := Kd.S_slice ho2; subst e2; have HB1 := Aside0.mk (below_step HB.out hb1); have HZ1 := Aside0.mk (blk_below HZ.out hb1); have HQ1 := Aside0.mk (Kd.S_lower ho1 (below_size HB.out)); have HQ2 := Aside0.mk (Kd.S_lower ho2 (below_size HB.out)); clear ho1 ho2 hb1)
  have HB := Aside0.mk (below_alloc HB1.out (.cells #[.slice Q1 twoS.length q1, .slice Q2 two0.length q2] 25))
  replace HQ1 := Aside0.mk (Kd.S_alloc HQ1.out (.cells #[.slice Q1 twoS.length q1, .slice Q2 two0.length q2] 25))
  replace HQ2 := Aside0.mk (Kd.S_alloc HQ2.out (.cells #[.slice Q1 twoS.length q1, .slice Q2 two0.length q2] 25))
  have HZ := Aside0.mk (blk_alloc HZ1.out (.cells #[.slice Q1 twoS.length q1, .slice Q2 two0.length q2] 25))
  have H2 := Aside0.mk (heap_alloc_new w1 (.cells #[.slice Q1 twoS.length q1, .slice Q2 two0.length q2] 25))
  clear HB1 HZ1
  generalize w1.alloc (.cells #[.slice Q1 twoS.length q1, .slice Q2 two0.length q2] 25) = W0 at HB HQ1 HQ2 HZ H2 ⊢
  generalize w1.heap.size = g2 at H2 ⊢
  have HSS := Aside0.mk (show ∀ W : World, Below W0.heap.size W0 W → W.cell? ⟨g2, 0, none⟩ = some (.slice Q1 twoS.length q1) ∧ W.cell? ⟨g2, 1, none⟩ = some (.slice Q2 two0.length q2) from fun W hb => ⟨(blk_cell (blk_below H2.out hb) 0).trans rfl, (blk_cell (blk_below H2.out hb) 1).trans rfl⟩)
  go_cut [4, 5] from 12 to 17 (fun s4 s5 wx => ∃ (g4 : Nat) (X1 : Option Addr) (x1 : Nat) (X2 : Option Addr) (x2 : Nat), s4 = .pointer (some ⟨g4, 0, none⟩) ∧ s5 = .int .i64 0 ∧ Aside0 (wx.heap[g4]? = some (.cells #[.slice X1 twoS.length x1, .slice X2 two1.length x2] 25 (0, 0))) ∧ Aside0 (Kd.S k52 52 wx w.heap.size (fun _ => True) (.slice X1 twoS.length x1) twoS) ∧ Aside0 (Kd.S k65 65 wx w.heap.size (fun _ => True) (.slice X2 two1.length x2) two1) ∧ Aside0 (wx.heap[w.heap.size]? = some (.cells #[.slice none 0 0, .slice none 0 0] 25 (0, 0))) ∧ Aside0 (Below w.heap.size w wx))
  case first =>
    refine start_ (n := 9) (S := fun w' => w'.cell? ⟨g2, 0, none⟩ = some (.slice Q1 twoS.length q1) ∧ w'.cell? ⟨g2, 1, none⟩ = some (.slice Q2 two0.length q2)) (ds := [7]) #[false, false, false, false, false, false, false, false, false] (by kernel_rfl) rfl rfl (by exact HSS.out _ (below_drew1 (Below.refl _ _))) (fun hHeld => ?_); refine with_tabW hTwo.tab2 hTwo.bits2 (fun HT_ HW_ => ?_)
    have HD := Aside0.mk (below_drew1 (Below.refl W0.heap.size W0))
    replace HB := Aside0.mk (below_step HB.out (below_drew1 (Below.refl W0.heap.size W0)))
    replace HZ := Aside0.mk (blk_below HZ.out (below_drew1 (Below.refl W0.heap.size W0)))
    replace HQ1 := Aside0.mk (Kd.S_below HQ1.out (below_drew1 (Below.refl W0.heap.size W0)))
    replace HQ2 := Aside0.mk (Kd.S_below HQ2.out (below_drew1 (Below.refl W0.heap.size W0)))
    generalize W0.drew = Wd at HD HB HZ HQ1 HQ2 hHeld ⊢
    refine take_ (i := 0) (N := some 13) (v := ?_) (a' := ?_) #[true, false, false, false, false, false, false, false, false] rfl rfl (take_ofW HT_.out HW_.out (by kernel_rfl)) (fun _ _ _ h => h) (Or.inl ⟨by rfl, ?_⟩) hHeld ?_ ?_
    rotate_left
    · rintro w' ⟨s0, s1⟩
      go_simp
      with_reducible rfl
    rotate_left
    · simp only [Act.put, List.setIfInBounds_toArray, List.set_cons_zero, List.set_cons_succ, i64_w, i32_w]
      rfl
    refine two_ (i := 1) (j := 6) (Ni := some 14) (Nj := some 4) #[true, true, false, false, false, false, false, false, false] #[true, false, false, false, false, false, true, false, false] rfl rfl rfl rfl (two_of HT_.out (by kernel_rfl)) (by decide) (by decide) (fun K hK => ?_) (fun K hK => ?_)
    · skip
      refine goes_ Try.func44 (by kernel_rfl) rfl #[.int .u8 120] (by rfl) rfl rfl (by (try simp only [List.map_toArray, List.map_cons, List.map_nil]); first | done | rfl | (simp only [List.length_drop, List.length_take]; rfl)) ?_
      refine (catamaranlaw05_of.calls 50 120 (of32 120) Wd two_of120).mono ?_
      rintro e Wc1 ⟨v1, rfl, ho, hA⟩
      obtain ⟨Y, y, e1⟩ := Kd.R_slice ho
      subst e1
      have HY := Aside0.mk ho
      clear ho
      refine ⟨_, rfl, ?_⟩
      replace HB := Aside0.mk (below_step HB.out hA)
      replace HZ := Aside0.mk (blk_below HZ.out hA)
      replace HQ1 := Aside0.mk (Kd.S_below HQ1.out hA)
      replace HQ2 := Aside0.mk (Kd.S_below HQ2.out hA)
      replace HD := Aside0.mk (below_step HD.out hA)
      clear hA hHeld
      refine hK.out _ _ (by exact HSS.out _ HD.out) (fun hHeld => ?_)
      clear hK K
      refine norm_ (a' := ?_) ?_ ?_
      rotate_left
      · show Act.put _ (some 14) _ = _
        simp only [Act.put, List.setIfInBounds_toArray, List.set_cons_zero, List.set_cons_succ, i64_w, i32_w]
        rfl
      refine two_ (i := 2) (j := 6) (Ni := some 15) (Nj := some 4) #[true, true, true, false, false, false, false, false, false] #[true, true, false, false, false, false, true, false, false] rfl rfl rfl rfl (two_of HT_.out (by kernel_rfl)) (by decide) (by decide) (fun K hK => ?_) (fun K hK => ?_)
      · skip
        refine goes_ Try.func32 (by kernel_rfl) rfl #[.agg #[.slice Q1 twoS.length q1, .slice Q2 two0.length q2], .int .i64 1, .slice Y (of32 120).length y] (by rfl) rfl rfl (by (try simp only [List.map_toArray, List.map_cons, List.map_nil]); first | done | rfl | (simp only [List.length_drop, List.length_take]; rfl)) ?_
        refine (hWrite.calls Q1 q1 twoS Q2 q2 two0 1 Y y (of32 120) twoS two1 0 Wc1 (Kd.S_reads' HQ1.out).2.2 (Kd.S_reads' HQ1.out).2.1 (Kd.S_reads' HQ2.out).2.2 (Kd.S_reads' HQ2.out).2.1 (Kd.R_reads' HY.out).2.2 (Kd.R_reads' HY.out).2.1 two_w1).mono ?_
        rintro e Wc2 ⟨v1, v2, rfl, ho1, ho2, hA⟩
        obtain ⟨X1, x1, e1⟩ := Kd.S_slice ho1
        subst e1
        obtain ⟨X2, x2, e2⟩ := Kd.S_slice ho2
        subst e2
        have HX1 := Aside0.mk (Kd.S_lower ho1 (below_size HB.out))
        have HX2 := Aside0.mk (Kd.S_lower ho2 (below_size HB.out))
        clear ho1 ho2
        refine ⟨_, rfl, ?_⟩
        replace HB := Aside0.mk (below_step HB.out hA)
        replace HZ := Aside0.mk (blk_below HZ.out hA)
        replace HQ1 := Aside0.mk (Kd.S_below HQ1.out hA)
        replace HQ2 := Aside0.mk (Kd.S_below HQ2.out hA)
        replace HY := Aside0.mk (Kd.R_below HY.out hA)
        replace HD := Aside0.mk (below_step HD.out hA)
        clear hA hHeld
        clear HY
        clear HQ1
        clear HQ2
        refine hK.out _ _ (by exact HSS.out _ HD.out) (fun hHeld => ?_)
        clear hK K
        refine norm_ (a' := ?_) ?_ ?_
        rotate_left
        · show Act.put _ (some 15) _ = _
          simp only [Act.put, List.setIfInBounds_toArray, List.set_cons_zero, List.set_cons_succ, i64_w, i32_w]
          rfl
        refine pure_ (i := 3) (N := some 12) (v := ?_) (a' := ?_) #[true, true, true, true, false, false, false, false, false] rfl rfl (any_of HT_.out (by kernel_rfl)) (fun _ _ _ h => h) (Or.inl ⟨by rfl, ?_⟩) ?_ ?_
        rotate_left
        · intro w'
          go_simp
          with_reducible rfl
        rotate_left
        · simp only [Act.put, List.setIfInBounds_toArray, List.set_cons_zero, List.set_cons_succ, i64_w, i32_w]
          rfl
        refine pure_ (i := 4) (N := some 16) (v := ?_) (a' := ?_) #[true, true, true, true, true, false, false, false, false] rfl rfl (any_of HT_.out (by kernel_rfl)) (fun _ _ _ h => h) (Or.inl ⟨by rfl, ?_⟩) ?_ ?_
        rotate_left
        · intro w'
          go_simp
          with_reducible rfl
        rotate_left
        · simp only [Act.put, List.setIfInBounds_toArray, List.set_cons_zero, List.set_cons_succ, i64_w, i32_w]
          rfl
        refine pure_ (i := 5) (N := some 17) (v := ?_) (a' := ?_) #[true, true, true, true, true, true, false, false, false] rfl rfl (any_of HT_.out (by kernel_rfl)) (fun _ _ _ h => h) (Or.inl ⟨by rfl, ?_⟩) ?_ ?_
        rotate_left
        · intro w'
          go_simp
          with_reducible rfl
        rotate_left
        · simp only [Act.put, List.setIfInBounds_toArray, List.set_cons_zero, List.set_cons_succ, i64_w, i32_w]
          rfl
        refine one_ (i := 6) (N := some 4) #[true, true, true, true, true, true, true, false, false] rfl rfl (one_of HT_.out (by kernel_rfl)) (by decide) (fun K hK => ?_)
        refine value_ (w1 := ?_) (v := ?_) (by rfl) rfl ?_ ?_
        rotate_left 2
        · go_simp
          constructor
          · rfl
          · rfl
        have hA := below_alloc (Below.refl Wc2.heap.size Wc2) (.cells #[.slice none 0 0, .slice none 0 0] 25)
        have H4 := Aside0.mk (heap_alloc_new Wc2 (.cells #[.slice none 0 0, .slice none 0 0] 25))
        have HNE := Aside0.mk (show Wc2.heap.size ≠ w.heap.size from Nat.ne_of_gt (blk_lt HZ.out))
        have HLE := Aside0.mk (show w.heap.size ≤ Wc2.heap.size from below_size HB.out)
        replace HB := Aside0.mk (below_step HB.out hA)
        replace HZ := Aside0.mk (blk_below HZ.out hA)
        replace HX1 := Aside0.mk (Kd.S_below HX1.out hA)
        replace HX2 := Aside0.mk (Kd.S_below HX2.out hA)
        replace HD := Aside0.mk (below_step HD.out hA)
        clear hA hHeld
        generalize Wc2.alloc (.cells #[.slice none 0 0, .slice none 0 0] 25) = Wa3 at HD HB HZ HX1 HX2 H4 ⊢
        generalize Wc2.heap.size = g4 at H4 HNE HLE ⊢
        refine hK.out _ _ (by exact HSS.out _ HD.out) (fun hHeld => ?_)
        clear hK K
        refine norm_ (a' := ?_) ?_ ?_
        rotate_left
        · show Act.put _ (some 4) _ = _
          simp only [Act.put, List.setIfInBounds_toArray, List.set_cons_zero, List.set_cons_succ, i64_w, i32_w]
          rfl
        refine last_ (i := 7) (N := none) #[true, true, true, true, true, true, true, true, false] rfl rfl (one_of HT_.out (by kernel_rfl)) (by decide) (fun K hK => ?_)
        have hz0 : Wa3.cell? ⟨g4, 0, none⟩ = some (.slice none 0 0) := (blk_cell H4.out 0).trans rfl
        have hz1 : Wa3.cell? ⟨g4, 1, none⟩ = some (.slice none 0 0) := (blk_cell H4.out 1).trans rfl
        have hf0 := blk_frozen H4.out 0
        have hf1 := blk_frozen H4.out 1
        refine skip_ (w1 := ?_) (by rfl) rfl ?_ ?_
        rotate_left
        · go_simp
          rfl
        refine hK.out _ _ ?_
        refine pure_ (i := 8) (N := some 5) (v := ?_) (a' := ?_) #[true, true, true, true, true, true, true, true, true] rfl rfl (any_of HT_.out (by kernel_rfl)) (fun _ _ _ h => h) (Or.inl ⟨by rfl, ?_⟩) ?_ ?_
        rotate_left
        · intro w'
          go_simp
          with_reducible rfl
        rotate_left
        · simp only [Act.put, List.setIfInBounds_toArray, List.set_cons_zero, List.set_cons_succ, i64_w, i32_w]
          rfl
        refine done_ (done_of HT_.out (by kernel_rfl)) ?_
        try go_wp2
        go_meet
        have n52 : ∀ q, q ∈ 52 :: k52.E → q ≠ 25 := by decide
        have n65 : ∀ q, q ∈ 65 :: k65.E → q ≠ 25 := by decide
        have hr1 := blk_put (cs := #[.slice none 0 0, .slice none 0 0]) H4.out 0 (.slice X1 twoS.length x1) rfl
        have hr2 := blk_put (cs := #[.slice X1 twoS.length x1, .slice none 0 0]) hr1 1 (.slice X2 two1.length x2) rfl
        exact ⟨g4, X1, x1, X2, x2, rfl, rfl, ⟨hr2⟩, ⟨Kd.S_set (Kd.S_set HX1.out H4.out n52 _ _) hr1 n52 _ _⟩, ⟨Kd.S_set (Kd.S_set HX2.out H4.out n65 _ _) hr1 n65 _ _⟩, ⟨blk_far (blk_far HZ.out HNE.out.symm _) HNE.out.symm _⟩, ⟨below_set (below_set HB.out (by have := below_size HB.out; have := HNE.out; have := HLE.out; omega)) (by have := HLE.out; omega)⟩⟩
      · skip
        refine value_ (w1 := ?_) (v := ?_) (by rfl) rfl ?_ ?_
        rotate_left 2
        · go_simp
          constructor
          · rfl
          · rfl
        have hA := below_alloc (Below.refl Wc1.heap.size Wc1) (.cells #[.slice none 0 0, .slice none 0 0] 25)
        have H4 := Aside0.mk (heap_alloc_new Wc1 (.cells #[.slice none 0 0, .slice none 0 0] 25))
        have HNE := Aside0.mk (show Wc1.heap.size ≠ w.heap.size from Nat.ne_of_gt (blk_lt HZ.out))
        have HLE := Aside0.mk (show w.heap.size ≤ Wc1.heap.size from below_size HB.out)
        replace HB := Aside0.mk (below_step HB.out hA)
        replace HZ := Aside0.mk (blk_below HZ.out hA)
        replace HQ1 := Aside0.mk (Kd.S_below HQ1.out hA)
        replace HQ2 := Aside0.mk (Kd.S_below HQ2.out hA)
        replace HY := Aside0.mk (Kd.R_below HY.out hA)
        replace HD := Aside0.mk (below_step HD.out hA)
        clear hA hHeld
        generalize Wc1.alloc (.cells #[.slice none 0 0, .slice none 0 0] 25) = Wa5 at HD HB HZ HQ1 HQ2 HY H4 ⊢
        generalize Wc1.heap.size = g4 at H4 HNE HLE ⊢
        refine hK.out _ _ (by exact HSS.out _ HD.out) (fun hHeld => ?_)
        clear hK K
        refine norm_ (a' := ?_) ?_ ?_
        rotate_left
        · show Act.put _ (some 4) _ = _
          simp only [Act.put, List.setIfInBounds_toArray, List.set_cons_zero, List.set_cons_succ, i64_w, i32_w]
          rfl
        refine one_ (i := 2) (N := some 15) #[true, true, true, false, false, false, true, false, false] rfl rfl (one_of HT_.out (by kernel_rfl)) (by decide) (fun K hK => ?_)
        refine goes_ Try.func32 (by kernel_rfl) rfl #[.agg #[.slice Q1 twoS.length q1, .slice Q2 two0.length q2], .int .i64 1, .slice Y (of32 120).length y] (by rfl) rfl rfl (by (try simp only [List.map_toArray, List.map_cons, List.map_nil]); first | done | rfl | (simp only [List.length_drop, List.length_take]; rfl)) ?_
        refine (hWrite.calls Q1 q1 twoS Q2 q2 two0 1 Y y (of32 120) twoS two1 0 Wa5 (Kd.S_reads' HQ1.out).2.2 (Kd.S_reads' HQ1.out).2.1 (Kd.S_reads' HQ2.out).2.2 (Kd.S_reads' HQ2.out).2.1 (Kd.R_reads' HY.out).2.2 (Kd.R_reads' HY.out).2.1 two_w1).mono ?_
        rintro e Wc6 ⟨v1, v2, rfl, ho1, ho2, hA⟩
        obtain ⟨X1, x1, e1⟩ := Kd.S_slice ho1
        subst e1
        obtain ⟨X2, x2, e2⟩ := Kd.S_slice ho2
        subst e2
        have HX1 := Aside0.mk (Kd.S_lower ho1 (below_size HB.out))
        have HX2 := Aside0.mk (Kd.S_lower ho2 (below_size HB.out))
        clear ho1 ho2
        refine ⟨_, rfl, ?_⟩
        replace HB := Aside0.mk (below_step HB.out hA)
        replace HZ := Aside0.mk (blk_below HZ.out hA)
        replace HQ1 := Aside0.mk (Kd.S_below HQ1.out hA)
        replace HQ2 := Aside0.mk (Kd.S_below HQ2.out hA)
        replace HY := Aside0.mk (Kd.R_below HY.out hA)
        replace H4 := Aside0.mk (blk_below H4.out hA)
        replace HD := Aside0.mk (below_step HD.out hA)
        clear hA hHeld
        clear HY
        clear HQ1
        clear HQ2
        refine hK.out _ _ (by exact HSS.out _ HD.out) (fun hHeld => ?_)
        clear hK K
        refine norm_ (a' := ?_) ?_ ?_
        rotate_left
        · show Act.put _ (some 15) _ = _
          simp only [Act.put, List.setIfInBounds_toArray, List.set_cons_zero, List.set_cons_succ, i64_w, i32_w]
          rfl
        refine pure_ (i := 3) (N := some 12) (v := ?_) (a' := ?_) #[true, true, true, true, false, false, true, false, false] rfl rfl (any_of HT_.out (by kernel_rfl)) (fun _ _ _ h => h) (Or.inl ⟨by rfl, ?_⟩) ?_ ?_
        rotate_left
        · intro w'
          go_simp
          with_reducible rfl
        rotate_left
        · simp only [Act.put, List.setIfInBounds_toArray, List.set_cons_zero, List.set_cons_succ, i64_w, i32_w]
          rfl
        refine pure_ (i := 4) (N := some 16) (v := ?_) (a' := ?_) #[true, true, true, true, true, false, true, false, false] rfl rfl (any_of HT_.out (by kernel_rfl)) (fun _ _ _ h => h) (Or.inl ⟨by rfl, ?_⟩) ?_ ?_
        rotate_left
        · intro w'
          go_simp
          with_reducible rfl
        rotate_left
        · simp only [Act.put, List.setIfInBounds_toArray, List.set_cons_zero, List.set_cons_succ, i64_w, i32_w]
          rfl
        refine pure_ (i := 5) (N := some 17) (v := ?_) (a' := ?_) #[true, true, true, true, true, true, true, false, false] rfl rfl (any_of HT_.out (by kernel_rfl)) (fun _ _ _ h => h) (Or.inl ⟨by rfl, ?_⟩) ?_ ?_
        rotate_left
        · intro w'
          go_simp
          with_reducible rfl
        rotate_left
        · simp only [Act.put, List.setIfInBounds_toArray, List.set_cons_zero, List.set_cons_succ, i64_w, i32_w]
          rfl
        refine last_ (i := 7) (N := none) #[true, true, true, true, true, true, true, true, false] rfl rfl (one_of HT_.out (by kernel_rfl)) (by decide) (fun K hK => ?_)
        have hz0 : Wc6.cell? ⟨g4, 0, none⟩ = some (.slice none 0 0) := (blk_cell H4.out 0).trans rfl
        have hz1 : Wc6.cell? ⟨g4, 1, none⟩ = some (.slice none 0 0) := (blk_cell H4.out 1).trans rfl
        have hf0 := blk_frozen H4.out 0
        have hf1 := blk_frozen H4.out 1
        refine skip_ (w1 := ?_) (by rfl) rfl ?_ ?_
        rotate_left
        · go_simp
          rfl
        refine hK.out _ _ ?_
        refine pure_ (i := 8) (N := some 5) (v := ?_) (a' := ?_) #[true, true, true, true, true, true, true, true, true] rfl rfl (any_of HT_.out (by kernel_rfl)) (fun _ _ _ h => h) (Or.inl ⟨by rfl, ?_⟩) ?_ ?_
        rotate_left
        · intro w'
          go_simp
          with_reducible rfl
        rotate_left
        · simp only [Act.put, List.setIfInBounds_toArray, List.set_cons_zero, List.set_cons_succ, i64_w, i32_w]
          rfl
        refine done_ (done_of HT_.out (by kernel_rfl)) ?_
        try go_wp2
        go_meet
        have n52 : ∀ q, q ∈ 52 :: k52.E → q ≠ 25 := by decide
        have n65 : ∀ q, q ∈ 65 :: k65.E → q ≠ 25 := by decide
        have hr1 := blk_put (cs := #[.slice none 0 0, .slice none 0 0]) H4.out 0 (.slice X1 twoS.length x1) rfl
        have hr2 := blk_put (cs := #[.slice X1 twoS.length x1, .slice none 0 0]) hr1 1 (.slice X2 two1.length x2) rfl
        exact ⟨g4, X1, x1, X2, x2, rfl, rfl, ⟨hr2⟩, ⟨Kd.S_set (Kd.S_set HX1.out H4.out n52 _ _) hr1 n52 _ _⟩, ⟨Kd.S_set (Kd.S_set HX2.out H4.out n65 _ _) hr1 n65 _ _⟩, ⟨blk_far (blk_far HZ.out HNE.out.symm _) HNE.out.symm _⟩, ⟨below_set (below_set HB.out (by have := below_size HB.out; have := HNE.out; have := HLE.out; omega)) (by have := HLE.out; omega)⟩⟩
    · skip
      refine value_ (w1 := ?_) (v := ?_) (by rfl) rfl ?_ ?_
      rotate_left 2
      · go_simp
        constructor
        · rfl
        · rfl
      have hA := below_alloc (Below.refl Wd.heap.size Wd) (.cells #[.slice none 0 0, .slice none 0 0] 25)
      have H4 := Aside0.mk (heap_alloc_new Wd (.cells #[.slice none 0 0, .slice none 0 0] 25))
      have HNE := Aside0.mk (show Wd.heap.size ≠ w.heap.size from Nat.ne_of_gt (blk_lt HZ.out))
      have HLE := Aside0.mk (show w.heap.size ≤ Wd.heap.size from below_size HB.out)
      replace HB := Aside0.mk (below_step HB.out hA)
      replace HZ := Aside0.mk (blk_below HZ.out hA)
      replace HQ1 := Aside0.mk (Kd.S_below HQ1.out hA)
      replace HQ2 := Aside0.mk (Kd.S_below HQ2.out hA)
      replace HD := Aside0.mk (below_step HD.out hA)
      clear hA hHeld
      generalize Wd.alloc (.cells #[.slice none 0 0, .slice none 0 0] 25) = Wa8 at HD HB HZ HQ1 HQ2 H4 ⊢
      generalize Wd.heap.size = g4 at H4 HNE HLE ⊢
      refine hK.out _ _ (by exact HSS.out _ HD.out) (fun hHeld => ?_)
      clear hK K
      refine norm_ (a' := ?_) ?_ ?_
      rotate_left
      · show Act.put _ (some 4) _ = _
        simp only [Act.put, List.setIfInBounds_toArray, List.set_cons_zero, List.set_cons_succ, i64_w, i32_w]
        rfl
      refine one_ (i := 1) (N := some 14) #[true, true, false, false, false, false, true, false, false] rfl rfl (one_of HT_.out (by kernel_rfl)) (by decide) (fun K hK => ?_)
      refine goes_ Try.func44 (by kernel_rfl) rfl #[.int .u8 120] (by rfl) rfl rfl (by (try simp only [List.map_toArray, List.map_cons, List.map_nil]); first | done | rfl | (simp only [List.length_drop, List.length_take]; rfl)) ?_
      refine (catamaranlaw05_of.calls 50 120 (of32 120) Wa8 two_of120).mono ?_
      rintro e Wc9 ⟨v1, rfl, ho, hA⟩
      obtain ⟨Y, y, e1⟩ := Kd.R_slice ho
      subst e1
      have HY := Aside0.mk ho
      clear ho
      refine ⟨_, rfl, ?_⟩
      replace HB := Aside0.mk (below_step HB.out hA)
      replace HZ := Aside0.mk (blk_below HZ.out hA)
      replace HQ1 := Aside0.mk (Kd.S_below HQ1.out hA)
      replace HQ2 := Aside0.mk (Kd.S_below HQ2.out hA)
      replace H4 := Aside0.mk (blk_below H4.out hA)
      replace HD := Aside0.mk (below_step HD.out hA)
      clear hA hHeld
      refine hK.out _ _ (by exact HSS.out _ HD.out) (fun hHeld => ?_)
      clear hK K
      refine norm_ (a' := ?_) ?_ ?_
      rotate_left
      · show Act.put _ (some 14) _ = _
        simp only [Act.put, List.setIfInBounds_toArray, List.set_cons_zero, List.set_cons_succ, i64_w, i32_w]
        rfl
      refine one_ (i := 2) (N := some 15) #[true, true, true, false, false, false, true, false, false] rfl rfl (one_of HT_.out (by kernel_rfl)) (by decide) (fun K hK => ?_)
      refine goes_ Try.func32 (by kernel_rfl) rfl #[.agg #[.slice Q1 twoS.length q1, .slice Q2 two0.length q2], .int .i64 1, .slice Y (of32 120).length y] (by rfl) rfl rfl (by (try simp only [List.map_toArray, List.map_cons, List.map_nil]); first | done | rfl | (simp only [List.length_drop, List.length_take]; rfl)) ?_
      refine (hWrite.calls Q1 q1 twoS Q2 q2 two0 1 Y y (of32 120) twoS two1 0 Wc9 (Kd.S_reads' HQ1.out).2.2 (Kd.S_reads' HQ1.out).2.1 (Kd.S_reads' HQ2.out).2.2 (Kd.S_reads' HQ2.out).2.1 (Kd.R_reads' HY.out).2.2 (Kd.R_reads' HY.out).2.1 two_w1).mono ?_
      rintro e Wc10 ⟨v1, v2, rfl, ho1, ho2, hA⟩
      obtain ⟨X1, x1, e1⟩ := Kd.S_slice ho1
      subst e1
      obtain ⟨X2, x2, e2⟩ := Kd.S_slice ho2
      subst e2
      have HX1 := Aside0.mk (Kd.S_lower ho1 (below_size HB.out))
      have HX2 := Aside0.mk (Kd.S_lower ho2 (below_size HB.out))
      clear ho1 ho2
      refine ⟨_, rfl, ?_⟩
      replace HB := Aside0.mk (below_step HB.out hA)
      replace HZ := Aside0.mk (blk_below HZ.out hA)
      replace HQ1 := Aside0.mk (Kd.S_below HQ1.out hA)
      replace HQ2 := Aside0.mk (Kd.S_below HQ2.out hA)
      replace H4 := Aside0.mk (blk_below H4.out hA)
      replace HY := Aside0.mk (Kd.R_below HY.out hA)
      replace HD := Aside0.mk (below_step HD.out hA)
      clear hA hHeld
      clear HY
      clear HQ1
      clear HQ2
      refine hK.out _ _ (by exact HSS.out _ HD.out) (fun hHeld => ?_)
      clear hK K
      refine norm_ (a' := ?_) ?_ ?_
      rotate_left
      · show Act.put _ (some 15) _ = _
        simp only [Act.put, List.setIfInBounds_toArray, List.set_cons_zero, List.set_cons_succ, i64_w, i32_w]
        rfl
      refine pure_ (i := 3) (N := some 12) (v := ?_) (a' := ?_) #[true, true, true, true, false, false, true, false, false] rfl rfl (any_of HT_.out (by kernel_rfl)) (fun _ _ _ h => h) (Or.inl ⟨by rfl, ?_⟩) ?_ ?_
      rotate_left
      · intro w'
        go_simp
        with_reducible rfl
      rotate_left
      · simp only [Act.put, List.setIfInBounds_toArray, List.set_cons_zero, List.set_cons_succ, i64_w, i32_w]
        rfl
      refine pure_ (i := 4) (N := some 16) (v := ?_) (a' := ?_) #[true, true, true, true, true, false, true, false, false] rfl rfl (any_of HT_.out (by kernel_rfl)) (fun _ _ _ h => h) (Or.inl ⟨by rfl, ?_⟩) ?_ ?_
      rotate_left
      · intro w'
        go_simp
        with_reducible rfl
      rotate_left
      · simp only [Act.put, List.setIfInBounds_toArray, List.set_cons_zero, List.set_cons_succ, i64_w, i32_w]
        rfl
      refine pure_ (i := 5) (N := some 17) (v := ?_) (a' := ?_) #[true, true, true, true, true, true, true, false, false] rfl rfl (any_of HT_.out (by kernel_rfl)) (fun _ _ _ h => h) (Or.inl ⟨by rfl, ?_⟩) ?_ ?_
      rotate_left
      · intro w'
        go_simp
        with_reducible rfl
      rotate_left
      · simp only [Act.put, List.setIfInBounds_toArray, List.set_cons_zero, List.set_cons_succ, i64_w, i32_w]
        rfl
      refine last_ (i := 7) (N := none) #[true, true, true, true, true, true, true, true, false] rfl rfl (one_of HT_.out (by kernel_rfl)) (by decide) (fun K hK => ?_)
      have hz0 : Wc10.cell? ⟨g4, 0, none⟩ = some (.slice none 0 0) := (blk_cell H4.out 0).trans rfl
      have hz1 : Wc10.cell? ⟨g4, 1, none⟩ = some (.slice none 0 0) := (blk_cell H4.out 1).trans rfl
      have hf0 := blk_frozen H4.out 0
      have hf1 := blk_frozen H4.out 1
      refine skip_ (w1 := ?_) (by rfl) rfl ?_ ?_
      rotate_left
      · go_simp
        rfl
      refine hK.out _ _ ?_
      refine pure_ (i := 8) (N := some 5) (v := ?_) (a' := ?_) #[true, true, true, true, true, true, true, true, true] rfl rfl (any_of HT_.out (by kernel_rfl)) (fun _ _ _ h => h) (Or.inl ⟨by rfl, ?_⟩) ?_ ?_
      rotate_left
      · intro w'
        go_simp
        with_reducible rfl
      rotate_left
      · simp only [Act.put, List.setIfInBounds_toArray, List.set_cons_zero, List.set_cons_succ, i64_w, i32_w]
        rfl
      refine done_ (done_of HT_.out (by kernel_rfl)) ?_
      try go_wp2
      go_meet
      have n52 : ∀ q, q ∈ 52 :: k52.E → q ≠ 25 := by decide
      have n65 : ∀ q, q ∈ 65 :: k65.E → q ≠ 25 := by decide
      have hr1 := blk_put (cs := #[.slice none 0 0, .slice none 0 0]) H4.out 0 (.slice X1 twoS.length x1) rfl
      have hr2 := blk_put (cs := #[.slice X1 twoS.length x1, .slice none 0 0]) hr1 1 (.slice X2 two1.length x2) rfl
      exact ⟨g4, X1, x1, X2, x2, rfl, rfl, ⟨hr2⟩, ⟨Kd.S_set (Kd.S_set HX1.out H4.out n52 _ _) hr1 n52 _ _⟩, ⟨Kd.S_set (Kd.S_set HX2.out H4.out n65 _ _) hr1 n65 _ _⟩, ⟨blk_far (blk_far HZ.out HNE.out.symm _) HNE.out.symm _⟩, ⟨below_set (below_set HB.out (by have := below_size HB.out; have := HNE.out; have := HLE.out; omega)) (by have := HLE.out; omega)⟩⟩
  case rest =>
  clear HB HQ1 HQ2 HZ H2 HSS
  obtain ⟨g2', Q1, q1, Q2, q2, rfl, rfl, H2, HQ1, HQ2, HZ, HB⟩ := hcut
  go_upto_region 3 with fail
  have HSS := Aside0.mk (show ∀ W : World, Below wc.heap.size wc W → W.cell? ⟨g2', 0, none⟩ = some (.slice Q1 twoS.length q1) ∧ W.cell? ⟨g2', 1, none⟩ = some (.slice Q2 two1.length q2) from fun W hb => ⟨(blk_cell (blk_below H2.out hb) 0).trans rfl, (blk_cell (blk_below H2.out hb) 1).trans rfl⟩)
  go_cut [6, 7] from 18 to 23 (fun s4 s5 wx => ∃ (g4 : Nat) (X1 : Option Addr) (x1 : Nat) (X2 : Option Addr) (x2 : Nat), s4 = .pointer (some ⟨g4, 0, none⟩) ∧ s5 = .int .i64 0 ∧ Aside0 (wx.heap[g4]? = some (.cells #[.slice X1 twoS.length x1, .slice X2 two2.length x2] 25 (0, 0))) ∧ Aside0 (Kd.S k52 52 wx w.heap.size (fun _ => True) (.slice X1 twoS.length x1) twoS) ∧ Aside0 (Kd.S k65 65 wx w.heap.size (fun _ => True) (.slice X2 two2.length x2) two2) ∧ Aside0 (wx.heap[w.heap.size]? = some (.cells #[.slice none 0 0, .slice none 0 0] 25 (0, 0))) ∧ Aside0 (Below w.heap.size w wx))
  case first =>
    refine start_ (n := 9) (S := fun w' => w'.cell? ⟨g2', 0, none⟩ = some (.slice Q1 twoS.length q1) ∧ w'.cell? ⟨g2', 1, none⟩ = some (.slice Q2 two1.length q2)) (ds := [7]) #[false, false, false, false, false, false, false, false, false] (by kernel_rfl) rfl rfl (by exact HSS.out _ (below_drew1 (Below.refl _ _))) (fun hHeld => ?_); refine with_tabW hTwo.tab3 hTwo.bits3 (fun HT_ HW_ => ?_)
    have HD := Aside0.mk (below_drew1 (Below.refl wc.heap.size wc))
    replace HB := Aside0.mk (below_step HB.out (below_drew1 (Below.refl wc.heap.size wc)))
    replace HZ := Aside0.mk (blk_below HZ.out (below_drew1 (Below.refl wc.heap.size wc)))
    replace HQ1 := Aside0.mk (Kd.S_below HQ1.out (below_drew1 (Below.refl wc.heap.size wc)))
    replace HQ2 := Aside0.mk (Kd.S_below HQ2.out (below_drew1 (Below.refl wc.heap.size wc)))
    generalize wc.drew = Wd at HD HB HZ HQ1 HQ2 hHeld ⊢
    refine take_ (i := 0) (N := some 19) (v := ?_) (a' := ?_) #[true, false, false, false, false, false, false, false, false] rfl rfl (take_ofW HT_.out HW_.out (by kernel_rfl)) (fun _ _ _ h => h) (Or.inl ⟨by rfl, ?_⟩) hHeld ?_ ?_
    rotate_left
    · rintro w' ⟨s0, s1⟩
      go_simp
      with_reducible rfl
    rotate_left
    · simp only [Act.put, List.setIfInBounds_toArray, List.set_cons_zero, List.set_cons_succ, i64_w, i32_w]
      rfl
    refine two_ (i := 1) (j := 6) (Ni := some 20) (Nj := some 6) #[true, true, false, false, false, false, false, false, false] #[true, false, false, false, false, false, true, false, false] rfl rfl rfl rfl (two_of HT_.out (by kernel_rfl)) (by decide) (by decide) (fun K hK => ?_) (fun K hK => ?_)
    · skip
      refine goes_ Try.func44 (by kernel_rfl) rfl #[.int .u8 121] (by rfl) rfl rfl (by (try simp only [List.map_toArray, List.map_cons, List.map_nil]); first | done | rfl | (simp only [List.length_drop, List.length_take]; rfl)) ?_
      refine (catamaranlaw05_of.calls 50 121 (of32 121) Wd two_of121).mono ?_
      rintro e Wc1 ⟨v1, rfl, ho, hA⟩
      obtain ⟨Y, y, e1⟩ := Kd.R_slice ho
      subst e1
      have HY := Aside0.mk ho
      clear ho
      refine ⟨_, rfl, ?_⟩
      replace HB := Aside0.mk (below_step HB.out hA)
      replace HZ := Aside0.mk (blk_below HZ.out hA)
      replace HQ1 := Aside0.mk (Kd.S_below HQ1.out hA)
      replace HQ2 := Aside0.mk (Kd.S_below HQ2.out hA)
      replace HD := Aside0.mk (below_step HD.out hA)
      clear hA hHeld
      refine hK.out _ _ (by exact HSS.out _ HD.out) (fun hHeld => ?_)
      clear hK K
      refine norm_ (a' := ?_) ?_ ?_
      rotate_left
      · show Act.put _ (some 20) _ = _
        simp only [Act.put, List.setIfInBounds_toArray, List.set_cons_zero, List.set_cons_succ, i64_w, i32_w]
        rfl
      refine two_ (i := 2) (j := 6) (Ni := some 21) (Nj := some 6) #[true, true, true, false, false, false, false, false, false] #[true, true, false, false, false, false, true, false, false] rfl rfl rfl rfl (two_of HT_.out (by kernel_rfl)) (by decide) (by decide) (fun K hK => ?_) (fun K hK => ?_)
      · skip
        refine goes_ Try.func32 (by kernel_rfl) rfl #[.agg #[.slice Q1 twoS.length q1, .slice Q2 two1.length q2], .int .i64 1, .slice Y (of32 121).length y] (by rfl) rfl rfl (by (try simp only [List.map_toArray, List.map_cons, List.map_nil]); first | done | rfl | (simp only [List.length_drop, List.length_take]; rfl)) ?_
        refine (hWrite.calls Q1 q1 twoS Q2 q2 two1 1 Y y (of32 121) twoS two2 0 Wc1 (Kd.S_reads' HQ1.out).2.2 (Kd.S_reads' HQ1.out).2.1 (Kd.S_reads' HQ2.out).2.2 (Kd.S_reads' HQ2.out).2.1 (Kd.R_reads' HY.out).2.2 (Kd.R_reads' HY.out).2.1 two_w2).mono ?_
        rintro e Wc2 ⟨v1, v2, rfl, ho1, ho2, hA⟩
        obtain ⟨X1, x1, e1⟩ := Kd.S_slice ho1
        subst e1
        obtain ⟨X2, x2, e2⟩ := Kd.S_slice ho2
        subst e2
        have HX1 := Aside0.mk (Kd.S_lower ho1 (below_size HB.out))
        have HX2 := Aside0.mk (Kd.S_lower ho2 (below_size HB.out))
        clear ho1 ho2
        refine ⟨_, rfl, ?_⟩
        replace HB := Aside0.mk (below_step HB.out hA)
        replace HZ := Aside0.mk (blk_below HZ.out hA)
        replace HQ1 := Aside0.mk (Kd.S_below HQ1.out hA)
        replace HQ2 := Aside0.mk (Kd.S_below HQ2.out hA)
        replace HY := Aside0.mk (Kd.R_below HY.out hA)
        replace HD := Aside0.mk (below_step HD.out hA)
        clear hA hHeld
        clear HY
        clear HQ1
        clear HQ2
        refine hK.out _ _ (by exact HSS.out _ HD.out) (fun hHeld => ?_)
        clear hK K
        refine norm_ (a' := ?_) ?_ ?_
        rotate_left
        · show Act.put _ (some 21) _ = _
          simp only [Act.put, List.setIfInBounds_toArray, List.set_cons_zero, List.set_cons_succ, i64_w, i32_w]
          rfl
        refine pure_ (i := 3) (N := some 18) (v := ?_) (a' := ?_) #[true, true, true, true, false, false, false, false, false] rfl rfl (any_of HT_.out (by kernel_rfl)) (fun _ _ _ h => h) (Or.inl ⟨by rfl, ?_⟩) ?_ ?_
        rotate_left
        · intro w'
          go_simp
          with_reducible rfl
        rotate_left
        · simp only [Act.put, List.setIfInBounds_toArray, List.set_cons_zero, List.set_cons_succ, i64_w, i32_w]
          rfl
        refine pure_ (i := 4) (N := some 22) (v := ?_) (a' := ?_) #[true, true, true, true, true, false, false, false, false] rfl rfl (any_of HT_.out (by kernel_rfl)) (fun _ _ _ h => h) (Or.inl ⟨by rfl, ?_⟩) ?_ ?_
        rotate_left
        · intro w'
          go_simp
          with_reducible rfl
        rotate_left
        · simp only [Act.put, List.setIfInBounds_toArray, List.set_cons_zero, List.set_cons_succ, i64_w, i32_w]
          rfl
        refine pure_ (i := 5) (N := some 23) (v := ?_) (a' := ?_) #[true, true, true, true, true, true, false, false, false] rfl rfl (any_of HT_.out (by kernel_rfl)) (fun _ _ _ h => h) (Or.inl ⟨by rfl, ?_⟩) ?_ ?_
        rotate_left
        · intro w'
          go_simp
          with_reducible rfl
        rotate_left
        · simp only [Act.put, List.setIfInBounds_toArray, List.set_cons_zero, List.set_cons_succ, i64_w, i32_w]
          rfl
        refine one_ (i := 6) (N := some 6) #[true, true, true, true, true, true, true, false, false] rfl rfl (one_of HT_.out (by kernel_rfl)) (by decide) (fun K hK => ?_)
        refine value_ (w1 := ?_) (v := ?_) (by rfl) rfl ?_ ?_
        rotate_left 2
        · go_simp
          constructor
          · rfl
          · rfl
        have hA := below_alloc (Below.refl Wc2.heap.size Wc2) (.cells #[.slice none 0 0, .slice none 0 0] 25)
        have H4 := Aside0.mk (heap_alloc_new Wc2 (.cells #[.slice none 0 0, .slice none 0 0] 25))
        have HNE := Aside0.mk (show Wc2.heap.size ≠ w.heap.size from Nat.ne_of_gt (blk_lt HZ.out))
        have HLE := Aside0.mk (show w.heap.size ≤ Wc2.heap.size from below_size HB.out)
        replace HB := Aside0.mk (below_step HB.out hA)
        replace HZ := Aside0.mk (blk_below HZ.out hA)
        replace HX1 := Aside0.mk (Kd.S_below HX1.out hA)
        replace HX2 := Aside0.mk (Kd.S_below HX2.out hA)
        replace HD := Aside0.mk (below_step HD.out hA)
        clear hA hHeld
        generalize Wc2.alloc (.cells #[.slice none 0 0, .slice none 0 0] 25) = Wa3 at HD HB HZ HX1 HX2 H4 ⊢
        generalize Wc2.heap.size = g4 at H4 HNE HLE ⊢
        refine hK.out _ _ (by exact HSS.out _ HD.out) (fun hHeld => ?_)
        clear hK K
        refine norm_ (a' := ?_) ?_ ?_
        rotate_left
        · show Act.put _ (some 6) _ = _
          simp only [Act.put, List.setIfInBounds_toArray, List.set_cons_zero, List.set_cons_succ, i64_w, i32_w]
          rfl
        refine last_ (i := 7) (N := none) #[true, true, true, true, true, true, true, true, false] rfl rfl (one_of HT_.out (by kernel_rfl)) (by decide) (fun K hK => ?_)
        have hz0 : Wa3.cell? ⟨g4, 0, none⟩ = some (.slice none 0 0) := (blk_cell H4.out 0).trans rfl
        have hz1 : Wa3.cell? ⟨g4, 1, none⟩ = some (.slice none 0 0) := (blk_cell H4.out 1).trans rfl
        have hf0 := blk_frozen H4.out 0
        have hf1 := blk_frozen H4.out 1
        refine skip_ (w1 := ?_) (by rfl) rfl ?_ ?_
        rotate_left
        · go_simp
          rfl
        refine hK.out _ _ ?_
        refine pure_ (i := 8) (N := some 7) (v := ?_) (a' := ?_) #[true, true, true, true, true, true, true, true, true] rfl rfl (any_of HT_.out (by kernel_rfl)) (fun _ _ _ h => h) (Or.inl ⟨by rfl, ?_⟩) ?_ ?_
        rotate_left
        · intro w'
          go_simp
          with_reducible rfl
        rotate_left
        · simp only [Act.put, List.setIfInBounds_toArray, List.set_cons_zero, List.set_cons_succ, i64_w, i32_w]
          rfl
        refine done_ (done_of HT_.out (by kernel_rfl)) ?_
        try go_wp2
        go_meet
        have n52 : ∀ q, q ∈ 52 :: k52.E → q ≠ 25 := by decide
        have n65 : ∀ q, q ∈ 65 :: k65.E → q ≠ 25 := by decide
        have hr1 := blk_put (cs := #[.slice none 0 0, .slice none 0 0]) H4.out 0 (.slice X1 twoS.length x1) rfl
        have hr2 := blk_put (cs := #[.slice X1 twoS.length x1, .slice none 0 0]) hr1 1 (.slice X2 two2.length x2) rfl
        exact ⟨g4, X1, x1, X2, x2, rfl, rfl, ⟨hr2⟩, ⟨Kd.S_set (Kd.S_set HX1.out H4.out n52 _ _) hr1 n52 _ _⟩, ⟨Kd.S_set (Kd.S_set HX2.out H4.out n65 _ _) hr1 n65 _ _⟩, ⟨blk_far (blk_far HZ.out HNE.out.symm _) HNE.out.symm _⟩, ⟨below_set (below_set HB.out (by have := below_size HB.out; have := HNE.out; have := HLE.out; omega)) (by have := HLE.out; omega)⟩⟩
      · skip
        refine value_ (w1 := ?_) (v := ?_) (by rfl) rfl ?_ ?_
        rotate_left 2
        · go_simp
          constructor
          · rfl
          · rfl
        have hA := below_alloc (Below.refl Wc1.heap.size Wc1) (.cells #[.slice none 0 0, .slice none 0 0] 25)
        have H4 := Aside0.mk (heap_alloc_new Wc1 (.cells #[.slice none 0 0, .slice none 0 0] 25))
        have HNE := Aside0.mk (show Wc1.heap.size ≠ w.heap.size from Nat.ne_of_gt (blk_lt HZ.out))
        have HLE := Aside0.mk (show w.heap.size ≤ Wc1.heap.size from below_size HB.out)
        replace HB := Aside0.mk (below_step HB.out hA)
        replace HZ := Aside0.mk (blk_below HZ.out hA)
        replace HQ1 := Aside0.mk (Kd.S_below HQ1.out hA)
        replace HQ2 := Aside0.mk (Kd.S_below HQ2.out hA)
        replace HY := Aside0.mk (Kd.R_below HY.out hA)
        replace HD := Aside0.mk (below_step HD.out hA)
        clear hA hHeld
        generalize Wc1.alloc (.cells #[.slice none 0 0, .slice none 0 0] 25) = Wa5 at HD HB HZ HQ1 HQ2 HY H4 ⊢
        generalize Wc1.heap.size = g4 at H4 HNE HLE ⊢
        refine hK.out _ _ (by exact HSS.out _ HD.out) (fun hHeld => ?_)
        clear hK K
        refine norm_ (a' := ?_) ?_ ?_
        rotate_left
        · show Act.put _ (some 6) _ = _
          simp only [Act.put, List.setIfInBounds_toArray, List.set_cons_zero, List.set_cons_succ, i64_w, i32_w]
          rfl
        refine one_ (i := 2) (N := some 21) #[true, true, true, false, false, false, true, false, false] rfl rfl (one_of HT_.out (by kernel_rfl)) (by decide) (fun K hK => ?_)
        refine goes_ Try.func32 (by kernel_rfl) rfl #[.agg #[.slice Q1 twoS.length q1, .slice Q2 two1.length q2], .int .i64 1, .slice Y (of32 121).length y] (by rfl) rfl rfl (by (try simp only [List.map_toArray, List.map_cons, List.map_nil]); first | done | rfl | (simp only [List.length_drop, List.length_take]; rfl)) ?_
        refine (hWrite.calls Q1 q1 twoS Q2 q2 two1 1 Y y (of32 121) twoS two2 0 Wa5 (Kd.S_reads' HQ1.out).2.2 (Kd.S_reads' HQ1.out).2.1 (Kd.S_reads' HQ2.out).2.2 (Kd.S_reads' HQ2.out).2.1 (Kd.R_reads' HY.out).2.2 (Kd.R_reads' HY.out).2.1 two_w2).mono ?_
        rintro e Wc6 ⟨v1, v2, rfl, ho1, ho2, hA⟩
        obtain ⟨X1, x1, e1⟩ := Kd.S_slice ho1
        subst e1
        obtain ⟨X2, x2, e2⟩ := Kd.S_slice ho2
        subst e2
        have HX1 := Aside0.mk (Kd.S_lower ho1 (below_size HB.out))
        have HX2 := Aside0.mk (Kd.S_lower ho2 (below_size HB.out))
        clear ho1 ho2
        refine ⟨_, rfl, ?_⟩
        replace HB := Aside0.mk (below_step HB.out hA)
        replace HZ := Aside0.mk (blk_below HZ.out hA)
        replace HQ1 := Aside0.mk (Kd.S_below HQ1.out hA)
        replace HQ2 := Aside0.mk (Kd.S_below HQ2.out hA)
        replace HY := Aside0.mk (Kd.R_below HY.out hA)
        replace H4 := Aside0.mk (blk_below H4.out hA)
        replace HD := Aside0.mk (below_step HD.out hA)
        clear hA hHeld
        clear HY
        clear HQ1
        clear HQ2
        refine hK.out _ _ (by exact HSS.out _ HD.out) (fun hHeld => ?_)
        clear hK K
        refine norm_ (a' := ?_) ?_ ?_
        rotate_left
        · show Act.put _ (some 21) _ = _
          simp only [Act.put, List.setIfInBounds_toArray, List.set_cons_zero, List.set_cons_succ, i64_w, i32_w]
          rfl
        refine pure_ (i := 3) (N := some 18) (v := ?_) (a' := ?_) #[true, true, true, true, false, false, true, false, false] rfl rfl (any_of HT_.out (by kernel_rfl)) (fun _ _ _ h => h) (Or.inl ⟨by rfl, ?_⟩) ?_ ?_
        rotate_left
        · intro w'
          go_simp
          with_reducible rfl
        rotate_left
        · simp only [Act.put, List.setIfInBounds_toArray, List.set_cons_zero, List.set_cons_succ, i64_w, i32_w]
          rfl
        refine pure_ (i := 4) (N := some 22) (v := ?_) (a' := ?_) #[true, true, true, true, true, false, true, false, false] rfl rfl (any_of HT_.out (by kernel_rfl)) (fun _ _ _ h => h) (Or.inl ⟨by rfl, ?_⟩) ?_ ?_
        rotate_left
        · intro w'
          go_simp
          with_reducible rfl
        rotate_left
        · simp only [Act.put, List.setIfInBounds_toArray, List.set_cons_zero, List.set_cons_succ, i64_w, i32_w]
          rfl
        refine pure_ (i := 5) (N := some 23) (v := ?_) (a' := ?_) #[true, true, true, true, true, true, true, false, false] rfl rfl (any_of HT_.out (by kernel_rfl)) (fun _ _ _ h => h) (Or.inl ⟨by rfl, ?_⟩) ?_ ?_
        rotate_left
        · intro w'
          go_simp
          with_reducible rfl
        rotate_left
        · simp only [Act.put, List.setIfInBounds_toArray, List.set_cons_zero, List.set_cons_succ, i64_w, i32_w]
          rfl
        refine last_ (i := 7) (N := none) #[true, true, true, true, true, true, true, true, false] rfl rfl (one_of HT_.out (by kernel_rfl)) (by decide) (fun K hK => ?_)
        have hz0 : Wc6.cell? ⟨g4, 0, none⟩ = some (.slice none 0 0) := (blk_cell H4.out 0).trans rfl
        have hz1 : Wc6.cell? ⟨g4, 1, none⟩ = some (.slice none 0 0) := (blk_cell H4.out 1).trans rfl
        have hf0 := blk_frozen H4.out 0
        have hf1 := blk_frozen H4.out 1
        refine skip_ (w1 := ?_) (by rfl) rfl ?_ ?_
        rotate_left
        · go_simp
          rfl
        refine hK.out _ _ ?_
        refine pure_ (i := 8) (N := some 7) (v := ?_) (a' := ?_) #[true, true, true, true, true, true, true, true, true] rfl rfl (any_of HT_.out (by kernel_rfl)) (fun _ _ _ h => h) (Or.inl ⟨by rfl, ?_⟩) ?_ ?_
        rotate_left
        · intro w'
          go_simp
          with_reducible rfl
        rotate_left
        · simp only [Act.put, List.setIfInBounds_toArray, List.set_cons_zero, List.set_cons_succ, i64_w, i32_w]
          rfl
        refine done_ (done_of HT_.out (by kernel_rfl)) ?_
        try go_wp2
        go_meet
        have n52 : ∀ q, q ∈ 52 :: k52.E → q ≠ 25 := by decide
        have n65 : ∀ q, q ∈ 65 :: k65.E → q ≠ 25 := by decide
        have hr1 := blk_put (cs := #[.slice none 0 0, .slice none 0 0]) H4.out 0 (.slice X1 twoS.length x1) rfl
        have hr2 := blk_put (cs := #[.slice X1 twoS.length x1, .slice none 0 0]) hr1 1 (.slice X2 two2.length x2) rfl
        exact ⟨g4, X1, x1, X2, x2, rfl, rfl, ⟨hr2⟩, ⟨Kd.S_set (Kd.S_set HX1.out H4.out n52 _ _) hr1 n52 _ _⟩, ⟨Kd.S_set (Kd.S_set HX2.out H4.out n65 _ _) hr1 n65 _ _⟩, ⟨blk_far (blk_far HZ.out HNE.out.symm _) HNE.out.symm _⟩, ⟨below_set (below_set HB.out (by have := below_size HB.out; have := HNE.out; have := HLE.out; omega)) (by have := HLE.out; omega)⟩⟩
    · skip
      refine value_ (w1 := ?_) (v := ?_) (by rfl) rfl ?_ ?_
      rotate_left 2
      · go_simp
        constructor
        · rfl
        · rfl
      have hA := below_alloc (Below.refl Wd.heap.size Wd) (.cells #[.slice none 0 0, .slice none 0 0] 25)
      have H4 := Aside0.mk (heap_alloc_new Wd (.cells #[.slice none 0 0, .slice none 0 0] 25))
      have HNE := Aside0.mk (show Wd.heap.size ≠ w.heap.size from Nat.ne_of_gt (blk_lt HZ.out))
      have HLE := Aside0.mk (show w.heap.size ≤ Wd.heap.size from below_size HB.out)
      replace HB := Aside0.mk (below_step HB.out hA)
      replace HZ := Aside0.mk (blk_below HZ.out hA)
      replace HQ1 := Aside0.mk (Kd.S_below HQ1.out hA)
      replace HQ2 := Aside0.mk (Kd.S_below HQ2.out hA)
      replace HD := Aside0.mk (below_step HD.out hA)
      clear hA hHeld
      generalize Wd.alloc (.cells #[.slice none 0 0, .slice none 0 0] 25) = Wa8 at HD HB HZ HQ1 HQ2 H4 ⊢
      generalize Wd.heap.size = g4 at H4 HNE HLE ⊢
      refine hK.out _ _ (by exact HSS.out _ HD.out) (fun hHeld => ?_)
      clear hK K
      refine norm_ (a' := ?_) ?_ ?_
      rotate_left
      · show Act.put _ (some 6) _ = _
        simp only [Act.put, List.setIfInBounds_toArray, List.set_cons_zero, List.set_cons_succ, i64_w, i32_w]
        rfl
      refine one_ (i := 1) (N := some 20) #[true, true, false, false, false, false, true, false, false] rfl rfl (one_of HT_.out (by kernel_rfl)) (by decide) (fun K hK => ?_)
      refine goes_ Try.func44 (by kernel_rfl) rfl #[.int .u8 121] (by rfl) rfl rfl (by (try simp only [List.map_toArray, List.map_cons, List.map_nil]); first | done | rfl | (simp only [List.length_drop, List.length_take]; rfl)) ?_
      refine (catamaranlaw05_of.calls 50 121 (of32 121) Wa8 two_of121).mono ?_
      rintro e Wc9 ⟨v1, rfl, ho, hA⟩
      obtain ⟨Y, y, e1⟩ := Kd.R_slice ho
      subst e1
      have HY := Aside0.mk ho
      clear ho
      refine ⟨_, rfl, ?_⟩
      replace HB := Aside0.mk (below_step HB.out hA)
      replace HZ := Aside0.mk (blk_below HZ.out hA)
      replace HQ1 := Aside0.mk (Kd.S_below HQ1.out hA)
      replace HQ2 := Aside0.mk (Kd.S_below HQ2.out hA)
      replace H4 := Aside0.mk (blk_below H4.out hA)
      replace HD := Aside0.mk (below_step HD.out hA)
      clear hA hHeld
      refine hK.out _ _ (by exact HSS.out _ HD.out) (fun hHeld => ?_)
      clear hK K
      refine norm_ (a' := ?_) ?_ ?_
      rotate_left
      · show Act.put _ (some 20) _ = _
        simp only [Act.put, List.setIfInBounds_toArray, List.set_cons_zero, List.set_cons_succ, i64_w, i32_w]
        rfl
      refine one_ (i := 2) (N := some 21) #[true, true, true, false, false, false, true, false, false] rfl rfl (one_of HT_.out (by kernel_rfl)) (by decide) (fun K hK => ?_)
      refine goes_ Try.func32 (by kernel_rfl) rfl #[.agg #[.slice Q1 twoS.length q1, .slice Q2 two1.length q2], .int .i64 1, .slice Y (of32 121).length y] (by rfl) rfl rfl (by (try simp only [List.map_toArray, List.map_cons, List.map_nil]); first | done | rfl | (simp only [List.length_drop, List.length_take]; rfl)) ?_
      refine (hWrite.calls Q1 q1 twoS Q2 q2 two1 1 Y y (of32 121) twoS two2 0 Wc9 (Kd.S_reads' HQ1.out).2.2 (Kd.S_reads' HQ1.out).2.1 (Kd.S_reads' HQ2.out).2.2 (Kd.S_reads' HQ2.out).2.1 (Kd.R_reads' HY.out).2.2 (Kd.R_reads' HY.out).2.1 two_w2).mono ?_
      rintro e Wc10 ⟨v1, v2, rfl, ho1, ho2, hA⟩
      obtain ⟨X1, x1, e1⟩ := Kd.S_slice ho1
      subst e1
      obtain ⟨X2, x2, e2⟩ := Kd.S_slice ho2
      subst e2
      have HX1 := Aside0.mk (Kd.S_lower ho1 (below_size HB.out))
      have HX2 := Aside0.mk (Kd.S_lower ho2 (below_size HB.out))
      clear ho1 ho2
      refine ⟨_, rfl, ?_⟩
      replace HB := Aside0.mk (below_step HB.out hA)
      replace HZ := Aside0.mk (blk_below HZ.out hA)
      replace HQ1 := Aside0.mk (Kd.S_below HQ1.out hA)
      replace HQ2 := Aside0.mk (Kd.S_below HQ2.out hA)
      replace H4 := Aside0.mk (blk_below H4.out hA)
      replace HY := Aside0.mk (Kd.R_below HY.out hA)
      replace HD := Aside0.mk (below_step HD.out hA)
      clear hA hHeld
      clear HY
      clear HQ1
      clear HQ2
      refine hK.out _ _ (by exact HSS.out _ HD.out) (fun hHeld => ?_)
      clear hK K
      refine norm_ (a' := ?_) ?_ ?_
      rotate_left
      · show Act.put _ (some 21) _ = _
        simp only [Act.put, List.setIfInBounds_toArray, List.set_cons_zero, List.set_cons_succ, i64_w, i32_w]
        rfl
      refine pure_ (i := 3) (N := some 18) (v := ?_) (a' := ?_) #[true, true, true, true, false, false, true, false, false] rfl rfl (any_of HT_.out (by kernel_rfl)) (fun _ _ _ h => h) (Or.inl ⟨by rfl, ?_⟩) ?_ ?_
      rotate_left
      · intro w'
        go_simp
        with_reducible rfl
      rotate_left
      · simp only [Act.put, List.setIfInBounds_toArray, List.set_cons_zero, List.set_cons_succ, i64_w, i32_w]
        rfl
      refine pure_ (i := 4) (N := some 22) (v := ?_) (a' := ?_) #[true, true, true, true, true, false, true, false, false] rfl rfl (any_of HT_.out (by kernel_rfl)) (fun _ _ _ h => h) (Or.inl ⟨by rfl, ?_⟩) ?_ ?_
      rotate_left
      · intro w'
        go_simp
        with_reducible rfl
      rotate_left
      · simp only [Act.put, List.setIfInBounds_toArray, List.set_cons_zero, List.set_cons_succ, i64_w, i32_w]
        rfl
      refine pure_ (i := 5) (N := some 23) (v := ?_) (a' := ?_) #[true, true, true, true, true, true, true, false, false] rfl rfl (any_of HT_.out (by kernel_rfl)) (fun _ _ _ h => h) (Or.inl ⟨by rfl, ?_⟩) ?_ ?_
      rotate_left
      · intro w'
        go_simp
        with_reducible rfl
      rotate_left
      · simp only [Act.put, List.setIfInBounds_toArray, List.set_cons_zero, List.set_cons_succ, i64_w, i32_w]
        rfl
      refine last_ (i := 7) (N := none) #[true, true, true, true, true, true, true, true, false] rfl rfl (one_of HT_.out (by kernel_rfl)) (by decide) (fun K hK => ?_)
      have hz0 : Wc10.cell? ⟨g4, 0, none⟩ = some (.slice none 0 0) := (blk_cell H4.out 0).trans rfl
      have hz1 : Wc10.cell? ⟨g4, 1, none⟩ = some (.slice none 0 0) := (blk_cell H4.out 1).trans rfl
      have hf0 := blk_frozen H4.out 0
      have hf1 := blk_frozen H4.out 1
      refine skip_ (w1 := ?_) (by rfl) rfl ?_ ?_
      rotate_left
      · go_simp
        rfl
      refine hK.out _ _ ?_
      refine pure_ (i := 8) (N := some 7) (v := ?_) (a' := ?_) #[true, true, true, true, true, true, true, true, true] rfl rfl (any_of HT_.out (by kernel_rfl)) (fun _ _ _ h => h) (Or.inl ⟨by rfl, ?_⟩) ?_ ?_
      rotate_left
      · intro w'
        go_simp
        with_reducible rfl
      rotate_left
      · simp only [Act.put, List.setIfInBounds_toArray, List.set_cons_zero, List.set_cons_succ, i64_w, i32_w]
        rfl
      refine done_ (done_of HT_.out (by kernel_rfl)) ?_
      try go_wp2
      go_meet
      have n52 : ∀ q, q ∈ 52 :: k52.E → q ≠ 25 := by decide
      have n65 : ∀ q, q ∈ 65 :: k65.E → q ≠ 25 := by decide
      have hr1 := blk_put (cs := #[.slice none 0 0, .slice none 0 0]) H4.out 0 (.slice X1 twoS.length x1) rfl
      have hr2 := blk_put (cs := #[.slice X1 twoS.length x1, .slice none 0 0]) hr1 1 (.slice X2 two2.length x2) rfl
      exact ⟨g4, X1, x1, X2, x2, rfl, rfl, ⟨hr2⟩, ⟨Kd.S_set (Kd.S_set HX1.out H4.out n52 _ _) hr1 n52 _ _⟩, ⟨Kd.S_set (Kd.S_set HX2.out H4.out n65 _ _) hr1 n65 _ _⟩, ⟨blk_far (blk_far HZ.out HNE.out.symm _) HNE.out.symm _⟩, ⟨below_set (below_set HB.out (by have := below_size HB.out; have := HNE.out; have := HLE.out; omega)) (by have := HLE.out; omega)⟩⟩
  case rest =>
  clear HB HQ1 HQ2 HZ H2 HSS
  obtain ⟨g4, Q1, q1, Q2, q2, rfl, rfl, H2, HQ1, HQ2, HZ, HB⟩ := hcut
  have hc0 : wc.cell? ⟨g4, 0, none⟩ = some (.slice Q1 twoS.length q1) := (blk_cell H2.out 0).trans rfl
  have hc1 : wc.cell? ⟨g4, 1, none⟩ = some (.slice Q2 two2.length q2) := (blk_cell H2.out 1).trans rfl
  have hy0 : wc.cell? ⟨w.heap.size, 0, none⟩ = some (.slice none 0 0) := (blk_cell HZ.out 0).trans rfl
  have hy1 : wc.cell? ⟨w.heap.size, 1, none⟩ = some (.slice none 0 0) := (blk_cell HZ.out 1).trans rfl
  have hf0 := blk_frozen HZ.out 0
  have hf1 := blk_frozen HZ.out 1
  go_wp2_with fail
  have hr1 := blk_put (cs := #[.slice none 0 0, .slice none 0 0]) HZ.out 0 (.slice Q1 twoS.length q1) rfl
  have hr2 := blk_put (cs := #[.slice Q1 twoS.length q1, .slice none 0 0]) hr1 1 (.slice Q2 two2.length q2) rfl
  have n52 : ∀ q, q ∈ 52 :: k52.E → q ≠ 25 := by decide
  have n65 : ∀ q, q ∈ 65 :: k65.E → q ≠ 25 := by decide
  refine bodyPost_ret (results_ct rfl _ _ w.heap.size 25 #[.slice Q1 twoS.length q1, .slice Q2 two2.length q2] (0, 0) _ rfl hr2 Try.underlying25 rfl (by kernel_rfl)) rfl ?_
  exact ⟨_, _, rfl, Kd.S_set (Kd.S_set HQ1.out HZ.out n52 _ _) hr1 n52 _ _, Kd.S_set (Kd.S_set HQ2.out HZ.out n65 _ _) hr1 n65 _ _, below_set (below_set HB.out (Nat.le_refl _)) (Nat.le_refl _)⟩
end Go.Proofs.Ytjlohdbkjoofcaa.P
end
section
set_option linter.unusedVariables false
set_option linter.unusedSimpArgs false
namespace Go.Proofs.Ytjlohdbkjoofcaa.P
open Go.RowKit Go.Proofs.PrintWords Go.Proofs.PrintLast Go.Proofs.PrintMore
attribute [local go_sem] max2_int min2_int max_two min_two max_three min_three max_four min_four
theorem two_ok : okDisk twoS two2 = true := by kernel_rfl
def leaf (l0 : List Int) : List Int × Int := dRead (dBehind twoS two2 l0) [] 1
set_option maxHeartbeats 8000000 in
set_option maxRecDepth 100000 in
theorem hLeaves.calls (A0 : Option Addr) (c0 : Nat) (l0 : List Int) (A1 : Option Addr) (c1 : Nat) (l1 : List Int) (w : World) (hr0 : Kd.C (Kd.int .u8) w A0 l0.length l0) (hc0 : l0.length ≤ c0) (hr1 : Kd.C (Kd.int .u8) w A1 l1.length l1) (hc1 : l1.length ≤ c1) (h : leaf l0 = (l1, 0) ∨ leaf l0 = ([], 50) ∧ l1 = []) :
    Calls Try.prog 46 #[.slice A0 l0.length c0, .slice A1 l1.length c1] w fun e w' => e = .returned (.bool true) ∧ Below w.heap.size w w' := by
  have hu25 := Try.underlying25
  have HR0 := Aside0.mk hr0
  have HR1 := Aside0.mk hr1
  have HC0 := Aside0.mk hc0
  have HC1 := Aside0.mk hc1
  obtain ⟨L, hL⟩ : ∃ L, dBehind twoS two2 l0 = L := ⟨_, rfl⟩
  have FC := Aside0.mk (show hCrash.f twoS two2 l0 = some (L, [], 0) by unfold hCrash.f; rw [dCrash_of _ two_ok, hL])
  have key : ∀ (rb : List Int) (re : Int), leaf l0 = (rb, re) → (re = 0 ∧ rb = l1 ∨ re = 50 ∧ rb = [] ∧ l1 = []) → Calls Try.prog 46 #[.slice A0 l0.length c0, .slice A1 l1.length c1] w fun e w' => e = .returned (.bool true) ∧ Below w.heap.size w w' := by
    intro rb re hre hcase
    have FR := Aside0.mk (show hRead.f L [] 1 = some (rb, re) by unfold hRead.f; rw [← hL]; exact congrArg some hre)
    clear hre h hr0 hr1 hc0 hc1 hL
    have go : ∀ (P : Prop), P = P := fun _ => rfl
    clear go
    rcases hcase with ⟨rfl, rfl⟩ | ⟨rfl, rfl, rfl⟩
    all_goals
      go_enter Try.func46, Try.ntmps46
      go_wp2_with (first
        | (go_at_call 43; refine (hTwo.calls twoS two2 true _ rfl).mono ?_; rintro e w1 ⟨v1, v2, rfl, ho1, ho2, hb1⟩; obtain ⟨T1, t1, e1⟩ := Kd.S_slice ho1; subst e1; obtain ⟨T2, t2, e2⟩ := Kd.S_slice ho2; subst e2; have HB1 := Aside0.mk hb1; have HT1 := Aside0.mk ho1; have HT2 := Aside0.mk ho2; clear ho1 ho2 hb1)
        | (go_at_call 49; have HB2 := Aside0.mk (below_alloc HB1.out (.cells #[.slice T1 twoS.length t1, .slice T2 two2.length t2] 25)); have HU1 := Aside0.mk (Kd.S_reads' (Kd.S_alloc HT1.out (.cells #[.slice T1 twoS.length t1, .slice T2 two2.length t2] 25))).2; have HU2 := Aside0.mk (Kd.S_reads' (Kd.S_alloc HT2.out (.cells #[.slice T1 twoS.length t1, .slice T2 two2.length t2] 25))).2; refine (hCrash.calls T1 t1 twoS T2 t2 two2 A0 c0 l0 L [] 0 _ HU1.out.2 HU1.out.1 HU2.out.2 HU2.out.1 (Kd.C_below HR0.out HB2.out) HC0.out FC.out).mono ?_; rintro e w2 ⟨v1, v2, rfl, ho1, ho2, hb2⟩; obtain ⟨X1, x1, e1⟩ := Kd.S_slice ho1; subst e1; obtain ⟨X2, x2, e2⟩ := Kd.S_slice ho2; subst e2; have HB3 := Aside0.mk (below_step HB2.out hb2); have HX1 := Aside0.mk ho1; have HX2 := Aside0.mk ho2; clear ho1 ho2 hb2)
        | (go_at_call 34; have HB4 := Aside0.mk (below_alloc HB3.out (.cells #[.slice X1 L.length x1, .slice X2 ([] : List S65).length x2] 25)); have HU3 := Aside0.mk (Kd.S_reads' (Kd.S_alloc HX1.out (.cells #[.slice X1 L.length x1, .slice X2 ([] : List S65).length x2] 25))).2; have HU4 := Aside0.mk (Kd.S_reads' (Kd.S_alloc HX2.out (.cells #[.slice X1 L.length x1, .slice X2 ([] : List S65).length x2] 25))).2; refine (hRead.calls X1 x1 L X2 x2 [] 1 _ _ _ HU3.out.2 HU3.out.1 HU4.out.2 HU4.out.1 FR.out).mono ?_; rintro e w3 ⟨v1, rfl, ho1, hb3⟩; obtain ⟨Y, y, e1⟩ := Kd.R_slice ho1; subst e1; have HB5 := Aside0.mk (below_step HB4.out hb3); have hs1 := Kd.C_string (P := Try.prog) (A := Y) (c := y) Try.underlying26 Try.underlying5 Try.underlying9 (Kd.R_reads' ho1).2.2; have hs2 := Kd.C_string (P := Try.prog) (A := A1) (c := c1) Try.underlying26 Try.underlying5 Try.underlying9 (Kd.C_below HR1.out HB5.out); clear ho1 hb3))
      go_ret
      exact ⟨rfl, HB5.out⟩
  rcases h with h | ⟨h, rfl⟩
  · exact key _ _ h (.inl ⟨rfl, rfl⟩)
  · exact key _ _ h (.inr ⟨rfl, rfl, rfl⟩)
end Go.Proofs.Ytjlohdbkjoofcaa.P
end
section
set_option linter.unusedVariables false
set_option linter.unusedSimpArgs false
namespace Go.Proofs.Ytjlohdbkjoofcaa.P
open Go.RowKit Go.Proofs.PrintWords Go.Proofs.PrintLast Go.Proofs.PrintMore
attribute [local go_sem] max2_int min2_int max_two min_two max_three min_three max_four min_four
theorem leaf1 : leaf [1] = (of32 120, 0) := by kernel_rfl
theorem leaf0 : leaf [] = (of32 0, 0) := by kernel_rfl
theorem leaf12 : leaf [1, 2] = ([], 50) := by kernel_rfl
theorem two_of0 : catamaranlaw05_of.f 50 0 = some (of32 0) := by kernel_rfl
theorem two_read : hRead.f twoS two2 1 = some (of32 121, 0) := by kernel_rfl
theorem lit_C {w : World} {g : Nat} (xs : List Int) (hl : xs.length ≤ 9223372036854775807) (h : w.heap[g]? = some (.cells (xs.map (Value.int .u8)).toArray 5 (0, 0))) : Kd.C (Kd.int .u8) w (some ⟨g, 0, none⟩) xs.length xs := by
  refine ⟨rfl, hl, fun hn => ⟨_, rfl, fun j p hj => ⟨[.int .u8 p], rfl, rfl, fun i u hu => ?_⟩⟩⟩
  have hi : i = 0 := by
    have := (List.getElem?_eq_some_iff.1 hu).1
    simpa using this
  subst hi
  have hu : Value.int .u8 p = u := by simpa using hu
  subst hu
  rw [add_plain, blk_cell h]
  simp [Kd.int, Kd.scalar, hj]
theorem nil_C (w : World) : Kd.C (Kd.int .u8) w none ([] : List Int).length [] := ⟨rfl, by simp, fun h => absurd h (by simp)⟩
def hAlive.f : Option Bool := some true
def hAlive.T3 : Bool × List (List Nat × List Nat) := (true, [([], []), ([0], [0]), ([1], [1]), ([2, 1], [1, 2]), ([1, 3], [1, 3]), ([4, 1], [4]), ([5], [5]), ([6, 5], [5, 6]), ([5, 5], [5]), ([8, 5], [5, 8]), ([7, 9, 5], [5, 7, 9]), ([5, 10], [5, 10]), ([11, 8], [11]), ([12], [12]), ([12, 12], [12]), ([13, 14, 14, 12], [12, 13, 14]), ([12, 15], [12, 15]), ([16, 15], [16]), ([17, 17], [17]), ([18, 18, 17], [17, 18]), ([17, 19], [17, 19]), ([20, 19], [20]), ([21], [21]), ([22, 21, 21], [21, 22]), ([21, 23], [21, 23]), ([24, 23, 0, 1, 2, 3, 4, 5, 6, 7, 8, 9, 10, 11, 12, 13, 14, 15, 16, 17, 18, 19, 20, 21, 22, 23, 24], [24])])
def hAlive.B3 : List Nat := [0, 1, 3, 7, 15, 31, 63, 127, 63, 319, 1023, 2047, 4095, 8191, 8191, 32767, 65535, 131071, 262143, 524287, 1048575, 2097151, 4194303, 8388607, 16777215, 33554431]
theorem hAlive.tab3 : rtab .any (opsOf Try.f45 3) = hAlive.T3 := by kernel_rfl
theorem hAlive.bits3 : waitsOk hAlive.T3.2 hAlive.B3 = true := by kernel_rfl
set_option maxHeartbeats 8000000 in
set_option maxRecDepth 100000 in
theorem hAlive.calls (r : Bool) (w : World) (h : hAlive.f = some r) :
    Calls Try.prog 45 #[] w fun e w' => e = .returned (.bool r) ∧ Below w.heap.size w w' := by
  have hu25 := Try.underlying25
  obtain rfl : true = r := by unfold hAlive.f at h; injection h
  clear h
  go_enter Try.func45, Try.ntmps45
  go_wp2_with (first
    | (go_at_call 43; refine (hTwo.calls twoS two2 true _ rfl).mono ?_; rintro e w1 ⟨v1, v2, rfl, ho1, ho2, hb1⟩; obtain ⟨T1, t1, e1⟩ := Kd.S_slice ho1; subst e1; obtain ⟨T2, t2, e2⟩ := Kd.S_slice ho2; subst e2; have HB1 := Aside0.mk hb1; have HT1 := Aside0.mk ho1; have HT2 := Aside0.mk ho2; clear ho1 ho2 hb1)
    | (go_at_call 34; have HB2 := Aside0.mk (below_alloc HB1.out (.cells #[.slice T1 twoS.length t1, .slice T2 two2.length t2] 25)); have HU1 := Aside0.mk (Kd.S_reads' (Kd.S_alloc HT1.out (.cells #[.slice T1 twoS.length t1, .slice T2 two2.length t2] 25))).2; have HU2 := Aside0.mk (Kd.S_reads' (Kd.S_alloc HT2.out (.cells #[.slice T1 twoS.length t1, .slice T2 two2.length t2] 25))).2; refine (hRead.calls T1 t1 twoS T2 t2 two2 1 _ _ _ HU1.out.2 HU1.out.1 HU2.out.2 HU2.out.1 two_read).mono ?_; rintro e w3 ⟨v1, rfl, ho1, hb3⟩; obtain ⟨B, b, e1⟩ := Kd.R_slice ho1; subst e1; have HB := Aside0.mk (below_step HB2.out hb3); have HV := Aside0.mk ho1; clear ho1 hb3 HB1 HT1 HT2 HU1 HU2 HB2))
  have HSS := Aside0.mk (show ∀ W : World, Below w3.heap.size w3 W → (convert 26 9 (.slice B (of32 121).length b)).run Try.prog W = .ok (.string (strOfNums (of32 121))) W from fun W hb => Kd.C_string (P := Try.prog) (A := B) (c := b) Try.underlying26 Try.underlying5 Try.underlying9 (Kd.C_below (Kd.R_reads' HV.out).2.2 hb))
  clear HV
  refine start_ (n := 26) (S := fun w' => (convert 26 9 (.slice B (of32 121).length b)).run Try.prog w' = .ok (.string (strOfNums (of32 121))) w') (ds := []) #[false, false, false, false, false, false, false, false, false, false, false, false, false, false, false, false, false, false, false, false, false, false, false, false, false, false] (by kernel_rfl) rfl rfl (by exact HSS.out _ (below_drew1 (Below.refl _ _))) (fun hHeld => ?_); refine with_tabW hAlive.tab3 hAlive.bits3 (fun HT_ HW_ => ?_)
  have HD := Aside0.mk (below_drew1 (Below.refl w3.heap.size w3))
  replace HB := Aside0.mk (below_step HB.out (below_drew1 (Below.refl w3.heap.size w3)))
  generalize w3.drew = Wd at HD HB hHeld ⊢
  refine pure_ (i := 0) (N := some 14) (v := ?_) (a' := ?_) #[true, false, false, false, false, false, false, false, false, false, false, false, false, false, false, false, false, false, false, false, false, false, false, false, false, false] rfl rfl (any_of HT_.out (by kernel_rfl)) (fun _ _ _ h => h) (Or.inl ⟨by rfl, ?_⟩) ?_ ?_
  rotate_left
  · intro w'
    go_simp
    with_reducible rfl
  rotate_left
  · simp only [Act.put, List.setIfInBounds_toArray, List.set_cons_zero, List.set_cons_succ, i64_w, i32_w]
    rfl
  refine pure_ (i := 1) (N := some 15) (v := ?_) (a' := ?_) #[true, true, false, false, false, false, false, false, false, false, false, false, false, false, false, false, false, false, false, false, false, false, false, false, false, false] rfl rfl (any_of HT_.out (by kernel_rfl)) (fun _ _ _ h => h) (Or.inl ⟨by rfl, ?_⟩) ?_ ?_
  rotate_left
  · intro w'
    go_simp
    with_reducible rfl
  rotate_left
  · simp only [Act.put, List.setIfInBounds_toArray, List.set_cons_zero, List.set_cons_succ, i64_w, i32_w]
    rfl
  refine pure_ (i := 2) (N := some 16) (v := ?_) (a' := ?_) #[true, true, true, false, false, false, false, false, false, false, false, false, false, false, false, false, false, false, false, false, false, false, false, false, false, false] rfl rfl (any_of HT_.out (by kernel_rfl)) (fun _ _ _ h => h) (Or.inl ⟨by rfl, ?_⟩) ?_ ?_
  rotate_left
  · intro w'
    go_simp
    with_reducible rfl
  rotate_left
  · simp only [Act.put, List.setIfInBounds_toArray, List.set_cons_zero, List.set_cons_succ, i64_w, i32_w]
    rfl
  refine pure_ (i := 3) (N := some 17) (v := ?_) (a' := ?_) #[true, true, true, true, false, false, false, false, false, false, false, false, false, false, false, false, false, false, false, false, false, false, false, false, false, false] rfl rfl (any_of HT_.out (by kernel_rfl)) (fun _ _ _ h => h) (Or.inl ⟨by rfl, ?_⟩) ?_ ?_
  rotate_left
  · intro w'
    go_simp
    with_reducible rfl
  rotate_left
  · simp only [Act.put, List.setIfInBounds_toArray, List.set_cons_zero, List.set_cons_succ, i64_w, i32_w]
    rfl
  refine pure_ (i := 4) (N := some 18) (v := ?_) (a' := ?_) #[true, true, true, true, true, false, false, false, false, false, false, false, false, false, false, false, false, false, false, false, false, false, false, false, false, false] rfl rfl (any_of HT_.out (by kernel_rfl)) (fun _ _ _ h => h) (Or.inl ⟨by rfl, ?_⟩) ?_ ?_
  rotate_left
  · intro w'
    go_simp
    with_reducible rfl
  rotate_left
  · simp only [Act.put, List.setIfInBounds_toArray, List.set_cons_zero, List.set_cons_succ, i64_w, i32_w]
    rfl
  refine pure_ (i := 5) (N := some 19) (v := ?_) (a' := ?_) #[true, true, true, true, true, true, false, false, false, false, false, false, false, false, false, false, false, false, false, false, false, false, false, false, false, false] rfl rfl (any_of HT_.out (by kernel_rfl)) (fun _ _ _ h => h) (Or.inl ⟨by rfl, ?_⟩) ?_ ?_
  rotate_left
  · intro w'
    go_simp
    with_reducible rfl
  rotate_left
  · simp only [Act.put, List.setIfInBounds_toArray, List.set_cons_zero, List.set_cons_succ, i64_w, i32_w]
    rfl
  refine pure_ (i := 6) (N := some 20) (v := ?_) (a' := ?_) #[true, true, true, true, true, true, true, false, false, false, false, false, false, false, false, false, false, false, false, false, false, false, false, false, false, false] rfl rfl (any_of HT_.out (by kernel_rfl)) (fun _ _ _ h => h) (Or.inl ⟨by rfl, ?_⟩) ?_ ?_
  rotate_left
  · intro w'
    go_simp
    with_reducible rfl
  rotate_left
  · simp only [Act.put, List.setIfInBounds_toArray, List.set_cons_zero, List.set_cons_succ, i64_w, i32_w]
    rfl
  refine take_ (i := 7) (N := some 21) (v := ?_) (a' := ?_) #[true, true, true, true, true, true, true, true, false, false, false, false, false, false, false, false, false, false, false, false, false, false, false, false, false, false] rfl rfl (take_ofW HT_.out HW_.out (by kernel_rfl)) (fun _ _ _ h => h) (Or.inl ⟨by rfl, ?_⟩) hHeld ?_ ?_
  rotate_left
  · rintro w' s0
    go_simp
    with_reducible rfl
  rotate_left
  · simp only [Act.put, List.setIfInBounds_toArray, List.set_cons_zero, List.set_cons_succ, i64_w, i32_w]
    rfl
  refine one_ (i := 8) (N := some 22) #[true, true, true, true, true, true, true, true, true, false, false, false, false, false, false, false, false, false, false, false, false, false, false, false, false, false] rfl rfl (one_of HT_.out (by kernel_rfl)) (by decide) (fun K hK => ?_)
  refine goes_ Try.func44 (by kernel_rfl) rfl #[.int .u8 121] (by rfl) rfl rfl (by (try simp only [List.map_toArray, List.map_cons, List.map_nil]); first | done | rfl | (simp only [List.length_drop, List.length_take]; rfl)) ?_
  refine (catamaranlaw05_of.calls 50 121 (of32 121) Wd two_of121).mono ?_
  rintro e Wc1 ⟨v1, rfl, ho, hA⟩
  obtain ⟨Y, y, e1⟩ := Kd.R_slice ho
  subst e1
  have HY := Aside0.mk ho
  clear ho
  refine ⟨_, rfl, ?_⟩
  replace HB := Aside0.mk (below_step HB.out hA)
  replace HD := Aside0.mk (below_step HD.out hA)
  clear hA hHeld
  refine hK.out _ _ (by exact HSS.out _ HD.out) (fun hHeld => ?_)
  clear hK K
  refine norm_ (a' := ?_) ?_ ?_
  rotate_left
  · show Act.put _ (some 22) _ = _
    simp only [Act.put, List.setIfInBounds_toArray, List.set_cons_zero, List.set_cons_succ, i64_w, i32_w]
    rfl
  refine one_ (i := 9) (N := some 23) #[true, true, true, true, true, true, true, true, true, true, false, false, false, false, false, false, false, false, false, false, false, false, false, false, false, false] rfl rfl (one_of HT_.out (by kernel_rfl)) (by decide) (fun K hK => ?_)
  have hcv := Kd.C_string (P := Try.prog) (A := Y) (c := y) Try.underlying26 Try.underlying5 Try.underlying9 (Kd.R_reads' HY.out).2.2
  refine value_ (w1 := ?_) (v := ?_) (by rfl) rfl ?_ ?_
  rotate_left 2
  · go_simp
    constructor
    · rfl
    · rfl
  clear hcv hHeld
  clear HY
  refine hK.out _ _ (by exact HSS.out _ HD.out) (fun hHeld => ?_)
  clear hK K
  refine norm_ (a' := ?_) ?_ ?_
  rotate_left
  · show Act.put _ (some 23) _ = _
    simp only [Act.put, List.setIfInBounds_toArray, List.set_cons_zero, List.set_cons_succ, i64_w, i32_w]
    rfl
  refine pure_ (i := 10) (N := some 24) (v := ?_) (a' := ?_) #[true, true, true, true, true, true, true, true, true, true, true, false, false, false, false, false, false, false, false, false, false, false, false, false, false, false] rfl rfl (any_of HT_.out (by kernel_rfl)) (fun _ _ _ h => h) (Or.inl ⟨by rfl, ?_⟩) ?_ ?_
  rotate_left
  · intro w'
    go_simp
    with_reducible rfl
  rotate_left
  · simp only [Act.put, List.setIfInBounds_toArray, List.set_cons_zero, List.set_cons_succ, i64_w, i32_w]
    rfl
  refine pure_ (i := 11) (N := some 25) (v := ?_) (a' := ?_) #[true, true, true, true, true, true, true, true, true, true, true, true, false, false, false, false, false, false, false, false, false, false, false, false, false, false] rfl rfl (any_of HT_.out (by kernel_rfl)) (fun _ _ _ h => h) (Or.inl ⟨by rfl, ?_⟩) ?_ ?_
  rotate_left
  · intro w'
    go_simp
    with_reducible rfl
  rotate_left
  · simp only [Act.put, List.setIfInBounds_toArray, List.set_cons_zero, List.set_cons_succ, i64_w, i32_w]
    rfl
  refine pure_ (i := 12) (N := some 26) (v := ?_) (a' := ?_) #[true, true, true, true, true, true, true, true, true, true, true, true, true, false, false, false, false, false, false, false, false, false, false, false, false, false] rfl rfl (any_of HT_.out (by kernel_rfl)) (fun _ _ _ h => h) (Or.inl ⟨by rfl, ?_⟩) ?_ ?_
  rotate_left
  · intro w'
    go_simp
    with_reducible rfl
  rotate_left
  · simp only [Act.put, List.setIfInBounds_toArray, List.set_cons_zero, List.set_cons_succ, i64_w, i32_w]
    rfl
  refine two_ (i := 13) (j := 14) (Ni := some 27) (Nj := some 28) #[true, true, true, true, true, true, true, true, true, true, true, true, true, true, false, false, false, false, false, false, false, false, false, false, false, false] #[true, true, true, true, true, true, true, true, true, true, true, true, true, false, true, false, false, false, false, false, false, false, false, false, false, false] rfl rfl rfl rfl (two_of HT_.out (by kernel_rfl)) (by decide) (by decide) (fun K hK => ?_) (fun K hK => ?_)
  · skip
    refine value_ (w1 := ?_) (v := ?_) (by rfl) rfl ?_ ?_
    rotate_left 2
    · go_simp
      constructor
      · rfl
      · rfl
    have hA := below_alloc (Below.refl Wc1.heap.size Wc1) (.cells #[.int .u8 1] 5)
    have HLg1 := Aside0.mk (heap_alloc_new Wc1 (.cells #[.int .u8 1] 5))
    replace HB := Aside0.mk (below_step HB.out hA)
    replace HD := Aside0.mk (below_step HD.out hA)
    clear hA hHeld
    generalize Wc1.alloc (.cells #[.int .u8 1] 5) = Wa3 at HD HB HLg1 ⊢
    generalize Wc1.heap.size = g1 at HLg1 ⊢
    refine hK.out _ _ (by exact HSS.out _ HD.out) (fun hHeld => ?_)
    clear hK K
    refine norm_ (a' := ?_) ?_ ?_
    rotate_left
    · show Act.put _ (some 27) _ = _
      simp only [Act.put, List.setIfInBounds_toArray, List.set_cons_zero, List.set_cons_succ, i64_w, i32_w]
      rfl
    refine one_ (i := 14) (N := some 28) #[true, true, true, true, true, true, true, true, true, true, true, true, true, true, true, false, false, false, false, false, false, false, false, false, false, false] rfl rfl (one_of HT_.out (by kernel_rfl)) (by decide) (fun K hK => ?_)
    refine goes_ Try.func44 (by kernel_rfl) rfl #[.int .u8 120] (by rfl) rfl rfl (by (try simp only [List.map_toArray, List.map_cons, List.map_nil]); first | done | rfl | (simp only [List.length_drop, List.length_take]; rfl)) ?_
    refine (catamaranlaw05_of.calls 50 120 (of32 120) Wa3 two_of120).mono ?_
    rintro e Wc4 ⟨v1, rfl, ho, hA⟩
    obtain ⟨X, x, e1⟩ := Kd.R_slice ho
    subst e1
    have HX := Aside0.mk ho
    clear ho
    refine ⟨_, rfl, ?_⟩
    replace HB := Aside0.mk (below_step HB.out hA)
    replace HLg1 := Aside0.mk (blk_below HLg1.out hA)
    replace HD := Aside0.mk (below_step HD.out hA)
    clear hA hHeld
    refine hK.out _ _ (by exact HSS.out _ HD.out) (fun hHeld => ?_)
    clear hK K
    refine norm_ (a' := ?_) ?_ ?_
    rotate_left
    · show Act.put _ (some 28) _ = _
      simp only [Act.put, List.setIfInBounds_toArray, List.set_cons_zero, List.set_cons_succ, i64_w, i32_w]
      rfl
    refine one_ (i := 15) (N := some 29) #[true, true, true, true, true, true, true, true, true, true, true, true, true, true, true, true, false, false, false, false, false, false, false, false, false, false] rfl rfl (one_of HT_.out (by kernel_rfl)) (by decide) (fun K hK => ?_)
    refine goes_ Try.func46 (by kernel_rfl) rfl #[.slice (some ⟨g1, 0, none⟩) 1 1, .slice X (of32 120).length x] (by rfl) rfl rfl (by (try simp only [List.map_toArray, List.map_cons, List.map_nil]); first | done | rfl | (simp only [List.length_drop, List.length_take]; rfl)) ?_
    refine (hLeaves.calls (some ⟨g1, 0, none⟩) 1 [1] X x (of32 120) Wc4 (lit_C [1] (by simp) HLg1.out) (Nat.le_refl _) (Kd.R_reads' HX.out).2.2 (Kd.R_reads' HX.out).2.1 (.inl leaf1)).mono ?_
    rintro e Wc5 ⟨rfl, hA⟩
    refine ⟨_, rfl, ?_⟩
    replace HB := Aside0.mk (below_step HB.out hA)
    replace HLg1 := Aside0.mk (blk_below HLg1.out hA)
    replace HX := Aside0.mk (Kd.R_below HX.out hA)
    replace HD := Aside0.mk (below_step HD.out hA)
    clear hA hHeld
    clear HX
    clear HLg1
    refine hK.out _ _ (by exact HSS.out _ HD.out) (fun hHeld => ?_)
    clear hK K
    refine norm_ (a' := ?_) ?_ ?_
    rotate_left
    · show Act.put _ (some 29) _ = _
      simp only [Act.put, List.setIfInBounds_toArray, List.set_cons_zero, List.set_cons_succ, i64_w, i32_w]
      rfl
    refine pure_ (i := 16) (N := some 30) (v := ?_) (a' := ?_) #[true, true, true, true, true, true, true, true, true, true, true, true, true, true, true, true, true, false, false, false, false, false, false, false, false, false] rfl rfl (any_of HT_.out (by kernel_rfl)) (fun _ _ _ h => h) (Or.inl ⟨by rfl, ?_⟩) ?_ ?_
    rotate_left
    · intro w'
      go_simp
      with_reducible rfl
    rotate_left
    · simp only [Act.put, List.setIfInBounds_toArray, List.set_cons_zero, List.set_cons_succ, i64_w, i32_w]
      rfl
    refine pure_ (i := 17) (N := some 31) (v := ?_) (a' := ?_) #[true, true, true, true, true, true, true, true, true, true, true, true, true, true, true, true, true, true, false, false, false, false, false, false, false, false] rfl rfl (any_of HT_.out (by kernel_rfl)) (fun _ _ _ h => h) (Or.inl ⟨by rfl, ?_⟩) ?_ ?_
    rotate_left
    · intro w'
      go_simp
      with_reducible rfl
    rotate_left
    · simp only [Act.put, List.setIfInBounds_toArray, List.set_cons_zero, List.set_cons_succ, i64_w, i32_w]
      rfl
    refine one_ (i := 18) (N := some 32) #[true, true, true, true, true, true, true, true, true, true, true, true, true, true, true, true, true, true, true, false, false, false, false, false, false, false] rfl rfl (one_of HT_.out (by kernel_rfl)) (by decide) (fun K hK => ?_)
    refine goes_ Try.func44 (by kernel_rfl) rfl #[.int .u8 0] (by rfl) rfl rfl (by (try simp only [List.map_toArray, List.map_cons, List.map_nil]); first | done | rfl | (simp only [List.length_drop, List.length_take]; rfl)) ?_
    refine (catamaranlaw05_of.calls 50 0 (of32 0) Wc5 two_of0).mono ?_
    rintro e Wc6 ⟨v1, rfl, ho, hA⟩
    obtain ⟨Z, z, e1⟩ := Kd.R_slice ho
    subst e1
    have HZ := Aside0.mk ho
    clear ho
    refine ⟨_, rfl, ?_⟩
    replace HB := Aside0.mk (below_step HB.out hA)
    replace HD := Aside0.mk (below_step HD.out hA)
    clear hA hHeld
    refine hK.out _ _ (by exact HSS.out _ HD.out) (fun hHeld => ?_)
    clear hK K
    refine norm_ (a' := ?_) ?_ ?_
    rotate_left
    · show Act.put _ (some 32) _ = _
      simp only [Act.put, List.setIfInBounds_toArray, List.set_cons_zero, List.set_cons_succ, i64_w, i32_w]
      rfl
    refine one_ (i := 19) (N := some 33) #[true, true, true, true, true, true, true, true, true, true, true, true, true, true, true, true, true, true, true, true, false, false, false, false, false, false] rfl rfl (one_of HT_.out (by kernel_rfl)) (by decide) (fun K hK => ?_)
    refine goes_ Try.func46 (by kernel_rfl) rfl #[.slice none 0 0, .slice Z (of32 0).length z] (by rfl) rfl rfl (by (try simp only [List.map_toArray, List.map_cons, List.map_nil]); first | done | rfl | (simp only [List.length_drop, List.length_take]; rfl)) ?_
    refine (hLeaves.calls none 0 [] Z z (of32 0) Wc6 (nil_C _) (Nat.le_refl _) (Kd.R_reads' HZ.out).2.2 (Kd.R_reads' HZ.out).2.1 (.inl leaf0)).mono ?_
    rintro e Wc7 ⟨rfl, hA⟩
    refine ⟨_, rfl, ?_⟩
    replace HB := Aside0.mk (below_step HB.out hA)
    replace HZ := Aside0.mk (Kd.R_below HZ.out hA)
    replace HD := Aside0.mk (below_step HD.out hA)
    clear hA hHeld
    clear HZ
    refine hK.out _ _ (by exact HSS.out _ HD.out) (fun hHeld => ?_)
    clear hK K
    refine norm_ (a' := ?_) ?_ ?_
    rotate_left
    · show Act.put _ (some 33) _ = _
      simp only [Act.put, List.setIfInBounds_toArray, List.set_cons_zero, List.set_cons_succ, i64_w, i32_w]
      rfl
    refine pure_ (i := 20) (N := some 34) (v := ?_) (a' := ?_) #[true, true, true, true, true, true, true, true, true, true, true, true, true, true, true, true, true, true, true, true, true, false, false, false, false, false] rfl rfl (any_of HT_.out (by kernel_rfl)) (fun _ _ _ h => h) (Or.inl ⟨by rfl, ?_⟩) ?_ ?_
    rotate_left
    · intro w'
      go_simp
      with_reducible rfl
    rotate_left
    · simp only [Act.put, List.setIfInBounds_toArray, List.set_cons_zero, List.set_cons_succ, i64_w, i32_w]
      rfl
    refine pure_ (i := 21) (N := some 35) (v := ?_) (a' := ?_) #[true, true, true, true, true, true, true, true, true, true, true, true, true, true, true, true, true, true, true, true, true, true, false, false, false, false] rfl rfl (any_of HT_.out (by kernel_rfl)) (fun _ _ _ h => h) (Or.inl ⟨by rfl, ?_⟩) ?_ ?_
    rotate_left
    · intro w'
      go_simp
      with_reducible rfl
    rotate_left
    · simp only [Act.put, List.setIfInBounds_toArray, List.set_cons_zero, List.set_cons_succ, i64_w, i32_w]
      rfl
    refine one_ (i := 22) (N := some 36) #[true, true, true, true, true, true, true, true, true, true, true, true, true, true, true, true, true, true, true, true, true, true, true, false, false, false] rfl rfl (one_of HT_.out (by kernel_rfl)) (by decide) (fun K hK => ?_)
    refine value_ (w1 := ?_) (v := ?_) (by rfl) rfl ?_ ?_
    rotate_left 2
    · go_simp
      constructor
      · rfl
      · rfl
    have hA := below_alloc (Below.refl Wc7.heap.size Wc7) (.cells #[.int .u8 1, .int .u8 2] 5)
    have HLg2 := Aside0.mk (heap_alloc_new Wc7 (.cells #[.int .u8 1, .int .u8 2] 5))
    replace HB := Aside0.mk (below_step HB.out hA)
    replace HD := Aside0.mk (below_step HD.out hA)
    clear hA hHeld
    generalize Wc7.alloc (.cells #[.int .u8 1, .int .u8 2] 5) = Wa8 at HD HB HLg2 ⊢
    generalize Wc7.heap.size = g2 at HLg2 ⊢
    refine hK.out _ _ (by exact HSS.out _ HD.out) (fun hHeld => ?_)
    clear hK K
    refine norm_ (a' := ?_) ?_ ?_
    rotate_left
    · show Act.put _ (some 36) _ = _
      simp only [Act.put, List.setIfInBounds_toArray, List.set_cons_zero, List.set_cons_succ, i64_w, i32_w]
      rfl
    refine one_ (i := 23) (N := some 37) #[true, true, true, true, true, true, true, true, true, true, true, true, true, true, true, true, true, true, true, true, true, true, true, true, false, false] rfl rfl (one_of HT_.out (by kernel_rfl)) (by decide) (fun K hK => ?_)
    refine goes_ Try.func46 (by kernel_rfl) rfl #[.slice (some ⟨g2, 0, none⟩) 2 2, .slice none 0 0] (by rfl) rfl rfl (by (try simp only [List.map_toArray, List.map_cons, List.map_nil]); first | done | rfl | (simp only [List.length_drop, List.length_take]; rfl)) ?_
    refine (hLeaves.calls (some ⟨g2, 0, none⟩) 2 [1, 2] none 0 [] Wa8 (lit_C [1, 2] (by simp) HLg2.out) (Nat.le_refl _) (nil_C _) (Nat.le_refl _) (.inr ⟨leaf12, rfl⟩)).mono ?_
    rintro e Wc9 ⟨rfl, hA⟩
    refine ⟨_, rfl, ?_⟩
    replace HB := Aside0.mk (below_step HB.out hA)
    replace HLg2 := Aside0.mk (blk_below HLg2.out hA)
    replace HD := Aside0.mk (below_step HD.out hA)
    clear hA hHeld
    clear HLg2
    refine hK.out _ _ (by exact HSS.out _ HD.out) (fun hHeld => ?_)
    clear hK K
    refine norm_ (a' := ?_) ?_ ?_
    rotate_left
    · show Act.put _ (some 37) _ = _
      simp only [Act.put, List.setIfInBounds_toArray, List.set_cons_zero, List.set_cons_succ, i64_w, i32_w]
      rfl
    refine pure_ (i := 24) (N := some 38) (v := ?_) (a' := ?_) #[true, true, true, true, true, true, true, true, true, true, true, true, true, true, true, true, true, true, true, true, true, true, true, true, true, false] rfl rfl (any_of HT_.out (by kernel_rfl)) (fun _ _ _ h => h) (Or.inl ⟨by rfl, ?_⟩) ?_ ?_
    rotate_left
    · intro w'
      go_simp
      with_reducible rfl
    rotate_left
    · simp only [Act.put, List.setIfInBounds_toArray, List.set_cons_zero, List.set_cons_succ, i64_w, i32_w]
      rfl
    refine pure_ (i := 25) (N := some 0) (v := ?_) (a' := ?_) #[true, true, true, true, true, true, true, true, true, true, true, true, true, true, true, true, true, true, true, true, true, true, true, true, true, true] rfl rfl (any_of HT_.out (by kernel_rfl)) (fun _ _ _ h => h) (Or.inl ⟨by rfl, ?_⟩) ?_ ?_
    rotate_left
    · intro w'
      go_simp
      with_reducible rfl
    rotate_left
    · simp only [Act.put, List.setIfInBounds_toArray, List.set_cons_zero, List.set_cons_succ, i64_w, i32_w]
      rfl
    refine done_ (done_of HT_.out (by kernel_rfl)) ?_
    try go_wp2
    go_ret
    exact ⟨rfl, HB.out⟩
  · skip
    refine goes_ Try.func44 (by kernel_rfl) rfl #[.int .u8 120] (by rfl) rfl rfl (by (try simp only [List.map_toArray, List.map_cons, List.map_nil]); first | done | rfl | (simp only [List.length_drop, List.length_take]; rfl)) ?_
    refine (catamaranlaw05_of.calls 50 120 (of32 120) Wc1 two_of120).mono ?_
    rintro e Wc10 ⟨v1, rfl, ho, hA⟩
    obtain ⟨X, x, e1⟩ := Kd.R_slice ho
    subst e1
    have HX := Aside0.mk ho
    clear ho
    refine ⟨_, rfl, ?_⟩
    replace HB := Aside0.mk (below_step HB.out hA)
    replace HD := Aside0.mk (below_step HD.out hA)
    clear hA hHeld
    refine hK.out _ _ (by exact HSS.out _ HD.out) (fun hHeld => ?_)
    clear hK K
    refine norm_ (a' := ?_) ?_ ?_
    rotate_left
    · show Act.put _ (some 28) _ = _
      simp only [Act.put, List.setIfInBounds_toArray, List.set_cons_zero, List.set_cons_succ, i64_w, i32_w]
      rfl
    refine one_ (i := 13) (N := some 27) #[true, true, true, true, true, true, true, true, true, true, true, true, true, true, true, false, false, false, false, false, false, false, false, false, false, false] rfl rfl (one_of HT_.out (by kernel_rfl)) (by decide) (fun K hK => ?_)
    refine value_ (w1 := ?_) (v := ?_) (by rfl) rfl ?_ ?_
    rotate_left 2
    · go_simp
      constructor
      · rfl
      · rfl
    have hA := below_alloc (Below.refl Wc10.heap.size Wc10) (.cells #[.int .u8 1] 5)
    have HLg1 := Aside0.mk (heap_alloc_new Wc10 (.cells #[.int .u8 1] 5))
    replace HB := Aside0.mk (below_step HB.out hA)
    replace HX := Aside0.mk (Kd.R_below HX.out hA)
    replace HD := Aside0.mk (below_step HD.out hA)
    clear hA hHeld
    generalize Wc10.alloc (.cells #[.int .u8 1] 5) = Wa11 at HD HB HX HLg1 ⊢
    generalize Wc10.heap.size = g1 at HLg1 ⊢
    refine hK.out _ _ (by exact HSS.out _ HD.out) (fun hHeld => ?_)
    clear hK K
    refine norm_ (a' := ?_) ?_ ?_
    rotate_left
    · show Act.put _ (some 27) _ = _
      simp only [Act.put, List.setIfInBounds_toArray, List.set_cons_zero, List.set_cons_succ, i64_w, i32_w]
      rfl
    refine one_ (i := 15) (N := some 29) #[true, true, true, true, true, true, true, true, true, true, true, true, true, true, true, true, false, false, false, false, false, false, false, false, false, false] rfl rfl (one_of HT_.out (by kernel_rfl)) (by decide) (fun K hK => ?_)
    refine goes_ Try.func46 (by kernel_rfl) rfl #[.slice (some ⟨g1, 0, none⟩) 1 1, .slice X (of32 120).length x] (by rfl) rfl rfl (by (try simp only [List.map_toArray, List.map_cons, List.map_nil]); first | done | rfl | (simp only [List.length_drop, List.length_take]; rfl)) ?_
    refine (hLeaves.calls (some ⟨g1, 0, none⟩) 1 [1] X x (of32 120) Wa11 (lit_C [1] (by simp) HLg1.out) (Nat.le_refl _) (Kd.R_reads' HX.out).2.2 (Kd.R_reads' HX.out).2.1 (.inl leaf1)).mono ?_
    rintro e Wc12 ⟨rfl, hA⟩
    refine ⟨_, rfl, ?_⟩
    replace HB := Aside0.mk (below_step HB.out hA)
    replace HX := Aside0.mk (Kd.R_below HX.out hA)
    replace HLg1 := Aside0.mk (blk_below HLg1.out hA)
    replace HD := Aside0.mk (below_step HD.out hA)
    clear hA hHeld
    clear HX
    clear HLg1
    refine hK.out _ _ (by exact HSS.out _ HD.out) (fun hHeld => ?_)
    clear hK K
    refine norm_ (a' := ?_) ?_ ?_
    rotate_left
    · show Act.put _ (some 29) _ = _
      simp only [Act.put, List.setIfInBounds_toArray, List.set_cons_zero, List.set_cons_succ, i64_w, i32_w]
      rfl
    refine pure_ (i := 16) (N := some 30) (v := ?_) (a' := ?_) #[true, true, true, true, true, true, true, true, true, true, true, true, true, true, true, true, true, false, false, false, false, false, false, false, false, false] rfl rfl (any_of HT_.out (by kernel_rfl)) (fun _ _ _ h => h) (Or.inl ⟨by rfl, ?_⟩) ?_ ?_
    rotate_left
    · intro w'
      go_simp
      with_reducible rfl
    rotate_left
    · simp only [Act.put, List.setIfInBounds_toArray, List.set_cons_zero, List.set_cons_succ, i64_w, i32_w]
      rfl
    refine pure_ (i := 17) (N := some 31) (v := ?_) (a' := ?_) #[true, true, true, true, true, true, true, true, true, true, true, true, true, true, true, true, true, true, false, false, false, false, false, false, false, false] rfl rfl (any_of HT_.out (by kernel_rfl)) (fun _ _ _ h => h) (Or.inl ⟨by rfl, ?_⟩) ?_ ?_
    rotate_left
    · intro w'
      go_simp
      with_reducible rfl
    rotate_left
    · simp only [Act.put, List.setIfInBounds_toArray, List.set_cons_zero, List.set_cons_succ, i64_w, i32_w]
      rfl
    refine one_ (i := 18) (N := some 32) #[true, true, true, true, true, true, true, true, true, true, true, true, true, true, true, true, true, true, true, false, false, false, false, false, false, false] rfl rfl (one_of HT_.out (by kernel_rfl)) (by decide) (fun K hK => ?_)
    refine goes_ Try.func44 (by kernel_rfl) rfl #[.int .u8 0] (by rfl) rfl rfl (by (try simp only [List.map_toArray, List.map_cons, List.map_nil]); first | done | rfl | (simp only [List.length_drop, List.length_take]; rfl)) ?_
    refine (catamaranlaw05_of.calls 50 0 (of32 0) Wc12 two_of0).mono ?_
    rintro e Wc13 ⟨v1, rfl, ho, hA⟩
    obtain ⟨Z, z, e1⟩ := Kd.R_slice ho
    subst e1
    have HZ := Aside0.mk ho
    clear ho
    refine ⟨_, rfl, ?_⟩
    replace HB := Aside0.mk (below_step HB.out hA)
    replace HD := Aside0.mk (below_step HD.out hA)
    clear hA hHeld
    refine hK.out _ _ (by exact HSS.out _ HD.out) (fun hHeld => ?_)
    clear hK K
    refine norm_ (a' := ?_) ?_ ?_
    rotate_left
    · show Act.put _ (some 32) _ = _
      simp only [Act.put, List.setIfInBounds_toArray, List.set_cons_zero, List.set_cons_succ, i64_w, i32_w]
      rfl
    refine one_ (i := 19) (N := some 33) #[true, true, true, true, true, true, true, true, true, true, true, true, true, true, true, true, true, true, true, true, false, false, false, false, false, false] rfl rfl (one_of HT_.out (by kernel_rfl)) (by decide) (fun K hK => ?_)
    refine goes_ Try.func46 (by kernel_rfl) rfl #[.slice none 0 0, .slice Z (of32 0).length z] (by rfl) rfl rfl (by (try simp only [List.map_toArray, List.map_cons, List.map_nil]); first | done | rfl | (simp only [List.length_drop, List.length_take]; rfl)) ?_
    refine (hLeaves.calls none 0 [] Z z (of32 0) Wc13 (nil_C _) (Nat.le_refl _) (Kd.R_reads' HZ.out).2.2 (Kd.R_reads' HZ.out).2.1 (.inl leaf0)).mono ?_
    rintro e Wc14 ⟨rfl, hA⟩
    refine ⟨_, rfl, ?_⟩
    replace HB := Aside0.mk (below_step HB.out hA)
    replace HZ := Aside0.mk (Kd.R_below HZ.out hA)
    replace HD := Aside0.mk (below_step HD.out hA)
    clear hA hHeld
    clear HZ
    refine hK.out _ _ (by exact HSS.out _ HD.out) (fun hHeld => ?_)
    clear hK K
    refine norm_ (a' := ?_) ?_ ?_
    rotate_left
    · show Act.put _ (some 33) _ = _
      simp only [Act.put, List.setIfInBounds_toArray, List.set_cons_zero, List.set_cons_succ, i64_w, i32_w]
      rfl
    refine pure_ (i := 20) (N := some 34) (v := ?_) (a' := ?_) #[true, true, true, true, true, true, true, true, true, true, true, true, true, true, true, true, true, true, true, true, true, false, false, false, false, false] rfl rfl (any_of HT_.out (by kernel_rfl)) (fun _ _ _ h => h) (Or.inl ⟨by rfl, ?_⟩) ?_ ?_
    rotate_left
    · intro w'
      go_simp
      with_reducible rfl
    rotate_left
    · simp only [Act.put, List.setIfInBounds_toArray, List.set_cons_zero, List.set_cons_succ, i64_w, i32_w]
      rfl
    refine pure_ (i := 21) (N := some 35) (v := ?_) (a' := ?_) #[true, true, true, true, true, true, true, true, true, true, true, true, true, true, true, true, true, true, true, true, true, true, false, false, false, false] rfl rfl (any_of HT_.out (by kernel_rfl)) (fun _ _ _ h => h) (Or.inl ⟨by rfl, ?_⟩) ?_ ?_
    rotate_left
    · intro w'
      go_simp
      with_reducible rfl
    rotate_left
    · simp only [Act.put, List.setIfInBounds_toArray, List.set_cons_zero, List.set_cons_succ, i64_w, i32_w]
      rfl
    refine one_ (i := 22) (N := some 36) #[true, true, true, true, true, true, true, true, true, true, true, true, true, true, true, true, true, true, true, true, true, true, true, false, false, false] rfl rfl (one_of HT_.out (by kernel_rfl)) (by decide) (fun K hK => ?_)
    refine value_ (w1 := ?_) (v := ?_) (by rfl) rfl ?_ ?_
    rotate_left 2
    · go_simp
      constructor
      · rfl
      · rfl
    have hA := below_alloc (Below.refl Wc14.heap.size Wc14) (.cells #[.int .u8 1, .int .u8 2] 5)
    have HLg2 := Aside0.mk (heap_alloc_new Wc14 (.cells #[.int .u8 1, .int .u8 2] 5))
    replace HB := Aside0.mk (below_step HB.out hA)
    replace HD := Aside0.mk (below_step HD.out hA)
    clear hA hHeld
    generalize Wc14.alloc (.cells #[.int .u8 1, .int .u8 2] 5) = Wa15 at HD HB HLg2 ⊢
    generalize Wc14.heap.size = g2 at HLg2 ⊢
    refine hK.out _ _ (by exact HSS.out _ HD.out) (fun hHeld => ?_)
    clear hK K
    refine norm_ (a' := ?_) ?_ ?_
    rotate_left
    · show Act.put _ (some 36) _ = _
      simp only [Act.put, List.setIfInBounds_toArray, List.set_cons_zero, List.set_cons_succ, i64_w, i32_w]
      rfl
    refine one_ (i := 23) (N := some 37) #[true, true, true, true, true, true, true, true, true, true, true, true, true, true, true, true, true, true, true, true, true, true, true, true, false, false] rfl rfl (one_of HT_.out (by kernel_rfl)) (by decide) (fun K hK => ?_)
    refine goes_ Try.func46 (by kernel_rfl) rfl #[.slice (some ⟨g2, 0, none⟩) 2 2, .slice none 0 0] (by rfl) rfl rfl (by (try simp only [List.map_toArray, List.map_cons, List.map_nil]); first | done | rfl | (simp only [List.length_drop, List.length_take]; rfl)) ?_
    refine (hLeaves.calls (some ⟨g2, 0, none⟩) 2 [1, 2] none 0 [] Wa15 (lit_C [1, 2] (by simp) HLg2.out) (Nat.le_refl _) (nil_C _) (Nat.le_refl _) (.inr ⟨leaf12, rfl⟩)).mono ?_
    rintro e Wc16 ⟨rfl, hA⟩
    refine ⟨_, rfl, ?_⟩
    replace HB := Aside0.mk (below_step HB.out hA)
    replace HLg2 := Aside0.mk (blk_below HLg2.out hA)
    replace HD := Aside0.mk (below_step HD.out hA)
    clear hA hHeld
    clear HLg2
    refine hK.out _ _ (by exact HSS.out _ HD.out) (fun hHeld => ?_)
    clear hK K
    refine norm_ (a' := ?_) ?_ ?_
    rotate_left
    · show Act.put _ (some 37) _ = _
      simp only [Act.put, List.setIfInBounds_toArray, List.set_cons_zero, List.set_cons_succ, i64_w, i32_w]
      rfl
    refine pure_ (i := 24) (N := some 38) (v := ?_) (a' := ?_) #[true, true, true, true, true, true, true, true, true, true, true, true, true, true, true, true, true, true, true, true, true, true, true, true, true, false] rfl rfl (any_of HT_.out (by kernel_rfl)) (fun _ _ _ h => h) (Or.inl ⟨by rfl, ?_⟩) ?_ ?_
    rotate_left
    · intro w'
      go_simp
      with_reducible rfl
    rotate_left
    · simp only [Act.put, List.setIfInBounds_toArray, List.set_cons_zero, List.set_cons_succ, i64_w, i32_w]
      rfl
    refine pure_ (i := 25) (N := some 0) (v := ?_) (a' := ?_) #[true, true, true, true, true, true, true, true, true, true, true, true, true, true, true, true, true, true, true, true, true, true, true, true, true, true] rfl rfl (any_of HT_.out (by kernel_rfl)) (fun _ _ _ h => h) (Or.inl ⟨by rfl, ?_⟩) ?_ ?_
    rotate_left
    · intro w'
      go_simp
      with_reducible rfl
    rotate_left
    · simp only [Act.put, List.setIfInBounds_toArray, List.set_cons_zero, List.set_cons_succ, i64_w, i32_w]
      rfl
    refine done_ (done_of HT_.out (by kernel_rfl)) ?_
    try go_wp2
    go_ret
    exact ⟨rfl, HB.out⟩
end Go.Proofs.Ytjlohdbkjoofcaa.P
end
section
set_option linter.unusedVariables false
set_option linter.unusedSimpArgs false
namespace Go.Proofs.Ytjlohdbkjoofcaa.P
open Go.RowKit Go.Proofs.PrintWords Go.Proofs.PrintLast Go.Proofs.PrintMore
attribute [local go_sem] max2_int min2_int max_two min_two max_three min_three max_four min_four
def bits_Mul64.f (a0 : Int) (a1 : Int) : Option (Int × Int) := some (IntKind.u64.wrap ((IntKind.u64.wrap ((IntKind.u64.wrap ((a0 / 4294967296) * (a1 / 4294967296))) + ((IntKind.u64.wrap ((IntKind.u64.wrap ((a0 / 4294967296) * (Go.bits .and .u64 a1 4294967295))) + ((IntKind.u64.wrap ((Go.bits .and .u64 a0 4294967295) * (Go.bits .and .u64 a1 4294967295))) / 4294967296))) / 4294967296))) + ((IntKind.u64.wrap ((Go.bits .and .u64 (IntKind.u64.wrap ((IntKind.u64.wrap ((a0 / 4294967296) * (Go.bits .and .u64 a1 4294967295))) + ((IntKind.u64.wrap ((Go.bits .and .u64 a0 4294967295) * (Go.bits .and .u64 a1 4294967295))) / 4294967296))) 4294967295) + (IntKind.u64.wrap ((Go.bits .and .u64 a0 4294967295) * (a1 / 4294967296))))) / 4294967296)), IntKind.u64.wrap (a0 * a1))
set_option maxHeartbeats 8000000 in
set_option maxRecDepth 100000 in
theorem bits_Mul64.calls (a0 : Int) (a1 : Int) (r1 : Int) (r2 : Int) (w : World) (h : bits_Mul64.f a0 a1 = some (r1, r2)) :
    Calls Try.prog 222 #[.int .u64 a0, .int .u64 a1] w fun e w' => e = .returned (.tuple #[.int .u64 r1, .int .u64 r2]) ∧ Drawn0 w w' := by
  have H : (some (IntKind.u64.wrap ((IntKind.u64.wrap ((IntKind.u64.wrap ((a0 / 4294967296) * (a1 / 4294967296))) + ((IntKind.u64.wrap ((IntKind.u64.wrap ((a0 / 4294967296) * (Go.bits .and .u64 a1 4294967295))) + ((IntKind.u64.wrap ((Go.bits .and .u64 a0 4294967295) * (Go.bits .and .u64 a1 4294967295))) / 4294967296))) / 4294967296))) + ((IntKind.u64.wrap ((Go.bits .and .u64 (IntKind.u64.wrap ((IntKind.u64.wrap ((a0 / 4294967296) * (Go.bits .and .u64 a1 4294967295))) + ((IntKind.u64.wrap ((Go.bits .and .u64 a0 4294967295) * (Go.bits .and .u64 a1 4294967295))) / 4294967296))) 4294967295) + (IntKind.u64.wrap ((Go.bits .and .u64 a0 4294967295) * (a1 / 4294967296))))) / 4294967296)), IntKind.u64.wrap (a0 * a1))) = some (r1, r2) := h
  clear h
  simp only [Option.some.injEq, Prod.mk.injEq] at H
  obtain ⟨rfl, rfl⟩ := H
  go_enter Try.func222, Try.ntmps222
  go_wp2
  go_ret2
  exact ⟨by first | rfl | (simp; done) | (simp [*]; done), by repeat (first | exact Drawn0.refl _ | apply Drawn0.step)⟩
end Go.Proofs.Ytjlohdbkjoofcaa.P
end
section
set_option linter.unusedVariables false
set_option linter.unusedSimpArgs false
namespace Go.Proofs.Ytjlohdbkjoofcaa.P
open Go.RowKit Go.Proofs.PrintWords Go.Proofs.PrintLast Go.Proofs.PrintMore
attribute [local go_sem] max2_int min2_int max_two min_two max_three min_three max_four min_four
def bits_Mul.f (a0 : Int) (a1 : Int) : Option (Int × Int) := (bits_Mul64.f a0 a1).bind fun bt353 => (some (bt353.1, bt353.2))
set_option maxHeartbeats 8000000 in
set_option maxRecDepth 100000 in
theorem bits_Mul.calls (a0 : Int) (a1 : Int) (r1 : Int) (r2 : Int) (w : World) (h : bits_Mul.f a0 a1 = some (r1, r2)) :
    Calls Try.prog 189 #[.int .u64 a0, .int .u64 a1] w fun e w' => e = .returned (.tuple #[.int .u64 r1, .int .u64 r2]) ∧ Drawn0 w w' := by
  have H : ((bits_Mul64.f a0 a1).bind fun bt353 => (some (bt353.1, bt353.2))) = some (r1, r2) := h
  clear h
  replace H := Option.bind_eq_some_iff.mp H
  obtain ⟨⟨t353, t354⟩, A30, H⟩ := H
  replace H : (some (t353, t354)) = some (r1, r2) := H
  have A3 := Aside0.mk A30
  clear A30
  simp only [Option.some.injEq, Prod.mk.injEq] at H
  obtain ⟨rfl, rfl⟩ := H
  go_enter Try.func189, Try.ntmps189
  go_wp2_with (first | ((with_reducible refine gate_callee (f := 222) rfl ?_); refine goesL_ (some 25) rfl rfl Try.func222 (by kernel_rfl) rfl #[.int .u64 a0, .int .u64 a1] rfl (by (try simp only [List.map_toArray, List.map_cons, List.map_nil]); first | done | rfl | (simp only [List.length_drop, List.length_take]; rfl)) ?_; (with_reducible refine (bits_Mul64.calls a0 a1 t353 t354 _ A3.out).mono ?_); rintro e w' ⟨rfl, ⟨nd, rfl⟩⟩; refine ⟨_, rfl, ?_⟩))
  go_ret2
  exact ⟨by first | rfl | (simp; done) | (simp [*]; done), by repeat (first | exact Drawn0.refl _ | apply Drawn0.step)⟩
end Go.Proofs.Ytjlohdbkjoofcaa.P
end
section
set_option linter.unusedVariables false
set_option linter.unusedSimpArgs false
namespace Go.Proofs.Ytjlohdbkjoofcaa.P
open Go.RowKit Go.Proofs.PrintWords Go.Proofs.PrintLast Go.Proofs.PrintMore
attribute [local go_sem] max2_int min2_int max_two min_two max_three min_three max_four min_four
def hRepeat.f (l0 : List Int) (a1 : Int) : Option (List Int) := if l0.length = 1 ∧ 0 ≤ a1 ∧ a1 ≤ 100000 then some (List.replicate a1.toNat (rd l0 0)) else none
theorem mul_one_n (n : Nat) (hn : n ≤ 100000) : bits_Mul.f 1 (n : Int) = some (0, (n : Int)) := by
  unfold bits_Mul.f bits_Mul64.f
  have e1 : Go.bits .and .u64 (1 : Int) 4294967295 = 1 := by rw [u64_and _ _ (by decide) (by decide) (by decide) (by decide)]; rfl
  have e0 : Go.bits .and .u64 (0 : Int) 4294967295 = 0 := by rw [u64_and _ _ (by decide) (by decide) (by decide) (by decide)]; rfl
  have en : Go.bits .and .u64 (n : Int) 4294967295 = n := by
    rw [u64_and _ _ (by omega) (by omega) (by decide) (by decide)]
    show ((n &&& 4294967295 : Nat) : Int) = n
    rw [show 4294967295 = 2 ^ 32 - 1 by decide, Nat.and_two_pow_sub_one_eq_mod]
    omega
  have d1 : (1 : Int) / 4294967296 = 0 := by decide
  have dn : (n : Int) / 4294967296 = 0 := by omega
  have w0 : IntKind.u64.wrap 0 = 0 := by decide
  have wn : IntKind.u64.wrap (n : Int) = n := by simp [IntKind.wrap, IntKind.bits, IntKind.signed]; omega
  have z0 : (0 : Int) / 4294967296 = 0 := by decide
  simp only [e1, en, d1, dn, Int.zero_mul, Int.mul_zero, w0, Int.one_mul, wn, z0, Int.add_zero, e0, Option.bind_some]
def RepRow (w : World) (g n cap k : Nat) (x : Int) : Prop := n ≤ cap ∧ cap ≤ maxLen ∧ ∃ cur : List Value, w.heap[g]? = some (.cells cur.toArray 5 (0, 0)) ∧ cur.length = cap ∧ ∀ i, i < k → cur[i]? = some (.int .u8 x)
theorem RepRow.R {w : World} {g n cap lo : Nat} {x : Int} (h : RepRow w g n cap n x) (hl : lo ≤ g) : Kd.R (Kd.int .u8) 5 w lo (fun _ => True) (.slice (some ⟨g, 0, none⟩) n cap) (List.replicate n x) := by
  obtain ⟨h1, h2, cur, hb, hz, hc⟩ := h
  refine Kd.R_of_own ⟨?_, .inr ⟨g, cap, cur.toArray, ?_, hl, hb, by rw [List.length_replicate]; exact h1, h2, by simpa using hz, ?_⟩⟩ (fun _ _ => trivial)
  · simp [encs]
  · rw [List.length_replicate]
  · refine List.ext_getElem? fun i => ?_
    simp only [List.length_replicate, Nat.mul_one, encs, List.map_replicate]
    rw [List.getElem?_take]
    by_cases hi : i < n
    · rw [if_pos hi, hc i hi, List.getElem?_replicate, if_pos hi]
    · rw [if_neg hi, List.getElem?_eq_none (by simpa using hi)]
theorem RepRow.of_R {w : World} {lo n k b : Nat} {x : Int} {v : Value} {xs : List Int} {ok : Nat → Prop} (h : Kd.R (Kd.int .u8) 5 w lo ok v xs) (hv : v.ownBlock = some b) (hl : xs.length = n) (hk : ∀ i, i < k → xs[i]? = some x) : ∃ cap, v = .slice (some ⟨b, 0, none⟩) n cap ∧ RepRow w b n cap k x ∧ lo ≤ b := by
  have ho := Kd.own_of_R (enc := Value.int .u8) (h1 := fun _ => rfl) h
  rcases ho.2 with ⟨e, _⟩ | ⟨g, cap, cur, e, hb, hh, h1, h2, h3, h4⟩
  · rw [e] at hv
    simp [Value.ownBlock] at hv
  · obtain rfl : g = b := by rw [e] at hv; simpa [Value.ownBlock] using hv
    subst hl
    refine ⟨cap, e, ⟨h1, h2, cur.toList, hh, by simpa using h3, fun i hi => ?_⟩, hb⟩
    have hx := hk i hi
    have hil := (List.getElem?_eq_some_iff.1 hx).1
    have e2 : (cur.toList.take (xs.length * 1))[i]? = (encs (Value.int .u8) xs)[i]? := by rw [h4]
    rw [List.getElem?_take, if_pos (by omega)] at e2
    rw [e2]
    simp [encs, hx]
theorem RepRow.splice {w' : World} {g n cap k : Nat} {x : Int} {cur : List Value} (h1 : n ≤ cap) (h2 : cap ≤ maxLen) (hz : cur.length = cap) (hc : ∀ i, i < k → cur[i]? = some (.int .u8 x)) (hk : k < n) (hb : w'.heap[g]? = some (.cells (splice cur k (List.replicate (min k (n - k)) (.int .u8 x))).toArray 5 (0, 0))) : RepRow w' g n cap (k + min k (n - k)) x := by
  refine ⟨h1, h2, _, hb, ?_, fun i hi => ?_⟩
  · rw [length_splice _ _ _ (by rw [List.length_replicate]; omega)]
    exact hz
  · unfold Go.splice
    by_cases hik : i < k
    · rw [List.getElem?_append_left (by rw [List.length_take]; omega), List.getElem?_take, if_pos hik]
      exact hc i hik
    · rw [List.getElem?_append_right (by rw [List.length_take]; omega), List.length_take, List.getElem?_append_left (by rw [List.length_replicate]; omega), List.getElem?_replicate, if_pos (by omega)]
def hRepeat.T9 : Bool × List (List Nat × List Nat) := (true, [([], []), ([], []), ([], []), ([1, 2], [1, 2]), ([], []), ([], []), ([4, 5], [4, 5]), ([3, 6], [3, 6]), ([0, 7], [0, 7]), ([8, 7, 0, 1, 2, 3, 4, 5, 6, 7, 8], [0, 2, 5, 8])])
def hRepeat.B9 : List Nat := [0, 0, 0, 6, 0, 0, 48, 126, 255, 511]
theorem hRepeat.tab9 : rtab .any (opsOf Try.f128 9) = hRepeat.T9 := by kernel_rfl
theorem hRepeat.bits9 : waitsOk hRepeat.T9.2 hRepeat.B9 = true := by kernel_rfl
set_option maxHeartbeats 4000000 in
set_option maxRecDepth 100000 in
theorem hRepeat.calls (A0 : Option Addr) (c0 : Nat) (l0 : List Int) (a1 : Int) (r : List Int) (w : World) (hr0 : Kd.C (Kd.int .u8) w A0 l0.length l0) (hc0 : l0.length ≤ c0) (h : hRepeat.f l0 a1 = some r) :
    Calls Try.prog 128 #[.slice A0 l0.length c0, .int .i64 a1] w fun e w' => ∃ v0_ : Value, e = .returned v0_ ∧ Kd.R (Kd.int .u8) 5 w' w.heap.size (fun _ => True) v0_ r ∧ Below w.heap.size w w' := by
  unfold hRepeat.f at h
  by_cases hh : l0.length = 1 ∧ 0 ≤ a1 ∧ a1 ≤ 100000
  · rw [if_pos hh] at h
    obtain ⟨h1, h2, h3⟩ := hh
    injection h with h
    subst h
    obtain ⟨n, rfl⟩ := Int.eq_ofNat_of_zero_le h2
    obtain ⟨x, rfl⟩ : ∃ x, l0 = [x] := by
      match l0, h1 with
      | [x], _ => exact ⟨x, rfl⟩
    show Calls _ _ _ _ fun e w' => ∃ v0_ : Value, e = .returned v0_ ∧ Kd.R (Kd.int .u8) 5 w' w.heap.size (fun _ => True) v0_ (List.replicate n x) ∧ Below w.heap.size w w'
    have HR := Aside0.mk hr0
    have hn : n ≤ 100000 := by omega
    have HM := Aside0.mk (mul_one_n n hn)
    have hw1 : IntKind.u64.wrap (n : Int) = n := by simp [IntKind.wrap, IntKind.bits, IntKind.signed]; omega
    have hw2 : IntKind.u64.wrap (1 : Int) = 1 := by decide
    have hw3 : wrap64 (n : Int) = n := by unfold wrap64; omega
    have hn0 : ¬ ((n : Int) < 0) := by omega
    clear hr0 h1 h2 h3
    go_enter Try.func128, Try.ntmps128
    go_upto_block 0 with (first
      | (go_at_call 189; refine (bits_Mul.calls 1 (n : Int) 0 (n : Int) _ HM.out).mono ?_; rintro e w' ⟨rfl, hq⟩; have HB1 := Aside0.mk (Drawn0.below hq); clear hq)
      | ((with_reducible refine gate_dst (N := 30) rfl ?_); refine Kd.R_make (Kd.int .u8) (w0 := w) w.heap.size 5 rfl (N := 30) rfl 26 _ _ rfl n rfl rfl Try.underlying26 (.int .u8 0) 1 info5 rfl (by decide) (by omega) 0 (ok := fun _ => True) (okp := fun _ => True) rfl (fun _ hk => hk) trivial (by omega) (by omega) HB1.out (below_size HB1.out) ?_; intro v2 w2 ho2 hb2 hg2 hnew2; obtain ⟨b2, hv2, hl2⟩ := hnew2; have HO2 := Aside0.mk ho2; have HB2 := Aside0.mk hb2; have HV2 := Aside0.mk hv2; clear ho2 hb2 hg2 hv2 hl2)
      | ((with_reducible refine gate_dst (N := 33) rfl ?_); refine Kd.R_copy (enc := Value.int .u8) (h1 := fun _ => rfl) (0 : Int) (w0 := w) w.heap.size rfl (.tmp 31) (.tmp 32) 26 26 5 rfl Try.underlying26 (by kernel_rfl) v2 (List.replicate n 0) [x] A0 1 c0 (fun _ => True) rfl rfl HO2.out (Kd.C_below HR.out HB2.out) HB2.out (below_size HB2.out) ?_; intro w3 ho3 hb3 hg3; have HO3 := Aside0.mk ho3; have HB3 := Aside0.mk hb3; clear ho3 hb3 hg3))
    obtain ⟨cap, e2, hrow, hlo⟩ := RepRow.of_R (k := min 1 n) HO3.out HV2.out (n := n) (by rw [List.length_append, List.length_take, List.length_drop, List.length_replicate, List.length_singleton]; omega) (x := x) (fun i hi => by
      have : i = 0 := by omega
      subst this
      rw [show min 1 (List.replicate n (0 : Int)).length = 1 by rw [List.length_replicate]; omega]
      rfl)
    subst e2
    have HRW := Aside0.mk hrow
    have HLO := Aside0.mk hlo
    have hcap := hrow.1
    have hmax := hrow.2.1
    clear hrow hlo HO3 HO2 HV2
    obtain ⟨k0, hk0⟩ : ∃ k0, min 1 n = k0 := ⟨_, rfl⟩
    have hk1 : k0 ≤ n := by omega
    have hk2 : 0 < n → 0 < k0 := by omega
    rw [hk0] at HRW ⊢
    clear hk0
    go_wp2_with fail
    go_loopw [8] (fun i wr => ∃ k : Nat, k ≤ n ∧ (0 < n → 0 < k) ∧ i = .int .i64 k ∧ Aside0 (RepRow wr b2 n cap k x) ∧ Aside0 (Below w.heap.size w wr)) (fun i _ => n - (intOf i).toNat)
    case atStart => exact ⟨k0, hk1, hk2, rfl, HRW, HB3⟩
    case round =>
      clear HRW HB3 hk1 hk2
      obtain ⟨k, hk, hkp, rfl, HRW, HB⟩ := hrel
      by_cases hlt : k < n
      · have hne : ¬ cap = k := by omega
        have hne2 : ¬ (cap : Int) = k := by omega
        have hk0' : 0 ≤ (k : Int) := by omega
        have hkc : k ≤ cap := by omega
        have hkc2 : (k : Int) ≤ cap := by omega
        go_wp2_with fail
        refine start_ (n := 10) (S := fun _ => True) (ds := []) #[false, false, false, false, false, false, false, false, false, false] (by kernel_rfl) rfl rfl trivial (fun hHeld => ?_); refine with_tabW hRepeat.tab9 hRepeat.bits9 (fun HT_ HW_ => ?_)
        refine pure_ (i := 0) (N := some 38) (v := ?_) (a' := ?_) #[true, false, false, false, false, false, false, false, false, false] rfl rfl (any_of HT_.out (by kernel_rfl)) (fun _ _ _ h => h) (Or.inl ⟨by rfl, ?_⟩) ?_ ?_
        rotate_left
        · intro w'
          go_simp
          with_reducible rfl
        rotate_left
        · simp only [Act.put, List.setIfInBounds_toArray, List.set_cons_zero, List.set_cons_succ, i64_w, i32_w]
          rfl
        refine pure_ (i := 1) (N := some 39) (v := ?_) (a' := ?_) #[true, true, false, false, false, false, false, false, false, false] rfl rfl (any_of HT_.out (by kernel_rfl)) (fun _ _ _ h => h) (Or.inl ⟨by rfl, ?_⟩) ?_ ?_
        rotate_left
        · intro w'
          go_simp
          with_reducible rfl
        rotate_left
        · simp only [Act.put, List.setIfInBounds_toArray, List.set_cons_zero, List.set_cons_succ, i64_w, i32_w]
          rfl
        refine pure_ (i := 2) (N := some 40) (v := ?_) (a' := ?_) #[true, true, true, false, false, false, false, false, false, false] rfl rfl (any_of HT_.out (by kernel_rfl)) (fun _ _ _ h => h) (Or.inl ⟨by rfl, ?_⟩) ?_ ?_
        rotate_left
        · intro w'
          go_simp
          with_reducible rfl
        rotate_left
        · simp only [Act.put, List.setIfInBounds_toArray, List.set_cons_zero, List.set_cons_succ, i64_w, i32_w]
          rfl
        refine pure_ (i := 3) (N := some 41) (v := ?_) (a' := ?_) #[true, true, true, true, false, false, false, false, false, false] rfl rfl (any_of HT_.out (by kernel_rfl)) (fun _ _ _ h => h) (Or.inl ⟨by rfl, ?_⟩) ?_ ?_
        rotate_left
        · intro w'
          go_simp
          with_reducible rfl
        rotate_left
        · simp only [Act.put, List.setIfInBounds_toArray, List.set_cons_zero, List.set_cons_succ, i64_w, i32_w]
          rfl
        refine pure_ (i := 4) (N := some 42) (v := ?_) (a' := ?_) #[true, true, true, true, true, false, false, false, false, false] rfl rfl (any_of HT_.out (by kernel_rfl)) (fun _ _ _ h => h) (Or.inl ⟨by rfl, ?_⟩) ?_ ?_
        rotate_left
        · intro w'
          go_simp
          with_reducible rfl
        rotate_left
        · simp only [Act.put, List.setIfInBounds_toArray, List.set_cons_zero, List.set_cons_succ, i64_w, i32_w]
          rfl
        refine pure_ (i := 5) (N := some 43) (v := ?_) (a' := ?_) #[true, true, true, true, true, true, false, false, false, false] rfl rfl (any_of HT_.out (by kernel_rfl)) (fun _ _ _ h => h) (Or.inl ⟨by rfl, ?_⟩) ?_ ?_
        rotate_left
        · intro w'
          go_simp
          with_reducible rfl
        rotate_left
        · simp only [Act.put, List.setIfInBounds_toArray, List.set_cons_zero, List.set_cons_succ, i64_w, i32_w]
          rfl
        refine pure_ (i := 6) (N := some 44) (v := ?_) (a' := ?_) #[true, true, true, true, true, true, true, false, false, false] rfl rfl (any_of HT_.out (by kernel_rfl)) (fun _ _ _ h => h) (Or.inl ⟨by rfl, ?_⟩) ?_ ?_
        rotate_left
        · intro w'
          go_simp
          with_reducible rfl
        rotate_left
        · simp only [Act.put, List.setIfInBounds_toArray, List.set_cons_zero, List.set_cons_succ, i64_w, i32_w]
          rfl
        refine one_ (i := 7) (N := some 45) #[true, true, true, true, true, true, true, true, false, false] rfl rfl (one_of HT_.out (by kernel_rfl)) (by decide) (fun K hK => ?_)
        obtain ⟨_, _, cur, hcur, hcz, hcc⟩ := HRW.out
        refine step_copy_splice (by rfl) (.tmp 41) (.tmp 44) 26 26 rfl 5 Try.underlying26 (by kernel_rfl) (some ⟨b2, k, none⟩) (some ⟨b2, 0, none⟩) (n - k) (cap - k) k cap (by rfl) (by rfl) b2 k cur 5 (blk_drew hcur) (List.replicate (min k (n - k)) (.int .u8 x)) (by rw [List.length_replicate]) (fun _ => ⟨rfl, ⟨b2, 0, none⟩, rfl, fun j v hj => ?_⟩) (by rw [List.length_replicate]; omega) (fun v hv => by rw [List.eq_of_mem_replicate hv]; rfl) w.heap.size w (below_drew1 HB.out) HLO.out ?_
        · rw [List.getElem?_replicate] at hj
          by_cases hjm : j < min k (n - k)
          · rw [if_pos hjm] at hj
            injection hj with hj
            subst hj
            rw [add_plain, blk_cell (blk_drew hcur)]
            simpa using hcc j (by omega)
          · rw [if_neg hjm] at hj
            cases hj
        · intro w4 hh4 hb4
          have HB4 := Aside0.mk hb4
          have HR4 := Aside0.mk (RepRow.splice hcap hmax hcz hcc hlt hh4)
          clear hh4 hb4 hcur hcz hcc
          rw [List.length_replicate]
          refine hK.out _ _ trivial (fun hHeld => ?_)
          clear hK K
          refine norm_ (a' := ?_) ?_ ?_
          rotate_left
          · show Act.put _ (some 45) _ = _
            simp only [Act.put, List.setIfInBounds_toArray, List.set_cons_zero, List.set_cons_succ, i64_w, i32_w]
            rfl
          refine pure_ (i := 8) (N := some 46) (v := ?_) (a' := ?_) #[true, true, true, true, true, true, true, true, true, false] rfl rfl (any_of HT_.out (by kernel_rfl)) (fun _ _ _ h => h) (Or.inl ⟨by rfl, ?_⟩) ?_ ?_
          rotate_left
          · intro w'
            go_simp
            with_reducible rfl
          rotate_left
          · simp only [Act.put, List.setIfInBounds_toArray, List.set_cons_zero, List.set_cons_succ, i64_w, i32_w]
            rfl
          refine pure_ (i := 9) (N := some 8) (v := ?_) (a' := ?_) #[true, true, true, true, true, true, true, true, true, true] rfl rfl (any_of HT_.out (by kernel_rfl)) (fun _ _ _ h => h) (Or.inl ⟨by rfl, ?_⟩) ?_ ?_
          rotate_left
          · intro w'
            go_simp
            with_reducible rfl
          rotate_left
          · simp only [Act.put, List.setIfInBounds_toArray, List.set_cons_zero, List.set_cons_succ, i64_w, i32_w]
            rfl
          refine done_ (done_of HT_.out (by kernel_rfl)) ?_
          try go_wp2
          go_roundw
          case rel => exact ⟨k + min k (n - k), by omega, by omega, by rw [show wrap64 ((k : Int) + ((min k (n - k) : Nat) : Int)) = ((k + min k (n - k) : Nat) : Int) by unfold wrap64; omega], HR4, HB4⟩
          case measure => rw [show wrap64 ((k : Int) + ((min k (n - k) : Nat) : Int)) = ((k + min k (n - k) : Nat) : Int) by unfold wrap64; omega]; have := hkp (by omega); simp only [intOf, Int.toNat_natCast]; omega
      · obtain rfl : k = n := by omega
        go_wp2_with fail
        go_ret
        exact ⟨_, rfl, HRW.out.R HLO.out, HB.out⟩
  · rw [if_neg hh] at h
    cases h
end Go.Proofs.Ytjlohdbkjoofcaa.P
end
section
set_option linter.unusedVariables false
set_option linter.unusedSimpArgs false
namespace Go.Proofs.Ytjlohdbkjoofcaa.P
open Go.RowKit Go.Proofs.PrintWords Go.Proofs.PrintLast Go.Proofs.PrintMore
attribute [local go_sem] max2_int min2_int max_two min_two max_three min_three max_four min_four
def hFlush.f (l0 : List S52) (l1 : List S65) : Option (List S52 × List S65 × Int) := if l1.length ≤ 100000 then some (dFlush l0 l1) else none
def hFlush.T2 : Bool × List (List Nat × List Nat) := (true, [([], []), ([], []), ([], []), ([2], [2]), ([3], [3]), ([1, 4], [1, 4]), ([0, 5, 5], [0, 5]), ([6], [6]), ([6], [6]), ([7, 6, 0, 1, 2, 3, 4, 5, 6, 7, 8], [7]), ([8, 9, 0, 1, 2, 3, 4, 5, 6, 7, 8, 9], [8])])
def hFlush.B2 : List Nat := [0, 0, 0, 4, 12, 30, 63, 127, 127, 511, 1023]
theorem hFlush.tab2 : rtab .any (opsOf Try.f47 2) = hFlush.T2 := by kernel_rfl
theorem hFlush.bits2 : waitsOk hFlush.T2.2 hFlush.B2 = true := by kernel_rfl
set_option maxHeartbeats 4000000 in
set_option maxRecDepth 100000 in
theorem hFlush.calls (A0_0 : Option Addr) (c0_0 : Nat) (l0_0 : List S52) (A0_1 : Option Addr) (c0_1 : Nat) (l0_1 : List S65) (r1 : List S52) (r2 : List S65) (r3 : Int) (w : World) (hr0_0 : Kd.C k52 w A0_0 l0_0.length l0_0) (hc0_0 : l0_0.length ≤ c0_0) (hr0_1 : Kd.C k65 w A0_1 l0_1.length l0_1) (hc0_1 : l0_1.length ≤ c0_1) (h : hFlush.f l0_0 l0_1 = some (r1, r2, r3)) :
    Calls Try.prog 47 #[.agg #[.slice A0_0 l0_0.length c0_0, .slice A0_1 l0_1.length c0_1]] w fun e w' => ∃ v0_ v1_ : Value, e = .returned (.tuple #[.agg #[v0_, v1_], .int .i64 r3]) ∧ Kd.S k52 52 w' w.heap.size (fun _ => True) v0_ r1 ∧ Kd.S k65 65 w' w.heap.size (fun _ => True) v1_ r2 ∧ Below w.heap.size w w' := by
  have hu25 := Try.underlying25
  unfold hFlush.f at h
  by_cases hl : l0_1.length ≤ 100000
  · rw [if_pos hl] at h
    injection h with h
    have H := Aside0.mk h
    have HR0 := Aside0.mk hr0_0
    have HR1 := Aside0.mk hr0_1
    have HC0 := Aside0.mk hc0_0
    have HC1 := Aside0.mk hc0_1
    have HL := Aside0.mk hl
    clear h hr0_0 hr0_1 hc0_0 hc0_1 hl
    go_enter Try.func47, Try.ntmps47
    go_wp2_with fail
    have HBx := Aside0.mk (show ∀ W, Below w.heap.size w W → Kd.C k52 W A0_0 l0_0.length l0_0 ∧ Kd.C k65 W A0_1 l0_1.length l0_1 from fun W hb => ⟨Kd.C_below HR0.out hb, Kd.C_below HR1.out hb⟩)
    have HB0 := Aside0.mk (below_alloc (below_alloc (below_alloc (Below.refl w.heap.size w) (.cells #[.slice A0_0 l0_0.length c0_0, .slice A0_1 l0_1.length c0_1] 25)) (.cells #[.slice none 0 0, .slice none 0 0] 25)) (.cells #[.int .u8 1] 160))
    have HK0 := Aside0.mk (blk_alloc (blk_alloc (heap_alloc_new w (.cells #[.slice A0_0 l0_0.length c0_0, .slice A0_1 l0_1.length c0_1] 25)) (.cells #[.slice none 0 0, .slice none 0 0] 25)) (.cells #[.int .u8 1] 160))
    have HZ0 := Aside0.mk (blk_alloc (heap_alloc_at w (.cells #[.slice A0_0 l0_0.length c0_0, .slice A0_1 l0_1.length c0_1] 25) (.cells #[.slice none 0 0, .slice none 0 0] 25) (w.heap.size + 1) rfl) (.cells #[.int .u8 1] 160))
    have HA0 := Aside0.mk (show (((w.alloc (.cells #[.slice A0_0 l0_0.length c0_0, .slice A0_1 l0_1.length c0_1] 25)).alloc (.cells #[.slice none 0 0, .slice none 0 0] 25)).alloc (.cells #[.int .u8 1] 160)).heap[w.heap.size + 1 + 1]? = some (.cells #[.int .u8 1] 160 (0, 0)) by
      have e := heap_alloc_new ((w.alloc (.cells #[.slice A0_0 l0_0.length c0_0, .slice A0_1 l0_1.length c0_1] 25)).alloc (.cells #[.slice none 0 0, .slice none 0 0] 25)) (.cells #[.int .u8 1] 160)
      rwa [show ((w.alloc (.cells #[.slice A0_0 l0_0.length c0_0, .slice A0_1 l0_1.length c0_1] 25)).alloc (.cells #[.slice none 0 0, .slice none 0 0] 25)).heap.size = w.heap.size + 1 + 1 by show ((w.heap.push _).push _).size = _; rw [Array.size_push, Array.size_push]] at e)
    generalize ((w.alloc (.cells #[.slice A0_0 l0_0.length c0_0, .slice A0_1 l0_1.length c0_1] 25)).alloc (.cells #[.slice none 0 0, .slice none 0 0] 25)).alloc (.cells #[.int .u8 1] 160) = W0 at HB0 HK0 HZ0 HA0 ⊢
    have HSS := Aside0.mk (show ∀ W : World, Below W0.heap.size W0 W → W.cell? ⟨w.heap.size, 0, none⟩ = some (.slice A0_0 l0_0.length c0_0) ∧ W.cell? ⟨w.heap.size, 1, none⟩ = some (.slice A0_1 l0_1.length c0_1) from fun W hb => ⟨(blk_cell (blk_below HK0.out hb) 0).trans rfl, (blk_cell (blk_below HK0.out hb) 1).trans rfl⟩)
    refine start_ (n := 11) (S := fun w' => w'.cell? ⟨w.heap.size, 0, none⟩ = some (.slice A0_0 l0_0.length c0_0) ∧ w'.cell? ⟨w.heap.size, 1, none⟩ = some (.slice A0_1 l0_1.length c0_1)) (ds := [9]) #[false, false, false, false, false, false, false, false, false, false, false] (by kernel_rfl) rfl rfl (by exact HSS.out _ (below_drew1 (Below.refl _ _))) (fun hHeld => ?_); refine with_tabW hFlush.tab2 hFlush.bits2 (fun HT_ HW_ => ?_)
    refine take_ (i := 0) (N := some 6) (v := ?_) (a' := ?_) #[true, false, false, false, false, false, false, false, false, false, false] rfl rfl (take_ofW HT_.out HW_.out (by kernel_rfl)) (fun _ _ _ h => h) (Or.inl ⟨by rfl, ?_⟩) hHeld ?_ ?_
    rotate_left
    · rintro w' ⟨s0, s1⟩
      go_simp
      with_reducible rfl
    rotate_left
    · simp only [Act.put, List.setIfInBounds_toArray, List.set_cons_zero, List.set_cons_succ, i64_w, i32_w]
      rfl
    refine pure_ (i := 1) (N := some 7) (v := ?_) (a' := ?_) #[true, true, false, false, false, false, false, false, false, false, false] rfl rfl (any_of HT_.out (by kernel_rfl)) (fun _ _ _ h => h) (Or.inl ⟨by rfl, ?_⟩) ?_ ?_
    rotate_left
    · intro w'
      go_simp
      with_reducible rfl
    rotate_left
    · simp only [Act.put, List.setIfInBounds_toArray, List.set_cons_zero, List.set_cons_succ, i64_w, i32_w]
      rfl
    refine pure_ (i := 2) (N := some 8) (v := ?_) (a' := ?_) #[true, true, true, false, false, false, false, false, false, false, false] rfl rfl (any_of HT_.out (by kernel_rfl)) (fun _ _ _ h => h) (Or.inl ⟨by rfl, ?_⟩) ?_ ?_
    rotate_left
    · intro w'
      go_simp
      with_reducible rfl
    rotate_left
    · simp only [Act.put, List.setIfInBounds_toArray, List.set_cons_zero, List.set_cons_succ, i64_w, i32_w]
      rfl
    refine take_ (i := 3) (N := some 9) (v := ?_) (a' := ?_) #[true, true, true, true, false, false, false, false, false, false, false] rfl rfl (take_ofW HT_.out HW_.out (by kernel_rfl)) (fun _ _ _ h => h) (Or.inl ⟨by rfl, ?_⟩) hHeld ?_ ?_
    rotate_left
    · rintro w' ⟨s0, s1⟩
      go_simp
      with_reducible rfl
    rotate_left
    · simp only [Act.put, List.setIfInBounds_toArray, List.set_cons_zero, List.set_cons_succ, i64_w, i32_w]
      rfl
    refine take_ (i := 4) (N := some 10) (v := ?_) (a' := ?_) #[true, true, true, true, true, false, false, false, false, false, false] rfl rfl (take_ofW HT_.out HW_.out (by kernel_rfl)) (fun _ _ _ h => h) (Or.inl ⟨by rfl, ?_⟩) hHeld ?_ ?_
    rotate_left
    · rintro w' ⟨s0, s1⟩
      go_simp
      with_reducible rfl
    rotate_left
    · simp only [Act.put, List.setIfInBounds_toArray, List.set_cons_zero, List.set_cons_succ, i64_w, i32_w]
      rfl
    refine one_ (i := 5) (N := some 11) #[true, true, true, true, true, true, false, false, false, false, false] rfl rfl (one_of HT_.out (by kernel_rfl)) (by decide) (fun K hK => ?_)
    refine goes_ Try.func128 (by kernel_rfl) rfl #[.slice (some ⟨w.heap.size + 1 + 1, 0, none⟩) 1 1, .int .i64 l0_1.length] (by rfl) rfl rfl (by (try simp only [List.map_toArray, List.map_cons, List.map_nil]); first | done | rfl | (simp only [List.length_drop, List.length_take]; rfl)) ?_
    refine (hRepeat.calls (some ⟨w.heap.size + 1 + 1, 0, none⟩) 1 [1] l0_1.length (List.replicate l0_1.length 1) W0.drew ⟨rfl, by simp, fun _ => ⟨_, rfl, fun j p hj => ⟨[.int .u8 p], rfl, rfl, fun i u hu => ?_⟩⟩⟩ (Nat.le_refl _) (by unfold hRepeat.f; rw [if_pos ⟨rfl, by omega, by have := HL.out; omega⟩]; rfl)).mono ?_
    · have hj0 : j = 0 := by
        have := (List.getElem?_eq_some_iff.1 hj).1
        simpa using this
      have hi0 : i = 0 := by
        have := (List.getElem?_eq_some_iff.1 hu).1
        simpa using this
      subst hj0 hi0
      have hj : 1 = p := by simpa using hj
      have hu : Value.int .u8 p = u := by simpa using hu
      subst hj hu
      rw [add_plain]
      exact (blk_cell (blk_drew HA0.out) 0).trans rfl
    rintro e w1 ⟨v1, rfl, ho1, hb1⟩
    have HB1 := Aside0.mk (below_step (below_drew1 (Below.refl W0.heap.size W0)) hb1)
    obtain ⟨A1, c1, e1, hc1, hr1⟩ := Kd.R_reads ho1
    subst e1
    have HC1' := Aside0.mk hc1
    have HR1' := Aside0.mk hr1
    refine ⟨_, rfl, ?_⟩
    clear ho1 hb1 hc1 hr1
    refine hK.out _ _ (by exact HSS.out _ HB1.out) (fun hHeld => ?_)
    clear hK K
    refine norm_ (a' := ?_) ?_ ?_
    rotate_left
    · show Act.put _ (some 11) _ = _
      simp only [Act.put, List.setIfInBounds_toArray, List.set_cons_zero, List.set_cons_succ, i64_w, i32_w]
      rfl
    refine one_ (i := 6) (N := some 12) #[true, true, true, true, true, true, true, false, false, false, false] rfl rfl (one_of HT_.out (by kernel_rfl)) (by decide) (fun K hK => ?_)
    refine goes_ Try.func49 (by kernel_rfl) rfl #[.agg #[.slice A0_0 l0_0.length c0_0, .slice A0_1 l0_1.length c0_1], .slice A1 (List.replicate l0_1.length (1 : Int)).length c1] (by rfl) rfl rfl (by (try simp only [List.map_toArray, List.map_cons, List.map_nil]); first | done | rfl | (simp only [List.length_drop, List.length_take]; rfl)) ?_
    refine (hCrash.calls A0_0 c0_0 l0_0 A0_1 c0_1 l0_1 A1 c1 (List.replicate l0_1.length 1) r1 r2 r3 w1 (HBx.out _ (below_step HB0.out HB1.out)).1 HC0.out (HBx.out _ (below_step HB0.out HB1.out)).2 HC1.out HR1'.out HC1'.out (by unfold hCrash.f; rw [← H.out]; rfl)).mono ?_
    rintro e w2 ⟨v1, v2, rfl, ho1, ho2, hb2⟩
    refine ⟨_, rfl, ?_⟩
    have HB2 := Aside0.mk (below_step HB1.out hb2)
    have HO1 := Aside0.mk (Kd.S_lower ho1 (below_size (below_step HB0.out HB1.out)))
    have HO2 := Aside0.mk (Kd.S_lower ho2 (below_size (below_step HB0.out HB1.out)))
    obtain ⟨X1, d1, e1⟩ := Kd.S_slice ho1
    subst e1
    obtain ⟨X2, d2, e2⟩ := Kd.S_slice ho2
    subst e2
    clear ho1 ho2 hb2
    refine hK.out _ _ (by exact HSS.out _ HB2.out) (fun hHeld => ?_)
    clear hK K
    refine norm_ (a' := ?_) ?_ ?_
    rotate_left
    · show Act.put _ (some 12) _ = _
      simp only [Act.put, List.setIfInBounds_toArray, List.set_cons_zero, List.set_cons_succ, i64_w, i32_w]
      rfl
    refine pure_ (i := 7) (N := some 13) (v := ?_) (a' := ?_) #[true, true, true, true, true, true, true, true, false, false, false] rfl rfl (any_of HT_.out (by kernel_rfl)) (fun _ _ _ h => h) (Or.inl ⟨by rfl, ?_⟩) ?_ ?_
    rotate_left
    · intro w'
      go_simp
      with_reducible rfl
    rotate_left
    · simp only [Act.put, List.setIfInBounds_toArray, List.set_cons_zero, List.set_cons_succ, i64_w, i32_w]
      rfl
    refine pure_ (i := 8) (N := some 14) (v := ?_) (a' := ?_) #[true, true, true, true, true, true, true, true, true, false, false] rfl rfl (any_of HT_.out (by kernel_rfl)) (fun _ _ _ h => h) (Or.inl ⟨by rfl, ?_⟩) ?_ ?_
    rotate_left
    · intro w'
      go_simp
      with_reducible rfl
    rotate_left
    · simp only [Act.put, List.setIfInBounds_toArray, List.set_cons_zero, List.set_cons_succ, i64_w, i32_w]
      rfl
    have HZ2 := Aside0.mk (blk_below HZ0.out HB2.out)
    have hy0 : w2.cell? ⟨w.heap.size + 1, 0, none⟩ = some (.slice none 0 0) := (blk_cell HZ2.out 0).trans rfl
    have hy1 : w2.cell? ⟨w.heap.size + 1, 1, none⟩ = some (.slice none 0 0) := (blk_cell HZ2.out 1).trans rfl
    have hf0 := blk_frozen HZ2.out 0
    have hf1 := blk_frozen HZ2.out 1
    refine last_ (i := 9) (N := none) #[true, true, true, true, true, true, true, true, true, true, false] rfl rfl (one_of HT_.out (by kernel_rfl)) (by decide) (fun K hK => ?_)
    refine skip_ (w1 := ?_) (by rfl) rfl ?_ ?_
    rotate_left
    · go_simp
      rfl
    refine hK.out _ _ ?_
    refine pure_ (i := 10) (N := some 3) (v := ?_) (a' := ?_) #[true, true, true, true, true, true, true, true, true, true, true] rfl rfl (any_of HT_.out (by kernel_rfl)) (fun _ _ _ h => h) (Or.inl ⟨by rfl, ?_⟩) ?_ ?_
    rotate_left
    · intro w'
      go_simp
      with_reducible rfl
    rotate_left
    · simp only [Act.put, List.setIfInBounds_toArray, List.set_cons_zero, List.set_cons_succ, i64_w, i32_w]
      rfl
    refine done_ (done_of HT_.out (by kernel_rfl)) ?_
    have hr1 := blk_put (cs := #[.slice none 0 0, .slice none 0 0]) HZ2.out 0 (.slice X1 r1.length d1) rfl
    have hr2 := blk_put (cs := #[.slice X1 r1.length d1, .slice none 0 0]) hr1 1 (.slice X2 r2.length d2) rfl
    have n52 : ∀ q, q ∈ 52 :: k52.E → q ≠ 25 := by decide
    have n65 : ∀ q, q ∈ 65 :: k65.E → q ≠ 25 := by decide
    try go_wp2
    refine bodyPost_ret (results_ct rfl _ _ (w.heap.size + 1) 25 #[.slice X1 r1.length d1, .slice X2 r2.length d2] (0, 0) _ rfl hr2 Try.underlying25 rfl (by kernel_rfl)) rfl ?_
    exact ⟨_, _, rfl, Kd.S_set (Kd.S_set HO1.out HZ2.out n52 _ _) hr1 n52 _ _, Kd.S_set (Kd.S_set HO2.out HZ2.out n65 _ _) hr1 n65 _ _, below_set (below_set (below_step HB0.out HB2.out) (Nat.le_succ _)) (Nat.le_succ _)⟩
  · rw [if_neg hl] at h
    cases h
end Go.Proofs.Ytjlohdbkjoofcaa.P
end
section
set_option linter.unusedVariables false
set_option linter.unusedSimpArgs false
namespace Go.Proofs.Ytjlohdbkjoofcaa.P
open Go.RowKit Go.Proofs.PrintWords Go.Proofs.PrintLast Go.Proofs.PrintMore
attribute [local go_sem] max2_int min2_int max_two min_two max_three min_three max_four min_four
set_option maxHeartbeats 16000000 in
set_option maxRecDepth 100000 in
theorem law8.calls (A0_0 : Option Addr) (c0_0 : Nat) (l0_0 : List S52) (A0_1 : Option Addr) (c0_1 : Nat) (l0_1 : List S65) (a1 a2 : Int) (A3 : Option Addr) (c3 : Nat) (l3 : List Int) (w : World) (hr0_0 : Kd.C k52 w A0_0 l0_0.length l0_0) (hc0_0 : l0_0.length ≤ c0_0) (hr0_1 : Kd.C k65 w A0_1 l0_1.length l0_1) (hc0_1 : l0_1.length ≤ c0_1) (hr3 : Kd.C (Kd.int .u8) w A3 l3.length l3) (hc3 : l3.length ≤ c3) :
    Calls Try.prog 8 #[.agg #[.slice A0_0 l0_0.length c0_0, .slice A0_1 l0_1.length c0_1], .int .i64 a1, .int .i64 a2, .slice A3 l3.length c3] w fun e w' => e = .returned (.bool true) ∧ Below w.heap.size w w' := by
  have hu25 := Try.underlying25
  have HR0 := Aside0.mk hr0_0
  have HR1 := Aside0.mk hr0_1
  have HR3 := Aside0.mk hr3
  have HC0 := Aside0.mk hc0_0
  have HC1 := Aside0.mk hc0_1
  have HC3 := Aside0.mk hc3
  clear hr0_0 hr0_1 hr3 hc0_0 hc0_1 hc3
  obtain ⟨gb, hg, hgb⟩ := great_is l0_0 l0_1 60 (by omega) 400 (by omega)
  have HG := Aside0.mk hg
  clear hg
  cases gb with
  | true =>
    clear hgb
    have TK1 := Aside0.mk (show 0 = 0 from rfl)
    go_enter Try.func8, Try.ntmps8
    go_wp2_with (first
      | (go_at_call 45; clear TK1; have TK2 := Aside0.mk (show 0 = 0 from rfl); refine (hAlive.calls true _ rfl).mono ?_; rintro e w1 ⟨rfl, hb_⟩; have HS1 := Aside0.mk hb_; clear hb_; have hcd0 : w1.cell? ⟨w.heap.size, 0, none⟩ = some (.slice A0_0 l0_0.length c0_0) := (blk_cell (blk_below (heap_alloc_new w (.cells #[.slice A0_0 l0_0.length c0_0, .slice A0_1 l0_1.length c0_1] 25)) (below_step (Below.refl _ _) HS1.out)) 0).trans rfl; have hcd1 : w1.cell? ⟨w.heap.size, 1, none⟩ = some (.slice A0_1 l0_1.length c0_1) := (blk_cell (blk_below (heap_alloc_new w (.cells #[.slice A0_0 l0_0.length c0_0, .slice A0_1 l0_1.length c0_1] 25)) (below_step (Below.refl _ _) HS1.out)) 1).trans rfl; have hld : w.heap.size < w1.heap.size := blk_lt (blk_below (heap_alloc_new w (.cells #[.slice A0_0 l0_0.length c0_0, .slice A0_1 l0_1.length c0_1] 25)) (below_step (Below.refl _ _) HS1.out)))
      | (go_at_call 30; clear TK2; have TK3 := Aside0.mk (show 0 = 0 from rfl); refine (catamaranref05_Great.calls 400 A0_0 c0_0 l0_0 A0_1 c0_1 l0_1 60 _ _ (Kd.C_below HR0.out (below_step (below_alloc (Below.refl _ _) (.cells #[.slice A0_0 l0_0.length c0_0, .slice A0_1 l0_1.length c0_1] 25)) HS1.out)) HC0.out (Kd.C_below HR1.out (below_step (below_alloc (Below.refl _ _) (.cells #[.slice A0_0 l0_0.length c0_0, .slice A0_1 l0_1.length c0_1] 25)) HS1.out)) HC1.out HG.out).mono ?_; rintro e w2 ⟨rfl, hb_⟩; have HS2 := Aside0.mk hb_; clear hcd0 hcd1 hld; clear hb_; have hcd0 : w2.cell? ⟨w.heap.size, 0, none⟩ = some (.slice A0_0 l0_0.length c0_0) := (blk_cell (blk_below (heap_alloc_new w (.cells #[.slice A0_0 l0_0.length c0_0, .slice A0_1 l0_1.length c0_1] 25)) (below_step (below_step (Below.refl _ _) HS1.out) HS2.out)) 0).trans rfl; have hcd1 : w2.cell? ⟨w.heap.size, 1, none⟩ = some (.slice A0_1 l0_1.length c0_1) := (blk_cell (blk_below (heap_alloc_new w (.cells #[.slice A0_0 l0_0.length c0_0, .slice A0_1 l0_1.length c0_1] 25)) (below_step (below_step (Below.refl _ _) HS1.out) HS2.out)) 1).trans rfl; have hld : w.heap.size < w2.heap.size := blk_lt (blk_below (heap_alloc_new w (.cells #[.slice A0_0 l0_0.length c0_0, .slice A0_1 l0_1.length c0_1] 25)) (below_step (below_step (Below.refl _ _) HS1.out) HS2.out))))
    go_ret
    exact ⟨rfl, (below_step (below_step (below_alloc (Below.refl _ _) (.cells #[.slice A0_0 l0_0.length c0_0, .slice A0_1 l0_1.length c0_1] 25)) HS1.out) HS2.out)⟩
  | false =>
  obtain ⟨n0, n1, n2, n3⟩ := hgb rfl
  have HN1 := Aside0.mk n1
  clear hgb n0 n1 n2 n3
  by_cases h100 : 100 < l3.length
  · have h100b : decide ((l3.length : Int) > 100) = true := decide_eq_true (by omega)
    clear h100
    have TK1 := Aside0.mk (show 0 = 0 from rfl)
    go_enter Try.func8, Try.ntmps8
    go_wp2_with (first
      | (go_at_call 45; clear TK1; have TK2 := Aside0.mk (show 0 = 0 from rfl); refine (hAlive.calls true _ rfl).mono ?_; rintro e w1 ⟨rfl, hb_⟩; have HS1 := Aside0.mk hb_; clear hb_; have hcd0 : w1.cell? ⟨w.heap.size, 0, none⟩ = some (.slice A0_0 l0_0.length c0_0) := (blk_cell (blk_below (heap_alloc_new w (.cells #[.slice A0_0 l0_0.length c0_0, .slice A0_1 l0_1.length c0_1] 25)) (below_step (Below.refl _ _) HS1.out)) 0).trans rfl; have hcd1 : w1.cell? ⟨w.heap.size, 1, none⟩ = some (.slice A0_1 l0_1.length c0_1) := (blk_cell (blk_below (heap_alloc_new w (.cells #[.slice A0_0 l0_0.length c0_0, .slice A0_1 l0_1.length c0_1] 25)) (below_step (Below.refl _ _) HS1.out)) 1).trans rfl; have hld : w.heap.size < w1.heap.size := blk_lt (blk_below (heap_alloc_new w (.cells #[.slice A0_0 l0_0.length c0_0, .slice A0_1 l0_1.length c0_1] 25)) (below_step (Below.refl _ _) HS1.out)))
      | (go_at_call 30; clear TK2; have TK3 := Aside0.mk (show 0 = 0 from rfl); refine (catamaranref05_Great.calls 400 A0_0 c0_0 l0_0 A0_1 c0_1 l0_1 60 _ _ (Kd.C_below HR0.out (below_step (below_alloc (Below.refl _ _) (.cells #[.slice A0_0 l0_0.length c0_0, .slice A0_1 l0_1.length c0_1] 25)) HS1.out)) HC0.out (Kd.C_below HR1.out (below_step (below_alloc (Below.refl _ _) (.cells #[.slice A0_0 l0_0.length c0_0, .slice A0_1 l0_1.length c0_1] 25)) HS1.out)) HC1.out HG.out).mono ?_; rintro e w2 ⟨rfl, hb_⟩; have HS2 := Aside0.mk hb_; clear hcd0 hcd1 hld; clear hb_; have hcd0 : w2.cell? ⟨w.heap.size, 0, none⟩ = some (.slice A0_0 l0_0.length c0_0) := (blk_cell (blk_below (heap_alloc_new w (.cells #[.slice A0_0 l0_0.length c0_0, .slice A0_1 l0_1.length c0_1] 25)) (below_step (below_step (Below.refl _ _) HS1.out) HS2.out)) 0).trans rfl; have hcd1 : w2.cell? ⟨w.heap.size, 1, none⟩ = some (.slice A0_1 l0_1.length c0_1) := (blk_cell (blk_below (heap_alloc_new w (.cells #[.slice A0_0 l0_0.length c0_0, .slice A0_1 l0_1.length c0_1] 25)) (below_step (below_step (Below.refl _ _) HS1.out) HS2.out)) 1).trans rfl; have hld : w.heap.size < w2.heap.size := blk_lt (blk_below (heap_alloc_new w (.cells #[.slice A0_0 l0_0.length c0_0, .slice A0_1 l0_1.length c0_1] 25)) (below_step (below_step (Below.refl _ _) HS1.out) HS2.out))))
    go_ret
    exact ⟨rfl, (below_step (below_step (below_alloc (Below.refl _ _) (.cells #[.slice A0_0 l0_0.length c0_0, .slice A0_1 l0_1.length c0_1] 25)) HS1.out) HS2.out)⟩
  have h100b : decide ((l3.length : Int) > 100) = false := decide_eq_false (by omega)
  clear h100
  by_cases he : (dWrite l0_0 l0_1 a1 l3).2.2 = 0
  rotate_left
  · obtain ⟨⟨x0, x1, e0⟩, hx⟩ : ∃ p, dWrite l0_0 l0_1 a1 l3 = p := ⟨_, rfl⟩
    rw [hx] at he
    obtain ⟨rfl, rfl⟩ := dWrite_bad hx he
    have hb1 : (e0 == 0) = false := beq_eq_false_iff_ne.2 he
    have hb2 : (e0 != 0) = true := bne_iff_ne.2 he
    have FX := Aside0.mk (show hWrite.f l0_0 l0_1 a1 l3 = some ([], [], e0) by unfold hWrite.f; rw [hx])
    clear hx he
    have TK1 := Aside0.mk (show 0 = 0 from rfl)
    go_enter Try.func8, Try.ntmps8
    go_wp2_with (first
      | (go_at_call 45; clear TK1; have TK2 := Aside0.mk (show 0 = 0 from rfl); refine (hAlive.calls true _ rfl).mono ?_; rintro e w1 ⟨rfl, hb_⟩; have HS1 := Aside0.mk hb_; clear hb_; have hcd0 : w1.cell? ⟨w.heap.size, 0, none⟩ = some (.slice A0_0 l0_0.length c0_0) := (blk_cell (blk_below (heap_alloc_new w (.cells #[.slice A0_0 l0_0.length c0_0, .slice A0_1 l0_1.length c0_1] 25)) (below_step (Below.refl _ _) HS1.out)) 0).trans rfl; have hcd1 : w1.cell? ⟨w.heap.size, 1, none⟩ = some (.slice A0_1 l0_1.length c0_1) := (blk_cell (blk_below (heap_alloc_new w (.cells #[.slice A0_0 l0_0.length c0_0, .slice A0_1 l0_1.length c0_1] 25)) (below_step (Below.refl _ _) HS1.out)) 1).trans rfl; have hld : w.heap.size < w1.heap.size := blk_lt (blk_below (heap_alloc_new w (.cells #[.slice A0_0 l0_0.length c0_0, .slice A0_1 l0_1.length c0_1] 25)) (below_step (Below.refl _ _) HS1.out)))
      | (go_at_call 30; clear TK2; have TK3 := Aside0.mk (show 0 = 0 from rfl); refine (catamaranref05_Great.calls 400 A0_0 c0_0 l0_0 A0_1 c0_1 l0_1 60 _ _ (Kd.C_below HR0.out (below_step (below_alloc (Below.refl _ _) (.cells #[.slice A0_0 l0_0.length c0_0, .slice A0_1 l0_1.length c0_1] 25)) HS1.out)) HC0.out (Kd.C_below HR1.out (below_step (below_alloc (Below.refl _ _) (.cells #[.slice A0_0 l0_0.length c0_0, .slice A0_1 l0_1.length c0_1] 25)) HS1.out)) HC1.out HG.out).mono ?_; rintro e w2 ⟨rfl, hb_⟩; have HS2 := Aside0.mk hb_; clear hcd0 hcd1 hld; clear hb_; have hcd0 : w2.cell? ⟨w.heap.size, 0, none⟩ = some (.slice A0_0 l0_0.length c0_0) := (blk_cell (blk_below (heap_alloc_new w (.cells #[.slice A0_0 l0_0.length c0_0, .slice A0_1 l0_1.length c0_1] 25)) (below_step (below_step (Below.refl _ _) HS1.out) HS2.out)) 0).trans rfl; have hcd1 : w2.cell? ⟨w.heap.size, 1, none⟩ = some (.slice A0_1 l0_1.length c0_1) := (blk_cell (blk_below (heap_alloc_new w (.cells #[.slice A0_0 l0_0.length c0_0, .slice A0_1 l0_1.length c0_1] 25)) (below_step (below_step (Below.refl _ _) HS1.out) HS2.out)) 1).trans rfl; have hld : w.heap.size < w2.heap.size := blk_lt (blk_below (heap_alloc_new w (.cells #[.slice A0_0 l0_0.length c0_0, .slice A0_1 l0_1.length c0_1] 25)) (below_step (below_step (Below.refl _ _) HS1.out) HS2.out)))
      | (go_at_call 32; clear TK3; have TK4 := Aside0.mk (show 0 = 0 from rfl); refine (hWrite.calls A0_0 c0_0 l0_0 A0_1 c0_1 l0_1 a1 A3 c3 l3 [] [] e0 _ (Kd.C_below HR0.out (below_step (below_step (below_alloc (Below.refl _ _) (.cells #[.slice A0_0 l0_0.length c0_0, .slice A0_1 l0_1.length c0_1] 25)) HS1.out) HS2.out)) HC0.out (Kd.C_below HR1.out (below_step (below_step (below_alloc (Below.refl _ _) (.cells #[.slice A0_0 l0_0.length c0_0, .slice A0_1 l0_1.length c0_1] 25)) HS1.out) HS2.out)) HC1.out (Kd.C_below HR3.out (below_step (below_step (below_alloc (Below.refl _ _) (.cells #[.slice A0_0 l0_0.length c0_0, .slice A0_1 l0_1.length c0_1] 25)) HS1.out) HS2.out)) HC3.out FX.out).mono ?_; rintro e w3 ⟨v1, v2, rfl, ho1, ho2, hb_⟩; obtain ⟨Ax0, cx0, e_x0⟩ := Kd.S_slice ho1; subst e_x0; obtain ⟨Ax1, cx1, e_x1⟩ := Kd.S_slice ho2; subst e_x1; have HS3 := Aside0.mk hb_; have Hx0 := Aside0.mk ho1; have Hx1 := Aside0.mk ho2; clear hcd0 hcd1 hld; clear hb_ ho1 ho2))
    go_ret
    exact ⟨rfl, (below_alloc (below_step (below_step (below_step (below_alloc (Below.refl _ _) (.cells #[.slice A0_0 l0_0.length c0_0, .slice A0_1 l0_1.length c0_1] 25)) HS1.out) HS2.out) HS3.out) (.cells #[.slice Ax0 ([] : List S52).length cx0, .slice Ax1 ([] : List S65).length cx1] 25))⟩
  · obtain ⟨⟨x0, x1, e0⟩, hx⟩ : ∃ p, dWrite l0_0 l0_1 a1 l3 = p := ⟨_, rfl⟩
    rw [hx] at he
    obtain rfl : e0 = 0 := he
    obtain ⟨hok, k0, k1, h32, h64, rfl, hx1⟩ := dWrite_ok hx
    have hok2 := okDisk_snoc hok k0 k1 h32 h64
    have FX := Aside0.mk (show hWrite.f x0 l0_1 a1 l3 = some (x0, x1, 0) by unfold hWrite.f; rw [hx])
    have FG := Aside0.mk (show hRead.f x0 x1 a1 = some (l3, 0) by unfold hRead.f; rw [hx1, dRead_snoc_self hok2 k0 k1])
    obtain ⟨⟨rp, ep⟩, hp⟩ : ∃ p, dRead x0 l0_1 a2 = p := ⟨_, rfl⟩
    obtain ⟨⟨rq, eq_⟩, hq⟩ : ∃ p, dRead x0 x1 a2 = p := ⟨_, rfl⟩
    have FP := Aside0.mk (show hRead.f x0 l0_1 a2 = some (rp, ep) by unfold hRead.f; rw [hp])
    have FQ := Aside0.mk (show hRead.f x0 x1 a2 = some (rq, eq_) by unfold hRead.f; rw [hq])
    rw [← hx1] at hok2
    obtain ⟨y0, hy0⟩ : ∃ y0, dBehind x0 x1 (List.replicate x1.length 1) = y0 := ⟨_, rfl⟩
    have FY := Aside0.mk (show hFlush.f x0 x1 = some (y0, [], 0) by unfold hFlush.f dFlush; rw [if_pos (by have := (okDisk_len hok2).2.2; omega), dCrash_of _ hok2, hy0])
    have FRr := Aside0.mk (show hRead.f y0 [] a2 = some (rq, eq_) by unfold hRead.f; rw [← hy0, ← dRead_flush hok2, hq])
    have FW := Aside0.mk (show hWaits.f x0 x1 a1 = some (true, 0) by unfold hWaits.f; rw [hx1, dWaits_snoc (hx1 ▸ hok2) k0 k1])
    have HE := Aside0.mk (show a2 = a1 ∨ a2 ≠ a1 ∧ rq = rp ∧ eq_ = ep by
      by_cases h : a2 = a1
      · exact .inl h
      · have := dRead_snoc_other (b := l3) (hok.trans (hx1 ▸ hok2).symm) (fun e => h e.symm)
        rw [← hx1, hp, hq] at this
        injection this with e1 e2
        exact .inr ⟨h, e1.symm, e2.symm⟩)
    clear hx hok k0 k1 h32 h64 hx1 hok2 hp hq hy0
    rcases HE.out with h | ⟨h, rfl, rfl⟩
    · have hb1 : (a2 == a1) = true := beq_iff_eq.2 h
      clear h HE
      have TK1 := Aside0.mk (show 0 = 0 from rfl)
      go_enter Try.func8, Try.ntmps8
      go_wp2_with (first
        | (go_at_call 45; clear TK1; have TK2 := Aside0.mk (show 0 = 0 from rfl); refine (hAlive.calls true _ rfl).mono ?_; rintro e w1 ⟨rfl, hb_⟩; have HS1 := Aside0.mk hb_; clear hb_; have hcd0 : w1.cell? ⟨w.heap.size, 0, none⟩ = some (.slice A0_0 x0.length c0_0) := (blk_cell (blk_below (heap_alloc_new w (.cells #[.slice A0_0 x0.length c0_0, .slice A0_1 l0_1.length c0_1] 25)) (below_step (Below.refl _ _) HS1.out)) 0).trans rfl; have hcd1 : w1.cell? ⟨w.heap.size, 1, none⟩ = some (.slice A0_1 l0_1.length c0_1) := (blk_cell (blk_below (heap_alloc_new w (.cells #[.slice A0_0 x0.length c0_0, .slice A0_1 l0_1.length c0_1] 25)) (below_step (Below.refl _ _) HS1.out)) 1).trans rfl; have hld : w.heap.size < w1.heap.size := blk_lt (blk_below (heap_alloc_new w (.cells #[.slice A0_0 x0.length c0_0, .slice A0_1 l0_1.length c0_1] 25)) (below_step (Below.refl _ _) HS1.out)))
        | (go_at_call 30; clear TK2; have TK3 := Aside0.mk (show 0 = 0 from rfl); refine (catamaranref05_Great.calls 400 A0_0 c0_0 x0 A0_1 c0_1 l0_1 60 _ _ (Kd.C_below HR0.out (below_step (below_alloc (Below.refl _ _) (.cells #[.slice A0_0 x0.length c0_0, .slice A0_1 l0_1.length c0_1] 25)) HS1.out)) HC0.out (Kd.C_below HR1.out (below_step (below_alloc (Below.refl _ _) (.cells #[.slice A0_0 x0.length c0_0, .slice A0_1 l0_1.length c0_1] 25)) HS1.out)) HC1.out HG.out).mono ?_; rintro e w2 ⟨rfl, hb_⟩; have HS2 := Aside0.mk hb_; clear hcd0 hcd1 hld; clear hb_; have hcd0 : w2.cell? ⟨w.heap.size, 0, none⟩ = some (.slice A0_0 x0.length c0_0) := (blk_cell (blk_below (heap_alloc_new w (.cells #[.slice A0_0 x0.length c0_0, .slice A0_1 l0_1.length c0_1] 25)) (below_step (below_step (Below.refl _ _) HS1.out) HS2.out)) 0).trans rfl; have hcd1 : w2.cell? ⟨w.heap.size, 1, none⟩ = some (.slice A0_1 l0_1.length c0_1) := (blk_cell (blk_below (heap_alloc_new w (.cells #[.slice A0_0 x0.length c0_0, .slice A0_1 l0_1.length c0_1] 25)) (below_step (below_step (Below.refl _ _) HS1.out) HS2.out)) 1).trans rfl; have hld : w.heap.size < w2.heap.size := blk_lt (blk_below (heap_alloc_new w (.cells #[.slice A0_0 x0.length c0_0, .slice A0_1 l0_1.length c0_1] 25)) (below_step (below_step (Below.refl _ _) HS1.out) HS2.out)))
        | (go_at_call 32; clear TK3; have TK4 := Aside0.mk (show 0 = 0 from rfl); refine (hWrite.calls A0_0 c0_0 x0 A0_1 c0_1 l0_1 a1 A3 c3 l3 x0 x1 0 _ (Kd.C_below HR0.out (below_step (below_step (below_alloc (Below.refl _ _) (.cells #[.slice A0_0 x0.length c0_0, .slice A0_1 l0_1.length c0_1] 25)) HS1.out) HS2.out)) HC0.out (Kd.C_below HR1.out (below_step (below_step (below_alloc (Below.refl _ _) (.cells #[.slice A0_0 x0.length c0_0, .slice A0_1 l0_1.length c0_1] 25)) HS1.out) HS2.out)) HC1.out (Kd.C_below HR3.out (below_step (below_step (below_alloc (Below.refl _ _) (.cells #[.slice A0_0 x0.length c0_0, .slice A0_1 l0_1.length c0_1] 25)) HS1.out) HS2.out)) HC3.out FX.out).mono ?_; rintro e w3 ⟨v1, v2, rfl, ho1, ho2, hb_⟩; obtain ⟨Ax0, cx0, e_x0⟩ := Kd.S_slice ho1; subst e_x0; obtain ⟨Ax1, cx1, e_x1⟩ := Kd.S_slice ho2; subst e_x1; have HS3 := Aside0.mk hb_; have Hx0 := Aside0.mk ho1; have Hx1 := Aside0.mk ho2; clear hcd0 hcd1 hld; clear hb_ ho1 ho2; have hcd0 : w3.cell? ⟨w.heap.size, 0, none⟩ = some (.slice A0_0 x0.length c0_0) := (blk_cell (blk_below (heap_alloc_new w (.cells #[.slice A0_0 x0.length c0_0, .slice A0_1 l0_1.length c0_1] 25)) (below_step (below_step (below_step (Below.refl _ _) HS1.out) HS2.out) HS3.out)) 0).trans rfl; have hcd1 : w3.cell? ⟨w.heap.size, 1, none⟩ = some (.slice A0_1 l0_1.length c0_1) := (blk_cell (blk_below (heap_alloc_new w (.cells #[.slice A0_0 x0.length c0_0, .slice A0_1 l0_1.length c0_1] 25)) (below_step (below_step (below_step (Below.refl _ _) HS1.out) HS2.out) HS3.out)) 1).trans rfl; have hld : w.heap.size < w3.heap.size := blk_lt (blk_below (heap_alloc_new w (.cells #[.slice A0_0 x0.length c0_0, .slice A0_1 l0_1.length c0_1] 25)) (below_step (below_step (below_step (Below.refl _ _) HS1.out) HS2.out) HS3.out)))
        | (go_at_call 34; clear TK4; have TK5 := Aside0.mk (show 0 = 0 from rfl); refine (hRead.calls Ax0 cx0 x0 Ax1 cx1 x1 a1 l3 0 _ (Kd.S_reads' (Kd.S_below Hx0.out (below_alloc (Below.refl _ _) (.cells #[.slice Ax0 x0.length cx0, .slice Ax1 x1.length cx1] 25)))).2.2 (Kd.S_reads' (Kd.S_below Hx0.out (below_alloc (Below.refl _ _) (.cells #[.slice Ax0 x0.length cx0, .slice Ax1 x1.length cx1] 25)))).2.1 (Kd.S_reads' (Kd.S_below Hx1.out (below_alloc (Below.refl _ _) (.cells #[.slice Ax0 x0.length cx0, .slice Ax1 x1.length cx1] 25)))).2.2 (Kd.S_reads' (Kd.S_below Hx1.out (below_alloc (Below.refl _ _) (.cells #[.slice Ax0 x0.length cx0, .slice Ax1 x1.length cx1] 25)))).2.1 FG.out).mono ?_; rintro e w4 ⟨v1, rfl, ho1, hb_⟩; obtain ⟨Ag, cg, e_g⟩ := Kd.R_slice ho1; subst e_g; have HS4 := Aside0.mk hb_; have Hg := Aside0.mk ho1; clear hcd0 hcd1 hld; clear hb_ ho1; have hcd0 : w4.cell? ⟨w.heap.size, 0, none⟩ = some (.slice A0_0 x0.length c0_0) := (blk_cell (blk_below (heap_alloc_new w (.cells #[.slice A0_0 x0.length c0_0, .slice A0_1 l0_1.length c0_1] 25)) (below_step (below_alloc (below_step (below_step (below_step (Below.refl _ _) HS1.out) HS2.out) HS3.out) (.cells #[.slice Ax0 x0.length cx0, .slice Ax1 x1.length cx1] 25)) HS4.out)) 0).trans rfl; have hcd1 : w4.cell? ⟨w.heap.size, 1, none⟩ = some (.slice A0_1 l0_1.length c0_1) := (blk_cell (blk_below (heap_alloc_new w (.cells #[.slice A0_0 x0.length c0_0, .slice A0_1 l0_1.length c0_1] 25)) (below_step (below_alloc (below_step (below_step (below_step (Below.refl _ _) HS1.out) HS2.out) HS3.out) (.cells #[.slice Ax0 x0.length cx0, .slice Ax1 x1.length cx1] 25)) HS4.out)) 1).trans rfl; have hld : w.heap.size < w4.heap.size := blk_lt (blk_below (heap_alloc_new w (.cells #[.slice A0_0 x0.length c0_0, .slice A0_1 l0_1.length c0_1] 25)) (below_step (below_alloc (below_step (below_step (below_step (Below.refl _ _) HS1.out) HS2.out) HS3.out) (.cells #[.slice Ax0 x0.length cx0, .slice Ax1 x1.length cx1] 25)) HS4.out)); have hcx0 : w4.cell? ⟨w3.heap.size, 0, none⟩ = some (.slice Ax0 x0.length cx0) := (blk_cell (blk_below (heap_alloc_new w3 (.cells #[.slice Ax0 x0.length cx0, .slice Ax1 x1.length cx1] 25)) (below_step (Below.refl _ _) HS4.out)) 0).trans rfl; have hcx1 : w4.cell? ⟨w3.heap.size, 1, none⟩ = some (.slice Ax1 x1.length cx1) := (blk_cell (blk_below (heap_alloc_new w3 (.cells #[.slice Ax0 x0.length cx0, .slice Ax1 x1.length cx1] 25)) (below_step (Below.refl _ _) HS4.out)) 1).trans rfl; have hlx : w3.heap.size < w4.heap.size := blk_lt (blk_below (heap_alloc_new w3 (.cells #[.slice Ax0 x0.length cx0, .slice Ax1 x1.length cx1] 25)) (below_step (Below.refl _ _) HS4.out)))
        | (go_at_call 34; clear TK5; have TK6 := Aside0.mk (show 0 = 0 from rfl); refine (hRead.calls A0_0 c0_0 x0 A0_1 c0_1 l0_1 a2 rp ep _ (Kd.C_below HR0.out (below_step (below_alloc (below_step (below_step (below_step (below_alloc (Below.refl _ _) (.cells #[.slice A0_0 x0.length c0_0, .slice A0_1 l0_1.length c0_1] 25)) HS1.out) HS2.out) HS3.out) (.cells #[.slice Ax0 x0.length cx0, .slice Ax1 x1.length cx1] 25)) HS4.out)) HC0.out (Kd.C_below HR1.out (below_step (below_alloc (below_step (below_step (below_step (below_alloc (Below.refl _ _) (.cells #[.slice A0_0 x0.length c0_0, .slice A0_1 l0_1.length c0_1] 25)) HS1.out) HS2.out) HS3.out) (.cells #[.slice Ax0 x0.length cx0, .slice Ax1 x1.length cx1] 25)) HS4.out)) HC1.out FP.out).mono ?_; rintro e w5 ⟨v1, rfl, ho1, hb_⟩; obtain ⟨Ap, cp, e_p⟩ := Kd.R_slice ho1; subst e_p; have HS5 := Aside0.mk hb_; have Hp := Aside0.mk ho1; clear hcd0 hcd1 hcx0 hcx1 hld hlx; clear hb_ ho1; have hcd0 : w5.cell? ⟨w.heap.size, 0, none⟩ = some (.slice A0_0 x0.length c0_0) := (blk_cell (blk_below (heap_alloc_new w (.cells #[.slice A0_0 x0.length c0_0, .slice A0_1 l0_1.length c0_1] 25)) (below_step (below_step (below_alloc (below_step (below_step (below_step (Below.refl _ _) HS1.out) HS2.out) HS3.out) (.cells #[.slice Ax0 x0.length cx0, .slice Ax1 x1.length cx1] 25)) HS4.out) HS5.out)) 0).trans rfl; have hcd1 : w5.cell? ⟨w.heap.size, 1, none⟩ = some (.slice A0_1 l0_1.length c0_1) := (blk_cell (blk_below (heap_alloc_new w (.cells #[.slice A0_0 x0.length c0_0, .slice A0_1 l0_1.length c0_1] 25)) (below_step (below_step (below_alloc (below_step (below_step (below_step (Below.refl _ _) HS1.out) HS2.out) HS3.out) (.cells #[.slice Ax0 x0.length cx0, .slice Ax1 x1.length cx1] 25)) HS4.out) HS5.out)) 1).trans rfl; have hld : w.heap.size < w5.heap.size := blk_lt (blk_below (heap_alloc_new w (.cells #[.slice A0_0 x0.length c0_0, .slice A0_1 l0_1.length c0_1] 25)) (below_step (below_step (below_alloc (below_step (below_step (below_step (Below.refl _ _) HS1.out) HS2.out) HS3.out) (.cells #[.slice Ax0 x0.length cx0, .slice Ax1 x1.length cx1] 25)) HS4.out) HS5.out)); have hcx0 : w5.cell? ⟨w3.heap.size, 0, none⟩ = some (.slice Ax0 x0.length cx0) := (blk_cell (blk_below (heap_alloc_new w3 (.cells #[.slice Ax0 x0.length cx0, .slice Ax1 x1.length cx1] 25)) (below_step (below_step (Below.refl _ _) HS4.out) HS5.out)) 0).trans rfl; have hcx1 : w5.cell? ⟨w3.heap.size, 1, none⟩ = some (.slice Ax1 x1.length cx1) := (blk_cell (blk_below (heap_alloc_new w3 (.cells #[.slice Ax0 x0.length cx0, .slice Ax1 x1.length cx1] 25)) (below_step (below_step (Below.refl _ _) HS4.out) HS5.out)) 1).trans rfl; have hlx : w3.heap.size < w5.heap.size := blk_lt (blk_below (heap_alloc_new w3 (.cells #[.slice Ax0 x0.length cx0, .slice Ax1 x1.length cx1] 25)) (below_step (below_step (Below.refl _ _) HS4.out) HS5.out)))
        | (go_at_call 34; clear TK6; have TK7 := Aside0.mk (show 0 = 0 from rfl); refine (hRead.calls Ax0 cx0 x0 Ax1 cx1 x1 a2 rq eq_ _ (Kd.S_reads' (Kd.S_below Hx0.out (below_step (below_step (below_alloc (Below.refl _ _) (.cells #[.slice Ax0 x0.length cx0, .slice Ax1 x1.length cx1] 25)) HS4.out) HS5.out))).2.2 (Kd.S_reads' (Kd.S_below Hx0.out (below_step (below_step (below_alloc (Below.refl _ _) (.cells #[.slice Ax0 x0.length cx0, .slice Ax1 x1.length cx1] 25)) HS4.out) HS5.out))).2.1 (Kd.S_reads' (Kd.S_below Hx1.out (below_step (below_step (below_alloc (Below.refl _ _) (.cells #[.slice Ax0 x0.length cx0, .slice Ax1 x1.length cx1] 25)) HS4.out) HS5.out))).2.2 (Kd.S_reads' (Kd.S_below Hx1.out (below_step (below_step (below_alloc (Below.refl _ _) (.cells #[.slice Ax0 x0.length cx0, .slice Ax1 x1.length cx1] 25)) HS4.out) HS5.out))).2.1 FQ.out).mono ?_; rintro e w6 ⟨v1, rfl, ho1, hb_⟩; obtain ⟨Aq, cq, e_q⟩ := Kd.R_slice ho1; subst e_q; have HS6 := Aside0.mk hb_; have Hq := Aside0.mk ho1; clear hcd0 hcd1 hcx0 hcx1 hld hlx; clear hb_ ho1; have hcd0 : w6.cell? ⟨w.heap.size, 0, none⟩ = some (.slice A0_0 x0.length c0_0) := (blk_cell (blk_below (heap_alloc_new w (.cells #[.slice A0_0 x0.length c0_0, .slice A0_1 l0_1.length c0_1] 25)) (below_step (below_step (below_step (below_alloc (below_step (below_step (below_step (Below.refl _ _) HS1.out) HS2.out) HS3.out) (.cells #[.slice Ax0 x0.length cx0, .slice Ax1 x1.length cx1] 25)) HS4.out) HS5.out) HS6.out)) 0).trans rfl; have hcd1 : w6.cell? ⟨w.heap.size, 1, none⟩ = some (.slice A0_1 l0_1.length c0_1) := (blk_cell (blk_below (heap_alloc_new w (.cells #[.slice A0_0 x0.length c0_0, .slice A0_1 l0_1.length c0_1] 25)) (below_step (below_step (below_step (below_alloc (below_step (below_step (below_step (Below.refl _ _) HS1.out) HS2.out) HS3.out) (.cells #[.slice Ax0 x0.length cx0, .slice Ax1 x1.length cx1] 25)) HS4.out) HS5.out) HS6.out)) 1).trans rfl; have hld : w.heap.size < w6.heap.size := blk_lt (blk_below (heap_alloc_new w (.cells #[.slice A0_0 x0.length c0_0, .slice A0_1 l0_1.length c0_1] 25)) (below_step (below_step (below_step (below_alloc (below_step (below_step (below_step (Below.refl _ _) HS1.out) HS2.out) HS3.out) (.cells #[.slice Ax0 x0.length cx0, .slice Ax1 x1.length cx1] 25)) HS4.out) HS5.out) HS6.out)); have hcx0 : w6.cell? ⟨w3.heap.size, 0, none⟩ = some (.slice Ax0 x0.length cx0) := (blk_cell (blk_below (heap_alloc_new w3 (.cells #[.slice Ax0 x0.length cx0, .slice Ax1 x1.length cx1] 25)) (below_step (below_step (below_step (Below.refl _ _) HS4.out) HS5.out) HS6.out)) 0).trans rfl; have hcx1 : w6.cell? ⟨w3.heap.size, 1, none⟩ = some (.slice Ax1 x1.length cx1) := (blk_cell (blk_below (heap_alloc_new w3 (.cells #[.slice Ax0 x0.length cx0, .slice Ax1 x1.length cx1] 25)) (below_step (below_step (below_step (Below.refl _ _) HS4.out) HS5.out) HS6.out)) 1).trans rfl; have hlx : w3.heap.size < w6.heap.size := blk_lt (blk_below (heap_alloc_new w3 (.cells #[.slice Ax0 x0.length cx0, .slice Ax1 x1.length cx1] 25)) (below_step (below_step (below_step (Below.refl _ _) HS4.out) HS5.out) HS6.out)))
        | (go_at_call 47; clear TK7; have TK8 := Aside0.mk (show 0 = 0 from rfl); refine (hFlush.calls Ax0 cx0 x0 Ax1 cx1 x1 y0 [] 0 _ (Kd.S_reads' (Kd.S_below Hx0.out (below_step (below_step (below_step (below_alloc (Below.refl _ _) (.cells #[.slice Ax0 x0.length cx0, .slice Ax1 x1.length cx1] 25)) HS4.out) HS5.out) HS6.out))).2.2 (Kd.S_reads' (Kd.S_below Hx0.out (below_step (below_step (below_step (below_alloc (Below.refl _ _) (.cells #[.slice Ax0 x0.length cx0, .slice Ax1 x1.length cx1] 25)) HS4.out) HS5.out) HS6.out))).2.1 (Kd.S_reads' (Kd.S_below Hx1.out (below_step (below_step (below_step (below_alloc (Below.refl _ _) (.cells #[.slice Ax0 x0.length cx0, .slice Ax1 x1.length cx1] 25)) HS4.out) HS5.out) HS6.out))).2.2 (Kd.S_reads' (Kd.S_below Hx1.out (below_step (below_step (below_step (below_alloc (Below.refl _ _) (.cells #[.slice Ax0 x0.length cx0, .slice Ax1 x1.length cx1] 25)) HS4.out) HS5.out) HS6.out))).2.1 FY.out).mono ?_; rintro e w7 ⟨v1, v2, rfl, ho1, ho2, hb_⟩; obtain ⟨Ay0, cy0, e_y0⟩ := Kd.S_slice ho1; subst e_y0; obtain ⟨Ay1, cy1, e_y1⟩ := Kd.S_slice ho2; subst e_y1; have HS7 := Aside0.mk hb_; have Hy0 := Aside0.mk ho1; have Hy1 := Aside0.mk ho2; clear hcd0 hcd1 hcx0 hcx1 hld hlx; clear hb_ ho1 ho2; have hcd0 : w7.cell? ⟨w.heap.size, 0, none⟩ = some (.slice A0_0 x0.length c0_0) := (blk_cell (blk_below (heap_alloc_new w (.cells #[.slice A0_0 x0.length c0_0, .slice A0_1 l0_1.length c0_1] 25)) (below_step (below_step (below_step (below_step (below_alloc (below_step (below_step (below_step (Below.refl _ _) HS1.out) HS2.out) HS3.out) (.cells #[.slice Ax0 x0.length cx0, .slice Ax1 x1.length cx1] 25)) HS4.out) HS5.out) HS6.out) HS7.out)) 0).trans rfl; have hcd1 : w7.cell? ⟨w.heap.size, 1, none⟩ = some (.slice A0_1 l0_1.length c0_1) := (blk_cell (blk_below (heap_alloc_new w (.cells #[.slice A0_0 x0.length c0_0, .slice A0_1 l0_1.length c0_1] 25)) (below_step (below_step (below_step (below_step (below_alloc (below_step (below_step (below_step (Below.refl _ _) HS1.out) HS2.out) HS3.out) (.cells #[.slice Ax0 x0.length cx0, .slice Ax1 x1.length cx1] 25)) HS4.out) HS5.out) HS6.out) HS7.out)) 1).trans rfl; have hld : w.heap.size < w7.heap.size := blk_lt (blk_below (heap_alloc_new w (.cells #[.slice A0_0 x0.length c0_0, .slice A0_1 l0_1.length c0_1] 25)) (below_step (below_step (below_step (below_step (below_alloc (below_step (below_step (below_step (Below.refl _ _) HS1.out) HS2.out) HS3.out) (.cells #[.slice Ax0 x0.length cx0, .slice Ax1 x1.length cx1] 25)) HS4.out) HS5.out) HS6.out) HS7.out)); have hcx0 : w7.cell? ⟨w3.heap.size, 0, none⟩ = some (.slice Ax0 x0.length cx0) := (blk_cell (blk_below (heap_alloc_new w3 (.cells #[.slice Ax0 x0.length cx0, .slice Ax1 x1.length cx1] 25)) (below_step (below_step (below_step (below_step (Below.refl _ _) HS4.out) HS5.out) HS6.out) HS7.out)) 0).trans rfl; have hcx1 : w7.cell? ⟨w3.heap.size, 1, none⟩ = some (.slice Ax1 x1.length cx1) := (blk_cell (blk_below (heap_alloc_new w3 (.cells #[.slice Ax0 x0.length cx0, .slice Ax1 x1.length cx1] 25)) (below_step (below_step (below_step (below_step (Below.refl _ _) HS4.out) HS5.out) HS6.out) HS7.out)) 1).trans rfl; have hlx : w3.heap.size < w7.heap.size := blk_lt (blk_below (heap_alloc_new w3 (.cells #[.slice Ax0 x0.length cx0, .slice Ax1 x1.length cx1] 25)) (below_step (below_step (below_step (below_step (Below.refl _ _) HS4.out) HS5.out) HS6.out) HS7.out)))
        | (go_at_call 34; clear TK8; have TK9 := Aside0.mk (show 0 = 0 from rfl); refine (hRead.calls Ay0 cy0 y0 Ay1 cy1 ([] : List S65) a2 rq eq_ _ (Kd.S_reads' (Kd.S_below Hy0.out (below_alloc (Below.refl _ _) (.cells #[.slice Ay0 y0.length cy0, .slice Ay1 ([] : List S65).length cy1] 25)))).2.2 (Kd.S_reads' (Kd.S_below Hy0.out (below_alloc (Below.refl _ _) (.cells #[.slice Ay0 y0.length cy0, .slice Ay1 ([] : List S65).length cy1] 25)))).2.1 (Kd.S_reads' (Kd.S_below Hy1.out (below_alloc (Below.refl _ _) (.cells #[.slice Ay0 y0.length cy0, .slice Ay1 ([] : List S65).length cy1] 25)))).2.2 (Kd.S_reads' (Kd.S_below Hy1.out (below_alloc (Below.refl _ _) (.cells #[.slice Ay0 y0.length cy0, .slice Ay1 ([] : List S65).length cy1] 25)))).2.1 FRr.out).mono ?_; rintro e w8 ⟨v1, rfl, ho1, hb_⟩; obtain ⟨Ar, cr, e_r⟩ := Kd.R_slice ho1; subst e_r; have HS8 := Aside0.mk hb_; have Hr := Aside0.mk ho1; clear hcd0 hcd1 hcx0 hcx1 hld hlx; clear hb_ ho1; have hcd0 : w8.cell? ⟨w.heap.size, 0, none⟩ = some (.slice A0_0 x0.length c0_0) := (blk_cell (blk_below (heap_alloc_new w (.cells #[.slice A0_0 x0.length c0_0, .slice A0_1 l0_1.length c0_1] 25)) (below_step (below_alloc (below_step (below_step (below_step (below_step (below_alloc (below_step (below_step (below_step (Below.refl _ _) HS1.out) HS2.out) HS3.out) (.cells #[.slice Ax0 x0.length cx0, .slice Ax1 x1.length cx1] 25)) HS4.out) HS5.out) HS6.out) HS7.out) (.cells #[.slice Ay0 y0.length cy0, .slice Ay1 ([] : List S65).length cy1] 25)) HS8.out)) 0).trans rfl; have hcd1 : w8.cell? ⟨w.heap.size, 1, none⟩ = some (.slice A0_1 l0_1.length c0_1) := (blk_cell (blk_below (heap_alloc_new w (.cells #[.slice A0_0 x0.length c0_0, .slice A0_1 l0_1.length c0_1] 25)) (below_step (below_alloc (below_step (below_step (below_step (below_step (below_alloc (below_step (below_step (below_step (Below.refl _ _) HS1.out) HS2.out) HS3.out) (.cells #[.slice Ax0 x0.length cx0, .slice Ax1 x1.length cx1] 25)) HS4.out) HS5.out) HS6.out) HS7.out) (.cells #[.slice Ay0 y0.length cy0, .slice Ay1 ([] : List S65).length cy1] 25)) HS8.out)) 1).trans rfl; have hld : w.heap.size < w8.heap.size := blk_lt (blk_below (heap_alloc_new w (.cells #[.slice A0_0 x0.length c0_0, .slice A0_1 l0_1.length c0_1] 25)) (below_step (below_alloc (below_step (below_step (below_step (below_step (below_alloc (below_step (below_step (below_step (Below.refl _ _) HS1.out) HS2.out) HS3.out) (.cells #[.slice Ax0 x0.length cx0, .slice Ax1 x1.length cx1] 25)) HS4.out) HS5.out) HS6.out) HS7.out) (.cells #[.slice Ay0 y0.length cy0, .slice Ay1 ([] : List S65).length cy1] 25)) HS8.out)); have hcx0 : w8.cell? ⟨w3.heap.size, 0, none⟩ = some (.slice Ax0 x0.length cx0) := (blk_cell (blk_below (heap_alloc_new w3 (.cells #[.slice Ax0 x0.length cx0, .slice Ax1 x1.length cx1] 25)) (below_step (below_alloc (below_step (below_step (below_step (below_step (Below.refl _ _) HS4.out) HS5.out) HS6.out) HS7.out) (.cells #[.slice Ay0 y0.length cy0, .slice Ay1 ([] : List S65).length cy1] 25)) HS8.out)) 0).trans rfl; have hcx1 : w8.cell? ⟨w3.heap.size, 1, none⟩ = some (.slice Ax1 x1.length cx1) := (blk_cell (blk_below (heap_alloc_new w3 (.cells #[.slice Ax0 x0.length cx0, .slice Ax1 x1.length cx1] 25)) (below_step (below_alloc (below_step (below_step (below_step (below_step (Below.refl _ _) HS4.out) HS5.out) HS6.out) HS7.out) (.cells #[.slice Ay0 y0.length cy0, .slice Ay1 ([] : List S65).length cy1] 25)) HS8.out)) 1).trans rfl; have hlx : w3.heap.size < w8.heap.size := blk_lt (blk_below (heap_alloc_new w3 (.cells #[.slice Ax0 x0.length cx0, .slice Ax1 x1.length cx1] 25)) (below_step (below_alloc (below_step (below_step (below_step (below_step (Below.refl _ _) HS4.out) HS5.out) HS6.out) HS7.out) (.cells #[.slice Ay0 y0.length cy0, .slice Ay1 ([] : List S65).length cy1] 25)) HS8.out)); have hcy0 : w8.cell? ⟨w7.heap.size, 0, none⟩ = some (.slice Ay0 y0.length cy0) := (blk_cell (blk_below (heap_alloc_new w7 (.cells #[.slice Ay0 y0.length cy0, .slice Ay1 ([] : List S65).length cy1] 25)) (below_step (Below.refl _ _) HS8.out)) 0).trans rfl; have hcy1 : w8.cell? ⟨w7.heap.size, 1, none⟩ = some (.slice Ay1 ([] : List S65).length cy1) := (blk_cell (blk_below (heap_alloc_new w7 (.cells #[.slice Ay0 y0.length cy0, .slice Ay1 ([] : List S65).length cy1] 25)) (below_step (Below.refl _ _) HS8.out)) 1).trans rfl; have hly : w7.heap.size < w8.heap.size := blk_lt (blk_below (heap_alloc_new w7 (.cells #[.slice Ay0 y0.length cy0, .slice Ay1 ([] : List S65).length cy1] 25)) (below_step (Below.refl _ _) HS8.out)))
        | (go_at_call 36; clear TK9; have TK10 := Aside0.mk (show 0 = 0 from rfl); refine (hWaits.calls Ax0 cx0 x0 Ax1 cx1 x1 a1 true 0 _ (Kd.S_reads' (Kd.S_below Hx0.out (below_step (below_alloc (below_step (below_step (below_step (below_step (below_alloc (Below.refl _ _) (.cells #[.slice Ax0 x0.length cx0, .slice Ax1 x1.length cx1] 25)) HS4.out) HS5.out) HS6.out) HS7.out) (.cells #[.slice Ay0 y0.length cy0, .slice Ay1 ([] : List S65).length cy1] 25)) HS8.out))).2.2 (Kd.S_reads' (Kd.S_below Hx0.out (below_step (below_alloc (below_step (below_step (below_step (below_step (below_alloc (Below.refl _ _) (.cells #[.slice Ax0 x0.length cx0, .slice Ax1 x1.length cx1] 25)) HS4.out) HS5.out) HS6.out) HS7.out) (.cells #[.slice Ay0 y0.length cy0, .slice Ay1 ([] : List S65).length cy1] 25)) HS8.out))).2.1 (Kd.S_reads' (Kd.S_below Hx1.out (below_step (below_alloc (below_step (below_step (below_step (below_step (below_alloc (Below.refl _ _) (.cells #[.slice Ax0 x0.length cx0, .slice Ax1 x1.length cx1] 25)) HS4.out) HS5.out) HS6.out) HS7.out) (.cells #[.slice Ay0 y0.length cy0, .slice Ay1 ([] : List S65).length cy1] 25)) HS8.out))).2.2 (Kd.S_reads' (Kd.S_below Hx1.out (below_step (below_alloc (below_step (below_step (below_step (below_step (below_alloc (Below.refl _ _) (.cells #[.slice Ax0 x0.length cx0, .slice Ax1 x1.length cx1] 25)) HS4.out) HS5.out) HS6.out) HS7.out) (.cells #[.slice Ay0 y0.length cy0, .slice Ay1 ([] : List S65).length cy1] 25)) HS8.out))).2.1 FW.out).mono ?_; rintro e w9 ⟨rfl, hb_⟩; have HS9 := Aside0.mk hb_; clear hcd0 hcd1 hcx0 hcx1 hcy0 hcy1 hld hlx hly; clear hb_; have hcd0 : w9.cell? ⟨w.heap.size, 0, none⟩ = some (.slice A0_0 x0.length c0_0) := (blk_cell (blk_below (heap_alloc_new w (.cells #[.slice A0_0 x0.length c0_0, .slice A0_1 l0_1.length c0_1] 25)) (below_step (below_step (below_alloc (below_step (below_step (below_step (below_step (below_alloc (below_step (below_step (below_step (Below.refl _ _) HS1.out) HS2.out) HS3.out) (.cells #[.slice Ax0 x0.length cx0, .slice Ax1 x1.length cx1] 25)) HS4.out) HS5.out) HS6.out) HS7.out) (.cells #[.slice Ay0 y0.length cy0, .slice Ay1 ([] : List S65).length cy1] 25)) HS8.out) HS9.out)) 0).trans rfl; have hcd1 : w9.cell? ⟨w.heap.size, 1, none⟩ = some (.slice A0_1 l0_1.length c0_1) := (blk_cell (blk_below (heap_alloc_new w (.cells #[.slice A0_0 x0.length c0_0, .slice A0_1 l0_1.length c0_1] 25)) (below_step (below_step (below_alloc (below_step (below_step (below_step (below_step (below_alloc (below_step (below_step (below_step (Below.refl _ _) HS1.out) HS2.out) HS3.out) (.cells #[.slice Ax0 x0.length cx0, .slice Ax1 x1.length cx1] 25)) HS4.out) HS5.out) HS6.out) HS7.out) (.cells #[.slice Ay0 y0.length cy0, .slice Ay1 ([] : List S65).length cy1] 25)) HS8.out) HS9.out)) 1).trans rfl; have hld : w.heap.size < w9.heap.size := blk_lt (blk_below (heap_alloc_new w (.cells #[.slice A0_0 x0.length c0_0, .slice A0_1 l0_1.length c0_1] 25)) (below_step (below_step (below_alloc (below_step (below_step (below_step (below_step (below_alloc (below_step (below_step (below_step (Below.refl _ _) HS1.out) HS2.out) HS3.out) (.cells #[.slice Ax0 x0.length cx0, .slice Ax1 x1.length cx1] 25)) HS4.out) HS5.out) HS6.out) HS7.out) (.cells #[.slice Ay0 y0.length cy0, .slice Ay1 ([] : List S65).length cy1] 25)) HS8.out) HS9.out)); have hcx0 : w9.cell? ⟨w3.heap.size, 0, none⟩ = some (.slice Ax0 x0.length cx0) := (blk_cell (blk_below (heap_alloc_new w3 (.cells #[.slice Ax0 x0.length cx0, .slice Ax1 x1.length cx1] 25)) (below_step (below_step (below_alloc (below_step (below_step (below_step (below_step (Below.refl _ _) HS4.out) HS5.out) HS6.out) HS7.out) (.cells #[.slice Ay0 y0.length cy0, .slice Ay1 ([] : List S65).length cy1] 25)) HS8.out) HS9.out)) 0).trans rfl; have hcx1 : w9.cell? ⟨w3.heap.size, 1, none⟩ = some (.slice Ax1 x1.length cx1) := (blk_cell (blk_below (heap_alloc_new w3 (.cells #[.slice Ax0 x0.length cx0, .slice Ax1 x1.length cx1] 25)) (below_step (below_step (below_alloc (below_step (below_step (below_step (below_step (Below.refl _ _) HS4.out) HS5.out) HS6.out) HS7.out) (.cells #[.slice Ay0 y0.length cy0, .slice Ay1 ([] : List S65).length cy1] 25)) HS8.out) HS9.out)) 1).trans rfl; have hlx : w3.heap.size < w9.heap.size := blk_lt (blk_below (heap_alloc_new w3 (.cells #[.slice Ax0 x0.length cx0, .slice Ax1 x1.length cx1] 25)) (below_step (below_step (below_alloc (below_step (below_step (below_step (below_step (Below.refl _ _) HS4.out) HS5.out) HS6.out) HS7.out) (.cells #[.slice Ay0 y0.length cy0, .slice Ay1 ([] : List S65).length cy1] 25)) HS8.out) HS9.out)); have hcy0 : w9.cell? ⟨w7.heap.size, 0, none⟩ = some (.slice Ay0 y0.length cy0) := (blk_cell (blk_below (heap_alloc_new w7 (.cells #[.slice Ay0 y0.length cy0, .slice Ay1 ([] : List S65).length cy1] 25)) (below_step (below_step (Below.refl _ _) HS8.out) HS9.out)) 0).trans rfl; have hcy1 : w9.cell? ⟨w7.heap.size, 1, none⟩ = some (.slice Ay1 ([] : List S65).length cy1) := (blk_cell (blk_below (heap_alloc_new w7 (.cells #[.slice Ay0 y0.length cy0, .slice Ay1 ([] : List S65).length cy1] 25)) (below_step (below_step (Below.refl _ _) HS8.out) HS9.out)) 1).trans rfl; have hly : w7.heap.size < w9.heap.size := blk_lt (blk_below (heap_alloc_new w7 (.cells #[.slice Ay0 y0.length cy0, .slice Ay1 ([] : List S65).length cy1] 25)) (below_step (below_step (Below.refl _ _) HS8.out) HS9.out)); have hs1 := Kd.C_string (P := Try.prog) (A := Ag) (c := cg) Try.underlying26 Try.underlying5 Try.underlying9 (Kd.R_reads' (Kd.R_below Hg.out (below_step (below_step (below_alloc (below_step (below_step (below_step (Below.refl _ _) HS5.out) HS6.out) HS7.out) (.cells #[.slice Ay0 y0.length cy0, .slice Ay1 ([] : List S65).length cy1] 25)) HS8.out) HS9.out))).2.2; have hs2 := Kd.C_string (P := Try.prog) (A := A3) (c := c3) Try.underlying26 Try.underlying5 Try.underlying9 (Kd.C_below HR3.out (below_step (below_step (below_alloc (below_step (below_step (below_step (below_step (below_alloc (below_step (below_step (below_step (below_alloc (Below.refl _ _) (.cells #[.slice A0_0 x0.length c0_0, .slice A0_1 l0_1.length c0_1] 25)) HS1.out) HS2.out) HS3.out) (.cells #[.slice Ax0 x0.length cx0, .slice Ax1 x1.length cx1] 25)) HS4.out) HS5.out) HS6.out) HS7.out) (.cells #[.slice Ay0 y0.length cy0, .slice Ay1 ([] : List S65).length cy1] 25)) HS8.out) HS9.out)); have hs3 := Kd.C_string (P := Try.prog) (A := Ap) (c := cp) Try.underlying26 Try.underlying5 Try.underlying9 (Kd.R_reads' (Kd.R_below Hp.out (below_step (below_step (below_alloc (below_step (below_step (Below.refl _ _) HS6.out) HS7.out) (.cells #[.slice Ay0 y0.length cy0, .slice Ay1 ([] : List S65).length cy1] 25)) HS8.out) HS9.out))).2.2; have hs4 := Kd.C_string (P := Try.prog) (A := Aq) (c := cq) Try.underlying26 Try.underlying5 Try.underlying9 (Kd.R_reads' (Kd.R_below Hq.out (below_step (below_step (below_alloc (below_step (Below.refl _ _) HS7.out) (.cells #[.slice Ay0 y0.length cy0, .slice Ay1 ([] : List S65).length cy1] 25)) HS8.out) HS9.out))).2.2; have hs5 := Kd.C_string (P := Try.prog) (A := Ar) (c := cr) Try.underlying26 Try.underlying5 Try.underlying9 (Kd.R_reads' (Kd.R_below Hr.out (below_step (Below.refl _ _) HS9.out))).2.2))
      go_ret
      exact ⟨rfl, (below_step (below_step (below_alloc (below_step (below_step (below_step (below_step (below_alloc (below_step (below_step (below_step (below_alloc (Below.refl _ _) (.cells #[.slice A0_0 x0.length c0_0, .slice A0_1 l0_1.length c0_1] 25)) HS1.out) HS2.out) HS3.out) (.cells #[.slice Ax0 x0.length cx0, .slice Ax1 x1.length cx1] 25)) HS4.out) HS5.out) HS6.out) HS7.out) (.cells #[.slice Ay0 y0.length cy0, .slice Ay1 ([] : List S65).length cy1] 25)) HS8.out) HS9.out)⟩
    · have hb1 : (a2 == a1) = false := beq_eq_false_iff_ne.2 h
      clear h HE
      have TK1 := Aside0.mk (show 0 = 0 from rfl)
      go_enter Try.func8, Try.ntmps8
      go_wp2_with (first
        | (go_at_call 45; clear TK1; have TK2 := Aside0.mk (show 0 = 0 from rfl); refine (hAlive.calls true _ rfl).mono ?_; rintro e w1 ⟨rfl, hb_⟩; have HS1 := Aside0.mk hb_; clear hb_; have hcd0 : w1.cell? ⟨w.heap.size, 0, none⟩ = some (.slice A0_0 x0.length c0_0) := (blk_cell (blk_below (heap_alloc_new w (.cells #[.slice A0_0 x0.length c0_0, .slice A0_1 l0_1.length c0_1] 25)) (below_step (Below.refl _ _) HS1.out)) 0).trans rfl; have hcd1 : w1.cell? ⟨w.heap.size, 1, none⟩ = some (.slice A0_1 l0_1.length c0_1) := (blk_cell (blk_below (heap_alloc_new w (.cells #[.slice A0_0 x0.length c0_0, .slice A0_1 l0_1.length c0_1] 25)) (below_step (Below.refl _ _) HS1.out)) 1).trans rfl; have hld : w.heap.size < w1.heap.size := blk_lt (blk_below (heap_alloc_new w (.cells #[.slice A0_0 x0.length c0_0, .slice A0_1 l0_1.length c0_1] 25)) (below_step (Below.refl _ _) HS1.out)))
        | (go_at_call 30; clear TK2; have TK3 := Aside0.mk (show 0 = 0 from rfl); refine (catamaranref05_Great.calls 400 A0_0 c0_0 x0 A0_1 c0_1 l0_1 60 _ _ (Kd.C_below HR0.out (below_step (below_alloc (Below.refl _ _) (.cells #[.slice A0_0 x0.length c0_0, .slice A0_1 l0_1.length c0_1] 25)) HS1.out)) HC0.out (Kd.C_below HR1.out (below_step (below_alloc (Below.refl _ _) (.cells #[.slice A0_0 x0.length c0_0, .slice A0_1 l0_1.length c0_1] 25)) HS1.out)) HC1.out HG.out).mono ?_; rintro e w2 ⟨rfl, hb_⟩; have HS2 := Aside0.mk hb_; clear hcd0 hcd1 hld; clear hb_; have hcd0 : w2.cell? ⟨w.heap.size, 0, none⟩ = some (.slice A0_0 x0.length c0_0) := (blk_cell (blk_below (heap_alloc_new w (.cells #[.slice A0_0 x0.length c0_0, .slice A0_1 l0_1.length c0_1] 25)) (below_step (below_step (Below.refl _ _) HS1.out) HS2.out)) 0).trans rfl; have hcd1 : w2.cell? ⟨w.heap.size, 1, none⟩ = some (.slice A0_1 l0_1.length c0_1) := (blk_cell (blk_below (heap_alloc_new w (.cells #[.slice A0_0 x0.length c0_0, .slice A0_1 l0_1.length c0_1] 25)) (below_step (below_step (Below.refl _ _) HS1.out) HS2.out)) 1).trans rfl; have hld : w.heap.size < w2.heap.size := blk_lt (blk_below (heap_alloc_new w (.cells #[.slice A0_0 x0.length c0_0, .slice A0_1 l0_1.length c0_1] 25)) (below_step (below_step (Below.refl _ _) HS1.out) HS2.out)))
        | (go_at_call 32; clear TK3; have TK4 := Aside0.mk (show 0 = 0 from rfl); refine (hWrite.calls A0_0 c0_0 x0 A0_1 c0_1 l0_1 a1 A3 c3 l3 x0 x1 0 _ (Kd.C_below HR0.out (below_step (below_step (below_alloc (Below.refl _ _) (.cells #[.slice A0_0 x0.length c0_0, .slice A0_1 l0_1.length c0_1] 25)) HS1.out) HS2.out)) HC0.out (Kd.C_below HR1.out (below_step (below_step (below_alloc (Below.refl _ _) (.cells #[.slice A0_0 x0.length c0_0, .slice A0_1 l0_1.length c0_1] 25)) HS1.out) HS2.out)) HC1.out (Kd.C_below HR3.out (below_step (below_step (below_alloc (Below.refl _ _) (.cells #[.slice A0_0 x0.length c0_0, .slice A0_1 l0_1.length c0_1] 25)) HS1.out) HS2.out)) HC3.out FX.out).mono ?_; rintro e w3 ⟨v1, v2, rfl, ho1, ho2, hb_⟩; obtain ⟨Ax0, cx0, e_x0⟩ := Kd.S_slice ho1; subst e_x0; obtain ⟨Ax1, cx1, e_x1⟩ := Kd.S_slice ho2; subst e_x1; have HS3 := Aside0.mk hb_; have Hx0 := Aside0.mk ho1; have Hx1 := Aside0.mk ho2; clear hcd0 hcd1 hld; clear hb_ ho1 ho2; have hcd0 : w3.cell? ⟨w.heap.size, 0, none⟩ = some (.slice A0_0 x0.length c0_0) := (blk_cell (blk_below (heap_alloc_new w (.cells #[.slice A0_0 x0.length c0_0, .slice A0_1 l0_1.length c0_1] 25)) (below_step (below_step (below_step (Below.refl _ _) HS1.out) HS2.out) HS3.out)) 0).trans rfl; have hcd1 : w3.cell? ⟨w.heap.size, 1, none⟩ = some (.slice A0_1 l0_1.length c0_1) := (blk_cell (blk_below (heap_alloc_new w (.cells #[.slice A0_0 x0.length c0_0, .slice A0_1 l0_1.length c0_1] 25)) (below_step (below_step (below_step (Below.refl _ _) HS1.out) HS2.out) HS3.out)) 1).trans rfl; have hld : w.heap.size < w3.heap.size := blk_lt (blk_below (heap_alloc_new w (.cells #[.slice A0_0 x0.length c0_0, .slice A0_1 l0_1.length c0_1] 25)) (below_step (below_step (below_step (Below.refl _ _) HS1.out) HS2.out) HS3.out)))
        | (go_at_call 34; clear TK4; have TK5 := Aside0.mk (show 0 = 0 from rfl); refine (hRead.calls Ax0 cx0 x0 Ax1 cx1 x1 a1 l3 0 _ (Kd.S_reads' (Kd.S_below Hx0.out (below_alloc (Below.refl _ _) (.cells #[.slice Ax0 x0.length cx0, .slice Ax1 x1.length cx1] 25)))).2.2 (Kd.S_reads' (Kd.S_below Hx0.out (below_alloc (Below.refl _ _) (.cells #[.slice Ax0 x0.length cx0, .slice Ax1 x1.length cx1] 25)))).2.1 (Kd.S_reads' (Kd.S_below Hx1.out (below_alloc (Below.refl _ _) (.cells #[.slice Ax0 x0.length cx0, .slice Ax1 x1.length cx1] 25)))).2.2 (Kd.S_reads' (Kd.S_below Hx1.out (below_alloc (Below.refl _ _) (.cells #[.slice Ax0 x0.length cx0, .slice Ax1 x1.length cx1] 25)))).2.1 FG.out).mono ?_; rintro e w4 ⟨v1, rfl, ho1, hb_⟩; obtain ⟨Ag, cg, e_g⟩ := Kd.R_slice ho1; subst e_g; have HS4 := Aside0.mk hb_; have Hg := Aside0.mk ho1; clear hcd0 hcd1 hld; clear hb_ ho1; have hcd0 : w4.cell? ⟨w.heap.size, 0, none⟩ = some (.slice A0_0 x0.length c0_0) := (blk_cell (blk_below (heap_alloc_new w (.cells #[.slice A0_0 x0.length c0_0, .slice A0_1 l0_1.length c0_1] 25)) (below_step (below_alloc (below_step (below_step (below_step (Below.refl _ _) HS1.out) HS2.out) HS3.out) (.cells #[.slice Ax0 x0.length cx0, .slice Ax1 x1.length cx1] 25)) HS4.out)) 0).trans rfl; have hcd1 : w4.cell? ⟨w.heap.size, 1, none⟩ = some (.slice A0_1 l0_1.length c0_1) := (blk_cell (blk_below (heap_alloc_new w (.cells #[.slice A0_0 x0.length c0_0, .slice A0_1 l0_1.length c0_1] 25)) (below_step (below_alloc (below_step (below_step (below_step (Below.refl _ _) HS1.out) HS2.out) HS3.out) (.cells #[.slice Ax0 x0.length cx0, .slice Ax1 x1.length cx1] 25)) HS4.out)) 1).trans rfl; have hld : w.heap.size < w4.heap.size := blk_lt (blk_below (heap_alloc_new w (.cells #[.slice A0_0 x0.length c0_0, .slice A0_1 l0_1.length c0_1] 25)) (below_step (below_alloc (below_step (below_step (below_step (Below.refl _ _) HS1.out) HS2.out) HS3.out) (.cells #[.slice Ax0 x0.length cx0, .slice Ax1 x1.length cx1] 25)) HS4.out)); have hcx0 : w4.cell? ⟨w3.heap.size, 0, none⟩ = some (.slice Ax0 x0.length cx0) := (blk_cell (blk_below (heap_alloc_new w3 (.cells #[.slice Ax0 x0.length cx0, .slice Ax1 x1.length cx1] 25)) (below_step (Below.refl _ _) HS4.out)) 0).trans rfl; have hcx1 : w4.cell? ⟨w3.heap.size, 1, none⟩ = some (.slice Ax1 x1.length cx1) := (blk_cell (blk_below (heap_alloc_new w3 (.cells #[.slice Ax0 x0.length cx0, .slice Ax1 x1.length cx1] 25)) (below_step (Below.refl _ _) HS4.out)) 1).trans rfl; have hlx : w3.heap.size < w4.heap.size := blk_lt (blk_below (heap_alloc_new w3 (.cells #[.slice Ax0 x0.length cx0, .slice Ax1 x1.length cx1] 25)) (below_step (Below.refl _ _) HS4.out)))
        | (go_at_call 34; clear TK5; have TK6 := Aside0.mk (show 0 = 0 from rfl); refine (hRead.calls A0_0 c0_0 x0 A0_1 c0_1 l0_1 a2 rq eq_ _ (Kd.C_below HR0.out (below_step (below_alloc (below_step (below_step (below_step (below_alloc (Below.refl _ _) (.cells #[.slice A0_0 x0.length c0_0, .slice A0_1 l0_1.length c0_1] 25)) HS1.out) HS2.out) HS3.out) (.cells #[.slice Ax0 x0.length cx0, .slice Ax1 x1.length cx1] 25)) HS4.out)) HC0.out (Kd.C_below HR1.out (below_step (below_alloc (below_step (below_step (below_step (below_alloc (Below.refl _ _) (.cells #[.slice A0_0 x0.length c0_0, .slice A0_1 l0_1.length c0_1] 25)) HS1.out) HS2.out) HS3.out) (.cells #[.slice Ax0 x0.length cx0, .slice Ax1 x1.length cx1] 25)) HS4.out)) HC1.out FP.out).mono ?_; rintro e w5 ⟨v1, rfl, ho1, hb_⟩; obtain ⟨Ap, cp, e_p⟩ := Kd.R_slice ho1; subst e_p; have HS5 := Aside0.mk hb_; have Hp := Aside0.mk ho1; clear hcd0 hcd1 hcx0 hcx1 hld hlx; clear hb_ ho1; have hcd0 : w5.cell? ⟨w.heap.size, 0, none⟩ = some (.slice A0_0 x0.length c0_0) := (blk_cell (blk_below (heap_alloc_new w (.cells #[.slice A0_0 x0.length c0_0, .slice A0_1 l0_1.length c0_1] 25)) (below_step (below_step (below_alloc (below_step (below_step (below_step (Below.refl _ _) HS1.out) HS2.out) HS3.out) (.cells #[.slice Ax0 x0.length cx0, .slice Ax1 x1.length cx1] 25)) HS4.out) HS5.out)) 0).trans rfl; have hcd1 : w5.cell? ⟨w.heap.size, 1, none⟩ = some (.slice A0_1 l0_1.length c0_1) := (blk_cell (blk_below (heap_alloc_new w (.cells #[.slice A0_0 x0.length c0_0, .slice A0_1 l0_1.length c0_1] 25)) (below_step (below_step (below_alloc (below_step (below_step (below_step (Below.refl _ _) HS1.out) HS2.out) HS3.out) (.cells #[.slice Ax0 x0.length cx0, .slice Ax1 x1.length cx1] 25)) HS4.out) HS5.out)) 1).trans rfl; have hld : w.heap.size < w5.heap.size := blk_lt (blk_below (heap_alloc_new w (.cells #[.slice A0_0 x0.length c0_0, .slice A0_1 l0_1.length c0_1] 25)) (below_step (below_step (below_alloc (below_step (below_step (below_step (Below.refl _ _) HS1.out) HS2.out) HS3.out) (.cells #[.slice Ax0 x0.length cx0, .slice Ax1 x1.length cx1] 25)) HS4.out) HS5.out)); have hcx0 : w5.cell? ⟨w3.heap.size, 0, none⟩ = some (.slice Ax0 x0.length cx0) := (blk_cell (blk_below (heap_alloc_new w3 (.cells #[.slice Ax0 x0.length cx0, .slice Ax1 x1.length cx1] 25)) (below_step (below_step (Below.refl _ _) HS4.out) HS5.out)) 0).trans rfl; have hcx1 : w5.cell? ⟨w3.heap.size, 1, none⟩ = some (.slice Ax1 x1.length cx1) := (blk_cell (blk_below (heap_alloc_new w3 (.cells #[.slice Ax0 x0.length cx0, .slice Ax1 x1.length cx1] 25)) (below_step (below_step (Below.refl _ _) HS4.out) HS5.out)) 1).trans rfl; have hlx : w3.heap.size < w5.heap.size := blk_lt (blk_below (heap_alloc_new w3 (.cells #[.slice Ax0 x0.length cx0, .slice Ax1 x1.length cx1] 25)) (below_step (below_step (Below.refl _ _) HS4.out) HS5.out)))
        | (go_at_call 34; clear TK6; have TK7 := Aside0.mk (show 0 = 0 from rfl); refine (hRead.calls Ax0 cx0 x0 Ax1 cx1 x1 a2 rq eq_ _ (Kd.S_reads' (Kd.S_below Hx0.out (below_step (below_step (below_alloc (Below.refl _ _) (.cells #[.slice Ax0 x0.length cx0, .slice Ax1 x1.length cx1] 25)) HS4.out) HS5.out))).2.2 (Kd.S_reads' (Kd.S_below Hx0.out (below_step (below_step (below_alloc (Below.refl _ _) (.cells #[.slice Ax0 x0.length cx0, .slice Ax1 x1.length cx1] 25)) HS4.out) HS5.out))).2.1 (Kd.S_reads' (Kd.S_below Hx1.out (below_step (below_step (below_alloc (Below.refl _ _) (.cells #[.slice Ax0 x0.length cx0, .slice Ax1 x1.length cx1] 25)) HS4.out) HS5.out))).2.2 (Kd.S_reads' (Kd.S_below Hx1.out (below_step (below_step (below_alloc (Below.refl _ _) (.cells #[.slice Ax0 x0.length cx0, .slice Ax1 x1.length cx1] 25)) HS4.out) HS5.out))).2.1 FQ.out).mono ?_; rintro e w6 ⟨v1, rfl, ho1, hb_⟩; obtain ⟨Aq, cq, e_q⟩ := Kd.R_slice ho1; subst e_q; have HS6 := Aside0.mk hb_; have Hq := Aside0.mk ho1; clear hcd0 hcd1 hcx0 hcx1 hld hlx; clear hb_ ho1; have hcd0 : w6.cell? ⟨w.heap.size, 0, none⟩ = some (.slice A0_0 x0.length c0_0) := (blk_cell (blk_below (heap_alloc_new w (.cells #[.slice A0_0 x0.length c0_0, .slice A0_1 l0_1.length c0_1] 25)) (below_step (below_step (below_step (below_alloc (below_step (below_step (below_step (Below.refl _ _) HS1.out) HS2.out) HS3.out) (.cells #[.slice Ax0 x0.length cx0, .slice Ax1 x1.length cx1] 25)) HS4.out) HS5.out) HS6.out)) 0).trans rfl; have hcd1 : w6.cell? ⟨w.heap.size, 1, none⟩ = some (.slice A0_1 l0_1.length c0_1) := (blk_cell (blk_below (heap_alloc_new w (.cells #[.slice A0_0 x0.length c0_0, .slice A0_1 l0_1.length c0_1] 25)) (below_step (below_step (below_step (below_alloc (below_step (below_step (below_step (Below.refl _ _) HS1.out) HS2.out) HS3.out) (.cells #[.slice Ax0 x0.length cx0, .slice Ax1 x1.length cx1] 25)) HS4.out) HS5.out) HS6.out)) 1).trans rfl; have hld : w.heap.size < w6.heap.size := blk_lt (blk_below (heap_alloc_new w (.cells #[.slice A0_0 x0.length c0_0, .slice A0_1 l0_1.length c0_1] 25)) (below_step (below_step (below_step (below_alloc (below_step (below_step (below_step (Below.refl _ _) HS1.out) HS2.out) HS3.out) (.cells #[.slice Ax0 x0.length cx0, .slice Ax1 x1.length cx1] 25)) HS4.out) HS5.out) HS6.out)); have hcx0 : w6.cell? ⟨w3.heap.size, 0, none⟩ = some (.slice Ax0 x0.length cx0) := (blk_cell (blk_below (heap_alloc_new w3 (.cells #[.slice Ax0 x0.length cx0, .slice Ax1 x1.length cx1] 25)) (below_step (below_step (below_step (Below.refl _ _) HS4.out) HS5.out) HS6.out)) 0).trans rfl; have hcx1 : w6.cell? ⟨w3.heap.size, 1, none⟩ = some (.slice Ax1 x1.length cx1) := (blk_cell (blk_below (heap_alloc_new w3 (.cells #[.slice Ax0 x0.length cx0, .slice Ax1 x1.length cx1] 25)) (below_step (below_step (below_step (Below.refl _ _) HS4.out) HS5.out) HS6.out)) 1).trans rfl; have hlx : w3.heap.size < w6.heap.size := blk_lt (blk_below (heap_alloc_new w3 (.cells #[.slice Ax0 x0.length cx0, .slice Ax1 x1.length cx1] 25)) (below_step (below_step (below_step (Below.refl _ _) HS4.out) HS5.out) HS6.out)))
        | (go_at_call 47; clear TK7; have TK8 := Aside0.mk (show 0 = 0 from rfl); refine (hFlush.calls Ax0 cx0 x0 Ax1 cx1 x1 y0 [] 0 _ (Kd.S_reads' (Kd.S_below Hx0.out (below_step (below_step (below_step (below_alloc (Below.refl _ _) (.cells #[.slice Ax0 x0.length cx0, .slice Ax1 x1.length cx1] 25)) HS4.out) HS5.out) HS6.out))).2.2 (Kd.S_reads' (Kd.S_below Hx0.out (below_step (below_step (below_step (below_alloc (Below.refl _ _) (.cells #[.slice Ax0 x0.length cx0, .slice Ax1 x1.length cx1] 25)) HS4.out) HS5.out) HS6.out))).2.1 (Kd.S_reads' (Kd.S_below Hx1.out (below_step (below_step (below_step (below_alloc (Below.refl _ _) (.cells #[.slice Ax0 x0.length cx0, .slice Ax1 x1.length cx1] 25)) HS4.out) HS5.out) HS6.out))).2.2 (Kd.S_reads' (Kd.S_below Hx1.out (below_step (below_step (below_step (below_alloc (Below.refl _ _) (.cells #[.slice Ax0 x0.length cx0, .slice Ax1 x1.length cx1] 25)) HS4.out) HS5.out) HS6.out))).2.1 FY.out).mono ?_; rintro e w7 ⟨v1, v2, rfl, ho1, ho2, hb_⟩; obtain ⟨Ay0, cy0, e_y0⟩ := Kd.S_slice ho1; subst e_y0; obtain ⟨Ay1, cy1, e_y1⟩ := Kd.S_slice ho2; subst e_y1; have HS7 := Aside0.mk hb_; have Hy0 := Aside0.mk ho1; have Hy1 := Aside0.mk ho2; clear hcd0 hcd1 hcx0 hcx1 hld hlx; clear hb_ ho1 ho2; have hcd0 : w7.cell? ⟨w.heap.size, 0, none⟩ = some (.slice A0_0 x0.length c0_0) := (blk_cell (blk_below (heap_alloc_new w (.cells #[.slice A0_0 x0.length c0_0, .slice A0_1 l0_1.length c0_1] 25)) (below_step (below_step (below_step (below_step (below_alloc (below_step (below_step (below_step (Below.refl _ _) HS1.out) HS2.out) HS3.out) (.cells #[.slice Ax0 x0.length cx0, .slice Ax1 x1.length cx1] 25)) HS4.out) HS5.out) HS6.out) HS7.out)) 0).trans rfl; have hcd1 : w7.cell? ⟨w.heap.size, 1, none⟩ = some (.slice A0_1 l0_1.length c0_1) := (blk_cell (blk_below (heap_alloc_new w (.cells #[.slice A0_0 x0.length c0_0, .slice A0_1 l0_1.length c0_1] 25)) (below_step (below_step (below_step (below_step (below_alloc (below_step (below_step (below_step (Below.refl _ _) HS1.out) HS2.out) HS3.out) (.cells #[.slice Ax0 x0.length cx0, .slice Ax1 x1.length cx1] 25)) HS4.out) HS5.out) HS6.out) HS7.out)) 1).trans rfl; have hld : w.heap.size < w7.heap.size := blk_lt (blk_below (heap_alloc_new w (.cells #[.slice A0_0 x0.length c0_0, .slice A0_1 l0_1.length c0_1] 25)) (below_step (below_step (below_step (below_step (below_alloc (below_step (below_step (below_step (Below.refl _ _) HS1.out) HS2.out) HS3.out) (.cells #[.slice Ax0 x0.length cx0, .slice Ax1 x1.length cx1] 25)) HS4.out) HS5.out) HS6.out) HS7.out)); have hcx0 : w7.cell? ⟨w3.heap.size, 0, none⟩ = some (.slice Ax0 x0.length cx0) := (blk_cell (blk_below (heap_alloc_new w3 (.cells #[.slice Ax0 x0.length cx0, .slice Ax1 x1.length cx1] 25)) (below_step (below_step (below_step (below_step (Below.refl _ _) HS4.out) HS5.out) HS6.out) HS7.out)) 0).trans rfl; have hcx1 : w7.cell? ⟨w3.heap.size, 1, none⟩ = some (.slice Ax1 x1.length cx1) := (blk_cell (blk_below (heap_alloc_new w3 (.cells #[.slice Ax0 x0.length cx0, .slice Ax1 x1.length cx1] 25)) (below_step (below_step (below_step (below_step (Below.refl _ _) HS4.out) HS5.out) HS6.out) HS7.out)) 1).trans rfl; have hlx : w3.heap.size < w7.heap.size := blk_lt (blk_below (heap_alloc_new w3 (.cells #[.slice Ax0 x0.length cx0, .slice Ax1 x1.length cx1] 25)) (below_step (below_step (below_step (below_step (Below.refl _ _) HS4.out) HS5.out) HS6.out) HS7.out)))
        | (go_at_call 34; clear TK8; have TK9 := Aside0.mk (show 0 = 0 from rfl); refine (hRead.calls Ay0 cy0 y0 Ay1 cy1 ([] : List S65) a2 rq eq_ _ (Kd.S_reads' (Kd.S_below Hy0.out (below_alloc (Below.refl _ _) (.cells #[.slice Ay0 y0.length cy0, .slice Ay1 ([] : List S65).length cy1] 25)))).2.2 (Kd.S_reads' (Kd.S_below Hy0.out (below_alloc (Below.refl _ _) (.cells #[.slice Ay0 y0.length cy0, .slice Ay1 ([] : List S65).length cy1] 25)))).2.1 (Kd.S_reads' (Kd.S_below Hy1.out (below_alloc (Below.refl _ _) (.cells #[.slice Ay0 y0.length cy0, .slice Ay1 ([] : List S65).length cy1] 25)))).2.2 (Kd.S_reads' (Kd.S_below Hy1.out (below_alloc (Below.refl _ _) (.cells #[.slice Ay0 y0.length cy0, .slice Ay1 ([] : List S65).length cy1] 25)))).2.1 FRr.out).mono ?_; rintro e w8 ⟨v1, rfl, ho1, hb_⟩; obtain ⟨Ar, cr, e_r⟩ := Kd.R_slice ho1; subst e_r; have HS8 := Aside0.mk hb_; have Hr := Aside0.mk ho1; clear hcd0 hcd1 hcx0 hcx1 hld hlx; clear hb_ ho1; have hcd0 : w8.cell? ⟨w.heap.size, 0, none⟩ = some (.slice A0_0 x0.length c0_0) := (blk_cell (blk_below (heap_alloc_new w (.cells #[.slice A0_0 x0.length c0_0, .slice A0_1 l0_1.length c0_1] 25)) (below_step (below_alloc (below_step (below_step (below_step (below_step (below_alloc (below_step (below_step (below_step (Below.refl _ _) HS1.out) HS2.out) HS3.out) (.cells #[.slice Ax0 x0.length cx0, .slice Ax1 x1.length cx1] 25)) HS4.out) HS5.out) HS6.out) HS7.out) (.cells #[.slice Ay0 y0.length cy0, .slice Ay1 ([] : List S65).length cy1] 25)) HS8.out)) 0).trans rfl; have hcd1 : w8.cell? ⟨w.heap.size, 1, none⟩ = some (.slice A0_1 l0_1.length c0_1) := (blk_cell (blk_below (heap_alloc_new w (.cells #[.slice A0_0 x0.length c0_0, .slice A0_1 l0_1.length c0_1] 25)) (below_step (below_alloc (below_step (below_step (below_step (below_step (below_alloc (below_step (below_step (below_step (Below.refl _ _) HS1.out) HS2.out) HS3.out) (.cells #[.slice Ax0 x0.length cx0, .slice Ax1 x1.length cx1] 25)) HS4.out) HS5.out) HS6.out) HS7.out) (.cells #[.slice Ay0 y0.length cy0, .slice Ay1 ([] : List S65).length cy1] 25)) HS8.out)) 1).trans rfl; have hld : w.heap.size < w8.heap.size := blk_lt (blk_below (heap_alloc_new w (.cells #[.slice A0_0 x0.length c0_0, .slice A0_1 l0_1.length c0_1] 25)) (below_step (below_alloc (below_step (below_step (below_step (below_step (below_alloc (below_step (below_step (below_step (Below.refl _ _) HS1.out) HS2.out) HS3.out) (.cells #[.slice Ax0 x0.length cx0, .slice Ax1 x1.length cx1] 25)) HS4.out) HS5.out) HS6.out) HS7.out) (.cells #[.slice Ay0 y0.length cy0, .slice Ay1 ([] : List S65).length cy1] 25)) HS8.out)); have hcx0 : w8.cell? ⟨w3.heap.size, 0, none⟩ = some (.slice Ax0 x0.length cx0) := (blk_cell (blk_below (heap_alloc_new w3 (.cells #[.slice Ax0 x0.length cx0, .slice Ax1 x1.length cx1] 25)) (below_step (below_alloc (below_step (below_step (below_step (below_step (Below.refl _ _) HS4.out) HS5.out) HS6.out) HS7.out) (.cells #[.slice Ay0 y0.length cy0, .slice Ay1 ([] : List S65).length cy1] 25)) HS8.out)) 0).trans rfl; have hcx1 : w8.cell? ⟨w3.heap.size, 1, none⟩ = some (.slice Ax1 x1.length cx1) := (blk_cell (blk_below (heap_alloc_new w3 (.cells #[.slice Ax0 x0.length cx0, .slice Ax1 x1.length cx1] 25)) (below_step (below_alloc (below_step (below_step (below_step (below_step (Below.refl _ _) HS4.out) HS5.out) HS6.out) HS7.out) (.cells #[.slice Ay0 y0.length cy0, .slice Ay1 ([] : List S65).length cy1] 25)) HS8.out)) 1).trans rfl; have hlx : w3.heap.size < w8.heap.size := blk_lt (blk_below (heap_alloc_new w3 (.cells #[.slice Ax0 x0.length cx0, .slice Ax1 x1.length cx1] 25)) (below_step (below_alloc (below_step (below_step (below_step (below_step (Below.refl _ _) HS4.out) HS5.out) HS6.out) HS7.out) (.cells #[.slice Ay0 y0.length cy0, .slice Ay1 ([] : List S65).length cy1] 25)) HS8.out)); have hcy0 : w8.cell? ⟨w7.heap.size, 0, none⟩ = some (.slice Ay0 y0.length cy0) := (blk_cell (blk_below (heap_alloc_new w7 (.cells #[.slice Ay0 y0.length cy0, .slice Ay1 ([] : List S65).length cy1] 25)) (below_step (Below.refl _ _) HS8.out)) 0).trans rfl; have hcy1 : w8.cell? ⟨w7.heap.size, 1, none⟩ = some (.slice Ay1 ([] : List S65).length cy1) := (blk_cell (blk_below (heap_alloc_new w7 (.cells #[.slice Ay0 y0.length cy0, .slice Ay1 ([] : List S65).length cy1] 25)) (below_step (Below.refl _ _) HS8.out)) 1).trans rfl; have hly : w7.heap.size < w8.heap.size := blk_lt (blk_below (heap_alloc_new w7 (.cells #[.slice Ay0 y0.length cy0, .slice Ay1 ([] : List S65).length cy1] 25)) (below_step (Below.refl _ _) HS8.out)))
        | (go_at_call 36; clear TK9; have TK10 := Aside0.mk (show 0 = 0 from rfl); refine (hWaits.calls Ax0 cx0 x0 Ax1 cx1 x1 a1 true 0 _ (Kd.S_reads' (Kd.S_below Hx0.out (below_step (below_alloc (below_step (below_step (below_step (below_step (below_alloc (Below.refl _ _) (.cells #[.slice Ax0 x0.length cx0, .slice Ax1 x1.length cx1] 25)) HS4.out) HS5.out) HS6.out) HS7.out) (.cells #[.slice Ay0 y0.length cy0, .slice Ay1 ([] : List S65).length cy1] 25)) HS8.out))).2.2 (Kd.S_reads' (Kd.S_below Hx0.out (below_step (below_alloc (below_step (below_step (below_step (below_step (below_alloc (Below.refl _ _) (.cells #[.slice Ax0 x0.length cx0, .slice Ax1 x1.length cx1] 25)) HS4.out) HS5.out) HS6.out) HS7.out) (.cells #[.slice Ay0 y0.length cy0, .slice Ay1 ([] : List S65).length cy1] 25)) HS8.out))).2.1 (Kd.S_reads' (Kd.S_below Hx1.out (below_step (below_alloc (below_step (below_step (below_step (below_step (below_alloc (Below.refl _ _) (.cells #[.slice Ax0 x0.length cx0, .slice Ax1 x1.length cx1] 25)) HS4.out) HS5.out) HS6.out) HS7.out) (.cells #[.slice Ay0 y0.length cy0, .slice Ay1 ([] : List S65).length cy1] 25)) HS8.out))).2.2 (Kd.S_reads' (Kd.S_below Hx1.out (below_step (below_alloc (below_step (below_step (below_step (below_step (below_alloc (Below.refl _ _) (.cells #[.slice Ax0 x0.length cx0, .slice Ax1 x1.length cx1] 25)) HS4.out) HS5.out) HS6.out) HS7.out) (.cells #[.slice Ay0 y0.length cy0, .slice Ay1 ([] : List S65).length cy1] 25)) HS8.out))).2.1 FW.out).mono ?_; rintro e w9 ⟨rfl, hb_⟩; have HS9 := Aside0.mk hb_; clear hcd0 hcd1 hcx0 hcx1 hcy0 hcy1 hld hlx hly; clear hb_; have hcd0 : w9.cell? ⟨w.heap.size, 0, none⟩ = some (.slice A0_0 x0.length c0_0) := (blk_cell (blk_below (heap_alloc_new w (.cells #[.slice A0_0 x0.length c0_0, .slice A0_1 l0_1.length c0_1] 25)) (below_step (below_step (below_alloc (below_step (below_step (below_step (below_step (below_alloc (below_step (below_step (below_step (Below.refl _ _) HS1.out) HS2.out) HS3.out) (.cells #[.slice Ax0 x0.length cx0, .slice Ax1 x1.length cx1] 25)) HS4.out) HS5.out) HS6.out) HS7.out) (.cells #[.slice Ay0 y0.length cy0, .slice Ay1 ([] : List S65).length cy1] 25)) HS8.out) HS9.out)) 0).trans rfl; have hcd1 : w9.cell? ⟨w.heap.size, 1, none⟩ = some (.slice A0_1 l0_1.length c0_1) := (blk_cell (blk_below (heap_alloc_new w (.cells #[.slice A0_0 x0.length c0_0, .slice A0_1 l0_1.length c0_1] 25)) (below_step (below_step (below_alloc (below_step (below_step (below_step (below_step (below_alloc (below_step (below_step (below_step (Below.refl _ _) HS1.out) HS2.out) HS3.out) (.cells #[.slice Ax0 x0.length cx0, .slice Ax1 x1.length cx1] 25)) HS4.out) HS5.out) HS6.out) HS7.out) (.cells #[.slice Ay0 y0.length cy0, .slice Ay1 ([] : List S65).length cy1] 25)) HS8.out) HS9.out)) 1).trans rfl; have hld : w.heap.size < w9.heap.size := blk_lt (blk_below (heap_alloc_new w (.cells #[.slice A0_0 x0.length c0_0, .slice A0_1 l0_1.length c0_1] 25)) (below_step (below_step (below_alloc (below_step (below_step (below_step (below_step (below_alloc (below_step (below_step (below_step (Below.refl _ _) HS1.out) HS2.out) HS3.out) (.cells #[.slice Ax0 x0.length cx0, .slice Ax1 x1.length cx1] 25)) HS4.out) HS5.out) HS6.out) HS7.out) (.cells #[.slice Ay0 y0.length cy0, .slice Ay1 ([] : List S65).length cy1] 25)) HS8.out) HS9.out)); have hcx0 : w9.cell? ⟨w3.heap.size, 0, none⟩ = some (.slice Ax0 x0.length cx0) := (blk_cell (blk_below (heap_alloc_new w3 (.cells #[.slice Ax0 x0.length cx0, .slice Ax1 x1.length cx1] 25)) (below_step (below_step (below_alloc (below_step (below_step (below_step (below_step (Below.refl _ _) HS4.out) HS5.out) HS6.out) HS7.out) (.cells #[.slice Ay0 y0.length cy0, .slice Ay1 ([] : List S65).length cy1] 25)) HS8.out) HS9.out)) 0).trans rfl; have hcx1 : w9.cell? ⟨w3.heap.size, 1, none⟩ = some (.slice Ax1 x1.length cx1) := (blk_cell (blk_below (heap_alloc_new w3 (.cells #[.slice Ax0 x0.length cx0, .slice Ax1 x1.length cx1] 25)) (below_step (below_step (below_alloc (below_step (below_step (below_step (below_step (Below.refl _ _) HS4.out) HS5.out) HS6.out) HS7.out) (.cells #[.slice Ay0 y0.length cy0, .slice Ay1 ([] : List S65).length cy1] 25)) HS8.out) HS9.out)) 1).trans rfl; have hlx : w3.heap.size < w9.heap.size := blk_lt (blk_below (heap_alloc_new w3 (.cells #[.slice Ax0 x0.length cx0, .slice Ax1 x1.length cx1] 25)) (below_step (below_step (below_alloc (below_step (below_step (below_step (below_step (Below.refl _ _) HS4.out) HS5.out) HS6.out) HS7.out) (.cells #[.slice Ay0 y0.length cy0, .slice Ay1 ([] : List S65).length cy1] 25)) HS8.out) HS9.out)); have hcy0 : w9.cell? ⟨w7.heap.size, 0, none⟩ = some (.slice Ay0 y0.length cy0) := (blk_cell (blk_below (heap_alloc_new w7 (.cells #[.slice Ay0 y0.length cy0, .slice Ay1 ([] : List S65).length cy1] 25)) (below_step (below_step (Below.refl _ _) HS8.out) HS9.out)) 0).trans rfl; have hcy1 : w9.cell? ⟨w7.heap.size, 1, none⟩ = some (.slice Ay1 ([] : List S65).length cy1) := (blk_cell (blk_below (heap_alloc_new w7 (.cells #[.slice Ay0 y0.length cy0, .slice Ay1 ([] : List S65).length cy1] 25)) (below_step (below_step (Below.refl _ _) HS8.out) HS9.out)) 1).trans rfl; have hly : w7.heap.size < w9.heap.size := blk_lt (blk_below (heap_alloc_new w7 (.cells #[.slice Ay0 y0.length cy0, .slice Ay1 ([] : List S65).length cy1] 25)) (below_step (below_step (Below.refl _ _) HS8.out) HS9.out)); have hs1 := Kd.C_string (P := Try.prog) (A := Ag) (c := cg) Try.underlying26 Try.underlying5 Try.underlying9 (Kd.R_reads' (Kd.R_below Hg.out (below_step (below_step (below_alloc (below_step (below_step (below_step (Below.refl _ _) HS5.out) HS6.out) HS7.out) (.cells #[.slice Ay0 y0.length cy0, .slice Ay1 ([] : List S65).length cy1] 25)) HS8.out) HS9.out))).2.2; have hs2 := Kd.C_string (P := Try.prog) (A := A3) (c := c3) Try.underlying26 Try.underlying5 Try.underlying9 (Kd.C_below HR3.out (below_step (below_step (below_alloc (below_step (below_step (below_step (below_step (below_alloc (below_step (below_step (below_step (below_alloc (Below.refl _ _) (.cells #[.slice A0_0 x0.length c0_0, .slice A0_1 l0_1.length c0_1] 25)) HS1.out) HS2.out) HS3.out) (.cells #[.slice Ax0 x0.length cx0, .slice Ax1 x1.length cx1] 25)) HS4.out) HS5.out) HS6.out) HS7.out) (.cells #[.slice Ay0 y0.length cy0, .slice Ay1 ([] : List S65).length cy1] 25)) HS8.out) HS9.out)); have hs3 := Kd.C_string (P := Try.prog) (A := Ap) (c := cp) Try.underlying26 Try.underlying5 Try.underlying9 (Kd.R_reads' (Kd.R_below Hp.out (below_step (below_step (below_alloc (below_step (below_step (Below.refl _ _) HS6.out) HS7.out) (.cells #[.slice Ay0 y0.length cy0, .slice Ay1 ([] : List S65).length cy1] 25)) HS8.out) HS9.out))).2.2; have hs4 := Kd.C_string (P := Try.prog) (A := Aq) (c := cq) Try.underlying26 Try.underlying5 Try.underlying9 (Kd.R_reads' (Kd.R_below Hq.out (below_step (below_step (below_alloc (below_step (Below.refl _ _) HS7.out) (.cells #[.slice Ay0 y0.length cy0, .slice Ay1 ([] : List S65).length cy1] 25)) HS8.out) HS9.out))).2.2; have hs5 := Kd.C_string (P := Try.prog) (A := Ar) (c := cr) Try.underlying26 Try.underlying5 Try.underlying9 (Kd.R_reads' (Kd.R_below Hr.out (below_step (Below.refl _ _) HS9.out))).2.2))
      go_ret
      exact ⟨rfl, (below_step (below_step (below_alloc (below_step (below_step (below_step (below_step (below_alloc (below_step (below_step (below_step (below_alloc (Below.refl _ _) (.cells #[.slice A0_0 x0.length c0_0, .slice A0_1 l0_1.length c0_1] 25)) HS1.out) HS2.out) HS3.out) (.cells #[.slice Ax0 x0.length cx0, .slice Ax1 x1.length cx1] 25)) HS4.out) HS5.out) HS6.out) HS7.out) (.cells #[.slice Ay0 y0.length cy0, .slice Ay1 ([] : List S65).length cy1] 25)) HS8.out) HS9.out)⟩
end Go.Proofs.Ytjlohdbkjoofcaa.P
end
section
set_option linter.unusedVariables false
set_option linter.unusedSimpArgs false
namespace Go.Proofs.Ytjlohdbkjoofcaa.P
open Go.RowKit Go.Proofs.PrintWords Go.Proofs.PrintLast Go.Proofs.PrintMore
attribute [local go_sem] max2_int min2_int max_two min_two max_three min_three max_four min_four
open Go.ChangeShapes Go.WideShapes Go.Deep Go.Joins
section
variable {H : Type} {enc : TypeId × Value → H} {w : World} {base : Nat}
theorem list_of {α : Type} (n : Nat) (p : Nat → α → Prop) (h : ∀ i, i < n → ∃ x, p i x) : ∃ l : List α, l.length = n ∧ ∀ i x, l[i]? = some x → p i x := by
  induction n with
  | zero => exact ⟨[], rfl, fun i x hx => by simp at hx⟩
  | succ n ih =>
    obtain ⟨l, hl, hp⟩ := ih fun i hi => h i (by omega)
    obtain ⟨x, hx⟩ := h n (by omega)
    refine ⟨l ++ [x], by simp [hl], fun i y hy => ?_⟩
    by_cases hi : i < l.length
    · rw [List.getElem?_append_left hi] at hy
      exact hp i y hy
    · rw [List.getElem?_append_right (by omega)] at hy
      have : i - l.length = 0 := by
        have := (List.getElem?_eq_some_iff.1 hy).1
        simp at this
        omega
      rw [this] at hy
      simp at hy
      subst hy
      rw [show i = n by omega]
      exact hx
theorem byte_of_wf {n : Int} (h : (Lit.int .u8 n).wf = true) : 0 ≤ n ∧ n ≤ 255 := by
  have h : (decide ((0 : Int) ≤ n) && decide (n ≤ 255)) = true := h
  simpa using h
theorem open_text {n : Nat} {v : Value} {y : DataW H × List MemPlace} (h : DataW.trod enc Try.prog w base (fun _ => true) true n 26 [v] = some y) :
    ∃ (A : Option Addr) (c : Nat) (l : List Int), v = .slice A l.length c ∧ l.length ≤ c ∧ Kd.C (Kd.int .u8) w A l.length l ∧ byteL l := by
  have fin : ∀ (a : Option Addr) (len cap : Nat) (zs : List Int), ((a = none ∧ len = 0 ∧ cap = 0 ∧ zs = []) ∨ ∃ x, a = some x ∧ len ≤ cap ∧ cap ≤ maxLen ∧ zs.length = cap ∧ (∀ i, i < zs.length → w.cell? (x.add i) = some (.int .u8 (zs.getD i 0))) ∧ ∀ n ∈ zs, (Lit.int .u8 n).wf = true) → [v] = [.slice a len cap] →
      ∃ (A : Option Addr) (c : Nat) (l : List Int), v = .slice A l.length c ∧ l.length ≤ c ∧ Kd.C (Kd.int .u8) w A l.length l ∧ byteL l := by
    intro a len cap zs hr hv
    obtain ⟨l, rfl, hr, hm, hw, hc⟩ := ReadsInt.ofRowC hr
    exact ⟨a, cap, l, by simpa using hv, hc, Kd.C_of_reads (d := (0 : Int)) (h1 := fun _ => rfl) hr, fun n hn => byte_of_wf (hw n hn)⟩
  rcases open_ints Try.underlying26 Try.underlying5 (by kernel_rfl) h with ⟨hcs, _⟩ | ⟨x, l, c, zs, hcs, _, hl, hm, hz, _, hcell, hwz⟩
  · exact fin none 0 0 [] (.inl ⟨rfl, rfl, rfl, rfl⟩) hcs
  · exact fin (some x) l c zs (.inr ⟨x, rfl, hl, hm, by simpa using hz, hcell, hwz⟩) hcs
theorem cells2 {w : World} {base : Nat} {a : Addr} {cs : List Value} (h : w.cells? base a 2 = some cs) : ∃ u v, cs = [u, v] ∧ w.cell? (a.add 0) = some u ∧ w.cell? (a.add 1) = some v := by
  obtain ⟨_, hl, hat⟩ := World.cells?_some h
  match cs, hl with
  | [u, v], _ => exact ⟨u, v, rfl, by have := hat 0 (by omega); simpa using this, by have := hat 1 (by omega); simpa using this⟩
theorem open_secs {n : Nat} {v : Value} {y : DataW H × List MemPlace} (h : DataW.trod enc Try.prog w base (fun _ => true) true n 22 [v] = some y) :
    ∃ (A : Option Addr) (c : Nat) (l : List S52), v = .slice A l.length c ∧ l.length ≤ c ∧ Kd.C k52 w A l.length l ∧ ∀ s ∈ l, byteL s.f0 := by
  have hC : Try.prog.cellsOf 52 = 2 := by kernel_rfl
  rcases Go.Deep.open_slice Try.underlying22 h with ⟨hcs, _⟩ | ⟨a, len, cap, m, n', D, Pl, hcs, hb, hl, hm, hmm, hx, hi⟩
  · obtain rfl : v = .slice none 0 0 := by simpa using hcs
    exact ⟨none, 0, [], rfl, Nat.le_refl _, ⟨rfl, by simp, fun h => absurd h (by simp)⟩, by simp⟩
  · obtain rfl : v = .slice (some a) len cap := by simpa using hcs
    have hm2 : cap ≤ 9223372036854775807 := by have : maxLen ≤ 9223372036854775807 := by decide +kernel
                                               omega
    obtain ⟨l, hll, hp⟩ := list_of len (fun i (s : S52) => ∃ cs, cs.length = 2 ∧ k52.K w s cs ∧ (∀ j u, cs[j]? = some u → w.cell? (a.add (i * 2 + j)) = some u) ∧ byteL s.f0) fun i hil => by
      obtain ⟨cs', hc, ht⟩ := hi i (by rw [hmm]; simp; omega)
      rw [hC] at hc
      obtain ⟨u, x, rfl, h0, h1⟩ := cells2 hc
      obtain ⟨y0, y1, n2, _, _, q0, q1⟩ := trod_struct2 Try.underlying52 ht
      have e0 : Try.prog.cellsOf 26 = 1 := by kernel_rfl
      have e1 : Try.prog.cellsOf 4 = 1 := by kernel_rfl
      simp only [e0, e1, List.drop_zero, List.drop_succ_cons, List.take_succ_cons, List.take_zero] at q0 q1
      obtain ⟨A1, c1, b, rfl, hbc, hbC, hby⟩ := open_text q0
      obtain ⟨bb, hbb, _⟩ := DataW.trod_bool Try.underlying4 q1
      obtain rfl : x = .bool bb := by simpa using hbb
      refine ⟨⟨b, bb⟩, [.slice A1 b.length c1, .bool bb], rfl, k52_mk w ⟨b, bb⟩ hbc hbC, fun j u hj => ?_, hby⟩
      rw [← Go.Deep.add_add]
      match j, hj with
      | 0, hj => rw [h0]; simpa using hj
      | 1, hj => rw [h1]; simpa using hj
      | j + 2, hj => simp at hj
    subst hll
    refine ⟨some a, cap, l, rfl, hl, ⟨rfl, by omega, fun _ => ⟨a, rfl, fun j s hs => ?_⟩⟩, fun s hs => ?_⟩
    · obtain ⟨cs, h1, h2, h3, _⟩ := hp j s hs
      exact ⟨cs, h1, h2, h3⟩
    · obtain ⟨j, hj, rfl⟩ := List.mem_iff_getElem.1 hs
      exact (hp j _ (List.getElem?_eq_getElem hj)).choose_spec.2.2.2
theorem open_pends {n : Nat} {v : Value} {y : DataW H × List MemPlace} (h : DataW.trod enc Try.prog w base (fun _ => true) true n 23 [v] = some y) :
    ∃ (A : Option Addr) (c : Nat) (l : List S65), v = .slice A l.length c ∧ l.length ≤ c ∧ Kd.C k65 w A l.length l ∧ ∀ s ∈ l, byteL s.f1 := by
  have hC : Try.prog.cellsOf 65 = 2 := by kernel_rfl
  rcases Go.Deep.open_slice Try.underlying23 h with ⟨hcs, _⟩ | ⟨a, len, cap, m, n', D, Pl, hcs, hb, hl, hm, hmm, hx, hi⟩
  · obtain rfl : v = .slice none 0 0 := by simpa using hcs
    exact ⟨none, 0, [], rfl, Nat.le_refl _, ⟨rfl, by simp, fun h => absurd h (by simp)⟩, by simp⟩
  · obtain rfl : v = .slice (some a) len cap := by simpa using hcs
    have hm2 : cap ≤ 9223372036854775807 := by have : maxLen ≤ 9223372036854775807 := by decide +kernel
                                               omega
    obtain ⟨l, hll, hp⟩ := list_of len (fun i (s : S65) => ∃ cs, cs.length = 2 ∧ k65.K w s cs ∧ (∀ j u, cs[j]? = some u → w.cell? (a.add (i * 2 + j)) = some u) ∧ byteL s.f1) fun i hil => by
      obtain ⟨cs', hc, ht⟩ := hi i (by rw [hmm]; simp; omega)
      rw [hC] at hc
      obtain ⟨u, x, rfl, h0, h1⟩ := cells2 hc
      obtain ⟨y0, y1, n2, _, _, q0, q1⟩ := trod_struct2 Try.underlying65 ht
      have e0 : Try.prog.cellsOf 26 = 1 := by kernel_rfl
      have e1 : Try.prog.cellsOf 3 = 1 := by kernel_rfl
      simp only [e0, e1, List.drop_zero, List.drop_succ_cons, List.take_succ_cons, List.take_zero] at q0 q1
      obtain ⟨A1, c1, b, rfl, hbc, hbC, hby⟩ := open_text q1
      obtain ⟨bb, hbb, _⟩ := DataW.trod_int Try.underlying3 q0
      obtain rfl : u = .int .i64 bb := by simpa using hbb
      refine ⟨⟨bb, b⟩, [.int .i64 bb, .slice A1 b.length c1], rfl, k65_mk w ⟨bb, b⟩ hbc hbC, fun j u hj => ?_, hby⟩
      rw [← Go.Deep.add_add]
      match j, hj with
      | 0, hj => rw [h0]; simpa using hj
      | 1, hj => rw [h1]; simpa using hj
      | j + 2, hj => simp at hj
    subst hll
    refine ⟨some a, cap, l, rfl, hl, ⟨rfl, by omega, fun _ => ⟨a, rfl, fun j s hs => ?_⟩⟩, fun s hs => ?_⟩
    · obtain ⟨cs, h1, h2, h3, _⟩ := hp j s hs
      exact ⟨cs, h1, h2, h3⟩
    · obtain ⟨j, hj, rfl⟩ := List.mem_iff_getElem.1 hs
      exact (hp j _ (List.getElem?_eq_getElem hj)).choose_spec.2.2.2
set_option maxRecDepth 100000 in
theorem open_disk {r : Reach} {b0 : Nat} {v : Value} {d : DataW H} {p : List MemPlace} (hv : Value.okWide Try.prog w r b0 25 v) (h : DataW.Trod enc Try.prog w base (fun _ => true) true 25 v d p) :
    ∃ (A0 : Option Addr) (c0 : Nat) (l0 : List S52) (A1 : Option Addr) (c1 : Nat) (l1 : List S65), v = .agg #[.slice A0 l0.length c0, .slice A1 l1.length c1] ∧ l0.length ≤ c0 ∧ Kd.C k52 w A0 l0.length l0 ∧ l1.length ≤ c1 ∧ Kd.C k65 w A1 l1.length l1 ∧ bytesD l0 l1 := by
  obtain ⟨v0, v1, y0, y1, n, rfl, _, _, h0, h1⟩ := open_agg2 Try.underlying25 (by kernel_rfl) (by kernel_rfl) hv h
  obtain ⟨A0, c0, l0, rfl, a1, a2, a3⟩ := open_secs h0
  obtain ⟨A1, c1, l1, rfl, b1, b2, b3⟩ := open_pends h1
  exact ⟨A0, c0, l0, A1, c1, l1, rfl, a1, a2, b1, b2, a3, b3⟩
end
section
variable {H : Type} {enc : TypeId × Value → H} {w : World} {base : Nat}
set_option maxRecDepth 100000 in
theorem open_bytes {r : Reach} {b0 : Nat} {v : Value} {d : DataW H} {p : List MemPlace} (hv : Value.okWide Try.prog w r b0 26 v) (h : DataW.Trod enc Try.prog w base (fun _ => true) true 26 v d p) :
    ∃ (A : Option Addr) (c : Nat) (l : List Int), v = .slice A l.length c ∧ l.length ≤ c ∧ Kd.C (Kd.int .u8) w A l.length l ∧ byteL l := by
  obtain ⟨a, len, cap, rfl⟩ := okWide_slice Try.underlying26 hv
  obtain ⟨fuel, hf⟩ := h
  exact open_text hf
end
end Go.Proofs.Ytjlohdbkjoofcaa.P
end
section
set_option linter.unusedVariables false
set_option linter.unusedSimpArgs false
namespace Go.Proofs.Ytjlohdbkjoofcaa.P
open Go.RowKit Go.Proofs.PrintWords Go.Proofs.PrintLast Go.Proofs.PrintMore
attribute [local go_sem] max2_int min2_int max_two min_two max_three min_three max_four min_four
end Go.Proofs.Ytjlohdbkjoofcaa.P
namespace Go.Proofs.Ytjlohdbkjoofcaa.diskReads
open Go.Proofs.Ytjlohdbkjoofcaa.P
open Go.ChangeShapes Go.WideShapes Go.ChangeAt Go.RowKit
open Go.ChangeMaps (open_string shut_string)
theorem own : ownKnob Try.prog.godebug = none := by kernel_rfl
theorem laidOut : laidOutB Try.prog = true := by kernel_rfl
set_option maxRecDepth 100000 in
theorem lifted (os : Os) (started : os.Started) (H : Type) (enc : TypeId × Value → H) :
    ReturnsInHanded {} Try.checked os 8 .any (Rows.diskReadsSpec.pre6 enc Try.prog Try.f8 Rows.diskReadsRow.domain false) (Rows.diskReadsSpec.post enc Try.prog Try.f8 false true false false) := by
  refine returnsInHanded_of_change_sized (C := Try.checked) own started (by kernel_rfl) Try.func8
    (ChangeSpec.witness6 (enc := enc) (C := Try.checked) false ⟨#[], #[.agg #[.slice none 0 0, .slice none 0 0], .int .i64 0, .int .i64 0, .slice none 0 0], []⟩ 8 (by kernel_rfl) (by kernel_rfl) (by kernel_rfl) (by kernel_rfl)) ?_
  intro W base args ds gs before hval0 hW hcnd hsz0 _
  have hval : ∀ (j : Nat) t v, Try.f8.params[j]? = some t → args[j]? = some v → Value.okWide Try.prog W .any base t v := hval0
  have hW' := hW
  obtain ⟨p, q, hA0, hV, rfl, hfz, hnd⟩ := hW
  have hA : DataW.TrodAll enc Try.prog W 0 (fun _ => true) true Try.f8.params.toList args.toList ds p := hA0
  rw [Try.params8] at hA hval
  obtain ⟨v0, vs0, d0, ds0, p0, q0, hargs, rfl, rfl, h0, r0⟩ := trodAll_cons hA
  obtain ⟨v1, vs1, d1, ds1, p1, q1, rfl, rfl, rfl, h1, r1⟩ := trodAll_cons r0
  obtain ⟨v2, vs2, d2, ds2, p2, q2, rfl, rfl, rfl, h2, r2⟩ := trodAll_cons r1
  obtain ⟨v3, vs3, d3, ds3, p3, q3, rfl, rfl, rfl, h3, r3⟩ := trodAll_cons r2
  obtain ⟨rfl, rfl, rfl⟩ := trodAll_nil r3
  obtain rfl : args = #[v0, v1, v2, v3] := by cases args; simp_all
  obtain ⟨rfl, rfl⟩ := trodVars_none hV
  have k0 := h0
  have lt0 : ∀ x ∈ p0, x.block < W.heap.size := by obtain ⟨m, hm⟩ := k0; exact DataW.trod_lt m _ _ _ hm
  obtain ⟨A0_0, c0_0, l0_0, A0_1, c0_1, l0_1, rfl, hc0_0, hr0_0, hc0_1, hr0_1, hb0⟩ := open_disk (hval 0 25 v0 rfl rfl) h0
  obtain ⟨a1, rfl, rfl, rfl, w1⟩ := open_int Try.underlying3 (hval 1 3 v1 rfl rfl) h1
  obtain ⟨a2, rfl, rfl, rfl, w2⟩ := open_int Try.underlying3 (hval 2 3 v2 rfl rfl) h2
  have k3 := h3
  have lt3 : ∀ x ∈ p3, x.block < W.heap.size := by obtain ⟨m, hm⟩ := k3; exact DataW.trod_lt m _ _ _ hm
  obtain ⟨A3, c3, l3, rfl, hc3, hr3, hb3⟩ := open_bytes (hval 3 26 v3 rfl rfl) h3
  clear hA0 hval0 hsz0
  refine (law8.calls A0_0 c0_0 l0_0 A0_1 c0_1 l0_1 a1 a2 A3 c3 l3 W hr0_0 hc0_0 hr0_1 hc0_1 hr3 hc3).mono fun e W' ⟨he, bel⟩ => ?_
  subst he
  exact ⟨_, rfl, _, _, _, [], _, [], hW', trodAll_mk1 (shut_bool Try.underlying4 _), (trodAll_cons_mk (Below.trod laidOut (by kernel_rfl) (of_decide_eq_true (by kernel_rfl)) k0 bel lt0) (trodAll_cons_mk (shut_int Try.underlying3 w1) (trodAll_cons_mk (shut_int Try.underlying3 w2) (trodAll_cons_mk (Below.trod laidOut (by kernel_rfl) (of_decide_eq_true (by kernel_rfl)) k3 bel lt3) trodAll_mk0)))), rfl, bel.frame _, fun h => by cases h⟩
theorem named : Try.prog.funcNamed Rows.diskReadsRow.func = some 8 := by kernel_rfl
theorem closed : joinedFacts Try.prog 8 Try.f8 Rows.diskReadsSpec Rows.diskReadsRow = true := joined_of _ _ _ _ _ (by kernel_rfl) laid_is mapsRowed_is (by kernel_rfl) (by kernel_rfl) (by kernel_rfl) stops_is (by kernel_rfl) stopKnobs_is (by kernel_rfl) (by kernel_rfl) (by kernel_rfl) (by kernel_rfl) (by kernel_rfl) (by kernel_rfl) (by kernel_rfl) (by kernel_rfl) (by kernel_rfl) (by kernel_rfl) (by kernel_rfl) (by kernel_rfl) (by kernel_rfl) (by rw [plainKeys_is]; rfl) (by kernel_rfl) stopsHeard_is mayEnter_is (by rw [liftsFinal_is]; rfl) (by rw [make_is]; rfl) (by kernel_rfl) (by kernel_rfl) (by kernel_rfl) (by kernel_rfl)
theorem inst : Try.f8.isInstance Try.prog Rows.diskReadsRow.origin Rows.diskReadsRow.targs := of_decide_eq_true (by kernel_rfl)
theorem wrap : Try.f8.isWrapper Try.prog Rows.diskReadsRow.wrapper Rows.diskReadsRow.mainSum := by unfold Func.isWrapper; first | (rw [if_pos (by decide +kernel)]; kernel_rfl) | (rw [if_neg (by decide +kernel)]; exact ⟨rfl, rfl⟩)
theorem over : Rows.diskReadsRow.holds Try.pinned (OpenSpec.ofChange Rows.diskReadsSpec) :=
  OpenClaim.holds_of_wide 8 Try.f8 rfl rfl rfl rfl rfl rfl rfl ⟨rfl, rfl, rfl, rfl, rfl⟩ rfl rfl rfl rfl rfl named Try.func8 closed inst wrap
    (fun os started H enc _ => lifted os started H enc)
theorem proved : Rows.DiskReadsSaid := over
end Go.Proofs.Ytjlohdbkjoofcaa.diskReads
namespace Go.Proofs.Ytjlohdbkjoofcaa
theorem diskReads_holds : Rows.DiskReadsSaid := diskReads.proved
#print axioms diskReads_holds
end Go.Proofs.Ytjlohdbkjoofcaa
namespace Go.Proofs.Ytjlohdbkjoofcaa.P
end Go.Proofs.Ytjlohdbkjoofcaa.P
end
