/- Part 3 of the proof: DiskNames: the examples of the chapter on disks and the limits', fates' and errors' numbers hold of the program; no arguments, no condition. -/
import Derived.BigRegion
import Derived.Test.YtdkjhcdniepbhaaDiskNames02
section
set_option linter.unusedVariables false
set_option linter.unusedSimpArgs false
namespace Go.Proofs.Ytdkjhcdniepbhaa.P
open Go.RowKit Go.Proofs.PrintWords Go.Proofs.PrintLast Go.Proofs.PrintMore
attribute [local go_sem] max2_int min2_int max_two min_two max_three min_three max_four min_four
def beN : Nat → Int → List Int
  | 0, _ => []
  | k + 1, n => (n / 256 ^ k % 256) :: beN k n
theorem beN_length : ∀ (k : Nat) (n : Int), (beN k n).length = k
  | 0, _ => rfl
  | k + 1, n => by rw [beN, List.length_cons, beN_length k n]
def laidN (l : List Int) (o s k : Nat) (n : Int) : List Int := l.take (o + s - k) ++ beN k n ++ l.drop (o + s)
theorem laidN_zero (l : List Int) (o s : Nat) (n : Int) : laidN l o s 0 n = l := by simp [laidN, beN]
theorem laidN_length {l : List Int} {o s k : Nat} (n : Int) (h : o + s ≤ l.length) (hk : k ≤ s) : (laidN l o s k n).length = l.length := by
  simp [laidN, beN_length]
  omega
theorem laidN_set {l : List Int} {o s k : Nat} (n : Int) (h : o + s ≤ l.length) (hk : k < s) : (laidN l o s k n).set (o + (s - 1 - k)) (n / 256 ^ k % 256) = laidN l o s (k + 1) n := by
  unfold laidN
  rw [List.append_assoc, List.set_append_left _ _ (by simp; omega), beN, List.append_assoc]
  have e : o + s - k = (o + s - (k + 1)) + 1 := by omega
  rw [e, List.take_succ_eq_append_getElem (by omega), List.set_append_right _ _ (by simp; omega)]
  simp
  rw [show o + (s - 1 - k) - min (o + s - (k + 1)) l.length = 0 by omega]
  simp
theorem pow256_succ (n : Int) (k : Nat) : n / 256 ^ k / 256 = n / 256 ^ (k + 1) := by
  rw [Int.ediv_ediv_of_nonneg (Int.pow_nonneg (by decide)), Int.pow_succ]
theorem u8_cell {w : World} {base g cap : Nat} {ok : Nat → Prop} {l : List Int} (h : Kd.R (Kd.int .u8) 5 w base ok (.slice (some ⟨g, 0, none⟩) l.length cap) l) (i : Nat) (hi : i < l.length) : w.cell? ⟨g, i, none⟩ = some (.int .u8 (rd l i)) ∧ w.frozen? ⟨g, i, none⟩ = false := by
  exact Kd.R_cell (enc := Value.int .u8) (h1 := fun _ => rfl) (0 : Int) h (i : Int) (by omega) (by omega)
theorem u8_put {w : World} {base g cap : Nat} {ok : Nat → Prop} {l : List Int} (h : Kd.R (Kd.int .u8) 5 w base ok (.slice (some ⟨g, 0, none⟩) l.length cap) l) (i : Nat) (x : Int) : Kd.R (Kd.int .u8) 5 (w.setCell ⟨g, i, none⟩ (.int .u8 x)) base ok (.slice (some ⟨g, 0, none⟩) l.length cap) (l.set i x) := by
  exact (Kd.R_put (enc := Value.int .u8) (h1 := fun _ => rfl) h (i : Int) x).1
set_option maxHeartbeats 4000000 in
set_option maxRecDepth 100000 in
theorem hDigits.calls (g o s c cap base : Nat) (ok : Nat → Prop) (l : List Int) (n : Int) (w : World) (hb : Kd.R (Kd.int .u8) 5 w base ok (.slice (some ⟨g, 0, none⟩) l.length cap) l) (hgl : g < w.heap.size) (ho : o + s ≤ l.length) (hm : l.length ≤ 1000) (h0 : 0 ≤ n) :
    Calls Try.prog 99 #[.slice (some ⟨g, o, none⟩) s c, .int .u64 n] w fun e w' => e = .returned (.bool (n / 256 ^ s == 0)) ∧ Kd.R (Kd.int .u8) 5 w' base ok (.slice (some ⟨g, 0, none⟩) l.length cap) (laidN l o s s n) ∧ Btw g (g + 1) w w' := by
  have HB := Aside0.mk hb
  have HX := Aside0.mk (Btw.refl g (g + 1) w)
  clear hb
  go_enter Try.func99, Try.ntmps99
  go_wp2_with fail
  go_loopw [1, 8] (fun nv iv wr => ∃ k : Nat, k ≤ s ∧ iv = .int .i64 k ∧ nv = .int .u64 (n / 256 ^ k) ∧ Aside0 (Kd.R (Kd.int .u8) 5 wr base ok (.slice (some ⟨g, 0, none⟩) l.length cap) (laidN l o s k n)) ∧ Aside0 (Btw g (g + 1) w wr)) (fun nv iv _ => s - (intOf iv).toNat)
  case atStart => exact ⟨0, Nat.zero_le _, rfl, by simp, by rw [laidN_zero]; exact HB, HX⟩
  case round =>
    clear HB HX
    obtain ⟨k, hk, rfl, rfl, HB, HX⟩ := hrel
    by_cases hlt : k < s
    · have hl := laidN_length n ho (Nat.le_of_lt hlt)
      have hcl := u8_cell (by rw [hl]; exact HB.out) (o + (s - 1 - k)) (by omega)
      have hz3 := hcl.1
      have hf3 := hcl.2
      have hp0 : 0 ≤ n / 256 ^ k := Int.ediv_nonneg h0 (Int.pow_nonneg (by decide))
      have hp1 : n / 256 ^ k ≤ n := Int.ediv_le_self _ h0
      have hput := u8_put (by rw [hl]; exact HB.out) (o + (s - 1 - k)) (n / 256 ^ k % 256)
      rw [laidN_set n ho hlt, hl] at hput
      have HPUT := Aside0.mk hput
      have HL := Aside0.mk hl
      clear hcl hput hl
      go_wp2_with fail
      refine ⟨⟨k + 1, by omega, by go_num, by rw [pow256_succ], HPUT, ⟨HX.out.set (p := ⟨g, o + (s - 1 - k), none⟩) (Nat.le_refl g) (Nat.lt_succ_self g) _⟩⟩, ?_⟩
      simp [intOf]; omega
    · obtain rfl : k = s := by omega
      go_wp2_with fail
      go_ret
      exact ⟨rfl, HB.out, HX.out⟩
end Go.Proofs.Ytdkjhcdniepbhaa.P
end
