/- Part 2 of the proof: DiskNames: the examples of the chapter on disks and the limits', fates' and errors' numbers hold of the program; no arguments, no condition. -/
import Derived.Lib.SliceRun
import Derived.Test.YtdkjhcdniepbhaaDiskNames01
section
set_option linter.unusedVariables false
set_option linter.unusedSimpArgs false
namespace Go.Proofs.Ytdkjhcdniepbhaa.P
open Go.RowKit Go.Proofs.PrintWords Go.Proofs.PrintLast Go.Proofs.PrintMore
attribute [local go_sem] max2_int min2_int max_two min_two max_three min_three max_four min_four
def hClone.f (l0 : List Int) : Option (List Int) := if l0.length < 140737488355328 then some l0 else none
set_option maxHeartbeats 1000000 in
theorem hClone.calls (A0 : Option Addr) (c0 : Nat) (l0 : List Int) (r : List Int) (w : World) (hr0 : Kd.C (Kd.int .u8) w A0 l0.length l0) (hc0 : l0.length ≤ c0) (h : hClone.f l0 = some r) :
    Calls Try.prog 59 #[.slice A0 l0.length c0] w fun e w' => ∃ v0_ : Value, e = .returned v0_ ∧ Kd.R (Kd.int .u8) 5 w' w.heap.size (fun _ => True) v0_ r ∧ Below w.heap.size w w' := by
  unfold hClone.f at h
  by_cases hL : l0.length < 140737488355328
  · rw [if_pos hL] at h
    injection h with h
    subst h
    have HL := Aside0.mk hL
    clear hL
    have HR := Aside0.mk hr0
    have heq := fun (w : World) (a : Option Addr) (n c : Nat) => Lib.run_eql_slice_nil (P := Try.prog) w 31 5 a n c 0 0 Try.underlying31
    cases A0 with
    | none =>
      have h0 : l0.length = 0 := by
        rcases Nat.eq_zero_or_pos l0.length with h | h
        · exact h
        · obtain ⟨ad, e, _⟩ := hr0.2.2 h
          cases e
      obtain rfl : l0 = [] := List.eq_nil_of_length_eq_zero h0
      clear hr0 hc0 h0
      go_enter Try.func59, Try.ntmps59
      go_wp2_with fail
      go_ret
      exact ⟨_, rfl, Kd.R_nil _ _ _ _ _, Below.refl _ _⟩
    | some ad =>
      clear hr0 hc0
      go_enter Try.func59, Try.ntmps59
      go_wp2_with (first
        | (at_builtin
           go_loud (refine Kd.R_append_row (Value.int .u8) (0 : Int) (h1 := fun _ => rfl) (w0 := w) w.heap.size rfl (.tmp 5) (.tmp 6) 31 5 (.int .u8 0) 1 rfl Try.underlying31 info5 rfl (by decide) (.slice (some ⟨w.heap.size, 0, none⟩) 0 0) [] l0 _ _ _ (fun _ => True) rfl rfl (fun _ _ => trivial) ?aO ?aR ?aB ?aS ?aL ?_)
           (case aO => exact Kd.R_of_own (own_lit w w.heap.size 5 .u8 [] (Nat.le_refl _) (by decide)) (fun _ _ => trivial))
           (case aR => exact Kd.C_alloc HR.out _)
           (case aB => exact below_alloc (Below.refl _ _) _)
           (case aS => simp)
           (case aL => have := HL.out; simp; omega)
           intro v1 w1 ho hb hg hat
           have HO := Aside0.mk ho
           have HB := Aside0.mk hb
           clear ho hb hg hat))
      go_ret
      exact ⟨_, rfl, HO.out, HB.out⟩
  · rw [if_neg hL] at h
    cases h
end Go.Proofs.Ytdkjhcdniepbhaa.P
end
