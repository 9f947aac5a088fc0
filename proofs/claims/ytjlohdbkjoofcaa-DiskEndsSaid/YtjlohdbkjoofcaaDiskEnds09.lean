/- Part 9 of the proof: catamaranlaw05.DiskEnds returns true for every two disks, fates and number, and its arguments read afterwards as they read before; no condition. -/
import Derived.WalkKit
import Derived.ProofKit
import Derived.OpenShut
import Derived.Lib.SmallJoins
import Derived.Deep.Slices
import Derived.Deep.Fields
import Derived.ChangeSame
import Derived.Test.YtjlohdbkjoofcaaDiskEnds08
section
set_option linter.unusedVariables false
set_option linter.unusedSimpArgs false
namespace Go.Proofs.Ytjlohdbkjoofcaa.P
open Go.RowKit Go.Proofs.PrintWords Go.Proofs.PrintLast Go.Proofs.PrintMore
attribute [local go_sem] max2_int min2_int max_two min_two max_three min_three max_four min_four
open Go.ChangeShapes Go.WideShapes Go.Deep Go.Joins
section
variable {H : Type} {enc : TypeId × Value → H} {w : World} {base : Nat}
theorem list_of {α : Type} (n : Nat) (p : Nat → α → Prop) (h : ∀ i, i < n → ∃ x, p i x) : ∃ l : List α, l.length = n ∧ ∀ i x, l[i]? = some x → p i x := by
  induction n with
  | zero => exact ⟨[], rfl, fun i x hx => by simp at hx⟩
  | succ n ih =>
    obtain ⟨l, hl, hp⟩ := ih fun i hi => h i (by omega)
    obtain ⟨x, hx⟩ := h n (by omega)
    refine ⟨l ++ [x], by simp [hl], fun i y hy => ?_⟩
    by_cases hi : i < l.length
    · rw [List.getElem?_append_left hi] at hy
      exact hp i y hy
    · rw [List.getElem?_append_right (by omega)] at hy
      have : i - l.length = 0 := by
        have := (List.getElem?_eq_some_iff.1 hy).1
        simp at this
        omega
      rw [this] at hy
      simp at hy
      subst hy
      rw [show i = n by omega]
      exact hx
theorem byte_of_wf {n : Int} (h : (Lit.int .u8 n).wf = true) : 0 ≤ n ∧ n ≤ 255 := by
  have h : (decide ((0 : Int) ≤ n) && decide (n ≤ 255)) = true := h
  simpa using h
theorem open_text {n : Nat} {v : Value} {y : DataW H × List MemPlace} (h : DataW.trod enc Try.prog w base (fun _ => true) true n 26 [v] = some y) :
    ∃ (A : Option Addr) (c : Nat) (l : List Int), v = .slice A l.length c ∧ l.length ≤ c ∧ Kd.C (Kd.int .u8) w A l.length l ∧ byteL l := by
  have fin : ∀ (a : Option Addr) (len cap : Nat) (zs : List Int), ((a = none ∧ len = 0 ∧ cap = 0 ∧ zs = []) ∨ ∃ x, a = some x ∧ len ≤ cap ∧ cap ≤ maxLen ∧ zs.length = cap ∧ (∀ i, i < zs.length → w.cell? (x.add i) = some (.int .u8 (zs.getD i 0))) ∧ ∀ n ∈ zs, (Lit.int .u8 n).wf = true) → [v] = [.slice a len cap] →
      ∃ (A : Option Addr) (c : Nat) (l : List Int), v = .slice A l.length c ∧ l.length ≤ c ∧ Kd.C (Kd.int .u8) w A l.length l ∧ byteL l := by
    intro a len cap zs hr hv
    obtain ⟨l, rfl, hr, hm, hw, hc⟩ := ReadsInt.ofRowC hr
    exact ⟨a, cap, l, by simpa using hv, hc, Kd.C_of_reads (d := (0 : Int)) (h1 := fun _ => rfl) hr, fun n hn => byte_of_wf (hw n hn)⟩
  rcases open_ints Try.underlying26 Try.underlying5 (by kernel_rfl) h with ⟨hcs, _⟩ | ⟨x, l, c, zs, hcs, _, hl, hm, hz, _, hcell, hwz⟩
  · exact fin none 0 0 [] (.inl ⟨rfl, rfl, rfl, rfl⟩) hcs
  · exact fin (some x) l c zs (.inr ⟨x, rfl, hl, hm, by simpa using hz, hcell, hwz⟩) hcs
theorem cells2 {w : World} {base : Nat} {a : Addr} {cs : List Value} (h : w.cells? base a 2 = some cs) : ∃ u v, cs = [u, v] ∧ w.cell? (a.add 0) = some u ∧ w.cell? (a.add 1) = some v := by
  obtain ⟨_, hl, hat⟩ := World.cells?_some h
  match cs, hl with
  | [u, v], _ => exact ⟨u, v, rfl, by have := hat 0 (by omega); simpa using this, by have := hat 1 (by omega); simpa using this⟩
theorem open_secs {n : Nat} {v : Value} {y : DataW H × List MemPlace} (h : DataW.trod enc Try.prog w base (fun _ => true) true n 22 [v] = some y) :
    ∃ (A : Option Addr) (c : Nat) (l : List S52), v = .slice A l.length c ∧ l.length ≤ c ∧ Kd.C k52 w A l.length l ∧ ∀ s ∈ l, byteL s.f0 := by
  have hC : Try.prog.cellsOf 52 = 2 := by kernel_rfl
  rcases Go.Deep.open_slice Try.underlying22 h with ⟨hcs, _⟩ | ⟨a, len, cap, m, n', D, Pl, hcs, hb, hl, hm, hmm, hx, hi⟩
  · obtain rfl : v = .slice none 0 0 := by simpa using hcs
    exact ⟨none, 0, [], rfl, Nat.le_refl _, ⟨rfl, by simp, fun h => absurd h (by simp)⟩, by simp⟩
  · obtain rfl : v = .slice (some a) len cap := by simpa using hcs
    have hm2 : cap ≤ 9223372036854775807 := by have : maxLen ≤ 9223372036854775807 := by decide +kernel
                                               omega
    obtain ⟨l, hll, hp⟩ := list_of len (fun i (s : S52) => ∃ cs, cs.length = 2 ∧ k52.K w s cs ∧ (∀ j u, cs[j]? = some u → w.cell? (a.add (i * 2 + j)) = some u) ∧ byteL s.f0) fun i hil => by
      obtain ⟨cs', hc, ht⟩ := hi i (by rw [hmm]; simp; omega)
      rw [hC] at hc
      obtain ⟨u, x, rfl, h0, h1⟩ := cells2 hc
      obtain ⟨y0, y1, n2, _, _, q0, q1⟩ := trod_struct2 Try.underlying52 ht
      have e0 : Try.prog.cellsOf 26 = 1 := by kernel_rfl
      have e1 : Try.prog.cellsOf 4 = 1 := by kernel_rfl
      simp only [e0, e1, List.drop_zero, List.drop_succ_cons, List.take_succ_cons, List.take_zero] at q0 q1
      obtain ⟨A1, c1, b, rfl, hbc, hbC, hby⟩ := open_text q0
      obtain ⟨bb, hbb, _⟩ := DataW.trod_bool Try.underlying4 q1
      obtain rfl : x = .bool bb := by simpa using hbb
      refine ⟨⟨b, bb⟩, [.slice A1 b.length c1, .bool bb], rfl, k52_mk w ⟨b, bb⟩ hbc hbC, fun j u hj => ?_, hby⟩
      rw [← Go.Deep.add_add]
      match j, hj with
      | 0, hj => rw [h0]; simpa using hj
      | 1, hj => rw [h1]; simpa using hj
      | j + 2, hj => simp at hj
    subst hll
    refine ⟨some a, cap, l, rfl, hl, ⟨rfl, by omega, fun _ => ⟨a, rfl, fun j s hs => ?_⟩⟩, fun s hs => ?_⟩
    · obtain ⟨cs, h1, h2, h3, _⟩ := hp j s hs
      exact ⟨cs, h1, h2, h3⟩
    · obtain ⟨j, hj, rfl⟩ := List.mem_iff_getElem.1 hs
      exact (hp j _ (List.getElem?_eq_getElem hj)).choose_spec.2.2.2
theorem open_pends {n : Nat} {v : Value} {y : DataW H × List MemPlace} (h : DataW.trod enc Try.prog w base (fun _ => true) true n 23 [v] = some y) :
    ∃ (A : Option Addr) (c : Nat) (l : List S65), v = .slice A l.length c ∧ l.length ≤ c ∧ Kd.C k65 w A l.length l ∧ ∀ s ∈ l, byteL s.f1 := by
  have hC : Try.prog.cellsOf 65 = 2 := by kernel_rfl
  rcases Go.Deep.open_slice Try.underlying23 h with ⟨hcs, _⟩ | ⟨a, len, cap, m, n', D, Pl, hcs, hb, hl, hm, hmm, hx, hi⟩
  · obtain rfl : v = .slice none 0 0 := by simpa using hcs
    exact ⟨none, 0, [], rfl, Nat.le_refl _, ⟨rfl, by simp, fun h => absurd h (by simp)⟩, by simp⟩
  · obtain rfl : v = .slice (some a) len cap := by simpa using hcs
    have hm2 : cap ≤ 9223372036854775807 := by have : maxLen ≤ 9223372036854775807 := by decide +kernel
                                               omega
    obtain ⟨l, hll, hp⟩ := list_of len (fun i (s : S65) => ∃ cs, cs.length = 2 ∧ k65.K w s cs ∧ (∀ j u, cs[j]? = some u → w.cell? (a.add (i * 2 + j)) = some u) ∧ byteL s.f1) fun i hil => by
      obtain ⟨cs', hc, ht⟩ := hi i (by rw [hmm]; simp; omega)
      rw [hC] at hc
      obtain ⟨u, x, rfl, h0, h1⟩ := cells2 hc
      obtain ⟨y0, y1, n2, _, _, q0, q1⟩ := trod_struct2 Try.underlying65 ht
      have e0 : Try.prog.cellsOf 26 = 1 := by kernel_rfl
      have e1 : Try.prog.cellsOf 3 = 1 := by kernel_rfl
      simp only [e0, e1, List.drop_zero, List.drop_succ_cons, List.take_succ_cons, List.take_zero] at q0 q1
      obtain ⟨A1, c1, b, rfl, hbc, hbC, hby⟩ := open_text q1
      obtain ⟨bb, hbb, _⟩ := DataW.trod_int Try.underlying3 q0
      obtain rfl : u = .int .i64 bb := by simpa using hbb
      refine ⟨⟨bb, b⟩, [.int .i64 bb, .slice A1 b.length c1], rfl, k65_mk w ⟨bb, b⟩ hbc hbC, fun j u hj => ?_, hby⟩
      rw [← Go.Deep.add_add]
      match j, hj with
      | 0, hj => rw [h0]; simpa using hj
      | 1, hj => rw [h1]; simpa using hj
      | j + 2, hj => simp at hj
    subst hll
    refine ⟨some a, cap, l, rfl, hl, ⟨rfl, by omega, fun _ => ⟨a, rfl, fun j s hs => ?_⟩⟩, fun s hs => ?_⟩
    · obtain ⟨cs, h1, h2, h3, _⟩ := hp j s hs
      exact ⟨cs, h1, h2, h3⟩
    · obtain ⟨j, hj, rfl⟩ := List.mem_iff_getElem.1 hs
      exact (hp j _ (List.getElem?_eq_getElem hj)).choose_spec.2.2.2
set_option maxRecDepth 100000 in
theorem open_disk {r : Reach} {b0 : Nat} {v : Value} {d : DataW H} {p : List MemPlace} (hv : Value.okWide Try.prog w r b0 25 v) (h : DataW.Trod enc Try.prog w base (fun _ => true) true 25 v d p) :
    ∃ (A0 : Option Addr) (c0 : Nat) (l0 : List S52) (A1 : Option Addr) (c1 : Nat) (l1 : List S65), v = .agg #[.slice A0 l0.length c0, .slice A1 l1.length c1] ∧ l0.length ≤ c0 ∧ Kd.C k52 w A0 l0.length l0 ∧ l1.length ≤ c1 ∧ Kd.C k65 w A1 l1.length l1 ∧ bytesD l0 l1 := by
  obtain ⟨v0, v1, y0, y1, n, rfl, _, _, h0, h1⟩ := open_agg2 Try.underlying25 (by kernel_rfl) (by kernel_rfl) hv h
  obtain ⟨A0, c0, l0, rfl, a1, a2, a3⟩ := open_secs h0
  obtain ⟨A1, c1, l1, rfl, b1, b2, b3⟩ := open_pends h1
  exact ⟨A0, c0, l0, A1, c1, l1, rfl, a1, a2, b1, b2, a3, b3⟩
end
section
variable {H : Type} {enc : TypeId × Value → H} {w : World} {base : Nat}
set_option maxRecDepth 100000 in
theorem open_bytes {r : Reach} {b0 : Nat} {v : Value} {d : DataW H} {p : List MemPlace} (hv : Value.okWide Try.prog w r b0 26 v) (h : DataW.Trod enc Try.prog w base (fun _ => true) true 26 v d p) :
    ∃ (A : Option Addr) (c : Nat) (l : List Int), v = .slice A l.length c ∧ l.length ≤ c ∧ Kd.C (Kd.int .u8) w A l.length l ∧ byteL l := by
  obtain ⟨a, len, cap, rfl⟩ := okWide_slice Try.underlying26 hv
  obtain ⟨fuel, hf⟩ := h
  exact open_text hf
end
end Go.Proofs.Ytjlohdbkjoofcaa.P
end
