/- Part 1 of the proof: catamaranlaw05.DiskEnds returns true for every two disks, fates and number, and its arguments read afterwards as they read before; no condition. -/
import Derived.Test.YtjlohdbkjoofcaaProg
import Derived.Laws.StructEq
import Derived.Test.YtjlohdbkjoofcaaDiskEnds00
section
set_option linter.unusedVariables false
set_option linter.unusedSimpArgs false
namespace Go.Proofs.Ytjlohdbkjoofcaa.P
open Go.RowKit Go.Proofs.PrintWords Go.Proofs.PrintLast Go.Proofs.PrintMore
attribute [local go_sem] max2_int min2_int max_two min_two max_three min_three max_four min_four
def errW : Option Int → Value
  | none => .nilIface
  | some c => .iface 0 (.int .i64 c)
theorem errW_none : errW none = .nilIface := rfl
theorem errW_some (c : Int) : errW (some c) = .iface 0 (.int .i64 c) := rfl
theorem info5 : (Try.prog.info? 5).map (fun i => (i.zero, i.size, i.bytes)) = some (some (.int .u8 0), 1, 1) := by kernel_rfl
theorem info52 : (Try.prog.info? 52).map (fun i => (i.zero, i.size, i.bytes)) = some (some (.agg #[(.slice none 0 0), (.bool false)]), 2, 32) := by kernel_rfl
theorem info65 : (Try.prog.info? 65).map (fun i => (i.zero, i.size, i.bytes)) = some (some (.agg #[(.int .i64 0), (.slice none 0 0)]), 2, 32) := by kernel_rfl
def rd_L1 (xs : List (List Int)) (i : Int) : (List Int) := xs.getD i.toNat ([] : List Int)
theorem at_L1 {w : World} {A : Option Addr} {n : Nat} {xs : List (List Int)} (h : Kd.C (Kd.slice 5 (Kd.int .u8)) w A n xs) (i : Int) (h0 : 0 ≤ i) (h1 : i < n) : ∃ ad A0 c0, A = some ad ∧ w.cell? (ad.add i.toNat) = some (.slice A0 (rd_L1 xs i).length c0) ∧ (rd_L1 xs i).length ≤ c0 ∧ (Kd.int .u8).C w A0 (rd_L1 xs i).length (rd_L1 xs i) := by
  obtain ⟨ad, c, e, _, hK, hc0⟩ := Kd.C_get h ([] : List Int) i h0 h1
  have hc : ∀ j u, c[j]? = some u → w.cell? (ad.add (i.toNat * 1 + j)) = some u := hc0
  obtain ⟨A0, c0, rfl, l0, g0⟩ := hK
  exact ⟨ad, A0, c0, e, by have hq := hc 0 _ rfl; rwa [Nat.mul_one, Nat.add_zero] at hq, l0, g0⟩
structure S52 where
  f0 : (List Int)
  f1 : Bool
def z52 : S52 := ⟨([] : List Int), false⟩
def k52 : Kd S52 := Kd.iso (Kd.pair (Kd.slice 5 (Kd.int .u8)) Kd.bool) (fun x : S52 => (x.f0, x.f1))
theorem k52_open {w : World} {x : S52} {cs : List Value} (h : k52.K w x cs) : ∃ A0 c0, cs = [.slice A0 x.f0.length c0, .bool x.f1] ∧ x.f0.length ≤ c0 ∧ (Kd.int .u8).C w A0 x.f0.length x.f0 := by
  obtain ⟨_, _, rfl, ⟨A0, c0, rfl, l0, g0⟩, rfl⟩ := h
  exact ⟨A0, c0, rfl, l0, g0⟩
theorem k52_openM {w : World} {base : Nat} {ok : Nat → Prop} {x : S52} {cs : List Value} (h : k52.M w base ok x cs) : ∃ v0, cs = [v0, .bool x.f1] ∧ (Kd.int .u8).R 5 w base ok v0 x.f0 := by
  obtain ⟨_, _, rfl, ⟨v0, rfl, g0⟩, rfl⟩ := h
  exact ⟨v0, rfl, g0⟩
theorem k52_mk (w : World) (x : S52) {A0 : Option Addr} {c0 : Nat} (l0 : x.f0.length ≤ c0) (g0 : (Kd.int .u8).C w A0 x.f0.length x.f0) : k52.K w x [.slice A0 x.f0.length c0, .bool x.f1] := ⟨[.slice A0 x.f0.length c0], [.bool x.f1], rfl, ⟨A0, c0, rfl, l0, g0⟩, rfl⟩
theorem k52_mkM (w : World) (base : Nat) (ok : Nat → Prop) (x : S52) {v0 : Value} (g0 : (Kd.int .u8).R 5 w base ok v0 x.f0) : k52.M w base ok x [v0, .bool x.f1] := ⟨[v0], [.bool x.f1], rfl, ⟨v0, rfl, g0⟩, rfl⟩
def rd_T52 (xs : List S52) (i : Int) : S52 := xs.getD i.toNat z52
theorem at_T52 {w : World} {A : Option Addr} {n : Nat} {xs : List S52} (h : Kd.C k52 w A n xs) (i : Int) (h0 : 0 ≤ i) (h1 : i < n) : ∃ ad A0 c0, A = some ad ∧ w.cell? (ad.add (i.toNat * 2)) = some (.slice A0 (rd_T52 xs i).f0.length c0) ∧ w.cell? ⟨(ad.add (i.toNat * 2)).block, (ad.add (i.toNat * 2)).off + 1, none⟩ = some (.bool (rd_T52 xs i).f1) ∧ (rd_T52 xs i).f0.length ≤ c0 ∧ (Kd.int .u8).C w A0 (rd_T52 xs i).f0.length (rd_T52 xs i).f0 := by
  obtain ⟨ad, c, e, _, hK, hc0⟩ := Kd.C_get h z52 i h0 h1
  have hc : ∀ j u, c[j]? = some u → w.cell? (ad.add (i.toNat * 2 + j)) = some u := hc0
  obtain ⟨A0, c0, rfl, l0, g0⟩ := k52_open hK
  exact ⟨ad, A0, c0, e, hc 0 _ rfl, by rw [← add_field _ _ 1 (by omega)]; exact hc 1 _ rfl, l0, g0⟩
structure S65 where
  f0 : Int
  f1 : (List Int)
def z65 : S65 := ⟨(0 : Int), ([] : List Int)⟩
def k65 : Kd S65 := Kd.iso (Kd.pair (Kd.int .i64) (Kd.slice 5 (Kd.int .u8))) (fun x : S65 => (x.f0, x.f1))
theorem k65_open {w : World} {x : S65} {cs : List Value} (h : k65.K w x cs) : ∃ A1 c1, cs = [.int .i64 x.f0, .slice A1 x.f1.length c1] ∧ x.f1.length ≤ c1 ∧ (Kd.int .u8).C w A1 x.f1.length x.f1 := by
  obtain ⟨_, _, rfl, rfl, ⟨A1, c1, rfl, l1, g1⟩⟩ := h
  exact ⟨A1, c1, rfl, l1, g1⟩
theorem k65_openM {w : World} {base : Nat} {ok : Nat → Prop} {x : S65} {cs : List Value} (h : k65.M w base ok x cs) : ∃ v1, cs = [.int .i64 x.f0, v1] ∧ (Kd.int .u8).R 5 w base ok v1 x.f1 := by
  obtain ⟨_, _, rfl, rfl, ⟨v1, rfl, g1⟩⟩ := h
  exact ⟨v1, rfl, g1⟩
theorem k65_mk (w : World) (x : S65) {A1 : Option Addr} {c1 : Nat} (l1 : x.f1.length ≤ c1) (g1 : (Kd.int .u8).C w A1 x.f1.length x.f1) : k65.K w x [.int .i64 x.f0, .slice A1 x.f1.length c1] := ⟨[.int .i64 x.f0], [.slice A1 x.f1.length c1], rfl, rfl, ⟨A1, c1, rfl, l1, g1⟩⟩
theorem k65_mkM (w : World) (base : Nat) (ok : Nat → Prop) (x : S65) {v1 : Value} (g1 : (Kd.int .u8).R 5 w base ok v1 x.f1) : k65.M w base ok x [.int .i64 x.f0, v1] := ⟨[.int .i64 x.f0], [v1], rfl, rfl, ⟨v1, rfl, g1⟩⟩
def rd_T65 (xs : List S65) (i : Int) : S65 := xs.getD i.toNat z65
theorem at_T65 {w : World} {A : Option Addr} {n : Nat} {xs : List S65} (h : Kd.C k65 w A n xs) (i : Int) (h0 : 0 ≤ i) (h1 : i < n) : ∃ ad A1 c1, A = some ad ∧ w.cell? (ad.add (i.toNat * 2)) = some (.int .i64 (rd_T65 xs i).f0) ∧ w.cell? ⟨(ad.add (i.toNat * 2)).block, (ad.add (i.toNat * 2)).off + 1, none⟩ = some (.slice A1 (rd_T65 xs i).f1.length c1) ∧ (rd_T65 xs i).f1.length ≤ c1 ∧ (Kd.int .u8).C w A1 (rd_T65 xs i).f1.length (rd_T65 xs i).f1 := by
  obtain ⟨ad, c, e, _, hK, hc0⟩ := Kd.C_get h z65 i h0 h1
  have hc : ∀ j u, c[j]? = some u → w.cell? (ad.add (i.toNat * 2 + j)) = some u := hc0
  obtain ⟨A1, c1, rfl, l1, g1⟩ := k65_open hK
  exact ⟨ad, A1, c1, e, hc 0 _ rfl, by rw [← add_field _ _ 1 (by omega)]; exact hc 1 _ rfl, l1, g1⟩
end Go.Proofs.Ytjlohdbkjoofcaa.P
end
section
set_option linter.unusedVariables false
set_option linter.unusedSimpArgs false
namespace Go.Proofs.Ytjlohdbkjoofcaa.P
open Go.RowKit Go.Proofs.PrintWords Go.Proofs.PrintLast Go.Proofs.PrintMore
attribute [local go_sem] max2_int min2_int max_two min_two max_three min_three max_four min_four
def okLen (b : List Int) : Bool := decide (b.length = 32)
def hSized.f (l0 : List (List Int)) : Option Bool := some (l0.all okLen)
def ixLen : List (List Int) → Int → Int
  | [], _ => -1
  | b :: l, i => if b.length = 32 then ixLen l (i + 1) else i
theorem ixLen_all (l : List (List Int)) : ∀ i : Int, 0 ≤ i → ((ixLen l i ≥ 0) ↔ l.all okLen = false) := by
  induction l with
  | nil => intro i _; simp [ixLen]
  | cons b l ih =>
    intro i hi
    unfold ixLen
    by_cases hb : b.length = 32
    · rw [if_pos hb, ih (i + 1) (by omega)]
      simp [okLen, hb]
    · rw [if_neg hb]
      simp [okLen, hb, hi]
theorem ixLen_at (l : List (List Int)) (k : Nat) (hk : k < l.length) (i : Int) : ixLen (l.drop k) i = if (rd_L1 l k).length = 32 then ixLen (l.drop (k + 1)) (i + 1) else i := by
  rw [List.drop_eq_getElem_cons hk, ixLen]
  have : rd_L1 l (k : Int) = l[k] := by
    unfold rd_L1
    simp [List.getD_eq_getElem?_getD, List.getElem?_eq_getElem hk]
  rw [this]
set_option maxHeartbeats 1000000 in
theorem hSized.ix (A0 : Option Addr) (c0 : Nat) (l0 : List (List Int)) (w : World) (hr0 : Kd.C (Kd.slice 5 (Kd.int .u8)) w A0 l0.length l0) :
    Calls Try.prog 219 #[.slice A0 l0.length c0, .func (.func 186) #[] #[]] w fun e w' => e = .returned (.int .i64 (ixLen l0 0)) ∧ w' = w := by
  have hm : l0.length ≤ 9223372036854775807 := hr0.2.1
  have HR := Aside0.mk hr0
  clear hr0
  go_enter Try.func219, Try.ntmps219
  go_wp2_with fail
  go_loop [8] (fun i => ∃ k : Nat, k ≤ l0.length ∧ i = .int .i64 k ∧ Aside0 (ixLen l0 0 = ixLen (l0.drop k) k)) (fun i => l0.length - (intOf i).toNat)
  case atStart => exact ⟨0, Nat.zero_le _, rfl, ⟨rfl⟩⟩
  case round =>
    obtain ⟨k, hk, rfl, HX⟩ := hrel
    by_cases hlt : k < l0.length
    · obtain ⟨ad, A1, c1, rfl, hcell, hc1, hin⟩ := at_L1 HR.out (k : Int) (by omega) (by omega)
      have HIN := Aside0.mk hin
      clear hin
      simp only [Int.toNat_natCast] at hcell
      by_cases hL : (rd_L1 l0 (k : Int)).length = 32
      · have hb : (((rd_L1 l0 (k : Int)).length : Int) != 32) = false := by simp [hL]
        have HL := Aside0.mk hL
        clear hL
        go_wp2
        go_round
        case rel => exact ⟨k + 1, by omega, by go_num, ⟨by rw [HX.out, ixLen_at l0 k hlt, if_pos HL.out]; rfl⟩⟩
        case measure => simp [intOf]; omega
      · have hb : (((rd_L1 l0 (k : Int)).length : Int) != 32) = true := by simp; omega
        have hb' : (((rd_L1 l0 (k : Int)).length : Int) == 32) = false := by simp; omega
        have HL := Aside0.mk hL
        clear hL
        go_wp2
        go_ret
        refine ⟨?_, rfl⟩
        rw [HX.out, ixLen_at l0 k hlt, if_neg HL.out]
        rfl
    · go_wp2
      go_ret
      refine ⟨?_, rfl⟩
      rw [HX.out, List.drop_of_length_le (by omega)]
      rfl
set_option maxHeartbeats 1000000 in
theorem hSized.calls (A0 : Option Addr) (c0 : Nat) (l0 : List (List Int)) (r : Bool) (w : World) (hr0 : Kd.C (Kd.slice 5 (Kd.int .u8)) w A0 l0.length l0) (hc0 : l0.length ≤ c0) (h : hSized.f l0 = some r) :
    Calls Try.prog 118 #[.slice A0 l0.length c0] w fun e w' => e = .returned (.bool r) ∧ Below w.heap.size w w' := by
  have hx := ixLen_all l0 0 (by omega)
  unfold hSized.f at h
  injection h with h
  subst h
  have HR := Aside0.mk hr0
  clear hr0 hc0
  have HX : Aside0 ((!decide (ixLen l0 0 ≥ 0)) = l0.all okLen) := ⟨by
    cases hall : l0.all okLen with
    | true => rw [hall] at hx; rw [decide_eq_false (fun hh => absurd (hx.1 hh) (by simp))]; rfl
    | false => rw [decide_eq_true (hx.2 hall)]; rfl⟩
  clear hx
  go_enter Try.func118, Try.ntmps118
  go_wp2_with (first
    | (go_at_call 219; refine (hSized.ix _ _ l0 _ HR.out).mono ?_; rintro e w' ⟨rfl, rfl⟩)
    | (go_at_call 185; go_in))
  go_ret
  exact ⟨by rw [← HX.out]; rfl, Below.refl _ _⟩
theorem hSized.one (a : Addr) (A1 : Option Addr) (c1 : Nat) (b : List Int) (w : World) (hcell : w.cell? a = some (.slice A1 b.length c1)) (hc : b.length ≤ c1) (hin : (Kd.int .u8).C w A1 b.length b) :
    Calls Try.prog 118 #[.slice (some a) 1 1] w fun e w' => e = .returned (.bool (okLen b)) ∧ Below w.heap.size w w' := by
  refine hSized.calls (some a) 1 [b] (okLen b) w ⟨rfl, by simp, fun _ => ⟨a, rfl, fun j p hj => ?_⟩⟩ (by simp) (by simp [hSized.f])
  have h0 : j = 0 := by
    have := (List.getElem?_eq_some_iff.1 hj).1
    simp at this
    exact this
  subst h0
  simp at hj
  subst hj
  refine ⟨[.slice A1 b.length c1], rfl, ⟨A1, c1, rfl, hc, hin⟩, fun i u hu => ?_⟩
  have h0 : i = 0 := by
    have := (List.getElem?_eq_some_iff.1 hu).1
    simp at this
    exact this
  subst h0
  simp at hu
  subst hu
  simpa [Addr.add] using hcell
theorem hSized.one_is (v : Bool) (a : Addr) (A1 : Option Addr) (c1 : Nat) (b : List Int) (w : World) (hv : okLen b = v) (hcell : w.cell? a = some (.slice A1 b.length c1)) (hc : b.length ≤ c1) (hin : (Kd.int .u8).C w A1 b.length b) :
    Calls Try.prog 118 #[.slice (some a) 1 1] w fun e w' => e = .returned (.bool v) ∧ Below w.heap.size w w' := by
  subst hv
  exact hSized.one a A1 c1 b w hcell hc hin
end Go.Proofs.Ytjlohdbkjoofcaa.P
end
section
set_option linter.unusedVariables false
set_option linter.unusedSimpArgs false
namespace Go.Proofs.Ytjlohdbkjoofcaa.P
open Go.RowKit Go.Proofs.PrintWords Go.Proofs.PrintLast Go.Proofs.PrintMore
attribute [local go_sem] max2_int min2_int max_two min_two max_three min_three max_four min_four
theorem all_take_snoc {α : Type} (p : α → Bool) (l : List α) (k : Nat) (hk : k < l.length) (d : α) : (l.take (k + 1)).all p = ((l.take k).all p && p (l.getD k d)) := by
  rw [List.take_succ_eq_append_getElem hk, List.all_append]
  simp [List.getD_eq_getElem?_getD, List.getElem?_eq_getElem hk]
theorem all_false_at {α : Type} (p : α → Bool) (l : List α) (k : Nat) (hk : k < l.length) (d : α) (h : p (l.getD k d) = false) : l.all p = false := by
  rw [List.all_eq_false]
  refine ⟨l[k], List.getElem_mem hk, ?_⟩
  simp [List.getD_eq_getElem?_getD, List.getElem?_eq_getElem hk] at h
  simp [h]
theorem ym_undef : yielded.match_1 (fun _ => Option Bool) (some undef) (fun b => some b) (fun _ => none) = none := rfl
theorem add_block_ (a : Addr) (n : Nat) : (a.add n).block = a.block := by unfold Addr.add; split <;> rfl
theorem heap_alloc_at (w : World) (o o' : Obj) (n : Nat) (hn : n = w.heap.size + 1) : ((w.alloc o).alloc o').heap[n]? = some o' := by
  subst hn
  have := heap_alloc_new (w.alloc o) o'
  rwa [World.size_alloc] at this
end Go.Proofs.Ytjlohdbkjoofcaa.P
end
section
set_option linter.unusedVariables false
set_option linter.unusedSimpArgs false
namespace Go.Proofs.Ytjlohdbkjoofcaa.P
open Go.RowKit Go.Proofs.PrintWords Go.Proofs.PrintLast Go.Proofs.PrintMore
attribute [local go_sem] max2_int min2_int max_two min_two max_three min_three max_four min_four
def bytes_Equal.f (l0 : List Int) (l1 : List Int) : Option (Bool) := some ((strOfNums l0).toList == (strOfNums l1).toList)
set_option maxHeartbeats 8000000 in
set_option maxRecDepth 100000 in
theorem bytes_Equal.calls (A0 : Option Addr) (c0 : Nat) (l0 : List Int) (A1 : Option Addr) (c1 : Nat) (l1 : List Int) (r : Bool) (w : World) (hr0 : Kd.C (Kd.int .u8) w A0 l0.length l0) (hc0 : l0.length ≤ c0) (hr1 : Kd.C (Kd.int .u8) w A1 l1.length l1) (hc1 : l1.length ≤ c1) (h : bytes_Equal.f l0 l1 = some r) :
    Calls Try.prog 125 #[.slice A0 l0.length c0, .slice A1 l1.length c1] w fun e w' => e = .returned (.bool r) ∧ Drawn0 w w' := by
  have HR0 := Aside0.mk hr0
  have HC0 := Aside0.mk hc0
  clear hr0 hc0
  have HR1 := Aside0.mk hr1
  have HC1 := Aside0.mk hc1
  clear hr1 hc1
  have H : (some ((strOfNums l0).toList == (strOfNums l1).toList)) = some r := h
  clear h
  obtain rfl := Option.some.inj H
  have hcv3 := Kd.C_string (P := Try.prog) (A := A0) (c := c0) Try.underlying26 Try.underlying5 Try.underlying9 HR0.out
  have hcv4 := Kd.C_string (P := Try.prog) (A := A1) (c := c1) Try.underlying26 Try.underlying5 Try.underlying9 HR1.out
  go_enter Try.func125, Try.ntmps125
  go_wp2
  go_ret
  exact ⟨by first | rfl | (simp; done) | (simp [*]; done), by repeat (first | exact Drawn0.refl _ | apply Drawn0.step)⟩
end Go.Proofs.Ytjlohdbkjoofcaa.P
end
section
set_option linter.unusedVariables false
set_option linter.unusedSimpArgs false
namespace Go.Proofs.Ytjlohdbkjoofcaa.P
open Go.RowKit Go.Proofs.PrintWords Go.Proofs.PrintLast Go.Proofs.PrintMore
attribute [local go_sem] max2_int min2_int max_two min_two max_three min_three max_four min_four
def disk_none.f  : Option (List Int) := if 32 ≤ 281474976710656 then (some (List.replicate 32 0)) else (none)
set_option maxHeartbeats 8000000 in
set_option maxRecDepth 100000 in
theorem disk_none.calls  (r : List Int) (w : World) (h : disk_none.f  = some r) :
    Calls Try.prog 126 #[] w fun e w' => ∃ v0_ : Value, e = .returned (v0_) ∧ Kd.R (Kd.int .u8) 5 w' w.heap.size (fun _ => True) v0_ r ∧ Below w.heap.size w w' := by
  have HB := Aside0.mk (Below.refl w.heap.size w)
  have H : (if 32 ≤ 281474976710656 then (some (List.replicate 32 0)) else (none)) = some r := h
  clear h
  by_cases c1 : 32 ≤ 281474976710656
  · rw [if_pos c1] at H
    have c1b0 := eq_true c1
    have c1b1 : decide (32 ≤ 281474976710656) = true := decide_eq_true c1
    clear c1
    obtain ⟨y147, hy147⟩ : ∃ y_ : List Int, y_ = (List.replicate 32 0) := ⟨_, rfl⟩
    replace H : (some y147) = some r := by first | (rw [hy147]; with_reducible exact H) | (have H2_ := (Option.bind_some _ _).symm.trans H; rw [hy147]; with_reducible exact H2_) | (have H2_ := (Option.bind_some _ _).symm.trans H; with_reducible exact H2_) | with_reducible exact H | (rw [hy147]; exact H) | exact H
    have Ny147 := Aside0.mk hy147
    clear hy147
    obtain rfl := Option.some.inj H
    go_enter Try.func126, Try.ntmps126
    go_wp2_with (first | ((with_reducible refine gate_dst (N := 1) rfl ?_); refine Kd.R_make (Kd.int .u8) _ 5 rfl (N := 1) rfl 26 _ _ rfl 32 rfl rfl Try.underlying26 (.int .u8 0) 1 info5 rfl (by decide) (by omega) 0 (ok := fun _ => True) (okp := fun _ => True) rfl (fun _ hk => hk) trivial (by omega) (by omega) (Below.refl _ _) (Nat.le_refl _) ?_; intro v148 w2 ho3 hb hg_ hnew_; clear hg_ hnew_; (first | rw [← Ny147.out] at ho3 | (simp only [Int.reduceToNat] at ho3; rw [← Ny147.out] at ho3)); have n0_ := Aside0.mk (Kd.R_lower ho3 (below_size (by repeat (first | (with_reducible first | exact HB.out | apply below_alloc | apply pw_below_drewN | apply below_drew1) | exact HB.out)))); have n1_ := Aside0.mk (below_step (by repeat (first | (with_reducible first | exact HB.out | apply below_alloc | apply pw_below_drewN | apply below_drew1) | exact HB.out)) hb); clear HB; have HO149 := n0_; have HB := n1_; clear n0_ n1_; clear hb ho3))
    go_ret
    exact ⟨_, by first | rfl | (simp [errW_none, errW_some] <;> rfl) | (simp [*, errW_none, errW_some] <;> rfl), by (with_reducible repeat (first | apply Kd.R_alloc | apply Kd.R_drewN | apply Kd.R_drew)); exact HO149.out, by repeat (first | (with_reducible first | exact HB.out | apply below_alloc | apply pw_below_drewN | apply below_drew1) | exact HB.out)⟩
  · rw [if_neg c1] at H
    exact absurd H (by simp)
end Go.Proofs.Ytjlohdbkjoofcaa.P
end
section
set_option linter.unusedVariables false
set_option linter.unusedSimpArgs false
namespace Go.Proofs.Ytjlohdbkjoofcaa.P
open Go.RowKit Go.Proofs.PrintWords Go.Proofs.PrintLast Go.Proofs.PrintMore
attribute [local go_sem] max2_int min2_int max_two min_two max_three min_three max_four min_four
def zero32 : List Int := List.replicate 32 0
def okSec (s : S52) : Bool := okLen s.f0 && (!s.f1 || ((strOfNums s.f0).toList == (strOfNums zero32).toList))
def okPend (n : Int) (p : S65) : Bool := decide (0 ≤ p.f0) && decide (p.f0 < n) && okLen p.f1
def okDisk (l0 : List S52) (l1 : List S65) : Bool := decide (1 ≤ l0.length) && decide (l0.length ≤ 1024) && decide (l1.length ≤ 64) && l0.all okSec && l1.all (okPend l0.length)
def hCheck.f (l0_0 : List S52) (l0_1 : List S65) : Option Int := some (if okDisk l0_0 l0_1 = true then 0 else 8)
attribute [local go_sem] ym_undef
set_option maxHeartbeats 8000000 in
set_option maxRecDepth 100000 in
theorem hCheck.calls (A0_0 : Option Addr) (c0_0 : Nat) (l0_0 : List S52) (A0_1 : Option Addr) (c0_1 : Nat) (l0_1 : List S65) (r : Int) (w : World) (hr0_0 : Kd.C k52 w A0_0 l0_0.length l0_0) (hc0_0 : l0_0.length ≤ c0_0) (hr0_1 : Kd.C k65 w A0_1 l0_1.length l0_1) (hc0_1 : l0_1.length ≤ c0_1) (h : hCheck.f l0_0 l0_1 = some r) :
    Calls Try.prog 39 #[.agg #[.slice A0_0 l0_0.length c0_0, .slice A0_1 l0_1.length c0_1]] w fun e w' => e = .returned (.int .i64 r) ∧ Below w.heap.size w w' := by
  have hu25 := Try.underlying25
  have hm0 : l0_0.length ≤ 9223372036854775807 := hr0_0.2.1
  have hm1 : l0_1.length ≤ 9223372036854775807 := hr0_1.2.1
  have HR0 := Aside0.mk hr0_0
  have HR1 := Aside0.mk hr0_1
  clear hr0_0 hr0_1 hc0_0 hc0_1
  have H : Aside0 ((if okDisk l0_0 l0_1 = true then 0 else 8) = r) := ⟨by unfold hCheck.f at h; injection h⟩
  clear h
  by_cases h1 : l0_0.length < 1
  · have hb : decide ((l0_0.length : Int) < 1) = true := decide_eq_true (by omega)
    obtain rfl : r = 8 := by
      rw [← H.out, if_neg]
      unfold okDisk
      simp
      omega
    clear H
    go_enter Try.func39, Try.ntmps39
    go_wp2
    go_ret
    exact ⟨rfl, (Below.refl _ _).alloc (Nat.le_refl _) _⟩
  by_cases h2 : 1024 < l0_0.length
  · have hb : decide ((l0_0.length : Int) < 1) = false := decide_eq_false (by omega)
    have hb2 : decide ((l0_0.length : Int) > 1024) = true := decide_eq_true (by omega)
    obtain rfl : r = 8 := by
      rw [← H.out, if_neg]
      unfold okDisk
      simp
      omega
    clear H
    go_enter Try.func39, Try.ntmps39
    go_wp2
    go_ret
    exact ⟨rfl, (Below.refl _ _).alloc (Nat.le_refl _) _⟩
  by_cases h3 : 64 < l0_1.length
  · have hb : decide ((l0_0.length : Int) < 1) = false := decide_eq_false (by omega)
    have hb2 : decide ((l0_0.length : Int) > 1024) = false := decide_eq_false (by omega)
    have hb3 : decide ((l0_1.length : Int) > 64) = true := decide_eq_true (by omega)
    obtain rfl : r = 8 := by
      rw [← H.out, if_neg]
      unfold okDisk
      simp
      omega
    clear H
    go_enter Try.func39, Try.ntmps39
    go_wp2
    go_ret
    exact ⟨rfl, (Below.refl _ _).alloc (Nat.le_refl _) _⟩
  have hb : decide ((l0_0.length : Int) < 1) = false := decide_eq_false (by omega)
  have hb2 : decide ((l0_0.length : Int) > 1024) = false := decide_eq_false (by omega)
  have hb3 : decide ((l0_1.length : Int) > 64) = false := decide_eq_false (by omega)
  go_enter Try.func39, Try.ntmps39
  go_wp2_with fail
  go_loopw [26] (fun i wr => ∃ k : Nat, k ≤ l0_0.length ∧ i = .int .i64 k ∧ Aside0 ((l0_0.take k).all okSec = true) ∧ Aside0 (wr.heap[w.heap.size]? = some (.cells #[.slice A0_0 l0_0.length c0_0, .slice A0_1 l0_1.length c0_1] 25 (0, 0))) ∧ Aside0 (Below w.heap.size w wr)) (fun i _ => l0_0.length - (intOf i).toNat)
  case atStart => exact ⟨0, Nat.zero_le _, rfl, ⟨by simp⟩, ⟨heap_alloc_new w _⟩, ⟨(Below.refl _ _).alloc (Nat.le_refl _) _⟩⟩
  case round =>
    obtain ⟨k, hk, rfl, HP, HBK, HB⟩ := hrel
    by_cases hlt : k < l0_0.length
    · obtain ⟨ad, A1, c1, rfl, hx0, hx1, hl1, hi1⟩ := at_T52 HR0.out (k : Int) (by omega) (by omega)
      replace hx0 := (HB.out.cell (World.block_lt_of_cell? w _ hx0)).trans hx0
      replace hx1 := (HB.out.cell (World.block_lt_of_cell? w _ hx1)).trans hx1
      simp only [Int.toNat_natCast] at hx0 hx1
      have HI := Aside0.mk hi1
      have HL1 := Aside0.mk hl1
      clear hi1 hl1
      have HBa := Aside0.mk (below_drew (below_alloc (below_alloc HB.out (.cells #[.slice A1 (rd_T52 l0_0 (k : Int)).f0.length c1, .bool (rd_T52 l0_0 (k : Int)).f1] 52)) (.cells #[.slice A1 (rd_T52 l0_0 (k : Int)).f0.length c1] 26)))
      have hlt0 : w.heap.size < wr.heap.size := blk_lt HBK.out
      cases hok : okLen (rd_T52 l0_0 (k : Int)).f0 with
      | false =>
        obtain rfl : r = 8 := by
          rw [← H.out, if_neg]
          have := all_false_at okSec l0_0 k hlt z52 (by show okSec (rd_T52 l0_0 (k : Int)) = false; simp [okSec, hok])
          simp [okDisk, this]
        have HOK := Aside0.mk hok
        clear H hok
        go_wp2_with fail
        first | go_region_with (go_at_call 118; refine (hSized.one_is false _ A1 c1 (rd_T52 l0_0 (k : Int)).f0 _ HOK.out (by simp) HL1.out (Kd.C_below HI.out HBa.out)).mono ?_; rintro e w1 ⟨rfl, hb1⟩; have HB1 := Aside0.mk (below_then HBa.out (below_size HBa.out) hb1); clear hb1) | fail "region"
        all_goals
          go_wp2
          go_ret
          exact ⟨rfl, HB1.out⟩
      | true =>
        have HOK := Aside0.mk hok
        clear hok
        cases hbad : (rd_T52 l0_0 (k : Int)).f1 with
        | false =>
          have hsec : okSec (rd_T52 l0_0 (k : Int)) = true := by simp [okSec, HOK.out, hbad]
          have HS := Aside0.mk hsec
          clear hsec
          rw [hbad] at hx1 HBa
          have HBD := Aside0.mk hbad
          clear hbad
          go_wp2_with fail
          first | go_region_with (go_at_call 118; refine (hSized.one_is true _ A1 c1 (rd_T52 l0_0 (k : Int)).f0 _ HOK.out (by simp) HL1.out (Kd.C_below HI.out HBa.out)).mono ?_; rintro e w1 ⟨rfl, hb1⟩; have HB1 := Aside0.mk (below_then HBa.out (below_size HBa.out) hb1); have HBK1 := Aside0.mk ((hb1.block w.heap.size (by simp; omega)).trans (blk_alloc (blk_alloc HBK.out (.cells #[.slice A1 (rd_T52 l0_0 (k : Int)).f0.length c1, .bool false] 52)) (.cells #[.slice A1 (rd_T52 l0_0 (k : Int)).f0.length c1] 26))); have hq1 := (hb1.cell (p := ⟨wr.heap.size, 1, none⟩) (by simp; omega)).trans (show _ = some (.bool false) by simp); clear hb1) | fail "region"
          all_goals
            go_wp2
            go_roundw
            case rel => exact ⟨k + 1, by omega, by go_num, ⟨by rw [all_take_snoc okSec l0_0 k hlt z52, HP.out, Bool.true_and]; exact HS.out⟩, HBK1, HB1⟩
            case measure => simp [intOf]; omega
        | true =>
          have hnone := fun (w : World) => disk_none.calls zero32 w (by unfold disk_none.f; rfl)
          have HN := Aside0.mk hnone
          clear hnone
          rw [hbad] at hx1 HBa
          have HBD := Aside0.mk hbad
          clear hbad
          cases heqv : ((strOfNums (rd_T52 l0_0 (k : Int)).f0).toList == (strOfNums zero32).toList) with
          | true =>
            have hsec : okSec (rd_T52 l0_0 (k : Int)) = true := by simp [okSec, HOK.out, heqv]
            have HS := Aside0.mk hsec
            clear hsec
            have HEQ := Aside0.mk heqv
            clear heqv
            go_wp2_with fail
            first | go_loud (go_region_with (first
              | (go_at_call 118; refine (hSized.one_is true _ A1 c1 (rd_T52 l0_0 (k : Int)).f0 _ HOK.out (by simp) HL1.out (Kd.C_below HI.out HBa.out)).mono ?_; rintro e w1 ⟨rfl, hb1⟩; have HB1 := Aside0.mk (below_then HBa.out (below_size HBa.out) hb1); have HBK1 := Aside0.mk ((hb1.block w.heap.size (by simp; omega)).trans (blk_alloc (blk_alloc HBK.out (.cells #[.slice A1 (rd_T52 l0_0 (k : Int)).f0.length c1, .bool true] 52)) (.cells #[.slice A1 (rd_T52 l0_0 (k : Int)).f0.length c1] 26))); have hq0 := (hb1.cell (p := ⟨wr.heap.size, 0, none⟩) (by simp; omega)).trans (show _ = some (.slice A1 (rd_T52 l0_0 (k : Int)).f0.length c1) by simp); have hq1 := (hb1.cell (p := ⟨wr.heap.size, 1, none⟩) (by simp; omega)).trans (show _ = some (.bool true) by simp); have hz1 : wr.heap.size + 2 ≤ w1.heap.size := (by have := hb1.size; simp at this; omega); clear hb1)
              | (go_at_call 126; refine (HN.out _).mono ?_; rintro e w2 ⟨v2, rfl, hv2, hb2⟩; obtain ⟨A2, c2, rfl, hc2, hr2⟩ := Kd.R_reads hv2; have HR2 := Aside0.mk hr2; have HC2 := Aside0.mk hc2; have HB2 := Aside0.mk (below_then HB1.out (below_size HB1.out) hb2); have HBK2 := Aside0.mk ((hb2.block w.heap.size (by omega)).trans HBK1.out); have hq2 := (hb2.cell (p := ⟨wr.heap.size, 0, none⟩) (by simp; omega)).trans hq0; clear hv2 hb2 hr2 hc2)
              | (go_at_call 125; refine (bytes_Equal.calls A1 c1 (rd_T52 l0_0 (k : Int)).f0 A2 c2 zero32 true _ (Kd.C_below HI.out HB2.out) HL1.out HR2.out HC2.out (by unfold bytes_Equal.f; rw [HEQ.out])).mono ?_; rintro e w3 ⟨rfl, hd3⟩; have HB3 := Aside0.mk (below_then HB2.out (below_size HB2.out) hd3.below); have HBK3 := Aside0.mk ((hd3.below.block w.heap.size (blk_lt HBK2.out)).trans HBK2.out); clear hd3))) | fail "region"
            all_goals
              go_wp2
              go_roundw
              case rel => exact ⟨k + 1, by omega, by go_num, ⟨by rw [all_take_snoc okSec l0_0 k hlt z52, HP.out, Bool.true_and]; exact HS.out⟩, HBK3, HB3⟩
              case measure => simp [intOf]; omega
          | false =>
            obtain rfl : r = 8 := by
              rw [← H.out, if_neg]
              have := all_false_at okSec l0_0 k hlt z52 (by show okSec (rd_T52 l0_0 (k : Int)) = false; simp [okSec, HOK.out, HBD.out, heqv])
              simp [okDisk, this]
            clear H
            have HEQ := Aside0.mk heqv
            clear heqv
            go_wp2_with fail
            first | go_loud (go_region_with (first
              | (go_at_call 118; refine (hSized.one_is true _ A1 c1 (rd_T52 l0_0 (k : Int)).f0 _ HOK.out (by simp) HL1.out (Kd.C_below HI.out HBa.out)).mono ?_; rintro e w1 ⟨rfl, hb1⟩; have HB1 := Aside0.mk (below_then HBa.out (below_size HBa.out) hb1); have HBK1 := Aside0.mk ((hb1.block w.heap.size (by simp; omega)).trans (blk_alloc (blk_alloc HBK.out (.cells #[.slice A1 (rd_T52 l0_0 (k : Int)).f0.length c1, .bool true] 52)) (.cells #[.slice A1 (rd_T52 l0_0 (k : Int)).f0.length c1] 26))); have hq0 := (hb1.cell (p := ⟨wr.heap.size, 0, none⟩) (by simp; omega)).trans (show _ = some (.slice A1 (rd_T52 l0_0 (k : Int)).f0.length c1) by simp); have hq1 := (hb1.cell (p := ⟨wr.heap.size, 1, none⟩) (by simp; omega)).trans (show _ = some (.bool true) by simp); have hz1 : wr.heap.size + 2 ≤ w1.heap.size := (by have := hb1.size; simp at this; omega); clear hb1)
              | (go_at_call 126; refine (HN.out _).mono ?_; rintro e w2 ⟨v2, rfl, hv2, hb2⟩; obtain ⟨A2, c2, rfl, hc2, hr2⟩ := Kd.R_reads hv2; have HR2 := Aside0.mk hr2; have HC2 := Aside0.mk hc2; have HB2 := Aside0.mk (below_then HB1.out (below_size HB1.out) hb2); have HBK2 := Aside0.mk ((hb2.block w.heap.size (by omega)).trans HBK1.out); have hq2 := (hb2.cell (p := ⟨wr.heap.size, 0, none⟩) (by simp; omega)).trans hq0; clear hv2 hb2 hr2 hc2)
              | (go_at_call 125; refine (bytes_Equal.calls A1 c1 (rd_T52 l0_0 (k : Int)).f0 A2 c2 zero32 false _ (Kd.C_below HI.out HB2.out) HL1.out HR2.out HC2.out (by unfold bytes_Equal.f; rw [HEQ.out])).mono ?_; rintro e w3 ⟨rfl, hd3⟩; have HB3 := Aside0.mk (below_then HB2.out (below_size HB2.out) hd3.below); have HBK3 := Aside0.mk ((hd3.below.block w.heap.size (blk_lt HBK2.out)).trans HBK2.out); clear hd3))) | fail "region"
            all_goals
              go_wp2
              go_ret
              exact ⟨rfl, HB3.out⟩
    · have hall : l0_0.all okSec = true := by
        have := HP.out
        rwa [List.take_of_length_le (by omega)] at this
      have HA := Aside0.mk hall
      clear hall HP
      have hz1 : wr.cell? ⟨w.heap.size, 1, none⟩ = some (.slice A0_1 l0_1.length c0_1) := (blk_cell HBK.out 1).trans rfl
      go_wp2_with fail
      clear hz1
      have hm2 : l0_0.length ≤ 1024 := by omega
      obtain ⟨wo, rfl⟩ : ∃ wo : World, wo = wr := ⟨_, rfl⟩
      go_loopw [50] (fun i wr => ∃ k : Nat, k ≤ l0_1.length ∧ i = .int .i64 k ∧ Aside0 ((l0_1.take k).all (okPend l0_0.length) = true) ∧ Aside0 (wr.heap[w.heap.size]? = some (.cells #[.slice A0_0 l0_0.length c0_0, .slice A0_1 l0_1.length c0_1] 25 (0, 0))) ∧ Aside0 (Below w.heap.size w wr)) (fun i _ => l0_1.length - (intOf i).toNat)
      case atStart => exact ⟨0, Nat.zero_le _, rfl, ⟨by simp⟩, HBK, HB⟩
      case round =>
        clear HBK HB
        obtain ⟨j, hj, rfl, HP, HBK, HB⟩ := hrel
        by_cases hlt2 : j < l0_1.length
        · obtain ⟨ad, A1, c1, rfl, hx0, hx1, hl1, hi1⟩ := at_T65 HR1.out (j : Int) (by omega) (by omega)
          replace hx0 := (HB.out.cell (World.block_lt_of_cell? w _ hx0)).trans hx0
          replace hx1 := (HB.out.cell (World.block_lt_of_cell? w _ hx1)).trans hx1
          simp only [Int.toNat_natCast] at hx0 hx1
          have HI := Aside0.mk hi1
          have HL1 := Aside0.mk hl1
          clear hi1 hl1
          have hlt0 : w.heap.size < wr.heap.size := blk_lt HBK.out
          have hz0 : wr.cell? ⟨w.heap.size, 0, none⟩ = some (.slice A0_0 l0_0.length c0_0) := (blk_cell HBK.out 0).trans rfl
          have HBa := Aside0.mk (below_alloc (below_alloc HB.out (.cells #[.int .i64 (rd_T65 l0_1 (j : Int)).f0, .slice A1 (rd_T65 l0_1 (j : Int)).f1.length c1] 65)) (.cells #[.slice A1 (rd_T65 l0_1 (j : Int)).f1.length c1] 26))
          by_cases hn : (rd_T65 l0_1 (j : Int)).f0 < 0
          · obtain rfl : r = 8 := by
              rw [← H.out, if_neg]
              have := all_false_at (okPend l0_0.length) l0_1 j hlt2 z65 (by show okPend _ (rd_T65 l0_1 (j : Int)) = false; simp [okPend]; omega)
              simp [okDisk, this]
            clear H
            have hb4 : decide ((rd_T65 l0_1 (j : Int)).f0 < 0) = true := decide_eq_true hn
            clear hn
            go_wp2_with fail
            go_ret
            exact ⟨rfl, below_alloc HB.out _⟩
          have hb4 : decide ((rd_T65 l0_1 (j : Int)).f0 < 0) = false := decide_eq_false hn
          by_cases hge : (rd_T65 l0_1 (j : Int)).f0 ≥ (l0_0.length : Int)
          · obtain rfl : r = 8 := by
              rw [← H.out, if_neg]
              have := all_false_at (okPend l0_0.length) l0_1 j hlt2 z65 (by show okPend _ (rd_T65 l0_1 (j : Int)) = false; simp [okPend]; omega)
              simp [okDisk, this]
            clear H
            have hb5 : decide ((rd_T65 l0_1 (j : Int)).f0 ≥ (l0_0.length : Int)) = true := decide_eq_true hge
            clear hge hn
            go_wp2_with fail
            go_ret
            exact ⟨rfl, below_alloc HB.out _⟩
          have hb5 : decide ((rd_T65 l0_1 (j : Int)).f0 ≥ (l0_0.length : Int)) = false := decide_eq_false hge
          cases hok : okLen (rd_T65 l0_1 (j : Int)).f1 with
          | false =>
            obtain rfl : r = 8 := by
              rw [← H.out, if_neg]
              have := all_false_at (okPend l0_0.length) l0_1 j hlt2 z65 (by show okPend _ (rd_T65 l0_1 (j : Int)) = false; simp [okPend, hok])
              simp [okDisk, this]
            have HOK := Aside0.mk hok
            clear H hok hn hge
            go_wp2_with (go_at_call 118; refine (hSized.one_is false _ A1 c1 (rd_T65 l0_1 (j : Int)).f1 _ HOK.out (by simp) HL1.out (Kd.C_below HI.out HBa.out)).mono ?_; rintro e w1 ⟨rfl, hb1⟩; have HB1 := Aside0.mk (below_then HBa.out (below_size HBa.out) hb1); clear hb1)
            go_ret
            exact ⟨rfl, HB1.out⟩
          | true =>
            have hpd : okPend l0_0.length (rd_T65 l0_1 (j : Int)) = true := by simp [okPend, hok]; omega
            have HS := Aside0.mk hpd
            have HOK := Aside0.mk hok
            clear hok hpd hn hge
            go_wp2_with (go_at_call 118; refine (hSized.one_is true _ A1 c1 (rd_T65 l0_1 (j : Int)).f1 _ HOK.out (by simp) HL1.out (Kd.C_below HI.out HBa.out)).mono ?_; rintro e w1 ⟨rfl, hb1⟩; have HB1 := Aside0.mk (below_then HBa.out (below_size HBa.out) hb1); have HBK1 := Aside0.mk ((hb1.block w.heap.size (by simp; omega)).trans (blk_alloc (blk_alloc HBK.out (.cells #[.int .i64 (rd_T65 l0_1 (j : Int)).f0, .slice A1 (rd_T65 l0_1 (j : Int)).f1.length c1] 65)) (.cells #[.slice A1 (rd_T65 l0_1 (j : Int)).f1.length c1] 26))); clear hb1)
            go_roundw
            case rel => exact ⟨j + 1, by omega, by go_num, ⟨by rw [all_take_snoc (okPend l0_0.length) l0_1 j hlt2 z65, HP.out, Bool.true_and]; exact HS.out⟩, HBK1, HB1⟩
            case measure => simp [intOf]; omega
        · obtain rfl : r = 0 := by
            rw [← H.out, if_pos]
            have h4 := HP.out
            rw [List.take_of_length_le (by omega)] at h4
            simp [okDisk, HA.out, h4]
            omega
          clear H
          go_wp2
          go_ret
          exact ⟨rfl, HB.out⟩
end Go.Proofs.Ytjlohdbkjoofcaa.P
end
section
set_option linter.unusedVariables false
set_option linter.unusedSimpArgs false
namespace Go.Proofs.Ytjlohdbkjoofcaa.P
open Go.RowKit Go.Proofs.PrintWords Go.Proofs.PrintLast Go.Proofs.PrintMore
attribute [local go_sem] max2_int min2_int max_two min_two max_three min_three max_four min_four
def catamaranref05_blank.l0 : Nat → List Int → Int → Option (Bool)
  | 0, _, _ => none
  | k + 1, x0, x3 => if x3 < (x0.length : Int) then (if 0 ≤ x3 then (if (rd x0 x3) = 0 then (catamaranref05_blank.l0 k x0 (wrap64 (x3 + 1))) else (some false)) else (none)) else (some true)
def catamaranref05_blank.f (k : Nat) (l0 : List Int) : Option (Bool) := catamaranref05_blank.l0 k l0 0
theorem catamaranref05_blank.mono_l : ∀ k, (∀ y0 y1, LeO (catamaranref05_blank.l0 k y0 y1) (catamaranref05_blank.l0 (k + 1) y0 y1))
  | 0 => fun _ _ r h => by simp [catamaranref05_blank.l0] at h
  | k + 1 => by
    have ih0 := catamaranref05_blank.mono_l k
    · intro y0 y1
      unfold catamaranref05_blank.l0
      repeat' first
      | (with_reducible exact ih0 _ _)
      | (with_reducible exact LeO.refl _)
      | (with_reducible exact LeO.none _)
      | (with_reducible refine LeO.ite ?_ ?_)
      | (with_reducible refine LeO.bind ?_ (fun _ => ?_))
      | exact ih0 _ _
      | exact LeO.none _
      | refine LeO.ite ?_ ?_
      | refine LeO.bind ?_ (fun _ => ?_)
theorem catamaranref05_blank.mono : ∀ a0 k, LeO (catamaranref05_blank.f k a0) (catamaranref05_blank.f (k + 1) a0) := by
  intro a0 k
  have ih0 := catamaranref05_blank.mono_l k
  unfold catamaranref05_blank.f
  repeat' first
      | (with_reducible exact ih0 _ _)
      | (with_reducible exact LeO.refl _)
      | (with_reducible exact LeO.none _)
      | (with_reducible refine LeO.ite ?_ ?_)
      | (with_reducible refine LeO.bind ?_ (fun _ => ?_))
      | exact ih0 _ _
      | exact LeO.none _
      | refine LeO.ite ?_ ?_
      | refine LeO.bind ?_ (fun _ => ?_)
set_option maxHeartbeats 8000000 in
set_option maxRecDepth 100000 in
theorem catamaranref05_blank.calls (k : Nat) (A0 : Option Addr) (c0 : Nat) (l0 : List Int) (r : Bool) (w : World) (hr0 : Kd.C (Kd.int .u8) w A0 l0.length l0) (hc0 : l0.length ≤ c0) (h : catamaranref05_blank.f k l0 = some r) :
    Calls Try.prog 188 #[.slice A0 l0.length c0] w fun e w' => e = .returned (.bool r) ∧ Drawn0 w w' := by
  have HR0 := Aside0.mk hr0
  have HC0 := Aside0.mk hc0
  clear hr0 hc0
  have H : (catamaranref05_blank.l0 k l0 0) = some r := h
  clear h
  have H' := Aside0.mk H
  clear H
  go_enter Try.func188, Try.ntmps188
  go_wp2
  go_loopg [3] k (fun kq v3 w' => ∃ (x3_1 : Int), v3 = .int .i64 x3_1 ∧ Aside0 (catamaranref05_blank.l0 kq l0 x3_1 = some r) ∧ Aside0 (kq ≤ k) ∧ Drawn0 w w')
  case atStart => exact ⟨(0), (by first | rfl | (simp; done) | (simp [*]; done)), H', ⟨Nat.le_refl _⟩, by repeat (first | exact Drawn0.refl _ | apply Drawn0.step)⟩
  case round =>
    clear H'
    try clear c1
    obtain ⟨x3_1, rfl, HA, HK1, ⟨m1, rfl⟩⟩ := hrel
    cases gk with
    | zero => exact absurd HA.out (by simp [catamaranref05_blank.l0])
    | succ k1 =>
      have H := HA.out
      clear HA
      simp only [catamaranref05_blank.l0] at H
      by_cases c2 : x3_1 < (l0.length : Int)
      · rw [if_pos c2] at H
        have c2b0 : decide (x3_1 < (l0.length : Int)) = true := decide_eq_true c2
        clear c2
        by_cases c3 : 0 ≤ x3_1
        · rw [if_pos c3] at H
          have c3b0 : decide (0 ≤ x3_1) = true := decide_eq_true c3
          clear c3
          by_cases c4 : (rd l0 x3_1) = 0
          · rw [if_pos c4] at H
            have c4b0 : ((rd l0 x3_1) == 0) = true := beq_iff_eq.mpr c4
            have c4b1 : ((rd l0 x3_1) != 0) = false := bne_eq_false_iff_eq.mpr c4
            clear c4
            have H' := Aside0.mk H
            clear H
            have p152 : 0 ≤ (x3_1 : Int) := of_decide_eq_true (by first | (with_reducible assumption) | assumption)
            have q152 : x3_1 < (l0.length : Int) := of_decide_eq_true (by first | (with_reducible assumption) | assumption)
            obtain ⟨ad152, e152, hx152_0⟩ := Kd.at_int HR0.out x3_1 p152 q152
            cases e152
            replace p152 := eq_true p152
            replace q152 := eq_true q152
            go_wp2
            go_roundg k1
            case measure => have := HK1.out; omega
            case rel => exact ⟨(wrap64 (x3_1 + 1)), (by first | rfl | (simp; done) | (simp [*]; done)), H', ⟨by have := HK1.out; omega⟩, by repeat (first | exact Drawn0.refl _ | apply Drawn0.step)⟩
          · rw [if_neg c4] at H
            have c4b0 : ((rd l0 x3_1) == 0) = false := beq_eq_false_iff_ne.mpr c4
            have c4b1 : ((rd l0 x3_1) != 0) = true := bne_iff_ne.mpr c4
            obtain rfl := Option.some.inj H
            have p152 : 0 ≤ (x3_1 : Int) := of_decide_eq_true (by first | (with_reducible assumption) | assumption)
            have q152 : x3_1 < (l0.length : Int) := of_decide_eq_true (by first | (with_reducible assumption) | assumption)
            obtain ⟨ad152, e152, hx152_0⟩ := Kd.at_int HR0.out x3_1 p152 q152
            cases e152
            replace p152 := eq_true p152
            replace q152 := eq_true q152
            go_wp2
            go_ret
            exact ⟨by first | rfl | (simp; done) | (simp [*]; done), by repeat (first | exact Drawn0.refl _ | apply Drawn0.step)⟩
        · rw [if_neg c3] at H
          exact absurd H (by simp)
      · rw [if_neg c2] at H
        have c2b0 : decide (x3_1 < (l0.length : Int)) = false := decide_eq_false c2
        clear c2
        obtain rfl := Option.some.inj H
        go_wp2
        go_ret
        exact ⟨by first | rfl | (simp; done) | (simp [*]; done), by repeat (first | exact Drawn0.refl _ | apply Drawn0.step)⟩
end Go.Proofs.Ytjlohdbkjoofcaa.P
end
section
set_option linter.unusedVariables false
set_option linter.unusedSimpArgs false
namespace Go.Proofs.Ytjlohdbkjoofcaa.P
open Go.RowKit Go.Proofs.PrintWords Go.Proofs.PrintLast Go.Proofs.PrintMore
attribute [local go_sem] max2_int min2_int max_two min_two max_three min_three max_four min_four
def catamaranref05_Got.l0 : Nat → Int → Int → List (S52) → List (S65) → Option (List Int × Bool)
  | 0, _, _, _, _ => none
  | k + 1, x1, x6, x191000, x191001 => if x6 ≥ 0 then (if 0 ≤ x6 then (if x6 < (x191001.length : Int) then (if ((rd_T65 x191001 x6).f0) = x1 then ((some (([] : List Int) : List Int)).bind fun y192 => (if y192.length + ((rd_T65 x191001 x6).f1).length < 140737488355328 then (some ((y192 ++ ((rd_T65 x191001 x6).f1)), true)) else (none))) else (catamaranref05_Got.l0 k x1 (wrap64 (x6 - 1)) x191000 x191001)) else (none)) else (none)) else ((some (([] : List Int) : List Int)).bind fun y199 => (if 0 ≤ x1 then (if x1 < (x191000.length : Int) then (if y199.length + ((rd_T52 x191000 x1).f0).length < 140737488355328 then (some ((y199 ++ ((rd_T52 x191000 x1).f0)), !((rd_T52 x191000 x1).f1))) else (none)) else (none)) else (none)))
def catamaranref05_Got.f (k : Nat) (l0_0 : List (S52)) (l0_1 : List (S65)) (a1 : Int) : Option (List Int × Bool) := catamaranref05_Got.l0 k a1 (wrap64 ((l0_1.length : Int) - 1)) l0_0 l0_1
theorem catamaranref05_Got.mono_l : ∀ k, (∀ y0 y1 y2 y3, LeO (catamaranref05_Got.l0 k y0 y1 y2 y3) (catamaranref05_Got.l0 (k + 1) y0 y1 y2 y3))
  | 0 => fun _ _ _ _ r h => by simp [catamaranref05_Got.l0] at h
  | k + 1 => by
    have ih0 := catamaranref05_Got.mono_l k
    · intro y0 y1 y2 y3
      unfold catamaranref05_Got.l0
      repeat' first
      | (with_reducible exact ih0 _ _ _ _)
      | (with_reducible exact LeO.refl _)
      | (with_reducible exact LeO.none _)
      | (with_reducible refine LeO.ite ?_ ?_)
      | (with_reducible refine LeO.bind ?_ (fun _ => ?_))
      | exact ih0 _ _ _ _
      | exact LeO.none _
      | refine LeO.ite ?_ ?_
      | refine LeO.bind ?_ (fun _ => ?_)
theorem catamaranref05_Got.mono : ∀ a0 a1 a2 k, LeO (catamaranref05_Got.f k a0 a1 a2) (catamaranref05_Got.f (k + 1) a0 a1 a2) := by
  intro a0 a1 a2 k
  have ih0 := catamaranref05_Got.mono_l k
  unfold catamaranref05_Got.f
  repeat' first
      | (with_reducible exact ih0 _ _ _ _)
      | (with_reducible exact LeO.refl _)
      | (with_reducible exact LeO.none _)
      | (with_reducible refine LeO.ite ?_ ?_)
      | (with_reducible refine LeO.bind ?_ (fun _ => ?_))
      | exact ih0 _ _ _ _
      | exact LeO.none _
      | refine LeO.ite ?_ ?_
      | refine LeO.bind ?_ (fun _ => ?_)
end Go.Proofs.Ytjlohdbkjoofcaa.P
end
section
set_option linter.unusedVariables false
set_option linter.unusedSimpArgs false
namespace Go.Proofs.Ytjlohdbkjoofcaa.P
open Go.RowKit Go.Proofs.PrintWords Go.Proofs.PrintLast Go.Proofs.PrintMore
attribute [local go_sem] max2_int min2_int max_two min_two max_three min_three max_four min_four
def catamaranref05_Pending.l0 : Nat → Int → Int → List (S52) → List (S65) → Option (Bool)
  | 0, _, _, _, _ => none
  | k + 1, x1, x5, x214000, x214001 => if x5 < (x214001.length : Int) then (if 0 ≤ x5 then (if ((rd_T65 x214001 x5).f0) = x1 then (some true) else (catamaranref05_Pending.l0 k x1 (wrap64 (x5 + 1)) x214000 x214001)) else (none)) else (some false)
def catamaranref05_Pending.f (k : Nat) (l0_0 : List (S52)) (l0_1 : List (S65)) (a1 : Int) : Option (Bool) := catamaranref05_Pending.l0 k a1 0 l0_0 l0_1
theorem catamaranref05_Pending.mono_l : ∀ k, (∀ y0 y1 y2 y3, LeO (catamaranref05_Pending.l0 k y0 y1 y2 y3) (catamaranref05_Pending.l0 (k + 1) y0 y1 y2 y3))
  | 0 => fun _ _ _ _ r h => by simp [catamaranref05_Pending.l0] at h
  | k + 1 => by
    have ih0 := catamaranref05_Pending.mono_l k
    · intro y0 y1 y2 y3
      unfold catamaranref05_Pending.l0
      repeat' first
      | (with_reducible exact ih0 _ _ _ _)
      | (with_reducible exact LeO.refl _)
      | (with_reducible exact LeO.none _)
      | (with_reducible refine LeO.ite ?_ ?_)
      | (with_reducible refine LeO.bind ?_ (fun _ => ?_))
      | exact ih0 _ _ _ _
      | exact LeO.none _
      | refine LeO.ite ?_ ?_
      | refine LeO.bind ?_ (fun _ => ?_)
theorem catamaranref05_Pending.mono : ∀ a0 a1 a2 k, LeO (catamaranref05_Pending.f k a0 a1 a2) (catamaranref05_Pending.f (k + 1) a0 a1 a2) := by
  intro a0 a1 a2 k
  have ih0 := catamaranref05_Pending.mono_l k
  unfold catamaranref05_Pending.f
  repeat' first
      | (with_reducible exact ih0 _ _ _ _)
      | (with_reducible exact LeO.refl _)
      | (with_reducible exact LeO.none _)
      | (with_reducible refine LeO.ite ?_ ?_)
      | (with_reducible refine LeO.bind ?_ (fun _ => ?_))
      | exact ih0 _ _ _ _
      | exact LeO.none _
      | refine LeO.ite ?_ ?_
      | refine LeO.bind ?_ (fun _ => ?_)
end Go.Proofs.Ytjlohdbkjoofcaa.P
end
section
set_option linter.unusedVariables false
set_option linter.unusedSimpArgs false
namespace Go.Proofs.Ytjlohdbkjoofcaa.P
open Go.RowKit Go.Proofs.PrintWords Go.Proofs.PrintLast Go.Proofs.PrintMore
attribute [local go_sem] max2_int min2_int max_two min_two max_three min_three max_four min_four
structure Btw (lo hi : Nat) (w w' : World) : Prop where
  os : w'.os = w.os
  tape : w'.tape = w.tape
  output : w'.output = w.output
  size : w.heap.size ≤ w'.heap.size
  block : ∀ k, k < w.heap.size → (k < lo ∨ hi ≤ k) → w'.heap[k]? = w.heap[k]?
theorem Btw.refl (lo hi : Nat) (w : World) : Btw lo hi w w := ⟨rfl, rfl, rfl, Nat.le_refl _, fun _ _ _ => rfl⟩
theorem Btw.trans {lo hi : Nat} {a b c : World} (h : Btw lo hi a b) (k : Btw lo hi b c) : Btw lo hi a c :=
  ⟨k.os.trans h.os, k.tape.trans h.tape, k.output.trans h.output, Nat.le_trans h.size k.size, fun i hi ho => (k.block i (Nat.lt_of_lt_of_le hi h.size) ho).trans (h.block i hi ho)⟩
theorem Btw.alloc {lo hi : Nat} {a w : World} (h : Btw lo hi a w) (o : Obj) : Btw lo hi a (w.alloc o) :=
  h.trans ⟨rfl, rfl, rfl, by simp, fun k hk _ => Below.heap_alloc _ _ _ hk⟩
theorem Btw.drew {lo hi : Nat} {a w : World} (h : Btw lo hi a w) : Btw lo hi a w.drew := ⟨h.os, h.tape, h.output, h.size, h.block⟩
theorem Btw.set {lo hi : Nat} {a w : World} (h : Btw lo hi a w) {p : Addr} (h1 : lo ≤ p.block) (h2 : p.block < hi) (u : Value) : Btw lo hi a (w.setCell p u) :=
  h.trans ⟨rfl, rfl, rfl, by simp [World.setCell], fun k hk ho => Below.heap_setCell _ _ _ _ (by omega)⟩
theorem Btw.below {lo hi : Nat} {a w : World} (h : Btw lo hi a w) (hl : lo ≤ a.heap.size) : Below lo a w := ⟨h.os, h.tape, h.output, h.size, fun k hk => h.block k (by omega) (.inl hk)⟩
def ByteRow (w : World) (lo hi : Nat) (A : Option Addr) (n : Nat) : Prop :=
  n ≤ 9223372036854775807 ∧ (0 < n → ∃ g cs, A = some ⟨g, 0, none⟩ ∧ lo ≤ g ∧ g < hi ∧ w.heap[g]? = some (.cells cs 5 (0, 0)) ∧ ∀ i, i < n → ∃ x, cs[i]? = some (.int .u8 x))
theorem ByteRow.set {w : World} {lo hi : Nat} {A : Option Addr} {n : Nat} (h : ByteRow w lo hi A n) {g i : Nat} {cs : Array Value} (hb : w.heap[g]? = some (.cells cs 5 (0, 0))) (x : Int) : ByteRow (w.setCell ⟨g, i, none⟩ (.int .u8 x)) lo hi A n := by
  refine ⟨h.1, fun hn => ?_⟩
  obtain ⟨g', cs', rfl, h1, h2, h3, h4⟩ := h.2 hn
  by_cases hg : g' = g
  · subst hg
    rw [hb] at h3
    injection h3 with h3
    injection h3 with h3 _ _
    subst h3
    refine ⟨g', _, rfl, h1, h2, blk_set hb i _, fun j hj => ?_⟩
    obtain ⟨y, hy⟩ := h4 j hj
    rw [Array.getElem?_setIfInBounds]
    split
    · rename_i e
      subst e
      rw [if_pos (Array.getElem?_eq_some_iff.1 hy).1]
      exact ⟨x, rfl⟩
    · exact ⟨y, hy⟩
  · exact ⟨g', cs', rfl, h1, h2, blk_far h3 hg _, h4⟩
theorem ByteRow.far {w : World} {lo hi : Nat} {A : Option Addr} {n : Nat} (h : ByteRow w lo hi A n) {p : Addr} {t : Nat} {cs : Array Value} (hb : w.heap[p.block]? = some (.cells cs t (0, 0))) (ht : t ≠ 5) (u : Value) : ByteRow (w.setCell p u) lo hi A n := by
  refine ⟨h.1, fun hn => ?_⟩
  obtain ⟨g', cs', rfl, h1, h2, h3, h4⟩ := h.2 hn
  exact ⟨g', cs', rfl, h1, h2, blk_far h3 (fun e => by subst e; rw [hb] at h3; injection h3 with h3; injection h3 with _ h3 _; exact ht h3) _, h4⟩
theorem ByteRow.mono {w : World} {lo hi lo' hi' : Nat} {A : Option Addr} {n : Nat} (h : ByteRow w lo hi A n) (h1 : lo' ≤ lo) (h2 : hi ≤ hi') : ByteRow w lo' hi' A n :=
  ⟨h.1, fun hn => by obtain ⟨g, cs, e, a, b, c, d⟩ := h.2 hn; exact ⟨g, cs, e, by omega, by omega, c, d⟩⟩
theorem ByteRow.keep {w w' : World} {lo hi : Nat} {A : Option Addr} {n : Nat} (h : ByteRow w lo hi A n) (hk : ∀ k, lo ≤ k → k < hi → k < w.heap.size → w'.heap[k]? = w.heap[k]?) : ByteRow w' lo hi A n :=
  ⟨h.1, fun hn => by obtain ⟨g, cs, e, a, b, c, d⟩ := h.2 hn; exact ⟨g, cs, e, a, b, (hk g a b (blk_lt c)).trans c, d⟩⟩
theorem ByteRow.of_R {w : World} {base : Nat} {ok : Nat → Prop} {v : Value} {xs : List Int} (h : (Kd.int .u8).R 5 w base ok v xs) : ∃ A c, v = .slice A xs.length c ∧ ByteRow w base w.heap.size A xs.length := by
  obtain ⟨A, c, rfl, hc, hr⟩ := Kd.R_reads h
  refine ⟨A, c, rfl, hr.2.1, fun hn => ?_⟩
  obtain ⟨_, inner, ho, hrep⟩ := h
  rcases ho.2 with ⟨e, hi⟩ | ⟨g, cap, cur, he, hb, hh, h1, h2, h3, h4⟩
  · injection e with _ e _
    omega
  · injection he with he _ _
    subst he
    refine ⟨g, cur, rfl, hb, (blk_lt hh), hh, fun i hi => ?_⟩
    have hcell := Kd.C_get hr (0 : Int) (i : Int) (by omega) (by omega)
    obtain ⟨ad, cs, e, hl, hK, hcs⟩ := hcell
    injection e with e
    subst e
    have hK : cs = [.int .u8 (xs.getD (i : Int).toNat 0)] := hK
    subst hK
    have := hcs 0 _ rfl
    refine ⟨xs.getD (i : Int).toNat 0, ?_⟩
    rw [add_plain, blk_cell hh] at this
    simpa [Kd.int, Kd.scalar] using this
def SecRow (w : World) (lo hi : Nat) (A : Option Addr) (n : Nat) : Prop :=
  n ≤ 9223372036854775807 ∧ (0 < n → ∃ g cs, A = some ⟨g, 0, none⟩ ∧ lo ≤ g ∧ g < hi ∧ w.heap[g]? = some (.cells cs 52 (0, 0)) ∧ ∀ i, i < n → ∃ A' m c b, cs[i * 2]? = some (.slice A' m c) ∧ cs[i * 2 + 1]? = some (.bool b) ∧ ByteRow w lo hi A' m)
def PendRow (w : World) (lo hi : Nat) (A : Option Addr) (n : Nat) : Prop :=
  n ≤ 9223372036854775807 ∧ (0 < n → ∃ g cs, A = some ⟨g, 0, none⟩ ∧ lo ≤ g ∧ g < hi ∧ w.heap[g]? = some (.cells cs 65 (0, 0)) ∧ ∀ i, i < n → ∃ x A' m c, cs[i * 2]? = some (.int .i64 x) ∧ cs[i * 2 + 1]? = some (.slice A' m c) ∧ ByteRow w lo hi A' m)
section
variable {w w' : World} {lo hi : Nat} {A : Option Addr} {n : Nat}
theorem SecRow.set (h : SecRow w lo hi A n) {g i : Nat} {cs : Array Value} (hb : w.heap[g]? = some (.cells cs 5 (0, 0))) (x : Int) : SecRow (w.setCell ⟨g, i, none⟩ (.int .u8 x)) lo hi A n := by
  refine ⟨h.1, fun hn => ?_⟩
  obtain ⟨g', cs', e, h1, h2, h3, h4⟩ := h.2 hn
  refine ⟨g', cs', e, h1, h2, blk_far h3 (fun e => by subst e; rw [hb] at h3; injection h3 with h3; injection h3 with _ h3 _; cases h3) _, fun j hj => ?_⟩
  obtain ⟨A', m, c, b, c0, c1, hr⟩ := h4 j hj
  exact ⟨A', m, c, b, c0, c1, hr.set hb x⟩
theorem PendRow.set (h : PendRow w lo hi A n) {g i : Nat} {cs : Array Value} (hb : w.heap[g]? = some (.cells cs 5 (0, 0))) (x : Int) : PendRow (w.setCell ⟨g, i, none⟩ (.int .u8 x)) lo hi A n := by
  refine ⟨h.1, fun hn => ?_⟩
  obtain ⟨g', cs', e, h1, h2, h3, h4⟩ := h.2 hn
  refine ⟨g', cs', e, h1, h2, blk_far h3 (fun e => by subst e; rw [hb] at h3; injection h3 with h3; injection h3 with _ h3 _; cases h3) _, fun j hj => ?_⟩
  obtain ⟨x', A', m, c, c0, c1, hr⟩ := h4 j hj
  exact ⟨x', A', m, c, c0, c1, hr.set hb x⟩
theorem PendRow.setAt (h : PendRow w lo hi A n) {g i : Nat} (hA : A = some ⟨g, 0, none⟩) (hi0 : i < n) (x : Int) : PendRow (w.setCell ⟨g, i * 2, none⟩ (.int .i64 x)) lo hi A n := by
  refine ⟨h.1, fun hn => ?_⟩
  obtain ⟨g', cs', e, h1, h2, h3, h4⟩ := h.2 hn
  have hg : g' = g := by rw [e] at hA; injection hA with hA; injection hA
  subst hg
  refine ⟨g', _, e, h1, h2, blk_set h3 (i * 2) _, fun j hj => ?_⟩
  obtain ⟨x', A', m, c, c0, c1, hr⟩ := h4 j hj
  have hsz := (Array.getElem?_eq_some_iff.1 c0).1
  by_cases hij : j = i
  · subst hij
    exact ⟨x, A', m, c, by simp [hsz], by rw [Array.getElem?_setIfInBounds, if_neg (by omega)]; exact c1, hr.far (p := ⟨g', j * 2, none⟩) h3 (by decide) _⟩
  · exact ⟨x', A', m, c, by rw [Array.getElem?_setIfInBounds, if_neg (by omega)]; exact c0, by rw [Array.getElem?_setIfInBounds, if_neg (by omega)]; exact c1, hr.far (p := ⟨g', i * 2, none⟩) h3 (by decide) _⟩
theorem SecRow.setAt (h : SecRow w lo hi A n) {p : Addr} {cs : Array Value} (hb : w.heap[p.block]? = some (.cells cs 65 (0, 0))) (u : Value) : SecRow (w.setCell p u) lo hi A n := by
  refine ⟨h.1, fun hn => ?_⟩
  obtain ⟨g', cs', e, h1, h2, h3, h4⟩ := h.2 hn
  refine ⟨g', cs', e, h1, h2, blk_far h3 (fun e => by subst e; rw [hb] at h3; injection h3 with h3; injection h3 with _ h3 _; cases h3) _, fun j hj => ?_⟩
  obtain ⟨A', m, c, b, c0, c1, hr⟩ := h4 j hj
  exact ⟨A', m, c, b, c0, c1, hr.far hb (by decide) _⟩
theorem SecRow.keep (h : SecRow w lo hi A n) (hk : ∀ k, lo ≤ k → k < hi → k < w.heap.size → w'.heap[k]? = w.heap[k]?) : SecRow w' lo hi A n :=
  ⟨h.1, fun hn => by
    obtain ⟨g', cs', e, h1, h2, h3, h4⟩ := h.2 hn
    refine ⟨g', cs', e, h1, h2, (hk g' h1 h2 (blk_lt h3)).trans h3, fun j hj => ?_⟩
    obtain ⟨A', m, c, b, c0, c1, hr⟩ := h4 j hj
    exact ⟨A', m, c, b, c0, c1, hr.keep hk⟩⟩
theorem PendRow.keep (h : PendRow w lo hi A n) (hk : ∀ k, lo ≤ k → k < hi → k < w.heap.size → w'.heap[k]? = w.heap[k]?) : PendRow w' lo hi A n :=
  ⟨h.1, fun hn => by
    obtain ⟨g', cs', e, h1, h2, h3, h4⟩ := h.2 hn
    refine ⟨g', cs', e, h1, h2, (hk g' h1 h2 (blk_lt h3)).trans h3, fun j hj => ?_⟩
    obtain ⟨x', A', m, c, c0, c1, hr⟩ := h4 j hj
    exact ⟨x', A', m, c, c0, c1, hr.keep hk⟩⟩
end
theorem rows_at {α : Type} {R : α → List Value → Prop} {xs : List α} {inner : List Value} (h : Reps R 2 xs inner) {cur : Array Value} {k : Nat} (hp : inner = cur.toList.take k) {i : Nat} (hi : i < xs.length) :
    ∃ u v, R (xs[i]) [u, v] ∧ cur[i * 2]? = some u ∧ cur[i * 2 + 1]? = some v := by
  have hr := h.2 i _ (List.getElem?_eq_getElem hi)
  have hl : i * 2 + 2 ≤ inner.length := by rw [h.1]; omega
  have e : (inner.drop (i * 2)).take 2 = [inner[i * 2], inner[i * 2 + 1]] := by
    rw [List.drop_eq_getElem_cons (by omega), List.drop_eq_getElem_cons (by omega)]
    rfl
  rw [e] at hr
  have key : ∀ j (hj : j < inner.length), cur[j]? = some inner[j] := by
    intro j hj
    have : (cur.toList.take k)[j]? = some inner[j] := by rw [← hp]; exact List.getElem?_eq_getElem hj
    rw [List.getElem?_take] at this
    split at this
    · rw [← Array.getElem?_toList]; exact this
    · cases this
  exact ⟨_, _, hr, key _ (by omega), key _ (by omega)⟩
theorem SecRow.of_S {w : World} {base : Nat} {ok : Nat → Prop} {v : Value} {xs : List S52} (h : Kd.S k52 52 w base ok v xs) : ∃ A c, v = .slice A xs.length c ∧ SecRow w base w.heap.size A xs.length := by
  obtain ⟨A, c, rfl, hc, hrd⟩ := Kd.S_reads h
  refine ⟨A, c, rfl, hrd.2.1, fun hn => ?_⟩
  obtain ⟨_, inner, ho, hr⟩ := Kd.S_R h
  rcases ho.2 with ⟨e, hi⟩ | ⟨g, cap, cur, he, hb, hh, h1, h2, h3, h4⟩
  · omega
  · injection he with he _ _
    subst he
    refine ⟨g, cur, rfl, hb, blk_lt hh, hh, fun i hi => ?_⟩
    obtain ⟨u, v, hM, c0, c1⟩ := rows_at (show Reps (k52.M w base _) 2 xs inner from hr) h4.symm hi
    obtain ⟨v0, e, hR⟩ := k52_openM hM
    injection e with e1 e
    injection e with e2 _
    subst e1 e2
    obtain ⟨A', c', rfl, hb'⟩ := ByteRow.of_R hR
    exact ⟨A', _, c', _, c0, c1, hb'⟩
theorem PendRow.of_S {w : World} {base : Nat} {ok : Nat → Prop} {v : Value} {xs : List S65} (h : Kd.S k65 65 w base ok v xs) : ∃ A c, v = .slice A xs.length c ∧ PendRow w base w.heap.size A xs.length := by
  obtain ⟨A, c, rfl, hc, hrd⟩ := Kd.S_reads h
  refine ⟨A, c, rfl, hrd.2.1, fun hn => ?_⟩
  obtain ⟨_, inner, ho, hr⟩ := Kd.S_R h
  rcases ho.2 with ⟨e, hi⟩ | ⟨g, cap, cur, he, hb, hh, h1, h2, h3, h4⟩
  · omega
  · injection he with he _ _
    subst he
    refine ⟨g, cur, rfl, hb, blk_lt hh, hh, fun i hi => ?_⟩
    obtain ⟨u, v, hM, c0, c1⟩ := rows_at (show Reps (k65.M w base _) 2 xs inner from hr) h4.symm hi
    obtain ⟨v0, e, hR⟩ := k65_openM hM
    injection e with e1 e
    injection e with e2 _
    subst e1 e2
    obtain ⟨A', c', rfl, hb'⟩ := ByteRow.of_R hR
    exact ⟨_, A', _, c', c0, c1, hb'⟩
end Go.Proofs.Ytjlohdbkjoofcaa.P
end
section
set_option linter.unusedVariables false
set_option linter.unusedSimpArgs false
namespace Go.Proofs.Ytjlohdbkjoofcaa.P
open Go.RowKit Go.Proofs.PrintWords Go.Proofs.PrintLast Go.Proofs.PrintMore
attribute [local go_sem] max2_int min2_int max_two min_two max_three min_three max_four min_four
def ByteVal (w : World) (lo : Nat) (A : Option Addr) (b : List Int) : Prop :=
  b.length ≤ 9223372036854775807 ∧ (0 < b.length → ∃ g cs, A = some ⟨g, 0, none⟩ ∧ lo ≤ g ∧ w.heap[g]? = some (.cells cs 5 (0, 0)) ∧ ∀ i, i < b.length → cs[i]? = some (.int .u8 (b.getD i 0)))
def SecVal (w : World) (lo : Nat) (A : Option Addr) (l : List S52) : Prop :=
  l.length ≤ 9223372036854775807 ∧ (0 < l.length → ∃ g cs, A = some ⟨g, 0, none⟩ ∧ lo ≤ g ∧ w.heap[g]? = some (.cells cs 52 (0, 0)) ∧ ∀ i s, l[i]? = some s → ∃ A' c, cs[i * 2]? = some (.slice A' s.f0.length c) ∧ cs[i * 2 + 1]? = some (.bool s.f1) ∧ s.f0.length ≤ c ∧ ByteVal w lo A' s.f0)
def PendVal (w : World) (lo : Nat) (A : Option Addr) (l : List S65) : Prop :=
  l.length ≤ 9223372036854775807 ∧ (0 < l.length → ∃ g cs, A = some ⟨g, 0, none⟩ ∧ lo ≤ g ∧ w.heap[g]? = some (.cells cs 65 (0, 0)) ∧ ∀ i s, l[i]? = some s → ∃ A' c, cs[i * 2]? = some (.int .i64 s.f0) ∧ cs[i * 2 + 1]? = some (.slice A' s.f1.length c) ∧ s.f1.length ≤ c ∧ ByteVal w lo A' s.f1)
section
variable {w w' : World} {lo : Nat} {A : Option Addr}
theorem ByteVal.of_R {base : Nat} {ok : Nat → Prop} {v : Value} {xs : List Int} (h : (Kd.int .u8).R 5 w base ok v xs) : ∃ A c, v = .slice A xs.length c ∧ xs.length ≤ c ∧ ByteVal w base A xs := by
  obtain ⟨A, c, rfl, hc, hr⟩ := Kd.R_reads h
  refine ⟨A, c, rfl, hc, hr.2.1, fun hn => ?_⟩
  obtain ⟨_, inner, ho, hrep⟩ := h
  rcases ho.2 with ⟨e, hi⟩ | ⟨g, cap, cur, he, hb, hh, h1, h2, h3, h4⟩
  · injection e with _ e _
    omega
  · injection he with he _ _
    subst he
    refine ⟨g, cur, rfl, hb, hh, fun i hi => ?_⟩
    obtain ⟨ad, cs, e, hl, hK, hcs⟩ := Kd.C_get hr (0 : Int) (i : Int) (by omega) (by omega)
    injection e with e
    subst e
    have hK : cs = [.int .u8 (xs.getD (i : Int).toNat 0)] := hK
    subst hK
    have := hcs 0 _ rfl
    rw [add_plain, blk_cell hh] at this
    simpa [Kd.int, Kd.scalar] using this
theorem ByteVal.C {b : List Int} (h : ByteVal w lo A b) : (Kd.int .u8).C w A b.length b := by
  refine ⟨rfl, h.1, fun hn => ?_⟩
  obtain ⟨g, cs, rfl, _, hb, hc⟩ := h.2 hn
  refine ⟨_, rfl, fun j p hj => ⟨[.int .u8 p], rfl, rfl, fun i u hu => ?_⟩⟩
  have hi : i = 0 := by
    have := (List.getElem?_eq_some_iff.1 hu).1
    simpa using this
  subst hi
  have hu : u = .int .u8 p := by simpa using hu.symm
  subst hu
  have hlt := (List.getElem?_eq_some_iff.1 hj).1
  have := hc j hlt
  rw [add_plain, blk_cell hb]
  simp only [Kd.int, Kd.scalar, Nat.mul_one, Nat.add_zero, Nat.zero_add]
  rw [this, List.getD_eq_getElem?_getD, hj]
  rfl
theorem ByteVal.below {b : List Int} (h : ByteVal w lo A b) (hb : Below w.heap.size w w') : ByteVal w' lo A b :=
  ⟨h.1, fun hn => by obtain ⟨g, cs, e, a, c, d⟩ := h.2 hn; exact ⟨g, cs, e, a, blk_below c hb, d⟩⟩
theorem ByteVal.far {b : List Int} (h : ByteVal w lo A b) {p : Addr} {t : Nat} {cs : Array Value} (hb : w.heap[p.block]? = some (.cells cs t (0, 0))) (ht : t ≠ 5) (u : Value) : ByteVal (w.setCell p u) lo A b :=
  ⟨h.1, fun hn => by
    obtain ⟨g, cs', e, a, c, d⟩ := h.2 hn
    exact ⟨g, cs', e, a, blk_far c (fun e => by subst e; rw [hb] at c; injection c with c; injection c with _ c _; exact ht c) _, d⟩⟩
theorem ByteVal.lower {b : List Int} {lo' : Nat} (h : ByteVal w lo A b) (hl : lo' ≤ lo) : ByteVal w lo' A b :=
  ⟨h.1, fun hn => by obtain ⟨g, cs, e, a, c, d⟩ := h.2 hn; exact ⟨g, cs, e, Nat.le_trans hl a, c, d⟩⟩
theorem PendVal.of_S {base : Nat} {ok : Nat → Prop} {v : Value} {xs : List S65} (h : Kd.S k65 65 w base ok v xs) : ∃ A c, v = .slice A xs.length c ∧ xs.length ≤ c ∧ PendVal w base A xs := by
  obtain ⟨A, c, rfl, hc, hrd⟩ := Kd.S_reads h
  refine ⟨A, c, rfl, hc, hrd.2.1, fun hn => ?_⟩
  obtain ⟨_, inner, ho, hr⟩ := Kd.S_R h
  rcases ho.2 with ⟨e, hi⟩ | ⟨g, cap, cur, he, hb, hh, h1, h2, h3, h4⟩
  · omega
  · injection he with he _ _
    subst he
    refine ⟨g, cur, rfl, hb, hh, fun i s hs => ?_⟩
    obtain ⟨hi, rfl⟩ := List.getElem?_eq_some_iff.1 hs
    obtain ⟨u, v, hM, c0, c1⟩ := rows_at (show Reps (k65.M w base _) 2 xs inner from hr) h4.symm hi
    obtain ⟨v0, e, hR⟩ := k65_openM hM
    injection e with e1 e
    injection e with e2 _
    subst e1 e2
    obtain ⟨A', c', rfl, hc', hb'⟩ := ByteVal.of_R hR
    exact ⟨A', c', c0, c1, hc', hb'⟩
theorem SecVal.C {l : List S52} (h : SecVal w lo A l) : k52.C w A l.length l := by
  refine ⟨rfl, h.1, fun hn => ?_⟩
  obtain ⟨g, cs, rfl, _, hb, hc⟩ := h.2 hn
  refine ⟨_, rfl, fun j s hj => ?_⟩
  obtain ⟨A', c, c0, c1, hl, hv⟩ := hc j s hj
  refine ⟨[.slice A' s.f0.length c, .bool s.f1], rfl, k52_mk w s hl hv.C, fun i u hu => ?_⟩
  rw [add_plain, blk_cell hb]
  match i, hu with
  | 0, hu => rw [show j * k52.sz + 0 = j * 2 from rfl, c0]; simpa using hu
  | 1, hu => rw [show j * k52.sz + 1 = j * 2 + 1 from rfl, c1]; simpa using hu
  | i + 2, hu => simp at hu
theorem PendVal.C {l : List S65} (h : PendVal w lo A l) : k65.C w A l.length l := by
  refine ⟨rfl, h.1, fun hn => ?_⟩
  obtain ⟨g, cs, rfl, _, hb, hc⟩ := h.2 hn
  refine ⟨_, rfl, fun j s hj => ?_⟩
  obtain ⟨A', c, c0, c1, hl, hv⟩ := hc j s hj
  refine ⟨[.int .i64 s.f0, .slice A' s.f1.length c], rfl, k65_mk w s hl hv.C, fun i u hu => ?_⟩
  rw [add_plain, blk_cell hb]
  match i, hu with
  | 0, hu => rw [show j * k65.sz + 0 = j * 2 from rfl, c0]; simpa using hu
  | 1, hu => rw [show j * k65.sz + 1 = j * 2 + 1 from rfl, c1]; simpa using hu
  | i + 2, hu => simp at hu
theorem SecVal.below {l : List S52} (h : SecVal w lo A l) (hb : Below w.heap.size w w') : SecVal w' lo A l :=
  ⟨h.1, fun hn => by
    obtain ⟨g, cs, e, a, b, d⟩ := h.2 hn
    refine ⟨g, cs, e, a, blk_below b hb, fun i s hs => ?_⟩
    obtain ⟨A', c, c0, c1, hl, hv⟩ := d i s hs
    exact ⟨A', c, c0, c1, hl, hv.below hb⟩⟩
theorem PendVal.below {l : List S65} (h : PendVal w lo A l) (hb : Below w.heap.size w w') : PendVal w' lo A l :=
  ⟨h.1, fun hn => by
    obtain ⟨g, cs, e, a, b, d⟩ := h.2 hn
    refine ⟨g, cs, e, a, blk_below b hb, fun i s hs => ?_⟩
    obtain ⟨A', c, c0, c1, hl, hv⟩ := d i s hs
    exact ⟨A', c, c0, c1, hl, hv.below hb⟩⟩
theorem SecVal.far {l : List S52} (h : SecVal w lo A l) {p : Addr} {t : Nat} {cs : Array Value} (hb : w.heap[p.block]? = some (.cells cs t (0, 0))) (h5 : t ≠ 5) (h52 : t ≠ 52) (u : Value) : SecVal (w.setCell p u) lo A l :=
  ⟨h.1, fun hn => by
    obtain ⟨g, cs', e, a, b, d⟩ := h.2 hn
    refine ⟨g, cs', e, a, blk_far b (fun e => by subst e; rw [hb] at b; injection b with b; injection b with _ b _; exact h52 b) _, fun i s hs => ?_⟩
    obtain ⟨A', c, c0, c1, hl, hv⟩ := d i s hs
    exact ⟨A', c, c0, c1, hl, hv.far hb h5 u⟩⟩
theorem PendVal.far {l : List S65} (h : PendVal w lo A l) {p : Addr} {t : Nat} {cs : Array Value} (hb : w.heap[p.block]? = some (.cells cs t (0, 0))) (h5 : t ≠ 5) (h65 : t ≠ 65) (u : Value) : PendVal (w.setCell p u) lo A l :=
  ⟨h.1, fun hn => by
    obtain ⟨g, cs', e, a, b, d⟩ := h.2 hn
    refine ⟨g, cs', e, a, blk_far b (fun e => by subst e; rw [hb] at b; injection b with b; injection b with _ b _; exact h65 b) _, fun i s hs => ?_⟩
    obtain ⟨A', c, c0, c1, hl, hv⟩ := d i s hs
    exact ⟨A', c, c0, c1, hl, hv.far hb h5 u⟩⟩
theorem SecVal.put {l : List S52} {g i : Nat} (h : SecVal w lo (some ⟨g, 0, none⟩) l) (hi : i < l.length) {s : S52} {A' : Option Addr} {c : Nat} (hc : s.f0.length ≤ c) (hv : ByteVal w lo A' s.f0) :
    SecVal ((w.setCell ⟨g, i * 2, none⟩ (.slice A' s.f0.length c)).setCell ⟨g, i * 2 + 1, none⟩ (.bool s.f1)) lo (some ⟨g, 0, none⟩) (l.set i s) := by
  refine ⟨by rw [List.length_set]; exact h.1, fun hn => ?_⟩
  obtain ⟨g', cs, e, a, b, d⟩ := h.2 (by omega)
  have hg : g' = g := by injection e with e; injection e with e; exact e.symm
  subst hg
  have b1 := blk_set b (i * 2) (.slice A' s.f0.length c)
  have b2 := blk_set b1 (i * 2 + 1) (.bool s.f1)
  have keep : ∀ {A'' : Option Addr} {x : List Int}, ByteVal w lo A'' x → ByteVal ((w.setCell ⟨g', i * 2, none⟩ (.slice A' s.f0.length c)).setCell ⟨g', i * 2 + 1, none⟩ (.bool s.f1)) lo A'' x := fun hx => (hx.far (p := ⟨g', i * 2, none⟩) b (by decide) _).far (p := ⟨g', i * 2 + 1, none⟩) b1 (by decide) _
  refine ⟨g', _, rfl, a, b2, fun j x hx => ?_⟩
  obtain ⟨_, c1', d0, d1, _, _⟩ := d i _ (List.getElem?_eq_getElem hi)
  have z0 := (Array.getElem?_eq_some_iff.1 d0).1
  have z1 := (Array.getElem?_eq_some_iff.1 d1).1
  by_cases hij : j = i
  · subst hij
    rw [List.getElem?_set_self hi] at hx
    injection hx with hx
    subst hx
    refine ⟨A', c, ?_, ?_, hc, keep hv⟩
    · rw [Array.getElem?_setIfInBounds, if_neg (by omega), Array.getElem?_setIfInBounds, if_pos rfl, if_pos z0]
    · rw [Array.getElem?_setIfInBounds, if_pos rfl, if_pos (by simpa using z1)]
  · rw [List.getElem?_set_ne (fun e => hij e.symm)] at hx
    obtain ⟨A'', c'', e0, e1, hl, hvv⟩ := d j x hx
    refine ⟨A'', c'', ?_, ?_, hl, keep hvv⟩
    · rw [Array.getElem?_setIfInBounds, if_neg (by omega), Array.getElem?_setIfInBounds, if_neg (by omega), e0]
    · rw [Array.getElem?_setIfInBounds, if_neg (by omega), Array.getElem?_setIfInBounds, if_neg (by omega), e1]
end
end Go.Proofs.Ytjlohdbkjoofcaa.P
end
section
set_option linter.unusedVariables false
set_option linter.unusedSimpArgs false
namespace Go.Proofs.Ytjlohdbkjoofcaa.P
open Go.RowKit Go.Proofs.PrintWords Go.Proofs.PrintLast Go.Proofs.PrintMore
attribute [local go_sem] max2_int min2_int max_two min_two max_three min_three max_four min_four
def bits_Mul64.f (a0 : Int) (a1 : Int) : Option (Int × Int) := some (IntKind.u64.wrap ((IntKind.u64.wrap ((IntKind.u64.wrap ((a0 / 4294967296) * (a1 / 4294967296))) + ((IntKind.u64.wrap ((IntKind.u64.wrap ((a0 / 4294967296) * (Go.bits .and .u64 a1 4294967295))) + ((IntKind.u64.wrap ((Go.bits .and .u64 a0 4294967295) * (Go.bits .and .u64 a1 4294967295))) / 4294967296))) / 4294967296))) + ((IntKind.u64.wrap ((Go.bits .and .u64 (IntKind.u64.wrap ((IntKind.u64.wrap ((a0 / 4294967296) * (Go.bits .and .u64 a1 4294967295))) + ((IntKind.u64.wrap ((Go.bits .and .u64 a0 4294967295) * (Go.bits .and .u64 a1 4294967295))) / 4294967296))) 4294967295) + (IntKind.u64.wrap ((Go.bits .and .u64 a0 4294967295) * (a1 / 4294967296))))) / 4294967296)), IntKind.u64.wrap (a0 * a1))
set_option maxHeartbeats 8000000 in
set_option maxRecDepth 100000 in
theorem bits_Mul64.calls (a0 : Int) (a1 : Int) (r1 : Int) (r2 : Int) (w : World) (h : bits_Mul64.f a0 a1 = some (r1, r2)) :
    Calls Try.prog 222 #[.int .u64 a0, .int .u64 a1] w fun e w' => e = .returned (.tuple #[.int .u64 r1, .int .u64 r2]) ∧ Drawn0 w w' := by
  have H : (some (IntKind.u64.wrap ((IntKind.u64.wrap ((IntKind.u64.wrap ((a0 / 4294967296) * (a1 / 4294967296))) + ((IntKind.u64.wrap ((IntKind.u64.wrap ((a0 / 4294967296) * (Go.bits .and .u64 a1 4294967295))) + ((IntKind.u64.wrap ((Go.bits .and .u64 a0 4294967295) * (Go.bits .and .u64 a1 4294967295))) / 4294967296))) / 4294967296))) + ((IntKind.u64.wrap ((Go.bits .and .u64 (IntKind.u64.wrap ((IntKind.u64.wrap ((a0 / 4294967296) * (Go.bits .and .u64 a1 4294967295))) + ((IntKind.u64.wrap ((Go.bits .and .u64 a0 4294967295) * (Go.bits .and .u64 a1 4294967295))) / 4294967296))) 4294967295) + (IntKind.u64.wrap ((Go.bits .and .u64 a0 4294967295) * (a1 / 4294967296))))) / 4294967296)), IntKind.u64.wrap (a0 * a1))) = some (r1, r2) := h
  clear h
  simp only [Option.some.injEq, Prod.mk.injEq] at H
  obtain ⟨rfl, rfl⟩ := H
  go_enter Try.func222, Try.ntmps222
  go_wp2
  go_ret2
  exact ⟨by first | rfl | (simp; done) | (simp [*]; done), by repeat (first | exact Drawn0.refl _ | apply Drawn0.step)⟩
end Go.Proofs.Ytjlohdbkjoofcaa.P
end
section
set_option linter.unusedVariables false
set_option linter.unusedSimpArgs false
namespace Go.Proofs.Ytjlohdbkjoofcaa.P
open Go.RowKit Go.Proofs.PrintWords Go.Proofs.PrintLast Go.Proofs.PrintMore
attribute [local go_sem] max2_int min2_int max_two min_two max_three min_three max_four min_four
def bits_Mul.f (a0 : Int) (a1 : Int) : Option (Int × Int) := (bits_Mul64.f a0 a1).bind fun bt353 => (some (bt353.1, bt353.2))
set_option maxHeartbeats 8000000 in
set_option maxRecDepth 100000 in
theorem bits_Mul.calls (a0 : Int) (a1 : Int) (r1 : Int) (r2 : Int) (w : World) (h : bits_Mul.f a0 a1 = some (r1, r2)) :
    Calls Try.prog 189 #[.int .u64 a0, .int .u64 a1] w fun e w' => e = .returned (.tuple #[.int .u64 r1, .int .u64 r2]) ∧ Drawn0 w w' := by
  have H : ((bits_Mul64.f a0 a1).bind fun bt353 => (some (bt353.1, bt353.2))) = some (r1, r2) := h
  clear h
  replace H := Option.bind_eq_some_iff.mp H
  obtain ⟨⟨t353, t354⟩, A30, H⟩ := H
  replace H : (some (t353, t354)) = some (r1, r2) := H
  have A3 := Aside0.mk A30
  clear A30
  simp only [Option.some.injEq, Prod.mk.injEq] at H
  obtain ⟨rfl, rfl⟩ := H
  go_enter Try.func189, Try.ntmps189
  go_wp2_with (first | ((with_reducible refine gate_callee (f := 222) rfl ?_); refine goesL_ (some 25) rfl rfl Try.func222 (by kernel_rfl) rfl #[.int .u64 a0, .int .u64 a1] rfl (by (try simp only [List.map_toArray, List.map_cons, List.map_nil]); first | done | rfl | (simp only [List.length_drop, List.length_take]; rfl)) ?_; (with_reducible refine (bits_Mul64.calls a0 a1 t353 t354 _ A3.out).mono ?_); rintro e w' ⟨rfl, ⟨nd, rfl⟩⟩; refine ⟨_, rfl, ?_⟩))
  go_ret2
  exact ⟨by first | rfl | (simp; done) | (simp [*]; done), by repeat (first | exact Drawn0.refl _ | apply Drawn0.step)⟩
end Go.Proofs.Ytjlohdbkjoofcaa.P
end
section
set_option linter.unusedVariables false
set_option linter.unusedSimpArgs false
namespace Go.Proofs.Ytjlohdbkjoofcaa.P
open Go.RowKit Go.Proofs.PrintWords Go.Proofs.PrintLast Go.Proofs.PrintMore
attribute [local go_sem] max2_int min2_int max_two min_two max_three min_three max_four min_four
def catamaranref05_Blank.l0 : Nat → Int → Int → List (S52) → Option ((List (S52)) × (List (S65)))
  | 0, _, _, _ => none
  | k + 1, x0, x4, x386000 => if x4 < x0 then (if 32 ≤ 281474976710656 then (if x386000.length < 4398046511104 then (catamaranref05_Blank.l0 k x0 (wrap64 (x4 + 1)) (x386000 ++ [(⟨(List.replicate 32 0), false⟩ : S52)])) else (none)) else (none)) else (some (x386000, ([] : List (S65))))
def catamaranref05_Blank.f (k : Nat) (a0 : Int) : Option ((List (S52)) × (List (S65))) := catamaranref05_Blank.l0 k a0 0 ([] : List (S52))
theorem catamaranref05_Blank.mono_l : ∀ k, (∀ y0 y1 y2, LeO (catamaranref05_Blank.l0 k y0 y1 y2) (catamaranref05_Blank.l0 (k + 1) y0 y1 y2))
  | 0 => fun _ _ _ r h => by simp [catamaranref05_Blank.l0] at h
  | k + 1 => by
    have ih0 := catamaranref05_Blank.mono_l k
    · intro y0 y1 y2
      unfold catamaranref05_Blank.l0
      repeat' first
      | (with_reducible exact ih0 _ _ _)
      | (with_reducible exact LeO.refl _)
      | (with_reducible exact LeO.none _)
      | (with_reducible refine LeO.ite ?_ ?_)
      | (with_reducible refine LeO.bind ?_ (fun _ => ?_))
      | exact ih0 _ _ _
      | exact LeO.none _
      | refine LeO.ite ?_ ?_
      | refine LeO.bind ?_ (fun _ => ?_)
theorem catamaranref05_Blank.mono : ∀ a0 k, LeO (catamaranref05_Blank.f k a0) (catamaranref05_Blank.f (k + 1) a0) := by
  intro a0 k
  have ih0 := catamaranref05_Blank.mono_l k
  unfold catamaranref05_Blank.f
  repeat' first
      | (with_reducible exact ih0 _ _ _)
      | (with_reducible exact LeO.refl _)
      | (with_reducible exact LeO.none _)
      | (with_reducible refine LeO.ite ?_ ?_)
      | (with_reducible refine LeO.bind ?_ (fun _ => ?_))
      | exact ih0 _ _ _
      | exact LeO.none _
      | refine LeO.ite ?_ ?_
      | refine LeO.bind ?_ (fun _ => ?_)
def catamaranref05_Blank.T5 : Bool × List (List Nat × List Nat) := (true, [([], []), ([0], [0]), ([], []), ([2], [2]), ([3], [3]), ([1, 4], [1, 4]), ([0, 1, 2, 3, 4, 5], []), ([6, 5, 5, 0, 1, 2, 3, 4, 5], [5, 6])])
def catamaranref05_Blank.B5 : List Nat := [0, 1, 0, 4, 12, 31, 63, 127]
theorem catamaranref05_Blank.tab5 : rtab .any (opsOf Try.f131 5) = catamaranref05_Blank.T5 := by kernel_rfl
theorem catamaranref05_Blank.bits5 : waitsOk catamaranref05_Blank.T5.2 catamaranref05_Blank.B5 = true := by kernel_rfl
set_option maxHeartbeats 8000000 in
set_option maxRecDepth 100000 in
theorem catamaranref05_Blank.calls (k : Nat) (a0 : Int) (r1 : List (S52)) (r2 : List (S65)) (w : World) (h : catamaranref05_Blank.f k a0 = some (r1, r2)) :
    Calls Try.prog 131 #[.int .i64 a0] w fun e w' => ∃ v0_ v1_ : Value, e = .returned (.agg #[v0_, v1_]) ∧ Kd.S k52 52 w' w.heap.size (fun _ => True) v0_ r1 ∧ Kd.S k65 65 w' w.heap.size (fun _ => True) v1_ r2 ∧ Below w.heap.size w w' := by
  have hu25 := Try.underlying25
  have hu52 := Try.underlying52
  have HB := Aside0.mk (Below.refl w.heap.size w)
  have H : (catamaranref05_Blank.l0 k a0 0 ([] : List (S52))) = some (r1, r2) := h
  clear h
  have H' := Aside0.mk H
  clear H
  go_enter Try.func131, Try.ntmps131
  go_wp2_with (first | ((with_reducible refine gate_dst (N := 2) rfl ?_); refine box_event ?hg (N := 2) ?hd (cs := #[.slice none 0 0, .slice none 0 0]) (t := 25) ?hr ?_; (case hd => rfl); (case hg => rfl); (case hr => first | (go_simp; done) | (go_simp; rfl)); intro gb384 hg w2 hbox hb; have n0_ := Aside0.mk (below_step (by repeat (first | (with_reducible first | exact HB.out | apply below_alloc | apply pw_below_drewN | apply below_drew1) | exact HB.out)) hb); have n1_ := Aside0.mk (hbox); have n2_ := Aside0.mk ((by rw [hg]; exact (below_size (by repeat (first | (with_reducible first | exact HB.out | apply below_alloc | apply pw_below_drewN | apply below_drew1) | exact HB.out))) : w.heap.size ≤ gb384)); have n3_ := Aside0.mk ((by rw [hg]; exact (below_size (by repeat (first | (with_reducible first | exact HB.out | apply below_alloc | apply pw_below_drewN | apply below_drew1) | exact HB.out))) : w.heap.size ≤ gb384)); clear HB; have HB := n0_; have BK384 := n1_; have GW384 := n2_; have GE384 := n3_; clear n0_ n1_ n2_ n3_; clear hb hbox hg) | ((with_reducible refine gate_dst (N := 3) rfl ?_); refine box_event ?hg (N := 3) ?hd (cs := #[.slice none 0 0, .slice none 0 0]) (t := 25) ?hr ?_; (case hd => rfl); (case hg => rfl); (case hr => first | (go_simp; done) | (go_simp; rfl)); intro gb385 hg w3 hbox hb; have n0_ := Aside0.mk (blk_below (g := gb384) (o := .cells #[.slice none 0 0, .slice none 0 0] 25 (0, 0)) (by (with_reducible repeat (first | refine blk_drewN ?_ _ | refine blk_drew ?_ | refine blk_alloc ?_ _)); exact BK384.out) hb); have n1_ := Aside0.mk (below_step (by repeat (first | (with_reducible first | exact HB.out | apply below_alloc | apply pw_below_drewN | apply below_drew1 | refine below_set ?_ GE384.out) | exact HB.out)) hb); have n2_ := Aside0.mk (hbox); have n3_ := Aside0.mk ((by rw [hg]; exact (below_size (by repeat (first | (with_reducible first | exact HB.out | apply below_alloc | apply pw_below_drewN | apply below_drew1 | refine below_set ?_ GE384.out) | exact HB.out))) : w.heap.size ≤ gb385)); have n4_ := Aside0.mk ((by rw [hg]; exact (below_size (by repeat (first | (with_reducible first | exact HB.out | apply below_alloc | apply pw_below_drewN | apply below_drew1 | refine below_set ?_ GE384.out) | exact HB.out))) : w.heap.size ≤ gb385)); have n5_ := Aside0.mk ((by rw [hg]; exact Nat.ne_of_lt (blk_lt (g := gb384) (o := .cells #[.slice none 0 0, .slice none 0 0] 25 (0, 0)) (by (with_reducible repeat (first | refine blk_drewN ?_ _ | refine blk_drew ?_ | refine blk_alloc ?_ _)); exact BK384.out)) : gb384 ≠ gb385)); have n6_ := Aside0.mk ((by rw [hg]; exact Nat.ne_of_gt (blk_lt (g := gb384) (o := .cells #[.slice none 0 0, .slice none 0 0] 25 (0, 0)) (by (with_reducible repeat (first | refine blk_drewN ?_ _ | refine blk_drew ?_ | refine blk_alloc ?_ _)); exact BK384.out)) : gb385 ≠ gb384)); clear BK384; clear HB; have BK384 := n0_; have HB := n1_; have BK385 := n2_; have GW385 := n3_; have GE385 := n4_; have NB384_385 := n5_; have NB385_384 := n6_; clear n0_ n1_ n2_ n3_ n4_ n5_ n6_; clear hb hbox hg))
  go_loopg [4] k (fun kq v4 w' => ∃ (x4_1 : Int) (x386000_1 : List (S52)) (u386000 : Value), v4 = .int .i64 x4_1 ∧ Aside0 (catamaranref05_Blank.l0 kq a0 x4_1 x386000_1 = some (r1, r2)) ∧ Aside0 (kq ≤ k) ∧ Aside0 (Kd.S k52 52 w' w.heap.size (fun _ => True) u386000 x386000_1) ∧ Aside0 (w'.heap[gb384]? = some (.cells #[(.slice none 0 0), (.slice none 0 0)] 25 (0, 0))) ∧ Aside0 (w'.heap[gb385]? = some (.cells #[u386000, (.slice none 0 0)] 25 (0, 0))) ∧ Aside0 (Below w.heap.size w w'))
  case atStart => exact ⟨(0), (([] : List (S52))), (.slice none 0 0), (by first | rfl | (simp; done) | (simp [*]; done)), H', ⟨Nat.le_refl _⟩, ⟨by first | exact Kd.S_nil _ _ _ _ _ | exact Kd.N_nil _ _ _ _ _ | exact Kd.V_nil _ _ _ _ _ | exact Kd.Q_nil _ _ _ _ _ | exact Kd.R_nil _ _ _ _ _⟩, ⟨by (with_reducible repeat (first | refine blk_drewN ?_ _ | refine blk_drew ?_ | refine blk_alloc ?_ _)); exact BK384.out⟩, ⟨by (with_reducible repeat (first | refine blk_drewN ?_ _ | refine blk_drew ?_ | refine blk_alloc ?_ _)); exact BK385.out⟩, ⟨by repeat (first | (with_reducible first | exact HB.out | apply below_alloc | apply pw_below_drewN | apply below_drew1 | refine below_set ?_ GE384.out | refine below_set ?_ GE385.out) | exact HB.out)⟩⟩
  case round =>
    clear H'
    try clear c1
    try clear p2
    obtain ⟨x4_1, x386000_1, u386000, rfl, HA, HK1, HO_386000, BK384, BK385, HB⟩ := hrel
    cases gk with
    | zero => exact absurd HA.out (by simp [catamaranref05_Blank.l0])
    | succ k1 =>
      have H := HA.out
      clear HA
      simp only [catamaranref05_Blank.l0] at H
      by_cases c4 : x4_1 < a0
      · rw [if_pos c4] at H
        have c4b0 : decide (x4_1 < a0) = true := decide_eq_true c4
        clear c4
        by_cases c5 : 32 ≤ 281474976710656
        · rw [if_pos c5] at H
          have c5b0 := eq_true c5
          have c5b1 : decide (32 ≤ 281474976710656) = true := decide_eq_true c5
          clear c5
          obtain ⟨y386, hy386⟩ : ∃ y_ : List Int, y_ = (List.replicate 32 0) := ⟨_, rfl⟩
          replace H : (if x386000_1.length < 4398046511104 then (catamaranref05_Blank.l0 k1 a0 (wrap64 (x4_1 + 1)) (x386000_1 ++ [(⟨y386, false⟩ : S52)])) else (none)) = some (r1, r2) := by first | (rw [hy386]; with_reducible exact H) | (have H2_ := (Option.bind_some _ _).symm.trans H; rw [hy386]; with_reducible exact H2_) | (have H2_ := (Option.bind_some _ _).symm.trans H; with_reducible exact H2_) | with_reducible exact H | (rw [hy386]; exact H) | exact H
          have Ny386 := Aside0.mk hy386
          clear hy386
          by_cases c6 : x386000_1.length < 4398046511104
          · rw [if_pos c6] at H
            have LMc6 := Aside0.mk c6
            clear c6
            obtain ⟨y389, hy389⟩ : ∃ y_ : List (S52), y_ = (x386000_1 ++ [(⟨y386, false⟩ : S52)]) := ⟨_, rfl⟩
            replace H : (catamaranref05_Blank.l0 k1 a0 (wrap64 (x4_1 + 1)) y389) = some (r1, r2) := by first | (rw [hy389]; with_reducible exact H) | (have H2_ := (Option.bind_some _ _).symm.trans H; rw [hy389]; with_reducible exact H2_) | (have H2_ := (Option.bind_some _ _).symm.trans H; with_reducible exact H2_) | with_reducible exact H | (rw [hy389]; exact H) | exact H
            have Ny389 := Aside0.mk hy389
            clear hy389
            have H' := Aside0.mk H
            clear H
            try go_wp2
            have n0_ := Aside0.mk (Kd.S_drew HO_386000.out)
            have n1_ := Aside0.mk (blk_drew BK384.out)
            have n2_ := Aside0.mk (blk_drew BK385.out)
            have n3_ := Aside0.mk (below_drew1 HB.out)
            clear HO_386000
            clear BK384
            clear BK385
            clear HB
            have HO_386000 := n0_
            have BK384 := n1_
            have BK385 := n2_
            have HB := n3_
            clear n0_ n1_ n2_ n3_
            refine start_ (n := 8) (S := fun w' => w'.cell? ⟨gb385, 0, none⟩ = some (u386000) ∧ w'.cell? ⟨gb385, 1, none⟩ = some (.slice none 0 0)) (ds := [7]) #[false, false, false, false, false, false, false, false] (by kernel_rfl) rfl rfl ⟨(blk_cell BK385.out 0).trans rfl, (blk_cell BK385.out 1).trans rfl⟩ (fun hHeld => ?_); refine with_tabW catamaranref05_Blank.tab5 catamaranref05_Blank.bits5 (fun HT_ HW_ => ?_)
            generalize wr.drew = w7 at HO_386000 BK384 BK385 HB hHeld ⊢
            refine pure_ (i := 0) (N := some 10) (v := ?_) (a' := ?_) #[true, false, false, false, false, false, false, false] rfl rfl (any_of HT_.out (by kernel_rfl)) (fun _ _ _ h => h) (Or.inl ⟨by rfl, ?_⟩) ?_ ?_
            rotate_left
            · intro w'
              go_simp
              with_reducible rfl
            rotate_left
            · simp only [Act.put, List.setIfInBounds_toArray, List.set_cons_zero, List.set_cons_succ, i64_w, i32_w]
              rfl
            refine take_ (i := 1) (N := some 11) (v := ?_) (a' := ?_) #[true, true, false, false, false, false, false, false] rfl rfl (take_ofW HT_.out HW_.out (by kernel_rfl)) (fun _ _ _ h => h) (Or.inl ⟨by rfl, ?_⟩) hHeld ?_ ?_
            rotate_left
            · rintro w' ⟨s0, s1⟩
              go_simp
              with_reducible rfl
            rotate_left
            · simp only [Act.put, List.setIfInBounds_toArray, List.set_cons_zero, List.set_cons_succ, i64_w, i32_w]
              rfl
            refine one_ (i := 2) (N := some 12) #[true, true, true, false, false, false, false, false] rfl rfl (one_of HT_.out (by kernel_rfl)) (by decide) (fun K hK => ?_)
            refine Kd.R_make_step (Kd.int .u8) _ 5 (by rfl) (N := 12) rfl 26 _ _ rfl 32 rfl rfl Try.underlying26 (.int .u8 0) 1 info5 rfl (by decide) (by omega) 0 (ok := fun _ => True) (okp := fun _ => True) rfl (fun _ hk => hk) trivial (by omega) (by omega) (Below.refl _ _) (Nat.le_refl _) ?_
            intro v387 w8 ho9 hb hg_ hnew_
            clear hg_ hnew_
            (first | rw [← Ny386.out] at ho9 | (simp only [Int.reduceToNat] at ho9; rw [← Ny386.out] at ho9))
            have n0_ := Aside0.mk (Kd.S_elder' (by (with_reducible repeat (first | apply Kd.S_alloc | apply Kd.S_drewN | apply Kd.S_drew)); exact HO_386000.out) (Kd.R_base ho9) hb)
            have n1_ := Aside0.mk (Kd.R_lower ho9 (below_size (by repeat (first | (with_reducible first | exact HB.out | apply below_alloc | apply pw_below_drewN | apply below_drew1 | refine below_set ?_ GE384.out | refine below_set ?_ GE385.out) | exact HB.out))))
            have n2_ := Aside0.mk (blk_below (g := gb384) (o := .cells #[.slice none 0 0, .slice none 0 0] 25 (0, 0)) (by (with_reducible repeat (first | refine blk_drewN ?_ _ | refine blk_drew ?_ | refine blk_alloc ?_ _)); exact BK384.out) hb)
            have n3_ := Aside0.mk (blk_below (g := gb385) (o := .cells #[u386000, .slice none 0 0] 25 (0, 0)) (by (with_reducible repeat (first | refine blk_drewN ?_ _ | refine blk_drew ?_ | refine blk_alloc ?_ _)); exact BK385.out) hb)
            have n4_ := Aside0.mk (below_step (by repeat (first | (with_reducible first | exact HB.out | apply below_alloc | apply pw_below_drewN | apply below_drew1 | refine below_set ?_ GE384.out | refine below_set ?_ GE385.out) | exact HB.out)) hb)
            clear HO_386000
            clear BK384
            clear BK385
            clear HB
            have HO_386000 := n0_
            have HO388 := n1_
            have BK384 := n2_
            have BK385 := n3_
            have HB := n4_
            clear n0_ n1_ n2_ n3_ n4_
            clear hb ho9
            obtain ⟨Ao10, co10, eo10⟩ := Kd.R_slice HO388.out
            (first | subst eo10 | (injection eo10 with f1_ f2_ f3_; have f4_ := f1_.symm; have f5_ := f3_.symm; clear f1_ f2_ f3_; subst f4_; subst f5_))
            refine hK.out _ _ ⟨(blk_cell BK385.out 0).trans rfl, (blk_cell BK385.out 1).trans rfl⟩ (fun hHeld => ?_)
            clear hK K
            refine norm_ (a' := ?_) ?_ ?_
            rotate_left
            · show Act.put _ (some 12) _ = _
              simp only [Act.put, List.setIfInBounds_toArray, List.set_cons_zero, List.set_cons_succ, i64_w, i32_w]
              rfl
            refine pure_ (i := 3) (N := some 13) (v := ?_) (a' := ?_) #[true, true, true, true, false, false, false, false] rfl rfl (any_of HT_.out (by kernel_rfl)) (fun _ _ _ h => h) (Or.inl ⟨by rfl, ?_⟩) ?_ ?_
            rotate_left
            · intro w'
              go_simp
              with_reducible rfl
            rotate_left
            · simp only [Act.put, List.setIfInBounds_toArray, List.set_cons_zero, List.set_cons_succ, i64_w, i32_w]
              rfl
            refine one_ (i := 4) (N := some 14) #[true, true, true, true, true, false, false, false] rfl rfl (one_of HT_.out (by kernel_rfl)) (by decide) (fun K hK => ?_)
            refine value_ (w1 := ?_) (v := ?_) (by rfl) rfl ?_ ?_
            rotate_left 2
            · go_simp
              constructor
              · rfl
              · rfl
            refine hK.out _ _ ⟨(blk_cell (blk_alloc BK385.out _) 0).trans rfl, (blk_cell (blk_alloc BK385.out _) 1).trans rfl⟩ (fun hHeld => ?_)
            clear hK K
            refine norm_ (a' := ?_) ?_ ?_
            rotate_left
            · show Act.put _ (some 14) _ = _
              simp only [Act.put, List.setIfInBounds_toArray, List.set_cons_zero, List.set_cons_succ, i64_w, i32_w]
              rfl
            refine one_ (i := 5) (N := some 15) #[true, true, true, true, true, true, false, false] rfl rfl (one_of HT_.out (by kernel_rfl)) (by decide) (fun K hK => ?_)
            refine Kd.S_append_step k52 (w0 := w) w.heap.size (by rfl) (.tmp 11) (.tmp 14) 22 52 (.agg #[(.slice none 0 0), (.bool false)]) 32 rfl Try.underlying22 info52 rfl (by decide) (by omega) u386000 x386000_1 (⟨y386, false⟩ : S52) [.slice Ao10 y386.length co10, .bool false] (fun _ => True) (fun k_ => some k_ = (.slice Ao10 y386.length co10 : Value).ownBlock) rfl rfl ?aP (fun k_ hk_ => ((Kd.R_mono (ok' := fun k_ => ((fun _ => True)) k_ ∧ some k_ ≠ (u386000 : Value).ownBlock) (Kd.R_apart' (HO388.out) (Kd.S_typed HO_386000.out) (by decide)) (fun k_ hk => ⟨trivial, hk.2⟩))).1 k_ hk_.symm) ?aF ?aO ?aB ?aS ?aL ?_
            (case aP => exact k52_mkM _ _ _ (⟨y386, false⟩ : S52) (Kd.R_mono (Kd.R_tight rfl (Kd.R_mono (ok' := fun k_ => ((fun _ => True)) k_ ∧ some k_ ≠ (u386000 : Value).ownBlock) (Kd.R_apart' (HO388.out) (Kd.S_typed HO_386000.out) (by decide)) (fun k_ hk => ⟨trivial, hk.2⟩))) (fun _ h_ => h_)))
            (case aB => exact (by repeat (first | (with_reducible first | exact HB.out | apply below_alloc | apply pw_below_drewN | apply below_drew1 | refine below_set ?_ GE384.out | refine below_set ?_ GE385.out) | exact HB.out)))
            (case aF => exact (fun _ _ => trivial))
            (case aO => exact (by (with_reducible repeat (first | apply Kd.S_alloc | apply Kd.S_drewN | apply Kd.S_drew)); exact Kd.S_mono HO_386000.out (fun k_ hk => ⟨trivial, fun e_ => hk.2 e_⟩)))
            (case aS => exact (below_size (by repeat (first | (with_reducible first | exact HB.out | apply below_alloc | apply pw_below_drewN | apply below_drew1 | refine below_set ?_ GE384.out | refine below_set ?_ GE385.out) | exact HB.out))))
            (case aL => have := LMc6.out; omega)
            intro v390 w11 ho hb hg hat
            rw [← Ny389.out] at ho
            have n0_ := Aside0.mk (blk_grown (g := gb384) (o := .cells #[.slice none 0 0, .slice none 0 0] 25 (0, 0)) (by (with_reducible repeat (first | refine blk_drewN ?_ _ | refine blk_drew ?_ | refine blk_alloc ?_ _)); exact BK384.out) hg (Kd.S_ne HO_386000.out BK384.out (by decide)))
            have n1_ := Aside0.mk (blk_grown (g := gb385) (o := .cells #[u386000, .slice none 0 0] 25 (0, 0)) (by (with_reducible repeat (first | refine blk_drewN ?_ _ | refine blk_drew ?_ | refine blk_alloc ?_ _)); exact BK385.out) hg (Kd.S_ne HO_386000.out BK385.out (by decide)))
            have n2_ := Aside0.mk (hb)
            have n3_ := Aside0.mk (ho)
            clear BK384
            clear BK385
            clear HB
            clear HO_386000
            clear HO388
            have BK384 := n0_
            have BK385 := n1_
            have HB := n2_
            have HO391 := n3_
            clear n0_ n1_ n2_ n3_
            clear ho hb hg hat
            obtain ⟨Ao12, co12, eo12⟩ := Kd.S_slice HO391.out
            (first | subst eo12 | (injection eo12 with f1_ f2_ f3_; have f4_ := f1_.symm; have f5_ := f3_.symm; clear f1_ f2_ f3_; subst f4_; subst f5_))
            refine hK.out _ _ ⟨(blk_cell BK385.out 0).trans rfl, (blk_cell BK385.out 1).trans rfl⟩ (fun hHeld => ?_)
            clear hK K
            refine norm_ (a' := ?_) ?_ ?_
            rotate_left
            · show Act.put _ (some 15) _ = _
              simp only [Act.put, List.setIfInBounds_toArray, List.set_cons_zero, List.set_cons_succ, i64_w, i32_w]
              rfl
            refine pure_ (i := 6) (N := some 16) (v := ?_) (a' := ?_) #[true, true, true, true, true, true, true, false] rfl rfl (any_of HT_.out (by kernel_rfl)) (fun _ _ _ h => h) (Or.inl ⟨by rfl, ?_⟩) ?_ ?_
            rotate_left
            · intro w'
              go_simp
              with_reducible rfl
            rotate_left
            · simp only [Act.put, List.setIfInBounds_toArray, List.set_cons_zero, List.set_cons_succ, i64_w, i32_w]
              rfl
            refine last_ (i := 7) (N := none) #[true, true, true, true, true, true, true, true] rfl rfl (one_of HT_.out (by kernel_rfl)) (by decide) (fun K hK => ?_)
            have hs13 : w11.cell? ⟨gb385, 0, none⟩ = some (u386000) := (blk_cell BK385.out 0).trans rfl
            have hfs13 := blk_frozen BK385.out 0
            have hns13_0 := NB384_385.out
            have hms13_0 := NB385_384.out
            refine skip_ (w1 := ?_) (by rfl) rfl ?_ ?_
            rotate_left
            · go_simp
              rfl
            refine hK.out _ _ ?_
            clear hK K
            refine done_ (done_of HT_.out (by kernel_rfl)) ?_
            try go_wp2
            go_roundg k1
            case measure => have := HK1.out; omega
            case rel => exact ⟨(wrap64 (x4_1 + 1)), (y389), (.slice Ao12 y389.length co12), (by first | rfl | (simp; done) | (simp [*]; done)), H', ⟨by have := HK1.out; omega⟩, ⟨by (with_reducible repeat (first | apply Kd.S_alloc | apply Kd.S_drewN | apply Kd.S_drew)); exact Kd.S_mono (Kd.S_far (p := ⟨gb385, 0, none⟩) (Kd.S_types HO391.out BK385.out (by decide)) (fun _ hk => hk.2) (.slice Ao12 y389.length co12)) (fun _ hk => trivial)⟩, ⟨by (with_reducible repeat (first | refine blk_drewN ?_ _ | refine blk_drew ?_ | refine blk_alloc ?_ _)); refine blk_far ?_ NB384_385.out _; (with_reducible repeat (first | refine blk_drewN ?_ _ | refine blk_drew ?_ | refine blk_alloc ?_ _)); exact BK384.out⟩, ⟨by (with_reducible repeat (first | refine blk_drewN ?_ _ | refine blk_drew ?_ | refine blk_alloc ?_ _)); refine blk_put (cs := #[u386000, .slice none 0 0]) ?_ 0 _ rfl; (with_reducible repeat (first | refine blk_drewN ?_ _ | refine blk_drew ?_ | refine blk_alloc ?_ _)); exact BK385.out⟩, ⟨by repeat (first | (with_reducible first | exact HB.out | apply below_alloc | apply pw_below_drewN | apply below_drew1 | refine below_set ?_ GE384.out | refine below_set ?_ GE385.out) | exact HB.out)⟩⟩
          · rw [if_neg c6] at H
            exact absurd H (by simp)
        · rw [if_neg c5] at H
          exact absurd H (by simp)
      · rw [if_neg c4] at H
        have c4b0 : decide (x4_1 < a0) = false := decide_eq_false c4
        clear c4
        simp only [Option.some.injEq, Prod.mk.injEq] at H
        obtain ⟨rfl, rfl⟩ := H
        have hnb14 := NB385_384.out
        have hnc14 := NB384_385.out
        have hcz15_0 : wr.cell? ⟨gb385, 0, none⟩ = some (u386000) := (blk_cell BK385.out 0).trans rfl
        have hcz15_1 : wr.cell? ⟨gb385, 1, none⟩ = some (.slice none 0 0) := (blk_cell BK385.out 1).trans rfl
        have hfz15_0 := blk_frozen BK385.out 0
        have hfz15_1 := blk_frozen BK385.out 1
        obtain ⟨Ao16, co16, eo16⟩ := Kd.S_slice HO_386000.out
        subst eo16
        have hcz17_0 : wr.cell? ⟨gb384, 0, none⟩ = some (.slice none 0 0) := (blk_cell BK384.out 0).trans rfl
        have hcz17_1 : wr.cell? ⟨gb384, 1, none⟩ = some (.slice none 0 0) := (blk_cell BK384.out 1).trans rfl
        have hfz17_0 := blk_frozen BK384.out 0
        have hfz17_1 := blk_frozen BK384.out 1
        go_wp2
        refine bodyPost_ret (results_cell_row rfl _ _ gb384 25 #[.slice Ao16 x386000_1.length co16, .slice none 0 0] (0, 0) _ rfl (by (with_reducible repeat (first | refine blk_drewN ?_ _ | refine blk_drew ?_ | refine blk_alloc ?_ _)); refine blk_put (cs := #[.slice Ao16 x386000_1.length co16, .slice none 0 0]) ?_ 1 _ rfl; (with_reducible repeat (first | refine blk_drewN ?_ _ | refine blk_drew ?_ | refine blk_alloc ?_ _)); refine blk_put (cs := #[.slice none 0 0, .slice none 0 0]) ?_ 0 _ rfl; (with_reducible repeat (first | refine blk_drewN ?_ _ | refine blk_drew ?_ | refine blk_alloc ?_ _)); exact BK384.out) Try.underlying25 rfl (by kernel_rfl)) rfl ?_
        exact ⟨_, _, by first | rfl | (simp [errW_none, errW_some] <;> rfl) | (simp [*, errW_none, errW_some] <;> rfl), by (with_reducible repeat (first | apply Kd.S_alloc | apply Kd.S_drewN | apply Kd.S_drew)); exact Kd.S_mono (Kd.S_far (p := ⟨gb384, 1, none⟩) (Kd.S_far (p := ⟨gb384, 0, none⟩) (Kd.S_types HO_386000.out BK384.out (by decide)) (fun _ hk => hk.2) (.slice Ao16 x386000_1.length co16)) (fun _ hk => hk.2) (.slice none 0 0)) (fun _ hk => trivial), by first | exact Kd.S_nil _ _ _ _ _ | exact Kd.N_nil _ _ _ _ _ | exact Kd.V_nil _ _ _ _ _ | exact Kd.Q_nil _ _ _ _ _ | exact Kd.R_nil _ _ _ _ _, by repeat (first | (with_reducible first | exact HB.out | apply below_alloc | apply pw_below_drewN | apply below_drew1 | refine below_set ?_ GE384.out | refine below_set ?_ GE385.out) | exact HB.out)⟩
end Go.Proofs.Ytjlohdbkjoofcaa.P
end
section
set_option linter.unusedVariables false
set_option linter.unusedSimpArgs false
namespace Go.Proofs.Ytjlohdbkjoofcaa.P
open Go.RowKit Go.Proofs.PrintWords Go.Proofs.PrintLast Go.Proofs.PrintMore
attribute [local go_sem] max2_int min2_int max_two min_two max_three min_three max_four min_four
def catamaranref05_New.f (k : Nat) (a0 : Int) : Option ((List (S52)) × (List (S65)) × Int) := if a0 < 1 then (some (([] : List (S52)), ([] : List (S65)), 2)) else (if a0 > 1024 then (some (([] : List (S52)), ([] : List (S65)), 2)) else ((catamaranref05_Blank.f k a0).bind fun bt393 => (some (bt393.1, bt393.2, 0))))
theorem catamaranref05_New.mono : ∀ a0 k, LeO (catamaranref05_New.f k a0) (catamaranref05_New.f (k + 1) a0) := by
  intro a0 k
  unfold catamaranref05_New.f
  repeat' first
      | (with_reducible exact catamaranref05_Blank.mono _ _)
      | (with_reducible exact LeO.refl _)
      | (with_reducible exact LeO.none _)
      | (with_reducible refine LeO.ite ?_ ?_)
      | (with_reducible refine LeO.bind ?_ (fun _ => ?_))
      | exact catamaranref05_Blank.mono _ _
      | exact LeO.none _
      | refine LeO.ite ?_ ?_
      | refine LeO.bind ?_ (fun _ => ?_)
set_option maxHeartbeats 8000000 in
set_option maxRecDepth 100000 in
theorem catamaranref05_New.calls (k : Nat) (a0 : Int) (r1 : List (S52)) (r2 : List (S65)) (r3 : Int) (w : World) (h : catamaranref05_New.f k a0 = some (r1, r2, r3)) :
    Calls Try.prog 51 #[.int .i64 a0] w fun e w' => ∃ v0_ v1_ : Value, e = .returned (.tuple #[.agg #[v0_, v1_], .int .i64 r3]) ∧ Kd.S k52 52 w' w.heap.size (fun _ => True) v0_ r1 ∧ Kd.S k65 65 w' w.heap.size (fun _ => True) v1_ r2 ∧ Below w.heap.size w w' := by
  have hu25 := Try.underlying25
  have HB := Aside0.mk (Below.refl w.heap.size w)
  have H : (if a0 < 1 then (some (([] : List (S52)), ([] : List (S65)), 2)) else (if a0 > 1024 then (some (([] : List (S52)), ([] : List (S65)), 2)) else ((catamaranref05_Blank.f k a0).bind fun bt393 => (some (bt393.1, bt393.2, 0))))) = some (r1, r2, r3) := h
  clear h
  by_cases c2 : a0 < 1
  · rw [if_pos c2] at H
    have c2b0 : decide (a0 < 1) = true := decide_eq_true c2
    clear c2
    simp only [Option.some.injEq, Prod.mk.injEq] at H
    obtain ⟨rfl, rfl, rfl⟩ := H
    go_enter Try.func51, Try.ntmps51
    go_wp2_with (first | ((with_reducible refine gate_dst (N := 2) rfl ?_); refine box_event ?hg (N := 2) ?hd (cs := #[.slice none 0 0, .slice none 0 0]) (t := 25) ?hr ?_; (case hd => rfl); (case hg => rfl); (case hr => first | (go_simp; done) | (go_simp; rfl)); intro gb392 hg w3 hbox hb; have n0_ := Aside0.mk (below_step (by repeat (first | (with_reducible first | exact HB.out | apply below_alloc | apply pw_below_drewN | apply below_drew1) | exact HB.out)) hb); have n1_ := Aside0.mk (hbox); have n2_ := Aside0.mk ((by rw [hg]; exact (below_size (by repeat (first | (with_reducible first | exact HB.out | apply below_alloc | apply pw_below_drewN | apply below_drew1) | exact HB.out))) : w.heap.size ≤ gb392)); have n3_ := Aside0.mk ((by rw [hg]; exact (below_size (by repeat (first | (with_reducible first | exact HB.out | apply below_alloc | apply pw_below_drewN | apply below_drew1) | exact HB.out))) : w.heap.size ≤ gb392)); clear HB; have HB := n0_; have BK392 := n1_; have GW392 := n2_; have GE392 := n3_; clear n0_ n1_ n2_ n3_; clear hb hbox hg; have hcz4_0 : w3.cell? ⟨gb392, 0, none⟩ = some (.slice none 0 0) := (blk_cell BK392.out 0).trans rfl; have hcz4_1 : w3.cell? ⟨gb392, 1, none⟩ = some (.slice none 0 0) := (blk_cell BK392.out 1).trans rfl; have hfz4_0 := blk_frozen BK392.out 0; have hfz4_1 := blk_frozen BK392.out 1))
    refine bodyPost_ret (results_ct rfl _ _ gb392 25 #[.slice none 0 0, .slice none 0 0] (0, 0) _ rfl (by (with_reducible repeat (first | refine blk_drewN ?_ _ | refine blk_drew ?_ | refine blk_alloc ?_ _)); refine blk_put (cs := #[.slice none 0 0, .slice none 0 0]) ?_ 1 _ rfl; (with_reducible repeat (first | refine blk_drewN ?_ _ | refine blk_drew ?_ | refine blk_alloc ?_ _)); refine blk_put (cs := #[.slice none 0 0, .slice none 0 0]) ?_ 0 _ rfl; (with_reducible repeat (first | refine blk_drewN ?_ _ | refine blk_drew ?_ | refine blk_alloc ?_ _)); exact BK392.out) Try.underlying25 rfl (by kernel_rfl)) rfl ?_
    exact ⟨_, _, by first | rfl | (simp [errW_none, errW_some] <;> rfl) | (simp [*, errW_none, errW_some] <;> rfl), by first | exact Kd.S_nil _ _ _ _ _ | exact Kd.N_nil _ _ _ _ _ | exact Kd.V_nil _ _ _ _ _ | exact Kd.Q_nil _ _ _ _ _ | exact Kd.R_nil _ _ _ _ _, by first | exact Kd.S_nil _ _ _ _ _ | exact Kd.N_nil _ _ _ _ _ | exact Kd.V_nil _ _ _ _ _ | exact Kd.Q_nil _ _ _ _ _ | exact Kd.R_nil _ _ _ _ _, by repeat (first | (with_reducible first | exact HB.out | apply below_alloc | apply pw_below_drewN | apply below_drew1 | refine below_set ?_ GE392.out) | exact HB.out)⟩
  · rw [if_neg c2] at H
    have c2b0 : decide (a0 < 1) = false := decide_eq_false c2
    clear c2
    by_cases c5 : a0 > 1024
    · rw [if_pos c5] at H
      have c5b0 : decide (1024 < a0) = true := decide_eq_true c5
      clear c5
      simp only [Option.some.injEq, Prod.mk.injEq] at H
      obtain ⟨rfl, rfl, rfl⟩ := H
      go_enter Try.func51, Try.ntmps51
      go_wp2_with (first | ((with_reducible refine gate_dst (N := 2) rfl ?_); refine box_event ?hg (N := 2) ?hd (cs := #[.slice none 0 0, .slice none 0 0]) (t := 25) ?hr ?_; (case hd => rfl); (case hg => rfl); (case hr => first | (go_simp; done) | (go_simp; rfl)); intro gb392 hg w6 hbox hb; have n0_ := Aside0.mk (below_step (by repeat (first | (with_reducible first | exact HB.out | apply below_alloc | apply pw_below_drewN | apply below_drew1) | exact HB.out)) hb); have n1_ := Aside0.mk (hbox); have n2_ := Aside0.mk ((by rw [hg]; exact (below_size (by repeat (first | (with_reducible first | exact HB.out | apply below_alloc | apply pw_below_drewN | apply below_drew1) | exact HB.out))) : w.heap.size ≤ gb392)); have n3_ := Aside0.mk ((by rw [hg]; exact (below_size (by repeat (first | (with_reducible first | exact HB.out | apply below_alloc | apply pw_below_drewN | apply below_drew1) | exact HB.out))) : w.heap.size ≤ gb392)); clear HB; have HB := n0_; have BK392 := n1_; have GW392 := n2_; have GE392 := n3_; clear n0_ n1_ n2_ n3_; clear hb hbox hg; have hcz7_0 : w6.cell? ⟨gb392, 0, none⟩ = some (.slice none 0 0) := (blk_cell BK392.out 0).trans rfl; have hcz7_1 : w6.cell? ⟨gb392, 1, none⟩ = some (.slice none 0 0) := (blk_cell BK392.out 1).trans rfl; have hfz7_0 := blk_frozen BK392.out 0; have hfz7_1 := blk_frozen BK392.out 1))
      refine bodyPost_ret (results_ct rfl _ _ gb392 25 #[.slice none 0 0, .slice none 0 0] (0, 0) _ rfl (by (with_reducible repeat (first | refine blk_drewN ?_ _ | refine blk_drew ?_ | refine blk_alloc ?_ _)); refine blk_put (cs := #[.slice none 0 0, .slice none 0 0]) ?_ 1 _ rfl; (with_reducible repeat (first | refine blk_drewN ?_ _ | refine blk_drew ?_ | refine blk_alloc ?_ _)); refine blk_put (cs := #[.slice none 0 0, .slice none 0 0]) ?_ 0 _ rfl; (with_reducible repeat (first | refine blk_drewN ?_ _ | refine blk_drew ?_ | refine blk_alloc ?_ _)); exact BK392.out) Try.underlying25 rfl (by kernel_rfl)) rfl ?_
      exact ⟨_, _, by first | rfl | (simp [errW_none, errW_some] <;> rfl) | (simp [*, errW_none, errW_some] <;> rfl), by first | exact Kd.S_nil _ _ _ _ _ | exact Kd.N_nil _ _ _ _ _ | exact Kd.V_nil _ _ _ _ _ | exact Kd.Q_nil _ _ _ _ _ | exact Kd.R_nil _ _ _ _ _, by first | exact Kd.S_nil _ _ _ _ _ | exact Kd.N_nil _ _ _ _ _ | exact Kd.V_nil _ _ _ _ _ | exact Kd.Q_nil _ _ _ _ _ | exact Kd.R_nil _ _ _ _ _, by repeat (first | (with_reducible first | exact HB.out | apply below_alloc | apply pw_below_drewN | apply below_drew1 | refine below_set ?_ GE392.out) | exact HB.out)⟩
    · rw [if_neg c5] at H
      have c5b0 : decide (1024 < a0) = false := decide_eq_false c5
      clear c5
      replace H := Option.bind_eq_some_iff.mp H
      obtain ⟨⟨t393, t396⟩, A80, H⟩ := H
      replace H : (some (t393, t396, 0)) = some (r1, r2, r3) := H
      have A8 := Aside0.mk A80
      clear A80
      simp only [Option.some.injEq, Prod.mk.injEq] at H
      obtain ⟨rfl, rfl, rfl⟩ := H
      go_enter Try.func51, Try.ntmps51
      go_wp2_with (first | ((with_reducible refine gate_dst (N := 2) rfl ?_); refine box_event ?hg (N := 2) ?hd (cs := #[.slice none 0 0, .slice none 0 0]) (t := 25) ?hr ?_; (case hd => rfl); (case hg => rfl); (case hr => first | (go_simp; done) | (go_simp; rfl)); intro gb392 hg w9 hbox hb; have n0_ := Aside0.mk (below_step (by repeat (first | (with_reducible first | exact HB.out | apply below_alloc | apply pw_below_drewN | apply below_drew1) | exact HB.out)) hb); have n1_ := Aside0.mk (hbox); have n2_ := Aside0.mk ((by rw [hg]; exact (below_size (by repeat (first | (with_reducible first | exact HB.out | apply below_alloc | apply pw_below_drewN | apply below_drew1) | exact HB.out))) : w.heap.size ≤ gb392)); have n3_ := Aside0.mk ((by rw [hg]; exact (below_size (by repeat (first | (with_reducible first | exact HB.out | apply below_alloc | apply pw_below_drewN | apply below_drew1) | exact HB.out))) : w.heap.size ≤ gb392)); clear HB; have HB := n0_; have BK392 := n1_; have GW392 := n2_; have GE392 := n3_; clear n0_ n1_ n2_ n3_; clear hb hbox hg) | ((with_reducible refine gate_callee (f := 131) rfl ?_); refine goesL_ (some 12) rfl rfl Try.func131 (by kernel_rfl) rfl #[.int .i64 a0] rfl (by (try simp only [List.map_toArray, List.map_cons, List.map_nil]); first | done | rfl | (simp only [List.length_drop, List.length_take]; rfl)) ?_; (with_reducible refine (catamaranref05_Blank.calls k a0 t393 t396 _ A8.out).mono ?_); rintro e w10 ⟨v394, v397, rfl, ho0, ho1, hb⟩; refine ⟨_, rfl, ?_⟩; have n0_ := Aside0.mk (Kd.S_lower ho0 (below_size (by repeat (first | (with_reducible first | exact HB.out | apply below_alloc | apply pw_below_drewN | apply below_drew1 | refine below_set ?_ GE392.out) | exact HB.out)))); have n1_ := Aside0.mk (Kd.S_lower ho1 (below_size (by repeat (first | (with_reducible first | exact HB.out | apply below_alloc | apply pw_below_drewN | apply below_drew1 | refine below_set ?_ GE392.out) | exact HB.out)))); have n2_ := Aside0.mk (blk_below (g := gb392) (o := .cells #[.slice none 0 0, .slice none 0 0] 25 (0, 0)) (by (with_reducible repeat (first | refine blk_drewN ?_ _ | refine blk_drew ?_ | refine blk_alloc ?_ _)); exact BK392.out) hb); have n3_ := Aside0.mk (below_step (by repeat (first | (with_reducible first | exact HB.out | apply below_alloc | apply pw_below_drewN | apply below_drew1 | refine below_set ?_ GE392.out) | exact HB.out)) hb); clear BK392; clear HB; have HO395 := n0_; have HO398 := n1_; have BK392 := n2_; have HB := n3_; clear n0_ n1_ n2_ n3_; (try clear hb); (try clear hb2); (try clear hk); (try clear hi); (try clear ho0); (try clear ho1); obtain ⟨Ao11, co11, eo11⟩ := Kd.S_slice HO395.out; subst eo11; have hcz12_0 : w10.cell? ⟨gb392, 0, none⟩ = some (.slice none 0 0) := (blk_cell BK392.out 0).trans rfl; have hcz12_1 : w10.cell? ⟨gb392, 1, none⟩ = some (.slice none 0 0) := (blk_cell BK392.out 1).trans rfl; have hfz12_0 := blk_frozen BK392.out 0; have hfz12_1 := blk_frozen BK392.out 1; obtain ⟨Ao13, co13, eo13⟩ := Kd.S_slice HO398.out; subst eo13))
      refine bodyPost_ret (results_ct rfl _ _ gb392 25 #[.slice Ao11 t393.length co11, .slice Ao13 t396.length co13] (0, 0) _ rfl (by (with_reducible repeat (first | refine blk_drewN ?_ _ | refine blk_drew ?_ | refine blk_alloc ?_ _)); refine blk_put (cs := #[.slice Ao11 t393.length co11, .slice none 0 0]) ?_ 1 _ rfl; (with_reducible repeat (first | refine blk_drewN ?_ _ | refine blk_drew ?_ | refine blk_alloc ?_ _)); refine blk_put (cs := #[.slice none 0 0, .slice none 0 0]) ?_ 0 _ rfl; (with_reducible repeat (first | refine blk_drewN ?_ _ | refine blk_drew ?_ | refine blk_alloc ?_ _)); exact BK392.out) Try.underlying25 rfl (by kernel_rfl)) rfl ?_
      exact ⟨_, _, by first | rfl | (simp [errW_none, errW_some] <;> rfl) | (simp [*, errW_none, errW_some] <;> rfl), by (with_reducible repeat (first | apply Kd.S_alloc | apply Kd.S_drewN | apply Kd.S_drew)); exact Kd.S_mono (Kd.S_far (p := ⟨gb392, 1, none⟩) (Kd.S_far (p := ⟨gb392, 0, none⟩) (Kd.S_types HO395.out BK392.out (by decide)) (fun _ hk => hk.2) (.slice Ao11 t393.length co11)) (fun _ hk => hk.2) (.slice Ao13 t396.length co13)) (fun _ hk => trivial), by (with_reducible repeat (first | apply Kd.S_alloc | apply Kd.S_drewN | apply Kd.S_drew)); exact Kd.S_mono (Kd.S_far (p := ⟨gb392, 1, none⟩) (Kd.S_far (p := ⟨gb392, 0, none⟩) (Kd.S_types HO398.out BK392.out (by decide)) (fun _ hk => hk.2) (.slice Ao11 t393.length co11)) (fun _ hk => hk.2) (.slice Ao13 t396.length co13)) (fun _ hk => trivial), by repeat (first | (with_reducible first | exact HB.out | apply below_alloc | apply pw_below_drewN | apply below_drew1 | refine below_set ?_ GE392.out) | exact HB.out)⟩
end Go.Proofs.Ytjlohdbkjoofcaa.P
end
