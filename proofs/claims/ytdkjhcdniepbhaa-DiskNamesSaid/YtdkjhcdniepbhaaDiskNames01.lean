/- Part 1 of the proof: DiskNames: the examples of the chapter on disks and the limits', fates' and errors' numbers hold of the program; no arguments, no condition. -/
import Derived.Test.YtdkjhcdniepbhaaProg
import Derived.Laws.StructEq
import Derived.Test.YtdkjhcdniepbhaaDiskNames00
section
set_option linter.unusedVariables false
set_option linter.unusedSimpArgs false
namespace Go.Proofs.Ytdkjhcdniepbhaa.P
open Go.RowKit Go.Proofs.PrintWords Go.Proofs.PrintLast Go.Proofs.PrintMore
attribute [local go_sem] max2_int min2_int max_two min_two max_three min_three max_four min_four
def errW : Option Int → Value
  | none => .nilIface
  | some c => .iface 0 (.int .i64 c)
theorem errW_none : errW none = .nilIface := rfl
theorem errW_some (c : Int) : errW (some c) = .iface 0 (.int .i64 c) := rfl
theorem info5 : (Try.prog.info? 5).map (fun i => (i.zero, i.size, i.bytes)) = some (some (.int .u8 0), 1, 1) := by kernel_rfl
theorem info39 : (Try.prog.info? 39).map (fun i => (i.zero, i.size, i.bytes)) = some (some (.agg #[(.slice none 0 0), (.bool false)]), 2, 32) := by kernel_rfl
theorem info49 : (Try.prog.info? 49).map (fun i => (i.zero, i.size, i.bytes)) = some (some (.agg #[(.int .i64 0), (.slice none 0 0)]), 2, 32) := by kernel_rfl
def rd_L2 (xs : List (List Int)) (i : Int) : (List Int) := xs.getD i.toNat ([] : List Int)
theorem at_L2 {w : World} {A : Option Addr} {n : Nat} {xs : List (List Int)} (h : Kd.C (Kd.slice 5 (Kd.int .u8)) w A n xs) (i : Int) (h0 : 0 ≤ i) (h1 : i < n) : ∃ ad A0 c0, A = some ad ∧ w.cell? (ad.add i.toNat) = some (.slice A0 (rd_L2 xs i).length c0) ∧ (rd_L2 xs i).length ≤ c0 ∧ (Kd.int .u8).C w A0 (rd_L2 xs i).length (rd_L2 xs i) := by
  obtain ⟨ad, c, e, _, hK, hc0⟩ := Kd.C_get h ([] : List Int) i h0 h1
  have hc : ∀ j u, c[j]? = some u → w.cell? (ad.add (i.toNat * 1 + j)) = some u := hc0
  obtain ⟨A0, c0, rfl, l0, g0⟩ := hK
  exact ⟨ad, A0, c0, e, by have hq := hc 0 _ rfl; rwa [Nat.mul_one, Nat.add_zero] at hq, l0, g0⟩
structure S39 where
  f0 : (List Int)
  f1 : Bool
def z39 : S39 := ⟨([] : List Int), false⟩
def k39 : Kd S39 := Kd.iso (Kd.pair (Kd.slice 5 (Kd.int .u8)) Kd.bool) (fun x : S39 => (x.f0, x.f1))
theorem k39_open {w : World} {x : S39} {cs : List Value} (h : k39.K w x cs) : ∃ A0 c0, cs = [.slice A0 x.f0.length c0, .bool x.f1] ∧ x.f0.length ≤ c0 ∧ (Kd.int .u8).C w A0 x.f0.length x.f0 := by
  obtain ⟨_, _, rfl, ⟨A0, c0, rfl, l0, g0⟩, rfl⟩ := h
  exact ⟨A0, c0, rfl, l0, g0⟩
theorem k39_openM {w : World} {base : Nat} {ok : Nat → Prop} {x : S39} {cs : List Value} (h : k39.M w base ok x cs) : ∃ v0, cs = [v0, .bool x.f1] ∧ (Kd.int .u8).R 5 w base ok v0 x.f0 := by
  obtain ⟨_, _, rfl, ⟨v0, rfl, g0⟩, rfl⟩ := h
  exact ⟨v0, rfl, g0⟩
theorem k39_mk (w : World) (x : S39) {A0 : Option Addr} {c0 : Nat} (l0 : x.f0.length ≤ c0) (g0 : (Kd.int .u8).C w A0 x.f0.length x.f0) : k39.K w x [.slice A0 x.f0.length c0, .bool x.f1] := ⟨[.slice A0 x.f0.length c0], [.bool x.f1], rfl, ⟨A0, c0, rfl, l0, g0⟩, rfl⟩
theorem k39_mkM (w : World) (base : Nat) (ok : Nat → Prop) (x : S39) {v0 : Value} (g0 : (Kd.int .u8).R 5 w base ok v0 x.f0) : k39.M w base ok x [v0, .bool x.f1] := ⟨[v0], [.bool x.f1], rfl, ⟨v0, rfl, g0⟩, rfl⟩
def rd_T39 (xs : List S39) (i : Int) : S39 := xs.getD i.toNat z39
theorem at_T39 {w : World} {A : Option Addr} {n : Nat} {xs : List S39} (h : Kd.C k39 w A n xs) (i : Int) (h0 : 0 ≤ i) (h1 : i < n) : ∃ ad A0 c0, A = some ad ∧ w.cell? (ad.add (i.toNat * 2)) = some (.slice A0 (rd_T39 xs i).f0.length c0) ∧ w.cell? ⟨(ad.add (i.toNat * 2)).block, (ad.add (i.toNat * 2)).off + 1, none⟩ = some (.bool (rd_T39 xs i).f1) ∧ (rd_T39 xs i).f0.length ≤ c0 ∧ (Kd.int .u8).C w A0 (rd_T39 xs i).f0.length (rd_T39 xs i).f0 := by
  obtain ⟨ad, c, e, _, hK, hc0⟩ := Kd.C_get h z39 i h0 h1
  have hc : ∀ j u, c[j]? = some u → w.cell? (ad.add (i.toNat * 2 + j)) = some u := hc0
  obtain ⟨A0, c0, rfl, l0, g0⟩ := k39_open hK
  exact ⟨ad, A0, c0, e, hc 0 _ rfl, by rw [← add_field _ _ 1 (by omega)]; exact hc 1 _ rfl, l0, g0⟩
structure S49 where
  f0 : Int
  f1 : (List Int)
def z49 : S49 := ⟨(0 : Int), ([] : List Int)⟩
def k49 : Kd S49 := Kd.iso (Kd.pair (Kd.int .i64) (Kd.slice 5 (Kd.int .u8))) (fun x : S49 => (x.f0, x.f1))
theorem k49_open {w : World} {x : S49} {cs : List Value} (h : k49.K w x cs) : ∃ A1 c1, cs = [.int .i64 x.f0, .slice A1 x.f1.length c1] ∧ x.f1.length ≤ c1 ∧ (Kd.int .u8).C w A1 x.f1.length x.f1 := by
  obtain ⟨_, _, rfl, rfl, ⟨A1, c1, rfl, l1, g1⟩⟩ := h
  exact ⟨A1, c1, rfl, l1, g1⟩
theorem k49_openM {w : World} {base : Nat} {ok : Nat → Prop} {x : S49} {cs : List Value} (h : k49.M w base ok x cs) : ∃ v1, cs = [.int .i64 x.f0, v1] ∧ (Kd.int .u8).R 5 w base ok v1 x.f1 := by
  obtain ⟨_, _, rfl, rfl, ⟨v1, rfl, g1⟩⟩ := h
  exact ⟨v1, rfl, g1⟩
theorem k49_mk (w : World) (x : S49) {A1 : Option Addr} {c1 : Nat} (l1 : x.f1.length ≤ c1) (g1 : (Kd.int .u8).C w A1 x.f1.length x.f1) : k49.K w x [.int .i64 x.f0, .slice A1 x.f1.length c1] := ⟨[.int .i64 x.f0], [.slice A1 x.f1.length c1], rfl, rfl, ⟨A1, c1, rfl, l1, g1⟩⟩
theorem k49_mkM (w : World) (base : Nat) (ok : Nat → Prop) (x : S49) {v1 : Value} (g1 : (Kd.int .u8).R 5 w base ok v1 x.f1) : k49.M w base ok x [.int .i64 x.f0, v1] := ⟨[.int .i64 x.f0], [v1], rfl, rfl, ⟨v1, rfl, g1⟩⟩
def rd_T49 (xs : List S49) (i : Int) : S49 := xs.getD i.toNat z49
theorem at_T49 {w : World} {A : Option Addr} {n : Nat} {xs : List S49} (h : Kd.C k49 w A n xs) (i : Int) (h0 : 0 ≤ i) (h1 : i < n) : ∃ ad A1 c1, A = some ad ∧ w.cell? (ad.add (i.toNat * 2)) = some (.int .i64 (rd_T49 xs i).f0) ∧ w.cell? ⟨(ad.add (i.toNat * 2)).block, (ad.add (i.toNat * 2)).off + 1, none⟩ = some (.slice A1 (rd_T49 xs i).f1.length c1) ∧ (rd_T49 xs i).f1.length ≤ c1 ∧ (Kd.int .u8).C w A1 (rd_T49 xs i).f1.length (rd_T49 xs i).f1 := by
  obtain ⟨ad, c, e, _, hK, hc0⟩ := Kd.C_get h z49 i h0 h1
  have hc : ∀ j u, c[j]? = some u → w.cell? (ad.add (i.toNat * 2 + j)) = some u := hc0
  obtain ⟨A1, c1, rfl, l1, g1⟩ := k49_open hK
  exact ⟨ad, A1, c1, e, hc 0 _ rfl, by rw [← add_field _ _ 1 (by omega)]; exact hc 1 _ rfl, l1, g1⟩
end Go.Proofs.Ytdkjhcdniepbhaa.P
end
section
set_option linter.unusedVariables false
set_option linter.unusedSimpArgs false
namespace Go.Proofs.Ytdkjhcdniepbhaa.P
open Go.RowKit Go.Proofs.PrintWords Go.Proofs.PrintLast Go.Proofs.PrintMore
attribute [local go_sem] max2_int min2_int max_two min_two max_three min_three max_four min_four
def okLen (b : List Int) : Bool := decide (b.length = 32)
def hSized.f (l0 : List (List Int)) : Option Bool := some (l0.all okLen)
def ixLen : List (List Int) → Int → Int
  | [], _ => -1
  | b :: l, i => if b.length = 32 then ixLen l (i + 1) else i
theorem ixLen_all (l : List (List Int)) : ∀ i : Int, 0 ≤ i → ((ixLen l i ≥ 0) ↔ l.all okLen = false) := by
  induction l with
  | nil => intro i _; simp [ixLen]
  | cons b l ih =>
    intro i hi
    unfold ixLen
    by_cases hb : b.length = 32
    · rw [if_pos hb, ih (i + 1) (by omega)]
      simp [okLen, hb]
    · rw [if_neg hb]
      simp [okLen, hb, hi]
theorem ixLen_at (l : List (List Int)) (k : Nat) (hk : k < l.length) (i : Int) : ixLen (l.drop k) i = if (rd_L2 l k).length = 32 then ixLen (l.drop (k + 1)) (i + 1) else i := by
  rw [List.drop_eq_getElem_cons hk, ixLen]
  have : rd_L2 l (k : Int) = l[k] := by
    unfold rd_L2
    simp [List.getD_eq_getElem?_getD, List.getElem?_eq_getElem hk]
  rw [this]
set_option maxHeartbeats 1000000 in
theorem hSized.ix (A0 : Option Addr) (c0 : Nat) (l0 : List (List Int)) (w : World) (hr0 : Kd.C (Kd.slice 5 (Kd.int .u8)) w A0 l0.length l0) :
    Calls Try.prog 127 #[.slice A0 l0.length c0, .func (.func 95) #[] #[]] w fun e w' => e = .returned (.int .i64 (ixLen l0 0)) ∧ w' = w := by
  have hm : l0.length ≤ 9223372036854775807 := hr0.2.1
  have HR := Aside0.mk hr0
  clear hr0
  go_enter Try.func127, Try.ntmps127
  go_wp2_with fail
  go_loop [8] (fun i => ∃ k : Nat, k ≤ l0.length ∧ i = .int .i64 k ∧ Aside0 (ixLen l0 0 = ixLen (l0.drop k) k)) (fun i => l0.length - (intOf i).toNat)
  case atStart => exact ⟨0, Nat.zero_le _, rfl, ⟨rfl⟩⟩
  case round =>
    obtain ⟨k, hk, rfl, HX⟩ := hrel
    by_cases hlt : k < l0.length
    · obtain ⟨ad, A1, c1, rfl, hcell, hc1, hin⟩ := at_L2 HR.out (k : Int) (by omega) (by omega)
      have HIN := Aside0.mk hin
      clear hin
      simp only [Int.toNat_natCast] at hcell
      by_cases hL : (rd_L2 l0 (k : Int)).length = 32
      · have hb : (((rd_L2 l0 (k : Int)).length : Int) != 32) = false := by simp [hL]
        have HL := Aside0.mk hL
        clear hL
        go_wp2
        go_round
        case rel => exact ⟨k + 1, by omega, by go_num, ⟨by rw [HX.out, ixLen_at l0 k hlt, if_pos HL.out]; rfl⟩⟩
        case measure => simp [intOf]; omega
      · have hb : (((rd_L2 l0 (k : Int)).length : Int) != 32) = true := by simp; omega
        have hb' : (((rd_L2 l0 (k : Int)).length : Int) == 32) = false := by simp; omega
        have HL := Aside0.mk hL
        clear hL
        go_wp2
        go_ret
        refine ⟨?_, rfl⟩
        rw [HX.out, ixLen_at l0 k hlt, if_neg HL.out]
        rfl
    · go_wp2
      go_ret
      refine ⟨?_, rfl⟩
      rw [HX.out, List.drop_of_length_le (by omega)]
      rfl
set_option maxHeartbeats 1000000 in
theorem hSized.calls (A0 : Option Addr) (c0 : Nat) (l0 : List (List Int)) (r : Bool) (w : World) (hr0 : Kd.C (Kd.slice 5 (Kd.int .u8)) w A0 l0.length l0) (hc0 : l0.length ≤ c0) (h : hSized.f l0 = some r) :
    Calls Try.prog 60 #[.slice A0 l0.length c0] w fun e w' => e = .returned (.bool r) ∧ Below w.heap.size w w' := by
  have hx := ixLen_all l0 0 (by omega)
  unfold hSized.f at h
  injection h with h
  subst h
  have HR := Aside0.mk hr0
  clear hr0 hc0
  have HX : Aside0 ((!decide (ixLen l0 0 ≥ 0)) = l0.all okLen) := ⟨by
    cases hall : l0.all okLen with
    | true => rw [hall] at hx; rw [decide_eq_false (fun hh => absurd (hx.1 hh) (by simp))]; rfl
    | false => rw [decide_eq_true (hx.2 hall)]; rfl⟩
  clear hx
  go_enter Try.func60, Try.ntmps60
  go_wp2_with (first
    | (go_at_call 127; refine (hSized.ix _ _ l0 _ HR.out).mono ?_; rintro e w' ⟨rfl, rfl⟩)
    | (go_at_call 94; go_in))
  go_ret
  exact ⟨by rw [← HX.out]; rfl, Below.refl _ _⟩
theorem hSized.one (a : Addr) (A1 : Option Addr) (c1 : Nat) (b : List Int) (w : World) (hcell : w.cell? a = some (.slice A1 b.length c1)) (hc : b.length ≤ c1) (hin : (Kd.int .u8).C w A1 b.length b) :
    Calls Try.prog 60 #[.slice (some a) 1 1] w fun e w' => e = .returned (.bool (okLen b)) ∧ Below w.heap.size w w' := by
  refine hSized.calls (some a) 1 [b] (okLen b) w ⟨rfl, by simp, fun _ => ⟨a, rfl, fun j p hj => ?_⟩⟩ (by simp) (by simp [hSized.f])
  have h0 : j = 0 := by
    have := (List.getElem?_eq_some_iff.1 hj).1
    simp at this
    exact this
  subst h0
  simp at hj
  subst hj
  refine ⟨[.slice A1 b.length c1], rfl, ⟨A1, c1, rfl, hc, hin⟩, fun i u hu => ?_⟩
  have h0 : i = 0 := by
    have := (List.getElem?_eq_some_iff.1 hu).1
    simp at this
    exact this
  subst h0
  simp at hu
  subst hu
  simpa [Addr.add] using hcell
theorem hSized.one_is (v : Bool) (a : Addr) (A1 : Option Addr) (c1 : Nat) (b : List Int) (w : World) (hv : okLen b = v) (hcell : w.cell? a = some (.slice A1 b.length c1)) (hc : b.length ≤ c1) (hin : (Kd.int .u8).C w A1 b.length b) :
    Calls Try.prog 60 #[.slice (some a) 1 1] w fun e w' => e = .returned (.bool v) ∧ Below w.heap.size w w' := by
  subst hv
  exact hSized.one a A1 c1 b w hcell hc hin
end Go.Proofs.Ytdkjhcdniepbhaa.P
end
section
set_option linter.unusedVariables false
set_option linter.unusedSimpArgs false
namespace Go.Proofs.Ytdkjhcdniepbhaa.P
open Go.RowKit Go.Proofs.PrintWords Go.Proofs.PrintLast Go.Proofs.PrintMore
attribute [local go_sem] max2_int min2_int max_two min_two max_three min_three max_four min_four
theorem all_take_snoc {α : Type} (p : α → Bool) (l : List α) (k : Nat) (hk : k < l.length) (d : α) : (l.take (k + 1)).all p = ((l.take k).all p && p (l.getD k d)) := by
  rw [List.take_succ_eq_append_getElem hk, List.all_append]
  simp [List.getD_eq_getElem?_getD, List.getElem?_eq_getElem hk]
theorem all_false_at {α : Type} (p : α → Bool) (l : List α) (k : Nat) (hk : k < l.length) (d : α) (h : p (l.getD k d) = false) : l.all p = false := by
  rw [List.all_eq_false]
  refine ⟨l[k], List.getElem_mem hk, ?_⟩
  simp [List.getD_eq_getElem?_getD, List.getElem?_eq_getElem hk] at h
  simp [h]
theorem ym_undef : yielded.match_1 (fun _ => Option Bool) (some undef) (fun b => some b) (fun _ => none) = none := rfl
theorem add_block_ (a : Addr) (n : Nat) : (a.add n).block = a.block := by unfold Addr.add; split <;> rfl
theorem heap_alloc_at (w : World) (o o' : Obj) (n : Nat) (hn : n = w.heap.size + 1) : ((w.alloc o).alloc o').heap[n]? = some o' := by
  subst hn
  have := heap_alloc_new (w.alloc o) o'
  rwa [World.size_alloc] at this
end Go.Proofs.Ytdkjhcdniepbhaa.P
end
section
set_option linter.unusedVariables false
set_option linter.unusedSimpArgs false
namespace Go.Proofs.Ytdkjhcdniepbhaa.P
open Go.RowKit Go.Proofs.PrintWords Go.Proofs.PrintLast Go.Proofs.PrintMore
attribute [local go_sem] max2_int min2_int max_two min_two max_three min_three max_four min_four
def bytes_Equal.f (l0 : List Int) (l1 : List Int) : Option (Bool) := some ((strOfNums l0).toList == (strOfNums l1).toList)
set_option maxHeartbeats 8000000 in
set_option maxRecDepth 100000 in
theorem bytes_Equal.calls (A0 : Option Addr) (c0 : Nat) (l0 : List Int) (A1 : Option Addr) (c1 : Nat) (l1 : List Int) (r : Bool) (w : World) (hr0 : Kd.C (Kd.int .u8) w A0 l0.length l0) (hc0 : l0.length ≤ c0) (hr1 : Kd.C (Kd.int .u8) w A1 l1.length l1) (hc1 : l1.length ≤ c1) (h : bytes_Equal.f l0 l1 = some r) :
    Calls Try.prog 62 #[.slice A0 l0.length c0, .slice A1 l1.length c1] w fun e w' => e = .returned (.bool r) ∧ Drawn0 w w' := by
  have HR0 := Aside0.mk hr0
  have HC0 := Aside0.mk hc0
  clear hr0 hc0
  have HR1 := Aside0.mk hr1
  have HC1 := Aside0.mk hc1
  clear hr1 hc1
  have H : (some ((strOfNums l0).toList == (strOfNums l1).toList)) = some r := h
  clear h
  obtain rfl := Option.some.inj H
  have hcv3 := Kd.C_string (P := Try.prog) (A := A0) (c := c0) Try.underlying31 Try.underlying5 Try.underlying9 HR0.out
  have hcv4 := Kd.C_string (P := Try.prog) (A := A1) (c := c1) Try.underlying31 Try.underlying5 Try.underlying9 HR1.out
  go_enter Try.func62, Try.ntmps62
  go_wp2
  go_ret
  exact ⟨by first | rfl | (simp; done) | (simp [*]; done), by repeat (first | exact Drawn0.refl _ | apply Drawn0.step)⟩
end Go.Proofs.Ytdkjhcdniepbhaa.P
end
section
set_option linter.unusedVariables false
set_option linter.unusedSimpArgs false
namespace Go.Proofs.Ytdkjhcdniepbhaa.P
open Go.RowKit Go.Proofs.PrintWords Go.Proofs.PrintLast Go.Proofs.PrintMore
attribute [local go_sem] max2_int min2_int max_two min_two max_three min_three max_four min_four
def disk_none.f  : Option (List Int) := if 32 ≤ 281474976710656 then (some (List.replicate 32 0)) else (none)
set_option maxHeartbeats 8000000 in
set_option maxRecDepth 100000 in
theorem disk_none.calls  (r : List Int) (w : World) (h : disk_none.f  = some r) :
    Calls Try.prog 63 #[] w fun e w' => ∃ v0_ : Value, e = .returned (v0_) ∧ Kd.R (Kd.int .u8) 5 w' w.heap.size (fun _ => True) v0_ r ∧ Below w.heap.size w w' := by
  have HB := Aside0.mk (Below.refl w.heap.size w)
  have H : (if 32 ≤ 281474976710656 then (some (List.replicate 32 0)) else (none)) = some r := h
  clear h
  by_cases c1 : 32 ≤ 281474976710656
  · rw [if_pos c1] at H
    have c1b0 := eq_true c1
    have c1b1 : decide (32 ≤ 281474976710656) = true := decide_eq_true c1
    clear c1
    obtain ⟨y1000, hy1000⟩ : ∃ y_ : List Int, y_ = (List.replicate 32 0) := ⟨_, rfl⟩
    replace H : (some y1000) = some r := by first | (rw [hy1000]; with_reducible exact H) | (have H2_ := (Option.bind_some _ _).symm.trans H; rw [hy1000]; with_reducible exact H2_) | (have H2_ := (Option.bind_some _ _).symm.trans H; with_reducible exact H2_) | with_reducible exact H | (rw [hy1000]; exact H) | exact H
    have Ny1000 := Aside0.mk hy1000
    clear hy1000
    obtain rfl := Option.some.inj H
    go_enter Try.func63, Try.ntmps63
    go_wp2_with (first | ((with_reducible refine gate_dst (N := 1) rfl ?_); refine Kd.R_make (Kd.int .u8) _ 5 rfl (N := 1) rfl 31 _ _ rfl 32 rfl rfl Try.underlying31 (.int .u8 0) 1 info5 rfl (by decide) (by omega) 0 (ok := fun _ => True) (okp := fun _ => True) rfl (fun _ hk => hk) trivial (by omega) (by omega) (Below.refl _ _) (Nat.le_refl _) ?_; intro v1001 w2 ho3 hb hg_ hnew_; clear hg_ hnew_; (first | rw [← Ny1000.out] at ho3 | (simp only [Int.reduceToNat] at ho3; rw [← Ny1000.out] at ho3)); have n0_ := Aside0.mk (Kd.R_lower ho3 (below_size (by repeat (first | (with_reducible first | exact HB.out | apply below_alloc | apply pbdN | apply bdr1) | exact HB.out)))); have n1_ := Aside0.mk (below_step (by repeat (first | (with_reducible first | exact HB.out | apply below_alloc | apply pbdN | apply bdr1) | exact HB.out)) hb); clear HB; have HO1002 := n0_; have HB := n1_; clear n0_ n1_; clear hb ho3))
    go_ret
    exact ⟨_, by first | rfl | (simp [errW_none, errW_some] <;> rfl) | (simp [*, errW_none, errW_some] <;> rfl), by (with_reducible repeat (first | apply Kd.R_alloc | apply Kd.R_drewN | apply Kd.R_drew)); exact HO1002.out, by repeat (first | (with_reducible first | exact HB.out | apply below_alloc | apply pbdN | apply bdr1) | exact HB.out)⟩
  · rw [if_neg c1] at H
    exact absurd H (by simp)
end Go.Proofs.Ytdkjhcdniepbhaa.P
end
section
set_option linter.unusedVariables false
set_option linter.unusedSimpArgs false
namespace Go.Proofs.Ytdkjhcdniepbhaa.P
open Go.RowKit Go.Proofs.PrintWords Go.Proofs.PrintLast Go.Proofs.PrintMore
attribute [local go_sem] max2_int min2_int max_two min_two max_three min_three max_four min_four
def zero32 : List Int := List.replicate 32 0
def okSec (s : S39) : Bool := okLen s.f0 && (!s.f1 || ((strOfNums s.f0).toList == (strOfNums zero32).toList))
def okPend (n : Int) (p : S49) : Bool := decide (0 ≤ p.f0) && decide (p.f0 < n) && okLen p.f1
def okDisk (l0 : List S39) (l1 : List S49) : Bool := decide (1 ≤ l0.length) && decide (l0.length ≤ 1024) && decide (l1.length ≤ 64) && l0.all okSec && l1.all (okPend l0.length)
def hCheck.f (l0_0 : List S39) (l0_1 : List S49) : Option Int := some (if okDisk l0_0 l0_1 = true then 0 else 8)
attribute [local go_sem] ym_undef
set_option maxHeartbeats 8000000 in
set_option maxRecDepth 100000 in
theorem hCheck.calls (A0_0 : Option Addr) (c0_0 : Nat) (l0_0 : List S39) (A0_1 : Option Addr) (c0_1 : Nat) (l0_1 : List S49) (r : Int) (w : World) (hr0_0 : Kd.C k39 w A0_0 l0_0.length l0_0) (hc0_0 : l0_0.length ≤ c0_0) (hr0_1 : Kd.C k49 w A0_1 l0_1.length l0_1) (hc0_1 : l0_1.length ≤ c0_1) (h : hCheck.f l0_0 l0_1 = some r) :
    Calls Try.prog 23 #[.agg #[.slice A0_0 l0_0.length c0_0, .slice A0_1 l0_1.length c0_1]] w fun e w' => e = .returned (.int .i64 r) ∧ Below w.heap.size w w' := by
  have hu25 := Try.underlying25
  have hm0 : l0_0.length ≤ 9223372036854775807 := hr0_0.2.1
  have hm1 : l0_1.length ≤ 9223372036854775807 := hr0_1.2.1
  have HR0 := Aside0.mk hr0_0
  have HR1 := Aside0.mk hr0_1
  clear hr0_0 hr0_1 hc0_0 hc0_1
  have H : Aside0 ((if okDisk l0_0 l0_1 = true then 0 else 8) = r) := ⟨by unfold hCheck.f at h; injection h⟩
  clear h
  by_cases h1 : l0_0.length < 1
  · have hb : decide ((l0_0.length : Int) < 1) = true := decide_eq_true (by omega)
    obtain rfl : r = 8 := by
      rw [← H.out, if_neg]
      unfold okDisk
      simp
      omega
    clear H
    go_enter Try.func23, Try.ntmps23
    go_wp2
    go_ret
    exact ⟨rfl, (Below.refl _ _).alloc (Nat.le_refl _) _⟩
  by_cases h2 : 1024 < l0_0.length
  · have hb : decide ((l0_0.length : Int) < 1) = false := decide_eq_false (by omega)
    have hb2 : decide ((l0_0.length : Int) > 1024) = true := decide_eq_true (by omega)
    obtain rfl : r = 8 := by
      rw [← H.out, if_neg]
      unfold okDisk
      simp
      omega
    clear H
    go_enter Try.func23, Try.ntmps23
    go_wp2
    go_ret
    exact ⟨rfl, (Below.refl _ _).alloc (Nat.le_refl _) _⟩
  by_cases h3 : 64 < l0_1.length
  · have hb : decide ((l0_0.length : Int) < 1) = false := decide_eq_false (by omega)
    have hb2 : decide ((l0_0.length : Int) > 1024) = false := decide_eq_false (by omega)
    have hb3 : decide ((l0_1.length : Int) > 64) = true := decide_eq_true (by omega)
    obtain rfl : r = 8 := by
      rw [← H.out, if_neg]
      unfold okDisk
      simp
      omega
    clear H
    go_enter Try.func23, Try.ntmps23
    go_wp2
    go_ret
    exact ⟨rfl, (Below.refl _ _).alloc (Nat.le_refl _) _⟩
  have hb : decide ((l0_0.length : Int) < 1) = false := decide_eq_false (by omega)
  have hb2 : decide ((l0_0.length : Int) > 1024) = false := decide_eq_false (by omega)
  have hb3 : decide ((l0_1.length : Int) > 64) = false := decide_eq_false (by omega)
  go_enter Try.func23, Try.ntmps23
  go_wp2_with fail
  go_loopw [26] (fun i wr => ∃ k : Nat, k ≤ l0_0.length ∧ i = .int .i64 k ∧ Aside0 ((l0_0.take k).all okSec = true) ∧ Aside0 (wr.heap[w.heap.size]? = some (.cells #[.slice A0_0 l0_0.length c0_0, .slice A0_1 l0_1.length c0_1] 25 (0, 0))) ∧ Aside0 (Below w.heap.size w wr)) (fun i _ => l0_0.length - (intOf i).toNat)
  case atStart => exact ⟨0, Nat.zero_le _, rfl, ⟨by simp⟩, ⟨heap_alloc_new w _⟩, ⟨(Below.refl _ _).alloc (Nat.le_refl _) _⟩⟩
  case round =>
    obtain ⟨k, hk, rfl, HP, HBK, HB⟩ := hrel
    by_cases hlt : k < l0_0.length
    · obtain ⟨ad, A1, c1, rfl, hx0, hx1, hl1, hi1⟩ := at_T39 HR0.out (k : Int) (by omega) (by omega)
      replace hx0 := (HB.out.cell (World.block_lt_of_cell? w _ hx0)).trans hx0
      replace hx1 := (HB.out.cell (World.block_lt_of_cell? w _ hx1)).trans hx1
      simp only [Int.toNat_natCast] at hx0 hx1
      have HI := Aside0.mk hi1
      have HL1 := Aside0.mk hl1
      clear hi1 hl1
      have HBa := Aside0.mk (below_drew (below_alloc (below_alloc HB.out (.cells #[.slice A1 (rd_T39 l0_0 (k : Int)).f0.length c1, .bool (rd_T39 l0_0 (k : Int)).f1] 39)) (.cells #[.slice A1 (rd_T39 l0_0 (k : Int)).f0.length c1] 31)))
      have hlt0 : w.heap.size < wr.heap.size := blk_lt HBK.out
      cases hok : okLen (rd_T39 l0_0 (k : Int)).f0 with
      | false =>
        obtain rfl : r = 8 := by
          rw [← H.out, if_neg]
          have := all_false_at okSec l0_0 k hlt z39 (by show okSec (rd_T39 l0_0 (k : Int)) = false; simp [okSec, hok])
          simp [okDisk, this]
        have HOK := Aside0.mk hok
        clear H hok
        go_wp2_with fail
        first | go_region_with (go_at_call 60; refine (hSized.one_is false _ A1 c1 (rd_T39 l0_0 (k : Int)).f0 _ HOK.out (by simp) HL1.out (Kd.C_below HI.out HBa.out)).mono ?_; rintro e w1 ⟨rfl, hb1⟩; have HB1 := Aside0.mk (below_then HBa.out (below_size HBa.out) hb1); clear hb1) | fail "region"
        all_goals
          go_wp2
          go_ret
          exact ⟨rfl, HB1.out⟩
      | true =>
        have HOK := Aside0.mk hok
        clear hok
        cases hbad : (rd_T39 l0_0 (k : Int)).f1 with
        | false =>
          have hsec : okSec (rd_T39 l0_0 (k : Int)) = true := by simp [okSec, HOK.out, hbad]
          have HS := Aside0.mk hsec
          clear hsec
          rw [hbad] at hx1 HBa
          have HBD := Aside0.mk hbad
          clear hbad
          go_wp2_with fail
          first | go_region_with (go_at_call 60; refine (hSized.one_is true _ A1 c1 (rd_T39 l0_0 (k : Int)).f0 _ HOK.out (by simp) HL1.out (Kd.C_below HI.out HBa.out)).mono ?_; rintro e w1 ⟨rfl, hb1⟩; have HB1 := Aside0.mk (below_then HBa.out (below_size HBa.out) hb1); have HBK1 := Aside0.mk ((hb1.block w.heap.size (by simp; omega)).trans (blk_alloc (blk_alloc HBK.out (.cells #[.slice A1 (rd_T39 l0_0 (k : Int)).f0.length c1, .bool false] 39)) (.cells #[.slice A1 (rd_T39 l0_0 (k : Int)).f0.length c1] 31))); have hq1 := (hb1.cell (p := ⟨wr.heap.size, 1, none⟩) (by simp; omega)).trans (show _ = some (.bool false) by simp); clear hb1) | fail "region"
          all_goals
            go_wp2
            go_roundw
            case rel => exact ⟨k + 1, by omega, by go_num, ⟨by rw [all_take_snoc okSec l0_0 k hlt z39, HP.out, Bool.true_and]; exact HS.out⟩, HBK1, HB1⟩
            case measure => simp [intOf]; omega
        | true =>
          have hnone := fun (w : World) => disk_none.calls zero32 w (by unfold disk_none.f; rfl)
          have HN := Aside0.mk hnone
          clear hnone
          rw [hbad] at hx1 HBa
          have HBD := Aside0.mk hbad
          clear hbad
          cases heqv : ((strOfNums (rd_T39 l0_0 (k : Int)).f0).toList == (strOfNums zero32).toList) with
          | true =>
            have hsec : okSec (rd_T39 l0_0 (k : Int)) = true := by simp [okSec, HOK.out, heqv]
            have HS := Aside0.mk hsec
            clear hsec
            have HEQ := Aside0.mk heqv
            clear heqv
            go_wp2_with fail
            first | go_loud (go_region_with (first
              | (go_at_call 60; refine (hSized.one_is true _ A1 c1 (rd_T39 l0_0 (k : Int)).f0 _ HOK.out (by simp) HL1.out (Kd.C_below HI.out HBa.out)).mono ?_; rintro e w1 ⟨rfl, hb1⟩; have HB1 := Aside0.mk (below_then HBa.out (below_size HBa.out) hb1); have HBK1 := Aside0.mk ((hb1.block w.heap.size (by simp; omega)).trans (blk_alloc (blk_alloc HBK.out (.cells #[.slice A1 (rd_T39 l0_0 (k : Int)).f0.length c1, .bool true] 39)) (.cells #[.slice A1 (rd_T39 l0_0 (k : Int)).f0.length c1] 31))); have hq0 := (hb1.cell (p := ⟨wr.heap.size, 0, none⟩) (by simp; omega)).trans (show _ = some (.slice A1 (rd_T39 l0_0 (k : Int)).f0.length c1) by simp); have hq1 := (hb1.cell (p := ⟨wr.heap.size, 1, none⟩) (by simp; omega)).trans (show _ = some (.bool true) by simp); have hz1 : wr.heap.size + 2 ≤ w1.heap.size := (by have := hb1.size; simp at this; omega); clear hb1)
              | (go_at_call 63; refine (HN.out _).mono ?_; rintro e w2 ⟨v2, rfl, hv2, hb2⟩; obtain ⟨A2, c2, rfl, hc2, hr2⟩ := Kd.R_reads hv2; have HR2 := Aside0.mk hr2; have HC2 := Aside0.mk hc2; have HB2 := Aside0.mk (below_then HB1.out (below_size HB1.out) hb2); have HBK2 := Aside0.mk ((hb2.block w.heap.size (by omega)).trans HBK1.out); have hq2 := (hb2.cell (p := ⟨wr.heap.size, 0, none⟩) (by simp; omega)).trans hq0; clear hv2 hb2 hr2 hc2)
              | (go_at_call 62; refine (bytes_Equal.calls A1 c1 (rd_T39 l0_0 (k : Int)).f0 A2 c2 zero32 true _ (Kd.C_below HI.out HB2.out) HL1.out HR2.out HC2.out (by unfold bytes_Equal.f; rw [HEQ.out])).mono ?_; rintro e w3 ⟨rfl, hd3⟩; have HB3 := Aside0.mk (below_then HB2.out (below_size HB2.out) hd3.below); have HBK3 := Aside0.mk ((hd3.below.block w.heap.size (blk_lt HBK2.out)).trans HBK2.out); clear hd3))) | fail "region"
            all_goals
              go_wp2
              go_roundw
              case rel => exact ⟨k + 1, by omega, by go_num, ⟨by rw [all_take_snoc okSec l0_0 k hlt z39, HP.out, Bool.true_and]; exact HS.out⟩, HBK3, HB3⟩
              case measure => simp [intOf]; omega
          | false =>
            obtain rfl : r = 8 := by
              rw [← H.out, if_neg]
              have := all_false_at okSec l0_0 k hlt z39 (by show okSec (rd_T39 l0_0 (k : Int)) = false; simp [okSec, HOK.out, HBD.out, heqv])
              simp [okDisk, this]
            clear H
            have HEQ := Aside0.mk heqv
            clear heqv
            go_wp2_with fail
            first | go_loud (go_region_with (first
              | (go_at_call 60; refine (hSized.one_is true _ A1 c1 (rd_T39 l0_0 (k : Int)).f0 _ HOK.out (by simp) HL1.out (Kd.C_below HI.out HBa.out)).mono ?_; rintro e w1 ⟨rfl, hb1⟩; have HB1 := Aside0.mk (below_then HBa.out (below_size HBa.out) hb1); have HBK1 := Aside0.mk ((hb1.block w.heap.size (by simp; omega)).trans (blk_alloc (blk_alloc HBK.out (.cells #[.slice A1 (rd_T39 l0_0 (k : Int)).f0.length c1, .bool true] 39)) (.cells #[.slice A1 (rd_T39 l0_0 (k : Int)).f0.length c1] 31))); have hq0 := (hb1.cell (p := ⟨wr.heap.size, 0, none⟩) (by simp; omega)).trans (show _ = some (.slice A1 (rd_T39 l0_0 (k : Int)).f0.length c1) by simp); have hq1 := (hb1.cell (p := ⟨wr.heap.size, 1, none⟩) (by simp; omega)).trans (show _ = some (.bool true) by simp); have hz1 : wr.heap.size + 2 ≤ w1.heap.size := (by have := hb1.size; simp at this; omega); clear hb1)
              | (go_at_call 63; refine (HN.out _).mono ?_; rintro e w2 ⟨v2, rfl, hv2, hb2⟩; obtain ⟨A2, c2, rfl, hc2, hr2⟩ := Kd.R_reads hv2; have HR2 := Aside0.mk hr2; have HC2 := Aside0.mk hc2; have HB2 := Aside0.mk (below_then HB1.out (below_size HB1.out) hb2); have HBK2 := Aside0.mk ((hb2.block w.heap.size (by omega)).trans HBK1.out); have hq2 := (hb2.cell (p := ⟨wr.heap.size, 0, none⟩) (by simp; omega)).trans hq0; clear hv2 hb2 hr2 hc2)
              | (go_at_call 62; refine (bytes_Equal.calls A1 c1 (rd_T39 l0_0 (k : Int)).f0 A2 c2 zero32 false _ (Kd.C_below HI.out HB2.out) HL1.out HR2.out HC2.out (by unfold bytes_Equal.f; rw [HEQ.out])).mono ?_; rintro e w3 ⟨rfl, hd3⟩; have HB3 := Aside0.mk (below_then HB2.out (below_size HB2.out) hd3.below); have HBK3 := Aside0.mk ((hd3.below.block w.heap.size (blk_lt HBK2.out)).trans HBK2.out); clear hd3))) | fail "region"
            all_goals
              go_wp2
              go_ret
              exact ⟨rfl, HB3.out⟩
    · have hall : l0_0.all okSec = true := by
        have := HP.out
        rwa [List.take_of_length_le (by omega)] at this
      have HA := Aside0.mk hall
      clear hall HP
      have hz1 : wr.cell? ⟨w.heap.size, 1, none⟩ = some (.slice A0_1 l0_1.length c0_1) := (blk_cell HBK.out 1).trans rfl
      go_wp2_with fail
      clear hz1
      have hm2 : l0_0.length ≤ 1024 := by omega
      obtain ⟨wo, rfl⟩ : ∃ wo : World, wo = wr := ⟨_, rfl⟩
      go_loopw [50] (fun i wr => ∃ k : Nat, k ≤ l0_1.length ∧ i = .int .i64 k ∧ Aside0 ((l0_1.take k).all (okPend l0_0.length) = true) ∧ Aside0 (wr.heap[w.heap.size]? = some (.cells #[.slice A0_0 l0_0.length c0_0, .slice A0_1 l0_1.length c0_1] 25 (0, 0))) ∧ Aside0 (Below w.heap.size w wr)) (fun i _ => l0_1.length - (intOf i).toNat)
      case atStart => exact ⟨0, Nat.zero_le _, rfl, ⟨by simp⟩, HBK, HB⟩
      case round =>
        clear HBK HB
        obtain ⟨j, hj, rfl, HP, HBK, HB⟩ := hrel
        by_cases hlt2 : j < l0_1.length
        · obtain ⟨ad, A1, c1, rfl, hx0, hx1, hl1, hi1⟩ := at_T49 HR1.out (j : Int) (by omega) (by omega)
          replace hx0 := (HB.out.cell (World.block_lt_of_cell? w _ hx0)).trans hx0
          replace hx1 := (HB.out.cell (World.block_lt_of_cell? w _ hx1)).trans hx1
          simp only [Int.toNat_natCast] at hx0 hx1
          have HI := Aside0.mk hi1
          have HL1 := Aside0.mk hl1
          clear hi1 hl1
          have hlt0 : w.heap.size < wr.heap.size := blk_lt HBK.out
          have hz0 : wr.cell? ⟨w.heap.size, 0, none⟩ = some (.slice A0_0 l0_0.length c0_0) := (blk_cell HBK.out 0).trans rfl
          have HBa := Aside0.mk (below_alloc (below_alloc HB.out (.cells #[.int .i64 (rd_T49 l0_1 (j : Int)).f0, .slice A1 (rd_T49 l0_1 (j : Int)).f1.length c1] 49)) (.cells #[.slice A1 (rd_T49 l0_1 (j : Int)).f1.length c1] 31))
          by_cases hn : (rd_T49 l0_1 (j : Int)).f0 < 0
          · obtain rfl : r = 8 := by
              rw [← H.out, if_neg]
              have := all_false_at (okPend l0_0.length) l0_1 j hlt2 z49 (by show okPend _ (rd_T49 l0_1 (j : Int)) = false; simp [okPend]; omega)
              simp [okDisk, this]
            clear H
            have hb4 : decide ((rd_T49 l0_1 (j : Int)).f0 < 0) = true := decide_eq_true hn
            clear hn
            go_wp2_with fail
            go_ret
            exact ⟨rfl, below_alloc HB.out _⟩
          have hb4 : decide ((rd_T49 l0_1 (j : Int)).f0 < 0) = false := decide_eq_false hn
          by_cases hge : (rd_T49 l0_1 (j : Int)).f0 ≥ (l0_0.length : Int)
          · obtain rfl : r = 8 := by
              rw [← H.out, if_neg]
              have := all_false_at (okPend l0_0.length) l0_1 j hlt2 z49 (by show okPend _ (rd_T49 l0_1 (j : Int)) = false; simp [okPend]; omega)
              simp [okDisk, this]
            clear H
            have hb5 : decide ((rd_T49 l0_1 (j : Int)).f0 ≥ (l0_0.length : Int)) = true := decide_eq_true hge
            clear hge hn
            go_wp2_with fail
            go_ret
            exact ⟨rfl, below_alloc HB.out _⟩
          have hb5 : decide ((rd_T49 l0_1 (j : Int)).f0 ≥ (l0_0.length : Int)) = false := decide_eq_false hge
          cases hok : okLen (rd_T49 l0_1 (j : Int)).f1 with
          | false =>
            obtain rfl : r = 8 := by
              rw [← H.out, if_neg]
              have := all_false_at (okPend l0_0.length) l0_1 j hlt2 z49 (by show okPend _ (rd_T49 l0_1 (j : Int)) = false; simp [okPend, hok])
              simp [okDisk, this]
            have HOK := Aside0.mk hok
            clear H hok hn hge
            go_wp2_with (go_at_call 60; refine (hSized.one_is false _ A1 c1 (rd_T49 l0_1 (j : Int)).f1 _ HOK.out (by simp) HL1.out (Kd.C_below HI.out HBa.out)).mono ?_; rintro e w1 ⟨rfl, hb1⟩; have HB1 := Aside0.mk (below_then HBa.out (below_size HBa.out) hb1); clear hb1)
            go_ret
            exact ⟨rfl, HB1.out⟩
          | true =>
            have hpd : okPend l0_0.length (rd_T49 l0_1 (j : Int)) = true := by simp [okPend, hok]; omega
            have HS := Aside0.mk hpd
            have HOK := Aside0.mk hok
            clear hok hpd hn hge
            go_wp2_with (go_at_call 60; refine (hSized.one_is true _ A1 c1 (rd_T49 l0_1 (j : Int)).f1 _ HOK.out (by simp) HL1.out (Kd.C_below HI.out HBa.out)).mono ?_; rintro e w1 ⟨rfl, hb1⟩; have HB1 := Aside0.mk (below_then HBa.out (below_size HBa.out) hb1); have HBK1 := Aside0.mk ((hb1.block w.heap.size (by simp; omega)).trans (blk_alloc (blk_alloc HBK.out (.cells #[.int .i64 (rd_T49 l0_1 (j : Int)).f0, .slice A1 (rd_T49 l0_1 (j : Int)).f1.length c1] 49)) (.cells #[.slice A1 (rd_T49 l0_1 (j : Int)).f1.length c1] 31))); clear hb1)
            go_roundw
            case rel => exact ⟨j + 1, by omega, by go_num, ⟨by rw [all_take_snoc (okPend l0_0.length) l0_1 j hlt2 z49, HP.out, Bool.true_and]; exact HS.out⟩, HBK1, HB1⟩
            case measure => simp [intOf]; omega
        · obtain rfl : r = 0 := by
            rw [← H.out, if_pos]
            have h4 := HP.out
            rw [List.take_of_length_le (by omega)] at h4
            simp [okDisk, HA.out, h4]
            omega
          clear H
          go_wp2
          go_ret
          exact ⟨rfl, HB.out⟩
end Go.Proofs.Ytdkjhcdniepbhaa.P
end
section
set_option linter.unusedVariables false
set_option linter.unusedSimpArgs false
namespace Go.Proofs.Ytdkjhcdniepbhaa.P
open Go.RowKit Go.Proofs.PrintWords Go.Proofs.PrintLast Go.Proofs.PrintMore
attribute [local go_sem] max2_int min2_int max_two min_two max_three min_three max_four min_four
def catamaranref05_Got.l0 : Nat → Int → Int → List (S39) → List (S49) → Option (List Int × Bool)
  | 0, _, _, _, _ => none
  | k + 1, x1, x6, x1000, x1001 => if x6 ≥ 0 then (if 0 ≤ x6 then (if x6 < (x1001.length : Int) then (if ((rd_T49 x1001 x6).f0) = x1 then ((some (([] : List Int) : List Int)).bind fun y1002 => (if y1002.length + ((rd_T49 x1001 x6).f1).length < 140737488355328 then (some ((y1002 ++ ((rd_T49 x1001 x6).f1)), true)) else (none))) else (catamaranref05_Got.l0 k x1 (wrap64 (x6 - 1)) x1000 x1001)) else (none)) else (none)) else ((some (([] : List Int) : List Int)).bind fun y1003 => (if 0 ≤ x1 then (if x1 < (x1000.length : Int) then (if y1003.length + ((rd_T39 x1000 x1).f0).length < 140737488355328 then (some ((y1003 ++ ((rd_T39 x1000 x1).f0)), !((rd_T39 x1000 x1).f1))) else (none)) else (none)) else (none)))
def catamaranref05_Got.f (k : Nat) (l0_0 : List (S39)) (l0_1 : List (S49)) (a1 : Int) : Option (List Int × Bool) := catamaranref05_Got.l0 k a1 (wrap64 ((l0_1.length : Int) - 1)) l0_0 l0_1
theorem catamaranref05_Got.mono_l : ∀ k, (∀ y0 y1 y2 y3, LeO (catamaranref05_Got.l0 k y0 y1 y2 y3) (catamaranref05_Got.l0 (k + 1) y0 y1 y2 y3))
  | 0 => fun _ _ _ _ r h => by simp [catamaranref05_Got.l0] at h
  | k + 1 => by
    have ih0 := catamaranref05_Got.mono_l k
    · intro y0 y1 y2 y3
      unfold catamaranref05_Got.l0
      repeat' first
      | (with_reducible exact ih0 _ _ _ _)
      | (with_reducible exact LeO.refl _)
      | (with_reducible exact LeO.none _)
      | (with_reducible refine LeO.ite ?_ ?_)
      | (with_reducible refine LeO.bind ?_ (fun _ => ?_))
      | exact ih0 _ _ _ _
      | exact LeO.none _
      | refine LeO.ite ?_ ?_
      | refine LeO.bind ?_ (fun _ => ?_)
theorem catamaranref05_Got.mono : ∀ a0 a1 a2 k, LeO (catamaranref05_Got.f k a0 a1 a2) (catamaranref05_Got.f (k + 1) a0 a1 a2) := by
  intro a0 a1 a2 k
  have ih0 := catamaranref05_Got.mono_l k
  unfold catamaranref05_Got.f
  repeat' first
      | (with_reducible exact ih0 _ _ _ _)
      | (with_reducible exact LeO.refl _)
      | (with_reducible exact LeO.none _)
      | (with_reducible refine LeO.ite ?_ ?_)
      | (with_reducible refine LeO.bind ?_ (fun _ => ?_))
      | exact ih0 _ _ _ _
      | exact LeO.none _
      | refine LeO.ite ?_ ?_
      | refine LeO.bind ?_ (fun _ => ?_)
def catamaranref05_Got.T6 : Bool × List (List Nat × List Nat) := (true, [([], []), ([], []), ([1], [1]), ([], []), ([2, 3], [2, 3]), ([4], [4]), ([5], [5]), ([0, 6], [0, 6]), ([], []), ([8], [8]), ([], []), ([9, 10], [9, 10]), ([11], [11]), ([12], [12]), ([13], [13]), ([7, 7, 0, 1, 2, 3, 4, 5, 6, 7], [7]), ([14, 15, 0, 1, 2, 3, 4, 5, 6, 7, 8, 9, 10, 11, 12, 13, 14, 15], [14])])
def catamaranref05_Got.B6 : List Nat := [0, 0, 2, 0, 14, 30, 62, 127, 0, 256, 0, 1792, 3840, 7936, 16128, 255, 65535]
theorem catamaranref05_Got.tab6 : rtab .any (opsOf Try.f119 6) = catamaranref05_Got.T6 := by kernel_rfl
theorem catamaranref05_Got.bits6 : waitsOk catamaranref05_Got.T6.2 catamaranref05_Got.B6 = true := by kernel_rfl
set_option maxHeartbeats 8000000 in
set_option maxRecDepth 100000 in
theorem catamaranref05_Got.calls (k : Nat) (A0_0 : Option Addr) (c0_0 : Nat) (l0_0 : List (S39)) (A0_1 : Option Addr) (c0_1 : Nat) (l0_1 : List (S49)) (a1 : Int) (r1 : List Int) (r2 : Bool) (w : World) (hr0_0 : Kd.C k39 w A0_0 l0_0.length l0_0) (hc0_0 : l0_0.length ≤ c0_0) (hr0_1 : Kd.C k49 w A0_1 l0_1.length l0_1) (hc0_1 : l0_1.length ≤ c0_1) (h : catamaranref05_Got.f k l0_0 l0_1 a1 = some (r1, r2)) :
    Calls Try.prog 119 #[.agg #[.slice A0_0 l0_0.length c0_0, .slice A0_1 l0_1.length c0_1], .int .i64 a1] w fun e w' => ∃ v0_ : Value, e = .returned (.tuple #[v0_, .bool r2]) ∧ Kd.R (Kd.int .u8) 5 w' w.heap.size (fun _ => True) v0_ r1 ∧ Below w.heap.size w w' := by
  have hu25 := Try.underlying25
  have HR0_0 := Aside0.mk hr0_0
  have HC0_0 := Aside0.mk hc0_0
  clear hr0_0 hc0_0
  have HR0_1 := Aside0.mk hr0_1
  have HC0_1 := Aside0.mk hc0_1
  clear hr0_1 hc0_1
  have HB := Aside0.mk (Below.refl w.heap.size w)
  have H : (catamaranref05_Got.l0 k a1 (wrap64 ((l0_1.length : Int) - 1)) l0_0 l0_1) = some (r1, r2) := h
  clear h
  have H' := Aside0.mk H
  clear H
  go_enter Try.func119, Try.ntmps119
  go_wp2_with (first | ((with_reducible refine gate_dst (N := 2) rfl ?_); refine box_event ?hg (N := 2) ?hd (cs := #[.slice A0_0 l0_0.length c0_0, .slice A0_1 l0_1.length c0_1]) (t := 25) ?hr ?_; (case hd => rfl); (case hg => rfl); (case hr => first | (go_simp; done) | (go_simp; rfl)); intro gb1004 hg w3 hbox hb; have n0_ := Aside0.mk (below_step (by repeat (first | (with_reducible first | exact HB.out | apply below_alloc | apply pbdN | apply bdr1) | exact HB.out)) hb); have n1_ := Aside0.mk (hbox); have n2_ := Aside0.mk ((by rw [hg]; exact (below_size (by repeat (first | (with_reducible first | exact HB.out | apply below_alloc | apply pbdN | apply bdr1) | exact HB.out))) : w.heap.size ≤ gb1004)); have n3_ := Aside0.mk ((by rw [hg]; exact (below_size (by repeat (first | (with_reducible first | exact HB.out | apply below_alloc | apply pbdN | apply bdr1) | exact HB.out))) : w.heap.size ≤ gb1004)); clear HB; have HB := n0_; have BK1004 := n1_; have GW1004 := n2_; have GE1004 := n3_; clear n0_ n1_ n2_ n3_; clear hb hbox hg; have hcz4_0 : w3.cell? ⟨gb1004, 0, none⟩ = some (.slice A0_0 l0_0.length c0_0) := (blk_cell BK1004.out 0).trans rfl; have hcz4_1 : w3.cell? ⟨gb1004, 1, none⟩ = some (.slice A0_1 l0_1.length c0_1) := (blk_cell BK1004.out 1).trans rfl; have hfz4_0 := blk_frozen BK1004.out 0; have hfz4_1 := blk_frozen BK1004.out 1))
  go_loopg [6] k (fun kq v6 w' => ∃ (x6_1 : Int), v6 = .int .i64 x6_1 ∧ Aside0 (catamaranref05_Got.l0 kq a1 x6_1 l0_0 l0_1 = some (r1, r2)) ∧ Aside0 (kq ≤ k) ∧ Aside0 (w'.heap[gb1004]? = some (.cells #[(.slice A0_0 l0_0.length c0_0), (.slice A0_1 l0_1.length c0_1)] 25 (0, 0))) ∧ Aside0 (Below w.heap.size w w'))
  case atStart => exact ⟨(wrap64 ((l0_1.length : Int) - 1)), (by first | rfl | (simp; done) | (simp [*]; done)), H', ⟨Nat.le_refl _⟩, ⟨by (with_reducible repeat (first | refine blk_drewN ?_ _ | refine blk_drew ?_ | refine blk_alloc ?_ _)); exact BK1004.out⟩, ⟨by repeat (first | (with_reducible first | exact HB.out | apply below_alloc | apply pbdN | apply bdr1 | refine below_set ?_ GE1004.out) | exact HB.out)⟩⟩
  case round =>
    clear H'
    try clear c1
    try clear p2
    try clear hcz4_0
    try clear hcz4_1
    try clear hfz4_0
    try clear hfz4_1
    obtain ⟨x6_1, rfl, HA, HK1, BK1004, HB⟩ := hrel
    cases gk with
    | zero => exact absurd HA.out (by simp [catamaranref05_Got.l0])
    | succ k1 =>
      have H := HA.out
      clear HA
      simp only [catamaranref05_Got.l0] at H
      by_cases c5 : x6_1 ≥ 0
      · rw [if_pos c5] at H
        have c5b0 : decide (0 ≤ x6_1) = true := decide_eq_true c5
        clear c5
        by_cases c6 : 0 ≤ x6_1
        · rw [if_pos c6] at H
          have c6b0 : decide (0 ≤ x6_1) = true := decide_eq_true c6
          clear c6
          by_cases c7 : x6_1 < (l0_1.length : Int)
          · rw [if_pos c7] at H
            have c7b0 : decide (x6_1 < (l0_1.length : Int)) = true := decide_eq_true c7
            clear c7
            by_cases c8 : ((rd_T49 l0_1 x6_1).f0) = a1
            · rw [if_pos c8] at H
              have c8b0 : (((rd_T49 l0_1 x6_1).f0) == a1) = true := beq_iff_eq.mpr c8
              have c8b1 : (((rd_T49 l0_1 x6_1).f0) != a1) = false := bne_eq_false_iff_eq.mpr c8
              clear c8
              obtain ⟨y1002, hy1002⟩ : ∃ y_ : List Int, y_ = (([] : List Int)) := ⟨_, rfl⟩
              replace H : (if y1002.length + ((rd_T49 l0_1 x6_1).f1).length < 140737488355328 then (some ((y1002 ++ ((rd_T49 l0_1 x6_1).f1)), true)) else (none)) = some (r1, r2) := by first | (rw [hy1002]; with_reducible exact H) | (have H2_ := (Option.bind_some _ _).symm.trans H; rw [hy1002]; with_reducible exact H2_) | (have H2_ := (Option.bind_some _ _).symm.trans H; with_reducible exact H2_) | with_reducible exact H | (rw [hy1002]; exact H) | exact H
              have Ny1002 := Aside0.mk hy1002
              clear hy1002
              by_cases c9 : y1002.length + ((rd_T49 l0_1 x6_1).f1).length < 140737488355328
              · rw [if_pos c9] at H
                have LMc9 := Aside0.mk c9
                clear c9
                obtain ⟨y1005, hy1005⟩ : ∃ y_ : List Int, y_ = (y1002 ++ ((rd_T49 l0_1 x6_1).f1)) := ⟨_, rfl⟩
                replace H : (some (y1005, true)) = some (r1, r2) := by first | (rw [hy1005]; with_reducible exact H) | (have H2_ := (Option.bind_some _ _).symm.trans H; rw [hy1005]; with_reducible exact H2_) | (have H2_ := (Option.bind_some _ _).symm.trans H; with_reducible exact H2_) | with_reducible exact H | (rw [hy1005]; exact H) | exact H
                have Ny1005 := Aside0.mk hy1005
                clear hy1005
                simp only [Option.some.injEq, Prod.mk.injEq] at H
                obtain ⟨rfl, rfl⟩ := H
                have hcz10_0 : wr.cell? ⟨gb1004, 0, none⟩ = some (.slice A0_0 l0_0.length c0_0) := (blk_cell BK1004.out 0).trans rfl
                have hcz10_1 : wr.cell? ⟨gb1004, 1, none⟩ = some (.slice A0_1 l0_1.length c0_1) := (blk_cell BK1004.out 1).trans rfl
                have hfz10_0 := blk_frozen BK1004.out 0
                have hfz10_1 := blk_frozen BK1004.out 1
                have p1006 : 0 ≤ (x6_1 : Int) := of_decide_eq_true (by first | (with_reducible assumption) | assumption)
                have q1006 : x6_1 < (l0_1.length : Int) := of_decide_eq_true (by first | (with_reducible assumption) | assumption)
                obtain ⟨ad1006, A1006_1, c1006_1, e1006, hx1006_0, hx1006_1, hl1006_1, hi1006_1⟩ := at_T49 HR0_1.out x6_1 p1006 q1006
                cases e1006
                replace hx1006_0 := (HB.out.cell (World.block_lt_of_cell? w _ hx1006_0)).trans hx1006_0
                replace hx1006_1 := (HB.out.cell (World.block_lt_of_cell? w _ hx1006_1)).trans hx1006_1
                have HR1006_1 := Aside0.mk hi1006_1
                have HC1006_1 := Aside0.mk hl1006_1
                clear hi1006_1 hl1006_1
                replace p1006 := eq_true p1006
                replace q1006 := eq_true q1006
                go_wp2_with (first | ((with_reducible refine gate_dst (N := 23) rfl ?_); refine Kd.R_lit (Kd.int .u8) _ 5 ?hg (N := 23) ?hd (xs := ([] : List Int)) (inner := []) (ok := fun _ => True) (okp := fun _ => True) ?hr ?hp (fun _ hk => hk) trivial (Below.refl _ _) (Nat.le_refl _) (by simp) ?_; (case hd => rfl); (case hg => rfl); (case hr => first | (go_simp; done) | (go_simp; rfl)); (case hp => exact (Reps.none _ _)); intro v1007 w11 ho12 hb hg_ hnew_; clear hg_ hnew_; (first | rw [← Ny1002.out] at ho12 | (simp only [Int.reduceToNat] at ho12; rw [← Ny1002.out] at ho12)); have n0_ := Aside0.mk (Kd.R_lower ho12 (below_size (by repeat (first | (with_reducible first | exact HB.out | apply below_alloc | apply pbdN | apply bdr1 | refine below_set ?_ GE1004.out) | exact HB.out)))); have n1_ := Aside0.mk (blk_below (g := gb1004) (o := .cells #[.slice A0_0 l0_0.length c0_0, .slice (some ad1006) l0_1.length c0_1] 25 (0, 0)) (by (with_reducible repeat (first | refine blk_drewN ?_ _ | refine blk_drew ?_ | refine blk_alloc ?_ _)); exact BK1004.out) hb); have n2_ := Aside0.mk (below_step (by repeat (first | (with_reducible first | exact HB.out | apply below_alloc | apply pbdN | apply bdr1 | refine below_set ?_ GE1004.out) | exact HB.out)) hb); clear BK1004; clear HB; have HO1008 := n0_; have BK1004 := n1_; have HB := n2_; clear n0_ n1_ n2_; clear hb ho12; have hcz13_0 : w11.cell? ⟨gb1004, 0, none⟩ = some (.slice A0_0 l0_0.length c0_0) := (blk_cell BK1004.out 0).trans rfl; have hcz13_1 : w11.cell? ⟨gb1004, 1, none⟩ = some (.slice (some ad1006) l0_1.length c0_1) := (blk_cell BK1004.out 1).trans rfl; have hfz13_0 := blk_frozen BK1004.out 0; have hfz13_1 := blk_frozen BK1004.out 1; have p1009 : 0 ≤ (x6_1 : Int) := of_decide_eq_true (by first | (with_reducible assumption) | assumption); have q1009 : x6_1 < (l0_1.length : Int) := of_decide_eq_true (by first | (with_reducible assumption) | assumption); obtain ⟨ad1009, A1009_1, c1009_1, e1009, hx1009_0, hx1009_1, hl1009_1, hi1009_1⟩ := at_T49 HR0_1.out x6_1 p1009 q1009; obtain rfl : ad1006 = ad1009 := (by injection e1009); replace hx1009_0 := (HB.out.cell (World.block_lt_of_cell? w _ hx1009_0)).trans hx1009_0; replace hx1009_1 := (HB.out.cell (World.block_lt_of_cell? w _ hx1009_1)).trans hx1009_1; have HR1009_1 := Aside0.mk hi1009_1; have HC1009_1 := Aside0.mk hl1009_1; clear hi1009_1 hl1009_1; replace p1009 := eq_true p1009; replace q1009 := eq_true q1009) | ((with_reducible refine gate_builtin (b := .append) (xs := #[.tmp 23, .tmp 29]) rfl ?_); at_builtin; refine Kd.R_append_rows (Kd.int .u8) (w0 := w) w.heap.size rfl (.tmp 23) (.tmp 29) 31 5 (.int .u8 0) 1 rfl Try.underlying31 info5 rfl (by decide) (by omega) v1007 y1002 ((rd_T49 l0_1 x6_1).f1) _ _ _ (fun _ => True) (fun _ => False) rfl rfl ?aO ?aR (fun _ _ h => h) (fun _ h => h.elim) ?aF ?aB ?aS ?aL ?_; (case aR => repeat (first | exact (Kd.C_below HR1009_1.out HB.out) | (with_reducible refine Kd.C_alloc ?_ _) | (with_reducible refine Kd.C_drewN ?_ _) | (with_reducible refine Kd.C_drew ?_))); (case aB => exact (by repeat (first | (with_reducible first | exact HB.out | apply below_alloc | apply pbdN | apply bdr1 | refine below_set ?_ GE1004.out) | exact HB.out))); (case aF => exact (fun _ _ => trivial)); (case aO => exact (by (with_reducible repeat (first | apply Kd.R_alloc | apply Kd.R_drewN | apply Kd.R_drew)); exact HO1008.out)); (case aS => exact (below_size (by repeat (first | (with_reducible first | exact HB.out | apply below_alloc | apply pbdN | apply bdr1 | refine below_set ?_ GE1004.out) | exact HB.out)))); (case aL => have := LMc9.out; omega); intro v1010 w14 ho hb hg hat; (first | (simp only [Int.reduceToNat] at ho; rw [← Ny1005.out] at ho) | rw [← Ny1005.out] at ho); have n0_ := Aside0.mk (blk_grown (g := gb1004) (o := .cells #[.slice A0_0 l0_0.length c0_0, .slice (some ad1006) l0_1.length c0_1] 25 (0, 0)) (by (with_reducible repeat (first | refine blk_drewN ?_ _ | refine blk_drew ?_ | refine blk_alloc ?_ _)); exact BK1004.out) hg (Kd.R_ne HO1008.out BK1004.out (by decide))); have n1_ := Aside0.mk (hb); have n2_ := Aside0.mk (ho); clear BK1004; clear HB; clear HO1008; have BK1004 := n0_; have HB := n1_; have HO1011 := n2_; clear n0_ n1_ n2_; clear ho hb hg hat))
                go_ret2
                exact ⟨_, by first | rfl | (simp [errW_none, errW_some] <;> rfl) | (simp [*, errW_none, errW_some] <;> rfl), by (with_reducible repeat (first | apply Kd.R_alloc | apply Kd.R_drewN | apply Kd.R_drew)); exact HO1011.out, by repeat (first | (with_reducible first | exact HB.out | apply below_alloc | apply pbdN | apply bdr1 | refine below_set ?_ GE1004.out) | exact HB.out)⟩
              · rw [if_neg c9] at H
                exact absurd H (by simp)
            · rw [if_neg c8] at H
              have c8b0 : (((rd_T49 l0_1 x6_1).f0) == a1) = false := beq_eq_false_iff_ne.mpr c8
              have c8b1 : (((rd_T49 l0_1 x6_1).f0) != a1) = true := bne_iff_ne.mpr c8
              have H' := Aside0.mk H
              clear H
              have hcz15_0 : wr.cell? ⟨gb1004, 0, none⟩ = some (.slice A0_0 l0_0.length c0_0) := (blk_cell BK1004.out 0).trans rfl
              have hcz15_1 : wr.cell? ⟨gb1004, 1, none⟩ = some (.slice A0_1 l0_1.length c0_1) := (blk_cell BK1004.out 1).trans rfl
              have hfz15_0 := blk_frozen BK1004.out 0
              have hfz15_1 := blk_frozen BK1004.out 1
              have p1006 : 0 ≤ (x6_1 : Int) := of_decide_eq_true (by first | (with_reducible assumption) | assumption)
              have q1006 : x6_1 < (l0_1.length : Int) := of_decide_eq_true (by first | (with_reducible assumption) | assumption)
              obtain ⟨ad1006, A1006_1, c1006_1, e1006, hx1006_0, hx1006_1, hl1006_1, hi1006_1⟩ := at_T49 HR0_1.out x6_1 p1006 q1006
              cases e1006
              replace hx1006_0 := (HB.out.cell (World.block_lt_of_cell? w _ hx1006_0)).trans hx1006_0
              replace hx1006_1 := (HB.out.cell (World.block_lt_of_cell? w _ hx1006_1)).trans hx1006_1
              have HR1006_1 := Aside0.mk hi1006_1
              have HC1006_1 := Aside0.mk hl1006_1
              clear hi1006_1 hl1006_1
              replace p1006 := eq_true p1006
              replace q1006 := eq_true q1006
              go_wp2
              go_roundg k1
              case measure => have := HK1.out; omega
              case rel => exact ⟨(wrap64 (x6_1 - 1)), (by first | rfl | (simp; done) | (simp [*]; done)), H', ⟨by have := HK1.out; omega⟩, ⟨by (with_reducible repeat (first | refine blk_drewN ?_ _ | refine blk_drew ?_ | refine blk_alloc ?_ _)); exact BK1004.out⟩, ⟨by repeat (first | (with_reducible first | exact HB.out | apply below_alloc | apply pbdN | apply bdr1 | refine below_set ?_ GE1004.out) | exact HB.out)⟩⟩
          · rw [if_neg c7] at H
            exact absurd H (by simp)
        · rw [if_neg c6] at H
          exact absurd H (by simp)
      · rw [if_neg c5] at H
        have c5b0 : decide (0 ≤ x6_1) = false := decide_eq_false c5
        clear c5
        obtain ⟨y1003, hy1003⟩ : ∃ y_ : List Int, y_ = (([] : List Int)) := ⟨_, rfl⟩
        replace H : (if 0 ≤ a1 then (if a1 < (l0_0.length : Int) then (if y1003.length + ((rd_T39 l0_0 a1).f0).length < 140737488355328 then (some ((y1003 ++ ((rd_T39 l0_0 a1).f0)), !((rd_T39 l0_0 a1).f1))) else (none)) else (none)) else (none)) = some (r1, r2) := by first | (rw [hy1003]; with_reducible exact H) | (have H2_ := (Option.bind_some _ _).symm.trans H; rw [hy1003]; with_reducible exact H2_) | (have H2_ := (Option.bind_some _ _).symm.trans H; with_reducible exact H2_) | with_reducible exact H | (rw [hy1003]; exact H) | exact H
        have Ny1003 := Aside0.mk hy1003
        clear hy1003
        by_cases c16 : 0 ≤ a1
        · rw [if_pos c16] at H
          have c16b0 : decide (0 ≤ a1) = true := decide_eq_true c16
          clear c16
          by_cases c17 : a1 < (l0_0.length : Int)
          · rw [if_pos c17] at H
            have c17b0 : decide (a1 < (l0_0.length : Int)) = true := decide_eq_true c17
            clear c17
            by_cases c18 : y1003.length + ((rd_T39 l0_0 a1).f0).length < 140737488355328
            · rw [if_pos c18] at H
              have LMc18 := Aside0.mk c18
              clear c18
              obtain ⟨y1012, hy1012⟩ : ∃ y_ : List Int, y_ = (y1003 ++ ((rd_T39 l0_0 a1).f0)) := ⟨_, rfl⟩
              replace H : (some (y1012, !((rd_T39 l0_0 a1).f1))) = some (r1, r2) := by first | (rw [hy1012]; with_reducible exact H) | (have H2_ := (Option.bind_some _ _).symm.trans H; rw [hy1012]; with_reducible exact H2_) | (have H2_ := (Option.bind_some _ _).symm.trans H; with_reducible exact H2_) | with_reducible exact H | (rw [hy1012]; exact H) | exact H
              have Ny1012 := Aside0.mk hy1012
              clear hy1012
              simp only [Option.some.injEq, Prod.mk.injEq] at H
              obtain ⟨rfl, rfl⟩ := H
              try go_wp2
              have n0_ := Aside0.mk (blk_drew BK1004.out)
              have n1_ := Aside0.mk (bdr1 HB.out)
              clear BK1004
              clear HB
              have BK1004 := n0_
              have HB := n1_
              clear n0_ n1_
              have p1013 : 0 ≤ (a1 : Int) := of_decide_eq_true (by first | (with_reducible assumption) | assumption)
              have q1013 : a1 < (l0_0.length : Int) := of_decide_eq_true (by first | (with_reducible assumption) | assumption)
              obtain ⟨ad1013, A1013_0, c1013_0, e1013, hx1013_0, hx1013_1, hl1013_0, hi1013_0⟩ := at_T39 HR0_0.out a1 p1013 q1013
              have hw1013_1 := hx1013_1
              have hw1013_0 := hx1013_0
              cases e1013
              replace hx1013_0 := (HB.out.cell (World.block_lt_of_cell? w _ hx1013_0)).trans hx1013_0
              replace hx1013_1 := (HB.out.cell (World.block_lt_of_cell? w _ hx1013_1)).trans hx1013_1
              have HR1013_0 := Aside0.mk hi1013_0
              have HC1013_0 := Aside0.mk hl1013_0
              clear hi1013_0 hl1013_0
              replace p1013 := eq_true p1013
              replace q1013 := eq_true q1013
              have p1014 : 0 ≤ (a1 : Int) := of_decide_eq_true (by first | (with_reducible assumption) | assumption)
              have q1014 : a1 < (l0_0.length : Int) := of_decide_eq_true (by first | (with_reducible assumption) | assumption)
              obtain ⟨ad1014, A1014_0, c1014_0, e1014, hx1014_0, hx1014_1, hl1014_0, hi1014_0⟩ := at_T39 HR0_0.out a1 p1014 q1014
              have hw1014_1 := hx1014_1
              have hw1014_0 := hx1014_0
              obtain rfl : ad1013 = ad1014 := (by injection e1014)
              replace hx1014_0 := (HB.out.cell (World.block_lt_of_cell? w _ hx1014_0)).trans hx1014_0
              replace hx1014_1 := (HB.out.cell (World.block_lt_of_cell? w _ hx1014_1)).trans hx1014_1
              have HR1014_0 := Aside0.mk hi1014_0
              have HC1014_0 := Aside0.mk hl1014_0
              clear hi1014_0 hl1014_0
              replace p1014 := eq_true p1014
              replace q1014 := eq_true q1014
              have ea_ := Option.some.inj (hx1013_0.symm.trans hx1014_0)
              injection ea_ with ea_ en_ ec_
              subst ea_
              subst ec_
              clear en_
              refine start_ (n := 17) (S := fun w' => w'.cell? ⟨gb1004, 0, none⟩ = some (.slice (some ad1013) l0_0.length c0_0) ∧ w'.cell? ⟨gb1004, 1, none⟩ = some (.slice A0_1 l0_1.length c0_1) ∧ w'.cell? (ad1013.add ((a1).toNat * 2)) = some (.slice A1013_0 ((rd_T39 l0_0 a1).f0).length c1013_0) ∧ w'.cell? ⟨(ad1013.add ((a1).toNat * 2)).block, (ad1013.add ((a1).toNat * 2)).off + 1, none⟩ = some (.bool ((rd_T39 l0_0 a1).f1)) ∧ w'.cell? (ad1013.add ((a1).toNat * 2)) = some (.slice A1013_0 ((rd_T39 l0_0 a1).f0).length c1013_0) ∧ w'.cell? ⟨(ad1013.add ((a1).toNat * 2)).block, (ad1013.add ((a1).toNat * 2)).off + 1, none⟩ = some (.bool ((rd_T39 l0_0 a1).f1))) (ds := []) #[false, false, false, false, false, false, false, false, false, false, false, false, false, false, false, false, false] (by kernel_rfl) rfl rfl ⟨(blk_cell BK1004.out 0).trans rfl, (blk_cell BK1004.out 1).trans rfl, ((HB.out.cell (World.block_lt_of_cell? w _ hw1013_0)).trans hw1013_0), ((HB.out.cell (World.block_lt_of_cell? w _ hw1013_1)).trans hw1013_1), ((HB.out.cell (World.block_lt_of_cell? w _ hw1014_0)).trans hw1014_0), ((HB.out.cell (World.block_lt_of_cell? w _ hw1014_1)).trans hw1014_1)⟩ (fun hHeld => ?_); refine wtW catamaranref05_Got.tab6 catamaranref05_Got.bits6 (fun HT_ HW_ => ?_)
              generalize wr.drew = w19 at BK1004 HB HR1013_0 HR1014_0 hx1013_0 hx1013_1 hx1014_0 hx1014_1 hHeld ⊢
              refine pure_ (i := 1) (N := some 32) (v := ?_) (a' := ?_) #[false, true, false, false, false, false, false, false, false, false, false, false, false, false, false, false, false] rfl rfl (any_of HT_.out (by kernel_rfl)) (fun _ _ _ h => h) (Or.inl ⟨by rfl, ?_⟩) ?_ ?_
              rotate_left
              · intro w'
                go_simp
                with_reducible rfl
              rotate_left
              · simp only [Act.put, List.setIfInBounds_toArray, List.set_cons_zero, List.set_cons_succ, i64_w, i32_w]
                rfl
              refine pure_ (i := 3) (N := some 34) (v := ?_) (a' := ?_) #[false, true, false, true, false, false, false, false, false, false, false, false, false, false, false, false, false] rfl rfl (any_of HT_.out (by kernel_rfl)) (fun _ _ _ h => h) (Or.inl ⟨by rfl, ?_⟩) ?_ ?_
              rotate_left
              · intro w'
                go_simp
                with_reducible rfl
              rotate_left
              · simp only [Act.put, List.setIfInBounds_toArray, List.set_cons_zero, List.set_cons_succ, i64_w, i32_w]
                rfl
              refine pure_ (i := 8) (N := some 39) (v := ?_) (a' := ?_) #[false, true, false, true, false, false, false, false, true, false, false, false, false, false, false, false, false] rfl rfl (any_of HT_.out (by kernel_rfl)) (fun _ _ _ h => h) (Or.inl ⟨by rfl, ?_⟩) ?_ ?_
              rotate_left
              · intro w'
                go_simp
                with_reducible rfl
              rotate_left
              · simp only [Act.put, List.setIfInBounds_toArray, List.set_cons_zero, List.set_cons_succ, i64_w, i32_w]
                rfl
              refine pure_ (i := 10) (N := some 41) (v := ?_) (a' := ?_) #[false, true, false, true, false, false, false, false, true, false, true, false, false, false, false, false, false] rfl rfl (any_of HT_.out (by kernel_rfl)) (fun _ _ _ h => h) (Or.inl ⟨by rfl, ?_⟩) ?_ ?_
              rotate_left
              · intro w'
                go_simp
                with_reducible rfl
              rotate_left
              · simp only [Act.put, List.setIfInBounds_toArray, List.set_cons_zero, List.set_cons_succ, i64_w, i32_w]
                rfl
              refine take_ (i := 2) (N := some 33) (v := ?_) (a' := ?_) #[false, true, true, true, false, false, false, false, true, false, true, false, false, false, false, false, false] rfl rfl (take_ofW HT_.out HW_.out (by kernel_rfl)) (fun _ _ _ h => h) (Or.inl ⟨by rfl, ?_⟩) hHeld ?_ ?_
              rotate_left
              · rintro w' ⟨s0, s1, s2, s3, s4, s5⟩
                go_simp
                with_reducible rfl
              rotate_left
              · simp only [Act.put, List.setIfInBounds_toArray, List.set_cons_zero, List.set_cons_succ, i64_w, i32_w]
                rfl
              refine pure_ (i := 4) (N := some 35) (v := ?_) (a' := ?_) #[false, true, true, true, true, false, false, false, true, false, true, false, false, false, false, false, false] rfl rfl (any_of HT_.out (by kernel_rfl)) (fun _ _ _ h => h) (Or.inl ⟨by rfl, ?_⟩) ?_ ?_
              rotate_left
              · intro w'
                go_simp
                with_reducible rfl
              rotate_left
              · simp only [Act.put, List.setIfInBounds_toArray, List.set_cons_zero, List.set_cons_succ, i64_w, i32_w]
                rfl
              refine pure_ (i := 5) (N := some 36) (v := ?_) (a' := ?_) #[false, true, true, true, true, true, false, false, true, false, true, false, false, false, false, false, false] rfl rfl (any_of HT_.out (by kernel_rfl)) (fun _ _ _ h => h) (Or.inl ⟨by rfl, ?_⟩) ?_ ?_
              rotate_left
              · intro w'
                go_simp
                with_reducible rfl
              rotate_left
              · simp only [Act.put, List.setIfInBounds_toArray, List.set_cons_zero, List.set_cons_succ, i64_w, i32_w]
                rfl
              refine take_ (i := 6) (N := some 37) (v := ?_) (a' := ?_) #[false, true, true, true, true, true, true, false, true, false, true, false, false, false, false, false, false] rfl rfl (take_ofW HT_.out HW_.out (by kernel_rfl)) (fun _ _ _ h => h) (Or.inl ⟨by rfl, ?_⟩) hHeld ?_ ?_
              rotate_left
              · rintro w' ⟨s0, s1, s2, s3, s4, s5⟩
                go_simp
                with_reducible rfl
              rotate_left
              · simp only [Act.put, List.setIfInBounds_toArray, List.set_cons_zero, List.set_cons_succ, i64_w, i32_w]
                rfl
              refine take_ (i := 9) (N := some 40) (v := ?_) (a' := ?_) #[false, true, true, true, true, true, true, false, true, true, true, false, false, false, false, false, false] rfl rfl (take_ofW HT_.out HW_.out (by kernel_rfl)) (fun _ _ _ h => h) (Or.inl ⟨by rfl, ?_⟩) hHeld ?_ ?_
              rotate_left
              · rintro w' ⟨s0, s1, s2, s3, s4, s5⟩
                go_simp
                with_reducible rfl
              rotate_left
              · simp only [Act.put, List.setIfInBounds_toArray, List.set_cons_zero, List.set_cons_succ, i64_w, i32_w]
                rfl
              refine pure_ (i := 11) (N := some 42) (v := ?_) (a' := ?_) #[false, true, true, true, true, true, true, false, true, true, true, true, false, false, false, false, false] rfl rfl (any_of HT_.out (by kernel_rfl)) (fun _ _ _ h => h) (Or.inl ⟨by rfl, ?_⟩) ?_ ?_
              rotate_left
              · intro w'
                go_simp
                with_reducible rfl
              rotate_left
              · simp only [Act.put, List.setIfInBounds_toArray, List.set_cons_zero, List.set_cons_succ, i64_w, i32_w]
                rfl
              refine pure_ (i := 12) (N := some 43) (v := ?_) (a' := ?_) #[false, true, true, true, true, true, true, false, true, true, true, true, true, false, false, false, false] rfl rfl (any_of HT_.out (by kernel_rfl)) (fun _ _ _ h => h) (Or.inl ⟨by rfl, ?_⟩) ?_ ?_
              rotate_left
              · intro w'
                go_simp
                with_reducible rfl
              rotate_left
              · simp only [Act.put, List.setIfInBounds_toArray, List.set_cons_zero, List.set_cons_succ, i64_w, i32_w]
                rfl
              refine take_ (i := 13) (N := some 44) (v := ?_) (a' := ?_) #[false, true, true, true, true, true, true, false, true, true, true, true, true, true, false, false, false] rfl rfl (take_ofW HT_.out HW_.out (by kernel_rfl)) (fun _ _ _ h => h) (Or.inl ⟨by rfl, ?_⟩) hHeld ?_ ?_
              rotate_left
              · rintro w' ⟨s0, s1, s2, s3, s4, s5⟩
                go_simp
                with_reducible rfl
              rotate_left
              · simp only [Act.put, List.setIfInBounds_toArray, List.set_cons_zero, List.set_cons_succ, i64_w, i32_w]
                rfl
              refine pure_ (i := 14) (N := some 45) (v := ?_) (a' := ?_) #[false, true, true, true, true, true, true, false, true, true, true, true, true, true, true, false, false] rfl rfl (any_of HT_.out (by kernel_rfl)) (fun _ _ _ h => h) (Or.inl ⟨by rfl, ?_⟩) ?_ ?_
              rotate_left
              · intro w'
                go_simp
                with_reducible rfl
              rotate_left
              · simp only [Act.put, List.setIfInBounds_toArray, List.set_cons_zero, List.set_cons_succ, i64_w, i32_w]
                rfl
              refine one_ (i := 0) (N := some 31) #[true, true, true, true, true, true, true, false, true, true, true, true, true, true, true, false, false] rfl rfl (one_of HT_.out (by kernel_rfl)) (by decide) (fun K hK => ?_)
              refine Kd.R_lit_step (Kd.int .u8) _ 5 ?hg (N := 31) ?hd (xs := ([] : List Int)) (inner := []) (ok := fun _ => True) (okp := fun _ => True) ?hr ?hp (fun _ hk => hk) trivial (Below.refl _ _) (Nat.le_refl _) (by simp) ?_; (case hd => rfl); (case hg => rfl); (case hr => first | (go_simp; done) | (go_simp; rfl)); (case hp => exact (Reps.none _ _))
              intro v1015 w20 ho21 hb hg_ hnew_
              clear hg_ hnew_
              (first | rw [← Ny1003.out] at ho21 | (simp only [Int.reduceToNat] at ho21; rw [← Ny1003.out] at ho21))
              have n0_ := Aside0.mk (Kd.R_lower ho21 (below_size (by repeat (first | (with_reducible first | exact HB.out | apply below_alloc | apply pbdN | apply bdr1 | refine below_set ?_ GE1004.out) | exact HB.out))))
              have n1_ := Aside0.mk (blk_below (g := gb1004) (o := .cells #[.slice (some ad1013) l0_0.length c0_0, .slice A0_1 l0_1.length c0_1] 25 (0, 0)) (by (with_reducible repeat (first | refine blk_drewN ?_ _ | refine blk_drew ?_ | refine blk_alloc ?_ _)); exact BK1004.out) hb)
              have n2_ := Aside0.mk (below_step (by repeat (first | (with_reducible first | exact HB.out | apply below_alloc | apply pbdN | apply bdr1 | refine below_set ?_ GE1004.out) | exact HB.out)) hb)
              clear BK1004
              clear HB
              have HO1016 := n0_
              have BK1004 := n1_
              have HB := n2_
              clear n0_ n1_ n2_
              clear hb ho21
              refine hK.out _ _ ⟨(blk_cell BK1004.out 0).trans rfl, (blk_cell BK1004.out 1).trans rfl, ((HB.out.cell (World.block_lt_of_cell? w _ hw1013_0)).trans hw1013_0), ((HB.out.cell (World.block_lt_of_cell? w _ hw1013_1)).trans hw1013_1), ((HB.out.cell (World.block_lt_of_cell? w _ hw1014_0)).trans hw1014_0), ((HB.out.cell (World.block_lt_of_cell? w _ hw1014_1)).trans hw1014_1)⟩ (fun hHeld => ?_)
              clear hK K
              refine norm_ (a' := ?_) ?_ ?_
              rotate_left
              · show Act.put _ (some 31) _ = _
                simp only [Act.put, List.setIfInBounds_toArray, List.set_cons_zero, List.set_cons_succ, i64_w, i32_w]
                rfl
              refine one_ (i := 7) (N := some 38) #[true, true, true, true, true, true, true, true, true, true, true, true, true, true, true, false, false] rfl rfl (one_of HT_.out (by kernel_rfl)) (by decide) (fun K hK => ?_)
              refine Kd.R_append_rows_step (Kd.int .u8) (w0 := w) w.heap.size (by rfl) (.tmp 31) (.tmp 37) 31 5 (.int .u8 0) 1 rfl Try.underlying31 info5 rfl (by decide) (by omega) v1015 y1003 ((rd_T39 l0_0 a1).f0) _ _ _ (fun _ => True) (fun _ => False) rfl rfl ?aO ?aR (fun _ _ h => h) (fun _ h => h.elim) ?aF ?aB ?aS ?aL ?_
              (case aR => repeat (first | exact (Kd.C_below HR1013_0.out HB.out) | (with_reducible refine Kd.C_alloc ?_ _) | (with_reducible refine Kd.C_drewN ?_ _) | (with_reducible refine Kd.C_drew ?_)))
              (case aB => exact (by repeat (first | (with_reducible first | exact HB.out | apply below_alloc | apply pbdN | apply bdr1 | refine below_set ?_ GE1004.out) | exact HB.out)))
              (case aF => exact (fun _ _ => trivial))
              (case aO => exact (by (with_reducible repeat (first | apply Kd.R_alloc | apply Kd.R_drewN | apply Kd.R_drew)); exact HO1016.out))
              (case aS => exact (below_size (by repeat (first | (with_reducible first | exact HB.out | apply below_alloc | apply pbdN | apply bdr1 | refine below_set ?_ GE1004.out) | exact HB.out))))
              (case aL => have := LMc18.out; omega)
              intro v1017 w22 ho hb hg hat
              rw [← Ny1012.out] at ho
              have n0_ := Aside0.mk (blk_grown (g := gb1004) (o := .cells #[.slice (some ad1013) l0_0.length c0_0, .slice A0_1 l0_1.length c0_1] 25 (0, 0)) (by (with_reducible repeat (first | refine blk_drewN ?_ _ | refine blk_drew ?_ | refine blk_alloc ?_ _)); exact BK1004.out) hg (Kd.R_ne HO1016.out BK1004.out (by decide)))
              have n1_ := Aside0.mk (hb)
              have n2_ := Aside0.mk (ho)
              clear BK1004
              clear HB
              clear HO1016
              have BK1004 := n0_
              have HB := n1_
              have HO1018 := n2_
              clear n0_ n1_ n2_
              clear ho hb hg hat
              refine hK.out _ _ ⟨(blk_cell BK1004.out 0).trans rfl, (blk_cell BK1004.out 1).trans rfl, ((HB.out.cell (World.block_lt_of_cell? w _ hw1013_0)).trans hw1013_0), ((HB.out.cell (World.block_lt_of_cell? w _ hw1013_1)).trans hw1013_1), ((HB.out.cell (World.block_lt_of_cell? w _ hw1014_0)).trans hw1014_0), ((HB.out.cell (World.block_lt_of_cell? w _ hw1014_1)).trans hw1014_1)⟩ (fun hHeld => ?_)
              clear hK K
              refine norm_ (a' := ?_) ?_ ?_
              rotate_left
              · show Act.put _ (some 38) _ = _
                simp only [Act.put, List.setIfInBounds_toArray, List.set_cons_zero, List.set_cons_succ, i64_w, i32_w]
                rfl
              refine pure_ (i := 15) (N := some 4) (v := ?_) (a' := ?_) #[true, true, true, true, true, true, true, true, true, true, true, true, true, true, true, true, false] rfl rfl (any_of HT_.out (by kernel_rfl)) (fun _ _ _ h => h) (Or.inl ⟨by rfl, ?_⟩) ?_ ?_
              rotate_left
              · intro w'
                go_simp
                with_reducible rfl
              rotate_left
              · simp only [Act.put, List.setIfInBounds_toArray, List.set_cons_zero, List.set_cons_succ, i64_w, i32_w]
                rfl
              refine pure_ (i := 16) (N := some 5) (v := ?_) (a' := ?_) #[true, true, true, true, true, true, true, true, true, true, true, true, true, true, true, true, true] rfl rfl (any_of HT_.out (by kernel_rfl)) (fun _ _ _ h => h) (Or.inl ⟨by rfl, ?_⟩) ?_ ?_
              rotate_left
              · intro w'
                go_simp
                with_reducible rfl
              rotate_left
              · simp only [Act.put, List.setIfInBounds_toArray, List.set_cons_zero, List.set_cons_succ, i64_w, i32_w]
                rfl
              refine done_ (done_of HT_.out (by kernel_rfl)) ?_
              try go_wp2
              go_ret2
              exact ⟨_, by first | rfl | (simp [errW_none, errW_some] <;> rfl) | (simp [*, errW_none, errW_some] <;> rfl), by (with_reducible repeat (first | apply Kd.R_alloc | apply Kd.R_drewN | apply Kd.R_drew)); exact HO1018.out, by repeat (first | (with_reducible first | exact HB.out | apply below_alloc | apply pbdN | apply bdr1 | refine below_set ?_ GE1004.out) | exact HB.out)⟩
            · rw [if_neg c18] at H
              exact absurd H (by simp)
          · rw [if_neg c17] at H
            exact absurd H (by simp)
        · rw [if_neg c16] at H
          exact absurd H (by simp)
end Go.Proofs.Ytdkjhcdniepbhaa.P
end
section
set_option linter.unusedVariables false
set_option linter.unusedSimpArgs false
namespace Go.Proofs.Ytdkjhcdniepbhaa.P
open Go.RowKit Go.Proofs.PrintWords Go.Proofs.PrintLast Go.Proofs.PrintMore
attribute [local go_sem] max2_int min2_int max_two min_two max_three min_three max_four min_four
def catamaranref05_blank.l0 : Nat → List Int → Int → Option (Bool)
  | 0, _, _ => none
  | k + 1, x0, x3 => if x3 < (x0.length : Int) then (if 0 ≤ x3 then (if (rd x0 x3) = 0 then (catamaranref05_blank.l0 k x0 (wrap64 (x3 + 1))) else (some false)) else (none)) else (some true)
def catamaranref05_blank.f (k : Nat) (l0 : List Int) : Option (Bool) := catamaranref05_blank.l0 k l0 0
theorem catamaranref05_blank.mono_l : ∀ k, (∀ y0 y1, LeO (catamaranref05_blank.l0 k y0 y1) (catamaranref05_blank.l0 (k + 1) y0 y1))
  | 0 => fun _ _ r h => by simp [catamaranref05_blank.l0] at h
  | k + 1 => by
    have ih0 := catamaranref05_blank.mono_l k
    · intro y0 y1
      unfold catamaranref05_blank.l0
      repeat' first
      | (with_reducible exact ih0 _ _)
      | (with_reducible exact LeO.refl _)
      | (with_reducible exact LeO.none _)
      | (with_reducible refine LeO.ite ?_ ?_)
      | (with_reducible refine LeO.bind ?_ (fun _ => ?_))
      | exact ih0 _ _
      | exact LeO.none _
      | refine LeO.ite ?_ ?_
      | refine LeO.bind ?_ (fun _ => ?_)
theorem catamaranref05_blank.mono : ∀ a0 k, LeO (catamaranref05_blank.f k a0) (catamaranref05_blank.f (k + 1) a0) := by
  intro a0 k
  have ih0 := catamaranref05_blank.mono_l k
  unfold catamaranref05_blank.f
  repeat' first
      | (with_reducible exact ih0 _ _)
      | (with_reducible exact LeO.refl _)
      | (with_reducible exact LeO.none _)
      | (with_reducible refine LeO.ite ?_ ?_)
      | (with_reducible refine LeO.bind ?_ (fun _ => ?_))
      | exact ih0 _ _
      | exact LeO.none _
      | refine LeO.ite ?_ ?_
      | refine LeO.bind ?_ (fun _ => ?_)
set_option maxHeartbeats 8000000 in
set_option maxRecDepth 100000 in
theorem catamaranref05_blank.calls (k : Nat) (A0 : Option Addr) (c0 : Nat) (l0 : List Int) (r : Bool) (w : World) (hr0 : Kd.C (Kd.int .u8) w A0 l0.length l0) (hc0 : l0.length ≤ c0) (h : catamaranref05_blank.f k l0 = some r) :
    Calls Try.prog 132 #[.slice A0 l0.length c0] w fun e w' => e = .returned (.bool r) ∧ Drawn0 w w' := by
  have HR0 := Aside0.mk hr0
  have HC0 := Aside0.mk hc0
  clear hr0 hc0
  have H : (catamaranref05_blank.l0 k l0 0) = some r := h
  clear h
  have H' := Aside0.mk H
  clear H
  go_enter Try.func132, Try.ntmps132
  go_wp2
  go_loopg [3] k (fun kq v3 w' => ∃ (x3_1 : Int), v3 = .int .i64 x3_1 ∧ Aside0 (catamaranref05_blank.l0 kq l0 x3_1 = some r) ∧ Aside0 (kq ≤ k) ∧ Drawn0 w w')
  case atStart => exact ⟨(0), (by first | rfl | (simp; done) | (simp [*]; done)), H', ⟨Nat.le_refl _⟩, by repeat (first | exact Drawn0.refl _ | apply Drawn0.step)⟩
  case round =>
    clear H'
    try clear c1
    obtain ⟨x3_1, rfl, HA, HK1, ⟨m1, rfl⟩⟩ := hrel
    cases gk with
    | zero => exact absurd HA.out (by simp [catamaranref05_blank.l0])
    | succ k1 =>
      have H := HA.out
      clear HA
      simp only [catamaranref05_blank.l0] at H
      by_cases c2 : x3_1 < (l0.length : Int)
      · rw [if_pos c2] at H
        have c2b0 : decide (x3_1 < (l0.length : Int)) = true := decide_eq_true c2
        clear c2
        by_cases c3 : 0 ≤ x3_1
        · rw [if_pos c3] at H
          have c3b0 : decide (0 ≤ x3_1) = true := decide_eq_true c3
          clear c3
          by_cases c4 : (rd l0 x3_1) = 0
          · rw [if_pos c4] at H
            have c4b0 : ((rd l0 x3_1) == 0) = true := beq_iff_eq.mpr c4
            have c4b1 : ((rd l0 x3_1) != 0) = false := bne_eq_false_iff_eq.mpr c4
            clear c4
            have H' := Aside0.mk H
            clear H
            have p1000 : 0 ≤ (x3_1 : Int) := of_decide_eq_true (by first | (with_reducible assumption) | assumption)
            have q1000 : x3_1 < (l0.length : Int) := of_decide_eq_true (by first | (with_reducible assumption) | assumption)
            obtain ⟨ad1000, e1000, hx1000_0⟩ := Kd.at_int HR0.out x3_1 p1000 q1000
            cases e1000
            replace p1000 := eq_true p1000
            replace q1000 := eq_true q1000
            go_wp2
            go_roundg k1
            case measure => have := HK1.out; omega
            case rel => exact ⟨(wrap64 (x3_1 + 1)), (by first | rfl | (simp; done) | (simp [*]; done)), H', ⟨by have := HK1.out; omega⟩, by repeat (first | exact Drawn0.refl _ | apply Drawn0.step)⟩
          · rw [if_neg c4] at H
            have c4b0 : ((rd l0 x3_1) == 0) = false := beq_eq_false_iff_ne.mpr c4
            have c4b1 : ((rd l0 x3_1) != 0) = true := bne_iff_ne.mpr c4
            obtain rfl := Option.some.inj H
            have p1000 : 0 ≤ (x3_1 : Int) := of_decide_eq_true (by first | (with_reducible assumption) | assumption)
            have q1000 : x3_1 < (l0.length : Int) := of_decide_eq_true (by first | (with_reducible assumption) | assumption)
            obtain ⟨ad1000, e1000, hx1000_0⟩ := Kd.at_int HR0.out x3_1 p1000 q1000
            cases e1000
            replace p1000 := eq_true p1000
            replace q1000 := eq_true q1000
            go_wp2
            go_ret
            exact ⟨by first | rfl | (simp; done) | (simp [*]; done), by repeat (first | exact Drawn0.refl _ | apply Drawn0.step)⟩
        · rw [if_neg c3] at H
          exact absurd H (by simp)
      · rw [if_neg c2] at H
        have c2b0 : decide (x3_1 < (l0.length : Int)) = false := decide_eq_false c2
        clear c2
        obtain rfl := Option.some.inj H
        go_wp2
        go_ret
        exact ⟨by first | rfl | (simp; done) | (simp [*]; done), by repeat (first | exact Drawn0.refl _ | apply Drawn0.step)⟩
end Go.Proofs.Ytdkjhcdniepbhaa.P
end
section
set_option linter.unusedVariables false
set_option linter.unusedSimpArgs false
namespace Go.Proofs.Ytdkjhcdniepbhaa.P
open Go.RowKit Go.Proofs.PrintWords Go.Proofs.PrintLast Go.Proofs.PrintMore
attribute [local go_sem] max2_int min2_int max_two min_two max_three min_three max_four min_four
def catamaranref05_Pending.l0 : Nat → Int → Int → List (S39) → List (S49) → Option (Bool)
  | 0, _, _, _, _ => none
  | k + 1, x1, x5, x1000, x1001 => if x5 < (x1001.length : Int) then (if 0 ≤ x5 then (if ((rd_T49 x1001 x5).f0) = x1 then (some true) else (catamaranref05_Pending.l0 k x1 (wrap64 (x5 + 1)) x1000 x1001)) else (none)) else (some false)
def catamaranref05_Pending.f (k : Nat) (l0_0 : List (S39)) (l0_1 : List (S49)) (a1 : Int) : Option (Bool) := catamaranref05_Pending.l0 k a1 0 l0_0 l0_1
theorem catamaranref05_Pending.mono_l : ∀ k, (∀ y0 y1 y2 y3, LeO (catamaranref05_Pending.l0 k y0 y1 y2 y3) (catamaranref05_Pending.l0 (k + 1) y0 y1 y2 y3))
  | 0 => fun _ _ _ _ r h => by simp [catamaranref05_Pending.l0] at h
  | k + 1 => by
    have ih0 := catamaranref05_Pending.mono_l k
    · intro y0 y1 y2 y3
      unfold catamaranref05_Pending.l0
      repeat' first
      | (with_reducible exact ih0 _ _ _ _)
      | (with_reducible exact LeO.refl _)
      | (with_reducible exact LeO.none _)
      | (with_reducible refine LeO.ite ?_ ?_)
      | (with_reducible refine LeO.bind ?_ (fun _ => ?_))
      | exact ih0 _ _ _ _
      | exact LeO.none _
      | refine LeO.ite ?_ ?_
      | refine LeO.bind ?_ (fun _ => ?_)
theorem catamaranref05_Pending.mono : ∀ a0 a1 a2 k, LeO (catamaranref05_Pending.f k a0 a1 a2) (catamaranref05_Pending.f (k + 1) a0 a1 a2) := by
  intro a0 a1 a2 k
  have ih0 := catamaranref05_Pending.mono_l k
  unfold catamaranref05_Pending.f
  repeat' first
      | (with_reducible exact ih0 _ _ _ _)
      | (with_reducible exact LeO.refl _)
      | (with_reducible exact LeO.none _)
      | (with_reducible refine LeO.ite ?_ ?_)
      | (with_reducible refine LeO.bind ?_ (fun _ => ?_))
      | exact ih0 _ _ _ _
      | exact LeO.none _
      | refine LeO.ite ?_ ?_
      | refine LeO.bind ?_ (fun _ => ?_)
set_option maxHeartbeats 8000000 in
set_option maxRecDepth 100000 in
theorem catamaranref05_Pending.calls (k : Nat) (A0_0 : Option Addr) (c0_0 : Nat) (l0_0 : List (S39)) (A0_1 : Option Addr) (c0_1 : Nat) (l0_1 : List (S49)) (a1 : Int) (r : Bool) (w : World) (hr0_0 : Kd.C k39 w A0_0 l0_0.length l0_0) (hc0_0 : l0_0.length ≤ c0_0) (hr0_1 : Kd.C k49 w A0_1 l0_1.length l0_1) (hc0_1 : l0_1.length ≤ c0_1) (h : catamaranref05_Pending.f k l0_0 l0_1 a1 = some r) :
    Calls Try.prog 118 #[.agg #[.slice A0_0 l0_0.length c0_0, .slice A0_1 l0_1.length c0_1], .int .i64 a1] w fun e w' => e = .returned (.bool r) ∧ Below w.heap.size w w' := by
  have hu25 := Try.underlying25
  have HR0_0 := Aside0.mk hr0_0
  have HC0_0 := Aside0.mk hc0_0
  clear hr0_0 hc0_0
  have HR0_1 := Aside0.mk hr0_1
  have HC0_1 := Aside0.mk hc0_1
  clear hr0_1 hc0_1
  have HB := Aside0.mk (Below.refl w.heap.size w)
  have H : (catamaranref05_Pending.l0 k a1 0 l0_0 l0_1) = some r := h
  clear h
  have H' := Aside0.mk H
  clear H
  go_enter Try.func118, Try.ntmps118
  go_wp2_with (first | ((with_reducible refine gate_dst (N := 2) rfl ?_); refine box_event ?hg (N := 2) ?hd (cs := #[.slice A0_0 l0_0.length c0_0, .slice A0_1 l0_1.length c0_1]) (t := 25) ?hr ?_; (case hd => rfl); (case hg => rfl); (case hr => first | (go_simp; done) | (go_simp; rfl)); intro gb1002 hg w3 hbox hb; have n0_ := Aside0.mk (below_step (by repeat (first | (with_reducible first | exact HB.out | apply below_alloc | apply pbdN | apply bdr1) | exact HB.out)) hb); have n1_ := Aside0.mk (hbox); have n2_ := Aside0.mk ((by rw [hg]; exact (below_size (by repeat (first | (with_reducible first | exact HB.out | apply below_alloc | apply pbdN | apply bdr1) | exact HB.out))) : w.heap.size ≤ gb1002)); have n3_ := Aside0.mk ((by rw [hg]; exact (below_size (by repeat (first | (with_reducible first | exact HB.out | apply below_alloc | apply pbdN | apply bdr1) | exact HB.out))) : w.heap.size ≤ gb1002)); clear HB; have HB := n0_; have BK1002 := n1_; have GW1002 := n2_; have GE1002 := n3_; clear n0_ n1_ n2_ n3_; clear hb hbox hg))
  go_loopg [5] k (fun kq v5 w' => ∃ (x5_1 : Int), v5 = .int .i64 x5_1 ∧ Aside0 (catamaranref05_Pending.l0 kq a1 x5_1 l0_0 l0_1 = some r) ∧ Aside0 (kq ≤ k) ∧ Aside0 (w'.heap[gb1002]? = some (.cells #[(.slice A0_0 l0_0.length c0_0), (.slice A0_1 l0_1.length c0_1)] 25 (0, 0))) ∧ Aside0 (Below w.heap.size w w'))
  case atStart => exact ⟨(0), (by first | rfl | (simp; done) | (simp [*]; done)), H', ⟨Nat.le_refl _⟩, ⟨by (with_reducible repeat (first | refine blk_drewN ?_ _ | refine blk_drew ?_ | refine blk_alloc ?_ _)); exact BK1002.out⟩, ⟨by repeat (first | (with_reducible first | exact HB.out | apply below_alloc | apply pbdN | apply bdr1 | refine below_set ?_ GE1002.out) | exact HB.out)⟩⟩
  case round =>
    clear H'
    try clear c1
    try clear p2
    obtain ⟨x5_1, rfl, HA, HK1, BK1002, HB⟩ := hrel
    cases gk with
    | zero => exact absurd HA.out (by simp [catamaranref05_Pending.l0])
    | succ k1 =>
      have H := HA.out
      clear HA
      simp only [catamaranref05_Pending.l0] at H
      by_cases c4 : x5_1 < (l0_1.length : Int)
      · rw [if_pos c4] at H
        have c4b0 : decide (x5_1 < (l0_1.length : Int)) = true := decide_eq_true c4
        clear c4
        by_cases c5 : 0 ≤ x5_1
        · rw [if_pos c5] at H
          have c5b0 : decide (0 ≤ x5_1) = true := decide_eq_true c5
          clear c5
          by_cases c6 : ((rd_T49 l0_1 x5_1).f0) = a1
          · rw [if_pos c6] at H
            have c6b0 : (((rd_T49 l0_1 x5_1).f0) == a1) = true := beq_iff_eq.mpr c6
            have c6b1 : (((rd_T49 l0_1 x5_1).f0) != a1) = false := bne_eq_false_iff_eq.mpr c6
            clear c6
            obtain rfl := Option.some.inj H
            have hcz7_0 : wr.cell? ⟨gb1002, 0, none⟩ = some (.slice A0_0 l0_0.length c0_0) := (blk_cell BK1002.out 0).trans rfl
            have hcz7_1 : wr.cell? ⟨gb1002, 1, none⟩ = some (.slice A0_1 l0_1.length c0_1) := (blk_cell BK1002.out 1).trans rfl
            have hfz7_0 := blk_frozen BK1002.out 0
            have hfz7_1 := blk_frozen BK1002.out 1
            have p1003 : 0 ≤ (x5_1 : Int) := of_decide_eq_true (by first | (with_reducible assumption) | assumption)
            have q1003 : x5_1 < (l0_1.length : Int) := of_decide_eq_true (by first | (with_reducible assumption) | assumption)
            obtain ⟨ad1003, A1003_1, c1003_1, e1003, hx1003_0, hx1003_1, hl1003_1, hi1003_1⟩ := at_T49 HR0_1.out x5_1 p1003 q1003
            cases e1003
            replace hx1003_0 := (HB.out.cell (World.block_lt_of_cell? w _ hx1003_0)).trans hx1003_0
            replace hx1003_1 := (HB.out.cell (World.block_lt_of_cell? w _ hx1003_1)).trans hx1003_1
            have HR1003_1 := Aside0.mk hi1003_1
            have HC1003_1 := Aside0.mk hl1003_1
            clear hi1003_1 hl1003_1
            replace p1003 := eq_true p1003
            replace q1003 := eq_true q1003
            go_wp2
            go_ret
            exact ⟨by first | rfl | (simp [errW_none, errW_some] <;> rfl) | (simp [*, errW_none, errW_some] <;> rfl), by repeat (first | (with_reducible first | exact HB.out | apply below_alloc | apply pbdN | apply bdr1 | refine below_set ?_ GE1002.out) | exact HB.out)⟩
          · rw [if_neg c6] at H
            have c6b0 : (((rd_T49 l0_1 x5_1).f0) == a1) = false := beq_eq_false_iff_ne.mpr c6
            have c6b1 : (((rd_T49 l0_1 x5_1).f0) != a1) = true := bne_iff_ne.mpr c6
            have H' := Aside0.mk H
            clear H
            have hcz8_0 : wr.cell? ⟨gb1002, 0, none⟩ = some (.slice A0_0 l0_0.length c0_0) := (blk_cell BK1002.out 0).trans rfl
            have hcz8_1 : wr.cell? ⟨gb1002, 1, none⟩ = some (.slice A0_1 l0_1.length c0_1) := (blk_cell BK1002.out 1).trans rfl
            have hfz8_0 := blk_frozen BK1002.out 0
            have hfz8_1 := blk_frozen BK1002.out 1
            have p1003 : 0 ≤ (x5_1 : Int) := of_decide_eq_true (by first | (with_reducible assumption) | assumption)
            have q1003 : x5_1 < (l0_1.length : Int) := of_decide_eq_true (by first | (with_reducible assumption) | assumption)
            obtain ⟨ad1003, A1003_1, c1003_1, e1003, hx1003_0, hx1003_1, hl1003_1, hi1003_1⟩ := at_T49 HR0_1.out x5_1 p1003 q1003
            cases e1003
            replace hx1003_0 := (HB.out.cell (World.block_lt_of_cell? w _ hx1003_0)).trans hx1003_0
            replace hx1003_1 := (HB.out.cell (World.block_lt_of_cell? w _ hx1003_1)).trans hx1003_1
            have HR1003_1 := Aside0.mk hi1003_1
            have HC1003_1 := Aside0.mk hl1003_1
            clear hi1003_1 hl1003_1
            replace p1003 := eq_true p1003
            replace q1003 := eq_true q1003
            go_wp2
            go_roundg k1
            case measure => have := HK1.out; omega
            case rel => exact ⟨(wrap64 (x5_1 + 1)), (by first | rfl | (simp; done) | (simp [*]; done)), H', ⟨by have := HK1.out; omega⟩, ⟨by (with_reducible repeat (first | refine blk_drewN ?_ _ | refine blk_drew ?_ | refine blk_alloc ?_ _)); exact BK1002.out⟩, ⟨by repeat (first | (with_reducible first | exact HB.out | apply below_alloc | apply pbdN | apply bdr1 | refine below_set ?_ GE1002.out) | exact HB.out)⟩⟩
        · rw [if_neg c5] at H
          exact absurd H (by simp)
      · rw [if_neg c4] at H
        have c4b0 : decide (x5_1 < (l0_1.length : Int)) = false := decide_eq_false c4
        clear c4
        obtain rfl := Option.some.inj H
        have hcz9_0 : wr.cell? ⟨gb1002, 0, none⟩ = some (.slice A0_0 l0_0.length c0_0) := (blk_cell BK1002.out 0).trans rfl
        have hcz9_1 : wr.cell? ⟨gb1002, 1, none⟩ = some (.slice A0_1 l0_1.length c0_1) := (blk_cell BK1002.out 1).trans rfl
        have hfz9_0 := blk_frozen BK1002.out 0
        have hfz9_1 := blk_frozen BK1002.out 1
        go_wp2
        go_ret
        exact ⟨by first | rfl | (simp [errW_none, errW_some] <;> rfl) | (simp [*, errW_none, errW_some] <;> rfl), by repeat (first | (with_reducible first | exact HB.out | apply below_alloc | apply pbdN | apply bdr1 | refine below_set ?_ GE1002.out) | exact HB.out)⟩
end Go.Proofs.Ytdkjhcdniepbhaa.P
end
section
set_option linter.unusedVariables false
set_option linter.unusedSimpArgs false
namespace Go.Proofs.Ytdkjhcdniepbhaa.P
open Go.RowKit Go.Proofs.PrintWords Go.Proofs.PrintLast Go.Proofs.PrintMore
attribute [local go_sem] max2_int min2_int max_two min_two max_three min_three max_four min_four
def disk_asked.f (l0_0 : List (S39)) (l0_1 : List (S49)) (a1 : Int) : Option (Int) := (hCheck.f l0_0 l0_1).bind fun t1000 => (if t1000 = 0 then (if a1 < 0 then (some 2) else (if a1 ≥ (l0_0.length : Int) then (some 2) else (some 0))) else (some t1000))
set_option maxHeartbeats 8000000 in
set_option maxRecDepth 100000 in
theorem disk_asked.calls (A0_0 : Option Addr) (c0_0 : Nat) (l0_0 : List (S39)) (A0_1 : Option Addr) (c0_1 : Nat) (l0_1 : List (S49)) (a1 : Int) (r : Int) (w : World) (hr0_0 : Kd.C k39 w A0_0 l0_0.length l0_0) (hc0_0 : l0_0.length ≤ c0_0) (hr0_1 : Kd.C k49 w A0_1 l0_1.length l0_1) (hc0_1 : l0_1.length ≤ c0_1) (h : disk_asked.f l0_0 l0_1 a1 = some r) :
    Calls Try.prog 57 #[.agg #[.slice A0_0 l0_0.length c0_0, .slice A0_1 l0_1.length c0_1], .int .i64 a1] w fun e w' => e = .returned (.int .i64 r) ∧ Below w.heap.size w w' := by
  have hu25 := Try.underlying25
  have HR0_0 := Aside0.mk hr0_0
  have HC0_0 := Aside0.mk hc0_0
  clear hr0_0 hc0_0
  have HR0_1 := Aside0.mk hr0_1
  have HC0_1 := Aside0.mk hc0_1
  clear hr0_1 hc0_1
  have HB := Aside0.mk (Below.refl w.heap.size w)
  have H : ((hCheck.f l0_0 l0_1).bind fun t1000 => (if t1000 = 0 then (if a1 < 0 then (some 2) else (if a1 ≥ (l0_0.length : Int) then (some 2) else (some 0))) else (some t1000))) = some r := h
  clear h
  replace H := Option.bind_eq_some_iff.mp H
  obtain ⟨t1000, A30, H⟩ := H
  replace H : (if t1000 = 0 then (if a1 < 0 then (some 2) else (if a1 ≥ (l0_0.length : Int) then (some 2) else (some 0))) else (some t1000)) = some r := H
  have A3 := Aside0.mk A30
  clear A30
  by_cases c4 : t1000 = 0
  · rw [if_pos c4] at H
    have c4b0 : (t1000 == 0) = true := beq_iff_eq.mpr c4
    have c4b1 : (t1000 != 0) = false := bne_eq_false_iff_eq.mpr c4
    clear c4
    by_cases c5 : a1 < 0
    · rw [if_pos c5] at H
      have c5b0 : decide (a1 < 0) = true := decide_eq_true c5
      clear c5
      obtain rfl := Option.some.inj H
      go_enter Try.func57, Try.ntmps57
      go_wp2_with (first | ((with_reducible refine gate_dst (N := 2) rfl ?_); refine box_event ?hg (N := 2) ?hd (cs := #[.slice A0_0 l0_0.length c0_0, .slice A0_1 l0_1.length c0_1]) (t := 25) ?hr ?_; (case hd => rfl); (case hg => rfl); (case hr => first | (go_simp; done) | (go_simp; rfl)); intro gb1001 hg w6 hbox hb; have n0_ := Aside0.mk (below_step (by repeat (first | (with_reducible first | exact HB.out | apply below_alloc | apply pbdN | apply bdr1) | exact HB.out)) hb); have n1_ := Aside0.mk (hbox); have n2_ := Aside0.mk ((by rw [hg]; exact (below_size (by repeat (first | (with_reducible first | exact HB.out | apply below_alloc | apply pbdN | apply bdr1) | exact HB.out))) : w.heap.size ≤ gb1001)); have n3_ := Aside0.mk ((by rw [hg]; exact (below_size (by repeat (first | (with_reducible first | exact HB.out | apply below_alloc | apply pbdN | apply bdr1) | exact HB.out))) : w.heap.size ≤ gb1001)); clear HB; have HB := n0_; have BK1001 := n1_; have GW1001 := n2_; have GE1001 := n3_; clear n0_ n1_ n2_ n3_; clear hb hbox hg; have hcz7_0 : w6.cell? ⟨gb1001, 0, none⟩ = some (.slice A0_0 l0_0.length c0_0) := (blk_cell BK1001.out 0).trans rfl; have hcz7_1 : w6.cell? ⟨gb1001, 1, none⟩ = some (.slice A0_1 l0_1.length c0_1) := (blk_cell BK1001.out 1).trans rfl; have hfz7_0 := blk_frozen BK1001.out 0; have hfz7_1 := blk_frozen BK1001.out 1) | ((with_reducible refine gate_callee (f := 23) rfl ?_); refine goesL_ (some 7) rfl rfl Try.func23 (by kernel_rfl) rfl #[.agg #[.slice A0_0 l0_0.length c0_0, .slice A0_1 l0_1.length c0_1]] rfl (by (try simp only [List.map_toArray, List.map_cons, List.map_nil]); first | done | rfl | (simp only [List.length_drop, List.length_take]; rfl)) ?_; (with_reducible refine (hCheck.calls _ _ l0_0 _ _ l0_1 t1000 _ ?side1 ?side2 ?side3 ?side4 A3.out).mono ?_); (case side1 => repeat (first | exact (Kd.C_below HR0_0.out HB.out) | (with_reducible refine Kd.C_alloc ?_ _) | (with_reducible refine Kd.C_drewN ?_ _) | (with_reducible refine Kd.C_drew ?_))); (case side2 => exact HC0_0.out); (case side3 => repeat (first | exact (Kd.C_below HR0_1.out HB.out) | (with_reducible refine Kd.C_alloc ?_ _) | (with_reducible refine Kd.C_drewN ?_ _) | (with_reducible refine Kd.C_drew ?_))); (case side4 => exact HC0_1.out); rintro e w8 ⟨rfl, hb⟩; refine ⟨_, rfl, ?_⟩; have n0_ := Aside0.mk (blk_below (g := gb1001) (o := .cells #[.slice A0_0 l0_0.length c0_0, .slice A0_1 l0_1.length c0_1] 25 (0, 0)) (by (with_reducible repeat (first | refine blk_drewN ?_ _ | refine blk_drew ?_ | refine blk_alloc ?_ _)); exact BK1001.out) hb); have n1_ := Aside0.mk (below_step (by repeat (first | (with_reducible first | exact HB.out | apply below_alloc | apply pbdN | apply bdr1 | refine below_set ?_ GE1001.out) | exact HB.out)) hb); clear BK1001; clear HB; have BK1001 := n0_; have HB := n1_; clear n0_ n1_; (try clear hb); (try clear hb2); (try clear hk); (try clear hi)))
      go_ret
      exact ⟨by first | rfl | (simp [errW_none, errW_some] <;> rfl) | (simp [*, errW_none, errW_some] <;> rfl), by repeat (first | (with_reducible first | exact HB.out | apply below_alloc | apply pbdN | apply bdr1 | refine below_set ?_ GE1001.out) | exact HB.out)⟩
    · rw [if_neg c5] at H
      have c5b0 : decide (a1 < 0) = false := decide_eq_false c5
      clear c5
      by_cases c9 : a1 ≥ (l0_0.length : Int)
      · rw [if_pos c9] at H
        have c9b0 : decide ((l0_0.length : Int) ≤ a1) = true := decide_eq_true c9
        clear c9
        obtain rfl := Option.some.inj H
        go_enter Try.func57, Try.ntmps57
        go_wp2_with (first | ((with_reducible refine gate_dst (N := 2) rfl ?_); refine box_event ?hg (N := 2) ?hd (cs := #[.slice A0_0 l0_0.length c0_0, .slice A0_1 l0_1.length c0_1]) (t := 25) ?hr ?_; (case hd => rfl); (case hg => rfl); (case hr => first | (go_simp; done) | (go_simp; rfl)); intro gb1001 hg w10 hbox hb; have n0_ := Aside0.mk (below_step (by repeat (first | (with_reducible first | exact HB.out | apply below_alloc | apply pbdN | apply bdr1) | exact HB.out)) hb); have n1_ := Aside0.mk (hbox); have n2_ := Aside0.mk ((by rw [hg]; exact (below_size (by repeat (first | (with_reducible first | exact HB.out | apply below_alloc | apply pbdN | apply bdr1) | exact HB.out))) : w.heap.size ≤ gb1001)); have n3_ := Aside0.mk ((by rw [hg]; exact (below_size (by repeat (first | (with_reducible first | exact HB.out | apply below_alloc | apply pbdN | apply bdr1) | exact HB.out))) : w.heap.size ≤ gb1001)); clear HB; have HB := n0_; have BK1001 := n1_; have GW1001 := n2_; have GE1001 := n3_; clear n0_ n1_ n2_ n3_; clear hb hbox hg; have hcz11_0 : w10.cell? ⟨gb1001, 0, none⟩ = some (.slice A0_0 l0_0.length c0_0) := (blk_cell BK1001.out 0).trans rfl; have hcz11_1 : w10.cell? ⟨gb1001, 1, none⟩ = some (.slice A0_1 l0_1.length c0_1) := (blk_cell BK1001.out 1).trans rfl; have hfz11_0 := blk_frozen BK1001.out 0; have hfz11_1 := blk_frozen BK1001.out 1) | ((with_reducible refine gate_callee (f := 23) rfl ?_); refine goesL_ (some 7) rfl rfl Try.func23 (by kernel_rfl) rfl #[.agg #[.slice A0_0 l0_0.length c0_0, .slice A0_1 l0_1.length c0_1]] rfl (by (try simp only [List.map_toArray, List.map_cons, List.map_nil]); first | done | rfl | (simp only [List.length_drop, List.length_take]; rfl)) ?_; (with_reducible refine (hCheck.calls _ _ l0_0 _ _ l0_1 t1000 _ ?side1 ?side2 ?side3 ?side4 A3.out).mono ?_); (case side1 => repeat (first | exact (Kd.C_below HR0_0.out HB.out) | (with_reducible refine Kd.C_alloc ?_ _) | (with_reducible refine Kd.C_drewN ?_ _) | (with_reducible refine Kd.C_drew ?_))); (case side2 => exact HC0_0.out); (case side3 => repeat (first | exact (Kd.C_below HR0_1.out HB.out) | (with_reducible refine Kd.C_alloc ?_ _) | (with_reducible refine Kd.C_drewN ?_ _) | (with_reducible refine Kd.C_drew ?_))); (case side4 => exact HC0_1.out); rintro e w12 ⟨rfl, hb⟩; refine ⟨_, rfl, ?_⟩; have n0_ := Aside0.mk (blk_below (g := gb1001) (o := .cells #[.slice A0_0 l0_0.length c0_0, .slice A0_1 l0_1.length c0_1] 25 (0, 0)) (by (with_reducible repeat (first | refine blk_drewN ?_ _ | refine blk_drew ?_ | refine blk_alloc ?_ _)); exact BK1001.out) hb); have n1_ := Aside0.mk (below_step (by repeat (first | (with_reducible first | exact HB.out | apply below_alloc | apply pbdN | apply bdr1 | refine below_set ?_ GE1001.out) | exact HB.out)) hb); clear BK1001; clear HB; have BK1001 := n0_; have HB := n1_; clear n0_ n1_; (try clear hb); (try clear hb2); (try clear hk); (try clear hi); have hcz13_0 : w12.cell? ⟨gb1001, 0, none⟩ = some (.slice A0_0 l0_0.length c0_0) := (blk_cell BK1001.out 0).trans rfl; have hcz13_1 : w12.cell? ⟨gb1001, 1, none⟩ = some (.slice A0_1 l0_1.length c0_1) := (blk_cell BK1001.out 1).trans rfl; have hfz13_0 := blk_frozen BK1001.out 0; have hfz13_1 := blk_frozen BK1001.out 1))
        go_ret
        exact ⟨by first | rfl | (simp [errW_none, errW_some] <;> rfl) | (simp [*, errW_none, errW_some] <;> rfl), by repeat (first | (with_reducible first | exact HB.out | apply below_alloc | apply pbdN | apply bdr1 | refine below_set ?_ GE1001.out) | exact HB.out)⟩
      · rw [if_neg c9] at H
        have c9b0 : decide ((l0_0.length : Int) ≤ a1) = false := decide_eq_false c9
        clear c9
        obtain rfl := Option.some.inj H
        go_enter Try.func57, Try.ntmps57
        go_wp2_with (first | ((with_reducible refine gate_dst (N := 2) rfl ?_); refine box_event ?hg (N := 2) ?hd (cs := #[.slice A0_0 l0_0.length c0_0, .slice A0_1 l0_1.length c0_1]) (t := 25) ?hr ?_; (case hd => rfl); (case hg => rfl); (case hr => first | (go_simp; done) | (go_simp; rfl)); intro gb1001 hg w14 hbox hb; have n0_ := Aside0.mk (below_step (by repeat (first | (with_reducible first | exact HB.out | apply below_alloc | apply pbdN | apply bdr1) | exact HB.out)) hb); have n1_ := Aside0.mk (hbox); have n2_ := Aside0.mk ((by rw [hg]; exact (below_size (by repeat (first | (with_reducible first | exact HB.out | apply below_alloc | apply pbdN | apply bdr1) | exact HB.out))) : w.heap.size ≤ gb1001)); have n3_ := Aside0.mk ((by rw [hg]; exact (below_size (by repeat (first | (with_reducible first | exact HB.out | apply below_alloc | apply pbdN | apply bdr1) | exact HB.out))) : w.heap.size ≤ gb1001)); clear HB; have HB := n0_; have BK1001 := n1_; have GW1001 := n2_; have GE1001 := n3_; clear n0_ n1_ n2_ n3_; clear hb hbox hg; have hcz15_0 : w14.cell? ⟨gb1001, 0, none⟩ = some (.slice A0_0 l0_0.length c0_0) := (blk_cell BK1001.out 0).trans rfl; have hcz15_1 : w14.cell? ⟨gb1001, 1, none⟩ = some (.slice A0_1 l0_1.length c0_1) := (blk_cell BK1001.out 1).trans rfl; have hfz15_0 := blk_frozen BK1001.out 0; have hfz15_1 := blk_frozen BK1001.out 1) | ((with_reducible refine gate_callee (f := 23) rfl ?_); refine goesL_ (some 7) rfl rfl Try.func23 (by kernel_rfl) rfl #[.agg #[.slice A0_0 l0_0.length c0_0, .slice A0_1 l0_1.length c0_1]] rfl (by (try simp only [List.map_toArray, List.map_cons, List.map_nil]); first | done | rfl | (simp only [List.length_drop, List.length_take]; rfl)) ?_; (with_reducible refine (hCheck.calls _ _ l0_0 _ _ l0_1 t1000 _ ?side1 ?side2 ?side3 ?side4 A3.out).mono ?_); (case side1 => repeat (first | exact (Kd.C_below HR0_0.out HB.out) | (with_reducible refine Kd.C_alloc ?_ _) | (with_reducible refine Kd.C_drewN ?_ _) | (with_reducible refine Kd.C_drew ?_))); (case side2 => exact HC0_0.out); (case side3 => repeat (first | exact (Kd.C_below HR0_1.out HB.out) | (with_reducible refine Kd.C_alloc ?_ _) | (with_reducible refine Kd.C_drewN ?_ _) | (with_reducible refine Kd.C_drew ?_))); (case side4 => exact HC0_1.out); rintro e w16 ⟨rfl, hb⟩; refine ⟨_, rfl, ?_⟩; have n0_ := Aside0.mk (blk_below (g := gb1001) (o := .cells #[.slice A0_0 l0_0.length c0_0, .slice A0_1 l0_1.length c0_1] 25 (0, 0)) (by (with_reducible repeat (first | refine blk_drewN ?_ _ | refine blk_drew ?_ | refine blk_alloc ?_ _)); exact BK1001.out) hb); have n1_ := Aside0.mk (below_step (by repeat (first | (with_reducible first | exact HB.out | apply below_alloc | apply pbdN | apply bdr1 | refine below_set ?_ GE1001.out) | exact HB.out)) hb); clear BK1001; clear HB; have BK1001 := n0_; have HB := n1_; clear n0_ n1_; (try clear hb); (try clear hb2); (try clear hk); (try clear hi); have hcz17_0 : w16.cell? ⟨gb1001, 0, none⟩ = some (.slice A0_0 l0_0.length c0_0) := (blk_cell BK1001.out 0).trans rfl; have hcz17_1 : w16.cell? ⟨gb1001, 1, none⟩ = some (.slice A0_1 l0_1.length c0_1) := (blk_cell BK1001.out 1).trans rfl; have hfz17_0 := blk_frozen BK1001.out 0; have hfz17_1 := blk_frozen BK1001.out 1))
        go_ret
        exact ⟨by first | rfl | (simp [errW_none, errW_some] <;> rfl) | (simp [*, errW_none, errW_some] <;> rfl), by repeat (first | (with_reducible first | exact HB.out | apply below_alloc | apply pbdN | apply bdr1 | refine below_set ?_ GE1001.out) | exact HB.out)⟩
  · rw [if_neg c4] at H
    have c4b0 : (t1000 == 0) = false := beq_eq_false_iff_ne.mpr c4
    have c4b1 : (t1000 != 0) = true := bne_iff_ne.mpr c4
    obtain rfl := Option.some.inj H
    go_enter Try.func57, Try.ntmps57
    go_wp2_with (first | ((with_reducible refine gate_dst (N := 2) rfl ?_); refine box_event ?hg (N := 2) ?hd (cs := #[.slice A0_0 l0_0.length c0_0, .slice A0_1 l0_1.length c0_1]) (t := 25) ?hr ?_; (case hd => rfl); (case hg => rfl); (case hr => first | (go_simp; done) | (go_simp; rfl)); intro gb1001 hg w18 hbox hb; have n0_ := Aside0.mk (below_step (by repeat (first | (with_reducible first | exact HB.out | apply below_alloc | apply pbdN | apply bdr1) | exact HB.out)) hb); have n1_ := Aside0.mk (hbox); have n2_ := Aside0.mk ((by rw [hg]; exact (below_size (by repeat (first | (with_reducible first | exact HB.out | apply below_alloc | apply pbdN | apply bdr1) | exact HB.out))) : w.heap.size ≤ gb1001)); have n3_ := Aside0.mk ((by rw [hg]; exact (below_size (by repeat (first | (with_reducible first | exact HB.out | apply below_alloc | apply pbdN | apply bdr1) | exact HB.out))) : w.heap.size ≤ gb1001)); clear HB; have HB := n0_; have BK1001 := n1_; have GW1001 := n2_; have GE1001 := n3_; clear n0_ n1_ n2_ n3_; clear hb hbox hg; have hcz19_0 : w18.cell? ⟨gb1001, 0, none⟩ = some (.slice A0_0 l0_0.length c0_0) := (blk_cell BK1001.out 0).trans rfl; have hcz19_1 : w18.cell? ⟨gb1001, 1, none⟩ = some (.slice A0_1 l0_1.length c0_1) := (blk_cell BK1001.out 1).trans rfl; have hfz19_0 := blk_frozen BK1001.out 0; have hfz19_1 := blk_frozen BK1001.out 1) | ((with_reducible refine gate_callee (f := 23) rfl ?_); refine goesL_ (some 7) rfl rfl Try.func23 (by kernel_rfl) rfl #[.agg #[.slice A0_0 l0_0.length c0_0, .slice A0_1 l0_1.length c0_1]] rfl (by (try simp only [List.map_toArray, List.map_cons, List.map_nil]); first | done | rfl | (simp only [List.length_drop, List.length_take]; rfl)) ?_; (with_reducible refine (hCheck.calls _ _ l0_0 _ _ l0_1 t1000 _ ?side1 ?side2 ?side3 ?side4 A3.out).mono ?_); (case side1 => repeat (first | exact (Kd.C_below HR0_0.out HB.out) | (with_reducible refine Kd.C_alloc ?_ _) | (with_reducible refine Kd.C_drewN ?_ _) | (with_reducible refine Kd.C_drew ?_))); (case side2 => exact HC0_0.out); (case side3 => repeat (first | exact (Kd.C_below HR0_1.out HB.out) | (with_reducible refine Kd.C_alloc ?_ _) | (with_reducible refine Kd.C_drewN ?_ _) | (with_reducible refine Kd.C_drew ?_))); (case side4 => exact HC0_1.out); rintro e w20 ⟨rfl, hb⟩; refine ⟨_, rfl, ?_⟩; have n0_ := Aside0.mk (blk_below (g := gb1001) (o := .cells #[.slice A0_0 l0_0.length c0_0, .slice A0_1 l0_1.length c0_1] 25 (0, 0)) (by (with_reducible repeat (first | refine blk_drewN ?_ _ | refine blk_drew ?_ | refine blk_alloc ?_ _)); exact BK1001.out) hb); have n1_ := Aside0.mk (below_step (by repeat (first | (with_reducible first | exact HB.out | apply below_alloc | apply pbdN | apply bdr1 | refine below_set ?_ GE1001.out) | exact HB.out)) hb); clear BK1001; clear HB; have BK1001 := n0_; have HB := n1_; clear n0_ n1_; (try clear hb); (try clear hb2); (try clear hk); (try clear hi)))
    go_ret
    exact ⟨by first | rfl | (simp [errW_none, errW_some] <;> rfl) | (simp [*, errW_none, errW_some] <;> rfl), by repeat (first | (with_reducible first | exact HB.out | apply below_alloc | apply pbdN | apply bdr1 | refine below_set ?_ GE1001.out) | exact HB.out)⟩
end Go.Proofs.Ytdkjhcdniepbhaa.P
end
section
set_option linter.unusedVariables false
set_option linter.unusedSimpArgs false
namespace Go.Proofs.Ytdkjhcdniepbhaa.P
open Go.RowKit Go.Proofs.PrintWords Go.Proofs.PrintLast Go.Proofs.PrintMore
attribute [local go_sem] max2_int min2_int max_two min_two max_three min_three max_four min_four
structure Btw (lo hi : Nat) (w w' : World) : Prop where
  os : w'.os = w.os
  tape : w'.tape = w.tape
  output : w'.output = w.output
  size : w.heap.size ≤ w'.heap.size
  block : ∀ k, k < w.heap.size → (k < lo ∨ hi ≤ k) → w'.heap[k]? = w.heap[k]?
theorem Btw.refl (lo hi : Nat) (w : World) : Btw lo hi w w := ⟨rfl, rfl, rfl, Nat.le_refl _, fun _ _ _ => rfl⟩
theorem Btw.trans {lo hi : Nat} {a b c : World} (h : Btw lo hi a b) (k : Btw lo hi b c) : Btw lo hi a c :=
  ⟨k.os.trans h.os, k.tape.trans h.tape, k.output.trans h.output, Nat.le_trans h.size k.size, fun i hi ho => (k.block i (Nat.lt_of_lt_of_le hi h.size) ho).trans (h.block i hi ho)⟩
theorem Btw.alloc {lo hi : Nat} {a w : World} (h : Btw lo hi a w) (o : Obj) : Btw lo hi a (w.alloc o) :=
  h.trans ⟨rfl, rfl, rfl, by simp, fun k hk _ => Below.heap_alloc _ _ _ hk⟩
theorem Btw.drew {lo hi : Nat} {a w : World} (h : Btw lo hi a w) : Btw lo hi a w.drew := ⟨h.os, h.tape, h.output, h.size, h.block⟩
theorem Btw.set {lo hi : Nat} {a w : World} (h : Btw lo hi a w) {p : Addr} (h1 : lo ≤ p.block) (h2 : p.block < hi) (u : Value) : Btw lo hi a (w.setCell p u) :=
  h.trans ⟨rfl, rfl, rfl, by simp [World.setCell], fun k hk ho => Below.heap_setCell _ _ _ _ (by omega)⟩
theorem Btw.below {lo hi : Nat} {a w : World} (h : Btw lo hi a w) (hl : lo ≤ a.heap.size) : Below lo a w := ⟨h.os, h.tape, h.output, h.size, fun k hk => h.block k (by omega) (.inl hk)⟩
def ByteRow (w : World) (lo hi : Nat) (A : Option Addr) (n : Nat) : Prop :=
  n ≤ 9223372036854775807 ∧ (0 < n → ∃ g cs, A = some ⟨g, 0, none⟩ ∧ lo ≤ g ∧ g < hi ∧ w.heap[g]? = some (.cells cs 5 (0, 0)) ∧ ∀ i, i < n → ∃ x, cs[i]? = some (.int .u8 x))
theorem ByteRow.set {w : World} {lo hi : Nat} {A : Option Addr} {n : Nat} (h : ByteRow w lo hi A n) {g i : Nat} {cs : Array Value} (hb : w.heap[g]? = some (.cells cs 5 (0, 0))) (x : Int) : ByteRow (w.setCell ⟨g, i, none⟩ (.int .u8 x)) lo hi A n := by
  refine ⟨h.1, fun hn => ?_⟩
  obtain ⟨g', cs', rfl, h1, h2, h3, h4⟩ := h.2 hn
  by_cases hg : g' = g
  · subst hg
    rw [hb] at h3
    injection h3 with h3
    injection h3 with h3 _ _
    subst h3
    refine ⟨g', _, rfl, h1, h2, blk_set hb i _, fun j hj => ?_⟩
    obtain ⟨y, hy⟩ := h4 j hj
    rw [Array.getElem?_setIfInBounds]
    split
    · rename_i e
      subst e
      rw [if_pos (Array.getElem?_eq_some_iff.1 hy).1]
      exact ⟨x, rfl⟩
    · exact ⟨y, hy⟩
  · exact ⟨g', cs', rfl, h1, h2, blk_far h3 hg _, h4⟩
theorem ByteRow.far {w : World} {lo hi : Nat} {A : Option Addr} {n : Nat} (h : ByteRow w lo hi A n) {p : Addr} {t : Nat} {cs : Array Value} (hb : w.heap[p.block]? = some (.cells cs t (0, 0))) (ht : t ≠ 5) (u : Value) : ByteRow (w.setCell p u) lo hi A n := by
  refine ⟨h.1, fun hn => ?_⟩
  obtain ⟨g', cs', rfl, h1, h2, h3, h4⟩ := h.2 hn
  exact ⟨g', cs', rfl, h1, h2, blk_far h3 (fun e => by subst e; rw [hb] at h3; injection h3 with h3; injection h3 with _ h3 _; exact ht h3) _, h4⟩
theorem ByteRow.mono {w : World} {lo hi lo' hi' : Nat} {A : Option Addr} {n : Nat} (h : ByteRow w lo hi A n) (h1 : lo' ≤ lo) (h2 : hi ≤ hi') : ByteRow w lo' hi' A n :=
  ⟨h.1, fun hn => by obtain ⟨g, cs, e, a, b, c, d⟩ := h.2 hn; exact ⟨g, cs, e, by omega, by omega, c, d⟩⟩
def SecRow (w : World) (lo hi : Nat) (A : Option Addr) (n : Nat) : Prop :=
  n ≤ 9223372036854775807 ∧ (0 < n → ∃ g cs, A = some ⟨g, 0, none⟩ ∧ lo ≤ g ∧ g < hi ∧ w.heap[g]? = some (.cells cs 39 (0, 0)) ∧ ∀ i, i < n → ∃ A' m c b, cs[i * 2]? = some (.slice A' m c) ∧ cs[i * 2 + 1]? = some (.bool b) ∧ ByteRow w lo hi A' m)
def PendRow (w : World) (lo hi : Nat) (A : Option Addr) (n : Nat) : Prop :=
  n ≤ 9223372036854775807 ∧ (0 < n → ∃ g cs, A = some ⟨g, 0, none⟩ ∧ lo ≤ g ∧ g < hi ∧ w.heap[g]? = some (.cells cs 49 (0, 0)) ∧ ∀ i, i < n → ∃ x A' m c, cs[i * 2]? = some (.int .i64 x) ∧ cs[i * 2 + 1]? = some (.slice A' m c) ∧ ByteRow w lo hi A' m)
section
variable {w w' : World} {lo hi : Nat} {A : Option Addr} {n : Nat}
theorem SecRow.set (h : SecRow w lo hi A n) {g i : Nat} {cs : Array Value} (hb : w.heap[g]? = some (.cells cs 5 (0, 0))) (x : Int) : SecRow (w.setCell ⟨g, i, none⟩ (.int .u8 x)) lo hi A n := by
  refine ⟨h.1, fun hn => ?_⟩
  obtain ⟨g', cs', e, h1, h2, h3, h4⟩ := h.2 hn
  refine ⟨g', cs', e, h1, h2, blk_far h3 (fun e => by subst e; rw [hb] at h3; injection h3 with h3; injection h3 with _ h3 _; cases h3) _, fun j hj => ?_⟩
  obtain ⟨A', m, c, b, c0, c1, hr⟩ := h4 j hj
  exact ⟨A', m, c, b, c0, c1, hr.set hb x⟩
theorem PendRow.set (h : PendRow w lo hi A n) {g i : Nat} {cs : Array Value} (hb : w.heap[g]? = some (.cells cs 5 (0, 0))) (x : Int) : PendRow (w.setCell ⟨g, i, none⟩ (.int .u8 x)) lo hi A n := by
  refine ⟨h.1, fun hn => ?_⟩
  obtain ⟨g', cs', e, h1, h2, h3, h4⟩ := h.2 hn
  refine ⟨g', cs', e, h1, h2, blk_far h3 (fun e => by subst e; rw [hb] at h3; injection h3 with h3; injection h3 with _ h3 _; cases h3) _, fun j hj => ?_⟩
  obtain ⟨x', A', m, c, c0, c1, hr⟩ := h4 j hj
  exact ⟨x', A', m, c, c0, c1, hr.set hb x⟩
end
theorem rows_at {α : Type} {R : α → List Value → Prop} {xs : List α} {inner : List Value} (h : Reps R 2 xs inner) {cur : Array Value} {k : Nat} (hp : inner = cur.toList.take k) {i : Nat} (hi : i < xs.length) :
    ∃ u v, R (xs[i]) [u, v] ∧ cur[i * 2]? = some u ∧ cur[i * 2 + 1]? = some v := by
  have hr := h.2 i _ (List.getElem?_eq_getElem hi)
  have hl : i * 2 + 2 ≤ inner.length := by rw [h.1]; omega
  have e : (inner.drop (i * 2)).take 2 = [inner[i * 2], inner[i * 2 + 1]] := by
    rw [List.drop_eq_getElem_cons (by omega), List.drop_eq_getElem_cons (by omega)]
    rfl
  rw [e] at hr
  have key : ∀ j (hj : j < inner.length), cur[j]? = some inner[j] := by
    intro j hj
    have : (cur.toList.take k)[j]? = some inner[j] := by rw [← hp]; exact List.getElem?_eq_getElem hj
    rw [List.getElem?_take] at this
    split at this
    · rw [← Array.getElem?_toList]; exact this
    · cases this
  exact ⟨_, _, hr, key _ (by omega), key _ (by omega)⟩
end Go.Proofs.Ytdkjhcdniepbhaa.P
end
section
set_option linter.unusedVariables false
set_option linter.unusedSimpArgs false
namespace Go.Proofs.Ytdkjhcdniepbhaa.P
open Go.RowKit Go.Proofs.PrintWords Go.Proofs.PrintLast Go.Proofs.PrintMore
attribute [local go_sem] max2_int min2_int max_two min_two max_three min_three max_four min_four
def ByteVal (w : World) (lo : Nat) (A : Option Addr) (b : List Int) : Prop :=
  b.length ≤ 9223372036854775807 ∧ (0 < b.length → ∃ g cs, A = some ⟨g, 0, none⟩ ∧ lo ≤ g ∧ w.heap[g]? = some (.cells cs 5 (0, 0)) ∧ ∀ i, i < b.length → cs[i]? = some (.int .u8 (b.getD i 0)))
def SecVal (w : World) (lo : Nat) (A : Option Addr) (l : List S39) : Prop :=
  l.length ≤ 9223372036854775807 ∧ (0 < l.length → ∃ g cs, A = some ⟨g, 0, none⟩ ∧ lo ≤ g ∧ w.heap[g]? = some (.cells cs 39 (0, 0)) ∧ ∀ i s, l[i]? = some s → ∃ A' c, cs[i * 2]? = some (.slice A' s.f0.length c) ∧ cs[i * 2 + 1]? = some (.bool s.f1) ∧ s.f0.length ≤ c ∧ ByteVal w lo A' s.f0)
def PendVal (w : World) (lo : Nat) (A : Option Addr) (l : List S49) : Prop :=
  l.length ≤ 9223372036854775807 ∧ (0 < l.length → ∃ g cs, A = some ⟨g, 0, none⟩ ∧ lo ≤ g ∧ w.heap[g]? = some (.cells cs 49 (0, 0)) ∧ ∀ i s, l[i]? = some s → ∃ A' c, cs[i * 2]? = some (.int .i64 s.f0) ∧ cs[i * 2 + 1]? = some (.slice A' s.f1.length c) ∧ s.f1.length ≤ c ∧ ByteVal w lo A' s.f1)
section
variable {w w' : World} {lo : Nat} {A : Option Addr}
theorem ByteVal.of_R {base : Nat} {ok : Nat → Prop} {v : Value} {xs : List Int} (h : (Kd.int .u8).R 5 w base ok v xs) : ∃ A c, v = .slice A xs.length c ∧ xs.length ≤ c ∧ ByteVal w base A xs := by
  obtain ⟨A, c, rfl, hc, hr⟩ := Kd.R_reads h
  refine ⟨A, c, rfl, hc, hr.2.1, fun hn => ?_⟩
  obtain ⟨_, inner, ho, hrep⟩ := h
  rcases ho.2 with ⟨e, hi⟩ | ⟨g, cap, cur, he, hb, hh, h1, h2, h3, h4⟩
  · injection e with _ e _
    omega
  · injection he with he _ _
    subst he
    refine ⟨g, cur, rfl, hb, hh, fun i hi => ?_⟩
    obtain ⟨ad, cs, e, hl, hK, hcs⟩ := Kd.C_get hr (0 : Int) (i : Int) (by omega) (by omega)
    injection e with e
    subst e
    have hK : cs = [.int .u8 (xs.getD (i : Int).toNat 0)] := hK
    subst hK
    have := hcs 0 _ rfl
    rw [add_plain, blk_cell hh] at this
    simpa [Kd.int, Kd.scalar] using this
theorem ByteVal.C {b : List Int} (h : ByteVal w lo A b) : (Kd.int .u8).C w A b.length b := by
  refine ⟨rfl, h.1, fun hn => ?_⟩
  obtain ⟨g, cs, rfl, _, hb, hc⟩ := h.2 hn
  refine ⟨_, rfl, fun j p hj => ⟨[.int .u8 p], rfl, rfl, fun i u hu => ?_⟩⟩
  have hi : i = 0 := by
    have := (List.getElem?_eq_some_iff.1 hu).1
    simpa using this
  subst hi
  have hu : u = .int .u8 p := by simpa using hu.symm
  subst hu
  have hlt := (List.getElem?_eq_some_iff.1 hj).1
  have := hc j hlt
  rw [add_plain, blk_cell hb]
  simp only [Kd.int, Kd.scalar, Nat.mul_one, Nat.add_zero, Nat.zero_add]
  rw [this, List.getD_eq_getElem?_getD, hj]
  rfl
theorem ByteVal.below {b : List Int} (h : ByteVal w lo A b) (hb : Below w.heap.size w w') : ByteVal w' lo A b :=
  ⟨h.1, fun hn => by obtain ⟨g, cs, e, a, c, d⟩ := h.2 hn; exact ⟨g, cs, e, a, blk_below c hb, d⟩⟩
theorem ByteVal.far {b : List Int} (h : ByteVal w lo A b) {p : Addr} {t : Nat} {cs : Array Value} (hb : w.heap[p.block]? = some (.cells cs t (0, 0))) (ht : t ≠ 5) (u : Value) : ByteVal (w.setCell p u) lo A b :=
  ⟨h.1, fun hn => by
    obtain ⟨g, cs', e, a, c, d⟩ := h.2 hn
    exact ⟨g, cs', e, a, blk_far c (fun e => by subst e; rw [hb] at c; injection c with c; injection c with _ c _; exact ht c) _, d⟩⟩
theorem ByteVal.lower {b : List Int} {lo' : Nat} (h : ByteVal w lo A b) (hl : lo' ≤ lo) : ByteVal w lo' A b :=
  ⟨h.1, fun hn => by obtain ⟨g, cs, e, a, c, d⟩ := h.2 hn; exact ⟨g, cs, e, Nat.le_trans hl a, c, d⟩⟩
theorem PendVal.of_S {base : Nat} {ok : Nat → Prop} {v : Value} {xs : List S49} (h : Kd.S k49 49 w base ok v xs) : ∃ A c, v = .slice A xs.length c ∧ xs.length ≤ c ∧ PendVal w base A xs := by
  obtain ⟨A, c, rfl, hc, hrd⟩ := Kd.S_reads h
  refine ⟨A, c, rfl, hc, hrd.2.1, fun hn => ?_⟩
  obtain ⟨_, inner, ho, hr⟩ := Kd.S_R h
  rcases ho.2 with ⟨e, hi⟩ | ⟨g, cap, cur, he, hb, hh, h1, h2, h3, h4⟩
  · omega
  · injection he with he _ _
    subst he
    refine ⟨g, cur, rfl, hb, hh, fun i s hs => ?_⟩
    obtain ⟨hi, rfl⟩ := List.getElem?_eq_some_iff.1 hs
    obtain ⟨u, v, hM, c0, c1⟩ := rows_at (show Reps (k49.M w base _) 2 xs inner from hr) h4.symm hi
    obtain ⟨v0, e, hR⟩ := k49_openM hM
    injection e with e1 e
    injection e with e2 _
    subst e1 e2
    obtain ⟨A', c', rfl, hc', hb'⟩ := ByteVal.of_R hR
    exact ⟨A', c', c0, c1, hc', hb'⟩
theorem SecVal.C {l : List S39} (h : SecVal w lo A l) : k39.C w A l.length l := by
  refine ⟨rfl, h.1, fun hn => ?_⟩
  obtain ⟨g, cs, rfl, _, hb, hc⟩ := h.2 hn
  refine ⟨_, rfl, fun j s hj => ?_⟩
  obtain ⟨A', c, c0, c1, hl, hv⟩ := hc j s hj
  refine ⟨[.slice A' s.f0.length c, .bool s.f1], rfl, k39_mk w s hl hv.C, fun i u hu => ?_⟩
  rw [add_plain, blk_cell hb]
  match i, hu with
  | 0, hu => rw [show j * k39.sz + 0 = j * 2 from rfl, c0]; simpa using hu
  | 1, hu => rw [show j * k39.sz + 1 = j * 2 + 1 from rfl, c1]; simpa using hu
  | i + 2, hu => simp at hu
theorem PendVal.C {l : List S49} (h : PendVal w lo A l) : k49.C w A l.length l := by
  refine ⟨rfl, h.1, fun hn => ?_⟩
  obtain ⟨g, cs, rfl, _, hb, hc⟩ := h.2 hn
  refine ⟨_, rfl, fun j s hj => ?_⟩
  obtain ⟨A', c, c0, c1, hl, hv⟩ := hc j s hj
  refine ⟨[.int .i64 s.f0, .slice A' s.f1.length c], rfl, k49_mk w s hl hv.C, fun i u hu => ?_⟩
  rw [add_plain, blk_cell hb]
  match i, hu with
  | 0, hu => rw [show j * k49.sz + 0 = j * 2 from rfl, c0]; simpa using hu
  | 1, hu => rw [show j * k49.sz + 1 = j * 2 + 1 from rfl, c1]; simpa using hu
  | i + 2, hu => simp at hu
theorem SecVal.below {l : List S39} (h : SecVal w lo A l) (hb : Below w.heap.size w w') : SecVal w' lo A l :=
  ⟨h.1, fun hn => by
    obtain ⟨g, cs, e, a, b, d⟩ := h.2 hn
    refine ⟨g, cs, e, a, blk_below b hb, fun i s hs => ?_⟩
    obtain ⟨A', c, c0, c1, hl, hv⟩ := d i s hs
    exact ⟨A', c, c0, c1, hl, hv.below hb⟩⟩
theorem PendVal.below {l : List S49} (h : PendVal w lo A l) (hb : Below w.heap.size w w') : PendVal w' lo A l :=
  ⟨h.1, fun hn => by
    obtain ⟨g, cs, e, a, b, d⟩ := h.2 hn
    refine ⟨g, cs, e, a, blk_below b hb, fun i s hs => ?_⟩
    obtain ⟨A', c, c0, c1, hl, hv⟩ := d i s hs
    exact ⟨A', c, c0, c1, hl, hv.below hb⟩⟩
theorem SecVal.far {l : List S39} (h : SecVal w lo A l) {p : Addr} {t : Nat} {cs : Array Value} (hb : w.heap[p.block]? = some (.cells cs t (0, 0))) (h5 : t ≠ 5) (h52 : t ≠ 39) (u : Value) : SecVal (w.setCell p u) lo A l :=
  ⟨h.1, fun hn => by
    obtain ⟨g, cs', e, a, b, d⟩ := h.2 hn
    refine ⟨g, cs', e, a, blk_far b (fun e => by subst e; rw [hb] at b; injection b with b; injection b with _ b _; exact h52 b) _, fun i s hs => ?_⟩
    obtain ⟨A', c, c0, c1, hl, hv⟩ := d i s hs
    exact ⟨A', c, c0, c1, hl, hv.far hb h5 u⟩⟩
theorem PendVal.far {l : List S49} (h : PendVal w lo A l) {p : Addr} {t : Nat} {cs : Array Value} (hb : w.heap[p.block]? = some (.cells cs t (0, 0))) (h5 : t ≠ 5) (h65 : t ≠ 49) (u : Value) : PendVal (w.setCell p u) lo A l :=
  ⟨h.1, fun hn => by
    obtain ⟨g, cs', e, a, b, d⟩ := h.2 hn
    refine ⟨g, cs', e, a, blk_far b (fun e => by subst e; rw [hb] at b; injection b with b; injection b with _ b _; exact h65 b) _, fun i s hs => ?_⟩
    obtain ⟨A', c, c0, c1, hl, hv⟩ := d i s hs
    exact ⟨A', c, c0, c1, hl, hv.far hb h5 u⟩⟩
theorem SecVal.put {l : List S39} {g i : Nat} (h : SecVal w lo (some ⟨g, 0, none⟩) l) (hi : i < l.length) {s : S39} {A' : Option Addr} {c : Nat} (hc : s.f0.length ≤ c) (hv : ByteVal w lo A' s.f0) :
    SecVal ((w.setCell ⟨g, i * 2, none⟩ (.slice A' s.f0.length c)).setCell ⟨g, i * 2 + 1, none⟩ (.bool s.f1)) lo (some ⟨g, 0, none⟩) (l.set i s) := by
  refine ⟨by rw [List.length_set]; exact h.1, fun hn => ?_⟩
  obtain ⟨g', cs, e, a, b, d⟩ := h.2 (by omega)
  have hg : g' = g := by injection e with e; injection e with e; exact e.symm
  subst hg
  have b1 := blk_set b (i * 2) (.slice A' s.f0.length c)
  have b2 := blk_set b1 (i * 2 + 1) (.bool s.f1)
  have keep : ∀ {A'' : Option Addr} {x : List Int}, ByteVal w lo A'' x → ByteVal ((w.setCell ⟨g', i * 2, none⟩ (.slice A' s.f0.length c)).setCell ⟨g', i * 2 + 1, none⟩ (.bool s.f1)) lo A'' x := fun hx => (hx.far (p := ⟨g', i * 2, none⟩) b (by decide) _).far (p := ⟨g', i * 2 + 1, none⟩) b1 (by decide) _
  refine ⟨g', _, rfl, a, b2, fun j x hx => ?_⟩
  obtain ⟨_, c1', d0, d1, _, _⟩ := d i _ (List.getElem?_eq_getElem hi)
  have z0 := (Array.getElem?_eq_some_iff.1 d0).1
  have z1 := (Array.getElem?_eq_some_iff.1 d1).1
  by_cases hij : j = i
  · subst hij
    rw [List.getElem?_set_self hi] at hx
    injection hx with hx
    subst hx
    refine ⟨A', c, ?_, ?_, hc, keep hv⟩
    · rw [Array.getElem?_setIfInBounds, if_neg (by omega), Array.getElem?_setIfInBounds, if_pos rfl, if_pos z0]
    · rw [Array.getElem?_setIfInBounds, if_pos rfl, if_pos (by simpa using z1)]
  · rw [List.getElem?_set_ne (fun e => hij e.symm)] at hx
    obtain ⟨A'', c'', e0, e1, hl, hvv⟩ := d j x hx
    refine ⟨A'', c'', ?_, ?_, hl, keep hvv⟩
    · rw [Array.getElem?_setIfInBounds, if_neg (by omega), Array.getElem?_setIfInBounds, if_neg (by omega), e0]
    · rw [Array.getElem?_setIfInBounds, if_neg (by omega), Array.getElem?_setIfInBounds, if_neg (by omega), e1]
end
end Go.Proofs.Ytdkjhcdniepbhaa.P
end
section
set_option linter.unusedVariables false
set_option linter.unusedSimpArgs false
namespace Go.Proofs.Ytdkjhcdniepbhaa.P
open Go.RowKit Go.Proofs.PrintWords Go.Proofs.PrintLast Go.Proofs.PrintMore
attribute [local go_sem] max2_int min2_int max_two min_two max_three min_three max_four min_four
def num_Size.l0 : Nat → Int → List Int → Int → Int → Option (Int × Int)
  | 0, _, _, _, _ => none
  | k + 1, x2, x9, x10, x11 => if x11 < x10 then (if 0 ≤ x11 then (if x11 < (x9.length : Int) then (if (rd x9 x11) < 1 then (some (0, 2)) else (if (rd x9 x11) > 8 then (some (0, 2)) else (num_Size.l0 k (wrap64 (x2 + (rd x9 x11))) x9 x10 (wrap64 (x11 + 1))))) else (none)) else (none)) else (some (x2, 0))
def num_Size.f (k : Nat) (l0 : List Int) : Option (Int × Int) := if (l0.length : Int) > 16 then (some (0, 2)) else (num_Size.l0 k 0 l0 (l0.length : Int) 0)
theorem num_Size.mono_l : ∀ k, (∀ y0 y1 y2 y3, LeO (num_Size.l0 k y0 y1 y2 y3) (num_Size.l0 (k + 1) y0 y1 y2 y3))
  | 0 => fun _ _ _ _ r h => by simp [num_Size.l0] at h
  | k + 1 => by
    have ih0 := num_Size.mono_l k
    · intro y0 y1 y2 y3
      unfold num_Size.l0
      repeat' first
      | (with_reducible exact ih0 _ _ _ _)
      | (with_reducible exact LeO.refl _)
      | (with_reducible exact LeO.none _)
      | (with_reducible refine LeO.ite ?_ ?_)
      | (with_reducible refine LeO.bind ?_ (fun _ => ?_))
      | exact ih0 _ _ _ _
      | exact LeO.none _
      | refine LeO.ite ?_ ?_
      | refine LeO.bind ?_ (fun _ => ?_)
theorem num_Size.mono : ∀ a0 k, LeO (num_Size.f k a0) (num_Size.f (k + 1) a0) := by
  intro a0 k
  have ih0 := num_Size.mono_l k
  unfold num_Size.f
  repeat' first
      | (with_reducible exact ih0 _ _ _ _)
      | (with_reducible exact LeO.refl _)
      | (with_reducible exact LeO.none _)
      | (with_reducible refine LeO.ite ?_ ?_)
      | (with_reducible refine LeO.bind ?_ (fun _ => ?_))
      | exact ih0 _ _ _ _
      | exact LeO.none _
      | refine LeO.ite ?_ ?_
      | refine LeO.bind ?_ (fun _ => ?_)
set_option maxHeartbeats 8000000 in
set_option maxRecDepth 100000 in
theorem num_Size.calls (k : Nat) (A0 : Option Addr) (c0 : Nat) (l0 : List Int) (r1 : Int) (r2 : Int) (w : World) (hr0 : Kd.C (Kd.int .i64) w A0 l0.length l0) (hc0 : l0.length ≤ c0) (h : num_Size.f k l0 = some (r1, r2)) :
    Calls Try.prog 98 #[.slice A0 l0.length c0] w fun e w' => e = .returned (.tuple #[.int .i64 r1, .int .i64 r2]) ∧ Drawn0 w w' := by
  have HR0 := Aside0.mk hr0
  have HC0 := Aside0.mk hc0
  clear hr0 hc0
  have H : (if (l0.length : Int) > 16 then (some (0, 2)) else (num_Size.l0 k 0 l0 (l0.length : Int) 0)) = some (r1, r2) := h
  clear h
  by_cases c2 : (l0.length : Int) > 16
  · rw [if_pos c2] at H
    have c2b0 : decide (16 < (l0.length : Int)) = true := decide_eq_true c2
    have c2b1 : decide (16 < l0.length) = true := decide_eq_true (by omega)
    clear c2
    simp only [Option.some.injEq, Prod.mk.injEq] at H
    obtain ⟨rfl, rfl⟩ := H
    go_enter Try.func98, Try.ntmps98
    go_wp2
    go_ret2
    exact ⟨by first | rfl | (simp; done) | (simp [*]; done), by repeat (first | exact Drawn0.refl _ | apply Drawn0.step)⟩
  · rw [if_neg c2] at H
    have c2b0 : decide (16 < (l0.length : Int)) = false := decide_eq_false c2
    have c2b1 : decide (16 < l0.length) = false := decide_eq_false (by omega)
    clear c2
    have H' := Aside0.mk H
    clear H
    go_enter Try.func98, Try.ntmps98
    go_wp2
    go_loopg [2, 11] k (fun kq v2 v11 w' => ∃ (x2_1 : Int) (x11_1 : Int), v2 = .int .i64 x2_1 ∧ v11 = .int .i64 x11_1 ∧ Aside0 (num_Size.l0 kq x2_1 l0 (l0.length : Int) x11_1 = some (r1, r2)) ∧ Aside0 (kq ≤ k) ∧ Drawn0 w w')
    case atStart => exact ⟨(0), (0), (by first | rfl | (simp; done) | (simp [*]; done)), (by first | rfl | (simp; done) | (simp [*]; done)), H', ⟨Nat.le_refl _⟩, by repeat (first | exact Drawn0.refl _ | apply Drawn0.step)⟩
    case round =>
      clear H'
      try clear c2
      try clear c2b0
      try clear c2b1
      try clear p2
      obtain ⟨x2_1, x11_1, rfl, rfl, HA, HK1, ⟨m1, rfl⟩⟩ := hrel
      cases gk with
      | zero => exact absurd HA.out (by simp [num_Size.l0])
      | succ k1 =>
        have H := HA.out
        clear HA
        simp only [num_Size.l0] at H
        by_cases c3 : x11_1 < (l0.length : Int)
        · rw [if_pos c3] at H
          have c3b0 : decide (x11_1 < (l0.length : Int)) = true := decide_eq_true c3
          clear c3
          by_cases c4 : 0 ≤ x11_1
          · rw [if_pos c4] at H
            have c4b0 : decide (0 ≤ x11_1) = true := decide_eq_true c4
            clear c4
            by_cases c5 : x11_1 < (l0.length : Int)
            · rw [if_pos c5] at H
              have c5b0 : decide (x11_1 < (l0.length : Int)) = true := decide_eq_true c5
              clear c5
              by_cases c6 : (rd l0 x11_1) < 1
              · rw [if_pos c6] at H
                have c6b0 : decide ((rd l0 x11_1) < 1) = true := decide_eq_true c6
                clear c6
                simp only [Option.some.injEq, Prod.mk.injEq] at H
                obtain ⟨rfl, rfl⟩ := H
                have p1000 : 0 ≤ (x11_1 : Int) := of_decide_eq_true (by first | (with_reducible assumption) | assumption)
                have q1000 : x11_1 < (l0.length : Int) := of_decide_eq_true (by first | (with_reducible assumption) | assumption)
                obtain ⟨ad1000, e1000, hx1000_0⟩ := Kd.at_int HR0.out x11_1 p1000 q1000
                cases e1000
                replace p1000 := eq_true p1000
                replace q1000 := eq_true q1000
                go_wp2
                go_ret2
                exact ⟨by first | rfl | (simp; done) | (simp [*]; done), by repeat (first | exact Drawn0.refl _ | apply Drawn0.step)⟩
              · rw [if_neg c6] at H
                have c6b0 : decide ((rd l0 x11_1) < 1) = false := decide_eq_false c6
                clear c6
                by_cases c7 : (rd l0 x11_1) > 8
                · rw [if_pos c7] at H
                  have c7b0 : decide (8 < (rd l0 x11_1)) = true := decide_eq_true c7
                  clear c7
                  simp only [Option.some.injEq, Prod.mk.injEq] at H
                  obtain ⟨rfl, rfl⟩ := H
                  have p1000 : 0 ≤ (x11_1 : Int) := of_decide_eq_true (by first | (with_reducible assumption) | assumption)
                  have q1000 : x11_1 < (l0.length : Int) := of_decide_eq_true (by first | (with_reducible assumption) | assumption)
                  obtain ⟨ad1000, e1000, hx1000_0⟩ := Kd.at_int HR0.out x11_1 p1000 q1000
                  cases e1000
                  replace p1000 := eq_true p1000
                  replace q1000 := eq_true q1000
                  go_wp2
                  go_ret2
                  exact ⟨by first | rfl | (simp; done) | (simp [*]; done), by repeat (first | exact Drawn0.refl _ | apply Drawn0.step)⟩
                · rw [if_neg c7] at H
                  have c7b0 : decide (8 < (rd l0 x11_1)) = false := decide_eq_false c7
                  clear c7
                  have H' := Aside0.mk H
                  clear H
                  have p1000 : 0 ≤ (x11_1 : Int) := of_decide_eq_true (by first | (with_reducible assumption) | assumption)
                  have q1000 : x11_1 < (l0.length : Int) := of_decide_eq_true (by first | (with_reducible assumption) | assumption)
                  obtain ⟨ad1000, e1000, hx1000_0⟩ := Kd.at_int HR0.out x11_1 p1000 q1000
                  cases e1000
                  replace p1000 := eq_true p1000
                  replace q1000 := eq_true q1000
                  go_wp2
                  go_roundg k1
                  case measure => have := HK1.out; omega
                  case rel => exact ⟨(wrap64 (x2_1 + (rd l0 x11_1))), (wrap64 (x11_1 + 1)), (by first | rfl | (simp; done) | (simp [*]; done)), (by first | rfl | (simp; done) | (simp [*]; done)), H', ⟨by have := HK1.out; omega⟩, by repeat (first | exact Drawn0.refl _ | apply Drawn0.step)⟩
            · rw [if_neg c5] at H
              exact absurd H (by simp)
          · rw [if_neg c4] at H
            exact absurd H (by simp)
        · rw [if_neg c3] at H
          have c3b0 : decide (x11_1 < (l0.length : Int)) = false := decide_eq_false c3
          clear c3
          simp only [Option.some.injEq, Prod.mk.injEq] at H
          obtain ⟨rfl, rfl⟩ := H
          go_wp2
          go_ret2
          exact ⟨by first | rfl | (simp; done) | (simp [*]; done), by repeat (first | exact Drawn0.refl _ | apply Drawn0.step)⟩
end Go.Proofs.Ytdkjhcdniepbhaa.P
end
