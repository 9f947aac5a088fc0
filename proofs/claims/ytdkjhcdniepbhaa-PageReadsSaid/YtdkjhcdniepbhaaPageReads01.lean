/- Part 1 of the proof: PageReads: for every config, disk and pair the program's marks of the pair, or its error, are the document's, the disk stays, and what is answered is new memory; no condition. -/
import Derived.Test.YtdkjhcdniepbhaaProg
import Derived.Laws.StructEq
import Derived.Test.YtdkjhcdniepbhaaPageReads00
section
set_option linter.unusedVariables false
set_option linter.unusedSimpArgs false
namespace Go.Proofs.Ytdkjhcdniepbhaa.P
open Go.RowKit Go.Proofs.PrintWords Go.Proofs.PrintLast Go.Proofs.PrintMore
attribute [local go_sem] max2_int min2_int max_two min_two max_three min_three max_four min_four
def errW : Option Int → Value
  | none => .nilIface
  | some c => .iface 0 (.int .i64 c)
theorem errW_none : errW none = .nilIface := rfl
theorem errW_some (c : Int) : errW (some c) = .iface 0 (.int .i64 c) := rfl
theorem info4 : (Try.prog.info? 4).map (fun i => (i.zero, i.size, i.bytes)) = some (some (.bool false), 1, 1) := by kernel_rfl
theorem info5 : (Try.prog.info? 5).map (fun i => (i.zero, i.size, i.bytes)) = some (some (.int .u8 0), 1, 1) := by kernel_rfl
theorem info39 : (Try.prog.info? 39).map (fun i => (i.zero, i.size, i.bytes)) = some (some (.agg #[(.slice none 0 0), (.bool false)]), 2, 32) := by kernel_rfl
theorem info49 : (Try.prog.info? 49).map (fun i => (i.zero, i.size, i.bytes)) = some (some (.agg #[(.int .i64 0), (.slice none 0 0)]), 2, 32) := by kernel_rfl
def rd_L2 (xs : List (List Int)) (i : Int) : (List Int) := xs.getD i.toNat ([] : List Int)
theorem at_L2 {w : World} {A : Option Addr} {n : Nat} {xs : List (List Int)} (h : Kd.C (Kd.slice 5 (Kd.int .u8)) w A n xs) (i : Int) (h0 : 0 ≤ i) (h1 : i < n) : ∃ ad A0 c0, A = some ad ∧ w.cell? (ad.add i.toNat) = some (.slice A0 (rd_L2 xs i).length c0) ∧ (rd_L2 xs i).length ≤ c0 ∧ (Kd.int .u8).C w A0 (rd_L2 xs i).length (rd_L2 xs i) := by
  obtain ⟨ad, c, e, _, hK, hc0⟩ := Kd.C_get h ([] : List Int) i h0 h1
  have hc : ∀ j u, c[j]? = some u → w.cell? (ad.add (i.toNat * 1 + j)) = some u := hc0
  obtain ⟨A0, c0, rfl, l0, g0⟩ := hK
  exact ⟨ad, A0, c0, e, by have hq := hc 0 _ rfl; rwa [Nat.mul_one, Nat.add_zero] at hq, l0, g0⟩
structure S39 where
  f0 : (List Int)
  f1 : Bool
def z39 : S39 := ⟨([] : List Int), false⟩
def k39 : Kd S39 := Kd.iso (Kd.pair (Kd.slice 5 (Kd.int .u8)) Kd.bool) (fun x : S39 => (x.f0, x.f1))
theorem k39_open {w : World} {x : S39} {cs : List Value} (h : k39.K w x cs) : ∃ A0 c0, cs = [.slice A0 x.f0.length c0, .bool x.f1] ∧ x.f0.length ≤ c0 ∧ (Kd.int .u8).C w A0 x.f0.length x.f0 := by
  obtain ⟨_, _, rfl, ⟨A0, c0, rfl, l0, g0⟩, rfl⟩ := h
  exact ⟨A0, c0, rfl, l0, g0⟩
theorem k39_mk (w : World) (x : S39) {A0 : Option Addr} {c0 : Nat} (l0 : x.f0.length ≤ c0) (g0 : (Kd.int .u8).C w A0 x.f0.length x.f0) : k39.K w x [.slice A0 x.f0.length c0, .bool x.f1] := ⟨[.slice A0 x.f0.length c0], [.bool x.f1], rfl, ⟨A0, c0, rfl, l0, g0⟩, rfl⟩
theorem k39_mkM (w : World) (base : Nat) (ok : Nat → Prop) (x : S39) {v0 : Value} (g0 : (Kd.int .u8).R 5 w base ok v0 x.f0) : k39.M w base ok x [v0, .bool x.f1] := ⟨[v0], [.bool x.f1], rfl, ⟨v0, rfl, g0⟩, rfl⟩
def rd_T39 (xs : List S39) (i : Int) : S39 := xs.getD i.toNat z39
theorem at_T39 {w : World} {A : Option Addr} {n : Nat} {xs : List S39} (h : Kd.C k39 w A n xs) (i : Int) (h0 : 0 ≤ i) (h1 : i < n) : ∃ ad A0 c0, A = some ad ∧ w.cell? (ad.add (i.toNat * 2)) = some (.slice A0 (rd_T39 xs i).f0.length c0) ∧ w.cell? ⟨(ad.add (i.toNat * 2)).block, (ad.add (i.toNat * 2)).off + 1, none⟩ = some (.bool (rd_T39 xs i).f1) ∧ (rd_T39 xs i).f0.length ≤ c0 ∧ (Kd.int .u8).C w A0 (rd_T39 xs i).f0.length (rd_T39 xs i).f0 := by
  obtain ⟨ad, c, e, _, hK, hc0⟩ := Kd.C_get h z39 i h0 h1
  have hc : ∀ j u, c[j]? = some u → w.cell? (ad.add (i.toNat * 2 + j)) = some u := hc0
  obtain ⟨A0, c0, rfl, l0, g0⟩ := k39_open hK
  exact ⟨ad, A0, c0, e, hc 0 _ rfl, by rw [← add_field _ _ 1 (by omega)]; exact hc 1 _ rfl, l0, g0⟩
structure S49 where
  f0 : Int
  f1 : (List Int)
def z49 : S49 := ⟨(0 : Int), ([] : List Int)⟩
def k49 : Kd S49 := Kd.iso (Kd.pair (Kd.int .i64) (Kd.slice 5 (Kd.int .u8))) (fun x : S49 => (x.f0, x.f1))
theorem k49_open {w : World} {x : S49} {cs : List Value} (h : k49.K w x cs) : ∃ A1 c1, cs = [.int .i64 x.f0, .slice A1 x.f1.length c1] ∧ x.f1.length ≤ c1 ∧ (Kd.int .u8).C w A1 x.f1.length x.f1 := by
  obtain ⟨_, _, rfl, rfl, ⟨A1, c1, rfl, l1, g1⟩⟩ := h
  exact ⟨A1, c1, rfl, l1, g1⟩
theorem k49_mk (w : World) (x : S49) {A1 : Option Addr} {c1 : Nat} (l1 : x.f1.length ≤ c1) (g1 : (Kd.int .u8).C w A1 x.f1.length x.f1) : k49.K w x [.int .i64 x.f0, .slice A1 x.f1.length c1] := ⟨[.int .i64 x.f0], [.slice A1 x.f1.length c1], rfl, rfl, ⟨A1, c1, rfl, l1, g1⟩⟩
theorem k49_mkM (w : World) (base : Nat) (ok : Nat → Prop) (x : S49) {v1 : Value} (g1 : (Kd.int .u8).R 5 w base ok v1 x.f1) : k49.M w base ok x [.int .i64 x.f0, v1] := ⟨[.int .i64 x.f0], [v1], rfl, rfl, ⟨v1, rfl, g1⟩⟩
def rd_T49 (xs : List S49) (i : Int) : S49 := xs.getD i.toNat z49
theorem at_T49 {w : World} {A : Option Addr} {n : Nat} {xs : List S49} (h : Kd.C k49 w A n xs) (i : Int) (h0 : 0 ≤ i) (h1 : i < n) : ∃ ad A1 c1, A = some ad ∧ w.cell? (ad.add (i.toNat * 2)) = some (.int .i64 (rd_T49 xs i).f0) ∧ w.cell? ⟨(ad.add (i.toNat * 2)).block, (ad.add (i.toNat * 2)).off + 1, none⟩ = some (.slice A1 (rd_T49 xs i).f1.length c1) ∧ (rd_T49 xs i).f1.length ≤ c1 ∧ (Kd.int .u8).C w A1 (rd_T49 xs i).f1.length (rd_T49 xs i).f1 := by
  obtain ⟨ad, c, e, _, hK, hc0⟩ := Kd.C_get h z49 i h0 h1
  have hc : ∀ j u, c[j]? = some u → w.cell? (ad.add (i.toNat * 2 + j)) = some u := hc0
  obtain ⟨A1, c1, rfl, l1, g1⟩ := k49_open hK
  exact ⟨ad, A1, c1, e, hc 0 _ rfl, by rw [← add_field _ _ 1 (by omega)]; exact hc 1 _ rfl, l1, g1⟩
end Go.Proofs.Ytdkjhcdniepbhaa.P
end
section
set_option linter.unusedVariables false
set_option linter.unusedSimpArgs false
namespace Go.Proofs.Ytdkjhcdniepbhaa.P
open Go.RowKit Go.Proofs.PrintWords Go.Proofs.PrintLast Go.Proofs.PrintMore
attribute [local go_sem] max2_int min2_int max_two min_two max_three min_three max_four min_four
structure Btw (lo hi : Nat) (w w' : World) : Prop where
  os : w'.os = w.os
  tape : w'.tape = w.tape
  output : w'.output = w.output
  size : w.heap.size ≤ w'.heap.size
  block : ∀ k, k < w.heap.size → (k < lo ∨ hi ≤ k) → w'.heap[k]? = w.heap[k]?
theorem Btw.refl (lo hi : Nat) (w : World) : Btw lo hi w w := ⟨rfl, rfl, rfl, Nat.le_refl _, fun _ _ _ => rfl⟩
theorem Btw.trans {lo hi : Nat} {a b c : World} (h : Btw lo hi a b) (k : Btw lo hi b c) : Btw lo hi a c :=
  ⟨k.os.trans h.os, k.tape.trans h.tape, k.output.trans h.output, Nat.le_trans h.size k.size, fun i hi ho => (k.block i (Nat.lt_of_lt_of_le hi h.size) ho).trans (h.block i hi ho)⟩
theorem Btw.alloc {lo hi : Nat} {a w : World} (h : Btw lo hi a w) (o : Obj) : Btw lo hi a (w.alloc o) :=
  h.trans ⟨rfl, rfl, rfl, by simp, fun k hk _ => Below.heap_alloc _ _ _ hk⟩
theorem Btw.drew {lo hi : Nat} {a w : World} (h : Btw lo hi a w) : Btw lo hi a w.drew := ⟨h.os, h.tape, h.output, h.size, h.block⟩
theorem Btw.set {lo hi : Nat} {a w : World} (h : Btw lo hi a w) {p : Addr} (h1 : lo ≤ p.block) (h2 : p.block < hi) (u : Value) : Btw lo hi a (w.setCell p u) :=
  h.trans ⟨rfl, rfl, rfl, by simp [World.setCell], fun k hk ho => Below.heap_setCell _ _ _ _ (by omega)⟩
theorem Btw.below {lo hi : Nat} {a w : World} (h : Btw lo hi a w) (hl : lo ≤ a.heap.size) : Below lo a w := ⟨h.os, h.tape, h.output, h.size, fun k hk => h.block k (by omega) (.inl hk)⟩
def ByteRow (w : World) (lo hi : Nat) (A : Option Addr) (n : Nat) : Prop :=
  n ≤ 9223372036854775807 ∧ (0 < n → ∃ g cs, A = some ⟨g, 0, none⟩ ∧ lo ≤ g ∧ g < hi ∧ w.heap[g]? = some (.cells cs 5 (0, 0)) ∧ ∀ i, i < n → ∃ x, cs[i]? = some (.int .u8 x))
theorem ByteRow.set {w : World} {lo hi : Nat} {A : Option Addr} {n : Nat} (h : ByteRow w lo hi A n) {g i : Nat} {cs : Array Value} (hb : w.heap[g]? = some (.cells cs 5 (0, 0))) (x : Int) : ByteRow (w.setCell ⟨g, i, none⟩ (.int .u8 x)) lo hi A n := by
  refine ⟨h.1, fun hn => ?_⟩
  obtain ⟨g', cs', rfl, h1, h2, h3, h4⟩ := h.2 hn
  by_cases hg : g' = g
  · subst hg
    rw [hb] at h3
    injection h3 with h3
    injection h3 with h3 _ _
    subst h3
    refine ⟨g', _, rfl, h1, h2, blk_set hb i _, fun j hj => ?_⟩
    obtain ⟨y, hy⟩ := h4 j hj
    rw [Array.getElem?_setIfInBounds]
    split
    · rename_i e
      subst e
      rw [if_pos (Array.getElem?_eq_some_iff.1 hy).1]
      exact ⟨x, rfl⟩
    · exact ⟨y, hy⟩
  · exact ⟨g', cs', rfl, h1, h2, blk_far h3 hg _, h4⟩
theorem ByteRow.mono {w : World} {lo hi lo' hi' : Nat} {A : Option Addr} {n : Nat} (h : ByteRow w lo hi A n) (h1 : lo' ≤ lo) (h2 : hi ≤ hi') : ByteRow w lo' hi' A n :=
  ⟨h.1, fun hn => by obtain ⟨g, cs, e, a, b, c, d⟩ := h.2 hn; exact ⟨g, cs, e, by omega, by omega, c, d⟩⟩
def SecRow (w : World) (lo hi : Nat) (A : Option Addr) (n : Nat) : Prop :=
  n ≤ 9223372036854775807 ∧ (0 < n → ∃ g cs, A = some ⟨g, 0, none⟩ ∧ lo ≤ g ∧ g < hi ∧ w.heap[g]? = some (.cells cs 39 (0, 0)) ∧ ∀ i, i < n → ∃ A' m c b, cs[i * 2]? = some (.slice A' m c) ∧ cs[i * 2 + 1]? = some (.bool b) ∧ ByteRow w lo hi A' m)
def PendRow (w : World) (lo hi : Nat) (A : Option Addr) (n : Nat) : Prop :=
  n ≤ 9223372036854775807 ∧ (0 < n → ∃ g cs, A = some ⟨g, 0, none⟩ ∧ lo ≤ g ∧ g < hi ∧ w.heap[g]? = some (.cells cs 49 (0, 0)) ∧ ∀ i, i < n → ∃ x A' m c, cs[i * 2]? = some (.int .i64 x) ∧ cs[i * 2 + 1]? = some (.slice A' m c) ∧ ByteRow w lo hi A' m)
section
variable {w w' : World} {lo hi : Nat} {A : Option Addr} {n : Nat}
theorem SecRow.set (h : SecRow w lo hi A n) {g i : Nat} {cs : Array Value} (hb : w.heap[g]? = some (.cells cs 5 (0, 0))) (x : Int) : SecRow (w.setCell ⟨g, i, none⟩ (.int .u8 x)) lo hi A n := by
  refine ⟨h.1, fun hn => ?_⟩
  obtain ⟨g', cs', e, h1, h2, h3, h4⟩ := h.2 hn
  refine ⟨g', cs', e, h1, h2, blk_far h3 (fun e => by subst e; rw [hb] at h3; injection h3 with h3; injection h3 with _ h3 _; cases h3) _, fun j hj => ?_⟩
  obtain ⟨A', m, c, b, c0, c1, hr⟩ := h4 j hj
  exact ⟨A', m, c, b, c0, c1, hr.set hb x⟩
theorem PendRow.set (h : PendRow w lo hi A n) {g i : Nat} {cs : Array Value} (hb : w.heap[g]? = some (.cells cs 5 (0, 0))) (x : Int) : PendRow (w.setCell ⟨g, i, none⟩ (.int .u8 x)) lo hi A n := by
  refine ⟨h.1, fun hn => ?_⟩
  obtain ⟨g', cs', e, h1, h2, h3, h4⟩ := h.2 hn
  refine ⟨g', cs', e, h1, h2, blk_far h3 (fun e => by subst e; rw [hb] at h3; injection h3 with h3; injection h3 with _ h3 _; cases h3) _, fun j hj => ?_⟩
  obtain ⟨x', A', m, c, c0, c1, hr⟩ := h4 j hj
  exact ⟨x', A', m, c, c0, c1, hr.set hb x⟩
end
end Go.Proofs.Ytdkjhcdniepbhaa.P
end
section
set_option linter.unusedVariables false
set_option linter.unusedSimpArgs false
namespace Go.Proofs.Ytdkjhcdniepbhaa.P
open Go.RowKit Go.Proofs.PrintWords Go.Proofs.PrintLast Go.Proofs.PrintMore
attribute [local go_sem] max2_int min2_int max_two min_two max_three min_three max_four min_four
def okLen (b : List Int) : Bool := decide (b.length = 32)
def hSized.f (l0 : List (List Int)) : Option Bool := some (l0.all okLen)
def ixLen : List (List Int) → Int → Int
  | [], _ => -1
  | b :: l, i => if b.length = 32 then ixLen l (i + 1) else i
theorem ixLen_all (l : List (List Int)) : ∀ i : Int, 0 ≤ i → ((ixLen l i ≥ 0) ↔ l.all okLen = false) := by
  induction l with
  | nil => intro i _; simp [ixLen]
  | cons b l ih =>
    intro i hi
    unfold ixLen
    by_cases hb : b.length = 32
    · rw [if_pos hb, ih (i + 1) (by omega)]
      simp [okLen, hb]
    · rw [if_neg hb]
      simp [okLen, hb, hi]
theorem ixLen_at (l : List (List Int)) (k : Nat) (hk : k < l.length) (i : Int) : ixLen (l.drop k) i = if (rd_L2 l k).length = 32 then ixLen (l.drop (k + 1)) (i + 1) else i := by
  rw [List.drop_eq_getElem_cons hk, ixLen]
  have : rd_L2 l (k : Int) = l[k] := by
    unfold rd_L2
    simp [List.getD_eq_getElem?_getD, List.getElem?_eq_getElem hk]
  rw [this]
set_option maxHeartbeats 1000000 in
theorem hSized.ix (A0 : Option Addr) (c0 : Nat) (l0 : List (List Int)) (w : World) (hr0 : Kd.C (Kd.slice 5 (Kd.int .u8)) w A0 l0.length l0) :
    Calls Try.prog 127 #[.slice A0 l0.length c0, .func (.func 95) #[] #[]] w fun e w' => e = .returned (.int .i64 (ixLen l0 0)) ∧ w' = w := by
  have hm : l0.length ≤ 9223372036854775807 := hr0.2.1
  have HR := Aside0.mk hr0
  clear hr0
  go_enter Try.func127, Try.ntmps127
  go_wp2_with fail
  go_loop [8] (fun i => ∃ k : Nat, k ≤ l0.length ∧ i = .int .i64 k ∧ Aside0 (ixLen l0 0 = ixLen (l0.drop k) k)) (fun i => l0.length - (intOf i).toNat)
  case atStart => exact ⟨0, Nat.zero_le _, rfl, ⟨rfl⟩⟩
  case round =>
    obtain ⟨k, hk, rfl, HX⟩ := hrel
    by_cases hlt : k < l0.length
    · obtain ⟨ad, A1, c1, rfl, hcell, hc1, hin⟩ := at_L2 HR.out (k : Int) (by omega) (by omega)
      have HIN := Aside0.mk hin
      clear hin
      simp only [Int.toNat_natCast] at hcell
      by_cases hL : (rd_L2 l0 (k : Int)).length = 32
      · have hb : (((rd_L2 l0 (k : Int)).length : Int) != 32) = false := by simp [hL]
        have HL := Aside0.mk hL
        clear hL
        go_wp2
        go_round
        case rel => exact ⟨k + 1, by omega, by go_num, ⟨by rw [HX.out, ixLen_at l0 k hlt, if_pos HL.out]; rfl⟩⟩
        case measure => simp [intOf]; omega
      · have hb : (((rd_L2 l0 (k : Int)).length : Int) != 32) = true := by simp; omega
        have hb' : (((rd_L2 l0 (k : Int)).length : Int) == 32) = false := by simp; omega
        have HL := Aside0.mk hL
        clear hL
        go_wp2
        go_ret
        refine ⟨?_, rfl⟩
        rw [HX.out, ixLen_at l0 k hlt, if_neg HL.out]
        rfl
    · go_wp2
      go_ret
      refine ⟨?_, rfl⟩
      rw [HX.out, List.drop_of_length_le (by omega)]
      rfl
set_option maxHeartbeats 1000000 in
theorem hSized.calls (A0 : Option Addr) (c0 : Nat) (l0 : List (List Int)) (r : Bool) (w : World) (hr0 : Kd.C (Kd.slice 5 (Kd.int .u8)) w A0 l0.length l0) (hc0 : l0.length ≤ c0) (h : hSized.f l0 = some r) :
    Calls Try.prog 60 #[.slice A0 l0.length c0] w fun e w' => e = .returned (.bool r) ∧ Below w.heap.size w w' := by
  have hx := ixLen_all l0 0 (by omega)
  unfold hSized.f at h
  injection h with h
  subst h
  have HR := Aside0.mk hr0
  clear hr0 hc0
  have HX : Aside0 ((!decide (ixLen l0 0 ≥ 0)) = l0.all okLen) := ⟨by
    cases hall : l0.all okLen with
    | true => rw [hall] at hx; rw [decide_eq_false (fun hh => absurd (hx.1 hh) (by simp))]; rfl
    | false => rw [decide_eq_true (hx.2 hall)]; rfl⟩
  clear hx
  go_enter Try.func60, Try.ntmps60
  go_wp2_with (first
    | (go_at_call 127; refine (hSized.ix _ _ l0 _ HR.out).mono ?_; rintro e w' ⟨rfl, rfl⟩)
    | (go_at_call 94; go_in))
  go_ret
  exact ⟨by rw [← HX.out]; rfl, Below.refl _ _⟩
theorem hSized.one (a : Addr) (A1 : Option Addr) (c1 : Nat) (b : List Int) (w : World) (hcell : w.cell? a = some (.slice A1 b.length c1)) (hc : b.length ≤ c1) (hin : (Kd.int .u8).C w A1 b.length b) :
    Calls Try.prog 60 #[.slice (some a) 1 1] w fun e w' => e = .returned (.bool (okLen b)) ∧ Below w.heap.size w w' := by
  refine hSized.calls (some a) 1 [b] (okLen b) w ⟨rfl, by simp, fun _ => ⟨a, rfl, fun j p hj => ?_⟩⟩ (by simp) (by simp [hSized.f])
  have h0 : j = 0 := by
    have := (List.getElem?_eq_some_iff.1 hj).1
    simp at this
    exact this
  subst h0
  simp at hj
  subst hj
  refine ⟨[.slice A1 b.length c1], rfl, ⟨A1, c1, rfl, hc, hin⟩, fun i u hu => ?_⟩
  have h0 : i = 0 := by
    have := (List.getElem?_eq_some_iff.1 hu).1
    simp at this
    exact this
  subst h0
  simp at hu
  subst hu
  simpa [Addr.add] using hcell
theorem hSized.one_is (v : Bool) (a : Addr) (A1 : Option Addr) (c1 : Nat) (b : List Int) (w : World) (hv : okLen b = v) (hcell : w.cell? a = some (.slice A1 b.length c1)) (hc : b.length ≤ c1) (hin : (Kd.int .u8).C w A1 b.length b) :
    Calls Try.prog 60 #[.slice (some a) 1 1] w fun e w' => e = .returned (.bool v) ∧ Below w.heap.size w w' := by
  subst hv
  exact hSized.one a A1 c1 b w hcell hc hin
end Go.Proofs.Ytdkjhcdniepbhaa.P
end
section
set_option linter.unusedVariables false
set_option linter.unusedSimpArgs false
namespace Go.Proofs.Ytdkjhcdniepbhaa.P
open Go.RowKit Go.Proofs.PrintWords Go.Proofs.PrintLast Go.Proofs.PrintMore
attribute [local go_sem] max2_int min2_int max_two min_two max_three min_three max_four min_four
theorem all_take_snoc {α : Type} (p : α → Bool) (l : List α) (k : Nat) (hk : k < l.length) (d : α) : (l.take (k + 1)).all p = ((l.take k).all p && p (l.getD k d)) := by
  rw [List.take_succ_eq_append_getElem hk, List.all_append]
  simp [List.getD_eq_getElem?_getD, List.getElem?_eq_getElem hk]
theorem all_false_at {α : Type} (p : α → Bool) (l : List α) (k : Nat) (hk : k < l.length) (d : α) (h : p (l.getD k d) = false) : l.all p = false := by
  rw [List.all_eq_false]
  refine ⟨l[k], List.getElem_mem hk, ?_⟩
  simp [List.getD_eq_getElem?_getD, List.getElem?_eq_getElem hk] at h
  simp [h]
theorem ym_undef : yielded.match_1 (fun _ => Option Bool) (some undef) (fun b => some b) (fun _ => none) = none := rfl
theorem add_block_ (a : Addr) (n : Nat) : (a.add n).block = a.block := by unfold Addr.add; split <;> rfl
theorem heap_alloc_at (w : World) (o o' : Obj) (n : Nat) (hn : n = w.heap.size + 1) : ((w.alloc o).alloc o').heap[n]? = some o' := by
  subst hn
  have := heap_alloc_new (w.alloc o) o'
  rwa [World.size_alloc] at this
end Go.Proofs.Ytdkjhcdniepbhaa.P
end
section
set_option linter.unusedVariables false
set_option linter.unusedSimpArgs false
namespace Go.Proofs.Ytdkjhcdniepbhaa.P
open Go.RowKit Go.Proofs.PrintWords Go.Proofs.PrintLast Go.Proofs.PrintMore
attribute [local go_sem] max2_int min2_int max_two min_two max_three min_three max_four min_four
def bytes_Equal.f (l0 : List Int) (l1 : List Int) : Option (Bool) := some ((strOfNums l0).toList == (strOfNums l1).toList)
set_option maxHeartbeats 8000000 in
set_option maxRecDepth 100000 in
theorem bytes_Equal.calls (A0 : Option Addr) (c0 : Nat) (l0 : List Int) (A1 : Option Addr) (c1 : Nat) (l1 : List Int) (r : Bool) (w : World) (hr0 : Kd.C (Kd.int .u8) w A0 l0.length l0) (hc0 : l0.length ≤ c0) (hr1 : Kd.C (Kd.int .u8) w A1 l1.length l1) (hc1 : l1.length ≤ c1) (h : bytes_Equal.f l0 l1 = some r) :
    Calls Try.prog 62 #[.slice A0 l0.length c0, .slice A1 l1.length c1] w fun e w' => e = .returned (.bool r) ∧ Drawn0 w w' := by
  have HR0 := Aside0.mk hr0
  have HC0 := Aside0.mk hc0
  clear hr0 hc0
  have HR1 := Aside0.mk hr1
  have HC1 := Aside0.mk hc1
  clear hr1 hc1
  have H : (some ((strOfNums l0).toList == (strOfNums l1).toList)) = some r := h
  clear h
  obtain rfl := Option.some.inj H
  have hcv3 := Kd.C_string (P := Try.prog) (A := A0) (c := c0) Try.underlying31 Try.underlying5 Try.underlying9 HR0.out
  have hcv4 := Kd.C_string (P := Try.prog) (A := A1) (c := c1) Try.underlying31 Try.underlying5 Try.underlying9 HR1.out
  go_enter Try.func62, Try.ntmps62
  go_wp2
  go_ret
  exact ⟨by first | rfl | (simp; done) | (simp [*]; done), by repeat (first | exact Drawn0.refl _ | apply Drawn0.step)⟩
end Go.Proofs.Ytdkjhcdniepbhaa.P
end
section
set_option linter.unusedVariables false
set_option linter.unusedSimpArgs false
namespace Go.Proofs.Ytdkjhcdniepbhaa.P
open Go.RowKit Go.Proofs.PrintWords Go.Proofs.PrintLast Go.Proofs.PrintMore
attribute [local go_sem] max2_int min2_int max_two min_two max_three min_three max_four min_four
def disk_none.f  : Option (List Int) := if 32 ≤ 281474976710656 then (some (List.replicate 32 0)) else (none)
set_option maxHeartbeats 8000000 in
set_option maxRecDepth 100000 in
theorem disk_none.calls  (r : List Int) (w : World) (h : disk_none.f  = some r) :
    Calls Try.prog 63 #[] w fun e w' => ∃ v0_ : Value, e = .returned (v0_) ∧ Kd.R (Kd.int .u8) 5 w' w.heap.size (fun _ => True) v0_ r ∧ Below w.heap.size w w' := by
  have HB := Aside0.mk (Below.refl w.heap.size w)
  have H : (if 32 ≤ 281474976710656 then (some (List.replicate 32 0)) else (none)) = some r := h
  clear h
  by_cases c1 : 32 ≤ 281474976710656
  · rw [if_pos c1] at H
    have c1b0 := eq_true c1
    have c1b1 : decide (32 ≤ 281474976710656) = true := decide_eq_true c1
    clear c1
    obtain ⟨y1000, hy1000⟩ : ∃ y_ : List Int, y_ = (List.replicate 32 0) := ⟨_, rfl⟩
    replace H : (some y1000) = some r := by first | (rw [hy1000]; with_reducible exact H) | (have H2_ := (Option.bind_some _ _).symm.trans H; rw [hy1000]; with_reducible exact H2_) | (have H2_ := (Option.bind_some _ _).symm.trans H; with_reducible exact H2_) | with_reducible exact H | (rw [hy1000]; exact H) | exact H
    have Ny1000 := Aside0.mk hy1000
    clear hy1000
    obtain rfl := Option.some.inj H
    go_enter Try.func63, Try.ntmps63
    go_wp2_with (first | ((with_reducible refine gate_dst (N := 1) rfl ?_); refine Kd.R_make (Kd.int .u8) _ 5 rfl (N := 1) rfl 31 _ _ rfl 32 rfl rfl Try.underlying31 (.int .u8 0) 1 info5 rfl (by decide) (by omega) 0 (ok := fun _ => True) (okp := fun _ => True) rfl (fun _ hk => hk) trivial (by omega) (by omega) (Below.refl _ _) (Nat.le_refl _) ?_; intro v1001 w2 ho3 hb hg_ hnew_; clear hg_ hnew_; (first | rw [← Ny1000.out] at ho3 | (simp only [Int.reduceToNat] at ho3; rw [← Ny1000.out] at ho3)); have n0_ := Aside0.mk (Kd.R_lower ho3 (below_size (by repeat (first | (with_reducible first | exact HB.out | apply below_alloc | apply pbdN | apply bdr1) | exact HB.out)))); have n1_ := Aside0.mk (below_step (by repeat (first | (with_reducible first | exact HB.out | apply below_alloc | apply pbdN | apply bdr1) | exact HB.out)) hb); clear HB; have HO1002 := n0_; have HB := n1_; clear n0_ n1_; clear hb ho3))
    go_ret
    exact ⟨_, by first | rfl | (simp [errW_none, errW_some] <;> rfl) | (simp [*, errW_none, errW_some] <;> rfl), by (with_reducible repeat (first | apply Kd.R_alloc | apply Kd.R_drewN | apply Kd.R_drew)); exact HO1002.out, by repeat (first | (with_reducible first | exact HB.out | apply below_alloc | apply pbdN | apply bdr1) | exact HB.out)⟩
  · rw [if_neg c1] at H
    exact absurd H (by simp)
end Go.Proofs.Ytdkjhcdniepbhaa.P
end
section
set_option linter.unusedVariables false
set_option linter.unusedSimpArgs false
namespace Go.Proofs.Ytdkjhcdniepbhaa.P
open Go.RowKit Go.Proofs.PrintWords Go.Proofs.PrintLast Go.Proofs.PrintMore
attribute [local go_sem] max2_int min2_int max_two min_two max_three min_three max_four min_four
def zero32 : List Int := List.replicate 32 0
def okSec (s : S39) : Bool := okLen s.f0 && (!s.f1 || ((strOfNums s.f0).toList == (strOfNums zero32).toList))
def okPend (n : Int) (p : S49) : Bool := decide (0 ≤ p.f0) && decide (p.f0 < n) && okLen p.f1
def okDisk (l0 : List S39) (l1 : List S49) : Bool := decide (1 ≤ l0.length) && decide (l0.length ≤ 1024) && decide (l1.length ≤ 64) && l0.all okSec && l1.all (okPend l0.length)
def hCheck.f (l0_0 : List S39) (l0_1 : List S49) : Option Int := some (if okDisk l0_0 l0_1 = true then 0 else 8)
attribute [local go_sem] ym_undef
set_option maxHeartbeats 8000000 in
set_option maxRecDepth 100000 in
theorem hCheck.calls (A0_0 : Option Addr) (c0_0 : Nat) (l0_0 : List S39) (A0_1 : Option Addr) (c0_1 : Nat) (l0_1 : List S49) (r : Int) (w : World) (hr0_0 : Kd.C k39 w A0_0 l0_0.length l0_0) (hc0_0 : l0_0.length ≤ c0_0) (hr0_1 : Kd.C k49 w A0_1 l0_1.length l0_1) (hc0_1 : l0_1.length ≤ c0_1) (h : hCheck.f l0_0 l0_1 = some r) :
    Calls Try.prog 23 #[.agg #[.slice A0_0 l0_0.length c0_0, .slice A0_1 l0_1.length c0_1]] w fun e w' => e = .returned (.int .i64 r) ∧ Below w.heap.size w w' := by
  have hu25 := Try.underlying25
  have hm0 : l0_0.length ≤ 9223372036854775807 := hr0_0.2.1
  have hm1 : l0_1.length ≤ 9223372036854775807 := hr0_1.2.1
  have HR0 := Aside0.mk hr0_0
  have HR1 := Aside0.mk hr0_1
  clear hr0_0 hr0_1 hc0_0 hc0_1
  have H : Aside0 ((if okDisk l0_0 l0_1 = true then 0 else 8) = r) := ⟨by unfold hCheck.f at h; injection h⟩
  clear h
  by_cases h1 : l0_0.length < 1
  · have hb : decide ((l0_0.length : Int) < 1) = true := decide_eq_true (by omega)
    obtain rfl : r = 8 := by
      rw [← H.out, if_neg]
      unfold okDisk
      simp
      omega
    clear H
    go_enter Try.func23, Try.ntmps23
    go_wp2
    go_ret
    exact ⟨rfl, (Below.refl _ _).alloc (Nat.le_refl _) _⟩
  by_cases h2 : 1024 < l0_0.length
  · have hb : decide ((l0_0.length : Int) < 1) = false := decide_eq_false (by omega)
    have hb2 : decide ((l0_0.length : Int) > 1024) = true := decide_eq_true (by omega)
    obtain rfl : r = 8 := by
      rw [← H.out, if_neg]
      unfold okDisk
      simp
      omega
    clear H
    go_enter Try.func23, Try.ntmps23
    go_wp2
    go_ret
    exact ⟨rfl, (Below.refl _ _).alloc (Nat.le_refl _) _⟩
  by_cases h3 : 64 < l0_1.length
  · have hb : decide ((l0_0.length : Int) < 1) = false := decide_eq_false (by omega)
    have hb2 : decide ((l0_0.length : Int) > 1024) = false := decide_eq_false (by omega)
    have hb3 : decide ((l0_1.length : Int) > 64) = true := decide_eq_true (by omega)
    obtain rfl : r = 8 := by
      rw [← H.out, if_neg]
      unfold okDisk
      simp
      omega
    clear H
    go_enter Try.func23, Try.ntmps23
    go_wp2
    go_ret
    exact ⟨rfl, (Below.refl _ _).alloc (Nat.le_refl _) _⟩
  have hb : decide ((l0_0.length : Int) < 1) = false := decide_eq_false (by omega)
  have hb2 : decide ((l0_0.length : Int) > 1024) = false := decide_eq_false (by omega)
  have hb3 : decide ((l0_1.length : Int) > 64) = false := decide_eq_false (by omega)
  go_enter Try.func23, Try.ntmps23
  go_wp2_with fail
  go_loopw [26] (fun i wr => ∃ k : Nat, k ≤ l0_0.length ∧ i = .int .i64 k ∧ Aside0 ((l0_0.take k).all okSec = true) ∧ Aside0 (wr.heap[w.heap.size]? = some (.cells #[.slice A0_0 l0_0.length c0_0, .slice A0_1 l0_1.length c0_1] 25 (0, 0))) ∧ Aside0 (Below w.heap.size w wr)) (fun i _ => l0_0.length - (intOf i).toNat)
  case atStart => exact ⟨0, Nat.zero_le _, rfl, ⟨by simp⟩, ⟨heap_alloc_new w _⟩, ⟨(Below.refl _ _).alloc (Nat.le_refl _) _⟩⟩
  case round =>
    obtain ⟨k, hk, rfl, HP, HBK, HB⟩ := hrel
    by_cases hlt : k < l0_0.length
    · obtain ⟨ad, A1, c1, rfl, hx0, hx1, hl1, hi1⟩ := at_T39 HR0.out (k : Int) (by omega) (by omega)
      replace hx0 := (HB.out.cell (World.block_lt_of_cell? w _ hx0)).trans hx0
      replace hx1 := (HB.out.cell (World.block_lt_of_cell? w _ hx1)).trans hx1
      simp only [Int.toNat_natCast] at hx0 hx1
      have HI := Aside0.mk hi1
      have HL1 := Aside0.mk hl1
      clear hi1 hl1
      have HBa := Aside0.mk (below_drew (below_alloc (below_alloc HB.out (.cells #[.slice A1 (rd_T39 l0_0 (k : Int)).f0.length c1, .bool (rd_T39 l0_0 (k : Int)).f1] 39)) (.cells #[.slice A1 (rd_T39 l0_0 (k : Int)).f0.length c1] 31)))
      have hlt0 : w.heap.size < wr.heap.size := blk_lt HBK.out
      cases hok : okLen (rd_T39 l0_0 (k : Int)).f0 with
      | false =>
        obtain rfl : r = 8 := by
          rw [← H.out, if_neg]
          have := all_false_at okSec l0_0 k hlt z39 (by show okSec (rd_T39 l0_0 (k : Int)) = false; simp [okSec, hok])
          simp [okDisk, this]
        have HOK := Aside0.mk hok
        clear H hok
        go_wp2_with fail
        first | go_region_with (go_at_call 60; refine (hSized.one_is false _ A1 c1 (rd_T39 l0_0 (k : Int)).f0 _ HOK.out (by simp) HL1.out (Kd.C_below HI.out HBa.out)).mono ?_; rintro e w1 ⟨rfl, hb1⟩; have HB1 := Aside0.mk (below_then HBa.out (below_size HBa.out) hb1); clear hb1) | fail "region"
        all_goals
          go_wp2
          go_ret
          exact ⟨rfl, HB1.out⟩
      | true =>
        have HOK := Aside0.mk hok
        clear hok
        cases hbad : (rd_T39 l0_0 (k : Int)).f1 with
        | false =>
          have hsec : okSec (rd_T39 l0_0 (k : Int)) = true := by simp [okSec, HOK.out, hbad]
          have HS := Aside0.mk hsec
          clear hsec
          rw [hbad] at hx1 HBa
          have HBD := Aside0.mk hbad
          clear hbad
          go_wp2_with fail
          first | go_region_with (go_at_call 60; refine (hSized.one_is true _ A1 c1 (rd_T39 l0_0 (k : Int)).f0 _ HOK.out (by simp) HL1.out (Kd.C_below HI.out HBa.out)).mono ?_; rintro e w1 ⟨rfl, hb1⟩; have HB1 := Aside0.mk (below_then HBa.out (below_size HBa.out) hb1); have HBK1 := Aside0.mk ((hb1.block w.heap.size (by simp; omega)).trans (blk_alloc (blk_alloc HBK.out (.cells #[.slice A1 (rd_T39 l0_0 (k : Int)).f0.length c1, .bool false] 39)) (.cells #[.slice A1 (rd_T39 l0_0 (k : Int)).f0.length c1] 31))); have hq1 := (hb1.cell (p := ⟨wr.heap.size, 1, none⟩) (by simp; omega)).trans (show _ = some (.bool false) by simp); clear hb1) | fail "region"
          all_goals
            go_wp2
            go_roundw
            case rel => exact ⟨k + 1, by omega, by go_num, ⟨by rw [all_take_snoc okSec l0_0 k hlt z39, HP.out, Bool.true_and]; exact HS.out⟩, HBK1, HB1⟩
            case measure => simp [intOf]; omega
        | true =>
          have hnone := fun (w : World) => disk_none.calls zero32 w (by unfold disk_none.f; rfl)
          have HN := Aside0.mk hnone
          clear hnone
          rw [hbad] at hx1 HBa
          have HBD := Aside0.mk hbad
          clear hbad
          cases heqv : ((strOfNums (rd_T39 l0_0 (k : Int)).f0).toList == (strOfNums zero32).toList) with
          | true =>
            have hsec : okSec (rd_T39 l0_0 (k : Int)) = true := by simp [okSec, HOK.out, heqv]
            have HS := Aside0.mk hsec
            clear hsec
            have HEQ := Aside0.mk heqv
            clear heqv
            go_wp2_with fail
            first | go_loud (go_region_with (first
              | (go_at_call 60; refine (hSized.one_is true _ A1 c1 (rd_T39 l0_0 (k : Int)).f0 _ HOK.out (by simp) HL1.out (Kd.C_below HI.out HBa.out)).mono ?_; rintro e w1 ⟨rfl, hb1⟩; have HB1 := Aside0.mk (below_then HBa.out (below_size HBa.out) hb1); have HBK1 := Aside0.mk ((hb1.block w.heap.size (by simp; omega)).trans (blk_alloc (blk_alloc HBK.out (.cells #[.slice A1 (rd_T39 l0_0 (k : Int)).f0.length c1, .bool true] 39)) (.cells #[.slice A1 (rd_T39 l0_0 (k : Int)).f0.length c1] 31))); have hq0 := (hb1.cell (p := ⟨wr.heap.size, 0, none⟩) (by simp; omega)).trans (show _ = some (.slice A1 (rd_T39 l0_0 (k : Int)).f0.length c1) by simp); have hq1 := (hb1.cell (p := ⟨wr.heap.size, 1, none⟩) (by simp; omega)).trans (show _ = some (.bool true) by simp); have hz1 : wr.heap.size + 2 ≤ w1.heap.size := (by have := hb1.size; simp at this; omega); clear hb1)
              | (go_at_call 63; refine (HN.out _).mono ?_; rintro e w2 ⟨v2, rfl, hv2, hb2⟩; obtain ⟨A2, c2, rfl, hc2, hr2⟩ := Kd.R_reads hv2; have HR2 := Aside0.mk hr2; have HC2 := Aside0.mk hc2; have HB2 := Aside0.mk (below_then HB1.out (below_size HB1.out) hb2); have HBK2 := Aside0.mk ((hb2.block w.heap.size (by omega)).trans HBK1.out); have hq2 := (hb2.cell (p := ⟨wr.heap.size, 0, none⟩) (by simp; omega)).trans hq0; clear hv2 hb2 hr2 hc2)
              | (go_at_call 62; refine (bytes_Equal.calls A1 c1 (rd_T39 l0_0 (k : Int)).f0 A2 c2 zero32 true _ (Kd.C_below HI.out HB2.out) HL1.out HR2.out HC2.out (by unfold bytes_Equal.f; rw [HEQ.out])).mono ?_; rintro e w3 ⟨rfl, hd3⟩; have HB3 := Aside0.mk (below_then HB2.out (below_size HB2.out) hd3.below); have HBK3 := Aside0.mk ((hd3.below.block w.heap.size (blk_lt HBK2.out)).trans HBK2.out); clear hd3))) | fail "region"
            all_goals
              go_wp2
              go_roundw
              case rel => exact ⟨k + 1, by omega, by go_num, ⟨by rw [all_take_snoc okSec l0_0 k hlt z39, HP.out, Bool.true_and]; exact HS.out⟩, HBK3, HB3⟩
              case measure => simp [intOf]; omega
          | false =>
            obtain rfl : r = 8 := by
              rw [← H.out, if_neg]
              have := all_false_at okSec l0_0 k hlt z39 (by show okSec (rd_T39 l0_0 (k : Int)) = false; simp [okSec, HOK.out, HBD.out, heqv])
              simp [okDisk, this]
            clear H
            have HEQ := Aside0.mk heqv
            clear heqv
            go_wp2_with fail
            first | go_loud (go_region_with (first
              | (go_at_call 60; refine (hSized.one_is true _ A1 c1 (rd_T39 l0_0 (k : Int)).f0 _ HOK.out (by simp) HL1.out (Kd.C_below HI.out HBa.out)).mono ?_; rintro e w1 ⟨rfl, hb1⟩; have HB1 := Aside0.mk (below_then HBa.out (below_size HBa.out) hb1); have HBK1 := Aside0.mk ((hb1.block w.heap.size (by simp; omega)).trans (blk_alloc (blk_alloc HBK.out (.cells #[.slice A1 (rd_T39 l0_0 (k : Int)).f0.length c1, .bool true] 39)) (.cells #[.slice A1 (rd_T39 l0_0 (k : Int)).f0.length c1] 31))); have hq0 := (hb1.cell (p := ⟨wr.heap.size, 0, none⟩) (by simp; omega)).trans (show _ = some (.slice A1 (rd_T39 l0_0 (k : Int)).f0.length c1) by simp); have hq1 := (hb1.cell (p := ⟨wr.heap.size, 1, none⟩) (by simp; omega)).trans (show _ = some (.bool true) by simp); have hz1 : wr.heap.size + 2 ≤ w1.heap.size := (by have := hb1.size; simp at this; omega); clear hb1)
              | (go_at_call 63; refine (HN.out _).mono ?_; rintro e w2 ⟨v2, rfl, hv2, hb2⟩; obtain ⟨A2, c2, rfl, hc2, hr2⟩ := Kd.R_reads hv2; have HR2 := Aside0.mk hr2; have HC2 := Aside0.mk hc2; have HB2 := Aside0.mk (below_then HB1.out (below_size HB1.out) hb2); have HBK2 := Aside0.mk ((hb2.block w.heap.size (by omega)).trans HBK1.out); have hq2 := (hb2.cell (p := ⟨wr.heap.size, 0, none⟩) (by simp; omega)).trans hq0; clear hv2 hb2 hr2 hc2)
              | (go_at_call 62; refine (bytes_Equal.calls A1 c1 (rd_T39 l0_0 (k : Int)).f0 A2 c2 zero32 false _ (Kd.C_below HI.out HB2.out) HL1.out HR2.out HC2.out (by unfold bytes_Equal.f; rw [HEQ.out])).mono ?_; rintro e w3 ⟨rfl, hd3⟩; have HB3 := Aside0.mk (below_then HB2.out (below_size HB2.out) hd3.below); have HBK3 := Aside0.mk ((hd3.below.block w.heap.size (blk_lt HBK2.out)).trans HBK2.out); clear hd3))) | fail "region"
            all_goals
              go_wp2
              go_ret
              exact ⟨rfl, HB3.out⟩
    · have hall : l0_0.all okSec = true := by
        have := HP.out
        rwa [List.take_of_length_le (by omega)] at this
      have HA := Aside0.mk hall
      clear hall HP
      have hz1 : wr.cell? ⟨w.heap.size, 1, none⟩ = some (.slice A0_1 l0_1.length c0_1) := (blk_cell HBK.out 1).trans rfl
      go_wp2_with fail
      clear hz1
      have hm2 : l0_0.length ≤ 1024 := by omega
      obtain ⟨wo, rfl⟩ : ∃ wo : World, wo = wr := ⟨_, rfl⟩
      go_loopw [50] (fun i wr => ∃ k : Nat, k ≤ l0_1.length ∧ i = .int .i64 k ∧ Aside0 ((l0_1.take k).all (okPend l0_0.length) = true) ∧ Aside0 (wr.heap[w.heap.size]? = some (.cells #[.slice A0_0 l0_0.length c0_0, .slice A0_1 l0_1.length c0_1] 25 (0, 0))) ∧ Aside0 (Below w.heap.size w wr)) (fun i _ => l0_1.length - (intOf i).toNat)
      case atStart => exact ⟨0, Nat.zero_le _, rfl, ⟨by simp⟩, HBK, HB⟩
      case round =>
        clear HBK HB
        obtain ⟨j, hj, rfl, HP, HBK, HB⟩ := hrel
        by_cases hlt2 : j < l0_1.length
        · obtain ⟨ad, A1, c1, rfl, hx0, hx1, hl1, hi1⟩ := at_T49 HR1.out (j : Int) (by omega) (by omega)
          replace hx0 := (HB.out.cell (World.block_lt_of_cell? w _ hx0)).trans hx0
          replace hx1 := (HB.out.cell (World.block_lt_of_cell? w _ hx1)).trans hx1
          simp only [Int.toNat_natCast] at hx0 hx1
          have HI := Aside0.mk hi1
          have HL1 := Aside0.mk hl1
          clear hi1 hl1
          have hlt0 : w.heap.size < wr.heap.size := blk_lt HBK.out
          have hz0 : wr.cell? ⟨w.heap.size, 0, none⟩ = some (.slice A0_0 l0_0.length c0_0) := (blk_cell HBK.out 0).trans rfl
          have HBa := Aside0.mk (below_alloc (below_alloc HB.out (.cells #[.int .i64 (rd_T49 l0_1 (j : Int)).f0, .slice A1 (rd_T49 l0_1 (j : Int)).f1.length c1] 49)) (.cells #[.slice A1 (rd_T49 l0_1 (j : Int)).f1.length c1] 31))
          by_cases hn : (rd_T49 l0_1 (j : Int)).f0 < 0
          · obtain rfl : r = 8 := by
              rw [← H.out, if_neg]
              have := all_false_at (okPend l0_0.length) l0_1 j hlt2 z49 (by show okPend _ (rd_T49 l0_1 (j : Int)) = false; simp [okPend]; omega)
              simp [okDisk, this]
            clear H
            have hb4 : decide ((rd_T49 l0_1 (j : Int)).f0 < 0) = true := decide_eq_true hn
            clear hn
            go_wp2_with fail
            go_ret
            exact ⟨rfl, below_alloc HB.out _⟩
          have hb4 : decide ((rd_T49 l0_1 (j : Int)).f0 < 0) = false := decide_eq_false hn
          by_cases hge : (rd_T49 l0_1 (j : Int)).f0 ≥ (l0_0.length : Int)
          · obtain rfl : r = 8 := by
              rw [← H.out, if_neg]
              have := all_false_at (okPend l0_0.length) l0_1 j hlt2 z49 (by show okPend _ (rd_T49 l0_1 (j : Int)) = false; simp [okPend]; omega)
              simp [okDisk, this]
            clear H
            have hb5 : decide ((rd_T49 l0_1 (j : Int)).f0 ≥ (l0_0.length : Int)) = true := decide_eq_true hge
            clear hge hn
            go_wp2_with fail
            go_ret
            exact ⟨rfl, below_alloc HB.out _⟩
          have hb5 : decide ((rd_T49 l0_1 (j : Int)).f0 ≥ (l0_0.length : Int)) = false := decide_eq_false hge
          cases hok : okLen (rd_T49 l0_1 (j : Int)).f1 with
          | false =>
            obtain rfl : r = 8 := by
              rw [← H.out, if_neg]
              have := all_false_at (okPend l0_0.length) l0_1 j hlt2 z49 (by show okPend _ (rd_T49 l0_1 (j : Int)) = false; simp [okPend, hok])
              simp [okDisk, this]
            have HOK := Aside0.mk hok
            clear H hok hn hge
            go_wp2_with (go_at_call 60; refine (hSized.one_is false _ A1 c1 (rd_T49 l0_1 (j : Int)).f1 _ HOK.out (by simp) HL1.out (Kd.C_below HI.out HBa.out)).mono ?_; rintro e w1 ⟨rfl, hb1⟩; have HB1 := Aside0.mk (below_then HBa.out (below_size HBa.out) hb1); clear hb1)
            go_ret
            exact ⟨rfl, HB1.out⟩
          | true =>
            have hpd : okPend l0_0.length (rd_T49 l0_1 (j : Int)) = true := by simp [okPend, hok]; omega
            have HS := Aside0.mk hpd
            have HOK := Aside0.mk hok
            clear hok hpd hn hge
            go_wp2_with (go_at_call 60; refine (hSized.one_is true _ A1 c1 (rd_T49 l0_1 (j : Int)).f1 _ HOK.out (by simp) HL1.out (Kd.C_below HI.out HBa.out)).mono ?_; rintro e w1 ⟨rfl, hb1⟩; have HB1 := Aside0.mk (below_then HBa.out (below_size HBa.out) hb1); have HBK1 := Aside0.mk ((hb1.block w.heap.size (by simp; omega)).trans (blk_alloc (blk_alloc HBK.out (.cells #[.int .i64 (rd_T49 l0_1 (j : Int)).f0, .slice A1 (rd_T49 l0_1 (j : Int)).f1.length c1] 49)) (.cells #[.slice A1 (rd_T49 l0_1 (j : Int)).f1.length c1] 31))); clear hb1)
            go_roundw
            case rel => exact ⟨j + 1, by omega, by go_num, ⟨by rw [all_take_snoc (okPend l0_0.length) l0_1 j hlt2 z49, HP.out, Bool.true_and]; exact HS.out⟩, HBK1, HB1⟩
            case measure => simp [intOf]; omega
        · obtain rfl : r = 0 := by
            rw [← H.out, if_pos]
            have h4 := HP.out
            rw [List.take_of_length_le (by omega)] at h4
            simp [okDisk, HA.out, h4]
            omega
          clear H
          go_wp2
          go_ret
          exact ⟨rfl, HB.out⟩
end Go.Proofs.Ytdkjhcdniepbhaa.P
end
section
set_option linter.unusedVariables false
set_option linter.unusedSimpArgs false
namespace Go.Proofs.Ytdkjhcdniepbhaa.P
open Go.RowKit Go.Proofs.PrintWords Go.Proofs.PrintLast Go.Proofs.PrintMore
attribute [local go_sem] max2_int min2_int max_two min_two max_three min_three max_four min_four
def catamaranref05_Got.l0 : Nat → Int → Int → List (S39) → List (S49) → Option (List Int × Bool)
  | 0, _, _, _, _ => none
  | k + 1, x1, x6, x1000, x1001 => if x6 ≥ 0 then (if 0 ≤ x6 then (if x6 < (x1001.length : Int) then (if ((rd_T49 x1001 x6).f0) = x1 then ((some (([] : List Int) : List Int)).bind fun y1002 => (if y1002.length + ((rd_T49 x1001 x6).f1).length < 140737488355328 then (some ((y1002 ++ ((rd_T49 x1001 x6).f1)), true)) else (none))) else (catamaranref05_Got.l0 k x1 (wrap64 (x6 - 1)) x1000 x1001)) else (none)) else (none)) else ((some (([] : List Int) : List Int)).bind fun y1003 => (if 0 ≤ x1 then (if x1 < (x1000.length : Int) then (if y1003.length + ((rd_T39 x1000 x1).f0).length < 140737488355328 then (some ((y1003 ++ ((rd_T39 x1000 x1).f0)), !((rd_T39 x1000 x1).f1))) else (none)) else (none)) else (none)))
def catamaranref05_Got.f (k : Nat) (l0_0 : List (S39)) (l0_1 : List (S49)) (a1 : Int) : Option (List Int × Bool) := catamaranref05_Got.l0 k a1 (wrap64 ((l0_1.length : Int) - 1)) l0_0 l0_1
theorem catamaranref05_Got.mono_l : ∀ k, (∀ y0 y1 y2 y3, LeO (catamaranref05_Got.l0 k y0 y1 y2 y3) (catamaranref05_Got.l0 (k + 1) y0 y1 y2 y3))
  | 0 => fun _ _ _ _ r h => by simp [catamaranref05_Got.l0] at h
  | k + 1 => by
    have ih0 := catamaranref05_Got.mono_l k
    · intro y0 y1 y2 y3
      unfold catamaranref05_Got.l0
      repeat' first
      | (with_reducible exact ih0 _ _ _ _)
      | (with_reducible exact LeO.refl _)
      | (with_reducible exact LeO.none _)
      | (with_reducible refine LeO.ite ?_ ?_)
      | (with_reducible refine LeO.bind ?_ (fun _ => ?_))
      | exact ih0 _ _ _ _
      | exact LeO.none _
      | refine LeO.ite ?_ ?_
      | refine LeO.bind ?_ (fun _ => ?_)
theorem catamaranref05_Got.mono : ∀ a0 a1 a2 k, LeO (catamaranref05_Got.f k a0 a1 a2) (catamaranref05_Got.f (k + 1) a0 a1 a2) := by
  intro a0 a1 a2 k
  have ih0 := catamaranref05_Got.mono_l k
  unfold catamaranref05_Got.f
  repeat' first
      | (with_reducible exact ih0 _ _ _ _)
      | (with_reducible exact LeO.refl _)
      | (with_reducible exact LeO.none _)
      | (with_reducible refine LeO.ite ?_ ?_)
      | (with_reducible refine LeO.bind ?_ (fun _ => ?_))
      | exact ih0 _ _ _ _
      | exact LeO.none _
      | refine LeO.ite ?_ ?_
      | refine LeO.bind ?_ (fun _ => ?_)
def catamaranref05_Got.T6 : Bool × List (List Nat × List Nat) := (true, [([], []), ([], []), ([1], [1]), ([], []), ([2, 3], [2, 3]), ([4], [4]), ([5], [5]), ([0, 6], [0, 6]), ([], []), ([8], [8]), ([], []), ([9, 10], [9, 10]), ([11], [11]), ([12], [12]), ([13], [13]), ([7, 7, 0, 1, 2, 3, 4, 5, 6, 7], [7]), ([14, 15, 0, 1, 2, 3, 4, 5, 6, 7, 8, 9, 10, 11, 12, 13, 14, 15], [14])])
def catamaranref05_Got.B6 : List Nat := [0, 0, 2, 0, 14, 30, 62, 127, 0, 256, 0, 1792, 3840, 7936, 16128, 255, 65535]
theorem catamaranref05_Got.tab6 : rtab .any (opsOf Try.f119 6) = catamaranref05_Got.T6 := by kernel_rfl
theorem catamaranref05_Got.bits6 : waitsOk catamaranref05_Got.T6.2 catamaranref05_Got.B6 = true := by kernel_rfl
set_option maxHeartbeats 8000000 in
set_option maxRecDepth 100000 in
theorem catamaranref05_Got.calls (k : Nat) (A0_0 : Option Addr) (c0_0 : Nat) (l0_0 : List (S39)) (A0_1 : Option Addr) (c0_1 : Nat) (l0_1 : List (S49)) (a1 : Int) (r1 : List Int) (r2 : Bool) (w : World) (hr0_0 : Kd.C k39 w A0_0 l0_0.length l0_0) (hc0_0 : l0_0.length ≤ c0_0) (hr0_1 : Kd.C k49 w A0_1 l0_1.length l0_1) (hc0_1 : l0_1.length ≤ c0_1) (h : catamaranref05_Got.f k l0_0 l0_1 a1 = some (r1, r2)) :
    Calls Try.prog 119 #[.agg #[.slice A0_0 l0_0.length c0_0, .slice A0_1 l0_1.length c0_1], .int .i64 a1] w fun e w' => ∃ v0_ : Value, e = .returned (.tuple #[v0_, .bool r2]) ∧ Kd.R (Kd.int .u8) 5 w' w.heap.size (fun _ => True) v0_ r1 ∧ Below w.heap.size w w' := by
  have hu25 := Try.underlying25
  have HR0_0 := Aside0.mk hr0_0
  have HC0_0 := Aside0.mk hc0_0
  clear hr0_0 hc0_0
  have HR0_1 := Aside0.mk hr0_1
  have HC0_1 := Aside0.mk hc0_1
  clear hr0_1 hc0_1
  have HB := Aside0.mk (Below.refl w.heap.size w)
  have H : (catamaranref05_Got.l0 k a1 (wrap64 ((l0_1.length : Int) - 1)) l0_0 l0_1) = some (r1, r2) := h
  clear h
  have H' := Aside0.mk H
  clear H
  go_enter Try.func119, Try.ntmps119
  go_wp2_with (first | ((with_reducible refine gate_dst (N := 2) rfl ?_); refine box_event ?hg (N := 2) ?hd (cs := #[.slice A0_0 l0_0.length c0_0, .slice A0_1 l0_1.length c0_1]) (t := 25) ?hr ?_; (case hd => rfl); (case hg => rfl); (case hr => first | (go_simp; done) | (go_simp; rfl)); intro gb1004 hg w3 hbox hb; have n0_ := Aside0.mk (below_step (by repeat (first | (with_reducible first | exact HB.out | apply below_alloc | apply pbdN | apply bdr1) | exact HB.out)) hb); have n1_ := Aside0.mk (hbox); have n2_ := Aside0.mk ((by rw [hg]; exact (below_size (by repeat (first | (with_reducible first | exact HB.out | apply below_alloc | apply pbdN | apply bdr1) | exact HB.out))) : w.heap.size ≤ gb1004)); have n3_ := Aside0.mk ((by rw [hg]; exact (below_size (by repeat (first | (with_reducible first | exact HB.out | apply below_alloc | apply pbdN | apply bdr1) | exact HB.out))) : w.heap.size ≤ gb1004)); clear HB; have HB := n0_; have BK1004 := n1_; have GW1004 := n2_; have GE1004 := n3_; clear n0_ n1_ n2_ n3_; clear hb hbox hg; have hcz4_0 : w3.cell? ⟨gb1004, 0, none⟩ = some (.slice A0_0 l0_0.length c0_0) := (blk_cell BK1004.out 0).trans rfl; have hcz4_1 : w3.cell? ⟨gb1004, 1, none⟩ = some (.slice A0_1 l0_1.length c0_1) := (blk_cell BK1004.out 1).trans rfl; have hfz4_0 := blk_frozen BK1004.out 0; have hfz4_1 := blk_frozen BK1004.out 1))
  go_loopg [6] k (fun kq v6 w' => ∃ (x6_1 : Int), v6 = .int .i64 x6_1 ∧ Aside0 (catamaranref05_Got.l0 kq a1 x6_1 l0_0 l0_1 = some (r1, r2)) ∧ Aside0 (kq ≤ k) ∧ Aside0 (w'.heap[gb1004]? = some (.cells #[(.slice A0_0 l0_0.length c0_0), (.slice A0_1 l0_1.length c0_1)] 25 (0, 0))) ∧ Aside0 (Below w.heap.size w w'))
  case atStart => exact ⟨(wrap64 ((l0_1.length : Int) - 1)), (by first | rfl | (simp; done) | (simp [*]; done)), H', ⟨Nat.le_refl _⟩, ⟨by (with_reducible repeat (first | refine blk_drewN ?_ _ | refine blk_drew ?_ | refine blk_alloc ?_ _)); exact BK1004.out⟩, ⟨by repeat (first | (with_reducible first | exact HB.out | apply below_alloc | apply pbdN | apply bdr1 | refine below_set ?_ GE1004.out) | exact HB.out)⟩⟩
  case round =>
    clear H'
    try clear c1
    try clear p2
    try clear hcz4_0
    try clear hcz4_1
    try clear hfz4_0
    try clear hfz4_1
    obtain ⟨x6_1, rfl, HA, HK1, BK1004, HB⟩ := hrel
    cases gk with
    | zero => exact absurd HA.out (by simp [catamaranref05_Got.l0])
    | succ k1 =>
      have H := HA.out
      clear HA
      simp only [catamaranref05_Got.l0] at H
      by_cases c5 : x6_1 ≥ 0
      · rw [if_pos c5] at H
        have c5b0 : decide (0 ≤ x6_1) = true := decide_eq_true c5
        clear c5
        by_cases c6 : 0 ≤ x6_1
        · rw [if_pos c6] at H
          have c6b0 : decide (0 ≤ x6_1) = true := decide_eq_true c6
          clear c6
          by_cases c7 : x6_1 < (l0_1.length : Int)
          · rw [if_pos c7] at H
            have c7b0 : decide (x6_1 < (l0_1.length : Int)) = true := decide_eq_true c7
            clear c7
            by_cases c8 : ((rd_T49 l0_1 x6_1).f0) = a1
            · rw [if_pos c8] at H
              have c8b0 : (((rd_T49 l0_1 x6_1).f0) == a1) = true := beq_iff_eq.mpr c8
              have c8b1 : (((rd_T49 l0_1 x6_1).f0) != a1) = false := bne_eq_false_iff_eq.mpr c8
              clear c8
              obtain ⟨y1002, hy1002⟩ : ∃ y_ : List Int, y_ = (([] : List Int)) := ⟨_, rfl⟩
              replace H : (if y1002.length + ((rd_T49 l0_1 x6_1).f1).length < 140737488355328 then (some ((y1002 ++ ((rd_T49 l0_1 x6_1).f1)), true)) else (none)) = some (r1, r2) := by first | (rw [hy1002]; with_reducible exact H) | (have H2_ := (Option.bind_some _ _).symm.trans H; rw [hy1002]; with_reducible exact H2_) | (have H2_ := (Option.bind_some _ _).symm.trans H; with_reducible exact H2_) | with_reducible exact H | (rw [hy1002]; exact H) | exact H
              have Ny1002 := Aside0.mk hy1002
              clear hy1002
              by_cases c9 : y1002.length + ((rd_T49 l0_1 x6_1).f1).length < 140737488355328
              · rw [if_pos c9] at H
                have LMc9 := Aside0.mk c9
                clear c9
                obtain ⟨y1005, hy1005⟩ : ∃ y_ : List Int, y_ = (y1002 ++ ((rd_T49 l0_1 x6_1).f1)) := ⟨_, rfl⟩
                replace H : (some (y1005, true)) = some (r1, r2) := by first | (rw [hy1005]; with_reducible exact H) | (have H2_ := (Option.bind_some _ _).symm.trans H; rw [hy1005]; with_reducible exact H2_) | (have H2_ := (Option.bind_some _ _).symm.trans H; with_reducible exact H2_) | with_reducible exact H | (rw [hy1005]; exact H) | exact H
                have Ny1005 := Aside0.mk hy1005
                clear hy1005
                simp only [Option.some.injEq, Prod.mk.injEq] at H
                obtain ⟨rfl, rfl⟩ := H
                have hcz10_0 : wr.cell? ⟨gb1004, 0, none⟩ = some (.slice A0_0 l0_0.length c0_0) := (blk_cell BK1004.out 0).trans rfl
                have hcz10_1 : wr.cell? ⟨gb1004, 1, none⟩ = some (.slice A0_1 l0_1.length c0_1) := (blk_cell BK1004.out 1).trans rfl
                have hfz10_0 := blk_frozen BK1004.out 0
                have hfz10_1 := blk_frozen BK1004.out 1
                have p1006 : 0 ≤ (x6_1 : Int) := of_decide_eq_true (by first | (with_reducible assumption) | assumption)
                have q1006 : x6_1 < (l0_1.length : Int) := of_decide_eq_true (by first | (with_reducible assumption) | assumption)
                obtain ⟨ad1006, A1006_1, c1006_1, e1006, hx1006_0, hx1006_1, hl1006_1, hi1006_1⟩ := at_T49 HR0_1.out x6_1 p1006 q1006
                cases e1006
                replace hx1006_0 := (HB.out.cell (World.block_lt_of_cell? w _ hx1006_0)).trans hx1006_0
                replace hx1006_1 := (HB.out.cell (World.block_lt_of_cell? w _ hx1006_1)).trans hx1006_1
                have HR1006_1 := Aside0.mk hi1006_1
                have HC1006_1 := Aside0.mk hl1006_1
                clear hi1006_1 hl1006_1
                replace p1006 := eq_true p1006
                replace q1006 := eq_true q1006
                go_wp2_with (first | ((with_reducible refine gate_dst (N := 23) rfl ?_); refine Kd.R_lit (Kd.int .u8) _ 5 ?hg (N := 23) ?hd (xs := ([] : List Int)) (inner := []) (ok := fun _ => True) (okp := fun _ => True) ?hr ?hp (fun _ hk => hk) trivial (Below.refl _ _) (Nat.le_refl _) (by simp) ?_; (case hd => rfl); (case hg => rfl); (case hr => first | (go_simp; done) | (go_simp; rfl)); (case hp => exact (Reps.none _ _)); intro v1007 w11 ho12 hb hg_ hnew_; clear hg_ hnew_; (first | rw [← Ny1002.out] at ho12 | (simp only [Int.reduceToNat] at ho12; rw [← Ny1002.out] at ho12)); have n0_ := Aside0.mk (Kd.R_lower ho12 (below_size (by repeat (first | (with_reducible first | exact HB.out | apply below_alloc | apply pbdN | apply bdr1 | refine below_set ?_ GE1004.out) | exact HB.out)))); have n1_ := Aside0.mk (blk_below (g := gb1004) (o := .cells #[.slice A0_0 l0_0.length c0_0, .slice (some ad1006) l0_1.length c0_1] 25 (0, 0)) (by (with_reducible repeat (first | refine blk_drewN ?_ _ | refine blk_drew ?_ | refine blk_alloc ?_ _)); exact BK1004.out) hb); have n2_ := Aside0.mk (below_step (by repeat (first | (with_reducible first | exact HB.out | apply below_alloc | apply pbdN | apply bdr1 | refine below_set ?_ GE1004.out) | exact HB.out)) hb); clear BK1004; clear HB; have HO1008 := n0_; have BK1004 := n1_; have HB := n2_; clear n0_ n1_ n2_; clear hb ho12; have hcz13_0 : w11.cell? ⟨gb1004, 0, none⟩ = some (.slice A0_0 l0_0.length c0_0) := (blk_cell BK1004.out 0).trans rfl; have hcz13_1 : w11.cell? ⟨gb1004, 1, none⟩ = some (.slice (some ad1006) l0_1.length c0_1) := (blk_cell BK1004.out 1).trans rfl; have hfz13_0 := blk_frozen BK1004.out 0; have hfz13_1 := blk_frozen BK1004.out 1; have p1009 : 0 ≤ (x6_1 : Int) := of_decide_eq_true (by first | (with_reducible assumption) | assumption); have q1009 : x6_1 < (l0_1.length : Int) := of_decide_eq_true (by first | (with_reducible assumption) | assumption); obtain ⟨ad1009, A1009_1, c1009_1, e1009, hx1009_0, hx1009_1, hl1009_1, hi1009_1⟩ := at_T49 HR0_1.out x6_1 p1009 q1009; obtain rfl : ad1006 = ad1009 := (by injection e1009); replace hx1009_0 := (HB.out.cell (World.block_lt_of_cell? w _ hx1009_0)).trans hx1009_0; replace hx1009_1 := (HB.out.cell (World.block_lt_of_cell? w _ hx1009_1)).trans hx1009_1; have HR1009_1 := Aside0.mk hi1009_1; have HC1009_1 := Aside0.mk hl1009_1; clear hi1009_1 hl1009_1; replace p1009 := eq_true p1009; replace q1009 := eq_true q1009) | ((with_reducible refine gate_builtin (b := .append) (xs := #[.tmp 23, .tmp 29]) rfl ?_); at_builtin; refine Kd.R_append_rows (Kd.int .u8) (w0 := w) w.heap.size rfl (.tmp 23) (.tmp 29) 31 5 (.int .u8 0) 1 rfl Try.underlying31 info5 rfl (by decide) (by omega) v1007 y1002 ((rd_T49 l0_1 x6_1).f1) _ _ _ (fun _ => True) (fun _ => False) rfl rfl ?aO ?aR (fun _ _ h => h) (fun _ h => h.elim) ?aF ?aB ?aS ?aL ?_; (case aR => repeat (first | exact (Kd.C_below HR1009_1.out HB.out) | (with_reducible refine Kd.C_alloc ?_ _) | (with_reducible refine Kd.C_drewN ?_ _) | (with_reducible refine Kd.C_drew ?_))); (case aB => exact (by repeat (first | (with_reducible first | exact HB.out | apply below_alloc | apply pbdN | apply bdr1 | refine below_set ?_ GE1004.out) | exact HB.out))); (case aF => exact (fun _ _ => trivial)); (case aO => exact (by (with_reducible repeat (first | apply Kd.R_alloc | apply Kd.R_drewN | apply Kd.R_drew)); exact HO1008.out)); (case aS => exact (below_size (by repeat (first | (with_reducible first | exact HB.out | apply below_alloc | apply pbdN | apply bdr1 | refine below_set ?_ GE1004.out) | exact HB.out)))); (case aL => have := LMc9.out; omega); intro v1010 w14 ho hb hg hat; (first | (simp only [Int.reduceToNat] at ho; rw [← Ny1005.out] at ho) | rw [← Ny1005.out] at ho); have n0_ := Aside0.mk (blk_grown (g := gb1004) (o := .cells #[.slice A0_0 l0_0.length c0_0, .slice (some ad1006) l0_1.length c0_1] 25 (0, 0)) (by (with_reducible repeat (first | refine blk_drewN ?_ _ | refine blk_drew ?_ | refine blk_alloc ?_ _)); exact BK1004.out) hg (Kd.R_ne HO1008.out BK1004.out (by decide))); have n1_ := Aside0.mk (hb); have n2_ := Aside0.mk (ho); clear BK1004; clear HB; clear HO1008; have BK1004 := n0_; have HB := n1_; have HO1011 := n2_; clear n0_ n1_ n2_; clear ho hb hg hat))
                go_ret2
                exact ⟨_, by first | rfl | (simp [errW_none, errW_some] <;> rfl) | (simp [*, errW_none, errW_some] <;> rfl), by (with_reducible repeat (first | apply Kd.R_alloc | apply Kd.R_drewN | apply Kd.R_drew)); exact HO1011.out, by repeat (first | (with_reducible first | exact HB.out | apply below_alloc | apply pbdN | apply bdr1 | refine below_set ?_ GE1004.out) | exact HB.out)⟩
              · rw [if_neg c9] at H
                exact absurd H (by simp)
            · rw [if_neg c8] at H
              have c8b0 : (((rd_T49 l0_1 x6_1).f0) == a1) = false := beq_eq_false_iff_ne.mpr c8
              have c8b1 : (((rd_T49 l0_1 x6_1).f0) != a1) = true := bne_iff_ne.mpr c8
              have H' := Aside0.mk H
              clear H
              have hcz15_0 : wr.cell? ⟨gb1004, 0, none⟩ = some (.slice A0_0 l0_0.length c0_0) := (blk_cell BK1004.out 0).trans rfl
              have hcz15_1 : wr.cell? ⟨gb1004, 1, none⟩ = some (.slice A0_1 l0_1.length c0_1) := (blk_cell BK1004.out 1).trans rfl
              have hfz15_0 := blk_frozen BK1004.out 0
              have hfz15_1 := blk_frozen BK1004.out 1
              have p1006 : 0 ≤ (x6_1 : Int) := of_decide_eq_true (by first | (with_reducible assumption) | assumption)
              have q1006 : x6_1 < (l0_1.length : Int) := of_decide_eq_true (by first | (with_reducible assumption) | assumption)
              obtain ⟨ad1006, A1006_1, c1006_1, e1006, hx1006_0, hx1006_1, hl1006_1, hi1006_1⟩ := at_T49 HR0_1.out x6_1 p1006 q1006
              cases e1006
              replace hx1006_0 := (HB.out.cell (World.block_lt_of_cell? w _ hx1006_0)).trans hx1006_0
              replace hx1006_1 := (HB.out.cell (World.block_lt_of_cell? w _ hx1006_1)).trans hx1006_1
              have HR1006_1 := Aside0.mk hi1006_1
              have HC1006_1 := Aside0.mk hl1006_1
              clear hi1006_1 hl1006_1
              replace p1006 := eq_true p1006
              replace q1006 := eq_true q1006
              go_wp2
              go_roundg k1
              case measure => have := HK1.out; omega
              case rel => exact ⟨(wrap64 (x6_1 - 1)), (by first | rfl | (simp; done) | (simp [*]; done)), H', ⟨by have := HK1.out; omega⟩, ⟨by (with_reducible repeat (first | refine blk_drewN ?_ _ | refine blk_drew ?_ | refine blk_alloc ?_ _)); exact BK1004.out⟩, ⟨by repeat (first | (with_reducible first | exact HB.out | apply below_alloc | apply pbdN | apply bdr1 | refine below_set ?_ GE1004.out) | exact HB.out)⟩⟩
          · rw [if_neg c7] at H
            exact absurd H (by simp)
        · rw [if_neg c6] at H
          exact absurd H (by simp)
      · rw [if_neg c5] at H
        have c5b0 : decide (0 ≤ x6_1) = false := decide_eq_false c5
        clear c5
        obtain ⟨y1003, hy1003⟩ : ∃ y_ : List Int, y_ = (([] : List Int)) := ⟨_, rfl⟩
        replace H : (if 0 ≤ a1 then (if a1 < (l0_0.length : Int) then (if y1003.length + ((rd_T39 l0_0 a1).f0).length < 140737488355328 then (some ((y1003 ++ ((rd_T39 l0_0 a1).f0)), !((rd_T39 l0_0 a1).f1))) else (none)) else (none)) else (none)) = some (r1, r2) := by first | (rw [hy1003]; with_reducible exact H) | (have H2_ := (Option.bind_some _ _).symm.trans H; rw [hy1003]; with_reducible exact H2_) | (have H2_ := (Option.bind_some _ _).symm.trans H; with_reducible exact H2_) | with_reducible exact H | (rw [hy1003]; exact H) | exact H
        have Ny1003 := Aside0.mk hy1003
        clear hy1003
        by_cases c16 : 0 ≤ a1
        · rw [if_pos c16] at H
          have c16b0 : decide (0 ≤ a1) = true := decide_eq_true c16
          clear c16
          by_cases c17 : a1 < (l0_0.length : Int)
          · rw [if_pos c17] at H
            have c17b0 : decide (a1 < (l0_0.length : Int)) = true := decide_eq_true c17
            clear c17
            by_cases c18 : y1003.length + ((rd_T39 l0_0 a1).f0).length < 140737488355328
            · rw [if_pos c18] at H
              have LMc18 := Aside0.mk c18
              clear c18
              obtain ⟨y1012, hy1012⟩ : ∃ y_ : List Int, y_ = (y1003 ++ ((rd_T39 l0_0 a1).f0)) := ⟨_, rfl⟩
              replace H : (some (y1012, !((rd_T39 l0_0 a1).f1))) = some (r1, r2) := by first | (rw [hy1012]; with_reducible exact H) | (have H2_ := (Option.bind_some _ _).symm.trans H; rw [hy1012]; with_reducible exact H2_) | (have H2_ := (Option.bind_some _ _).symm.trans H; with_reducible exact H2_) | with_reducible exact H | (rw [hy1012]; exact H) | exact H
              have Ny1012 := Aside0.mk hy1012
              clear hy1012
              simp only [Option.some.injEq, Prod.mk.injEq] at H
              obtain ⟨rfl, rfl⟩ := H
              try go_wp2
              have n0_ := Aside0.mk (blk_drew BK1004.out)
              have n1_ := Aside0.mk (bdr1 HB.out)
              clear BK1004
              clear HB
              have BK1004 := n0_
              have HB := n1_
              clear n0_ n1_
              have p1013 : 0 ≤ (a1 : Int) := of_decide_eq_true (by first | (with_reducible assumption) | assumption)
              have q1013 : a1 < (l0_0.length : Int) := of_decide_eq_true (by first | (with_reducible assumption) | assumption)
              obtain ⟨ad1013, A1013_0, c1013_0, e1013, hx1013_0, hx1013_1, hl1013_0, hi1013_0⟩ := at_T39 HR0_0.out a1 p1013 q1013
              have hw1013_1 := hx1013_1
              have hw1013_0 := hx1013_0
              cases e1013
              replace hx1013_0 := (HB.out.cell (World.block_lt_of_cell? w _ hx1013_0)).trans hx1013_0
              replace hx1013_1 := (HB.out.cell (World.block_lt_of_cell? w _ hx1013_1)).trans hx1013_1
              have HR1013_0 := Aside0.mk hi1013_0
              have HC1013_0 := Aside0.mk hl1013_0
              clear hi1013_0 hl1013_0
              replace p1013 := eq_true p1013
              replace q1013 := eq_true q1013
              have p1014 : 0 ≤ (a1 : Int) := of_decide_eq_true (by first | (with_reducible assumption) | assumption)
              have q1014 : a1 < (l0_0.length : Int) := of_decide_eq_true (by first | (with_reducible assumption) | assumption)
              obtain ⟨ad1014, A1014_0, c1014_0, e1014, hx1014_0, hx1014_1, hl1014_0, hi1014_0⟩ := at_T39 HR0_0.out a1 p1014 q1014
              have hw1014_1 := hx1014_1
              have hw1014_0 := hx1014_0
              obtain rfl : ad1013 = ad1014 := (by injection e1014)
              replace hx1014_0 := (HB.out.cell (World.block_lt_of_cell? w _ hx1014_0)).trans hx1014_0
              replace hx1014_1 := (HB.out.cell (World.block_lt_of_cell? w _ hx1014_1)).trans hx1014_1
              have HR1014_0 := Aside0.mk hi1014_0
              have HC1014_0 := Aside0.mk hl1014_0
              clear hi1014_0 hl1014_0
              replace p1014 := eq_true p1014
              replace q1014 := eq_true q1014
              have ea_ := Option.some.inj (hx1013_0.symm.trans hx1014_0)
              injection ea_ with ea_ en_ ec_
              subst ea_
              subst ec_
              clear en_
              refine start_ (n := 17) (S := fun w' => w'.cell? ⟨gb1004, 0, none⟩ = some (.slice (some ad1013) l0_0.length c0_0) ∧ w'.cell? ⟨gb1004, 1, none⟩ = some (.slice A0_1 l0_1.length c0_1) ∧ w'.cell? (ad1013.add ((a1).toNat * 2)) = some (.slice A1013_0 ((rd_T39 l0_0 a1).f0).length c1013_0) ∧ w'.cell? ⟨(ad1013.add ((a1).toNat * 2)).block, (ad1013.add ((a1).toNat * 2)).off + 1, none⟩ = some (.bool ((rd_T39 l0_0 a1).f1)) ∧ w'.cell? (ad1013.add ((a1).toNat * 2)) = some (.slice A1013_0 ((rd_T39 l0_0 a1).f0).length c1013_0) ∧ w'.cell? ⟨(ad1013.add ((a1).toNat * 2)).block, (ad1013.add ((a1).toNat * 2)).off + 1, none⟩ = some (.bool ((rd_T39 l0_0 a1).f1))) (ds := []) #[false, false, false, false, false, false, false, false, false, false, false, false, false, false, false, false, false] (by kernel_rfl) rfl rfl ⟨(blk_cell BK1004.out 0).trans rfl, (blk_cell BK1004.out 1).trans rfl, ((HB.out.cell (World.block_lt_of_cell? w _ hw1013_0)).trans hw1013_0), ((HB.out.cell (World.block_lt_of_cell? w _ hw1013_1)).trans hw1013_1), ((HB.out.cell (World.block_lt_of_cell? w _ hw1014_0)).trans hw1014_0), ((HB.out.cell (World.block_lt_of_cell? w _ hw1014_1)).trans hw1014_1)⟩ (fun hHeld => ?_); refine wtW catamaranref05_Got.tab6 catamaranref05_Got.bits6 (fun HT_ HW_ => ?_)
              generalize wr.drew = w19 at BK1004 HB HR1013_0 HR1014_0 hx1013_0 hx1013_1 hx1014_0 hx1014_1 hHeld ⊢
              refine pure_ (i := 1) (N := some 32) (v := ?_) (a' := ?_) #[false, true, false, false, false, false, false, false, false, false, false, false, false, false, false, false, false] rfl rfl (any_of HT_.out (by kernel_rfl)) (fun _ _ _ h => h) (Or.inl ⟨by rfl, ?_⟩) ?_ ?_
              rotate_left
              · intro w'
                go_simp
                with_reducible rfl
              rotate_left
              · simp only [Act.put, List.setIfInBounds_toArray, List.set_cons_zero, List.set_cons_succ, i64_w, i32_w]
                rfl
              refine pure_ (i := 3) (N := some 34) (v := ?_) (a' := ?_) #[false, true, false, true, false, false, false, false, false, false, false, false, false, false, false, false, false] rfl rfl (any_of HT_.out (by kernel_rfl)) (fun _ _ _ h => h) (Or.inl ⟨by rfl, ?_⟩) ?_ ?_
              rotate_left
              · intro w'
                go_simp
                with_reducible rfl
              rotate_left
              · simp only [Act.put, List.setIfInBounds_toArray, List.set_cons_zero, List.set_cons_succ, i64_w, i32_w]
                rfl
              refine pure_ (i := 8) (N := some 39) (v := ?_) (a' := ?_) #[false, true, false, true, false, false, false, false, true, false, false, false, false, false, false, false, false] rfl rfl (any_of HT_.out (by kernel_rfl)) (fun _ _ _ h => h) (Or.inl ⟨by rfl, ?_⟩) ?_ ?_
              rotate_left
              · intro w'
                go_simp
                with_reducible rfl
              rotate_left
              · simp only [Act.put, List.setIfInBounds_toArray, List.set_cons_zero, List.set_cons_succ, i64_w, i32_w]
                rfl
              refine pure_ (i := 10) (N := some 41) (v := ?_) (a' := ?_) #[false, true, false, true, false, false, false, false, true, false, true, false, false, false, false, false, false] rfl rfl (any_of HT_.out (by kernel_rfl)) (fun _ _ _ h => h) (Or.inl ⟨by rfl, ?_⟩) ?_ ?_
              rotate_left
              · intro w'
                go_simp
                with_reducible rfl
              rotate_left
              · simp only [Act.put, List.setIfInBounds_toArray, List.set_cons_zero, List.set_cons_succ, i64_w, i32_w]
                rfl
              refine take_ (i := 2) (N := some 33) (v := ?_) (a' := ?_) #[false, true, true, true, false, false, false, false, true, false, true, false, false, false, false, false, false] rfl rfl (take_ofW HT_.out HW_.out (by kernel_rfl)) (fun _ _ _ h => h) (Or.inl ⟨by rfl, ?_⟩) hHeld ?_ ?_
              rotate_left
              · rintro w' ⟨s0, s1, s2, s3, s4, s5⟩
                go_simp
                with_reducible rfl
              rotate_left
              · simp only [Act.put, List.setIfInBounds_toArray, List.set_cons_zero, List.set_cons_succ, i64_w, i32_w]
                rfl
              refine pure_ (i := 4) (N := some 35) (v := ?_) (a' := ?_) #[false, true, true, true, true, false, false, false, true, false, true, false, false, false, false, false, false] rfl rfl (any_of HT_.out (by kernel_rfl)) (fun _ _ _ h => h) (Or.inl ⟨by rfl, ?_⟩) ?_ ?_
              rotate_left
              · intro w'
                go_simp
                with_reducible rfl
              rotate_left
              · simp only [Act.put, List.setIfInBounds_toArray, List.set_cons_zero, List.set_cons_succ, i64_w, i32_w]
                rfl
              refine pure_ (i := 5) (N := some 36) (v := ?_) (a' := ?_) #[false, true, true, true, true, true, false, false, true, false, true, false, false, false, false, false, false] rfl rfl (any_of HT_.out (by kernel_rfl)) (fun _ _ _ h => h) (Or.inl ⟨by rfl, ?_⟩) ?_ ?_
              rotate_left
              · intro w'
                go_simp
                with_reducible rfl
              rotate_left
              · simp only [Act.put, List.setIfInBounds_toArray, List.set_cons_zero, List.set_cons_succ, i64_w, i32_w]
                rfl
              refine take_ (i := 6) (N := some 37) (v := ?_) (a' := ?_) #[false, true, true, true, true, true, true, false, true, false, true, false, false, false, false, false, false] rfl rfl (take_ofW HT_.out HW_.out (by kernel_rfl)) (fun _ _ _ h => h) (Or.inl ⟨by rfl, ?_⟩) hHeld ?_ ?_
              rotate_left
              · rintro w' ⟨s0, s1, s2, s3, s4, s5⟩
                go_simp
                with_reducible rfl
              rotate_left
              · simp only [Act.put, List.setIfInBounds_toArray, List.set_cons_zero, List.set_cons_succ, i64_w, i32_w]
                rfl
              refine take_ (i := 9) (N := some 40) (v := ?_) (a' := ?_) #[false, true, true, true, true, true, true, false, true, true, true, false, false, false, false, false, false] rfl rfl (take_ofW HT_.out HW_.out (by kernel_rfl)) (fun _ _ _ h => h) (Or.inl ⟨by rfl, ?_⟩) hHeld ?_ ?_
              rotate_left
              · rintro w' ⟨s0, s1, s2, s3, s4, s5⟩
                go_simp
                with_reducible rfl
              rotate_left
              · simp only [Act.put, List.setIfInBounds_toArray, List.set_cons_zero, List.set_cons_succ, i64_w, i32_w]
                rfl
              refine pure_ (i := 11) (N := some 42) (v := ?_) (a' := ?_) #[false, true, true, true, true, true, true, false, true, true, true, true, false, false, false, false, false] rfl rfl (any_of HT_.out (by kernel_rfl)) (fun _ _ _ h => h) (Or.inl ⟨by rfl, ?_⟩) ?_ ?_
              rotate_left
              · intro w'
                go_simp
                with_reducible rfl
              rotate_left
              · simp only [Act.put, List.setIfInBounds_toArray, List.set_cons_zero, List.set_cons_succ, i64_w, i32_w]
                rfl
              refine pure_ (i := 12) (N := some 43) (v := ?_) (a' := ?_) #[false, true, true, true, true, true, true, false, true, true, true, true, true, false, false, false, false] rfl rfl (any_of HT_.out (by kernel_rfl)) (fun _ _ _ h => h) (Or.inl ⟨by rfl, ?_⟩) ?_ ?_
              rotate_left
              · intro w'
                go_simp
                with_reducible rfl
              rotate_left
              · simp only [Act.put, List.setIfInBounds_toArray, List.set_cons_zero, List.set_cons_succ, i64_w, i32_w]
                rfl
              refine take_ (i := 13) (N := some 44) (v := ?_) (a' := ?_) #[false, true, true, true, true, true, true, false, true, true, true, true, true, true, false, false, false] rfl rfl (take_ofW HT_.out HW_.out (by kernel_rfl)) (fun _ _ _ h => h) (Or.inl ⟨by rfl, ?_⟩) hHeld ?_ ?_
              rotate_left
              · rintro w' ⟨s0, s1, s2, s3, s4, s5⟩
                go_simp
                with_reducible rfl
              rotate_left
              · simp only [Act.put, List.setIfInBounds_toArray, List.set_cons_zero, List.set_cons_succ, i64_w, i32_w]
                rfl
              refine pure_ (i := 14) (N := some 45) (v := ?_) (a' := ?_) #[false, true, true, true, true, true, true, false, true, true, true, true, true, true, true, false, false] rfl rfl (any_of HT_.out (by kernel_rfl)) (fun _ _ _ h => h) (Or.inl ⟨by rfl, ?_⟩) ?_ ?_
              rotate_left
              · intro w'
                go_simp
                with_reducible rfl
              rotate_left
              · simp only [Act.put, List.setIfInBounds_toArray, List.set_cons_zero, List.set_cons_succ, i64_w, i32_w]
                rfl
              refine one_ (i := 0) (N := some 31) #[true, true, true, true, true, true, true, false, true, true, true, true, true, true, true, false, false] rfl rfl (one_of HT_.out (by kernel_rfl)) (by decide) (fun K hK => ?_)
              refine Kd.R_lit_step (Kd.int .u8) _ 5 ?hg (N := 31) ?hd (xs := ([] : List Int)) (inner := []) (ok := fun _ => True) (okp := fun _ => True) ?hr ?hp (fun _ hk => hk) trivial (Below.refl _ _) (Nat.le_refl _) (by simp) ?_; (case hd => rfl); (case hg => rfl); (case hr => first | (go_simp; done) | (go_simp; rfl)); (case hp => exact (Reps.none _ _))
              intro v1015 w20 ho21 hb hg_ hnew_
              clear hg_ hnew_
              (first | rw [← Ny1003.out] at ho21 | (simp only [Int.reduceToNat] at ho21; rw [← Ny1003.out] at ho21))
              have n0_ := Aside0.mk (Kd.R_lower ho21 (below_size (by repeat (first | (with_reducible first | exact HB.out | apply below_alloc | apply pbdN | apply bdr1 | refine below_set ?_ GE1004.out) | exact HB.out))))
              have n1_ := Aside0.mk (blk_below (g := gb1004) (o := .cells #[.slice (some ad1013) l0_0.length c0_0, .slice A0_1 l0_1.length c0_1] 25 (0, 0)) (by (with_reducible repeat (first | refine blk_drewN ?_ _ | refine blk_drew ?_ | refine blk_alloc ?_ _)); exact BK1004.out) hb)
              have n2_ := Aside0.mk (below_step (by repeat (first | (with_reducible first | exact HB.out | apply below_alloc | apply pbdN | apply bdr1 | refine below_set ?_ GE1004.out) | exact HB.out)) hb)
              clear BK1004
              clear HB
              have HO1016 := n0_
              have BK1004 := n1_
              have HB := n2_
              clear n0_ n1_ n2_
              clear hb ho21
              refine hK.out _ _ ⟨(blk_cell BK1004.out 0).trans rfl, (blk_cell BK1004.out 1).trans rfl, ((HB.out.cell (World.block_lt_of_cell? w _ hw1013_0)).trans hw1013_0), ((HB.out.cell (World.block_lt_of_cell? w _ hw1013_1)).trans hw1013_1), ((HB.out.cell (World.block_lt_of_cell? w _ hw1014_0)).trans hw1014_0), ((HB.out.cell (World.block_lt_of_cell? w _ hw1014_1)).trans hw1014_1)⟩ (fun hHeld => ?_)
              clear hK K
              refine norm_ (a' := ?_) ?_ ?_
              rotate_left
              · show Act.put _ (some 31) _ = _
                simp only [Act.put, List.setIfInBounds_toArray, List.set_cons_zero, List.set_cons_succ, i64_w, i32_w]
                rfl
              refine one_ (i := 7) (N := some 38) #[true, true, true, true, true, true, true, true, true, true, true, true, true, true, true, false, false] rfl rfl (one_of HT_.out (by kernel_rfl)) (by decide) (fun K hK => ?_)
              refine Kd.R_append_rows_step (Kd.int .u8) (w0 := w) w.heap.size (by rfl) (.tmp 31) (.tmp 37) 31 5 (.int .u8 0) 1 rfl Try.underlying31 info5 rfl (by decide) (by omega) v1015 y1003 ((rd_T39 l0_0 a1).f0) _ _ _ (fun _ => True) (fun _ => False) rfl rfl ?aO ?aR (fun _ _ h => h) (fun _ h => h.elim) ?aF ?aB ?aS ?aL ?_
              (case aR => repeat (first | exact (Kd.C_below HR1013_0.out HB.out) | (with_reducible refine Kd.C_alloc ?_ _) | (with_reducible refine Kd.C_drewN ?_ _) | (with_reducible refine Kd.C_drew ?_)))
              (case aB => exact (by repeat (first | (with_reducible first | exact HB.out | apply below_alloc | apply pbdN | apply bdr1 | refine below_set ?_ GE1004.out) | exact HB.out)))
              (case aF => exact (fun _ _ => trivial))
              (case aO => exact (by (with_reducible repeat (first | apply Kd.R_alloc | apply Kd.R_drewN | apply Kd.R_drew)); exact HO1016.out))
              (case aS => exact (below_size (by repeat (first | (with_reducible first | exact HB.out | apply below_alloc | apply pbdN | apply bdr1 | refine below_set ?_ GE1004.out) | exact HB.out))))
              (case aL => have := LMc18.out; omega)
              intro v1017 w22 ho hb hg hat
              rw [← Ny1012.out] at ho
              have n0_ := Aside0.mk (blk_grown (g := gb1004) (o := .cells #[.slice (some ad1013) l0_0.length c0_0, .slice A0_1 l0_1.length c0_1] 25 (0, 0)) (by (with_reducible repeat (first | refine blk_drewN ?_ _ | refine blk_drew ?_ | refine blk_alloc ?_ _)); exact BK1004.out) hg (Kd.R_ne HO1016.out BK1004.out (by decide)))
              have n1_ := Aside0.mk (hb)
              have n2_ := Aside0.mk (ho)
              clear BK1004
              clear HB
              clear HO1016
              have BK1004 := n0_
              have HB := n1_
              have HO1018 := n2_
              clear n0_ n1_ n2_
              clear ho hb hg hat
              refine hK.out _ _ ⟨(blk_cell BK1004.out 0).trans rfl, (blk_cell BK1004.out 1).trans rfl, ((HB.out.cell (World.block_lt_of_cell? w _ hw1013_0)).trans hw1013_0), ((HB.out.cell (World.block_lt_of_cell? w _ hw1013_1)).trans hw1013_1), ((HB.out.cell (World.block_lt_of_cell? w _ hw1014_0)).trans hw1014_0), ((HB.out.cell (World.block_lt_of_cell? w _ hw1014_1)).trans hw1014_1)⟩ (fun hHeld => ?_)
              clear hK K
              refine norm_ (a' := ?_) ?_ ?_
              rotate_left
              · show Act.put _ (some 38) _ = _
                simp only [Act.put, List.setIfInBounds_toArray, List.set_cons_zero, List.set_cons_succ, i64_w, i32_w]
                rfl
              refine pure_ (i := 15) (N := some 4) (v := ?_) (a' := ?_) #[true, true, true, true, true, true, true, true, true, true, true, true, true, true, true, true, false] rfl rfl (any_of HT_.out (by kernel_rfl)) (fun _ _ _ h => h) (Or.inl ⟨by rfl, ?_⟩) ?_ ?_
              rotate_left
              · intro w'
                go_simp
                with_reducible rfl
              rotate_left
              · simp only [Act.put, List.setIfInBounds_toArray, List.set_cons_zero, List.set_cons_succ, i64_w, i32_w]
                rfl
              refine pure_ (i := 16) (N := some 5) (v := ?_) (a' := ?_) #[true, true, true, true, true, true, true, true, true, true, true, true, true, true, true, true, true] rfl rfl (any_of HT_.out (by kernel_rfl)) (fun _ _ _ h => h) (Or.inl ⟨by rfl, ?_⟩) ?_ ?_
              rotate_left
              · intro w'
                go_simp
                with_reducible rfl
              rotate_left
              · simp only [Act.put, List.setIfInBounds_toArray, List.set_cons_zero, List.set_cons_succ, i64_w, i32_w]
                rfl
              refine done_ (done_of HT_.out (by kernel_rfl)) ?_
              try go_wp2
              go_ret2
              exact ⟨_, by first | rfl | (simp [errW_none, errW_some] <;> rfl) | (simp [*, errW_none, errW_some] <;> rfl), by (with_reducible repeat (first | apply Kd.R_alloc | apply Kd.R_drewN | apply Kd.R_drew)); exact HO1018.out, by repeat (first | (with_reducible first | exact HB.out | apply below_alloc | apply pbdN | apply bdr1 | refine below_set ?_ GE1004.out) | exact HB.out)⟩
            · rw [if_neg c18] at H
              exact absurd H (by simp)
          · rw [if_neg c17] at H
            exact absurd H (by simp)
        · rw [if_neg c16] at H
          exact absurd H (by simp)
end Go.Proofs.Ytdkjhcdniepbhaa.P
end
section
set_option linter.unusedVariables false
set_option linter.unusedSimpArgs false
namespace Go.Proofs.Ytdkjhcdniepbhaa.P
open Go.RowKit Go.Proofs.PrintWords Go.Proofs.PrintLast Go.Proofs.PrintMore
attribute [local go_sem] max2_int min2_int max_two min_two max_three min_three max_four min_four
def catamaranref05_blank.l0 : Nat → List Int → Int → Option (Bool)
  | 0, _, _ => none
  | k + 1, x0, x3 => if x3 < (x0.length : Int) then (if 0 ≤ x3 then (if (rd x0 x3) = 0 then (catamaranref05_blank.l0 k x0 (wrap64 (x3 + 1))) else (some false)) else (none)) else (some true)
def catamaranref05_blank.f (k : Nat) (l0 : List Int) : Option (Bool) := catamaranref05_blank.l0 k l0 0
theorem catamaranref05_blank.mono_l : ∀ k, (∀ y0 y1, LeO (catamaranref05_blank.l0 k y0 y1) (catamaranref05_blank.l0 (k + 1) y0 y1))
  | 0 => fun _ _ r h => by simp [catamaranref05_blank.l0] at h
  | k + 1 => by
    have ih0 := catamaranref05_blank.mono_l k
    · intro y0 y1
      unfold catamaranref05_blank.l0
      repeat' first
      | (with_reducible exact ih0 _ _)
      | (with_reducible exact LeO.refl _)
      | (with_reducible exact LeO.none _)
      | (with_reducible refine LeO.ite ?_ ?_)
      | (with_reducible refine LeO.bind ?_ (fun _ => ?_))
      | exact ih0 _ _
      | exact LeO.none _
      | refine LeO.ite ?_ ?_
      | refine LeO.bind ?_ (fun _ => ?_)
theorem catamaranref05_blank.mono : ∀ a0 k, LeO (catamaranref05_blank.f k a0) (catamaranref05_blank.f (k + 1) a0) := by
  intro a0 k
  have ih0 := catamaranref05_blank.mono_l k
  unfold catamaranref05_blank.f
  repeat' first
      | (with_reducible exact ih0 _ _)
      | (with_reducible exact LeO.refl _)
      | (with_reducible exact LeO.none _)
      | (with_reducible refine LeO.ite ?_ ?_)
      | (with_reducible refine LeO.bind ?_ (fun _ => ?_))
      | exact ih0 _ _
      | exact LeO.none _
      | refine LeO.ite ?_ ?_
      | refine LeO.bind ?_ (fun _ => ?_)
set_option maxHeartbeats 8000000 in
set_option maxRecDepth 100000 in
theorem catamaranref05_blank.calls (k : Nat) (A0 : Option Addr) (c0 : Nat) (l0 : List Int) (r : Bool) (w : World) (hr0 : Kd.C (Kd.int .u8) w A0 l0.length l0) (hc0 : l0.length ≤ c0) (h : catamaranref05_blank.f k l0 = some r) :
    Calls Try.prog 132 #[.slice A0 l0.length c0] w fun e w' => e = .returned (.bool r) ∧ Drawn0 w w' := by
  have HR0 := Aside0.mk hr0
  have HC0 := Aside0.mk hc0
  clear hr0 hc0
  have H : (catamaranref05_blank.l0 k l0 0) = some r := h
  clear h
  have H' := Aside0.mk H
  clear H
  go_enter Try.func132, Try.ntmps132
  go_wp2
  go_loopg [3] k (fun kq v3 w' => ∃ (x3_1 : Int), v3 = .int .i64 x3_1 ∧ Aside0 (catamaranref05_blank.l0 kq l0 x3_1 = some r) ∧ Aside0 (kq ≤ k) ∧ Drawn0 w w')
  case atStart => exact ⟨(0), (by first | rfl | (simp; done) | (simp [*]; done)), H', ⟨Nat.le_refl _⟩, by repeat (first | exact Drawn0.refl _ | apply Drawn0.step)⟩
  case round =>
    clear H'
    try clear c1
    obtain ⟨x3_1, rfl, HA, HK1, ⟨m1, rfl⟩⟩ := hrel
    cases gk with
    | zero => exact absurd HA.out (by simp [catamaranref05_blank.l0])
    | succ k1 =>
      have H := HA.out
      clear HA
      simp only [catamaranref05_blank.l0] at H
      by_cases c2 : x3_1 < (l0.length : Int)
      · rw [if_pos c2] at H
        have c2b0 : decide (x3_1 < (l0.length : Int)) = true := decide_eq_true c2
        clear c2
        by_cases c3 : 0 ≤ x3_1
        · rw [if_pos c3] at H
          have c3b0 : decide (0 ≤ x3_1) = true := decide_eq_true c3
          clear c3
          by_cases c4 : (rd l0 x3_1) = 0
          · rw [if_pos c4] at H
            have c4b0 : ((rd l0 x3_1) == 0) = true := beq_iff_eq.mpr c4
            have c4b1 : ((rd l0 x3_1) != 0) = false := bne_eq_false_iff_eq.mpr c4
            clear c4
            have H' := Aside0.mk H
            clear H
            have p1000 : 0 ≤ (x3_1 : Int) := of_decide_eq_true (by first | (with_reducible assumption) | assumption)
            have q1000 : x3_1 < (l0.length : Int) := of_decide_eq_true (by first | (with_reducible assumption) | assumption)
            obtain ⟨ad1000, e1000, hx1000_0⟩ := Kd.at_int HR0.out x3_1 p1000 q1000
            cases e1000
            replace p1000 := eq_true p1000
            replace q1000 := eq_true q1000
            go_wp2
            go_roundg k1
            case measure => have := HK1.out; omega
            case rel => exact ⟨(wrap64 (x3_1 + 1)), (by first | rfl | (simp; done) | (simp [*]; done)), H', ⟨by have := HK1.out; omega⟩, by repeat (first | exact Drawn0.refl _ | apply Drawn0.step)⟩
          · rw [if_neg c4] at H
            have c4b0 : ((rd l0 x3_1) == 0) = false := beq_eq_false_iff_ne.mpr c4
            have c4b1 : ((rd l0 x3_1) != 0) = true := bne_iff_ne.mpr c4
            obtain rfl := Option.some.inj H
            have p1000 : 0 ≤ (x3_1 : Int) := of_decide_eq_true (by first | (with_reducible assumption) | assumption)
            have q1000 : x3_1 < (l0.length : Int) := of_decide_eq_true (by first | (with_reducible assumption) | assumption)
            obtain ⟨ad1000, e1000, hx1000_0⟩ := Kd.at_int HR0.out x3_1 p1000 q1000
            cases e1000
            replace p1000 := eq_true p1000
            replace q1000 := eq_true q1000
            go_wp2
            go_ret
            exact ⟨by first | rfl | (simp; done) | (simp [*]; done), by repeat (first | exact Drawn0.refl _ | apply Drawn0.step)⟩
        · rw [if_neg c3] at H
          exact absurd H (by simp)
      · rw [if_neg c2] at H
        have c2b0 : decide (x3_1 < (l0.length : Int)) = false := decide_eq_false c2
        clear c2
        obtain rfl := Option.some.inj H
        go_wp2
        go_ret
        exact ⟨by first | rfl | (simp; done) | (simp [*]; done), by repeat (first | exact Drawn0.refl _ | apply Drawn0.step)⟩
end Go.Proofs.Ytdkjhcdniepbhaa.P
end
section
set_option linter.unusedVariables false
set_option linter.unusedSimpArgs false
namespace Go.Proofs.Ytdkjhcdniepbhaa.P
open Go.RowKit Go.Proofs.PrintWords Go.Proofs.PrintLast Go.Proofs.PrintMore
attribute [local go_sem] max2_int min2_int max_two min_two max_three min_three max_four min_four
def catamaranref05_Pending.l0 : Nat → Int → Int → List (S39) → List (S49) → Option (Bool)
  | 0, _, _, _, _ => none
  | k + 1, x1, x5, x1000, x1001 => if x5 < (x1001.length : Int) then (if 0 ≤ x5 then (if ((rd_T49 x1001 x5).f0) = x1 then (some true) else (catamaranref05_Pending.l0 k x1 (wrap64 (x5 + 1)) x1000 x1001)) else (none)) else (some false)
def catamaranref05_Pending.f (k : Nat) (l0_0 : List (S39)) (l0_1 : List (S49)) (a1 : Int) : Option (Bool) := catamaranref05_Pending.l0 k a1 0 l0_0 l0_1
theorem catamaranref05_Pending.mono_l : ∀ k, (∀ y0 y1 y2 y3, LeO (catamaranref05_Pending.l0 k y0 y1 y2 y3) (catamaranref05_Pending.l0 (k + 1) y0 y1 y2 y3))
  | 0 => fun _ _ _ _ r h => by simp [catamaranref05_Pending.l0] at h
  | k + 1 => by
    have ih0 := catamaranref05_Pending.mono_l k
    · intro y0 y1 y2 y3
      unfold catamaranref05_Pending.l0
      repeat' first
      | (with_reducible exact ih0 _ _ _ _)
      | (with_reducible exact LeO.refl _)
      | (with_reducible exact LeO.none _)
      | (with_reducible refine LeO.ite ?_ ?_)
      | (with_reducible refine LeO.bind ?_ (fun _ => ?_))
      | exact ih0 _ _ _ _
      | exact LeO.none _
      | refine LeO.ite ?_ ?_
      | refine LeO.bind ?_ (fun _ => ?_)
theorem catamaranref05_Pending.mono : ∀ a0 a1 a2 k, LeO (catamaranref05_Pending.f k a0 a1 a2) (catamaranref05_Pending.f (k + 1) a0 a1 a2) := by
  intro a0 a1 a2 k
  have ih0 := catamaranref05_Pending.mono_l k
  unfold catamaranref05_Pending.f
  repeat' first
      | (with_reducible exact ih0 _ _ _ _)
      | (with_reducible exact LeO.refl _)
      | (with_reducible exact LeO.none _)
      | (with_reducible refine LeO.ite ?_ ?_)
      | (with_reducible refine LeO.bind ?_ (fun _ => ?_))
      | exact ih0 _ _ _ _
      | exact LeO.none _
      | refine LeO.ite ?_ ?_
      | refine LeO.bind ?_ (fun _ => ?_)
set_option maxHeartbeats 8000000 in
set_option maxRecDepth 100000 in
theorem catamaranref05_Pending.calls (k : Nat) (A0_0 : Option Addr) (c0_0 : Nat) (l0_0 : List (S39)) (A0_1 : Option Addr) (c0_1 : Nat) (l0_1 : List (S49)) (a1 : Int) (r : Bool) (w : World) (hr0_0 : Kd.C k39 w A0_0 l0_0.length l0_0) (hc0_0 : l0_0.length ≤ c0_0) (hr0_1 : Kd.C k49 w A0_1 l0_1.length l0_1) (hc0_1 : l0_1.length ≤ c0_1) (h : catamaranref05_Pending.f k l0_0 l0_1 a1 = some r) :
    Calls Try.prog 118 #[.agg #[.slice A0_0 l0_0.length c0_0, .slice A0_1 l0_1.length c0_1], .int .i64 a1] w fun e w' => e = .returned (.bool r) ∧ Below w.heap.size w w' := by
  have hu25 := Try.underlying25
  have HR0_0 := Aside0.mk hr0_0
  have HC0_0 := Aside0.mk hc0_0
  clear hr0_0 hc0_0
  have HR0_1 := Aside0.mk hr0_1
  have HC0_1 := Aside0.mk hc0_1
  clear hr0_1 hc0_1
  have HB := Aside0.mk (Below.refl w.heap.size w)
  have H : (catamaranref05_Pending.l0 k a1 0 l0_0 l0_1) = some r := h
  clear h
  have H' := Aside0.mk H
  clear H
  go_enter Try.func118, Try.ntmps118
  go_wp2_with (first | ((with_reducible refine gate_dst (N := 2) rfl ?_); refine box_event ?hg (N := 2) ?hd (cs := #[.slice A0_0 l0_0.length c0_0, .slice A0_1 l0_1.length c0_1]) (t := 25) ?hr ?_; (case hd => rfl); (case hg => rfl); (case hr => first | (go_simp; done) | (go_simp; rfl)); intro gb1002 hg w3 hbox hb; have n0_ := Aside0.mk (below_step (by repeat (first | (with_reducible first | exact HB.out | apply below_alloc | apply pbdN | apply bdr1) | exact HB.out)) hb); have n1_ := Aside0.mk (hbox); have n2_ := Aside0.mk ((by rw [hg]; exact (below_size (by repeat (first | (with_reducible first | exact HB.out | apply below_alloc | apply pbdN | apply bdr1) | exact HB.out))) : w.heap.size ≤ gb1002)); have n3_ := Aside0.mk ((by rw [hg]; exact (below_size (by repeat (first | (with_reducible first | exact HB.out | apply below_alloc | apply pbdN | apply bdr1) | exact HB.out))) : w.heap.size ≤ gb1002)); clear HB; have HB := n0_; have BK1002 := n1_; have GW1002 := n2_; have GE1002 := n3_; clear n0_ n1_ n2_ n3_; clear hb hbox hg))
  go_loopg [5] k (fun kq v5 w' => ∃ (x5_1 : Int), v5 = .int .i64 x5_1 ∧ Aside0 (catamaranref05_Pending.l0 kq a1 x5_1 l0_0 l0_1 = some r) ∧ Aside0 (kq ≤ k) ∧ Aside0 (w'.heap[gb1002]? = some (.cells #[(.slice A0_0 l0_0.length c0_0), (.slice A0_1 l0_1.length c0_1)] 25 (0, 0))) ∧ Aside0 (Below w.heap.size w w'))
  case atStart => exact ⟨(0), (by first | rfl | (simp; done) | (simp [*]; done)), H', ⟨Nat.le_refl _⟩, ⟨by (with_reducible repeat (first | refine blk_drewN ?_ _ | refine blk_drew ?_ | refine blk_alloc ?_ _)); exact BK1002.out⟩, ⟨by repeat (first | (with_reducible first | exact HB.out | apply below_alloc | apply pbdN | apply bdr1 | refine below_set ?_ GE1002.out) | exact HB.out)⟩⟩
  case round =>
    clear H'
    try clear c1
    try clear p2
    obtain ⟨x5_1, rfl, HA, HK1, BK1002, HB⟩ := hrel
    cases gk with
    | zero => exact absurd HA.out (by simp [catamaranref05_Pending.l0])
    | succ k1 =>
      have H := HA.out
      clear HA
      simp only [catamaranref05_Pending.l0] at H
      by_cases c4 : x5_1 < (l0_1.length : Int)
      · rw [if_pos c4] at H
        have c4b0 : decide (x5_1 < (l0_1.length : Int)) = true := decide_eq_true c4
        clear c4
        by_cases c5 : 0 ≤ x5_1
        · rw [if_pos c5] at H
          have c5b0 : decide (0 ≤ x5_1) = true := decide_eq_true c5
          clear c5
          by_cases c6 : ((rd_T49 l0_1 x5_1).f0) = a1
          · rw [if_pos c6] at H
            have c6b0 : (((rd_T49 l0_1 x5_1).f0) == a1) = true := beq_iff_eq.mpr c6
            have c6b1 : (((rd_T49 l0_1 x5_1).f0) != a1) = false := bne_eq_false_iff_eq.mpr c6
            clear c6
            obtain rfl := Option.some.inj H
            have hcz7_0 : wr.cell? ⟨gb1002, 0, none⟩ = some (.slice A0_0 l0_0.length c0_0) := (blk_cell BK1002.out 0).trans rfl
            have hcz7_1 : wr.cell? ⟨gb1002, 1, none⟩ = some (.slice A0_1 l0_1.length c0_1) := (blk_cell BK1002.out 1).trans rfl
            have hfz7_0 := blk_frozen BK1002.out 0
            have hfz7_1 := blk_frozen BK1002.out 1
            have p1003 : 0 ≤ (x5_1 : Int) := of_decide_eq_true (by first | (with_reducible assumption) | assumption)
            have q1003 : x5_1 < (l0_1.length : Int) := of_decide_eq_true (by first | (with_reducible assumption) | assumption)
            obtain ⟨ad1003, A1003_1, c1003_1, e1003, hx1003_0, hx1003_1, hl1003_1, hi1003_1⟩ := at_T49 HR0_1.out x5_1 p1003 q1003
            cases e1003
            replace hx1003_0 := (HB.out.cell (World.block_lt_of_cell? w _ hx1003_0)).trans hx1003_0
            replace hx1003_1 := (HB.out.cell (World.block_lt_of_cell? w _ hx1003_1)).trans hx1003_1
            have HR1003_1 := Aside0.mk hi1003_1
            have HC1003_1 := Aside0.mk hl1003_1
            clear hi1003_1 hl1003_1
            replace p1003 := eq_true p1003
            replace q1003 := eq_true q1003
            go_wp2
            go_ret
            exact ⟨by first | rfl | (simp [errW_none, errW_some] <;> rfl) | (simp [*, errW_none, errW_some] <;> rfl), by repeat (first | (with_reducible first | exact HB.out | apply below_alloc | apply pbdN | apply bdr1 | refine below_set ?_ GE1002.out) | exact HB.out)⟩
          · rw [if_neg c6] at H
            have c6b0 : (((rd_T49 l0_1 x5_1).f0) == a1) = false := beq_eq_false_iff_ne.mpr c6
            have c6b1 : (((rd_T49 l0_1 x5_1).f0) != a1) = true := bne_iff_ne.mpr c6
            have H' := Aside0.mk H
            clear H
            have hcz8_0 : wr.cell? ⟨gb1002, 0, none⟩ = some (.slice A0_0 l0_0.length c0_0) := (blk_cell BK1002.out 0).trans rfl
            have hcz8_1 : wr.cell? ⟨gb1002, 1, none⟩ = some (.slice A0_1 l0_1.length c0_1) := (blk_cell BK1002.out 1).trans rfl
            have hfz8_0 := blk_frozen BK1002.out 0
            have hfz8_1 := blk_frozen BK1002.out 1
            have p1003 : 0 ≤ (x5_1 : Int) := of_decide_eq_true (by first | (with_reducible assumption) | assumption)
            have q1003 : x5_1 < (l0_1.length : Int) := of_decide_eq_true (by first | (with_reducible assumption) | assumption)
            obtain ⟨ad1003, A1003_1, c1003_1, e1003, hx1003_0, hx1003_1, hl1003_1, hi1003_1⟩ := at_T49 HR0_1.out x5_1 p1003 q1003
            cases e1003
            replace hx1003_0 := (HB.out.cell (World.block_lt_of_cell? w _ hx1003_0)).trans hx1003_0
            replace hx1003_1 := (HB.out.cell (World.block_lt_of_cell? w _ hx1003_1)).trans hx1003_1
            have HR1003_1 := Aside0.mk hi1003_1
            have HC1003_1 := Aside0.mk hl1003_1
            clear hi1003_1 hl1003_1
            replace p1003 := eq_true p1003
            replace q1003 := eq_true q1003
            go_wp2
            go_roundg k1
            case measure => have := HK1.out; omega
            case rel => exact ⟨(wrap64 (x5_1 + 1)), (by first | rfl | (simp; done) | (simp [*]; done)), H', ⟨by have := HK1.out; omega⟩, ⟨by (with_reducible repeat (first | refine blk_drewN ?_ _ | refine blk_drew ?_ | refine blk_alloc ?_ _)); exact BK1002.out⟩, ⟨by repeat (first | (with_reducible first | exact HB.out | apply below_alloc | apply pbdN | apply bdr1 | refine below_set ?_ GE1002.out) | exact HB.out)⟩⟩
        · rw [if_neg c5] at H
          exact absurd H (by simp)
      · rw [if_neg c4] at H
        have c4b0 : decide (x5_1 < (l0_1.length : Int)) = false := decide_eq_false c4
        clear c4
        obtain rfl := Option.some.inj H
        have hcz9_0 : wr.cell? ⟨gb1002, 0, none⟩ = some (.slice A0_0 l0_0.length c0_0) := (blk_cell BK1002.out 0).trans rfl
        have hcz9_1 : wr.cell? ⟨gb1002, 1, none⟩ = some (.slice A0_1 l0_1.length c0_1) := (blk_cell BK1002.out 1).trans rfl
        have hfz9_0 := blk_frozen BK1002.out 0
        have hfz9_1 := blk_frozen BK1002.out 1
        go_wp2
        go_ret
        exact ⟨by first | rfl | (simp [errW_none, errW_some] <;> rfl) | (simp [*, errW_none, errW_some] <;> rfl), by repeat (first | (with_reducible first | exact HB.out | apply below_alloc | apply pbdN | apply bdr1 | refine below_set ?_ GE1002.out) | exact HB.out)⟩
end Go.Proofs.Ytdkjhcdniepbhaa.P
end
section
set_option linter.unusedVariables false
set_option linter.unusedSimpArgs false
namespace Go.Proofs.Ytdkjhcdniepbhaa.P
open Go.RowKit Go.Proofs.PrintWords Go.Proofs.PrintLast Go.Proofs.PrintMore
attribute [local go_sem] max2_int min2_int max_two min_two max_three min_three max_four min_four
def num_Size.l0 : Nat → Int → List Int → Int → Int → Option (Int × Int)
  | 0, _, _, _, _ => none
  | k + 1, x2, x9, x10, x11 => if x11 < x10 then (if 0 ≤ x11 then (if x11 < (x9.length : Int) then (if (rd x9 x11) < 1 then (some (0, 2)) else (if (rd x9 x11) > 8 then (some (0, 2)) else (num_Size.l0 k (wrap64 (x2 + (rd x9 x11))) x9 x10 (wrap64 (x11 + 1))))) else (none)) else (none)) else (some (x2, 0))
def num_Size.f (k : Nat) (l0 : List Int) : Option (Int × Int) := if (l0.length : Int) > 16 then (some (0, 2)) else (num_Size.l0 k 0 l0 (l0.length : Int) 0)
theorem num_Size.mono_l : ∀ k, (∀ y0 y1 y2 y3, LeO (num_Size.l0 k y0 y1 y2 y3) (num_Size.l0 (k + 1) y0 y1 y2 y3))
  | 0 => fun _ _ _ _ r h => by simp [num_Size.l0] at h
  | k + 1 => by
    have ih0 := num_Size.mono_l k
    · intro y0 y1 y2 y3
      unfold num_Size.l0
      repeat' first
      | (with_reducible exact ih0 _ _ _ _)
      | (with_reducible exact LeO.refl _)
      | (with_reducible exact LeO.none _)
      | (with_reducible refine LeO.ite ?_ ?_)
      | (with_reducible refine LeO.bind ?_ (fun _ => ?_))
      | exact ih0 _ _ _ _
      | exact LeO.none _
      | refine LeO.ite ?_ ?_
      | refine LeO.bind ?_ (fun _ => ?_)
theorem num_Size.mono : ∀ a0 k, LeO (num_Size.f k a0) (num_Size.f (k + 1) a0) := by
  intro a0 k
  have ih0 := num_Size.mono_l k
  unfold num_Size.f
  repeat' first
      | (with_reducible exact ih0 _ _ _ _)
      | (with_reducible exact LeO.refl _)
      | (with_reducible exact LeO.none _)
      | (with_reducible refine LeO.ite ?_ ?_)
      | (with_reducible refine LeO.bind ?_ (fun _ => ?_))
      | exact ih0 _ _ _ _
      | exact LeO.none _
      | refine LeO.ite ?_ ?_
      | refine LeO.bind ?_ (fun _ => ?_)
set_option maxHeartbeats 8000000 in
set_option maxRecDepth 100000 in
theorem num_Size.calls (k : Nat) (A0 : Option Addr) (c0 : Nat) (l0 : List Int) (r1 : Int) (r2 : Int) (w : World) (hr0 : Kd.C (Kd.int .i64) w A0 l0.length l0) (hc0 : l0.length ≤ c0) (h : num_Size.f k l0 = some (r1, r2)) :
    Calls Try.prog 98 #[.slice A0 l0.length c0] w fun e w' => e = .returned (.tuple #[.int .i64 r1, .int .i64 r2]) ∧ Drawn0 w w' := by
  have HR0 := Aside0.mk hr0
  have HC0 := Aside0.mk hc0
  clear hr0 hc0
  have H : (if (l0.length : Int) > 16 then (some (0, 2)) else (num_Size.l0 k 0 l0 (l0.length : Int) 0)) = some (r1, r2) := h
  clear h
  by_cases c2 : (l0.length : Int) > 16
  · rw [if_pos c2] at H
    have c2b0 : decide (16 < (l0.length : Int)) = true := decide_eq_true c2
    have c2b1 : decide (16 < l0.length) = true := decide_eq_true (by omega)
    clear c2
    simp only [Option.some.injEq, Prod.mk.injEq] at H
    obtain ⟨rfl, rfl⟩ := H
    go_enter Try.func98, Try.ntmps98
    go_wp2
    go_ret2
    exact ⟨by first | rfl | (simp; done) | (simp [*]; done), by repeat (first | exact Drawn0.refl _ | apply Drawn0.step)⟩
  · rw [if_neg c2] at H
    have c2b0 : decide (16 < (l0.length : Int)) = false := decide_eq_false c2
    have c2b1 : decide (16 < l0.length) = false := decide_eq_false (by omega)
    clear c2
    have H' := Aside0.mk H
    clear H
    go_enter Try.func98, Try.ntmps98
    go_wp2
    go_loopg [2, 11] k (fun kq v2 v11 w' => ∃ (x2_1 : Int) (x11_1 : Int), v2 = .int .i64 x2_1 ∧ v11 = .int .i64 x11_1 ∧ Aside0 (num_Size.l0 kq x2_1 l0 (l0.length : Int) x11_1 = some (r1, r2)) ∧ Aside0 (kq ≤ k) ∧ Drawn0 w w')
    case atStart => exact ⟨(0), (0), (by first | rfl | (simp; done) | (simp [*]; done)), (by first | rfl | (simp; done) | (simp [*]; done)), H', ⟨Nat.le_refl _⟩, by repeat (first | exact Drawn0.refl _ | apply Drawn0.step)⟩
    case round =>
      clear H'
      try clear c2
      try clear c2b0
      try clear c2b1
      try clear p2
      obtain ⟨x2_1, x11_1, rfl, rfl, HA, HK1, ⟨m1, rfl⟩⟩ := hrel
      cases gk with
      | zero => exact absurd HA.out (by simp [num_Size.l0])
      | succ k1 =>
        have H := HA.out
        clear HA
        simp only [num_Size.l0] at H
        by_cases c3 : x11_1 < (l0.length : Int)
        · rw [if_pos c3] at H
          have c3b0 : decide (x11_1 < (l0.length : Int)) = true := decide_eq_true c3
          clear c3
          by_cases c4 : 0 ≤ x11_1
          · rw [if_pos c4] at H
            have c4b0 : decide (0 ≤ x11_1) = true := decide_eq_true c4
            clear c4
            by_cases c5 : x11_1 < (l0.length : Int)
            · rw [if_pos c5] at H
              have c5b0 : decide (x11_1 < (l0.length : Int)) = true := decide_eq_true c5
              clear c5
              by_cases c6 : (rd l0 x11_1) < 1
              · rw [if_pos c6] at H
                have c6b0 : decide ((rd l0 x11_1) < 1) = true := decide_eq_true c6
                clear c6
                simp only [Option.some.injEq, Prod.mk.injEq] at H
                obtain ⟨rfl, rfl⟩ := H
                have p1000 : 0 ≤ (x11_1 : Int) := of_decide_eq_true (by first | (with_reducible assumption) | assumption)
                have q1000 : x11_1 < (l0.length : Int) := of_decide_eq_true (by first | (with_reducible assumption) | assumption)
                obtain ⟨ad1000, e1000, hx1000_0⟩ := Kd.at_int HR0.out x11_1 p1000 q1000
                cases e1000
                replace p1000 := eq_true p1000
                replace q1000 := eq_true q1000
                go_wp2
                go_ret2
                exact ⟨by first | rfl | (simp; done) | (simp [*]; done), by repeat (first | exact Drawn0.refl _ | apply Drawn0.step)⟩
              · rw [if_neg c6] at H
                have c6b0 : decide ((rd l0 x11_1) < 1) = false := decide_eq_false c6
                clear c6
                by_cases c7 : (rd l0 x11_1) > 8
                · rw [if_pos c7] at H
                  have c7b0 : decide (8 < (rd l0 x11_1)) = true := decide_eq_true c7
                  clear c7
                  simp only [Option.some.injEq, Prod.mk.injEq] at H
                  obtain ⟨rfl, rfl⟩ := H
                  have p1000 : 0 ≤ (x11_1 : Int) := of_decide_eq_true (by first | (with_reducible assumption) | assumption)
                  have q1000 : x11_1 < (l0.length : Int) := of_decide_eq_true (by first | (with_reducible assumption) | assumption)
                  obtain ⟨ad1000, e1000, hx1000_0⟩ := Kd.at_int HR0.out x11_1 p1000 q1000
                  cases e1000
                  replace p1000 := eq_true p1000
                  replace q1000 := eq_true q1000
                  go_wp2
                  go_ret2
                  exact ⟨by first | rfl | (simp; done) | (simp [*]; done), by repeat (first | exact Drawn0.refl _ | apply Drawn0.step)⟩
                · rw [if_neg c7] at H
                  have c7b0 : decide (8 < (rd l0 x11_1)) = false := decide_eq_false c7
                  clear c7
                  have H' := Aside0.mk H
                  clear H
                  have p1000 : 0 ≤ (x11_1 : Int) := of_decide_eq_true (by first | (with_reducible assumption) | assumption)
                  have q1000 : x11_1 < (l0.length : Int) := of_decide_eq_true (by first | (with_reducible assumption) | assumption)
                  obtain ⟨ad1000, e1000, hx1000_0⟩ := Kd.at_int HR0.out x11_1 p1000 q1000
                  cases e1000
                  replace p1000 := eq_true p1000
                  replace q1000 := eq_true q1000
                  go_wp2
                  go_roundg k1
                  case measure => have := HK1.out; omega
                  case rel => exact ⟨(wrap64 (x2_1 + (rd l0 x11_1))), (wrap64 (x11_1 + 1)), (by first | rfl | (simp; done) | (simp [*]; done)), (by first | rfl | (simp; done) | (simp [*]; done)), H', ⟨by have := HK1.out; omega⟩, by repeat (first | exact Drawn0.refl _ | apply Drawn0.step)⟩
            · rw [if_neg c5] at H
              exact absurd H (by simp)
          · rw [if_neg c4] at H
            exact absurd H (by simp)
        · rw [if_neg c3] at H
          have c3b0 : decide (x11_1 < (l0.length : Int)) = false := decide_eq_false c3
          clear c3
          simp only [Option.some.injEq, Prod.mk.injEq] at H
          obtain ⟨rfl, rfl⟩ := H
          go_wp2
          go_ret2
          exact ⟨by first | rfl | (simp; done) | (simp [*]; done), by repeat (first | exact Drawn0.refl _ | apply Drawn0.step)⟩
end Go.Proofs.Ytdkjhcdniepbhaa.P
end
section
set_option linter.unusedVariables false
set_option linter.unusedSimpArgs false
namespace Go.Proofs.Ytdkjhcdniepbhaa.P
open Go.RowKit Go.Proofs.PrintWords Go.Proofs.PrintLast Go.Proofs.PrintMore
attribute [local go_sem] max2_int min2_int max_two min_two max_three min_three max_four min_four
def place_pages.f (a0_0 : Int) (a0_1 : Int) (a0_2 : Int) (a0_3 : Int) (a0_4 : Int) (a0_5 : Int) : Option (Int) := some (wrap64 (Int.tdiv (wrap64 ((wrap64 (a0_1 + 8)) - 1)) 8))
set_option maxHeartbeats 8000000 in
set_option maxRecDepth 100000 in
theorem place_pages.calls (a0_0 : Int) (a0_1 : Int) (a0_2 : Int) (a0_3 : Int) (a0_4 : Int) (a0_5 : Int) (r : Int) (w : World) (h : place_pages.f a0_0 a0_1 a0_2 a0_3 a0_4 a0_5 = some r) :
    Calls Try.prog 110 #[.agg #[.int .i64 a0_0, .int .i64 a0_1, .int .i64 a0_2, .int .i64 a0_3, .int .i64 a0_4, .int .i64 a0_5]] w fun e w' => e = .returned (.int .i64 r) ∧ Below w.heap.size w w' := by
  have hu44 := Try.underlying44
  have HB := Aside0.mk (Below.refl w.heap.size w)
  have H : (some (wrap64 (Int.tdiv (wrap64 ((wrap64 (a0_1 + 8)) - 1)) 8))) = some r := h
  clear h
  obtain rfl := Option.some.inj H
  go_enter Try.func110, Try.ntmps110
  go_wp2_with (first | ((with_reducible refine gate_dst (N := 1) rfl ?_); refine box_event ?hg (N := 1) ?hd (cs := #[.int .i64 a0_0, .int .i64 a0_1, .int .i64 a0_2, .int .i64 a0_3, .int .i64 a0_4, .int .i64 a0_5]) (t := 44) ?hr ?_; (case hd => rfl); (case hg => rfl); (case hr => first | (go_simp; done) | (go_simp; rfl)); intro gb1000 hg w2 hbox hb; have n0_ := Aside0.mk (below_step (by repeat (first | (with_reducible first | exact HB.out | apply below_alloc | apply pbdN | apply bdr1) | exact HB.out)) hb); have n1_ := Aside0.mk (hbox); have n2_ := Aside0.mk ((by rw [hg]; exact (below_size (by repeat (first | (with_reducible first | exact HB.out | apply below_alloc | apply pbdN | apply bdr1) | exact HB.out))) : w.heap.size ≤ gb1000)); have n3_ := Aside0.mk ((by rw [hg]; exact (below_size (by repeat (first | (with_reducible first | exact HB.out | apply below_alloc | apply pbdN | apply bdr1) | exact HB.out))) : w.heap.size ≤ gb1000)); clear HB; have HB := n0_; have BK1000 := n1_; have GW1000 := n2_; have GE1000 := n3_; clear n0_ n1_ n2_ n3_; clear hb hbox hg; have hcz3_0 : w2.cell? ⟨gb1000, 0, none⟩ = some (.int .i64 a0_0) := (blk_cell BK1000.out 0).trans rfl; have hcz3_1 : w2.cell? ⟨gb1000, 1, none⟩ = some (.int .i64 a0_1) := (blk_cell BK1000.out 1).trans rfl; have hcz3_2 : w2.cell? ⟨gb1000, 2, none⟩ = some (.int .i64 a0_2) := (blk_cell BK1000.out 2).trans rfl; have hcz3_3 : w2.cell? ⟨gb1000, 3, none⟩ = some (.int .i64 a0_3) := (blk_cell BK1000.out 3).trans rfl; have hcz3_4 : w2.cell? ⟨gb1000, 4, none⟩ = some (.int .i64 a0_4) := (blk_cell BK1000.out 4).trans rfl; have hcz3_5 : w2.cell? ⟨gb1000, 5, none⟩ = some (.int .i64 a0_5) := (blk_cell BK1000.out 5).trans rfl; have hfz3_0 := blk_frozen BK1000.out 0; have hfz3_1 := blk_frozen BK1000.out 1; have hfz3_2 := blk_frozen BK1000.out 2; have hfz3_3 := blk_frozen BK1000.out 3; have hfz3_4 := blk_frozen BK1000.out 4; have hfz3_5 := blk_frozen BK1000.out 5))
  go_ret
  exact ⟨by first | rfl | (simp [errW_none, errW_some] <;> rfl) | (simp [*, errW_none, errW_some] <;> rfl), by repeat (first | (with_reducible first | exact HB.out | apply below_alloc | apply pbdN | apply bdr1 | refine below_set ?_ GE1000.out) | exact HB.out)⟩
end Go.Proofs.Ytdkjhcdniepbhaa.P
end
section
set_option linter.unusedVariables false
set_option linter.unusedSimpArgs false
namespace Go.Proofs.Ytdkjhcdniepbhaa.P
open Go.RowKit Go.Proofs.PrintWords Go.Proofs.PrintLast Go.Proofs.PrintMore
attribute [local go_sem] max2_int min2_int max_two min_two max_three min_three max_four min_four
def place_part_size.f (a0_0 : Int) (a0_1 : Int) (a0_2 : Int) (a0_3 : Int) : Option (Int) := some (wrap64 ((wrap64 (a0_1 * a0_2)) * a0_3))
set_option maxHeartbeats 8000000 in
set_option maxRecDepth 100000 in
theorem place_part_size.calls (a0_0 : Int) (a0_1 : Int) (a0_2 : Int) (a0_3 : Int) (r : Int) (w : World) (h : place_part_size.f a0_0 a0_1 a0_2 a0_3 = some r) :
    Calls Try.prog 124 #[.agg #[.int .u8 a0_0, .int .i64 a0_1, .int .i64 a0_2, .int .i64 a0_3]] w fun e w' => e = .returned (.int .i64 r) ∧ Below w.heap.size w w' := by
  have hu1000 := Try.underlying179
  have HB := Aside0.mk (Below.refl w.heap.size w)
  have H : (some (wrap64 ((wrap64 (a0_1 * a0_2)) * a0_3))) = some r := h
  clear h
  obtain rfl := Option.some.inj H
  go_enter Try.func124, Try.ntmps124
  go_wp2_with (first | ((with_reducible refine gate_dst (N := 1) rfl ?_); refine box_event ?hg (N := 1) ?hd (cs := #[.int .u8 a0_0, .int .i64 a0_1, .int .i64 a0_2, .int .i64 a0_3]) (t := 179) ?hr ?_; (case hd => rfl); (case hg => rfl); (case hr => first | (go_simp; done) | (go_simp; rfl)); intro gb1001 hg w2 hbox hb; have n0_ := Aside0.mk (below_step (by repeat (first | (with_reducible first | exact HB.out | apply below_alloc | apply pbdN | apply bdr1) | exact HB.out)) hb); have n1_ := Aside0.mk (hbox); have n2_ := Aside0.mk ((by rw [hg]; exact (below_size (by repeat (first | (with_reducible first | exact HB.out | apply below_alloc | apply pbdN | apply bdr1) | exact HB.out))) : w.heap.size ≤ gb1001)); have n3_ := Aside0.mk ((by rw [hg]; exact (below_size (by repeat (first | (with_reducible first | exact HB.out | apply below_alloc | apply pbdN | apply bdr1) | exact HB.out))) : w.heap.size ≤ gb1001)); clear HB; have HB := n0_; have BK1001 := n1_; have GW1001 := n2_; have GE1001 := n3_; clear n0_ n1_ n2_ n3_; clear hb hbox hg; have hcz3_0 : w2.cell? ⟨gb1001, 0, none⟩ = some (.int .u8 a0_0) := (blk_cell BK1001.out 0).trans rfl; have hcz3_1 : w2.cell? ⟨gb1001, 1, none⟩ = some (.int .i64 a0_1) := (blk_cell BK1001.out 1).trans rfl; have hcz3_2 : w2.cell? ⟨gb1001, 2, none⟩ = some (.int .i64 a0_2) := (blk_cell BK1001.out 2).trans rfl; have hcz3_3 : w2.cell? ⟨gb1001, 3, none⟩ = some (.int .i64 a0_3) := (blk_cell BK1001.out 3).trans rfl; have hfz3_0 := blk_frozen BK1001.out 0; have hfz3_1 := blk_frozen BK1001.out 1; have hfz3_2 := blk_frozen BK1001.out 2; have hfz3_3 := blk_frozen BK1001.out 3))
  go_ret
  exact ⟨by first | rfl | (simp [errW_none, errW_some] <;> rfl) | (simp [*, errW_none, errW_some] <;> rfl), by repeat (first | (with_reducible first | exact HB.out | apply below_alloc | apply pbdN | apply bdr1 | refine below_set ?_ GE1001.out) | exact HB.out)⟩
end Go.Proofs.Ytdkjhcdniepbhaa.P
end
section
set_option linter.unusedVariables false
set_option linter.unusedSimpArgs false
namespace Go.Proofs.Ytdkjhcdniepbhaa.P
open Go.RowKit Go.Proofs.PrintWords Go.Proofs.PrintLast Go.Proofs.PrintMore
attribute [local go_sem] max2_int min2_int max_two min_two max_three min_three max_four min_four
def place_parts.f (a0_0 : Int) (a0_1 : Int) (a0_2 : Int) (a0_3 : Int) (a0_4 : Int) (a0_5 : Int) : Option (Int × Int × Int × Int × Int × Int × Int × Int × Int × Int × Int × Int × Int × Int × Int × Int) := (place_pages.f a0_0 a0_1 a0_2 a0_3 a0_4 a0_5).bind fun t1000 => (some (1, 1, 1, 2, 2, 2, a0_2, 1, 3, a0_0, t1000, 1, 4, a0_0, a0_1, 4))
def place_parts.T1 : Bool × List (List Nat × List Nat) := (true, [([], []), ([], []), ([1], [1]), ([2], [2]), ([], []), ([4], [4]), ([], []), ([6], [6]), ([5, 7], [5, 7]), ([], []), ([9], [9]), ([], []), ([11], [11]), ([10, 12], [10, 12]), ([0, 3, 8, 13], [0, 3, 8, 13]), ([14, 7, 0, 1, 2, 3, 4, 5, 6, 7, 8, 9, 10, 11, 12, 13, 14], [14])])
def place_parts.B1 : List Nat := [0, 0, 2, 6, 0, 16, 0, 64, 240, 0, 512, 0, 2048, 7680, 16383, 32767]
theorem place_parts.tab1 : rtab .any (opsOf Try.f123 1) = place_parts.T1 := by kernel_rfl
theorem place_parts.bits1 : waitsOk place_parts.T1.2 place_parts.B1 = true := by kernel_rfl
set_option maxHeartbeats 8000000 in
set_option maxRecDepth 100000 in
theorem place_parts.calls (a0_0 : Int) (a0_1 : Int) (a0_2 : Int) (a0_3 : Int) (a0_4 : Int) (a0_5 : Int) (r1 : Int) (r2 : Int) (r3 : Int) (r4 : Int) (r5 : Int) (r6 : Int) (r7 : Int) (r8 : Int) (r9 : Int) (r10 : Int) (r11 : Int) (r12 : Int) (r13 : Int) (r14 : Int) (r15 : Int) (r16 : Int) (w : World) (h : place_parts.f a0_0 a0_1 a0_2 a0_3 a0_4 a0_5 = some (r1, r2, r3, r4, r5, r6, r7, r8, r9, r10, r11, r12, r13, r14, r15, r16)) :
    Calls Try.prog 123 #[.agg #[.int .i64 a0_0, .int .i64 a0_1, .int .i64 a0_2, .int .i64 a0_3, .int .i64 a0_4, .int .i64 a0_5]] w fun e w' => e = .returned (.agg #[.int .u8 r1, .int .i64 r2, .int .i64 r3, .int .i64 r4, .int .u8 r5, .int .i64 r6, .int .i64 r7, .int .i64 r8, .int .u8 r9, .int .i64 r10, .int .i64 r11, .int .i64 r12, .int .u8 r13, .int .i64 r14, .int .i64 r15, .int .i64 r16]) ∧ Below w.heap.size w w' := by
  have hu44 := Try.underlying44
  have hu1001 := Try.underlying180
  have hu1002 := Try.underlying179
  have HB := Aside0.mk (Below.refl w.heap.size w)
  have H : ((place_pages.f a0_0 a0_1 a0_2 a0_3 a0_4 a0_5).bind fun t1000 => (some (1, 1, 1, 2, 2, 2, a0_2, 1, 3, a0_0, t1000, 1, 4, a0_0, a0_1, 4))) = some (r1, r2, r3, r4, r5, r6, r7, r8, r9, r10, r11, r12, r13, r14, r15, r16) := h
  clear h
  replace H := Option.bind_eq_some_iff.mp H
  obtain ⟨t1000, A20, H⟩ := H
  replace H : (some (1, 1, 1, 2, 2, 2, a0_2, 1, 3, a0_0, t1000, 1, 4, a0_0, a0_1, 4)) = some (r1, r2, r3, r4, r5, r6, r7, r8, r9, r10, r11, r12, r13, r14, r15, r16) := H
  have A2 := Aside0.mk A20
  clear A20
  simp only [Option.some.injEq, Prod.mk.injEq] at H
  obtain ⟨rfl, rfl, rfl, rfl, rfl, rfl, rfl, rfl, rfl, rfl, rfl, rfl, rfl, rfl, rfl, rfl⟩ := H
  go_enter Try.func123, Try.ntmps123
  try go_wp2_with (first | ((with_reducible refine gate_dst (N := 1) rfl ?_); refine box_event ?hg (N := 1) ?hd (cs := #[.int .i64 a0_0, .int .i64 a0_1, .int .i64 a0_2, .int .i64 a0_3, .int .i64 a0_4, .int .i64 a0_5]) (t := 44) ?hr ?_; (case hd => rfl); (case hg => rfl); (case hr => first | (go_simp; done) | (go_simp; rfl)); intro gb1003 hg w3 hbox hb; have n0_ := Aside0.mk (below_step (by repeat (first | (with_reducible first | exact HB.out | apply below_alloc | apply pbdN | apply bdr1) | exact HB.out)) hb); have n1_ := Aside0.mk (hbox); have n2_ := Aside0.mk ((by rw [hg]; exact (below_size (by repeat (first | (with_reducible first | exact HB.out | apply below_alloc | apply pbdN | apply bdr1) | exact HB.out))) : w.heap.size ≤ gb1003)); have n3_ := Aside0.mk ((by rw [hg]; exact (below_size (by repeat (first | (with_reducible first | exact HB.out | apply below_alloc | apply pbdN | apply bdr1) | exact HB.out))) : w.heap.size ≤ gb1003)); clear HB; have HB := n0_; have BK1003 := n1_; have GW1003 := n2_; have GE1003 := n3_; clear n0_ n1_ n2_ n3_; clear hb hbox hg) | ((with_reducible refine gate_dst (N := 2) rfl ?_); refine box_event ?hg (N := 2) ?hd (cs := #[.int .u8 0, .int .i64 0, .int .i64 0, .int .i64 0, .int .u8 0, .int .i64 0, .int .i64 0, .int .i64 0, .int .u8 0, .int .i64 0, .int .i64 0, .int .i64 0, .int .u8 0, .int .i64 0, .int .i64 0, .int .i64 0]) (t := 180) ?hr ?_; (case hd => rfl); (case hg => rfl); (case hr => first | (go_simp; done) | (go_simp; rfl)); intro gb1004 hg w4 hbox hb; have n0_ := Aside0.mk (blk_below (g := gb1003) (o := .cells #[.int .i64 a0_0, .int .i64 a0_1, .int .i64 a0_2, .int .i64 a0_3, .int .i64 a0_4, .int .i64 a0_5] 44 (0, 0)) (by (with_reducible repeat (first | refine blk_drewN ?_ _ | refine blk_drew ?_ | refine blk_alloc ?_ _)); exact BK1003.out) hb); have n1_ := Aside0.mk (below_step (by repeat (first | (with_reducible first | exact HB.out | apply below_alloc | apply pbdN | apply bdr1 | refine below_set ?_ GE1003.out) | exact HB.out)) hb); have n2_ := Aside0.mk (hbox); have n3_ := Aside0.mk ((by rw [hg]; exact (below_size (by repeat (first | (with_reducible first | exact HB.out | apply below_alloc | apply pbdN | apply bdr1 | refine below_set ?_ GE1003.out) | exact HB.out))) : w.heap.size ≤ gb1004)); have n4_ := Aside0.mk ((by rw [hg]; exact (below_size (by repeat (first | (with_reducible first | exact HB.out | apply below_alloc | apply pbdN | apply bdr1 | refine below_set ?_ GE1003.out) | exact HB.out))) : w.heap.size ≤ gb1004)); have n5_ := Aside0.mk ((by rw [hg]; exact Nat.ne_of_lt (blk_lt (g := gb1003) (o := .cells #[.int .i64 a0_0, .int .i64 a0_1, .int .i64 a0_2, .int .i64 a0_3, .int .i64 a0_4, .int .i64 a0_5] 44 (0, 0)) (by (with_reducible repeat (first | refine blk_drewN ?_ _ | refine blk_drew ?_ | refine blk_alloc ?_ _)); exact BK1003.out)) : gb1003 ≠ gb1004)); have n6_ := Aside0.mk ((by rw [hg]; exact Nat.ne_of_gt (blk_lt (g := gb1003) (o := .cells #[.int .i64 a0_0, .int .i64 a0_1, .int .i64 a0_2, .int .i64 a0_3, .int .i64 a0_4, .int .i64 a0_5] 44 (0, 0)) (by (with_reducible repeat (first | refine blk_drewN ?_ _ | refine blk_drew ?_ | refine blk_alloc ?_ _)); exact BK1003.out)) : gb1004 ≠ gb1003)); clear BK1003; clear HB; have BK1003 := n0_; have HB := n1_; have BK1004 := n2_; have GW1004 := n3_; have GE1004 := n4_; have NB1003_261 := n5_; have NB1004_260 := n6_; clear n0_ n1_ n2_ n3_ n4_ n5_ n6_; clear hb hbox hg))
  have n0_ := Aside0.mk (blk_drew BK1003.out)
  have n1_ := Aside0.mk (blk_drew BK1004.out)
  have n2_ := Aside0.mk (bdr1 HB.out)
  clear BK1003
  clear BK1004
  clear HB
  have BK1003 := n0_
  have BK1004 := n1_
  have HB := n2_
  clear n0_ n1_ n2_
  refine start_ (n := 16) (S := fun w' => w'.cell? ⟨gb1003, 0, none⟩ = some (.int .i64 a0_0) ∧ w'.cell? ⟨gb1003, 1, none⟩ = some (.int .i64 a0_1) ∧ w'.cell? ⟨gb1003, 2, none⟩ = some (.int .i64 a0_2) ∧ w'.cell? ⟨gb1003, 3, none⟩ = some (.int .i64 a0_3) ∧ w'.cell? ⟨gb1003, 4, none⟩ = some (.int .i64 a0_4) ∧ w'.cell? ⟨gb1003, 5, none⟩ = some (.int .i64 a0_5)) (ds := []) #[false, false, false, false, false, false, false, false, false, false, false, false, false, false, false, false] (by kernel_rfl) rfl rfl ⟨(blk_cell BK1003.out 0).trans rfl, (blk_cell BK1003.out 1).trans rfl, (blk_cell BK1003.out 2).trans rfl, (blk_cell BK1003.out 3).trans rfl, (blk_cell BK1003.out 4).trans rfl, (blk_cell BK1003.out 5).trans rfl⟩ (fun hHeld => ?_); refine wtW place_parts.tab1 place_parts.bits1 (fun HT_ HW_ => ?_)
  generalize w4.drew = w5 at BK1003 BK1004 HB hHeld ⊢
  refine pure_ (i := 0) (N := some 3) (v := ?_) (a' := ?_) #[true, false, false, false, false, false, false, false, false, false, false, false, false, false, false, false] rfl rfl (any_of HT_.out (by kernel_rfl)) (fun _ _ _ h => h) (Or.inl ⟨by rfl, ?_⟩) ?_ ?_
  rotate_left
  · intro w'
    go_simp
    with_reducible rfl
  rotate_left
  · simp only [Act.put, List.setIfInBounds_toArray, List.set_cons_zero, List.set_cons_succ, i64_w, i32_w]
    rfl
  refine pure_ (i := 1) (N := some 4) (v := ?_) (a' := ?_) #[true, true, false, false, false, false, false, false, false, false, false, false, false, false, false, false] rfl rfl (any_of HT_.out (by kernel_rfl)) (fun _ _ _ h => h) (Or.inl ⟨by rfl, ?_⟩) ?_ ?_
  rotate_left
  · intro w'
    go_simp
    with_reducible rfl
  rotate_left
  · simp only [Act.put, List.setIfInBounds_toArray, List.set_cons_zero, List.set_cons_succ, i64_w, i32_w]
    rfl
  refine pure_ (i := 4) (N := some 7) (v := ?_) (a' := ?_) #[true, true, false, false, true, false, false, false, false, false, false, false, false, false, false, false] rfl rfl (any_of HT_.out (by kernel_rfl)) (fun _ _ _ h => h) (Or.inl ⟨by rfl, ?_⟩) ?_ ?_
  rotate_left
  · intro w'
    go_simp
    with_reducible rfl
  rotate_left
  · simp only [Act.put, List.setIfInBounds_toArray, List.set_cons_zero, List.set_cons_succ, i64_w, i32_w]
    rfl
  refine pure_ (i := 9) (N := some 12) (v := ?_) (a' := ?_) #[true, true, false, false, true, false, false, false, false, true, false, false, false, false, false, false] rfl rfl (any_of HT_.out (by kernel_rfl)) (fun _ _ _ h => h) (Or.inl ⟨by rfl, ?_⟩) ?_ ?_
  rotate_left
  · intro w'
    go_simp
    with_reducible rfl
  rotate_left
  · simp only [Act.put, List.setIfInBounds_toArray, List.set_cons_zero, List.set_cons_succ, i64_w, i32_w]
    rfl
  refine pure_ (i := 11) (N := some 14) (v := ?_) (a' := ?_) #[true, true, false, false, true, false, false, false, false, true, false, true, false, false, false, false] rfl rfl (any_of HT_.out (by kernel_rfl)) (fun _ _ _ h => h) (Or.inl ⟨by rfl, ?_⟩) ?_ ?_
  rotate_left
  · intro w'
    go_simp
    with_reducible rfl
  rotate_left
  · simp only [Act.put, List.setIfInBounds_toArray, List.set_cons_zero, List.set_cons_succ, i64_w, i32_w]
    rfl
  refine take_ (i := 2) (N := some 5) (v := ?_) (a' := ?_) #[true, true, true, false, true, false, false, false, false, true, false, true, false, false, false, false] rfl rfl (take_ofW HT_.out HW_.out (by kernel_rfl)) (fun _ _ _ h => h) (Or.inl ⟨by rfl, ?_⟩) hHeld ?_ ?_
  rotate_left
  · rintro w' ⟨s0, s1, s2, s3, s4, s5⟩
    go_simp
    with_reducible rfl
  rotate_left
  · simp only [Act.put, List.setIfInBounds_toArray, List.set_cons_zero, List.set_cons_succ, i64_w, i32_w]
    rfl
  refine pure_ (i := 3) (N := some 6) (v := ?_) (a' := ?_) #[true, true, true, true, true, false, false, false, false, true, false, true, false, false, false, false] rfl rfl (any_of HT_.out (by kernel_rfl)) (fun _ _ _ h => h) (Or.inl ⟨by rfl, ?_⟩) ?_ ?_
  rotate_left
  · intro w'
    go_simp
    with_reducible rfl
  rotate_left
  · simp only [Act.put, List.setIfInBounds_toArray, List.set_cons_zero, List.set_cons_succ, i64_w, i32_w]
    rfl
  refine take_ (i := 5) (N := some 8) (v := ?_) (a' := ?_) #[true, true, true, true, true, true, false, false, false, true, false, true, false, false, false, false] rfl rfl (take_ofW HT_.out HW_.out (by kernel_rfl)) (fun _ _ _ h => h) (Or.inl ⟨by rfl, ?_⟩) hHeld ?_ ?_
  rotate_left
  · rintro w' ⟨s0, s1, s2, s3, s4, s5⟩
    go_simp
    with_reducible rfl
  rotate_left
  · simp only [Act.put, List.setIfInBounds_toArray, List.set_cons_zero, List.set_cons_succ, i64_w, i32_w]
    rfl
  refine take_ (i := 6) (N := some 9) (v := ?_) (a' := ?_) #[true, true, true, true, true, true, true, false, false, true, false, true, false, false, false, false] rfl rfl (take_ofW HT_.out HW_.out (by kernel_rfl)) (fun _ _ _ h => h) (Or.inl ⟨by rfl, ?_⟩) hHeld ?_ ?_
  rotate_left
  · rintro w' ⟨s0, s1, s2, s3, s4, s5⟩
    go_simp
    with_reducible rfl
  rotate_left
  · simp only [Act.put, List.setIfInBounds_toArray, List.set_cons_zero, List.set_cons_succ, i64_w, i32_w]
    rfl
  refine take_ (i := 10) (N := some 13) (v := ?_) (a' := ?_) #[true, true, true, true, true, true, true, false, false, true, true, true, false, false, false, false] rfl rfl (take_ofW HT_.out HW_.out (by kernel_rfl)) (fun _ _ _ h => h) (Or.inl ⟨by rfl, ?_⟩) hHeld ?_ ?_
  rotate_left
  · rintro w' ⟨s0, s1, s2, s3, s4, s5⟩
    go_simp
    with_reducible rfl
  rotate_left
  · simp only [Act.put, List.setIfInBounds_toArray, List.set_cons_zero, List.set_cons_succ, i64_w, i32_w]
    rfl
  refine take_ (i := 12) (N := some 15) (v := ?_) (a' := ?_) #[true, true, true, true, true, true, true, false, false, true, true, true, true, false, false, false] rfl rfl (take_ofW HT_.out HW_.out (by kernel_rfl)) (fun _ _ _ h => h) (Or.inl ⟨by rfl, ?_⟩) hHeld ?_ ?_
  rotate_left
  · rintro w' ⟨s0, s1, s2, s3, s4, s5⟩
    go_simp
    with_reducible rfl
  rotate_left
  · simp only [Act.put, List.setIfInBounds_toArray, List.set_cons_zero, List.set_cons_succ, i64_w, i32_w]
    rfl
  refine pure_ (i := 13) (N := some 16) (v := ?_) (a' := ?_) #[true, true, true, true, true, true, true, false, false, true, true, true, true, true, false, false] rfl rfl (any_of HT_.out (by kernel_rfl)) (fun _ _ _ h => h) (Or.inl ⟨by rfl, ?_⟩) ?_ ?_
  rotate_left
  · intro w'
    go_simp
    with_reducible rfl
  rotate_left
  · simp only [Act.put, List.setIfInBounds_toArray, List.set_cons_zero, List.set_cons_succ, i64_w, i32_w]
    rfl
  refine one_ (i := 7) (N := some 10) #[true, true, true, true, true, true, true, true, false, true, true, true, true, true, false, false] rfl rfl (one_of HT_.out (by kernel_rfl)) (by decide) (fun K hK => ?_)
  refine goes_ Try.func110 (by kernel_rfl) rfl #[.agg #[.int .i64 a0_0, .int .i64 a0_1, .int .i64 a0_2, .int .i64 a0_3, .int .i64 a0_4, .int .i64 a0_5]] (by rfl) rfl rfl (by (try simp only [List.map_toArray, List.map_cons, List.map_nil]); first | done | rfl | (simp only [List.length_drop, List.length_take]; rfl)) ?_
  with_reducible refine (place_pages.calls a0_0 a0_1 a0_2 a0_3 a0_4 a0_5 t1000 _ A2.out).mono ?_
  rintro e w6 ⟨rfl, hb⟩
  refine ⟨_, rfl, ?_⟩
  have n0_ := Aside0.mk (blk_below (g := gb1003) (o := .cells #[.int .i64 a0_0, .int .i64 a0_1, .int .i64 a0_2, .int .i64 a0_3, .int .i64 a0_4, .int .i64 a0_5] 44 (0, 0)) (by (with_reducible repeat (first | refine blk_drewN ?_ _ | refine blk_drew ?_ | refine blk_alloc ?_ _)); exact BK1003.out) hb)
  have n1_ := Aside0.mk (blk_below (g := gb1004) (o := .cells #[.int .u8 0, .int .i64 0, .int .i64 0, .int .i64 0, .int .u8 0, .int .i64 0, .int .i64 0, .int .i64 0, .int .u8 0, .int .i64 0, .int .i64 0, .int .i64 0, .int .u8 0, .int .i64 0, .int .i64 0, .int .i64 0] 180 (0, 0)) (by (with_reducible repeat (first | refine blk_drewN ?_ _ | refine blk_drew ?_ | refine blk_alloc ?_ _)); exact BK1004.out) hb)
  have n2_ := Aside0.mk (below_step (by repeat (first | (with_reducible first | exact HB.out | apply below_alloc | apply pbdN | apply bdr1 | refine below_set ?_ GE1003.out | refine below_set ?_ GE1004.out) | exact HB.out)) hb)
  clear BK1003
  clear BK1004
  clear HB
  have BK1003 := n0_
  have BK1004 := n1_
  have HB := n2_
  clear n0_ n1_ n2_
  (try clear hb)
  (try clear hb2)
  (try clear hk)
  (try clear hi)
  refine hK.out _ _ ⟨(blk_cell BK1003.out 0).trans rfl, (blk_cell BK1003.out 1).trans rfl, (blk_cell BK1003.out 2).trans rfl, (blk_cell BK1003.out 3).trans rfl, (blk_cell BK1003.out 4).trans rfl, (blk_cell BK1003.out 5).trans rfl⟩ (fun hHeld => ?_)
  clear hK K
  refine norm_ (a' := ?_) ?_ ?_
  rotate_left
  · show Act.put _ (some 10) _ = _
    simp only [Act.put, List.setIfInBounds_toArray, List.set_cons_zero, List.set_cons_succ, i64_w, i32_w]
    rfl
  refine pure_ (i := 8) (N := some 11) (v := ?_) (a' := ?_) #[true, true, true, true, true, true, true, true, true, true, true, true, true, true, false, false] rfl rfl (any_of HT_.out (by kernel_rfl)) (fun _ _ _ h => h) (Or.inl ⟨by rfl, ?_⟩) ?_ ?_
  rotate_left
  · intro w'
    go_simp
    with_reducible rfl
  rotate_left
  · simp only [Act.put, List.setIfInBounds_toArray, List.set_cons_zero, List.set_cons_succ, i64_w, i32_w]
    rfl
  refine pure_ (i := 14) (N := some 17) (v := ?_) (a' := ?_) #[true, true, true, true, true, true, true, true, true, true, true, true, true, true, true, false] rfl rfl (any_of HT_.out (by kernel_rfl)) (fun _ _ _ h => h) (Or.inl ⟨by rfl, ?_⟩) ?_ ?_
  rotate_left
  · intro w'
    go_simp
    with_reducible rfl
  rotate_left
  · simp only [Act.put, List.setIfInBounds_toArray, List.set_cons_zero, List.set_cons_succ, i64_w, i32_w]
    rfl
  refine one_ (i := 15) (N := none) #[true, true, true, true, true, true, true, true, true, true, true, true, true, true, true, true] rfl rfl (one_of HT_.out (by kernel_rfl)) (by decide) (fun K hK => ?_)
  have hs7 : w6.cell? ⟨gb1004, 0, none⟩ = some (.int .u8 0) := (blk_cell BK1004.out 0).trans rfl
  have hfs7 := blk_frozen BK1004.out 0
  have hns7_0 := NB1003_261.out
  have hms7_0 := NB1004_260.out
  have hs8 : w6.cell? ⟨gb1004, 1, none⟩ = some (.int .i64 0) := (blk_cell BK1004.out 1).trans rfl
  have hfs8 := blk_frozen BK1004.out 1
  have hns8_0 := NB1003_261.out
  have hms8_0 := NB1004_260.out
  have hs9 : w6.cell? ⟨gb1004, 2, none⟩ = some (.int .i64 0) := (blk_cell BK1004.out 2).trans rfl
  have hfs9 := blk_frozen BK1004.out 2
  have hns9_0 := NB1003_261.out
  have hms9_0 := NB1004_260.out
  have hs10 : w6.cell? ⟨gb1004, 3, none⟩ = some (.int .i64 0) := (blk_cell BK1004.out 3).trans rfl
  have hfs10 := blk_frozen BK1004.out 3
  have hns10_0 := NB1003_261.out
  have hms10_0 := NB1004_260.out
  have hs11 : w6.cell? ⟨gb1004, 4, none⟩ = some (.int .u8 0) := (blk_cell BK1004.out 4).trans rfl
  have hfs11 := blk_frozen BK1004.out 4
  have hns11_0 := NB1003_261.out
  have hms11_0 := NB1004_260.out
  have hs12 : w6.cell? ⟨gb1004, 5, none⟩ = some (.int .i64 0) := (blk_cell BK1004.out 5).trans rfl
  have hfs12 := blk_frozen BK1004.out 5
  have hns12_0 := NB1003_261.out
  have hms12_0 := NB1004_260.out
  have hs13 : w6.cell? ⟨gb1004, 6, none⟩ = some (.int .i64 0) := (blk_cell BK1004.out 6).trans rfl
  have hfs13 := blk_frozen BK1004.out 6
  have hns13_0 := NB1003_261.out
  have hms13_0 := NB1004_260.out
  have hs14 : w6.cell? ⟨gb1004, 7, none⟩ = some (.int .i64 0) := (blk_cell BK1004.out 7).trans rfl
  have hfs14 := blk_frozen BK1004.out 7
  have hns14_0 := NB1003_261.out
  have hms14_0 := NB1004_260.out
  have hs15 : w6.cell? ⟨gb1004, 8, none⟩ = some (.int .u8 0) := (blk_cell BK1004.out 8).trans rfl
  have hfs15 := blk_frozen BK1004.out 8
  have hns15_0 := NB1003_261.out
  have hms15_0 := NB1004_260.out
  have hs16 : w6.cell? ⟨gb1004, 9, none⟩ = some (.int .i64 0) := (blk_cell BK1004.out 9).trans rfl
  have hfs16 := blk_frozen BK1004.out 9
  have hns16_0 := NB1003_261.out
  have hms16_0 := NB1004_260.out
  have hs17 : w6.cell? ⟨gb1004, 10, none⟩ = some (.int .i64 0) := (blk_cell BK1004.out 10).trans rfl
  have hfs17 := blk_frozen BK1004.out 10
  have hns17_0 := NB1003_261.out
  have hms17_0 := NB1004_260.out
  have hs18 : w6.cell? ⟨gb1004, 11, none⟩ = some (.int .i64 0) := (blk_cell BK1004.out 11).trans rfl
  have hfs18 := blk_frozen BK1004.out 11
  have hns18_0 := NB1003_261.out
  have hms18_0 := NB1004_260.out
  have hs19 : w6.cell? ⟨gb1004, 12, none⟩ = some (.int .u8 0) := (blk_cell BK1004.out 12).trans rfl
  have hfs19 := blk_frozen BK1004.out 12
  have hns19_0 := NB1003_261.out
  have hms19_0 := NB1004_260.out
  have hs20 : w6.cell? ⟨gb1004, 13, none⟩ = some (.int .i64 0) := (blk_cell BK1004.out 13).trans rfl
  have hfs20 := blk_frozen BK1004.out 13
  have hns20_0 := NB1003_261.out
  have hms20_0 := NB1004_260.out
  have hs21 : w6.cell? ⟨gb1004, 14, none⟩ = some (.int .i64 0) := (blk_cell BK1004.out 14).trans rfl
  have hfs21 := blk_frozen BK1004.out 14
  have hns21_0 := NB1003_261.out
  have hms21_0 := NB1004_260.out
  have hs22 : w6.cell? ⟨gb1004, 15, none⟩ = some (.int .i64 0) := (blk_cell BK1004.out 15).trans rfl
  have hfs22 := blk_frozen BK1004.out 15
  have hns22_0 := NB1003_261.out
  have hms22_0 := NB1004_260.out
  refine skip_ (w1 := ?_) (by rfl) rfl ?_ ?_
  rotate_left
  · go_simp
    rfl
  refine hK.out _ _ ⟨((cell_far (p := ⟨gb1004, _, none⟩) NB1003_261.out _).trans (((cell_far (p := ⟨gb1004, _, none⟩) NB1003_261.out _).trans (((cell_far (p := ⟨gb1004, _, none⟩) NB1003_261.out _).trans (((cell_far (p := ⟨gb1004, _, none⟩) NB1003_261.out _).trans (((cell_far (p := ⟨gb1004, _, none⟩) NB1003_261.out _).trans (((cell_far (p := ⟨gb1004, _, none⟩) NB1003_261.out _).trans (((cell_far (p := ⟨gb1004, _, none⟩) NB1003_261.out _).trans (((cell_far (p := ⟨gb1004, _, none⟩) NB1003_261.out _).trans (((cell_far (p := ⟨gb1004, _, none⟩) NB1003_261.out _).trans (((cell_far (p := ⟨gb1004, _, none⟩) NB1003_261.out _).trans (((cell_far (p := ⟨gb1004, _, none⟩) NB1003_261.out _).trans (((cell_far (p := ⟨gb1004, _, none⟩) NB1003_261.out _).trans (((cell_far (p := ⟨gb1004, _, none⟩) NB1003_261.out _).trans (((cell_far (p := ⟨gb1004, _, none⟩) NB1003_261.out _).trans (((cell_far (p := ⟨gb1004, _, none⟩) NB1003_261.out _).trans (((cell_far (p := ⟨gb1004, _, none⟩) NB1003_261.out _).trans (hHeld.1)))))))))))))))))))))))))))))))), ((cell_far (p := ⟨gb1004, _, none⟩) NB1003_261.out _).trans (((cell_far (p := ⟨gb1004, _, none⟩) NB1003_261.out _).trans (((cell_far (p := ⟨gb1004, _, none⟩) NB1003_261.out _).trans (((cell_far (p := ⟨gb1004, _, none⟩) NB1003_261.out _).trans (((cell_far (p := ⟨gb1004, _, none⟩) NB1003_261.out _).trans (((cell_far (p := ⟨gb1004, _, none⟩) NB1003_261.out _).trans (((cell_far (p := ⟨gb1004, _, none⟩) NB1003_261.out _).trans (((cell_far (p := ⟨gb1004, _, none⟩) NB1003_261.out _).trans (((cell_far (p := ⟨gb1004, _, none⟩) NB1003_261.out _).trans (((cell_far (p := ⟨gb1004, _, none⟩) NB1003_261.out _).trans (((cell_far (p := ⟨gb1004, _, none⟩) NB1003_261.out _).trans (((cell_far (p := ⟨gb1004, _, none⟩) NB1003_261.out _).trans (((cell_far (p := ⟨gb1004, _, none⟩) NB1003_261.out _).trans (((cell_far (p := ⟨gb1004, _, none⟩) NB1003_261.out _).trans (((cell_far (p := ⟨gb1004, _, none⟩) NB1003_261.out _).trans (((cell_far (p := ⟨gb1004, _, none⟩) NB1003_261.out _).trans (hHeld.2.1)))))))))))))))))))))))))))))))), ((cell_far (p := ⟨gb1004, _, none⟩) NB1003_261.out _).trans (((cell_far (p := ⟨gb1004, _, none⟩) NB1003_261.out _).trans (((cell_far (p := ⟨gb1004, _, none⟩) NB1003_261.out _).trans (((cell_far (p := ⟨gb1004, _, none⟩) NB1003_261.out _).trans (((cell_far (p := ⟨gb1004, _, none⟩) NB1003_261.out _).trans (((cell_far (p := ⟨gb1004, _, none⟩) NB1003_261.out _).trans (((cell_far (p := ⟨gb1004, _, none⟩) NB1003_261.out _).trans (((cell_far (p := ⟨gb1004, _, none⟩) NB1003_261.out _).trans (((cell_far (p := ⟨gb1004, _, none⟩) NB1003_261.out _).trans (((cell_far (p := ⟨gb1004, _, none⟩) NB1003_261.out _).trans (((cell_far (p := ⟨gb1004, _, none⟩) NB1003_261.out _).trans (((cell_far (p := ⟨gb1004, _, none⟩) NB1003_261.out _).trans (((cell_far (p := ⟨gb1004, _, none⟩) NB1003_261.out _).trans (((cell_far (p := ⟨gb1004, _, none⟩) NB1003_261.out _).trans (((cell_far (p := ⟨gb1004, _, none⟩) NB1003_261.out _).trans (((cell_far (p := ⟨gb1004, _, none⟩) NB1003_261.out _).trans (hHeld.2.2.1)))))))))))))))))))))))))))))))), ((cell_far (p := ⟨gb1004, _, none⟩) NB1003_261.out _).trans (((cell_far (p := ⟨gb1004, _, none⟩) NB1003_261.out _).trans (((cell_far (p := ⟨gb1004, _, none⟩) NB1003_261.out _).trans (((cell_far (p := ⟨gb1004, _, none⟩) NB1003_261.out _).trans (((cell_far (p := ⟨gb1004, _, none⟩) NB1003_261.out _).trans (((cell_far (p := ⟨gb1004, _, none⟩) NB1003_261.out _).trans (((cell_far (p := ⟨gb1004, _, none⟩) NB1003_261.out _).trans (((cell_far (p := ⟨gb1004, _, none⟩) NB1003_261.out _).trans (((cell_far (p := ⟨gb1004, _, none⟩) NB1003_261.out _).trans (((cell_far (p := ⟨gb1004, _, none⟩) NB1003_261.out _).trans (((cell_far (p := ⟨gb1004, _, none⟩) NB1003_261.out _).trans (((cell_far (p := ⟨gb1004, _, none⟩) NB1003_261.out _).trans (((cell_far (p := ⟨gb1004, _, none⟩) NB1003_261.out _).trans (((cell_far (p := ⟨gb1004, _, none⟩) NB1003_261.out _).trans (((cell_far (p := ⟨gb1004, _, none⟩) NB1003_261.out _).trans (((cell_far (p := ⟨gb1004, _, none⟩) NB1003_261.out _).trans (hHeld.2.2.2.1)))))))))))))))))))))))))))))))), ((cell_far (p := ⟨gb1004, _, none⟩) NB1003_261.out _).trans (((cell_far (p := ⟨gb1004, _, none⟩) NB1003_261.out _).trans (((cell_far (p := ⟨gb1004, _, none⟩) NB1003_261.out _).trans (((cell_far (p := ⟨gb1004, _, none⟩) NB1003_261.out _).trans (((cell_far (p := ⟨gb1004, _, none⟩) NB1003_261.out _).trans (((cell_far (p := ⟨gb1004, _, none⟩) NB1003_261.out _).trans (((cell_far (p := ⟨gb1004, _, none⟩) NB1003_261.out _).trans (((cell_far (p := ⟨gb1004, _, none⟩) NB1003_261.out _).trans (((cell_far (p := ⟨gb1004, _, none⟩) NB1003_261.out _).trans (((cell_far (p := ⟨gb1004, _, none⟩) NB1003_261.out _).trans (((cell_far (p := ⟨gb1004, _, none⟩) NB1003_261.out _).trans (((cell_far (p := ⟨gb1004, _, none⟩) NB1003_261.out _).trans (((cell_far (p := ⟨gb1004, _, none⟩) NB1003_261.out _).trans (((cell_far (p := ⟨gb1004, _, none⟩) NB1003_261.out _).trans (((cell_far (p := ⟨gb1004, _, none⟩) NB1003_261.out _).trans (((cell_far (p := ⟨gb1004, _, none⟩) NB1003_261.out _).trans (hHeld.2.2.2.2.1)))))))))))))))))))))))))))))))), ((cell_far (p := ⟨gb1004, _, none⟩) NB1003_261.out _).trans (((cell_far (p := ⟨gb1004, _, none⟩) NB1003_261.out _).trans (((cell_far (p := ⟨gb1004, _, none⟩) NB1003_261.out _).trans (((cell_far (p := ⟨gb1004, _, none⟩) NB1003_261.out _).trans (((cell_far (p := ⟨gb1004, _, none⟩) NB1003_261.out _).trans (((cell_far (p := ⟨gb1004, _, none⟩) NB1003_261.out _).trans (((cell_far (p := ⟨gb1004, _, none⟩) NB1003_261.out _).trans (((cell_far (p := ⟨gb1004, _, none⟩) NB1003_261.out _).trans (((cell_far (p := ⟨gb1004, _, none⟩) NB1003_261.out _).trans (((cell_far (p := ⟨gb1004, _, none⟩) NB1003_261.out _).trans (((cell_far (p := ⟨gb1004, _, none⟩) NB1003_261.out _).trans (((cell_far (p := ⟨gb1004, _, none⟩) NB1003_261.out _).trans (((cell_far (p := ⟨gb1004, _, none⟩) NB1003_261.out _).trans (((cell_far (p := ⟨gb1004, _, none⟩) NB1003_261.out _).trans (((cell_far (p := ⟨gb1004, _, none⟩) NB1003_261.out _).trans (((cell_far (p := ⟨gb1004, _, none⟩) NB1003_261.out _).trans (hHeld.2.2.2.2.2))))))))))))))))))))))))))))))))⟩ (fun hHeld => ?_)
  clear hK K
  refine done_ (done_of HT_.out (by kernel_rfl)) ?_
  try go_wp2
  refine bodyPost_ret (results_cell_row rfl _ _ gb1004 180 #[.int .u8 1, .int .i64 1, .int .i64 1, .int .i64 2, .int .u8 2, .int .i64 2, .int .i64 a0_2, .int .i64 1, .int .u8 3, .int .i64 a0_0, .int .i64 t1000, .int .i64 1, .int .u8 4, .int .i64 a0_0, .int .i64 a0_1, .int .i64 4] (0, 0) _ rfl (by (with_reducible repeat (first | refine blk_drewN ?_ _ | refine blk_drew ?_ | refine blk_alloc ?_ _)); refine blk_put (cs := #[.int .u8 1, .int .i64 1, .int .i64 1, .int .i64 2, .int .u8 2, .int .i64 2, .int .i64 a0_2, .int .i64 1, .int .u8 3, .int .i64 a0_0, .int .i64 t1000, .int .i64 1, .int .u8 4, .int .i64 a0_0, .int .i64 a0_1, .int .i64 0]) ?_ 15 _ rfl; (with_reducible repeat (first | refine blk_drewN ?_ _ | refine blk_drew ?_ | refine blk_alloc ?_ _)); refine blk_put (cs := #[.int .u8 1, .int .i64 1, .int .i64 1, .int .i64 2, .int .u8 2, .int .i64 2, .int .i64 a0_2, .int .i64 1, .int .u8 3, .int .i64 a0_0, .int .i64 t1000, .int .i64 1, .int .u8 4, .int .i64 a0_0, .int .i64 0, .int .i64 0]) ?_ 14 _ rfl; (with_reducible repeat (first | refine blk_drewN ?_ _ | refine blk_drew ?_ | refine blk_alloc ?_ _)); refine blk_put (cs := #[.int .u8 1, .int .i64 1, .int .i64 1, .int .i64 2, .int .u8 2, .int .i64 2, .int .i64 a0_2, .int .i64 1, .int .u8 3, .int .i64 a0_0, .int .i64 t1000, .int .i64 1, .int .u8 4, .int .i64 0, .int .i64 0, .int .i64 0]) ?_ 13 _ rfl; (with_reducible repeat (first | refine blk_drewN ?_ _ | refine blk_drew ?_ | refine blk_alloc ?_ _)); refine blk_put (cs := #[.int .u8 1, .int .i64 1, .int .i64 1, .int .i64 2, .int .u8 2, .int .i64 2, .int .i64 a0_2, .int .i64 1, .int .u8 3, .int .i64 a0_0, .int .i64 t1000, .int .i64 1, .int .u8 0, .int .i64 0, .int .i64 0, .int .i64 0]) ?_ 12 _ rfl; (with_reducible repeat (first | refine blk_drewN ?_ _ | refine blk_drew ?_ | refine blk_alloc ?_ _)); refine blk_put (cs := #[.int .u8 1, .int .i64 1, .int .i64 1, .int .i64 2, .int .u8 2, .int .i64 2, .int .i64 a0_2, .int .i64 1, .int .u8 3, .int .i64 a0_0, .int .i64 t1000, .int .i64 0, .int .u8 0, .int .i64 0, .int .i64 0, .int .i64 0]) ?_ 11 _ rfl; (with_reducible repeat (first | refine blk_drewN ?_ _ | refine blk_drew ?_ | refine blk_alloc ?_ _)); refine blk_put (cs := #[.int .u8 1, .int .i64 1, .int .i64 1, .int .i64 2, .int .u8 2, .int .i64 2, .int .i64 a0_2, .int .i64 1, .int .u8 3, .int .i64 a0_0, .int .i64 0, .int .i64 0, .int .u8 0, .int .i64 0, .int .i64 0, .int .i64 0]) ?_ 10 _ rfl; (with_reducible repeat (first | refine blk_drewN ?_ _ | refine blk_drew ?_ | refine blk_alloc ?_ _)); refine blk_put (cs := #[.int .u8 1, .int .i64 1, .int .i64 1, .int .i64 2, .int .u8 2, .int .i64 2, .int .i64 a0_2, .int .i64 1, .int .u8 3, .int .i64 0, .int .i64 0, .int .i64 0, .int .u8 0, .int .i64 0, .int .i64 0, .int .i64 0]) ?_ 9 _ rfl; (with_reducible repeat (first | refine blk_drewN ?_ _ | refine blk_drew ?_ | refine blk_alloc ?_ _)); refine blk_put (cs := #[.int .u8 1, .int .i64 1, .int .i64 1, .int .i64 2, .int .u8 2, .int .i64 2, .int .i64 a0_2, .int .i64 1, .int .u8 0, .int .i64 0, .int .i64 0, .int .i64 0, .int .u8 0, .int .i64 0, .int .i64 0, .int .i64 0]) ?_ 8 _ rfl; (with_reducible repeat (first | refine blk_drewN ?_ _ | refine blk_drew ?_ | refine blk_alloc ?_ _)); refine blk_put (cs := #[.int .u8 1, .int .i64 1, .int .i64 1, .int .i64 2, .int .u8 2, .int .i64 2, .int .i64 a0_2, .int .i64 0, .int .u8 0, .int .i64 0, .int .i64 0, .int .i64 0, .int .u8 0, .int .i64 0, .int .i64 0, .int .i64 0]) ?_ 7 _ rfl; (with_reducible repeat (first | refine blk_drewN ?_ _ | refine blk_drew ?_ | refine blk_alloc ?_ _)); refine blk_put (cs := #[.int .u8 1, .int .i64 1, .int .i64 1, .int .i64 2, .int .u8 2, .int .i64 2, .int .i64 0, .int .i64 0, .int .u8 0, .int .i64 0, .int .i64 0, .int .i64 0, .int .u8 0, .int .i64 0, .int .i64 0, .int .i64 0]) ?_ 6 _ rfl; (with_reducible repeat (first | refine blk_drewN ?_ _ | refine blk_drew ?_ | refine blk_alloc ?_ _)); refine blk_put (cs := #[.int .u8 1, .int .i64 1, .int .i64 1, .int .i64 2, .int .u8 2, .int .i64 0, .int .i64 0, .int .i64 0, .int .u8 0, .int .i64 0, .int .i64 0, .int .i64 0, .int .u8 0, .int .i64 0, .int .i64 0, .int .i64 0]) ?_ 5 _ rfl; (with_reducible repeat (first | refine blk_drewN ?_ _ | refine blk_drew ?_ | refine blk_alloc ?_ _)); refine blk_put (cs := #[.int .u8 1, .int .i64 1, .int .i64 1, .int .i64 2, .int .u8 0, .int .i64 0, .int .i64 0, .int .i64 0, .int .u8 0, .int .i64 0, .int .i64 0, .int .i64 0, .int .u8 0, .int .i64 0, .int .i64 0, .int .i64 0]) ?_ 4 _ rfl; (with_reducible repeat (first | refine blk_drewN ?_ _ | refine blk_drew ?_ | refine blk_alloc ?_ _)); refine blk_put (cs := #[.int .u8 1, .int .i64 1, .int .i64 1, .int .i64 0, .int .u8 0, .int .i64 0, .int .i64 0, .int .i64 0, .int .u8 0, .int .i64 0, .int .i64 0, .int .i64 0, .int .u8 0, .int .i64 0, .int .i64 0, .int .i64 0]) ?_ 3 _ rfl; (with_reducible repeat (first | refine blk_drewN ?_ _ | refine blk_drew ?_ | refine blk_alloc ?_ _)); refine blk_put (cs := #[.int .u8 1, .int .i64 1, .int .i64 0, .int .i64 0, .int .u8 0, .int .i64 0, .int .i64 0, .int .i64 0, .int .u8 0, .int .i64 0, .int .i64 0, .int .i64 0, .int .u8 0, .int .i64 0, .int .i64 0, .int .i64 0]) ?_ 2 _ rfl; (with_reducible repeat (first | refine blk_drewN ?_ _ | refine blk_drew ?_ | refine blk_alloc ?_ _)); refine blk_put (cs := #[.int .u8 1, .int .i64 0, .int .i64 0, .int .i64 0, .int .u8 0, .int .i64 0, .int .i64 0, .int .i64 0, .int .u8 0, .int .i64 0, .int .i64 0, .int .i64 0, .int .u8 0, .int .i64 0, .int .i64 0, .int .i64 0]) ?_ 1 _ rfl; (with_reducible repeat (first | refine blk_drewN ?_ _ | refine blk_drew ?_ | refine blk_alloc ?_ _)); refine blk_put (cs := #[.int .u8 0, .int .i64 0, .int .i64 0, .int .i64 0, .int .u8 0, .int .i64 0, .int .i64 0, .int .i64 0, .int .u8 0, .int .i64 0, .int .i64 0, .int .i64 0, .int .u8 0, .int .i64 0, .int .i64 0, .int .i64 0]) ?_ 0 _ rfl; (with_reducible repeat (first | refine blk_drewN ?_ _ | refine blk_drew ?_ | refine blk_alloc ?_ _)); exact BK1004.out) Try.underlying180 rfl (by kernel_rfl)) rfl ?_
  exact ⟨by first | rfl | (simp [errW_none, errW_some] <;> rfl) | (simp [*, errW_none, errW_some] <;> rfl), by repeat (first | (with_reducible first | exact HB.out | apply below_alloc | apply pbdN | apply bdr1 | refine below_set ?_ GE1003.out | refine below_set ?_ GE1004.out) | exact HB.out)⟩
end Go.Proofs.Ytdkjhcdniepbhaa.P
end
section
set_option linter.unusedVariables false
set_option linter.unusedSimpArgs false
namespace Go.Proofs.Ytdkjhcdniepbhaa.P
open Go.RowKit Go.Proofs.PrintWords Go.Proofs.PrintLast Go.Proofs.PrintMore
attribute [local go_sem] max2_int min2_int max_two min_two max_three min_three max_four min_four
def catamaranref07_Many.f (a0_0 : Int) (a0_1 : Int) (a0_2 : Int) (a0_3 : Int) (a0_4 : Int) (a0_5 : Int) : Option (Int) := if a0_1 > 8 then (some 2) else (some 1)
set_option maxHeartbeats 8000000 in
set_option maxRecDepth 100000 in
theorem catamaranref07_Many.calls (a0_0 : Int) (a0_1 : Int) (a0_2 : Int) (a0_3 : Int) (a0_4 : Int) (a0_5 : Int) (r : Int) (w : World) (h : catamaranref07_Many.f a0_0 a0_1 a0_2 a0_3 a0_4 a0_5 = some r) :
    Calls Try.prog 116 #[.agg #[.int .i64 a0_0, .int .i64 a0_1, .int .i64 a0_2, .int .i64 a0_3, .int .i64 a0_4, .int .i64 a0_5]] w fun e w' => e = .returned (.int .i64 r) ∧ Below w.heap.size w w' := by
  have hu44 := Try.underlying44
  have HB := Aside0.mk (Below.refl w.heap.size w)
  have H : (if a0_1 > 8 then (some 2) else (some 1)) = some r := h
  clear h
  by_cases c2 : a0_1 > 8
  · rw [if_pos c2] at H
    have c2b0 : decide (8 < a0_1) = true := decide_eq_true c2
    clear c2
    obtain rfl := Option.some.inj H
    go_enter Try.func116, Try.ntmps116
    go_wp2_with (first | ((with_reducible refine gate_dst (N := 1) rfl ?_); refine box_event ?hg (N := 1) ?hd (cs := #[.int .i64 a0_0, .int .i64 a0_1, .int .i64 a0_2, .int .i64 a0_3, .int .i64 a0_4, .int .i64 a0_5]) (t := 44) ?hr ?_; (case hd => rfl); (case hg => rfl); (case hr => first | (go_simp; done) | (go_simp; rfl)); intro gb1000 hg w3 hbox hb; have n0_ := Aside0.mk (below_step (by repeat (first | (with_reducible first | exact HB.out | apply below_alloc | apply pbdN | apply bdr1) | exact HB.out)) hb); have n1_ := Aside0.mk (hbox); have n2_ := Aside0.mk ((by rw [hg]; exact (below_size (by repeat (first | (with_reducible first | exact HB.out | apply below_alloc | apply pbdN | apply bdr1) | exact HB.out))) : w.heap.size ≤ gb1000)); have n3_ := Aside0.mk ((by rw [hg]; exact (below_size (by repeat (first | (with_reducible first | exact HB.out | apply below_alloc | apply pbdN | apply bdr1) | exact HB.out))) : w.heap.size ≤ gb1000)); clear HB; have HB := n0_; have BK1000 := n1_; have GW1000 := n2_; have GE1000 := n3_; clear n0_ n1_ n2_ n3_; clear hb hbox hg; have hcz4_0 : w3.cell? ⟨gb1000, 0, none⟩ = some (.int .i64 a0_0) := (blk_cell BK1000.out 0).trans rfl; have hcz4_1 : w3.cell? ⟨gb1000, 1, none⟩ = some (.int .i64 a0_1) := (blk_cell BK1000.out 1).trans rfl; have hcz4_2 : w3.cell? ⟨gb1000, 2, none⟩ = some (.int .i64 a0_2) := (blk_cell BK1000.out 2).trans rfl; have hcz4_3 : w3.cell? ⟨gb1000, 3, none⟩ = some (.int .i64 a0_3) := (blk_cell BK1000.out 3).trans rfl; have hcz4_4 : w3.cell? ⟨gb1000, 4, none⟩ = some (.int .i64 a0_4) := (blk_cell BK1000.out 4).trans rfl; have hcz4_5 : w3.cell? ⟨gb1000, 5, none⟩ = some (.int .i64 a0_5) := (blk_cell BK1000.out 5).trans rfl; have hfz4_0 := blk_frozen BK1000.out 0; have hfz4_1 := blk_frozen BK1000.out 1; have hfz4_2 := blk_frozen BK1000.out 2; have hfz4_3 := blk_frozen BK1000.out 3; have hfz4_4 := blk_frozen BK1000.out 4; have hfz4_5 := blk_frozen BK1000.out 5))
    go_ret
    exact ⟨by first | rfl | (simp [errW_none, errW_some] <;> rfl) | (simp [*, errW_none, errW_some] <;> rfl), by repeat (first | (with_reducible first | exact HB.out | apply below_alloc | apply pbdN | apply bdr1 | refine below_set ?_ GE1000.out) | exact HB.out)⟩
  · rw [if_neg c2] at H
    have c2b0 : decide (8 < a0_1) = false := decide_eq_false c2
    clear c2
    obtain rfl := Option.some.inj H
    go_enter Try.func116, Try.ntmps116
    go_wp2_with (first | ((with_reducible refine gate_dst (N := 1) rfl ?_); refine box_event ?hg (N := 1) ?hd (cs := #[.int .i64 a0_0, .int .i64 a0_1, .int .i64 a0_2, .int .i64 a0_3, .int .i64 a0_4, .int .i64 a0_5]) (t := 44) ?hr ?_; (case hd => rfl); (case hg => rfl); (case hr => first | (go_simp; done) | (go_simp; rfl)); intro gb1000 hg w5 hbox hb; have n0_ := Aside0.mk (below_step (by repeat (first | (with_reducible first | exact HB.out | apply below_alloc | apply pbdN | apply bdr1) | exact HB.out)) hb); have n1_ := Aside0.mk (hbox); have n2_ := Aside0.mk ((by rw [hg]; exact (below_size (by repeat (first | (with_reducible first | exact HB.out | apply below_alloc | apply pbdN | apply bdr1) | exact HB.out))) : w.heap.size ≤ gb1000)); have n3_ := Aside0.mk ((by rw [hg]; exact (below_size (by repeat (first | (with_reducible first | exact HB.out | apply below_alloc | apply pbdN | apply bdr1) | exact HB.out))) : w.heap.size ≤ gb1000)); clear HB; have HB := n0_; have BK1000 := n1_; have GW1000 := n2_; have GE1000 := n3_; clear n0_ n1_ n2_ n3_; clear hb hbox hg; have hcz6_0 : w5.cell? ⟨gb1000, 0, none⟩ = some (.int .i64 a0_0) := (blk_cell BK1000.out 0).trans rfl; have hcz6_1 : w5.cell? ⟨gb1000, 1, none⟩ = some (.int .i64 a0_1) := (blk_cell BK1000.out 1).trans rfl; have hcz6_2 : w5.cell? ⟨gb1000, 2, none⟩ = some (.int .i64 a0_2) := (blk_cell BK1000.out 2).trans rfl; have hcz6_3 : w5.cell? ⟨gb1000, 3, none⟩ = some (.int .i64 a0_3) := (blk_cell BK1000.out 3).trans rfl; have hcz6_4 : w5.cell? ⟨gb1000, 4, none⟩ = some (.int .i64 a0_4) := (blk_cell BK1000.out 4).trans rfl; have hcz6_5 : w5.cell? ⟨gb1000, 5, none⟩ = some (.int .i64 a0_5) := (blk_cell BK1000.out 5).trans rfl; have hfz6_0 := blk_frozen BK1000.out 0; have hfz6_1 := blk_frozen BK1000.out 1; have hfz6_2 := blk_frozen BK1000.out 2; have hfz6_3 := blk_frozen BK1000.out 3; have hfz6_4 := blk_frozen BK1000.out 4; have hfz6_5 := blk_frozen BK1000.out 5))
    go_ret
    exact ⟨by first | rfl | (simp [errW_none, errW_some] <;> rfl) | (simp [*, errW_none, errW_some] <;> rfl), by repeat (first | (with_reducible first | exact HB.out | apply below_alloc | apply pbdN | apply bdr1 | refine below_set ?_ GE1000.out) | exact HB.out)⟩
end Go.Proofs.Ytdkjhcdniepbhaa.P
end
section
set_option linter.unusedVariables false
set_option linter.unusedSimpArgs false
namespace Go.Proofs.Ytdkjhcdniepbhaa.P
open Go.RowKit Go.Proofs.PrintWords Go.Proofs.PrintLast Go.Proofs.PrintMore
attribute [local go_sem] max2_int min2_int max_two min_two max_three min_three max_four min_four
def catamaranref07_in.f (a0 : Int) (a1 : Int) (a2 : Int) : Option (Bool) := if a0 ≥ a1 then (some (decide (a0 ≤ a2))) else (some false)
set_option maxHeartbeats 8000000 in
set_option maxRecDepth 100000 in
theorem catamaranref07_in.calls (a0 : Int) (a1 : Int) (a2 : Int) (r : Bool) (w : World) (h : catamaranref07_in.f a0 a1 a2 = some r) :
    Calls Try.prog 135 #[.int .i64 a0, .int .i64 a1, .int .i64 a2] w fun e w' => e = .returned (.bool r) ∧ Drawn0 w w' := by
  have H : (if a0 ≥ a1 then (some (decide (a0 ≤ a2))) else (some false)) = some r := h
  clear h
  by_cases c4 : a0 ≥ a1
  · rw [if_pos c4] at H
    have c4b0 : decide (a1 ≤ a0) = true := decide_eq_true c4
    clear c4
    obtain rfl := Option.some.inj H
    go_enter Try.func135, Try.ntmps135
    go_wp2
    go_ret
    exact ⟨by first | rfl | (simp; done) | (simp [*]; done), by repeat (first | exact Drawn0.refl _ | apply Drawn0.step)⟩
  · rw [if_neg c4] at H
    have c4b0 : decide (a1 ≤ a0) = false := decide_eq_false c4
    clear c4
    obtain rfl := Option.some.inj H
    go_enter Try.func135, Try.ntmps135
    go_wp2
    go_ret
    exact ⟨by first | rfl | (simp; done) | (simp [*]; done), by repeat (first | exact Drawn0.refl _ | apply Drawn0.step)⟩
end Go.Proofs.Ytdkjhcdniepbhaa.P
end
section
set_option linter.unusedVariables false
set_option linter.unusedSimpArgs false
namespace Go.Proofs.Ytdkjhcdniepbhaa.P
open Go.RowKit Go.Proofs.PrintWords Go.Proofs.PrintLast Go.Proofs.PrintMore
attribute [local go_sem] max2_int min2_int max_two min_two max_three min_three max_four min_four
def catamaranref07_May.j0 : Nat → Bool → Int → Int → Int → Int → Int → Int → Option (Bool)
  | 0, _, _, _, _, _, _, _ => none
  | k + 1, x29, x1000, x1001, x1002, x1003, x1004, x1005 => if x29 = true then (some false) else ((catamaranref07_in.f x1004 1 4).bind fun t1006 => (if t1006 = true then ((catamaranref07_in.f x1005 4 64).bind fun t1007 => (some t1007)) else (some false)))
def catamaranref07_May.f (k : Nat) (a0_0 : Int) (a0_1 : Int) (a0_2 : Int) (a0_3 : Int) (a0_4 : Int) (a0_5 : Int) : Option (Bool) := (catamaranref07_in.f a0_0 1 3).bind fun t1008 => (if t1008 = true then ((catamaranref07_in.f a0_1 1 16).bind fun t1009 => (if t1009 = true then ((catamaranref07_in.f a0_2 (wrap64 (a0_0 + 2)) 32).bind fun t1010 => (if t1010 = true then ((catamaranref07_in.f a0_3 1 a0_0).bind fun t1011 => (catamaranref07_May.j0 k (!t1011) a0_0 a0_1 a0_2 a0_3 a0_4 a0_5)) else (catamaranref07_May.j0 k true a0_0 a0_1 a0_2 a0_3 a0_4 a0_5))) else (catamaranref07_May.j0 k true a0_0 a0_1 a0_2 a0_3 a0_4 a0_5))) else (catamaranref07_May.j0 k true a0_0 a0_1 a0_2 a0_3 a0_4 a0_5))
theorem catamaranref07_May.mono_l : ∀ k, (∀ y0 y1 y2 y3 y4 y5 y6, LeO (catamaranref07_May.j0 k y0 y1 y2 y3 y4 y5 y6) (catamaranref07_May.j0 (k + 1) y0 y1 y2 y3 y4 y5 y6))
  | 0 => fun _ _ _ _ _ _ _ r h => by simp [catamaranref07_May.j0] at h
  | k + 1 => by
    have ih0 := catamaranref07_May.mono_l k
    · intro y0 y1 y2 y3 y4 y5 y6
      unfold catamaranref07_May.j0
      repeat' first
      | (with_reducible exact ih0 _ _ _ _ _ _ _)
      | (with_reducible exact LeO.refl _)
      | (with_reducible exact LeO.none _)
      | (with_reducible refine LeO.ite ?_ ?_)
      | (with_reducible refine LeO.bind ?_ (fun _ => ?_))
      | exact ih0 _ _ _ _ _ _ _
      | exact LeO.none _
      | refine LeO.ite ?_ ?_
      | refine LeO.bind ?_ (fun _ => ?_)
theorem catamaranref07_May.mono : ∀ a0 a1 a2 a3 a4 a5 k, LeO (catamaranref07_May.f k a0 a1 a2 a3 a4 a5) (catamaranref07_May.f (k + 1) a0 a1 a2 a3 a4 a5) := by
  intro a0 a1 a2 a3 a4 a5 k
  have ih0 := catamaranref07_May.mono_l k
  unfold catamaranref07_May.f
  repeat' first
      | (with_reducible exact ih0 _ _ _ _ _ _ _)
      | (with_reducible exact LeO.refl _)
      | (with_reducible exact LeO.none _)
      | (with_reducible refine LeO.ite ?_ ?_)
      | (with_reducible refine LeO.bind ?_ (fun _ => ?_))
      | exact ih0 _ _ _ _ _ _ _
      | exact LeO.none _
      | refine LeO.ite ?_ ?_
      | refine LeO.bind ?_ (fun _ => ?_)
set_option maxHeartbeats 8000000 in
set_option maxRecDepth 100000 in
theorem catamaranref07_May.calls (k : Nat) (a0_0 : Int) (a0_1 : Int) (a0_2 : Int) (a0_3 : Int) (a0_4 : Int) (a0_5 : Int) (r : Bool) (w : World) (h : catamaranref07_May.f k a0_0 a0_1 a0_2 a0_3 a0_4 a0_5 = some r) :
    Calls Try.prog 114 #[.agg #[.int .i64 a0_0, .int .i64 a0_1, .int .i64 a0_2, .int .i64 a0_3, .int .i64 a0_4, .int .i64 a0_5]] w fun e w' => e = .returned (.bool r) ∧ Below w.heap.size w w' := by
  have hu44 := Try.underlying44
  have HB := Aside0.mk (Below.refl w.heap.size w)
  have H : ((catamaranref07_in.f a0_0 1 3).bind fun t1008 => (if t1008 = true then ((catamaranref07_in.f a0_1 1 16).bind fun t1009 => (if t1009 = true then ((catamaranref07_in.f a0_2 (wrap64 (a0_0 + 2)) 32).bind fun t1010 => (if t1010 = true then ((catamaranref07_in.f a0_3 1 a0_0).bind fun t1011 => (catamaranref07_May.j0 k (!t1011) a0_0 a0_1 a0_2 a0_3 a0_4 a0_5)) else (catamaranref07_May.j0 k true a0_0 a0_1 a0_2 a0_3 a0_4 a0_5))) else (catamaranref07_May.j0 k true a0_0 a0_1 a0_2 a0_3 a0_4 a0_5))) else (catamaranref07_May.j0 k true a0_0 a0_1 a0_2 a0_3 a0_4 a0_5))) = some r := h
  clear h
  have HC2 := Aside0.mk H
  clear H
  go_enter Try.func114, Try.ntmps114
  go_upto_region 1 with (first | ((with_reducible refine gate_dst (N := 1) rfl ?_); refine box_event ?hg (N := 1) ?hd (cs := #[.int .i64 a0_0, .int .i64 a0_1, .int .i64 a0_2, .int .i64 a0_3, .int .i64 a0_4, .int .i64 a0_5]) (t := 44) ?hr ?_; (case hd => rfl); (case hg => rfl); (case hr => first | (go_simp; done) | (go_simp; rfl)); intro gb1012 hg w3 hbox hb; have n0_ := Aside0.mk (below_step (by repeat (first | (with_reducible first | exact HB.out | apply below_alloc | apply pbdN | apply bdr1) | exact HB.out)) hb); have n1_ := Aside0.mk (hbox); have n2_ := Aside0.mk ((by rw [hg]; exact (below_size (by repeat (first | (with_reducible first | exact HB.out | apply below_alloc | apply pbdN | apply bdr1) | exact HB.out))) : w.heap.size ≤ gb1012)); have n3_ := Aside0.mk ((by rw [hg]; exact (below_size (by repeat (first | (with_reducible first | exact HB.out | apply below_alloc | apply pbdN | apply bdr1) | exact HB.out))) : w.heap.size ≤ gb1012)); clear HB; have HB := n0_; have BK1012 := n1_; have GW1012 := n2_; have GE1012 := n3_; clear n0_ n1_ n2_ n3_; clear hb hbox hg))
  (try simp only [Act.put, List.setIfInBounds_toArray, List.set_cons_zero, List.set_cons_succ])
  go_cut [29] (fun v29 wc => ∃ (kq : Nat) (x29_1 : Bool), v29 = .bool x29_1 ∧ Aside0 (catamaranref07_May.j0 kq x29_1 a0_0 a0_1 a0_2 a0_3 a0_4 a0_5 = some r) ∧ Aside0 (kq ≤ k) ∧ Aside0 (wc.heap[gb1012]? = some (.cells #[.int .i64 a0_0, .int .i64 a0_1, .int .i64 a0_2, .int .i64 a0_3, .int .i64 a0_4, .int .i64 a0_5] 44 (0, 0))) ∧ Aside0 (Below w.heap.size w wc))
  case first =>
    have H := HC2.out
    clear HC2
    replace H := Option.bind_eq_some_iff.mp H
    obtain ⟨t1008, A40, H⟩ := H
    replace H : (if t1008 = true then ((catamaranref07_in.f a0_1 1 16).bind fun t1009 => (if t1009 = true then ((catamaranref07_in.f a0_2 (wrap64 (a0_0 + 2)) 32).bind fun t1010 => (if t1010 = true then ((catamaranref07_in.f a0_3 1 a0_0).bind fun t1011 => (catamaranref07_May.j0 k (!t1011) a0_0 a0_1 a0_2 a0_3 a0_4 a0_5)) else (catamaranref07_May.j0 k true a0_0 a0_1 a0_2 a0_3 a0_4 a0_5))) else (catamaranref07_May.j0 k true a0_0 a0_1 a0_2 a0_3 a0_4 a0_5))) else (catamaranref07_May.j0 k true a0_0 a0_1 a0_2 a0_3 a0_4 a0_5)) = some r := H
    have A4 := Aside0.mk A40
    clear A40
    by_cases c5 : t1008 = true
    · subst c5
      have H1 : ((catamaranref07_in.f a0_1 1 16).bind fun t1009 => (if t1009 = true then ((catamaranref07_in.f a0_2 (wrap64 (a0_0 + 2)) 32).bind fun t1010 => (if t1010 = true then ((catamaranref07_in.f a0_3 1 a0_0).bind fun t1011 => (catamaranref07_May.j0 k (!t1011) a0_0 a0_1 a0_2 a0_3 a0_4 a0_5)) else (catamaranref07_May.j0 k true a0_0 a0_1 a0_2 a0_3 a0_4 a0_5))) else (catamaranref07_May.j0 k true a0_0 a0_1 a0_2 a0_3 a0_4 a0_5))) = some r := by rw [if_pos rfl] at H; exact H
      clear H
      have H := H1
      clear H1
      replace H := Option.bind_eq_some_iff.mp H
      obtain ⟨t1009, A60, H⟩ := H
      replace H : (if t1009 = true then ((catamaranref07_in.f a0_2 (wrap64 (a0_0 + 2)) 32).bind fun t1010 => (if t1010 = true then ((catamaranref07_in.f a0_3 1 a0_0).bind fun t1011 => (catamaranref07_May.j0 k (!t1011) a0_0 a0_1 a0_2 a0_3 a0_4 a0_5)) else (catamaranref07_May.j0 k true a0_0 a0_1 a0_2 a0_3 a0_4 a0_5))) else (catamaranref07_May.j0 k true a0_0 a0_1 a0_2 a0_3 a0_4 a0_5)) = some r := H
      have A6 := Aside0.mk A60
      clear A60
      by_cases c7 : t1009 = true
      · subst c7
        have H1 : ((catamaranref07_in.f a0_2 (wrap64 (a0_0 + 2)) 32).bind fun t1010 => (if t1010 = true then ((catamaranref07_in.f a0_3 1 a0_0).bind fun t1011 => (catamaranref07_May.j0 k (!t1011) a0_0 a0_1 a0_2 a0_3 a0_4 a0_5)) else (catamaranref07_May.j0 k true a0_0 a0_1 a0_2 a0_3 a0_4 a0_5))) = some r := by rw [if_pos rfl] at H; exact H
        clear H
        have H := H1
        clear H1
        replace H := Option.bind_eq_some_iff.mp H
        obtain ⟨t1010, A80, H⟩ := H
        replace H : (if t1010 = true then ((catamaranref07_in.f a0_3 1 a0_0).bind fun t1011 => (catamaranref07_May.j0 k (!t1011) a0_0 a0_1 a0_2 a0_3 a0_4 a0_5)) else (catamaranref07_May.j0 k true a0_0 a0_1 a0_2 a0_3 a0_4 a0_5)) = some r := H
        have A8 := Aside0.mk A80
        clear A80
        by_cases c9 : t1010 = true
        · subst c9
          have H1 : ((catamaranref07_in.f a0_3 1 a0_0).bind fun t1011 => (catamaranref07_May.j0 k (!t1011) a0_0 a0_1 a0_2 a0_3 a0_4 a0_5)) = some r := by rw [if_pos rfl] at H; exact H
          clear H
          have H := H1
          clear H1
          replace H := Option.bind_eq_some_iff.mp H
          obtain ⟨t1011, A1013, H⟩ := H
          replace H : (catamaranref07_May.j0 k (!t1011) a0_0 a0_1 a0_2 a0_3 a0_4 a0_5) = some r := H
          have A10 := Aside0.mk A1013
          clear A1013
          have H' := Aside0.mk H
          clear H
          have hcz11_0 : w3.cell? ⟨gb1012, 0, none⟩ = some (.int .i64 a0_0) := (blk_cell BK1012.out 0).trans rfl
          have hcz11_1 : w3.cell? ⟨gb1012, 1, none⟩ = some (.int .i64 a0_1) := (blk_cell BK1012.out 1).trans rfl
          have hcz11_2 : w3.cell? ⟨gb1012, 2, none⟩ = some (.int .i64 a0_2) := (blk_cell BK1012.out 2).trans rfl
          have hcz11_3 : w3.cell? ⟨gb1012, 3, none⟩ = some (.int .i64 a0_3) := (blk_cell BK1012.out 3).trans rfl
          have hcz11_4 : w3.cell? ⟨gb1012, 4, none⟩ = some (.int .i64 a0_4) := (blk_cell BK1012.out 4).trans rfl
          have hcz11_5 : w3.cell? ⟨gb1012, 5, none⟩ = some (.int .i64 a0_5) := (blk_cell BK1012.out 5).trans rfl
          have hfz11_0 := blk_frozen BK1012.out 0
          have hfz11_1 := blk_frozen BK1012.out 1
          have hfz11_2 := blk_frozen BK1012.out 2
          have hfz11_3 := blk_frozen BK1012.out 3
          have hfz11_4 := blk_frozen BK1012.out 4
          have hfz11_5 := blk_frozen BK1012.out 5
          go_wp2_with (first | ((with_reducible refine gate_callee (f := 135) rfl ?_); refine goesL_ (some 5) rfl rfl Try.func135 (by kernel_rfl) rfl #[.int .i64 a0_0, .int .i64 1, .int .i64 3] rfl (by (try simp only [List.map_toArray, List.map_cons, List.map_nil]); first | done | rfl | (simp only [List.length_drop, List.length_take]; rfl)) ?_; (with_reducible refine (catamaranref07_in.calls a0_0 1 3 true _ A4.out).mono ?_); rintro e w' ⟨rfl, ⟨nd, rfl⟩⟩; refine ⟨_, rfl, ?_⟩) | (go_at_call 135; (with_reducible refine (catamaranref07_in.calls a0_1 1 16 true _ A6.out).mono ?_); rintro e w' ⟨rfl, ⟨nd, rfl⟩⟩) | (go_at_call 135; (with_reducible refine (catamaranref07_in.calls a0_2 (wrap64 (a0_0 + 2)) 32 true _ A8.out).mono ?_); rintro e w' ⟨rfl, ⟨nd, rfl⟩⟩) | (go_at_call 135; (with_reducible refine (catamaranref07_in.calls a0_3 1 a0_0 t1011 _ A10.out).mono ?_); rintro e w' ⟨rfl, ⟨nd, rfl⟩⟩))
          go_meet
          case rel => exact ⟨_, (!t1011), (by first | rfl | (simp; done) | (simp [*]; done)), H', ⟨by first | omega | exact Nat.le_refl _⟩, ⟨by (with_reducible repeat (first | refine blk_drewN ?_ _ | refine blk_drew ?_ | refine blk_alloc ?_ _)); exact BK1012.out⟩, ⟨by repeat (first | (with_reducible first | exact HB.out | apply below_alloc | apply pbdN | apply bdr1 | refine below_set ?_ GE1012.out) | exact HB.out)⟩⟩
        · replace c9 := Bool.eq_false_iff.mpr c9
          subst c9
          have H1 : (catamaranref07_May.j0 k true a0_0 a0_1 a0_2 a0_3 a0_4 a0_5) = some r := by rw [if_neg (show ¬ (false = true) by decide)] at H; exact H
          clear H
          have H := H1
          clear H1
          have H' := Aside0.mk H
          clear H
          have hcz12_0 : w3.cell? ⟨gb1012, 0, none⟩ = some (.int .i64 a0_0) := (blk_cell BK1012.out 0).trans rfl
          have hcz12_1 : w3.cell? ⟨gb1012, 1, none⟩ = some (.int .i64 a0_1) := (blk_cell BK1012.out 1).trans rfl
          have hcz12_2 : w3.cell? ⟨gb1012, 2, none⟩ = some (.int .i64 a0_2) := (blk_cell BK1012.out 2).trans rfl
          have hcz12_3 : w3.cell? ⟨gb1012, 3, none⟩ = some (.int .i64 a0_3) := (blk_cell BK1012.out 3).trans rfl
          have hcz12_4 : w3.cell? ⟨gb1012, 4, none⟩ = some (.int .i64 a0_4) := (blk_cell BK1012.out 4).trans rfl
          have hcz12_5 : w3.cell? ⟨gb1012, 5, none⟩ = some (.int .i64 a0_5) := (blk_cell BK1012.out 5).trans rfl
          have hfz12_0 := blk_frozen BK1012.out 0
          have hfz12_1 := blk_frozen BK1012.out 1
          have hfz12_2 := blk_frozen BK1012.out 2
          have hfz12_3 := blk_frozen BK1012.out 3
          have hfz12_4 := blk_frozen BK1012.out 4
          have hfz12_5 := blk_frozen BK1012.out 5
          go_wp2_with (first | ((with_reducible refine gate_callee (f := 135) rfl ?_); refine goesL_ (some 5) rfl rfl Try.func135 (by kernel_rfl) rfl #[.int .i64 a0_0, .int .i64 1, .int .i64 3] rfl (by (try simp only [List.map_toArray, List.map_cons, List.map_nil]); first | done | rfl | (simp only [List.length_drop, List.length_take]; rfl)) ?_; (with_reducible refine (catamaranref07_in.calls a0_0 1 3 true _ A4.out).mono ?_); rintro e w' ⟨rfl, ⟨nd, rfl⟩⟩; refine ⟨_, rfl, ?_⟩) | (go_at_call 135; (with_reducible refine (catamaranref07_in.calls a0_1 1 16 true _ A6.out).mono ?_); rintro e w' ⟨rfl, ⟨nd, rfl⟩⟩) | (go_at_call 135; (with_reducible refine (catamaranref07_in.calls a0_2 (wrap64 (a0_0 + 2)) 32 false _ A8.out).mono ?_); rintro e w' ⟨rfl, ⟨nd, rfl⟩⟩))
          go_meet
          case rel => exact ⟨_, (true), (by first | rfl | (simp; done) | (simp [*]; done)), H', ⟨by first | omega | exact Nat.le_refl _⟩, ⟨by (with_reducible repeat (first | refine blk_drewN ?_ _ | refine blk_drew ?_ | refine blk_alloc ?_ _)); exact BK1012.out⟩, ⟨by repeat (first | (with_reducible first | exact HB.out | apply below_alloc | apply pbdN | apply bdr1 | refine below_set ?_ GE1012.out) | exact HB.out)⟩⟩
      · replace c7 := Bool.eq_false_iff.mpr c7
        subst c7
        have H1 : (catamaranref07_May.j0 k true a0_0 a0_1 a0_2 a0_3 a0_4 a0_5) = some r := by rw [if_neg (show ¬ (false = true) by decide)] at H; exact H
        clear H
        have H := H1
        clear H1
        have H' := Aside0.mk H
        clear H
        have hcz13_0 : w3.cell? ⟨gb1012, 0, none⟩ = some (.int .i64 a0_0) := (blk_cell BK1012.out 0).trans rfl
        have hcz13_1 : w3.cell? ⟨gb1012, 1, none⟩ = some (.int .i64 a0_1) := (blk_cell BK1012.out 1).trans rfl
        have hcz13_2 : w3.cell? ⟨gb1012, 2, none⟩ = some (.int .i64 a0_2) := (blk_cell BK1012.out 2).trans rfl
        have hcz13_3 : w3.cell? ⟨gb1012, 3, none⟩ = some (.int .i64 a0_3) := (blk_cell BK1012.out 3).trans rfl
        have hcz13_4 : w3.cell? ⟨gb1012, 4, none⟩ = some (.int .i64 a0_4) := (blk_cell BK1012.out 4).trans rfl
        have hcz13_5 : w3.cell? ⟨gb1012, 5, none⟩ = some (.int .i64 a0_5) := (blk_cell BK1012.out 5).trans rfl
        have hfz13_0 := blk_frozen BK1012.out 0
        have hfz13_1 := blk_frozen BK1012.out 1
        have hfz13_2 := blk_frozen BK1012.out 2
        have hfz13_3 := blk_frozen BK1012.out 3
        have hfz13_4 := blk_frozen BK1012.out 4
        have hfz13_5 := blk_frozen BK1012.out 5
        go_wp2_with (first | ((with_reducible refine gate_callee (f := 135) rfl ?_); refine goesL_ (some 5) rfl rfl Try.func135 (by kernel_rfl) rfl #[.int .i64 a0_0, .int .i64 1, .int .i64 3] rfl (by (try simp only [List.map_toArray, List.map_cons, List.map_nil]); first | done | rfl | (simp only [List.length_drop, List.length_take]; rfl)) ?_; (with_reducible refine (catamaranref07_in.calls a0_0 1 3 true _ A4.out).mono ?_); rintro e w' ⟨rfl, ⟨nd, rfl⟩⟩; refine ⟨_, rfl, ?_⟩) | (go_at_call 135; (with_reducible refine (catamaranref07_in.calls a0_1 1 16 false _ A6.out).mono ?_); rintro e w' ⟨rfl, ⟨nd, rfl⟩⟩))
        go_meet
        case rel => exact ⟨_, (true), (by first | rfl | (simp; done) | (simp [*]; done)), H', ⟨by first | omega | exact Nat.le_refl _⟩, ⟨by (with_reducible repeat (first | refine blk_drewN ?_ _ | refine blk_drew ?_ | refine blk_alloc ?_ _)); exact BK1012.out⟩, ⟨by repeat (first | (with_reducible first | exact HB.out | apply below_alloc | apply pbdN | apply bdr1 | refine below_set ?_ GE1012.out) | exact HB.out)⟩⟩
    · replace c5 := Bool.eq_false_iff.mpr c5
      subst c5
      have H1 : (catamaranref07_May.j0 k true a0_0 a0_1 a0_2 a0_3 a0_4 a0_5) = some r := by rw [if_neg (show ¬ (false = true) by decide)] at H; exact H
      clear H
      have H := H1
      clear H1
      have H' := Aside0.mk H
      clear H
      have hcz14_0 : w3.cell? ⟨gb1012, 0, none⟩ = some (.int .i64 a0_0) := (blk_cell BK1012.out 0).trans rfl
      have hcz14_1 : w3.cell? ⟨gb1012, 1, none⟩ = some (.int .i64 a0_1) := (blk_cell BK1012.out 1).trans rfl
      have hcz14_2 : w3.cell? ⟨gb1012, 2, none⟩ = some (.int .i64 a0_2) := (blk_cell BK1012.out 2).trans rfl
      have hcz14_3 : w3.cell? ⟨gb1012, 3, none⟩ = some (.int .i64 a0_3) := (blk_cell BK1012.out 3).trans rfl
      have hcz14_4 : w3.cell? ⟨gb1012, 4, none⟩ = some (.int .i64 a0_4) := (blk_cell BK1012.out 4).trans rfl
      have hcz14_5 : w3.cell? ⟨gb1012, 5, none⟩ = some (.int .i64 a0_5) := (blk_cell BK1012.out 5).trans rfl
      have hfz14_0 := blk_frozen BK1012.out 0
      have hfz14_1 := blk_frozen BK1012.out 1
      have hfz14_2 := blk_frozen BK1012.out 2
      have hfz14_3 := blk_frozen BK1012.out 3
      have hfz14_4 := blk_frozen BK1012.out 4
      have hfz14_5 := blk_frozen BK1012.out 5
      go_wp2_with (first | ((with_reducible refine gate_callee (f := 135) rfl ?_); refine goesL_ (some 5) rfl rfl Try.func135 (by kernel_rfl) rfl #[.int .i64 a0_0, .int .i64 1, .int .i64 3] rfl (by (try simp only [List.map_toArray, List.map_cons, List.map_nil]); first | done | rfl | (simp only [List.length_drop, List.length_take]; rfl)) ?_; (with_reducible refine (catamaranref07_in.calls a0_0 1 3 false _ A4.out).mono ?_); rintro e w' ⟨rfl, ⟨nd, rfl⟩⟩; refine ⟨_, rfl, ?_⟩))
      go_meet
      case rel => exact ⟨_, (true), (by first | rfl | (simp; done) | (simp [*]; done)), H', ⟨by first | omega | exact Nat.le_refl _⟩, ⟨by (with_reducible repeat (first | refine blk_drewN ?_ _ | refine blk_drew ?_ | refine blk_alloc ?_ _)); exact BK1012.out⟩, ⟨by repeat (first | (with_reducible first | exact HB.out | apply below_alloc | apply pbdN | apply bdr1 | refine below_set ?_ GE1012.out) | exact HB.out)⟩⟩
  case rest =>
    clear HC2
    try clear c1
    try clear p2
    try clear c5
    try clear p6
    try clear c7
    try clear c9
    try clear c11
    try clear c13
    try clear hcz11_0
    try clear hcz11_1
    try clear hcz11_2
    try clear hcz11_3
    try clear hcz11_4
    try clear hcz11_5
    try clear hcz12_0
    try clear hcz12_1
    try clear hcz12_2
    try clear hcz12_3
    try clear hcz12_4
    try clear hcz12_5
    try clear hcz13_0
    try clear hcz13_1
    try clear hcz13_2
    try clear hcz13_3
    try clear hcz13_4
    try clear hcz13_5
    try clear hcz14_0
    try clear hcz14_1
    try clear hcz14_2
    try clear hcz14_3
    try clear hcz14_4
    try clear hcz14_5
    try clear hfz11_0
    try clear hfz11_1
    try clear hfz11_2
    try clear hfz11_3
    try clear hfz11_4
    try clear hfz11_5
    try clear hfz12_0
    try clear hfz12_1
    try clear hfz12_2
    try clear hfz12_3
    try clear hfz12_4
    try clear hfz12_5
    try clear hfz13_0
    try clear hfz13_1
    try clear hfz13_2
    try clear hfz13_3
    try clear hfz13_4
    try clear hfz13_5
    try clear hfz14_0
    try clear hfz14_1
    try clear hfz14_2
    try clear hfz14_3
    try clear hfz14_4
    try clear hfz14_5
    obtain ⟨kq, x29_1, rfl, HA, HJ1, BK1012, HB⟩ := hcut
    cases kq with
    | zero => exact absurd HA.out (by simp [catamaranref07_May.j0])
    | succ kj1 =>
      have H := HA.out
      clear HA
      simp only [catamaranref07_May.j0] at H
      by_cases c15 : x29_1 = true
      · subst c15
        have H1 : (some false) = some r := by rw [if_pos rfl] at H; exact H
        clear H
        have H := H1
        clear H1
        obtain rfl := Option.some.inj H
        go_wp2
        go_ret
        exact ⟨by first | rfl | (simp [errW_none, errW_some] <;> rfl) | (simp [*, errW_none, errW_some] <;> rfl), by repeat (first | (with_reducible first | exact HB.out | apply below_alloc | apply pbdN | apply bdr1 | refine below_set ?_ GE1012.out) | exact HB.out)⟩
      · replace c15 := Bool.eq_false_iff.mpr c15
        subst c15
        have H1 : ((catamaranref07_in.f a0_4 1 4).bind fun t1006 => (if t1006 = true then ((catamaranref07_in.f a0_5 4 64).bind fun t1007 => (some t1007)) else (some false))) = some r := by rw [if_neg (show ¬ (false = true) by decide)] at H; exact H
        clear H
        have H := H1
        clear H1
        replace H := Option.bind_eq_some_iff.mp H
        obtain ⟨t1006, A1014, H⟩ := H
        replace H : (if t1006 = true then ((catamaranref07_in.f a0_5 4 64).bind fun t1007 => (some t1007)) else (some false)) = some r := H
        have A16 := Aside0.mk A1014
        clear A1014
        by_cases c17 : t1006 = true
        · subst c17
          have H1 : ((catamaranref07_in.f a0_5 4 64).bind fun t1007 => (some t1007)) = some r := by rw [if_pos rfl] at H; exact H
          clear H
          have H := H1
          clear H1
          replace H := Option.bind_eq_some_iff.mp H
          obtain ⟨t1007, A1015, H⟩ := H
          replace H : (some t1007) = some r := H
          have A18 := Aside0.mk A1015
          clear A1015
          obtain rfl := Option.some.inj H
          have hcz19_0 : wc.cell? ⟨gb1012, 0, none⟩ = some (.int .i64 a0_0) := (blk_cell BK1012.out 0).trans rfl
          have hcz19_1 : wc.cell? ⟨gb1012, 1, none⟩ = some (.int .i64 a0_1) := (blk_cell BK1012.out 1).trans rfl
          have hcz19_2 : wc.cell? ⟨gb1012, 2, none⟩ = some (.int .i64 a0_2) := (blk_cell BK1012.out 2).trans rfl
          have hcz19_3 : wc.cell? ⟨gb1012, 3, none⟩ = some (.int .i64 a0_3) := (blk_cell BK1012.out 3).trans rfl
          have hcz19_4 : wc.cell? ⟨gb1012, 4, none⟩ = some (.int .i64 a0_4) := (blk_cell BK1012.out 4).trans rfl
          have hcz19_5 : wc.cell? ⟨gb1012, 5, none⟩ = some (.int .i64 a0_5) := (blk_cell BK1012.out 5).trans rfl
          have hfz19_0 := blk_frozen BK1012.out 0
          have hfz19_1 := blk_frozen BK1012.out 1
          have hfz19_2 := blk_frozen BK1012.out 2
          have hfz19_3 := blk_frozen BK1012.out 3
          have hfz19_4 := blk_frozen BK1012.out 4
          have hfz19_5 := blk_frozen BK1012.out 5
          go_wp2_with (first | ((with_reducible refine gate_callee (f := 135) rfl ?_); refine goesL_ (some 32) rfl rfl Try.func135 (by kernel_rfl) rfl #[.int .i64 a0_4, .int .i64 1, .int .i64 4] rfl (by (try simp only [List.map_toArray, List.map_cons, List.map_nil]); first | done | rfl | (simp only [List.length_drop, List.length_take]; rfl)) ?_; (with_reducible refine (catamaranref07_in.calls a0_4 1 4 true _ A16.out).mono ?_); rintro e w' ⟨rfl, ⟨nd, rfl⟩⟩; refine ⟨_, rfl, ?_⟩) | (go_at_call 135; (with_reducible refine (catamaranref07_in.calls a0_5 4 64 t1007 _ A18.out).mono ?_); rintro e w' ⟨rfl, ⟨nd, rfl⟩⟩))
          go_ret
          exact ⟨by first | rfl | (simp [errW_none, errW_some] <;> rfl) | (simp [*, errW_none, errW_some] <;> rfl), by repeat (first | (with_reducible first | exact HB.out | apply below_alloc | apply pbdN | apply bdr1 | refine below_set ?_ GE1012.out) | exact HB.out)⟩
        · replace c17 := Bool.eq_false_iff.mpr c17
          subst c17
          have H1 : (some false) = some r := by rw [if_neg (show ¬ (false = true) by decide)] at H; exact H
          clear H
          have H := H1
          clear H1
          obtain rfl := Option.some.inj H
          have hcz20_0 : wc.cell? ⟨gb1012, 0, none⟩ = some (.int .i64 a0_0) := (blk_cell BK1012.out 0).trans rfl
          have hcz20_1 : wc.cell? ⟨gb1012, 1, none⟩ = some (.int .i64 a0_1) := (blk_cell BK1012.out 1).trans rfl
          have hcz20_2 : wc.cell? ⟨gb1012, 2, none⟩ = some (.int .i64 a0_2) := (blk_cell BK1012.out 2).trans rfl
          have hcz20_3 : wc.cell? ⟨gb1012, 3, none⟩ = some (.int .i64 a0_3) := (blk_cell BK1012.out 3).trans rfl
          have hcz20_4 : wc.cell? ⟨gb1012, 4, none⟩ = some (.int .i64 a0_4) := (blk_cell BK1012.out 4).trans rfl
          have hcz20_5 : wc.cell? ⟨gb1012, 5, none⟩ = some (.int .i64 a0_5) := (blk_cell BK1012.out 5).trans rfl
          have hfz20_0 := blk_frozen BK1012.out 0
          have hfz20_1 := blk_frozen BK1012.out 1
          have hfz20_2 := blk_frozen BK1012.out 2
          have hfz20_3 := blk_frozen BK1012.out 3
          have hfz20_4 := blk_frozen BK1012.out 4
          have hfz20_5 := blk_frozen BK1012.out 5
          go_wp2_with (first | ((with_reducible refine gate_callee (f := 135) rfl ?_); refine goesL_ (some 32) rfl rfl Try.func135 (by kernel_rfl) rfl #[.int .i64 a0_4, .int .i64 1, .int .i64 4] rfl (by (try simp only [List.map_toArray, List.map_cons, List.map_nil]); first | done | rfl | (simp only [List.length_drop, List.length_take]; rfl)) ?_; (with_reducible refine (catamaranref07_in.calls a0_4 1 4 false _ A16.out).mono ?_); rintro e w' ⟨rfl, ⟨nd, rfl⟩⟩; refine ⟨_, rfl, ?_⟩))
          go_ret
          exact ⟨by first | rfl | (simp [errW_none, errW_some] <;> rfl) | (simp [*, errW_none, errW_some] <;> rfl), by repeat (first | (with_reducible first | exact HB.out | apply below_alloc | apply pbdN | apply bdr1 | refine below_set ?_ GE1012.out) | exact HB.out)⟩
end Go.Proofs.Ytdkjhcdniepbhaa.P
end
section
set_option linter.unusedVariables false
set_option linter.unusedSimpArgs false
namespace Go.Proofs.Ytdkjhcdniepbhaa.P
open Go.RowKit Go.Proofs.PrintWords Go.Proofs.PrintLast Go.Proofs.PrintMore
attribute [local go_sem] max2_int min2_int max_two min_two max_three min_three max_four min_four
def catamaranref07_first.f (a0_0 : Int) (a0_1 : Int) (a0_2 : Int) (a0_3 : Int) (a0_4 : Int) (a0_5 : Int) : Option (Int × Int × Int × Int) := (catamaranref07_Many.f a0_0 a0_1 a0_2 a0_3 a0_4 a0_5).bind fun t1000 => (some (2, wrap64 (2 + (wrap64 (2 * a0_2))), wrap64 ((wrap64 (2 + (wrap64 (2 * a0_2)))) + (wrap64 (a0_0 * t1000))), wrap64 ((wrap64 ((wrap64 (2 + (wrap64 (2 * a0_2)))) + (wrap64 (a0_0 * t1000)))) + (wrap64 ((wrap64 (4 * a0_0)) * a0_1)))))
def catamaranref07_first.T3 : Bool × List (List Nat × List Nat) := (true, [([], []), ([], []), ([1], [1]), ([], []), ([3], [3]), ([2, 4], [2, 4]), ([0, 5], [0, 5]), ([6, 4, 0, 1, 2, 3, 4, 5, 6], [6])])
def catamaranref07_first.B3 : List Nat := [0, 0, 2, 0, 8, 30, 63, 127]
theorem catamaranref07_first.tab3 : rtab .any (opsOf Try.f97 3) = catamaranref07_first.T3 := by kernel_rfl
theorem catamaranref07_first.bits3 : waitsOk catamaranref07_first.T3.2 catamaranref07_first.B3 = true := by kernel_rfl
def catamaranref07_first.T4 : Bool × List (List Nat × List Nat) := (true, [([], []), ([], []), ([], []), ([], []), ([], []), ([4], [4]), ([5], [5]), ([], []), ([7], [7]), ([6, 8], [6, 8]), ([3, 9], [3, 9]), ([0, 0], [0]), ([1, 11, 0, 1, 11], [1]), ([2, 12, 0, 1, 2, 11, 12], [2]), ([10, 13, 0, 1, 2, 3, 4, 5, 6, 7, 8, 9, 10, 11, 12, 13], [10])])
def catamaranref07_first.B4 : List Nat := [0, 0, 0, 0, 0, 16, 48, 0, 128, 496, 1016, 1, 2051, 6151, 16383]
theorem catamaranref07_first.tab4 : rtab .any (opsOf Try.f97 4) = catamaranref07_first.T4 := by kernel_rfl
theorem catamaranref07_first.bits4 : waitsOk catamaranref07_first.T4.2 catamaranref07_first.B4 = true := by kernel_rfl
set_option maxHeartbeats 8000000 in
set_option maxRecDepth 100000 in
theorem catamaranref07_first.calls (a0_0 : Int) (a0_1 : Int) (a0_2 : Int) (a0_3 : Int) (a0_4 : Int) (a0_5 : Int) (r1 : Int) (r2 : Int) (r3 : Int) (r4 : Int) (w : World) (h : catamaranref07_first.f a0_0 a0_1 a0_2 a0_3 a0_4 a0_5 = some (r1, r2, r3, r4)) :
    Calls Try.prog 97 #[.agg #[.int .i64 a0_0, .int .i64 a0_1, .int .i64 a0_2, .int .i64 a0_3, .int .i64 a0_4, .int .i64 a0_5]] w fun e w' => e = .returned (.tuple #[.int .i64 r1, .int .i64 r2, .int .i64 r3, .int .i64 r4]) ∧ Below w.heap.size w w' := by
  have hu44 := Try.underlying44
  have HB := Aside0.mk (Below.refl w.heap.size w)
  have H : ((catamaranref07_Many.f a0_0 a0_1 a0_2 a0_3 a0_4 a0_5).bind fun t1000 => (some (2, wrap64 (2 + (wrap64 (2 * a0_2))), wrap64 ((wrap64 (2 + (wrap64 (2 * a0_2)))) + (wrap64 (a0_0 * t1000))), wrap64 ((wrap64 ((wrap64 (2 + (wrap64 (2 * a0_2)))) + (wrap64 (a0_0 * t1000)))) + (wrap64 ((wrap64 (4 * a0_0)) * a0_1)))))) = some (r1, r2, r3, r4) := h
  clear h
  replace H := Option.bind_eq_some_iff.mp H
  obtain ⟨t1000, A20, H⟩ := H
  replace H : (some (2, wrap64 (2 + (wrap64 (2 * a0_2))), wrap64 ((wrap64 (2 + (wrap64 (2 * a0_2)))) + (wrap64 (a0_0 * t1000))), wrap64 ((wrap64 ((wrap64 (2 + (wrap64 (2 * a0_2)))) + (wrap64 (a0_0 * t1000)))) + (wrap64 ((wrap64 (4 * a0_0)) * a0_1))))) = some (r1, r2, r3, r4) := H
  have A2 := Aside0.mk A20
  clear A20
  simp only [Option.some.injEq, Prod.mk.injEq] at H
  obtain ⟨rfl, rfl, rfl, rfl⟩ := H
  go_enter Try.func97, Try.ntmps97
  try go_wp2_with (first | ((with_reducible refine gate_dst (N := 1) rfl ?_); refine box_event ?hg (N := 1) ?hd (cs := #[.int .i64 a0_0, .int .i64 a0_1, .int .i64 a0_2, .int .i64 a0_3, .int .i64 a0_4, .int .i64 a0_5]) (t := 44) ?hr ?_; (case hd => rfl); (case hg => rfl); (case hr => first | (go_simp; done) | (go_simp; rfl)); intro gb1001 hg w3 hbox hb; have n0_ := Aside0.mk (below_step (by repeat (first | (with_reducible first | exact HB.out | apply below_alloc | apply pbdN | apply bdr1) | exact HB.out)) hb); have n1_ := Aside0.mk (hbox); have n2_ := Aside0.mk ((by rw [hg]; exact (below_size (by repeat (first | (with_reducible first | exact HB.out | apply below_alloc | apply pbdN | apply bdr1) | exact HB.out))) : w.heap.size ≤ gb1001)); have n3_ := Aside0.mk ((by rw [hg]; exact (below_size (by repeat (first | (with_reducible first | exact HB.out | apply below_alloc | apply pbdN | apply bdr1) | exact HB.out))) : w.heap.size ≤ gb1001)); clear HB; have HB := n0_; have BK1001 := n1_; have GW1001 := n2_; have GE1001 := n3_; clear n0_ n1_ n2_ n3_; clear hb hbox hg; have hcz4_0 : w3.cell? ⟨gb1001, 0, none⟩ = some (.int .i64 a0_0) := (blk_cell BK1001.out 0).trans rfl; have hcz4_1 : w3.cell? ⟨gb1001, 1, none⟩ = some (.int .i64 a0_1) := (blk_cell BK1001.out 1).trans rfl; have hcz4_2 : w3.cell? ⟨gb1001, 2, none⟩ = some (.int .i64 a0_2) := (blk_cell BK1001.out 2).trans rfl; have hcz4_3 : w3.cell? ⟨gb1001, 3, none⟩ = some (.int .i64 a0_3) := (blk_cell BK1001.out 3).trans rfl; have hcz4_4 : w3.cell? ⟨gb1001, 4, none⟩ = some (.int .i64 a0_4) := (blk_cell BK1001.out 4).trans rfl; have hcz4_5 : w3.cell? ⟨gb1001, 5, none⟩ = some (.int .i64 a0_5) := (blk_cell BK1001.out 5).trans rfl; have hfz4_0 := blk_frozen BK1001.out 0; have hfz4_1 := blk_frozen BK1001.out 1; have hfz4_2 := blk_frozen BK1001.out 2; have hfz4_3 := blk_frozen BK1001.out 3; have hfz4_4 := blk_frozen BK1001.out 4; have hfz4_5 := blk_frozen BK1001.out 5))
  have n0_ := Aside0.mk (blk_drew BK1001.out)
  have n1_ := Aside0.mk (bdr1 HB.out)
  clear BK1001
  clear HB
  have BK1001 := n0_
  have HB := n1_
  clear n0_ n1_
  refine start_ (n := 8) (S := fun w' => w'.cell? ⟨gb1001, 0, none⟩ = some (.int .i64 a0_0) ∧ w'.cell? ⟨gb1001, 1, none⟩ = some (.int .i64 a0_1) ∧ w'.cell? ⟨gb1001, 2, none⟩ = some (.int .i64 a0_2) ∧ w'.cell? ⟨gb1001, 3, none⟩ = some (.int .i64 a0_3) ∧ w'.cell? ⟨gb1001, 4, none⟩ = some (.int .i64 a0_4) ∧ w'.cell? ⟨gb1001, 5, none⟩ = some (.int .i64 a0_5)) (ds := []) #[false, false, false, false, false, false, false, false] (by kernel_rfl) rfl rfl ⟨(blk_cell BK1001.out 0).trans rfl, (blk_cell BK1001.out 1).trans rfl, (blk_cell BK1001.out 2).trans rfl, (blk_cell BK1001.out 3).trans rfl, (blk_cell BK1001.out 4).trans rfl, (blk_cell BK1001.out 5).trans rfl⟩ (fun hHeld => ?_); refine wtW catamaranref07_first.tab3 catamaranref07_first.bits3 (fun HT_ HW_ => ?_)
  generalize w3.drew = w5 at BK1001 HB hHeld ⊢
  refine pure_ (i := 0) (N := some 14) (v := ?_) (a' := ?_) #[true, false, false, false, false, false, false, false] rfl rfl (any_of HT_.out (by kernel_rfl)) (fun _ _ _ h => h) (Or.inl ⟨by rfl, ?_⟩) ?_ ?_
  rotate_left
  · intro w'
    go_simp
    with_reducible rfl
  rotate_left
  · simp only [Act.put, List.setIfInBounds_toArray, List.set_cons_zero, List.set_cons_succ, i64_w, i32_w]
    rfl
  refine pure_ (i := 1) (N := some 15) (v := ?_) (a' := ?_) #[true, true, false, false, false, false, false, false] rfl rfl (any_of HT_.out (by kernel_rfl)) (fun _ _ _ h => h) (Or.inl ⟨by rfl, ?_⟩) ?_ ?_
  rotate_left
  · intro w'
    go_simp
    with_reducible rfl
  rotate_left
  · simp only [Act.put, List.setIfInBounds_toArray, List.set_cons_zero, List.set_cons_succ, i64_w, i32_w]
    rfl
  refine take_ (i := 2) (N := some 16) (v := ?_) (a' := ?_) #[true, true, true, false, false, false, false, false] rfl rfl (take_ofW HT_.out HW_.out (by kernel_rfl)) (fun _ _ _ h => h) (Or.inl ⟨by rfl, ?_⟩) hHeld ?_ ?_
  rotate_left
  · rintro w' ⟨s0, s1, s2, s3, s4, s5⟩
    go_simp
    with_reducible rfl
  rotate_left
  · simp only [Act.put, List.setIfInBounds_toArray, List.set_cons_zero, List.set_cons_succ, i64_w, i32_w]
    rfl
  refine take_ (i := 3) (N := some 17) (v := ?_) (a' := ?_) #[true, true, true, true, false, false, false, false] rfl rfl (take_ofW HT_.out HW_.out (by kernel_rfl)) (fun _ _ _ h => h) (Or.inl ⟨by rfl, ?_⟩) hHeld ?_ ?_
  rotate_left
  · rintro w' ⟨s0, s1, s2, s3, s4, s5⟩
    go_simp
    with_reducible rfl
  rotate_left
  · simp only [Act.put, List.setIfInBounds_toArray, List.set_cons_zero, List.set_cons_succ, i64_w, i32_w]
    rfl
  refine one_ (i := 4) (N := some 18) #[true, true, true, true, true, false, false, false] rfl rfl (one_of HT_.out (by kernel_rfl)) (by decide) (fun K hK => ?_)
  refine goes_ Try.func116 (by kernel_rfl) rfl #[.agg #[.int .i64 a0_0, .int .i64 a0_1, .int .i64 a0_2, .int .i64 a0_3, .int .i64 a0_4, .int .i64 a0_5]] (by rfl) rfl rfl (by (try simp only [List.map_toArray, List.map_cons, List.map_nil]); first | done | rfl | (simp only [List.length_drop, List.length_take]; rfl)) ?_
  with_reducible refine (catamaranref07_Many.calls a0_0 a0_1 a0_2 a0_3 a0_4 a0_5 t1000 _ A2.out).mono ?_
  rintro e w6 ⟨rfl, hb⟩
  refine ⟨_, rfl, ?_⟩
  have n0_ := Aside0.mk (blk_below (g := gb1001) (o := .cells #[.int .i64 a0_0, .int .i64 a0_1, .int .i64 a0_2, .int .i64 a0_3, .int .i64 a0_4, .int .i64 a0_5] 44 (0, 0)) (by (with_reducible repeat (first | refine blk_drewN ?_ _ | refine blk_drew ?_ | refine blk_alloc ?_ _)); exact BK1001.out) hb)
  have n1_ := Aside0.mk (below_step (by repeat (first | (with_reducible first | exact HB.out | apply below_alloc | apply pbdN | apply bdr1 | refine below_set ?_ GE1001.out) | exact HB.out)) hb)
  clear BK1001
  clear HB
  have BK1001 := n0_
  have HB := n1_
  clear n0_ n1_
  (try clear hb)
  (try clear hb2)
  (try clear hk)
  (try clear hi)
  refine hK.out _ _ ⟨(blk_cell BK1001.out 0).trans rfl, (blk_cell BK1001.out 1).trans rfl, (blk_cell BK1001.out 2).trans rfl, (blk_cell BK1001.out 3).trans rfl, (blk_cell BK1001.out 4).trans rfl, (blk_cell BK1001.out 5).trans rfl⟩ (fun hHeld => ?_)
  clear hK K
  refine norm_ (a' := ?_) ?_ ?_
  rotate_left
  · show Act.put _ (some 18) _ = _
    simp only [Act.put, List.setIfInBounds_toArray, List.set_cons_zero, List.set_cons_succ, i64_w, i32_w]
    rfl
  refine pure_ (i := 5) (N := some 19) (v := ?_) (a' := ?_) #[true, true, true, true, true, true, false, false] rfl rfl (any_of HT_.out (by kernel_rfl)) (fun _ _ _ h => h) (Or.inl ⟨by rfl, ?_⟩) ?_ ?_
  rotate_left
  · intro w'
    go_simp
    with_reducible rfl
  rotate_left
  · simp only [Act.put, List.setIfInBounds_toArray, List.set_cons_zero, List.set_cons_succ, i64_w, i32_w]
    rfl
  refine pure_ (i := 6) (N := some 20) (v := ?_) (a' := ?_) #[true, true, true, true, true, true, true, false] rfl rfl (any_of HT_.out (by kernel_rfl)) (fun _ _ _ h => h) (Or.inl ⟨by rfl, ?_⟩) ?_ ?_
  rotate_left
  · intro w'
    go_simp
    with_reducible rfl
  rotate_left
  · simp only [Act.put, List.setIfInBounds_toArray, List.set_cons_zero, List.set_cons_succ, i64_w, i32_w]
    rfl
  refine pure_ (i := 7) (N := some 8) (v := ?_) (a' := ?_) #[true, true, true, true, true, true, true, true] rfl rfl (any_of HT_.out (by kernel_rfl)) (fun _ _ _ h => h) (Or.inl ⟨by rfl, ?_⟩) ?_ ?_
  rotate_left
  · intro w'
    go_simp
    with_reducible rfl
  rotate_left
  · simp only [Act.put, List.setIfInBounds_toArray, List.set_cons_zero, List.set_cons_succ, i64_w, i32_w]
    rfl
  refine done_ (done_of HT_.out (by kernel_rfl)) ?_
  try go_wp2
  have n0_ := Aside0.mk (blk_drew BK1001.out)
  have n1_ := Aside0.mk (bdr1 HB.out)
  clear BK1001
  clear HB
  have BK1001 := n0_
  have HB := n1_
  clear n0_ n1_
  refine start_ (n := 15) (S := fun w' => w'.cell? ⟨gb1001, 0, none⟩ = some (.int .i64 a0_0) ∧ w'.cell? ⟨gb1001, 1, none⟩ = some (.int .i64 a0_1) ∧ w'.cell? ⟨gb1001, 2, none⟩ = some (.int .i64 a0_2) ∧ w'.cell? ⟨gb1001, 3, none⟩ = some (.int .i64 a0_3) ∧ w'.cell? ⟨gb1001, 4, none⟩ = some (.int .i64 a0_4) ∧ w'.cell? ⟨gb1001, 5, none⟩ = some (.int .i64 a0_5)) (ds := []) #[false, false, false, false, false, false, false, false, false, false, false, false, false, false, false] (by kernel_rfl) rfl rfl ⟨(blk_cell BK1001.out 0).trans rfl, (blk_cell BK1001.out 1).trans rfl, (blk_cell BK1001.out 2).trans rfl, (blk_cell BK1001.out 3).trans rfl, (blk_cell BK1001.out 4).trans rfl, (blk_cell BK1001.out 5).trans rfl⟩ (fun hHeld => ?_); refine wtW catamaranref07_first.tab4 catamaranref07_first.bits4 (fun HT_ HW_ => ?_)
  generalize w6.drew = w7 at BK1001 HB hHeld ⊢
  refine pure_ (i := 0) (N := some 21) (v := ?_) (a' := ?_) #[true, false, false, false, false, false, false, false, false, false, false, false, false, false, false] rfl rfl (any_of HT_.out (by kernel_rfl)) (fun _ _ _ h => h) (Or.inl ⟨by rfl, ?_⟩) ?_ ?_
  rotate_left
  · intro w'
    go_simp
    with_reducible rfl
  rotate_left
  · simp only [Act.put, List.setIfInBounds_toArray, List.set_cons_zero, List.set_cons_succ, i64_w, i32_w]
    rfl
  refine pure_ (i := 1) (N := some 22) (v := ?_) (a' := ?_) #[true, true, false, false, false, false, false, false, false, false, false, false, false, false, false] rfl rfl (any_of HT_.out (by kernel_rfl)) (fun _ _ _ h => h) (Or.inl ⟨by rfl, ?_⟩) ?_ ?_
  rotate_left
  · intro w'
    go_simp
    with_reducible rfl
  rotate_left
  · simp only [Act.put, List.setIfInBounds_toArray, List.set_cons_zero, List.set_cons_succ, i64_w, i32_w]
    rfl
  refine pure_ (i := 2) (N := some 23) (v := ?_) (a' := ?_) #[true, true, true, false, false, false, false, false, false, false, false, false, false, false, false] rfl rfl (any_of HT_.out (by kernel_rfl)) (fun _ _ _ h => h) (Or.inl ⟨by rfl, ?_⟩) ?_ ?_
  rotate_left
  · intro w'
    go_simp
    with_reducible rfl
  rotate_left
  · simp only [Act.put, List.setIfInBounds_toArray, List.set_cons_zero, List.set_cons_succ, i64_w, i32_w]
    rfl
  refine pure_ (i := 3) (N := some 24) (v := ?_) (a' := ?_) #[true, true, true, true, false, false, false, false, false, false, false, false, false, false, false] rfl rfl (any_of HT_.out (by kernel_rfl)) (fun _ _ _ h => h) (Or.inl ⟨by rfl, ?_⟩) ?_ ?_
  rotate_left
  · intro w'
    go_simp
    with_reducible rfl
  rotate_left
  · simp only [Act.put, List.setIfInBounds_toArray, List.set_cons_zero, List.set_cons_succ, i64_w, i32_w]
    rfl
  refine pure_ (i := 4) (N := some 25) (v := ?_) (a' := ?_) #[true, true, true, true, true, false, false, false, false, false, false, false, false, false, false] rfl rfl (any_of HT_.out (by kernel_rfl)) (fun _ _ _ h => h) (Or.inl ⟨by rfl, ?_⟩) ?_ ?_
  rotate_left
  · intro w'
    go_simp
    with_reducible rfl
  rotate_left
  · simp only [Act.put, List.setIfInBounds_toArray, List.set_cons_zero, List.set_cons_succ, i64_w, i32_w]
    rfl
  refine pure_ (i := 7) (N := some 28) (v := ?_) (a' := ?_) #[true, true, true, true, true, false, false, true, false, false, false, false, false, false, false] rfl rfl (any_of HT_.out (by kernel_rfl)) (fun _ _ _ h => h) (Or.inl ⟨by rfl, ?_⟩) ?_ ?_
  rotate_left
  · intro w'
    go_simp
    with_reducible rfl
  rotate_left
  · simp only [Act.put, List.setIfInBounds_toArray, List.set_cons_zero, List.set_cons_succ, i64_w, i32_w]
    rfl
  refine pure_ (i := 11) (N := some 2) (v := ?_) (a' := ?_) #[true, true, true, true, true, false, false, true, false, false, false, true, false, false, false] rfl rfl (any_of HT_.out (by kernel_rfl)) (fun _ _ _ h => h) (Or.inl ⟨by rfl, ?_⟩) ?_ ?_
  rotate_left
  · intro w'
    go_simp
    with_reducible rfl
  rotate_left
  · simp only [Act.put, List.setIfInBounds_toArray, List.set_cons_zero, List.set_cons_succ, i64_w, i32_w]
    rfl
  refine pure_ (i := 12) (N := some 3) (v := ?_) (a' := ?_) #[true, true, true, true, true, false, false, true, false, false, false, true, true, false, false] rfl rfl (any_of HT_.out (by kernel_rfl)) (fun _ _ _ h => h) (Or.inl ⟨by rfl, ?_⟩) ?_ ?_
  rotate_left
  · intro w'
    go_simp
    with_reducible rfl
  rotate_left
  · simp only [Act.put, List.setIfInBounds_toArray, List.set_cons_zero, List.set_cons_succ, i64_w, i32_w]
    rfl
  refine pure_ (i := 13) (N := some 4) (v := ?_) (a' := ?_) #[true, true, true, true, true, false, false, true, false, false, false, true, true, true, false] rfl rfl (any_of HT_.out (by kernel_rfl)) (fun _ _ _ h => h) (Or.inl ⟨by rfl, ?_⟩) ?_ ?_
  rotate_left
  · intro w'
    go_simp
    with_reducible rfl
  rotate_left
  · simp only [Act.put, List.setIfInBounds_toArray, List.set_cons_zero, List.set_cons_succ, i64_w, i32_w]
    rfl
  refine take_ (i := 5) (N := some 26) (v := ?_) (a' := ?_) #[true, true, true, true, true, true, false, true, false, false, false, true, true, true, false] rfl rfl (take_ofW HT_.out HW_.out (by kernel_rfl)) (fun _ _ _ h => h) (Or.inl ⟨by rfl, ?_⟩) hHeld ?_ ?_
  rotate_left
  · rintro w' ⟨s0, s1, s2, s3, s4, s5⟩
    go_simp
    with_reducible rfl
  rotate_left
  · simp only [Act.put, List.setIfInBounds_toArray, List.set_cons_zero, List.set_cons_succ, i64_w, i32_w]
    rfl
  refine pure_ (i := 6) (N := some 27) (v := ?_) (a' := ?_) #[true, true, true, true, true, true, true, true, false, false, false, true, true, true, false] rfl rfl (any_of HT_.out (by kernel_rfl)) (fun _ _ _ h => h) (Or.inl ⟨by rfl, ?_⟩) ?_ ?_
  rotate_left
  · intro w'
    go_simp
    with_reducible rfl
  rotate_left
  · simp only [Act.put, List.setIfInBounds_toArray, List.set_cons_zero, List.set_cons_succ, i64_w, i32_w]
    rfl
  refine take_ (i := 8) (N := some 29) (v := ?_) (a' := ?_) #[true, true, true, true, true, true, true, true, true, false, false, true, true, true, false] rfl rfl (take_ofW HT_.out HW_.out (by kernel_rfl)) (fun _ _ _ h => h) (Or.inl ⟨by rfl, ?_⟩) hHeld ?_ ?_
  rotate_left
  · rintro w' ⟨s0, s1, s2, s3, s4, s5⟩
    go_simp
    with_reducible rfl
  rotate_left
  · simp only [Act.put, List.setIfInBounds_toArray, List.set_cons_zero, List.set_cons_succ, i64_w, i32_w]
    rfl
  refine pure_ (i := 9) (N := some 30) (v := ?_) (a' := ?_) #[true, true, true, true, true, true, true, true, true, true, false, true, true, true, false] rfl rfl (any_of HT_.out (by kernel_rfl)) (fun _ _ _ h => h) (Or.inl ⟨by rfl, ?_⟩) ?_ ?_
  rotate_left
  · intro w'
    go_simp
    with_reducible rfl
  rotate_left
  · simp only [Act.put, List.setIfInBounds_toArray, List.set_cons_zero, List.set_cons_succ, i64_w, i32_w]
    rfl
  refine pure_ (i := 10) (N := some 31) (v := ?_) (a' := ?_) #[true, true, true, true, true, true, true, true, true, true, true, true, true, true, false] rfl rfl (any_of HT_.out (by kernel_rfl)) (fun _ _ _ h => h) (Or.inl ⟨by rfl, ?_⟩) ?_ ?_
  rotate_left
  · intro w'
    go_simp
    with_reducible rfl
  rotate_left
  · simp only [Act.put, List.setIfInBounds_toArray, List.set_cons_zero, List.set_cons_succ, i64_w, i32_w]
    rfl
  refine pure_ (i := 14) (N := some 5) (v := ?_) (a' := ?_) #[true, true, true, true, true, true, true, true, true, true, true, true, true, true, true] rfl rfl (any_of HT_.out (by kernel_rfl)) (fun _ _ _ h => h) (Or.inl ⟨by rfl, ?_⟩) ?_ ?_
  rotate_left
  · intro w'
    go_simp
    with_reducible rfl
  rotate_left
  · simp only [Act.put, List.setIfInBounds_toArray, List.set_cons_zero, List.set_cons_succ, i64_w, i32_w]
    rfl
  refine done_ (done_of HT_.out (by kernel_rfl)) ?_
  try go_wp2
  refine bodyPost_ret (results_list (rs := [.tmp 2, .tmp 3, .tmp 4, .tmp 5]) rfl (by simp) (.tmp (.tmp (.tmp (.tmp .nil))))) rfl ?_
  exact ⟨by first | rfl | (simp [errW_none, errW_some] <;> rfl) | (simp [*, errW_none, errW_some] <;> rfl), by repeat (first | (with_reducible first | exact HB.out | apply below_alloc | apply pbdN | apply bdr1 | refine below_set ?_ GE1001.out) | exact HB.out)⟩
end Go.Proofs.Ytdkjhcdniepbhaa.P
end
section
set_option linter.unusedVariables false
set_option linter.unusedSimpArgs false
namespace Go.Proofs.Ytdkjhcdniepbhaa.P
open Go.RowKit Go.Proofs.PrintWords Go.Proofs.PrintLast Go.Proofs.PrintMore
attribute [local go_sem] max2_int min2_int max_two min_two max_three min_three max_four min_four
def catamaranref07_Size.f (a0_0 : Int) (a0_1 : Int) (a0_2 : Int) (a0_3 : Int) (a0_4 : Int) (a0_5 : Int) : Option (Int) := (catamaranref07_first.f a0_0 a0_1 a0_2 a0_3 a0_4 a0_5).bind fun bt1000 => (some bt1000.2.2.2)
set_option maxHeartbeats 8000000 in
set_option maxRecDepth 100000 in
theorem catamaranref07_Size.calls (a0_0 : Int) (a0_1 : Int) (a0_2 : Int) (a0_3 : Int) (a0_4 : Int) (a0_5 : Int) (r : Int) (w : World) (h : catamaranref07_Size.f a0_0 a0_1 a0_2 a0_3 a0_4 a0_5 = some r) :
    Calls Try.prog 115 #[.agg #[.int .i64 a0_0, .int .i64 a0_1, .int .i64 a0_2, .int .i64 a0_3, .int .i64 a0_4, .int .i64 a0_5]] w fun e w' => e = .returned (.int .i64 r) ∧ Below w.heap.size w w' := by
  have hu44 := Try.underlying44
  have HB := Aside0.mk (Below.refl w.heap.size w)
  have H : ((catamaranref07_first.f a0_0 a0_1 a0_2 a0_3 a0_4 a0_5).bind fun bt1000 => (some bt1000.2.2.2)) = some r := h
  clear h
  replace H := Option.bind_eq_some_iff.mp H
  obtain ⟨⟨t1000, t1001, t1002, t1003⟩, A20, H⟩ := H
  replace H : (some t1003) = some r := H
  have A2 := Aside0.mk A20
  clear A20
  obtain rfl := Option.some.inj H
  go_enter Try.func115, Try.ntmps115
  go_wp2_with (first | ((with_reducible refine gate_dst (N := 1) rfl ?_); refine box_event ?hg (N := 1) ?hd (cs := #[.int .i64 a0_0, .int .i64 a0_1, .int .i64 a0_2, .int .i64 a0_3, .int .i64 a0_4, .int .i64 a0_5]) (t := 44) ?hr ?_; (case hd => rfl); (case hg => rfl); (case hr => first | (go_simp; done) | (go_simp; rfl)); intro gb1004 hg w3 hbox hb; have n0_ := Aside0.mk (below_step (by repeat (first | (with_reducible first | exact HB.out | apply below_alloc | apply pbdN | apply bdr1) | exact HB.out)) hb); have n1_ := Aside0.mk (hbox); have n2_ := Aside0.mk ((by rw [hg]; exact (below_size (by repeat (first | (with_reducible first | exact HB.out | apply below_alloc | apply pbdN | apply bdr1) | exact HB.out))) : w.heap.size ≤ gb1004)); have n3_ := Aside0.mk ((by rw [hg]; exact (below_size (by repeat (first | (with_reducible first | exact HB.out | apply below_alloc | apply pbdN | apply bdr1) | exact HB.out))) : w.heap.size ≤ gb1004)); clear HB; have HB := n0_; have BK1004 := n1_; have GW1004 := n2_; have GE1004 := n3_; clear n0_ n1_ n2_ n3_; clear hb hbox hg; have hcz4_0 : w3.cell? ⟨gb1004, 0, none⟩ = some (.int .i64 a0_0) := (blk_cell BK1004.out 0).trans rfl; have hcz4_1 : w3.cell? ⟨gb1004, 1, none⟩ = some (.int .i64 a0_1) := (blk_cell BK1004.out 1).trans rfl; have hcz4_2 : w3.cell? ⟨gb1004, 2, none⟩ = some (.int .i64 a0_2) := (blk_cell BK1004.out 2).trans rfl; have hcz4_3 : w3.cell? ⟨gb1004, 3, none⟩ = some (.int .i64 a0_3) := (blk_cell BK1004.out 3).trans rfl; have hcz4_4 : w3.cell? ⟨gb1004, 4, none⟩ = some (.int .i64 a0_4) := (blk_cell BK1004.out 4).trans rfl; have hcz4_5 : w3.cell? ⟨gb1004, 5, none⟩ = some (.int .i64 a0_5) := (blk_cell BK1004.out 5).trans rfl; have hfz4_0 := blk_frozen BK1004.out 0; have hfz4_1 := blk_frozen BK1004.out 1; have hfz4_2 := blk_frozen BK1004.out 2; have hfz4_3 := blk_frozen BK1004.out 3; have hfz4_4 := blk_frozen BK1004.out 4; have hfz4_5 := blk_frozen BK1004.out 5) | ((with_reducible refine gate_callee (f := 97) rfl ?_); refine goesL_ (some 9) rfl rfl Try.func97 (by kernel_rfl) rfl #[.agg #[.int .i64 a0_0, .int .i64 a0_1, .int .i64 a0_2, .int .i64 a0_3, .int .i64 a0_4, .int .i64 a0_5]] rfl (by (try simp only [List.map_toArray, List.map_cons, List.map_nil]); first | done | rfl | (simp only [List.length_drop, List.length_take]; rfl)) ?_; (with_reducible refine (catamaranref07_first.calls a0_0 a0_1 a0_2 a0_3 a0_4 a0_5 t1000 t1001 t1002 t1003 _ A2.out).mono ?_); rintro e w5 ⟨rfl, hb⟩; refine ⟨_, rfl, ?_⟩; have n0_ := Aside0.mk (blk_below (g := gb1004) (o := .cells #[.int .i64 a0_0, .int .i64 a0_1, .int .i64 a0_2, .int .i64 a0_3, .int .i64 a0_4, .int .i64 a0_5] 44 (0, 0)) (by (with_reducible repeat (first | refine blk_drewN ?_ _ | refine blk_drew ?_ | refine blk_alloc ?_ _)); exact BK1004.out) hb); have n1_ := Aside0.mk (below_step (by repeat (first | (with_reducible first | exact HB.out | apply below_alloc | apply pbdN | apply bdr1 | refine below_set ?_ GE1004.out) | exact HB.out)) hb); clear BK1004; clear HB; have BK1004 := n0_; have HB := n1_; clear n0_ n1_; (try clear hb); (try clear hb2); (try clear hk); (try clear hi)))
  go_ret
  exact ⟨by first | rfl | (simp [errW_none, errW_some] <;> rfl) | (simp [*, errW_none, errW_some] <;> rfl), by repeat (first | (with_reducible first | exact HB.out | apply below_alloc | apply pbdN | apply bdr1 | refine below_set ?_ GE1004.out) | exact HB.out)⟩
end Go.Proofs.Ytdkjhcdniepbhaa.P
end
section
set_option linter.unusedVariables false
set_option linter.unusedSimpArgs false
namespace Go.Proofs.Ytdkjhcdniepbhaa.P
open Go.RowKit Go.Proofs.PrintWords Go.Proofs.PrintLast Go.Proofs.PrintMore
attribute [local go_sem] max2_int min2_int max_two min_two max_three min_three max_four min_four
def disk_asked.f (l0_0 : List (S39)) (l0_1 : List (S49)) (a1 : Int) : Option (Int) := (hCheck.f l0_0 l0_1).bind fun t1000 => (if t1000 = 0 then (if a1 < 0 then (some 2) else (if a1 ≥ (l0_0.length : Int) then (some 2) else (some 0))) else (some t1000))
set_option maxHeartbeats 8000000 in
set_option maxRecDepth 100000 in
theorem disk_asked.calls (A0_0 : Option Addr) (c0_0 : Nat) (l0_0 : List (S39)) (A0_1 : Option Addr) (c0_1 : Nat) (l0_1 : List (S49)) (a1 : Int) (r : Int) (w : World) (hr0_0 : Kd.C k39 w A0_0 l0_0.length l0_0) (hc0_0 : l0_0.length ≤ c0_0) (hr0_1 : Kd.C k49 w A0_1 l0_1.length l0_1) (hc0_1 : l0_1.length ≤ c0_1) (h : disk_asked.f l0_0 l0_1 a1 = some r) :
    Calls Try.prog 57 #[.agg #[.slice A0_0 l0_0.length c0_0, .slice A0_1 l0_1.length c0_1], .int .i64 a1] w fun e w' => e = .returned (.int .i64 r) ∧ Below w.heap.size w w' := by
  have hu25 := Try.underlying25
  have HR0_0 := Aside0.mk hr0_0
  have HC0_0 := Aside0.mk hc0_0
  clear hr0_0 hc0_0
  have HR0_1 := Aside0.mk hr0_1
  have HC0_1 := Aside0.mk hc0_1
  clear hr0_1 hc0_1
  have HB := Aside0.mk (Below.refl w.heap.size w)
  have H : ((hCheck.f l0_0 l0_1).bind fun t1000 => (if t1000 = 0 then (if a1 < 0 then (some 2) else (if a1 ≥ (l0_0.length : Int) then (some 2) else (some 0))) else (some t1000))) = some r := h
  clear h
  replace H := Option.bind_eq_some_iff.mp H
  obtain ⟨t1000, A30, H⟩ := H
  replace H : (if t1000 = 0 then (if a1 < 0 then (some 2) else (if a1 ≥ (l0_0.length : Int) then (some 2) else (some 0))) else (some t1000)) = some r := H
  have A3 := Aside0.mk A30
  clear A30
  by_cases c4 : t1000 = 0
  · rw [if_pos c4] at H
    have c4b0 : (t1000 == 0) = true := beq_iff_eq.mpr c4
    have c4b1 : (t1000 != 0) = false := bne_eq_false_iff_eq.mpr c4
    clear c4
    by_cases c5 : a1 < 0
    · rw [if_pos c5] at H
      have c5b0 : decide (a1 < 0) = true := decide_eq_true c5
      clear c5
      obtain rfl := Option.some.inj H
      go_enter Try.func57, Try.ntmps57
      go_wp2_with (first | ((with_reducible refine gate_dst (N := 2) rfl ?_); refine box_event ?hg (N := 2) ?hd (cs := #[.slice A0_0 l0_0.length c0_0, .slice A0_1 l0_1.length c0_1]) (t := 25) ?hr ?_; (case hd => rfl); (case hg => rfl); (case hr => first | (go_simp; done) | (go_simp; rfl)); intro gb1001 hg w6 hbox hb; have n0_ := Aside0.mk (below_step (by repeat (first | (with_reducible first | exact HB.out | apply below_alloc | apply pbdN | apply bdr1) | exact HB.out)) hb); have n1_ := Aside0.mk (hbox); have n2_ := Aside0.mk ((by rw [hg]; exact (below_size (by repeat (first | (with_reducible first | exact HB.out | apply below_alloc | apply pbdN | apply bdr1) | exact HB.out))) : w.heap.size ≤ gb1001)); have n3_ := Aside0.mk ((by rw [hg]; exact (below_size (by repeat (first | (with_reducible first | exact HB.out | apply below_alloc | apply pbdN | apply bdr1) | exact HB.out))) : w.heap.size ≤ gb1001)); clear HB; have HB := n0_; have BK1001 := n1_; have GW1001 := n2_; have GE1001 := n3_; clear n0_ n1_ n2_ n3_; clear hb hbox hg; have hcz7_0 : w6.cell? ⟨gb1001, 0, none⟩ = some (.slice A0_0 l0_0.length c0_0) := (blk_cell BK1001.out 0).trans rfl; have hcz7_1 : w6.cell? ⟨gb1001, 1, none⟩ = some (.slice A0_1 l0_1.length c0_1) := (blk_cell BK1001.out 1).trans rfl; have hfz7_0 := blk_frozen BK1001.out 0; have hfz7_1 := blk_frozen BK1001.out 1) | ((with_reducible refine gate_callee (f := 23) rfl ?_); refine goesL_ (some 7) rfl rfl Try.func23 (by kernel_rfl) rfl #[.agg #[.slice A0_0 l0_0.length c0_0, .slice A0_1 l0_1.length c0_1]] rfl (by (try simp only [List.map_toArray, List.map_cons, List.map_nil]); first | done | rfl | (simp only [List.length_drop, List.length_take]; rfl)) ?_; (with_reducible refine (hCheck.calls _ _ l0_0 _ _ l0_1 t1000 _ ?side1 ?side2 ?side3 ?side4 A3.out).mono ?_); (case side1 => repeat (first | exact (Kd.C_below HR0_0.out HB.out) | (with_reducible refine Kd.C_alloc ?_ _) | (with_reducible refine Kd.C_drewN ?_ _) | (with_reducible refine Kd.C_drew ?_))); (case side2 => exact HC0_0.out); (case side3 => repeat (first | exact (Kd.C_below HR0_1.out HB.out) | (with_reducible refine Kd.C_alloc ?_ _) | (with_reducible refine Kd.C_drewN ?_ _) | (with_reducible refine Kd.C_drew ?_))); (case side4 => exact HC0_1.out); rintro e w8 ⟨rfl, hb⟩; refine ⟨_, rfl, ?_⟩; have n0_ := Aside0.mk (blk_below (g := gb1001) (o := .cells #[.slice A0_0 l0_0.length c0_0, .slice A0_1 l0_1.length c0_1] 25 (0, 0)) (by (with_reducible repeat (first | refine blk_drewN ?_ _ | refine blk_drew ?_ | refine blk_alloc ?_ _)); exact BK1001.out) hb); have n1_ := Aside0.mk (below_step (by repeat (first | (with_reducible first | exact HB.out | apply below_alloc | apply pbdN | apply bdr1 | refine below_set ?_ GE1001.out) | exact HB.out)) hb); clear BK1001; clear HB; have BK1001 := n0_; have HB := n1_; clear n0_ n1_; (try clear hb); (try clear hb2); (try clear hk); (try clear hi)))
      go_ret
      exact ⟨by first | rfl | (simp [errW_none, errW_some] <;> rfl) | (simp [*, errW_none, errW_some] <;> rfl), by repeat (first | (with_reducible first | exact HB.out | apply below_alloc | apply pbdN | apply bdr1 | refine below_set ?_ GE1001.out) | exact HB.out)⟩
    · rw [if_neg c5] at H
      have c5b0 : decide (a1 < 0) = false := decide_eq_false c5
      clear c5
      by_cases c9 : a1 ≥ (l0_0.length : Int)
      · rw [if_pos c9] at H
        have c9b0 : decide ((l0_0.length : Int) ≤ a1) = true := decide_eq_true c9
        clear c9
        obtain rfl := Option.some.inj H
        go_enter Try.func57, Try.ntmps57
        go_wp2_with (first | ((with_reducible refine gate_dst (N := 2) rfl ?_); refine box_event ?hg (N := 2) ?hd (cs := #[.slice A0_0 l0_0.length c0_0, .slice A0_1 l0_1.length c0_1]) (t := 25) ?hr ?_; (case hd => rfl); (case hg => rfl); (case hr => first | (go_simp; done) | (go_simp; rfl)); intro gb1001 hg w10 hbox hb; have n0_ := Aside0.mk (below_step (by repeat (first | (with_reducible first | exact HB.out | apply below_alloc | apply pbdN | apply bdr1) | exact HB.out)) hb); have n1_ := Aside0.mk (hbox); have n2_ := Aside0.mk ((by rw [hg]; exact (below_size (by repeat (first | (with_reducible first | exact HB.out | apply below_alloc | apply pbdN | apply bdr1) | exact HB.out))) : w.heap.size ≤ gb1001)); have n3_ := Aside0.mk ((by rw [hg]; exact (below_size (by repeat (first | (with_reducible first | exact HB.out | apply below_alloc | apply pbdN | apply bdr1) | exact HB.out))) : w.heap.size ≤ gb1001)); clear HB; have HB := n0_; have BK1001 := n1_; have GW1001 := n2_; have GE1001 := n3_; clear n0_ n1_ n2_ n3_; clear hb hbox hg; have hcz11_0 : w10.cell? ⟨gb1001, 0, none⟩ = some (.slice A0_0 l0_0.length c0_0) := (blk_cell BK1001.out 0).trans rfl; have hcz11_1 : w10.cell? ⟨gb1001, 1, none⟩ = some (.slice A0_1 l0_1.length c0_1) := (blk_cell BK1001.out 1).trans rfl; have hfz11_0 := blk_frozen BK1001.out 0; have hfz11_1 := blk_frozen BK1001.out 1) | ((with_reducible refine gate_callee (f := 23) rfl ?_); refine goesL_ (some 7) rfl rfl Try.func23 (by kernel_rfl) rfl #[.agg #[.slice A0_0 l0_0.length c0_0, .slice A0_1 l0_1.length c0_1]] rfl (by (try simp only [List.map_toArray, List.map_cons, List.map_nil]); first | done | rfl | (simp only [List.length_drop, List.length_take]; rfl)) ?_; (with_reducible refine (hCheck.calls _ _ l0_0 _ _ l0_1 t1000 _ ?side1 ?side2 ?side3 ?side4 A3.out).mono ?_); (case side1 => repeat (first | exact (Kd.C_below HR0_0.out HB.out) | (with_reducible refine Kd.C_alloc ?_ _) | (with_reducible refine Kd.C_drewN ?_ _) | (with_reducible refine Kd.C_drew ?_))); (case side2 => exact HC0_0.out); (case side3 => repeat (first | exact (Kd.C_below HR0_1.out HB.out) | (with_reducible refine Kd.C_alloc ?_ _) | (with_reducible refine Kd.C_drewN ?_ _) | (with_reducible refine Kd.C_drew ?_))); (case side4 => exact HC0_1.out); rintro e w12 ⟨rfl, hb⟩; refine ⟨_, rfl, ?_⟩; have n0_ := Aside0.mk (blk_below (g := gb1001) (o := .cells #[.slice A0_0 l0_0.length c0_0, .slice A0_1 l0_1.length c0_1] 25 (0, 0)) (by (with_reducible repeat (first | refine blk_drewN ?_ _ | refine blk_drew ?_ | refine blk_alloc ?_ _)); exact BK1001.out) hb); have n1_ := Aside0.mk (below_step (by repeat (first | (with_reducible first | exact HB.out | apply below_alloc | apply pbdN | apply bdr1 | refine below_set ?_ GE1001.out) | exact HB.out)) hb); clear BK1001; clear HB; have BK1001 := n0_; have HB := n1_; clear n0_ n1_; (try clear hb); (try clear hb2); (try clear hk); (try clear hi); have hcz13_0 : w12.cell? ⟨gb1001, 0, none⟩ = some (.slice A0_0 l0_0.length c0_0) := (blk_cell BK1001.out 0).trans rfl; have hcz13_1 : w12.cell? ⟨gb1001, 1, none⟩ = some (.slice A0_1 l0_1.length c0_1) := (blk_cell BK1001.out 1).trans rfl; have hfz13_0 := blk_frozen BK1001.out 0; have hfz13_1 := blk_frozen BK1001.out 1))
        go_ret
        exact ⟨by first | rfl | (simp [errW_none, errW_some] <;> rfl) | (simp [*, errW_none, errW_some] <;> rfl), by repeat (first | (with_reducible first | exact HB.out | apply below_alloc | apply pbdN | apply bdr1 | refine below_set ?_ GE1001.out) | exact HB.out)⟩
      · rw [if_neg c9] at H
        have c9b0 : decide ((l0_0.length : Int) ≤ a1) = false := decide_eq_false c9
        clear c9
        obtain rfl := Option.some.inj H
        go_enter Try.func57, Try.ntmps57
        go_wp2_with (first | ((with_reducible refine gate_dst (N := 2) rfl ?_); refine box_event ?hg (N := 2) ?hd (cs := #[.slice A0_0 l0_0.length c0_0, .slice A0_1 l0_1.length c0_1]) (t := 25) ?hr ?_; (case hd => rfl); (case hg => rfl); (case hr => first | (go_simp; done) | (go_simp; rfl)); intro gb1001 hg w14 hbox hb; have n0_ := Aside0.mk (below_step (by repeat (first | (with_reducible first | exact HB.out | apply below_alloc | apply pbdN | apply bdr1) | exact HB.out)) hb); have n1_ := Aside0.mk (hbox); have n2_ := Aside0.mk ((by rw [hg]; exact (below_size (by repeat (first | (with_reducible first | exact HB.out | apply below_alloc | apply pbdN | apply bdr1) | exact HB.out))) : w.heap.size ≤ gb1001)); have n3_ := Aside0.mk ((by rw [hg]; exact (below_size (by repeat (first | (with_reducible first | exact HB.out | apply below_alloc | apply pbdN | apply bdr1) | exact HB.out))) : w.heap.size ≤ gb1001)); clear HB; have HB := n0_; have BK1001 := n1_; have GW1001 := n2_; have GE1001 := n3_; clear n0_ n1_ n2_ n3_; clear hb hbox hg; have hcz15_0 : w14.cell? ⟨gb1001, 0, none⟩ = some (.slice A0_0 l0_0.length c0_0) := (blk_cell BK1001.out 0).trans rfl; have hcz15_1 : w14.cell? ⟨gb1001, 1, none⟩ = some (.slice A0_1 l0_1.length c0_1) := (blk_cell BK1001.out 1).trans rfl; have hfz15_0 := blk_frozen BK1001.out 0; have hfz15_1 := blk_frozen BK1001.out 1) | ((with_reducible refine gate_callee (f := 23) rfl ?_); refine goesL_ (some 7) rfl rfl Try.func23 (by kernel_rfl) rfl #[.agg #[.slice A0_0 l0_0.length c0_0, .slice A0_1 l0_1.length c0_1]] rfl (by (try simp only [List.map_toArray, List.map_cons, List.map_nil]); first | done | rfl | (simp only [List.length_drop, List.length_take]; rfl)) ?_; (with_reducible refine (hCheck.calls _ _ l0_0 _ _ l0_1 t1000 _ ?side1 ?side2 ?side3 ?side4 A3.out).mono ?_); (case side1 => repeat (first | exact (Kd.C_below HR0_0.out HB.out) | (with_reducible refine Kd.C_alloc ?_ _) | (with_reducible refine Kd.C_drewN ?_ _) | (with_reducible refine Kd.C_drew ?_))); (case side2 => exact HC0_0.out); (case side3 => repeat (first | exact (Kd.C_below HR0_1.out HB.out) | (with_reducible refine Kd.C_alloc ?_ _) | (with_reducible refine Kd.C_drewN ?_ _) | (with_reducible refine Kd.C_drew ?_))); (case side4 => exact HC0_1.out); rintro e w16 ⟨rfl, hb⟩; refine ⟨_, rfl, ?_⟩; have n0_ := Aside0.mk (blk_below (g := gb1001) (o := .cells #[.slice A0_0 l0_0.length c0_0, .slice A0_1 l0_1.length c0_1] 25 (0, 0)) (by (with_reducible repeat (first | refine blk_drewN ?_ _ | refine blk_drew ?_ | refine blk_alloc ?_ _)); exact BK1001.out) hb); have n1_ := Aside0.mk (below_step (by repeat (first | (with_reducible first | exact HB.out | apply below_alloc | apply pbdN | apply bdr1 | refine below_set ?_ GE1001.out) | exact HB.out)) hb); clear BK1001; clear HB; have BK1001 := n0_; have HB := n1_; clear n0_ n1_; (try clear hb); (try clear hb2); (try clear hk); (try clear hi); have hcz17_0 : w16.cell? ⟨gb1001, 0, none⟩ = some (.slice A0_0 l0_0.length c0_0) := (blk_cell BK1001.out 0).trans rfl; have hcz17_1 : w16.cell? ⟨gb1001, 1, none⟩ = some (.slice A0_1 l0_1.length c0_1) := (blk_cell BK1001.out 1).trans rfl; have hfz17_0 := blk_frozen BK1001.out 0; have hfz17_1 := blk_frozen BK1001.out 1))
        go_ret
        exact ⟨by first | rfl | (simp [errW_none, errW_some] <;> rfl) | (simp [*, errW_none, errW_some] <;> rfl), by repeat (first | (with_reducible first | exact HB.out | apply below_alloc | apply pbdN | apply bdr1 | refine below_set ?_ GE1001.out) | exact HB.out)⟩
  · rw [if_neg c4] at H
    have c4b0 : (t1000 == 0) = false := beq_eq_false_iff_ne.mpr c4
    have c4b1 : (t1000 != 0) = true := bne_iff_ne.mpr c4
    obtain rfl := Option.some.inj H
    go_enter Try.func57, Try.ntmps57
    go_wp2_with (first | ((with_reducible refine gate_dst (N := 2) rfl ?_); refine box_event ?hg (N := 2) ?hd (cs := #[.slice A0_0 l0_0.length c0_0, .slice A0_1 l0_1.length c0_1]) (t := 25) ?hr ?_; (case hd => rfl); (case hg => rfl); (case hr => first | (go_simp; done) | (go_simp; rfl)); intro gb1001 hg w18 hbox hb; have n0_ := Aside0.mk (below_step (by repeat (first | (with_reducible first | exact HB.out | apply below_alloc | apply pbdN | apply bdr1) | exact HB.out)) hb); have n1_ := Aside0.mk (hbox); have n2_ := Aside0.mk ((by rw [hg]; exact (below_size (by repeat (first | (with_reducible first | exact HB.out | apply below_alloc | apply pbdN | apply bdr1) | exact HB.out))) : w.heap.size ≤ gb1001)); have n3_ := Aside0.mk ((by rw [hg]; exact (below_size (by repeat (first | (with_reducible first | exact HB.out | apply below_alloc | apply pbdN | apply bdr1) | exact HB.out))) : w.heap.size ≤ gb1001)); clear HB; have HB := n0_; have BK1001 := n1_; have GW1001 := n2_; have GE1001 := n3_; clear n0_ n1_ n2_ n3_; clear hb hbox hg; have hcz19_0 : w18.cell? ⟨gb1001, 0, none⟩ = some (.slice A0_0 l0_0.length c0_0) := (blk_cell BK1001.out 0).trans rfl; have hcz19_1 : w18.cell? ⟨gb1001, 1, none⟩ = some (.slice A0_1 l0_1.length c0_1) := (blk_cell BK1001.out 1).trans rfl; have hfz19_0 := blk_frozen BK1001.out 0; have hfz19_1 := blk_frozen BK1001.out 1) | ((with_reducible refine gate_callee (f := 23) rfl ?_); refine goesL_ (some 7) rfl rfl Try.func23 (by kernel_rfl) rfl #[.agg #[.slice A0_0 l0_0.length c0_0, .slice A0_1 l0_1.length c0_1]] rfl (by (try simp only [List.map_toArray, List.map_cons, List.map_nil]); first | done | rfl | (simp only [List.length_drop, List.length_take]; rfl)) ?_; (with_reducible refine (hCheck.calls _ _ l0_0 _ _ l0_1 t1000 _ ?side1 ?side2 ?side3 ?side4 A3.out).mono ?_); (case side1 => repeat (first | exact (Kd.C_below HR0_0.out HB.out) | (with_reducible refine Kd.C_alloc ?_ _) | (with_reducible refine Kd.C_drewN ?_ _) | (with_reducible refine Kd.C_drew ?_))); (case side2 => exact HC0_0.out); (case side3 => repeat (first | exact (Kd.C_below HR0_1.out HB.out) | (with_reducible refine Kd.C_alloc ?_ _) | (with_reducible refine Kd.C_drewN ?_ _) | (with_reducible refine Kd.C_drew ?_))); (case side4 => exact HC0_1.out); rintro e w20 ⟨rfl, hb⟩; refine ⟨_, rfl, ?_⟩; have n0_ := Aside0.mk (blk_below (g := gb1001) (o := .cells #[.slice A0_0 l0_0.length c0_0, .slice A0_1 l0_1.length c0_1] 25 (0, 0)) (by (with_reducible repeat (first | refine blk_drewN ?_ _ | refine blk_drew ?_ | refine blk_alloc ?_ _)); exact BK1001.out) hb); have n1_ := Aside0.mk (below_step (by repeat (first | (with_reducible first | exact HB.out | apply below_alloc | apply pbdN | apply bdr1 | refine below_set ?_ GE1001.out) | exact HB.out)) hb); clear BK1001; clear HB; have BK1001 := n0_; have HB := n1_; clear n0_ n1_; (try clear hb); (try clear hb2); (try clear hk); (try clear hi)))
    go_ret
    exact ⟨by first | rfl | (simp [errW_none, errW_some] <;> rfl) | (simp [*, errW_none, errW_some] <;> rfl), by repeat (first | (with_reducible first | exact HB.out | apply below_alloc | apply pbdN | apply bdr1 | refine below_set ?_ GE1001.out) | exact HB.out)⟩
end Go.Proofs.Ytdkjhcdniepbhaa.P
end
section
set_option linter.unusedVariables false
set_option linter.unusedSimpArgs false
namespace Go.Proofs.Ytdkjhcdniepbhaa.P
open Go.RowKit Go.Proofs.PrintWords Go.Proofs.PrintLast Go.Proofs.PrintMore
attribute [local go_sem] max2_int min2_int max_two min_two max_three min_three max_four min_four
def bits_Mul64.f (a0 : Int) (a1 : Int) : Option (Int × Int) := some (IntKind.u64.wrap ((IntKind.u64.wrap ((IntKind.u64.wrap ((a0 / 4294967296) * (a1 / 4294967296))) + ((IntKind.u64.wrap ((IntKind.u64.wrap ((a0 / 4294967296) * (Go.bits .and .u64 a1 4294967295))) + ((IntKind.u64.wrap ((Go.bits .and .u64 a0 4294967295) * (Go.bits .and .u64 a1 4294967295))) / 4294967296))) / 4294967296))) + ((IntKind.u64.wrap ((Go.bits .and .u64 (IntKind.u64.wrap ((IntKind.u64.wrap ((a0 / 4294967296) * (Go.bits .and .u64 a1 4294967295))) + ((IntKind.u64.wrap ((Go.bits .and .u64 a0 4294967295) * (Go.bits .and .u64 a1 4294967295))) / 4294967296))) 4294967295) + (IntKind.u64.wrap ((Go.bits .and .u64 a0 4294967295) * (a1 / 4294967296))))) / 4294967296)), IntKind.u64.wrap (a0 * a1))
set_option maxHeartbeats 8000000 in
set_option maxRecDepth 100000 in
theorem bits_Mul64.calls (a0 : Int) (a1 : Int) (r1 : Int) (r2 : Int) (w : World) (h : bits_Mul64.f a0 a1 = some (r1, r2)) :
    Calls Try.prog 141 #[.int .u64 a0, .int .u64 a1] w fun e w' => e = .returned (.tuple #[.int .u64 r1, .int .u64 r2]) ∧ Drawn0 w w' := by
  have H : (some (IntKind.u64.wrap ((IntKind.u64.wrap ((IntKind.u64.wrap ((a0 / 4294967296) * (a1 / 4294967296))) + ((IntKind.u64.wrap ((IntKind.u64.wrap ((a0 / 4294967296) * (Go.bits .and .u64 a1 4294967295))) + ((IntKind.u64.wrap ((Go.bits .and .u64 a0 4294967295) * (Go.bits .and .u64 a1 4294967295))) / 4294967296))) / 4294967296))) + ((IntKind.u64.wrap ((Go.bits .and .u64 (IntKind.u64.wrap ((IntKind.u64.wrap ((a0 / 4294967296) * (Go.bits .and .u64 a1 4294967295))) + ((IntKind.u64.wrap ((Go.bits .and .u64 a0 4294967295) * (Go.bits .and .u64 a1 4294967295))) / 4294967296))) 4294967295) + (IntKind.u64.wrap ((Go.bits .and .u64 a0 4294967295) * (a1 / 4294967296))))) / 4294967296)), IntKind.u64.wrap (a0 * a1))) = some (r1, r2) := h
  clear h
  simp only [Option.some.injEq, Prod.mk.injEq] at H
  obtain ⟨rfl, rfl⟩ := H
  go_enter Try.func141, Try.ntmps141
  go_wp2
  go_ret2
  exact ⟨by first | rfl | (simp; done) | (simp [*]; done), by repeat (first | exact Drawn0.refl _ | apply Drawn0.step)⟩
end Go.Proofs.Ytdkjhcdniepbhaa.P
end
section
set_option linter.unusedVariables false
set_option linter.unusedSimpArgs false
namespace Go.Proofs.Ytdkjhcdniepbhaa.P
open Go.RowKit Go.Proofs.PrintWords Go.Proofs.PrintLast Go.Proofs.PrintMore
attribute [local go_sem] max2_int min2_int max_two min_two max_three min_three max_four min_four
def bits_Mul.f (a0 : Int) (a1 : Int) : Option (Int × Int) := (bits_Mul64.f a0 a1).bind fun bt1000 => (some (bt1000.1, bt1000.2))
set_option maxHeartbeats 8000000 in
set_option maxRecDepth 100000 in
theorem bits_Mul.calls (a0 : Int) (a1 : Int) (r1 : Int) (r2 : Int) (w : World) (h : bits_Mul.f a0 a1 = some (r1, r2)) :
    Calls Try.prog 125 #[.int .u64 a0, .int .u64 a1] w fun e w' => e = .returned (.tuple #[.int .u64 r1, .int .u64 r2]) ∧ Drawn0 w w' := by
  have H : ((bits_Mul64.f a0 a1).bind fun bt1000 => (some (bt1000.1, bt1000.2))) = some (r1, r2) := h
  clear h
  replace H := Option.bind_eq_some_iff.mp H
  obtain ⟨⟨t1000, t1001⟩, A30, H⟩ := H
  replace H : (some (t1000, t1001)) = some (r1, r2) := H
  have A3 := Aside0.mk A30
  clear A30
  simp only [Option.some.injEq, Prod.mk.injEq] at H
  obtain ⟨rfl, rfl⟩ := H
  go_enter Try.func125, Try.ntmps125
  go_wp2_with (first | ((with_reducible refine gate_callee (f := 141) rfl ?_); refine goesL_ (some 25) rfl rfl Try.func141 (by kernel_rfl) rfl #[.int .u64 a0, .int .u64 a1] rfl (by (try simp only [List.map_toArray, List.map_cons, List.map_nil]); first | done | rfl | (simp only [List.length_drop, List.length_take]; rfl)) ?_; (with_reducible refine (bits_Mul64.calls a0 a1 t1000 t1001 _ A3.out).mono ?_); rintro e w' ⟨rfl, ⟨nd, rfl⟩⟩; refine ⟨_, rfl, ?_⟩))
  go_ret2
  exact ⟨by first | rfl | (simp; done) | (simp [*]; done), by repeat (first | exact Drawn0.refl _ | apply Drawn0.step)⟩
end Go.Proofs.Ytdkjhcdniepbhaa.P
end
section
set_option linter.unusedVariables false
set_option linter.unusedSimpArgs false
namespace Go.Proofs.Ytdkjhcdniepbhaa.P
open Go.RowKit Go.Proofs.PrintWords Go.Proofs.PrintLast Go.Proofs.PrintMore
attribute [local go_sem] max2_int min2_int max_two min_two max_three min_three max_four min_four
def bits_size.f (a0 : Int) : Option (Bool) := if a0 ≥ 1 then (some (decide (a0 ≤ 16))) else (some false)
set_option maxHeartbeats 8000000 in
set_option maxRecDepth 100000 in
theorem bits_size.calls (a0 : Int) (r : Bool) (w : World) (h : bits_size.f a0 = some r) :
    Calls Try.prog 142 #[.int .i64 a0] w fun e w' => e = .returned (.bool r) ∧ Drawn0 w w' := by
  have H : (if a0 ≥ 1 then (some (decide (a0 ≤ 16))) else (some false)) = some r := h
  clear h
  by_cases c2 : a0 ≥ 1
  · rw [if_pos c2] at H
    have c2b0 : decide (1 ≤ a0) = true := decide_eq_true c2
    clear c2
    obtain rfl := Option.some.inj H
    go_enter Try.func142, Try.ntmps142
    go_wp2
    go_ret
    exact ⟨by first | rfl | (simp; done) | (simp [*]; done), by repeat (first | exact Drawn0.refl _ | apply Drawn0.step)⟩
  · rw [if_neg c2] at H
    have c2b0 : decide (1 ≤ a0) = false := decide_eq_false c2
    clear c2
    obtain rfl := Option.some.inj H
    go_enter Try.func142, Try.ntmps142
    go_wp2
    go_ret
    exact ⟨by first | rfl | (simp; done) | (simp [*]; done), by repeat (first | exact Drawn0.refl _ | apply Drawn0.step)⟩
end Go.Proofs.Ytdkjhcdniepbhaa.P
end
section
set_option linter.unusedVariables false
set_option linter.unusedSimpArgs false
namespace Go.Proofs.Ytdkjhcdniepbhaa.P
open Go.RowKit Go.Proofs.PrintWords Go.Proofs.PrintLast Go.Proofs.PrintMore
attribute [local go_sem] max2_int min2_int max_two min_two max_three min_three max_four min_four
def page_list_byte_only.l0 : Nat → Int → List Int → Int → Int → Option (Bool)
  | 0, _, _, _, _ => none
  | k + 1, x1, x7, x8, x9 => if x9 < x8 then (if 0 ≤ x9 then (if x9 < (x7.length : Int) then (if (rd x7 x9) = x1 then (page_list_byte_only.l0 k x1 x7 x8 (wrap64 (x9 + 1))) else (some false)) else (none)) else (none)) else (some true)
def page_list_byte_only.f (k : Nat) (l0 : List Int) (a1 : Int) : Option (Bool) := page_list_byte_only.l0 k a1 l0 (l0.length : Int) 0
theorem page_list_byte_only.mono_l : ∀ k, (∀ y0 y1 y2 y3, LeO (page_list_byte_only.l0 k y0 y1 y2 y3) (page_list_byte_only.l0 (k + 1) y0 y1 y2 y3))
  | 0 => fun _ _ _ _ r h => by simp [page_list_byte_only.l0] at h
  | k + 1 => by
    have ih0 := page_list_byte_only.mono_l k
    · intro y0 y1 y2 y3
      unfold page_list_byte_only.l0
      repeat' first
      | (with_reducible exact ih0 _ _ _ _)
      | (with_reducible exact LeO.refl _)
      | (with_reducible exact LeO.none _)
      | (with_reducible refine LeO.ite ?_ ?_)
      | (with_reducible refine LeO.bind ?_ (fun _ => ?_))
      | exact ih0 _ _ _ _
      | exact LeO.none _
      | refine LeO.ite ?_ ?_
      | refine LeO.bind ?_ (fun _ => ?_)
theorem page_list_byte_only.mono : ∀ a0 a1 k, LeO (page_list_byte_only.f k a0 a1) (page_list_byte_only.f (k + 1) a0 a1) := by
  intro a0 a1 k
  have ih0 := page_list_byte_only.mono_l k
  unfold page_list_byte_only.f
  repeat' first
      | (with_reducible exact ih0 _ _ _ _)
      | (with_reducible exact LeO.refl _)
      | (with_reducible exact LeO.none _)
      | (with_reducible refine LeO.ite ?_ ?_)
      | (with_reducible refine LeO.bind ?_ (fun _ => ?_))
      | exact ih0 _ _ _ _
      | exact LeO.none _
      | refine LeO.ite ?_ ?_
      | refine LeO.bind ?_ (fun _ => ?_)
set_option maxHeartbeats 8000000 in
set_option maxRecDepth 100000 in
theorem page_list_byte_only.calls (k : Nat) (A0 : Option Addr) (c0 : Nat) (l0 : List Int) (a1 : Int) (r : Bool) (w : World) (hr0 : Kd.C (Kd.int .u8) w A0 l0.length l0) (hc0 : l0.length ≤ c0) (h : page_list_byte_only.f k l0 a1 = some r) :
    Calls Try.prog 112 #[.slice A0 l0.length c0, .int .u8 a1] w fun e w' => e = .returned (.bool r) ∧ Drawn0 w w' := by
  have HR0 := Aside0.mk hr0
  have HC0 := Aside0.mk hc0
  clear hr0 hc0
  have H : (page_list_byte_only.l0 k a1 l0 (l0.length : Int) 0) = some r := h
  clear h
  have H' := Aside0.mk H
  clear H
  go_enter Try.func112, Try.ntmps112
  go_wp2
  go_loopg [9] k (fun kq v9 w' => ∃ (x9_1 : Int), v9 = .int .i64 x9_1 ∧ Aside0 (page_list_byte_only.l0 kq a1 l0 (l0.length : Int) x9_1 = some r) ∧ Aside0 (kq ≤ k) ∧ Drawn0 w w')
  case atStart => exact ⟨(0), (by first | rfl | (simp; done) | (simp [*]; done)), H', ⟨Nat.le_refl _⟩, by repeat (first | exact Drawn0.refl _ | apply Drawn0.step)⟩
  case round =>
    clear H'
    try clear c1
    try clear p2
    obtain ⟨x9_1, rfl, HA, HK1, ⟨m1, rfl⟩⟩ := hrel
    cases gk with
    | zero => exact absurd HA.out (by simp [page_list_byte_only.l0])
    | succ k1 =>
      have H := HA.out
      clear HA
      simp only [page_list_byte_only.l0] at H
      by_cases c3 : x9_1 < (l0.length : Int)
      · rw [if_pos c3] at H
        have c3b0 : decide (x9_1 < (l0.length : Int)) = true := decide_eq_true c3
        clear c3
        by_cases c4 : 0 ≤ x9_1
        · rw [if_pos c4] at H
          have c4b0 : decide (0 ≤ x9_1) = true := decide_eq_true c4
          clear c4
          by_cases c5 : x9_1 < (l0.length : Int)
          · rw [if_pos c5] at H
            have c5b0 : decide (x9_1 < (l0.length : Int)) = true := decide_eq_true c5
            clear c5
            by_cases c6 : (rd l0 x9_1) = a1
            · rw [if_pos c6] at H
              have c6b0 : ((rd l0 x9_1) == a1) = true := beq_iff_eq.mpr c6
              have c6b1 : ((rd l0 x9_1) != a1) = false := bne_eq_false_iff_eq.mpr c6
              clear c6
              have H' := Aside0.mk H
              clear H
              have p1000 : 0 ≤ (x9_1 : Int) := of_decide_eq_true (by first | (with_reducible assumption) | assumption)
              have q1000 : x9_1 < (l0.length : Int) := of_decide_eq_true (by first | (with_reducible assumption) | assumption)
              obtain ⟨ad1000, e1000, hx1000_0⟩ := Kd.at_int HR0.out x9_1 p1000 q1000
              cases e1000
              replace p1000 := eq_true p1000
              replace q1000 := eq_true q1000
              go_wp2
              go_roundg k1
              case measure => have := HK1.out; omega
              case rel => exact ⟨(wrap64 (x9_1 + 1)), (by first | rfl | (simp; done) | (simp [*]; done)), H', ⟨by have := HK1.out; omega⟩, by repeat (first | exact Drawn0.refl _ | apply Drawn0.step)⟩
            · rw [if_neg c6] at H
              have c6b0 : ((rd l0 x9_1) == a1) = false := beq_eq_false_iff_ne.mpr c6
              have c6b1 : ((rd l0 x9_1) != a1) = true := bne_iff_ne.mpr c6
              obtain rfl := Option.some.inj H
              have p1000 : 0 ≤ (x9_1 : Int) := of_decide_eq_true (by first | (with_reducible assumption) | assumption)
              have q1000 : x9_1 < (l0.length : Int) := of_decide_eq_true (by first | (with_reducible assumption) | assumption)
              obtain ⟨ad1000, e1000, hx1000_0⟩ := Kd.at_int HR0.out x9_1 p1000 q1000
              cases e1000
              replace p1000 := eq_true p1000
              replace q1000 := eq_true q1000
              go_wp2
              go_ret
              exact ⟨by first | rfl | (simp; done) | (simp [*]; done), by repeat (first | exact Drawn0.refl _ | apply Drawn0.step)⟩
          · rw [if_neg c5] at H
            exact absurd H (by simp)
        · rw [if_neg c4] at H
          exact absurd H (by simp)
      · rw [if_neg c3] at H
        have c3b0 : decide (x9_1 < (l0.length : Int)) = false := decide_eq_false c3
        clear c3
        obtain rfl := Option.some.inj H
        go_wp2
        go_ret
        exact ⟨by first | rfl | (simp; done) | (simp [*]; done), by repeat (first | exact Drawn0.refl _ | apply Drawn0.step)⟩
end Go.Proofs.Ytdkjhcdniepbhaa.P
end
section
set_option linter.unusedVariables false
set_option linter.unusedSimpArgs false
namespace Go.Proofs.Ytdkjhcdniepbhaa.P
open Go.RowKit Go.Proofs.PrintWords Go.Proofs.PrintLast Go.Proofs.PrintMore
attribute [local go_sem] max2_int min2_int max_two min_two max_three min_three max_four min_four
def catamaranref03_power.l0 : Nat → Int → Int → Int → Option (Int)
  | 0, _, _, _ => none
  | k + 1, x0, x3, x4 => if x4 < x0 then (catamaranref03_power.l0 k x0 (wrap64 (2 * x3)) (wrap64 (x4 + 1))) else (some x3)
def catamaranref03_power.f (k : Nat) (a0 : Int) : Option (Int) := catamaranref03_power.l0 k a0 1 0
theorem catamaranref03_power.mono_l : ∀ k, (∀ y0 y1 y2, LeO (catamaranref03_power.l0 k y0 y1 y2) (catamaranref03_power.l0 (k + 1) y0 y1 y2))
  | 0 => fun _ _ _ r h => by simp [catamaranref03_power.l0] at h
  | k + 1 => by
    have ih0 := catamaranref03_power.mono_l k
    · intro y0 y1 y2
      unfold catamaranref03_power.l0
      repeat' first
      | (with_reducible exact ih0 _ _ _)
      | (with_reducible exact LeO.refl _)
      | (with_reducible exact LeO.none _)
      | (with_reducible refine LeO.ite ?_ ?_)
      | (with_reducible refine LeO.bind ?_ (fun _ => ?_))
      | exact ih0 _ _ _
      | exact LeO.none _
      | refine LeO.ite ?_ ?_
      | refine LeO.bind ?_ (fun _ => ?_)
theorem catamaranref03_power.mono : ∀ a0 k, LeO (catamaranref03_power.f k a0) (catamaranref03_power.f (k + 1) a0) := by
  intro a0 k
  have ih0 := catamaranref03_power.mono_l k
  unfold catamaranref03_power.f
  repeat' first
      | (with_reducible exact ih0 _ _ _)
      | (with_reducible exact LeO.refl _)
      | (with_reducible exact LeO.none _)
      | (with_reducible refine LeO.ite ?_ ?_)
      | (with_reducible refine LeO.bind ?_ (fun _ => ?_))
      | exact ih0 _ _ _
      | exact LeO.none _
      | refine LeO.ite ?_ ?_
      | refine LeO.bind ?_ (fun _ => ?_)
set_option maxHeartbeats 8000000 in
set_option maxRecDepth 100000 in
theorem catamaranref03_power.calls (k : Nat) (a0 : Int) (r : Int) (w : World) (h : catamaranref03_power.f k a0 = some r) :
    Calls Try.prog 144 #[.int .i64 a0] w fun e w' => e = .returned (.int .i64 r) ∧ Drawn0 w w' := by
  have H : (catamaranref03_power.l0 k a0 1 0) = some r := h
  clear h
  have H' := Aside0.mk H
  clear H
  go_enter Try.func144, Try.ntmps144
  go_wp2
  go_loopg [3, 4] k (fun kq v3 v4 w' => ∃ (x3_1 : Int) (x4_1 : Int), v3 = .int .i64 x3_1 ∧ v4 = .int .i64 x4_1 ∧ Aside0 (catamaranref03_power.l0 kq a0 x3_1 x4_1 = some r) ∧ Aside0 (kq ≤ k) ∧ Drawn0 w w')
  case atStart => exact ⟨(1), (0), (by first | rfl | (simp; done) | (simp [*]; done)), (by first | rfl | (simp; done) | (simp [*]; done)), H', ⟨Nat.le_refl _⟩, by repeat (first | exact Drawn0.refl _ | apply Drawn0.step)⟩
  case round =>
    clear H'
    try clear c1
    obtain ⟨x3_1, x4_1, rfl, rfl, HA, HK1, ⟨m1, rfl⟩⟩ := hrel
    cases gk with
    | zero => exact absurd HA.out (by simp [catamaranref03_power.l0])
    | succ k1 =>
      have H := HA.out
      clear HA
      simp only [catamaranref03_power.l0] at H
      by_cases c2 : x4_1 < a0
      · rw [if_pos c2] at H
        have c2b0 : decide (x4_1 < a0) = true := decide_eq_true c2
        clear c2
        have H' := Aside0.mk H
        clear H
        go_wp2
        go_roundg k1
        case measure => have := HK1.out; omega
        case rel => exact ⟨(wrap64 (2 * x3_1)), (wrap64 (x4_1 + 1)), (by first | rfl | (simp; done) | (simp [*]; done)), (by first | rfl | (simp; done) | (simp [*]; done)), H', ⟨by have := HK1.out; omega⟩, by repeat (first | exact Drawn0.refl _ | apply Drawn0.step)⟩
      · rw [if_neg c2] at H
        have c2b0 : decide (x4_1 < a0) = false := decide_eq_false c2
        clear c2
        obtain rfl := Option.some.inj H
        go_wp2
        go_ret
        exact ⟨by first | rfl | (simp; done) | (simp [*]; done), by repeat (first | exact Drawn0.refl _ | apply Drawn0.step)⟩
end Go.Proofs.Ytdkjhcdniepbhaa.P
end
section
set_option linter.unusedVariables false
set_option linter.unusedSimpArgs false
namespace Go.Proofs.Ytdkjhcdniepbhaa.P
open Go.RowKit Go.Proofs.PrintWords Go.Proofs.PrintLast Go.Proofs.PrintMore
attribute [local go_sem] max2_int min2_int max_two min_two max_three min_three max_four min_four
def catamaranref03_Made.l0 : Nat → Int → List Bool → List Int → Int → Option (List Int)
  | 0, _, _, _, _ => none
  | k + 1, x0, x1, x5, x6 => if x6 < x0 then (if 0 ≤ x6 then (if x6 < (x1.length : Int) then (if rdOf false x1 x6 = true then (if 0 ≤ (wrap64 (Int.tdiv x6 8)) then (if (wrap64 (Int.tdiv x6 8)) < (x5.length : Int) then ((catamaranref03_power.f k (Int.tmod x6 8)).bind fun t1000 => (catamaranref03_Made.l0 k x0 x1 (x5.set ((wrap64 (Int.tdiv x6 8)) : Int).toNat (((rd x5 (wrap64 (Int.tdiv x6 8))) + ((t1000) % 256)) % 256)) (wrap64 (x6 + 1)))) else (none)) else (none)) else (catamaranref03_Made.l0 k x0 x1 x5 (wrap64 (x6 + 1)))) else (none)) else (none)) else (some x5)
def catamaranref03_Made.f (k : Nat) (a0 : Int) (l1 : List Bool) : Option (List Int) := if 0 ≤ (wrap64 (Int.tdiv (wrap64 ((wrap64 (a0 + 8)) - 1)) 8)) then (if (wrap64 (Int.tdiv (wrap64 ((wrap64 (a0 + 8)) - 1)) 8) : Int).toNat ≤ 281474976710656 then (catamaranref03_Made.l0 k a0 l1 (List.replicate (wrap64 (Int.tdiv (wrap64 ((wrap64 (a0 + 8)) - 1)) 8) : Int).toNat 0) 0) else (none)) else (none)
theorem catamaranref03_Made.mono_l : ∀ k, (∀ y0 y1 y2 y3, LeO (catamaranref03_Made.l0 k y0 y1 y2 y3) (catamaranref03_Made.l0 (k + 1) y0 y1 y2 y3))
  | 0 => fun _ _ _ _ r h => by simp [catamaranref03_Made.l0] at h
  | k + 1 => by
    have ih0 := catamaranref03_Made.mono_l k
    · intro y0 y1 y2 y3
      unfold catamaranref03_Made.l0
      repeat' first
      | (with_reducible exact ih0 _ _ _ _)
      | (with_reducible exact catamaranref03_power.mono _ _)
      | (with_reducible exact LeO.refl _)
      | (with_reducible exact LeO.none _)
      | (with_reducible refine LeO.ite ?_ ?_)
      | (with_reducible refine LeO.bind ?_ (fun _ => ?_))
      | exact ih0 _ _ _ _
      | exact catamaranref03_power.mono _ _
      | exact LeO.none _
      | refine LeO.ite ?_ ?_
      | refine LeO.bind ?_ (fun _ => ?_)
theorem catamaranref03_Made.mono : ∀ a0 a1 k, LeO (catamaranref03_Made.f k a0 a1) (catamaranref03_Made.f (k + 1) a0 a1) := by
  intro a0 a1 k
  have ih0 := catamaranref03_Made.mono_l k
  unfold catamaranref03_Made.f
  repeat' first
      | (with_reducible exact ih0 _ _ _ _)
      | (with_reducible exact catamaranref03_power.mono _ _)
      | (with_reducible exact LeO.refl _)
      | (with_reducible exact LeO.none _)
      | (with_reducible refine LeO.ite ?_ ?_)
      | (with_reducible refine LeO.bind ?_ (fun _ => ?_))
      | exact ih0 _ _ _ _
      | exact catamaranref03_power.mono _ _
      | exact LeO.none _
      | refine LeO.ite ?_ ?_
      | refine LeO.bind ?_ (fun _ => ?_)
def catamaranref03_Made.T6 : Bool × List (List Nat × List Nat) := (true, [([], []), ([], []), ([1], [1]), ([], []), ([], []), ([4], [4]), ([3, 5], [3, 5]), ([6], [6]), ([], []), ([8], [8]), ([9], [9]), ([10], [10]), ([7, 11], [7, 11]), ([0, 2, 0, 1, 2, 3, 4, 5, 6, 7, 8, 9, 10, 11, 12], [0, 2]), ([13, 12, 10, 0, 1, 2, 3, 4, 5, 6, 7, 8, 9, 10, 11, 12], [12, 13])])
def catamaranref03_Made.B6 : List Nat := [0, 0, 2, 0, 0, 16, 56, 120, 0, 256, 768, 1792, 4088, 8191, 16383]
theorem catamaranref03_Made.tab6 : rtab .any (opsOf Try.f143 6) = catamaranref03_Made.T6 := by kernel_rfl
theorem catamaranref03_Made.bits6 : waitsOk catamaranref03_Made.T6.2 catamaranref03_Made.B6 = true := by kernel_rfl
set_option maxHeartbeats 8000000 in
set_option maxRecDepth 100000 in
theorem catamaranref03_Made.calls (k : Nat) (a0 : Int) (A1 : Option Addr) (c1 : Nat) (l1 : List Bool) (r : List Int) (w : World) (hr1 : Kd.C Kd.bool w A1 l1.length l1) (hc1 : l1.length ≤ c1) (h : catamaranref03_Made.f k a0 l1 = some r) :
    Calls Try.prog 143 #[.int .i64 a0, .slice A1 l1.length c1] w fun e w' => ∃ v0_ : Value, e = .returned (v0_) ∧ Kd.R (Kd.int .u8) 5 w' w.heap.size (fun _ => True) v0_ r ∧ Below w.heap.size w w' := by
  have HR1 := Aside0.mk hr1
  have HC1 := Aside0.mk hc1
  clear hr1 hc1
  have HB := Aside0.mk (Below.refl w.heap.size w)
  have H : (if 0 ≤ (wrap64 (Int.tdiv (wrap64 ((wrap64 (a0 + 8)) - 1)) 8)) then (if (wrap64 (Int.tdiv (wrap64 ((wrap64 (a0 + 8)) - 1)) 8) : Int).toNat ≤ 281474976710656 then (catamaranref03_Made.l0 k a0 l1 (List.replicate (wrap64 (Int.tdiv (wrap64 ((wrap64 (a0 + 8)) - 1)) 8) : Int).toNat 0) 0) else (none)) else (none)) = some r := h
  clear h
  obtain ⟨ji3, hji3⟩ : ∃ j_ : Int, (wrap64 (Int.tdiv (wrap64 ((wrap64 (a0 + 8)) - 1)) 8)) = j_ := ⟨_, rfl⟩
  replace H : (if 0 ≤ (ji3) then (if (ji3 : Int).toNat ≤ 281474976710656 then (catamaranref03_Made.l0 k a0 l1 (List.replicate (ji3 : Int).toNat 0) 0) else (none)) else (none)) = some r := by first | (rw [hji3] at H; exact H) | (simp only [hji3] at H ⊢; exact H)
  have hji3w : (IntKind.i64.wrap (Int.tdiv (wrap64 ((wrap64 (a0 + 8)) - 1)) 8)) = ji3 := (i64_w _).trans hji3
  by_cases c4 : 0 ≤ (ji3)
  · rw [if_pos c4] at H
    have c4b0 := eq_true c4
    have c4b1 : decide (0 ≤ (ji3)) = true := decide_eq_true c4
    clear c4
    by_cases c5 : (ji3 : Int).toNat ≤ 281474976710656
    · rw [if_pos c5] at H
      have c5b0 := eq_true c5
      have c5b1 : decide ((ji3 : Int).toNat ≤ 281474976710656) = true := decide_eq_true c5
      clear c5
      obtain ⟨y1001, hy1001⟩ : ∃ y_ : List Int, y_ = (List.replicate (ji3 : Int).toNat 0) := ⟨_, rfl⟩
      replace H : (catamaranref03_Made.l0 k a0 l1 y1001 0) = some r := by first | (rw [hy1001]; with_reducible exact H) | (have H2_ := (Option.bind_some _ _).symm.trans H; rw [hy1001]; with_reducible exact H2_) | (have H2_ := (Option.bind_some _ _).symm.trans H; with_reducible exact H2_) | with_reducible exact H | (rw [hy1001]; exact H) | exact H
      have Ny1001 := Aside0.mk hy1001
      clear hy1001
      have H' := Aside0.mk H
      clear H
      go_enter Try.func143, Try.ntmps143
      go_wp2_with (first | ((with_reducible refine gate_dst (N := 11) rfl ?_); refine Kd.R_make (Kd.int .u8) _ 5 rfl (N := 11) rfl 31 _ _ rfl ji3 rfl rfl Try.underlying31 (.int .u8 0) 1 info5 rfl (by decide) (by omega) 0 (ok := fun _ => True) (okp := fun _ => True) rfl (fun _ hk => hk) trivial (of_decide_eq_true (by first | (with_reducible assumption) | assumption)) (Nat.le_trans (Nat.mul_le_mul_right _ (of_decide_eq_true (by first | (with_reducible assumption) | assumption) : ji3.toNat ≤ 281474976710656)) (by omega)) (Below.refl _ _) (Nat.le_refl _) ?_; intro v1002 w6 ho7 hb hg_ hnew_; clear hg_ hnew_; (first | rw [← Ny1001.out] at ho7 | (simp only [Int.reduceToNat] at ho7; rw [← Ny1001.out] at ho7)); have n0_ := Aside0.mk (Kd.R_lower ho7 (below_size (by repeat (first | (with_reducible first | exact HB.out | apply below_alloc | apply pbdN | apply bdr1) | exact HB.out)))); have n1_ := Aside0.mk (below_step (by repeat (first | (with_reducible first | exact HB.out | apply below_alloc | apply pbdN | apply bdr1) | exact HB.out)) hb); clear HB; have HO1003 := n0_; have HB := n1_; clear n0_ n1_; clear hb ho7))
      go_loopg [6] k (fun kq v6 w' => ∃ (x5_1 : List Int) (x6_1 : Int), v6 = .int .i64 x6_1 ∧ Aside0 (catamaranref03_Made.l0 kq a0 l1 x5_1 x6_1 = some r) ∧ Aside0 (kq ≤ k) ∧ Aside0 (Kd.R (Kd.int .u8) 5 w' w.heap.size (fun _ => True) v1002 x5_1) ∧ Aside0 (Below w.heap.size w w'))
      case atStart => exact ⟨(y1001), (0), (by first | rfl | (simp; done) | (simp [*]; done)), H', ⟨Nat.le_refl _⟩, ⟨by (with_reducible repeat (first | apply Kd.R_alloc | apply Kd.R_drewN | apply Kd.R_drew)); exact HO1003.out⟩, ⟨by repeat (first | (with_reducible first | exact HB.out | apply below_alloc | apply pbdN | apply bdr1) | exact HB.out)⟩⟩
      case round =>
        clear H'
        try clear c1
        try clear p2
        try clear c4
        try clear c4b0
        try clear c4b1
        try clear c5
        try clear c5b0
        try clear c5b1
        try clear p6
        obtain ⟨x5_1, x6_1, rfl, HA, HK1, HO_5, HB⟩ := hrel
        cases gk with
        | zero => exact absurd HA.out (by simp [catamaranref03_Made.l0])
        | succ k1 =>
          have H := HA.out
          clear HA
          simp only [catamaranref03_Made.l0] at H
          by_cases c8 : x6_1 < a0
          · rw [if_pos c8] at H
            have c8b0 : decide (x6_1 < a0) = true := decide_eq_true c8
            clear c8
            by_cases c9 : 0 ≤ x6_1
            · rw [if_pos c9] at H
              have c9b0 : decide (0 ≤ x6_1) = true := decide_eq_true c9
              clear c9
              by_cases c10 : x6_1 < (l1.length : Int)
              · rw [if_pos c10] at H
                have c10b0 : decide (x6_1 < (l1.length : Int)) = true := decide_eq_true c10
                clear c10
                obtain ⟨bq11, hbq11⟩ : ∃ b_ : Bool, b_ = (rdOf false l1 x6_1) := ⟨_, rfl⟩
                replace H : (if bq11 = true then (if 0 ≤ (wrap64 (Int.tdiv x6_1 8)) then (if (wrap64 (Int.tdiv x6_1 8)) < (x5_1.length : Int) then ((catamaranref03_power.f k1 (Int.tmod x6_1 8)).bind fun t1000 => (catamaranref03_Made.l0 k1 a0 l1 (x5_1.set ((wrap64 (Int.tdiv x6_1 8)) : Int).toNat (((rd x5_1 (wrap64 (Int.tdiv x6_1 8))) + ((t1000) % 256)) % 256)) (wrap64 (x6_1 + 1)))) else (none)) else (none)) else (catamaranref03_Made.l0 k1 a0 l1 x5_1 (wrap64 (x6_1 + 1)))) = some r := by rw [← hbq11] at H; exact H
                have Nbq11 := Aside0.mk hbq11
                clear hbq11
                by_cases c12 : bq11 = true
                · subst c12
                  have H1 : (if 0 ≤ (wrap64 (Int.tdiv x6_1 8)) then (if (wrap64 (Int.tdiv x6_1 8)) < (x5_1.length : Int) then ((catamaranref03_power.f k1 (Int.tmod x6_1 8)).bind fun t1000 => (catamaranref03_Made.l0 k1 a0 l1 (x5_1.set ((wrap64 (Int.tdiv x6_1 8)) : Int).toNat (((rd x5_1 (wrap64 (Int.tdiv x6_1 8))) + ((t1000) % 256)) % 256)) (wrap64 (x6_1 + 1)))) else (none)) else (none)) = some r := by rw [if_pos rfl] at H; exact H
                  clear H
                  have H := H1
                  clear H1
                  obtain ⟨ji13, hji13⟩ : ∃ j_ : Int, (wrap64 (Int.tdiv x6_1 8)) = j_ := ⟨_, rfl⟩
                  replace H : (if 0 ≤ (ji13) then (if (ji13) < (x5_1.length : Int) then ((catamaranref03_power.f k1 (Int.tmod x6_1 8)).bind fun t1000 => (catamaranref03_Made.l0 k1 a0 l1 (x5_1.set ((ji13) : Int).toNat (((rd x5_1 (ji13)) + ((t1000) % 256)) % 256)) (wrap64 (x6_1 + 1)))) else (none)) else (none)) = some r := by first | (rw [hji13] at H; exact H) | (simp only [hji13] at H ⊢; exact H)
                  have hji13w : (IntKind.i64.wrap (Int.tdiv x6_1 8)) = ji13 := (i64_w _).trans hji13
                  by_cases c14 : 0 ≤ (ji13)
                  · rw [if_pos c14] at H
                    have c14b0 : decide (0 ≤ (ji13)) = true := decide_eq_true c14
                    clear c14
                    by_cases c15 : (ji13) < (x5_1.length : Int)
                    · rw [if_pos c15] at H
                      have c15b0 : decide ((ji13) < (x5_1.length : Int)) = true := decide_eq_true c15
                      clear c15
                      replace H := Option.bind_eq_some_iff.mp H
                      obtain ⟨t1000, A1004, H⟩ := H
                      replace H : (catamaranref03_Made.l0 k1 a0 l1 (x5_1.set ((ji13) : Int).toNat (((rd x5_1 (ji13)) + ((t1000) % 256)) % 256)) (wrap64 (x6_1 + 1))) = some r := H
                      have A16 := Aside0.mk A1004
                      clear A1004
                      obtain ⟨y1005, hy1005⟩ : ∃ y_ : List Int, y_ = (x5_1.set ((ji13) : Int).toNat (((rd x5_1 (ji13)) + ((t1000) % 256)) % 256)) := ⟨_, rfl⟩
                      replace H : (catamaranref03_Made.l0 k1 a0 l1 y1005 (wrap64 (x6_1 + 1))) = some r := by first | (rw [hy1005]; with_reducible exact H) | (have H2_ := (Option.bind_some _ _).symm.trans H; rw [hy1005]; with_reducible exact H2_) | (have H2_ := (Option.bind_some _ _).symm.trans H; with_reducible exact H2_) | with_reducible exact H | (rw [hy1005]; exact H) | exact H
                      have Ny1005 := Aside0.mk hy1005
                      clear hy1005
                      have H' := Aside0.mk H
                      clear H
                      have p1006 : 0 ≤ (x6_1 : Int) := of_decide_eq_true (by first | (with_reducible assumption) | assumption)
                      have q1006 : x6_1 < (l1.length : Int) := of_decide_eq_true (by first | (with_reducible assumption) | assumption)
                      obtain ⟨ad1006, e1006, hx1006_0⟩ := Kd.at_bool HR1.out x6_1 p1006 q1006
                      (try rw [← Nbq11.out] at hx1006_0)
                      cases e1006
                      replace hx1006_0 := (HB.out.cell (World.block_lt_of_cell? w _ hx1006_0)).trans hx1006_0
                      replace p1006 := eq_true p1006
                      replace q1006 := eq_true q1006
                      try go_wp2
                      have n0_ := Aside0.mk (Kd.R_drew HO_5.out)
                      have n1_ := Aside0.mk (bdr1 HB.out)
                      clear HO_5
                      clear HB
                      have HO_5 := n0_
                      have HB := n1_
                      clear n0_ n1_
                      obtain ⟨Ao19, co19, eo19⟩ := Kd.R_slice HO_5.out
                      (first | subst eo19 | (injection eo19 with f1_ f2_ f3_; have f4_ := f1_.symm; have f5_ := f3_.symm; clear f1_ f2_ f3_; subst f4_; subst f5_))
                      have p1007 : 0 ≤ ((ji13) : Int) := of_decide_eq_true (by first | (with_reducible assumption) | assumption)
                      have q1007 : (ji13) < (x5_1.length : Int) := of_decide_eq_true (by first | (with_reducible assumption) | assumption)
                      obtain ⟨ad1007, e1007, hx1007_0⟩ := Kd.at_int (Kd.R_reads' HO_5.out).2.2 (ji13) p1007 q1007
                      cases e1007
                      replace p1007 := eq_true p1007
                      replace q1007 := eq_true q1007
                      refine start_ (n := 15) (S := fun w' => w'.cell? (ad1007.add ((ji13)).toNat) = some (.int .u8 (rd x5_1 (ji13)))) (ds := [14]) #[false, false, false, false, false, false, false, false, false, false, false, false, false, false, false] (by kernel_rfl) rfl rfl (hx1007_0) (fun hHeld => ?_); refine wtW catamaranref03_Made.tab6 catamaranref03_Made.bits6 (fun HT_ HW_ => ?_)
                      generalize wr.drew = w18 at HO_5 HB hx1007_0 hHeld ⊢
                      refine pure_ (i := 0) (N := some 21) (v := ?_) (a' := ?_) #[true, false, false, false, false, false, false, false, false, false, false, false, false, false, false] rfl rfl (any_of HT_.out (by kernel_rfl)) (fun _ _ _ h => h) (Or.inl ⟨by rfl, ?_⟩) ?_ ?_
                      rotate_left
                      · intro w'
                        go_simp
                        with_reducible rfl
                      rotate_left
                      · simp only [Act.put, List.setIfInBounds_toArray, List.set_cons_zero, List.set_cons_succ, i64_w, i32_w]
                        rfl
                      refine pure_ (i := 1) (N := some 22) (v := ?_) (a' := ?_) #[true, true, false, false, false, false, false, false, false, false, false, false, false, false, false] rfl rfl (any_of HT_.out (by kernel_rfl)) (fun _ _ _ h => h) (Or.inl ⟨by rfl, ?_⟩) ?_ ?_
                      rotate_left
                      · intro w'
                        go_simp
                        with_reducible rfl
                      rotate_left
                      · simp only [Act.put, List.setIfInBounds_toArray, List.set_cons_zero, List.set_cons_succ, i64_w, i32_w]
                        rfl
                      refine pure_ (i := 2) (N := some 23) (v := ?_) (a' := ?_) #[true, true, true, false, false, false, false, false, false, false, false, false, false, false, false] rfl rfl (any_of HT_.out (by kernel_rfl)) (fun _ _ _ h => h) (Or.inl ⟨by rfl, ?_⟩) ?_ ?_
                      rotate_left
                      · intro w'
                        go_simp
                        with_reducible rfl
                      rotate_left
                      · simp only [Act.put, List.setIfInBounds_toArray, List.set_cons_zero, List.set_cons_succ, i64_w, i32_w]
                        rfl
                      refine pure_ (i := 3) (N := some 24) (v := ?_) (a' := ?_) #[true, true, true, true, false, false, false, false, false, false, false, false, false, false, false] rfl rfl (any_of HT_.out (by kernel_rfl)) (fun _ _ _ h => h) (Or.inl ⟨by rfl, ?_⟩) ?_ ?_
                      rotate_left
                      · intro w'
                        go_simp
                        with_reducible rfl
                      rotate_left
                      · simp only [Act.put, List.setIfInBounds_toArray, List.set_cons_zero, List.set_cons_succ, i64_w, i32_w]
                        rfl
                      refine pure_ (i := 4) (N := some 25) (v := ?_) (a' := ?_) #[true, true, true, true, true, false, false, false, false, false, false, false, false, false, false] rfl rfl (any_of HT_.out (by kernel_rfl)) (fun _ _ _ h => h) (Or.inl ⟨by rfl, ?_⟩) ?_ ?_
                      rotate_left
                      · intro w'
                        go_simp
                        with_reducible rfl
                      rotate_left
                      · simp only [Act.put, List.setIfInBounds_toArray, List.set_cons_zero, List.set_cons_succ, i64_w, i32_w]
                        rfl
                      refine pure_ (i := 5) (N := some 26) (v := ?_) (a' := ?_) #[true, true, true, true, true, true, false, false, false, false, false, false, false, false, false] rfl rfl (any_of HT_.out (by kernel_rfl)) (fun _ _ _ h => h) (Or.inl ⟨by rfl, ?_⟩) ?_ ?_
                      rotate_left
                      · intro w'
                        go_simp
                        with_reducible rfl
                      rotate_left
                      · simp only [Act.put, List.setIfInBounds_toArray, List.set_cons_zero, List.set_cons_succ, i64_w, i32_w]
                        rfl
                      refine pure_ (i := 6) (N := some 27) (v := ?_) (a' := ?_) #[true, true, true, true, true, true, true, false, false, false, false, false, false, false, false] rfl rfl (any_of HT_.out (by kernel_rfl)) (fun _ _ _ h => h) (Or.inl ⟨by rfl, ?_⟩) ?_ ?_
                      rotate_left
                      · intro w'
                        go_simp
                        with_reducible rfl
                      rotate_left
                      · simp only [Act.put, List.setIfInBounds_toArray, List.set_cons_zero, List.set_cons_succ, i64_w, i32_w]
                        rfl
                      refine pure_ (i := 8) (N := some 29) (v := ?_) (a' := ?_) #[true, true, true, true, true, true, true, false, true, false, false, false, false, false, false] rfl rfl (any_of HT_.out (by kernel_rfl)) (fun _ _ _ h => h) (Or.inl ⟨by rfl, ?_⟩) ?_ ?_
                      rotate_left
                      · intro w'
                        go_simp
                        with_reducible rfl
                      rotate_left
                      · simp only [Act.put, List.setIfInBounds_toArray, List.set_cons_zero, List.set_cons_succ, i64_w, i32_w]
                        rfl
                      refine pure_ (i := 9) (N := some 30) (v := ?_) (a' := ?_) #[true, true, true, true, true, true, true, false, true, true, false, false, false, false, false] rfl rfl (any_of HT_.out (by kernel_rfl)) (fun _ _ _ h => h) (Or.inl ⟨by rfl, ?_⟩) ?_ ?_
                      rotate_left
                      · intro w'
                        go_simp
                        with_reducible rfl
                      rotate_left
                      · simp only [Act.put, List.setIfInBounds_toArray, List.set_cons_zero, List.set_cons_succ, i64_w, i32_w]
                        rfl
                      refine take_ (i := 7) (N := some 28) (v := ?_) (a' := ?_) #[true, true, true, true, true, true, true, true, true, true, false, false, false, false, false] rfl rfl (take_ofW HT_.out HW_.out (by kernel_rfl)) (fun _ _ _ h => h) (Or.inl ⟨by rfl, ?_⟩) hHeld ?_ ?_
                      rotate_left
                      · intro w' s0
                        go_simp
                        with_reducible rfl
                      rotate_left
                      · simp only [Act.put, List.setIfInBounds_toArray, List.set_cons_zero, List.set_cons_succ, i64_w, i32_w]
                        rfl
                      refine one_ (i := 10) (N := some 31) #[true, true, true, true, true, true, true, true, true, true, true, false, false, false, false] rfl rfl (one_of HT_.out (by kernel_rfl)) (by decide) (fun K hK => ?_)
                      refine goes_ Try.func144 (by kernel_rfl) rfl #[.int .i64 (Int.tmod x6_1 8)] (by rfl) rfl rfl (by (try simp only [List.map_toArray, List.map_cons, List.map_nil]); first | done | rfl | (simp only [List.length_drop, List.length_take]; rfl)) ?_
                      with_reducible refine (catamaranref03_power.calls k1 (Int.tmod x6_1 8) t1000 _ A16.out).mono ?_
                      rintro e w' ⟨rfl, ⟨nd, rfl⟩⟩
                      refine ⟨_, rfl, ?_⟩
                      have p17 : 0 ≤ ((ji13) : Int) := of_decide_eq_true (by first | (with_reducible assumption) | assumption)
                      have q17 : ((ji13) : Int) < ((x5_1.length : Int) : Int) := of_decide_eq_true (by first | (with_reducible assumption) | assumption)
                      obtain ⟨go17, co17, eo17, gb17, gl17, cl17, HG17⟩ := Kd.R_form HO_5.out (by omega)
                      (first | cases eo17 | (injection eo17 with ea_ en_ ec_; (first | subst ea_ | (injection ea_ with ea_; subst ea_)); subst ec_; clear en_))
                      have GB17 := Aside0.mk gb17
                      have GG17 := Aside0.mk HG17
                      clear gb17 gl17 HG17
                      (first | simp only [add_plain] at hx1007_0 | skip)
                      obtain ⟨hx17_0, hf17_0⟩ := Kd.R_celln 0 HO_5.out ((ji13) : Int) p17 q17
                      replace p17 := eq_true p17
                      replace q17 := eq_true q17
                      have HP20 := Kd.R_putn HO_5.out ((ji13) : Int) (((rd x5_1 (ji13)) + ((t1000) % 256)) % 256)
                      rw [← Ny1005.out] at HP20
                      have HQ20 := Aside0.mk HP20
                      clear HP20
                      refine hK.out _ _ (hHeld) (fun hHeld => ?_)
                      clear hK K
                      refine norm_ (a' := ?_) ?_ ?_
                      rotate_left
                      · show Act.put _ (some 31) _ = _
                        simp only [Act.put, List.setIfInBounds_toArray, List.set_cons_zero, List.set_cons_succ, i64_w, i32_w]
                        rfl
                      refine pure_ (i := 11) (N := some 32) (v := ?_) (a' := ?_) #[true, true, true, true, true, true, true, true, true, true, true, true, false, false, false] rfl rfl (any_of HT_.out (by kernel_rfl)) (fun _ _ _ h => h) (Or.inl ⟨by rfl, ?_⟩) ?_ ?_
                      rotate_left
                      · intro w'
                        go_simp
                        with_reducible rfl
                      rotate_left
                      · simp only [Act.put, List.setIfInBounds_toArray, List.set_cons_zero, List.set_cons_succ, i64_w, i32_w]
                        rfl
                      refine pure_ (i := 12) (N := some 33) (v := ?_) (a' := ?_) #[true, true, true, true, true, true, true, true, true, true, true, true, true, false, false] rfl rfl (any_of HT_.out (by kernel_rfl)) (fun _ _ _ h => h) (Or.inl ⟨by rfl, ?_⟩) ?_ ?_
                      rotate_left
                      · intro w'
                        go_simp
                        with_reducible rfl
                      rotate_left
                      · simp only [Act.put, List.setIfInBounds_toArray, List.set_cons_zero, List.set_cons_succ, i64_w, i32_w]
                        rfl
                      refine pure_ (i := 13) (N := some 34) (v := ?_) (a' := ?_) #[true, true, true, true, true, true, true, true, true, true, true, true, true, true, false] rfl rfl (any_of HT_.out (by kernel_rfl)) (fun _ _ _ h => h) (Or.inl ⟨by rfl, ?_⟩) ?_ ?_
                      rotate_left
                      · intro w'
                        go_simp
                        with_reducible rfl
                      rotate_left
                      · simp only [Act.put, List.setIfInBounds_toArray, List.set_cons_zero, List.set_cons_succ, i64_w, i32_w]
                        rfl
                      refine last_ (i := 14) (N := none) #[true, true, true, true, true, true, true, true, true, true, true, true, true, true, true] rfl rfl (one_of HT_.out (by kernel_rfl)) (by decide) (fun K hK => ?_)
                      refine skip_ (w1 := ?_) (by rfl) rfl ?_ ?_
                      rotate_left
                      · go_simp
                        rfl
                      refine hK.out _ _ ?_
                      clear hK K
                      refine done_ (done_of HT_.out (by kernel_rfl)) ?_
                      try go_wp2
                      go_roundg k1
                      case measure => have := HK1.out; omega
                      case rel => exact ⟨(y1005), (wrap64 (x6_1 + 1)), (by first | rfl | (simp; done) | (simp [*]; done)), H', ⟨by have := HK1.out; omega⟩, ⟨by (with_reducible repeat (first | apply Kd.R_alloc | apply Kd.R_drewN | apply Kd.R_drew)); exact HQ20.out⟩, ⟨by repeat (first | (with_reducible first | exact HB.out | apply below_alloc | apply pbdN | apply bdr1 | refine below_set ?_ GB17.out) | exact HB.out)⟩⟩
                    · rw [if_neg c15] at H
                      exact absurd H (by simp)
                  · rw [if_neg c14] at H
                    exact absurd H (by simp)
                · replace c12 := Bool.eq_false_iff.mpr c12
                  subst c12
                  have H1 : (catamaranref03_Made.l0 k1 a0 l1 x5_1 (wrap64 (x6_1 + 1))) = some r := by rw [if_neg (show ¬ (false = true) by decide)] at H; exact H
                  clear H
                  have H := H1
                  clear H1
                  have H' := Aside0.mk H
                  clear H
                  have p1006 : 0 ≤ (x6_1 : Int) := of_decide_eq_true (by first | (with_reducible assumption) | assumption)
                  have q1006 : x6_1 < (l1.length : Int) := of_decide_eq_true (by first | (with_reducible assumption) | assumption)
                  obtain ⟨ad1006, e1006, hx1006_0⟩ := Kd.at_bool HR1.out x6_1 p1006 q1006
                  (try rw [← Nbq11.out] at hx1006_0)
                  cases e1006
                  replace hx1006_0 := (HB.out.cell (World.block_lt_of_cell? w _ hx1006_0)).trans hx1006_0
                  replace p1006 := eq_true p1006
                  replace q1006 := eq_true q1006
                  go_wp2
                  go_roundg k1
                  case measure => have := HK1.out; omega
                  case rel => exact ⟨(x5_1), (wrap64 (x6_1 + 1)), (by first | rfl | (simp; done) | (simp [*]; done)), H', ⟨by have := HK1.out; omega⟩, ⟨by (with_reducible repeat (first | apply Kd.R_alloc | apply Kd.R_drewN | apply Kd.R_drew)); exact HO_5.out⟩, ⟨by repeat (first | (with_reducible first | exact HB.out | apply below_alloc | apply pbdN | apply bdr1) | exact HB.out)⟩⟩
              · rw [if_neg c10] at H
                exact absurd H (by simp)
            · rw [if_neg c9] at H
              exact absurd H (by simp)
          · rw [if_neg c8] at H
            have c8b0 : decide (x6_1 < a0) = false := decide_eq_false c8
            clear c8
            obtain rfl := Option.some.inj H
            go_wp2
            go_ret
            exact ⟨_, by first | rfl | (simp [errW_none, errW_some] <;> rfl) | (simp only [← hji3]; first | rfl | (simp [errW_none, errW_some] <;> rfl)) | (simp [*, errW_none, errW_some] <;> rfl), by (with_reducible repeat (first | apply Kd.R_alloc | apply Kd.R_drewN | apply Kd.R_drew)); exact HO_5.out, by repeat (first | (with_reducible first | exact HB.out | apply below_alloc | apply pbdN | apply bdr1) | exact HB.out)⟩
    · rw [if_neg c5] at H
      exact absurd H (by simp)
  · rw [if_neg c4] at H
    exact absurd H (by simp)
end Go.Proofs.Ytdkjhcdniepbhaa.P
end
section
set_option linter.unusedVariables false
set_option linter.unusedSimpArgs false
namespace Go.Proofs.Ytdkjhcdniepbhaa.P
open Go.RowKit Go.Proofs.PrintWords Go.Proofs.PrintLast Go.Proofs.PrintMore
attribute [local go_sem] max2_int min2_int max_two min_two max_three min_three max_four min_four
def catamaranref07_OfPage.f (a0_0 : Int) (a0_1 : Int) (a0_2 : Int) (a0_3 : Int) (a0_4 : Int) (a0_5 : Int) (a1 : Int) (a2 : Int) : Option (Int) := (catamaranref07_first.f a0_0 a0_1 a0_2 a0_3 a0_4 a0_5).bind fun bt1000 => ((catamaranref07_Many.f a0_0 a0_1 a0_2 a0_3 a0_4 a0_5).bind fun t1001 => (some (wrap64 ((wrap64 (bt1000.2.1 + (wrap64 (a1 * t1001)))) + a2))))
set_option maxHeartbeats 8000000 in
set_option maxRecDepth 100000 in
theorem catamaranref07_OfPage.calls (a0_0 : Int) (a0_1 : Int) (a0_2 : Int) (a0_3 : Int) (a0_4 : Int) (a0_5 : Int) (a1 : Int) (a2 : Int) (r : Int) (w : World) (h : catamaranref07_OfPage.f a0_0 a0_1 a0_2 a0_3 a0_4 a0_5 a1 a2 = some r) :
    Calls Try.prog 137 #[.agg #[.int .i64 a0_0, .int .i64 a0_1, .int .i64 a0_2, .int .i64 a0_3, .int .i64 a0_4, .int .i64 a0_5], .int .i64 a1, .int .i64 a2] w fun e w' => e = .returned (.int .i64 r) ∧ Below w.heap.size w w' := by
  have hu44 := Try.underlying44
  have HB := Aside0.mk (Below.refl w.heap.size w)
  have H : ((catamaranref07_first.f a0_0 a0_1 a0_2 a0_3 a0_4 a0_5).bind fun bt1000 => ((catamaranref07_Many.f a0_0 a0_1 a0_2 a0_3 a0_4 a0_5).bind fun t1001 => (some (wrap64 ((wrap64 (bt1000.2.1 + (wrap64 (a1 * t1001)))) + a2))))) = some r := h
  clear h
  replace H := Option.bind_eq_some_iff.mp H
  obtain ⟨⟨t1000, t1002, t1003, t1004⟩, A40, H⟩ := H
  replace H : ((catamaranref07_Many.f a0_0 a0_1 a0_2 a0_3 a0_4 a0_5).bind fun t1001 => (some (wrap64 ((wrap64 (t1002 + (wrap64 (a1 * t1001)))) + a2)))) = some r := H
  have A4 := Aside0.mk A40
  clear A40
  replace H := Option.bind_eq_some_iff.mp H
  obtain ⟨t1001, A50, H⟩ := H
  replace H : (some (wrap64 ((wrap64 (t1002 + (wrap64 (a1 * t1001)))) + a2))) = some r := H
  have A5 := Aside0.mk A50
  clear A50
  obtain rfl := Option.some.inj H
  go_enter Try.func137, Try.ntmps137
  go_wp2_with (first | ((with_reducible refine gate_dst (N := 3) rfl ?_); refine box_event ?hg (N := 3) ?hd (cs := #[.int .i64 a0_0, .int .i64 a0_1, .int .i64 a0_2, .int .i64 a0_3, .int .i64 a0_4, .int .i64 a0_5]) (t := 44) ?hr ?_; (case hd => rfl); (case hg => rfl); (case hr => first | (go_simp; done) | (go_simp; rfl)); intro gb1005 hg w6 hbox hb; have n0_ := Aside0.mk (below_step (by repeat (first | (with_reducible first | exact HB.out | apply below_alloc | apply pbdN | apply bdr1) | exact HB.out)) hb); have n1_ := Aside0.mk (hbox); have n2_ := Aside0.mk ((by rw [hg]; exact (below_size (by repeat (first | (with_reducible first | exact HB.out | apply below_alloc | apply pbdN | apply bdr1) | exact HB.out))) : w.heap.size ≤ gb1005)); have n3_ := Aside0.mk ((by rw [hg]; exact (below_size (by repeat (first | (with_reducible first | exact HB.out | apply below_alloc | apply pbdN | apply bdr1) | exact HB.out))) : w.heap.size ≤ gb1005)); clear HB; have HB := n0_; have BK1005 := n1_; have GW1005 := n2_; have GE1005 := n3_; clear n0_ n1_ n2_ n3_; clear hb hbox hg; have hcz7_0 : w6.cell? ⟨gb1005, 0, none⟩ = some (.int .i64 a0_0) := (blk_cell BK1005.out 0).trans rfl; have hcz7_1 : w6.cell? ⟨gb1005, 1, none⟩ = some (.int .i64 a0_1) := (blk_cell BK1005.out 1).trans rfl; have hcz7_2 : w6.cell? ⟨gb1005, 2, none⟩ = some (.int .i64 a0_2) := (blk_cell BK1005.out 2).trans rfl; have hcz7_3 : w6.cell? ⟨gb1005, 3, none⟩ = some (.int .i64 a0_3) := (blk_cell BK1005.out 3).trans rfl; have hcz7_4 : w6.cell? ⟨gb1005, 4, none⟩ = some (.int .i64 a0_4) := (blk_cell BK1005.out 4).trans rfl; have hcz7_5 : w6.cell? ⟨gb1005, 5, none⟩ = some (.int .i64 a0_5) := (blk_cell BK1005.out 5).trans rfl; have hfz7_0 := blk_frozen BK1005.out 0; have hfz7_1 := blk_frozen BK1005.out 1; have hfz7_2 := blk_frozen BK1005.out 2; have hfz7_3 := blk_frozen BK1005.out 3; have hfz7_4 := blk_frozen BK1005.out 4; have hfz7_5 := blk_frozen BK1005.out 5) | ((with_reducible refine gate_callee (f := 97) rfl ?_); refine goesL_ (some 13) rfl rfl Try.func97 (by kernel_rfl) rfl #[.agg #[.int .i64 a0_0, .int .i64 a0_1, .int .i64 a0_2, .int .i64 a0_3, .int .i64 a0_4, .int .i64 a0_5]] rfl (by (try simp only [List.map_toArray, List.map_cons, List.map_nil]); first | done | rfl | (simp only [List.length_drop, List.length_take]; rfl)) ?_; (with_reducible refine (catamaranref07_first.calls a0_0 a0_1 a0_2 a0_3 a0_4 a0_5 t1000 t1002 t1003 t1004 _ A4.out).mono ?_); rintro e w8 ⟨rfl, hb⟩; refine ⟨_, rfl, ?_⟩; have n0_ := Aside0.mk (blk_below (g := gb1005) (o := .cells #[.int .i64 a0_0, .int .i64 a0_1, .int .i64 a0_2, .int .i64 a0_3, .int .i64 a0_4, .int .i64 a0_5] 44 (0, 0)) (by (with_reducible repeat (first | refine blk_drewN ?_ _ | refine blk_drew ?_ | refine blk_alloc ?_ _)); exact BK1005.out) hb); have n1_ := Aside0.mk (below_step (by repeat (first | (with_reducible first | exact HB.out | apply below_alloc | apply pbdN | apply bdr1 | refine below_set ?_ GE1005.out) | exact HB.out)) hb); clear BK1005; clear HB; have BK1005 := n0_; have HB := n1_; clear n0_ n1_; (try clear hb); (try clear hb2); (try clear hk); (try clear hi); have hcz9_0 : w8.cell? ⟨gb1005, 0, none⟩ = some (.int .i64 a0_0) := (blk_cell BK1005.out 0).trans rfl; have hcz9_1 : w8.cell? ⟨gb1005, 1, none⟩ = some (.int .i64 a0_1) := (blk_cell BK1005.out 1).trans rfl; have hcz9_2 : w8.cell? ⟨gb1005, 2, none⟩ = some (.int .i64 a0_2) := (blk_cell BK1005.out 2).trans rfl; have hcz9_3 : w8.cell? ⟨gb1005, 3, none⟩ = some (.int .i64 a0_3) := (blk_cell BK1005.out 3).trans rfl; have hcz9_4 : w8.cell? ⟨gb1005, 4, none⟩ = some (.int .i64 a0_4) := (blk_cell BK1005.out 4).trans rfl; have hcz9_5 : w8.cell? ⟨gb1005, 5, none⟩ = some (.int .i64 a0_5) := (blk_cell BK1005.out 5).trans rfl; have hfz9_0 := blk_frozen BK1005.out 0; have hfz9_1 := blk_frozen BK1005.out 1; have hfz9_2 := blk_frozen BK1005.out 2; have hfz9_3 := blk_frozen BK1005.out 3; have hfz9_4 := blk_frozen BK1005.out 4; have hfz9_5 := blk_frozen BK1005.out 5) | ((with_reducible refine gate_callee (f := 116) rfl ?_); refine goesL_ (some 21) rfl rfl Try.func116 (by kernel_rfl) rfl #[.agg #[.int .i64 a0_0, .int .i64 a0_1, .int .i64 a0_2, .int .i64 a0_3, .int .i64 a0_4, .int .i64 a0_5]] rfl (by (try simp only [List.map_toArray, List.map_cons, List.map_nil]); first | done | rfl | (simp only [List.length_drop, List.length_take]; rfl)) ?_; (with_reducible refine (catamaranref07_Many.calls a0_0 a0_1 a0_2 a0_3 a0_4 a0_5 t1001 _ A5.out).mono ?_); rintro e w10 ⟨rfl, hb⟩; refine ⟨_, rfl, ?_⟩; have n0_ := Aside0.mk (blk_below (g := gb1005) (o := .cells #[.int .i64 a0_0, .int .i64 a0_1, .int .i64 a0_2, .int .i64 a0_3, .int .i64 a0_4, .int .i64 a0_5] 44 (0, 0)) (by (with_reducible repeat (first | refine blk_drewN ?_ _ | refine blk_drew ?_ | refine blk_alloc ?_ _)); exact BK1005.out) hb); have n1_ := Aside0.mk (below_step (by repeat (first | (with_reducible first | exact HB.out | apply below_alloc | apply pbdN | apply bdr1 | refine below_set ?_ GE1005.out) | exact HB.out)) hb); clear BK1005; clear HB; have BK1005 := n0_; have HB := n1_; clear n0_ n1_; (try clear hb); (try clear hb2); (try clear hk); (try clear hi)))
  go_ret
  exact ⟨by first | rfl | (simp [errW_none, errW_some] <;> rfl) | (simp [*, errW_none, errW_some] <;> rfl), by repeat (first | (with_reducible first | exact HB.out | apply below_alloc | apply pbdN | apply bdr1 | refine below_set ?_ GE1005.out) | exact HB.out)⟩
end Go.Proofs.Ytdkjhcdniepbhaa.P
end
section
set_option linter.unusedVariables false
set_option linter.unusedSimpArgs false
namespace Go.Proofs.Ytdkjhcdniepbhaa.P
open Go.RowKit Go.Proofs.PrintWords Go.Proofs.PrintLast Go.Proofs.PrintMore
attribute [local go_sem] max2_int min2_int max_two min_two max_three min_three max_four min_four
def catamaranref13_Sector.f (a0 : Int) (a1 : Int) (a2 : Int) : Option (List Int) := (some (([1, (a0) % 256, (a1) % 256, a2] : List Int) : List Int)).bind fun y1000 => (if y1000.length + 28 < 140737488355328 then (some (y1000 ++ List.replicate 28 0)) else (none))
set_option maxHeartbeats 8000000 in
set_option maxRecDepth 100000 in
theorem catamaranref13_Sector.calls (a0 : Int) (a1 : Int) (a2 : Int) (r : List Int) (w : World) (h : catamaranref13_Sector.f a0 a1 a2 = some r) :
    Calls Try.prog 138 #[.int .i64 a0, .int .i64 a1, .int .u8 a2] w fun e w' => ∃ v0_ : Value, e = .returned (v0_) ∧ Kd.R (Kd.int .u8) 5 w' w.heap.size (fun _ => True) v0_ r ∧ Below w.heap.size w w' := by
  have HB := Aside0.mk (Below.refl w.heap.size w)
  have H : ((some (([1, (a0) % 256, (a1) % 256, a2] : List Int) : List Int)).bind fun y1000 => (if y1000.length + 28 < 140737488355328 then (some (y1000 ++ List.replicate 28 0)) else (none))) = some r := h
  clear h
  obtain ⟨y1000, hy1000⟩ : ∃ y_ : List Int, y_ = (([1, (a0) % 256, (a1) % 256, a2] : List Int)) := ⟨_, rfl⟩
  replace H : (if y1000.length + 28 < 140737488355328 then (some (y1000 ++ List.replicate 28 0)) else (none)) = some r := by first | (rw [hy1000]; with_reducible exact H) | (have H2_ := (Option.bind_some _ _).symm.trans H; rw [hy1000]; with_reducible exact H2_) | (have H2_ := (Option.bind_some _ _).symm.trans H; with_reducible exact H2_) | with_reducible exact H | (rw [hy1000]; exact H) | exact H
  have Ny1000 := Aside0.mk hy1000
  clear hy1000
  by_cases c4 : y1000.length + 28 < 140737488355328
  · rw [if_pos c4] at H
    have LMc4 := Aside0.mk c4
    clear c4
    obtain ⟨y1001, hy1001⟩ : ∃ y_ : List Int, y_ = (y1000 ++ List.replicate 28 0) := ⟨_, rfl⟩
    replace H : (some y1001) = some r := by first | (rw [hy1001]; with_reducible exact H) | (have H2_ := (Option.bind_some _ _).symm.trans H; rw [hy1001]; with_reducible exact H2_) | (have H2_ := (Option.bind_some _ _).symm.trans H; with_reducible exact H2_) | with_reducible exact H | (rw [hy1001]; exact H) | exact H
    have Ny1001 := Aside0.mk hy1001
    clear hy1001
    obtain rfl := Option.some.inj H
    go_enter Try.func138, Try.ntmps138
    go_wp2_with (first | ((with_reducible refine gate_dst (N := 12) rfl ?_); refine Kd.R_lit (Kd.int .u8) _ 5 ?hg (N := 12) ?hd (xs := ([1, (a0) % 256, (a1) % 256, a2] : List Int)) (inner := [.int .u8 1, .int .u8 ((a0) % 256), .int .u8 ((a1) % 256), .int .u8 a2]) (ok := fun _ => True) (okp := fun _ => True) ?hr ?hp (fun _ hk => hk) trivial (Below.refl _ _) (Nat.le_refl _) (by simp) ?_; (case hd => rfl); (case hg => rfl); (case hr => first | (go_simp; done) | (go_simp; rfl)); (case hp => exact (Reps.one (show Kd.M (Kd.int .u8) _ _ _ 1 [.int .u8 1] from rfl) (Reps.one (show Kd.M (Kd.int .u8) _ _ _ ((a0) % 256) [.int .u8 ((a0) % 256)] from rfl) (Reps.one (show Kd.M (Kd.int .u8) _ _ _ ((a1) % 256) [.int .u8 ((a1) % 256)] from rfl) (Reps.one (show Kd.M (Kd.int .u8) _ _ _ a2 [.int .u8 a2] from rfl) (Reps.none _ _)))))); intro v1002 w5 ho6 hb hg_ hnew_; clear hg_ hnew_; (first | rw [← Ny1000.out] at ho6 | (simp only [Int.reduceToNat] at ho6; rw [← Ny1000.out] at ho6)); have n0_ := Aside0.mk (Kd.R_lower ho6 (below_size (by repeat (first | (with_reducible first | exact HB.out | apply below_alloc | apply pbdN | apply bdr1) | exact HB.out)))); have n1_ := Aside0.mk (below_step (by repeat (first | (with_reducible first | exact HB.out | apply below_alloc | apply pbdN | apply bdr1) | exact HB.out)) hb); clear HB; have HO1003 := n0_; have HB := n1_; clear n0_ n1_; clear hb ho6) | (at_builtin; refine Kd.R_append_zeros (Kd.int .u8) (w0 := w) w.heap.size rfl (.tmp 12) (.const (.int .i64 28)) 31 3 5 (.int .u8 0) 1 rfl Try.underlying31 Try.underlying3 info5 rfl (by decide) (by omega) v1002 y1000 0 (28 : Int) (fun _ => True) rfl rfl rfl ?aF ?aO (by omega) ?aB ?aS ?aL ?_; (case aB => exact (by repeat (first | (with_reducible first | exact HB.out | apply below_alloc | apply pbdN | apply bdr1) | exact HB.out))); (case aF => exact (fun _ _ => trivial)); (case aO => exact (by (with_reducible repeat (first | apply Kd.R_alloc | apply Kd.R_drewN | apply Kd.R_drew)); exact HO1003.out)); (case aS => exact (below_size (by repeat (first | (with_reducible first | exact HB.out | apply below_alloc | apply pbdN | apply bdr1) | exact HB.out)))); (case aL => have := LMc4.out; omega); intro v1004 w7 ho hb hg hat; (first | (simp only [Int.reduceToNat] at ho; rw [← Ny1001.out] at ho) | rw [← Ny1001.out] at ho); have n0_ := Aside0.mk (hb); have n1_ := Aside0.mk (ho); clear HB; clear HO1003; have HB := n0_; have HO1005 := n1_; clear n0_ n1_; clear ho hb hg hat))
    go_ret
    exact ⟨_, by first | rfl | (simp [errW_none, errW_some] <;> rfl) | (simp [*, errW_none, errW_some] <;> rfl), by (with_reducible repeat (first | apply Kd.R_alloc | apply Kd.R_drewN | apply Kd.R_drew)); exact HO1005.out, by repeat (first | (with_reducible first | exact HB.out | apply below_alloc | apply pbdN | apply bdr1) | exact HB.out)⟩
  · rw [if_neg c4] at H
    exact absurd H (by simp)
end Go.Proofs.Ytdkjhcdniepbhaa.P
end
