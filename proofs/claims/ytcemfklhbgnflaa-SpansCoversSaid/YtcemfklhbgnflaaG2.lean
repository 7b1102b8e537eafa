/- of: the days of a list of spans, as a block of 1024 bools. -/
import Derived.Test.YtcemfklhbgnflaaG1

import Derived.RangeFuncRecord
namespace Go.Proofs.Ytcemfklhbgnflaa.P
open Go.RowKit Go.Proofs.YtcemfklhbgnflaaW.PrintWords Go.Proofs.YtcemfklhbgnflaaW.PrintLast Go.Proofs.YtcemfklhbgnflaaW.PrintMore
attribute [local go_sem] max2_int min2_int max_two min_two max_three min_three max_four min_four

def inl (l : List S31) (m : Nat) : Bool := l.any fun s => decide (s.f0 ≤ (m : Int)) && decide ((m : Int) < s.f1)
def days (f : Nat → Bool) : Array Value := Array.ofFn (n := 1024) fun i => .bool (f i)
theorem days_zero : ∀ w, (zeroValue 53).run Try.prog w = .ok (.agg (days fun _ => false)) w := by
  intro w
  have h : Sem.run Try.prog (zeroValue 53) w = .ok (.agg (Array.replicate 1024 (.bool false))) w := by kernel_rfl
  rw [h]
  have : days (fun _ => false) = Array.replicate 1024 (.bool false) := by
    unfold days
    apply Array.ext <;> simp
  rw [this]
theorem days_size (f : Nat → Bool) : (days f).size = 1024 := by simp [days]
theorem days_get (f : Nat → Bool) (m : Nat) (h : m < 1024) : (days f)[m]? = some (.bool (f m)) := by simp [days, h]
theorem days_set (f : Nat → Bool) (m : Nat) (b : Bool) : (days f).setIfInBounds m (.bool b) = days (fun x => if x = m then b else f x) := by
  apply Array.ext
  · simp [days]
  · intro i h1 h2
    have hi : i < 1024 := by simpa [days] using h2
    by_cases h : m = i
    · subst h; simp [days]
    · rw [Array.getElem_setIfInBounds_ne (by simpa [days] using hi) h]
      simp [days, Ne.symm h]
/-- Block b is an array of 1024 days, day m as f says. -/
def DaysAt (w : World) (b : Nat) (f : Nat → Bool) : Prop := w.heap[b]? = some (.cells (days f) 53 (0, 0))
theorem DaysAt.lt {w : World} {b : Nat} {f : Nat → Bool} (h : DaysAt w b f) : b < w.heap.size := (Array.getElem?_eq_some_iff.1 h).1
theorem DaysAt.cell {w : World} {b : Nat} {f : Nat → Bool} (h : DaysAt w b f) (m : Nat) (hm : m < 1024) : w.cell? ⟨b, m, none⟩ = some (.bool (f m)) := by
  unfold World.cell?
  rw [show w.heap[b]? = _ from h]
  simp [days_get f m hm]
theorem DaysAt.free {w : World} {b : Nat} {f : Nat → Bool} (h : DaysAt w b f) (m : Nat) : w.frozen? ⟨b, m, none⟩ = false := by
  unfold World.frozen?
  rw [show w.heap[b]? = _ from h]
  simp
theorem DaysAt.set {w : World} {b : Nat} {f : Nat → Bool} (h : DaysAt w b f) (m : Nat) (c : Bool) : DaysAt (w.setCell ⟨b, m, none⟩ (.bool c)) b (fun x => if x = m then c else f x) := by
  have hlt := h.lt
  unfold DaysAt at *
  show (w.heap.modify b _)[b]? = _
  rw [Array.getElem?_eq_getElem (by rw [Array.size_modify]; exact hlt), Array.getElem_modify_self]
  rw [Array.getElem?_eq_getElem hlt] at h
  injection h with h
  rw [h]
  simp [days_set]
theorem DaysAt.new (w : World) (f : Nat → Bool) : DaysAt (w.alloc (.cells (days f) 53)) w.heap.size f := World.alloc_heap_new w _
theorem DaysAt.below {w w1 : World} {b : Nat} {f : Nat → Bool} (h : DaysAt w b f) (hb : Below w.heap.size w w1) : DaysAt w1 b f := (hb.block b h.lt).trans h
theorem DaysAt.ext {w : World} {b : Nat} {f g : Nat → Bool} (h : DaysAt w b f) (hfg : ∀ m, m < 1024 → f m = g m) : DaysAt w b g := by
  have : days f = days g := by
    apply Array.ext
    · simp [days]
    · intro i h1 h2
      have hi : i < 1024 := by simpa [days] using h1
      simp [days, hfg i hi]
  unfold DaysAt at *
  rw [h, this]
/-- A block of two whole numbers. -/
def PairAt (w : World) (b : Nat) (t : TypeId) (x y : Int) : Prop := w.heap[b]? = some (.cells #[.int .i64 x, .int .i64 y] t (0, 0))
theorem PairAt.cells {w : World} {b : Nat} {t : TypeId} {x y : Int} (h : PairAt w b t x y) : w.cell? ⟨b, 0, none⟩ = some (.int .i64 x) ∧ w.cell? ⟨b, 1, none⟩ = some (.int .i64 y) := by
  unfold World.cell?
  rw [show w.heap[b]? = _ from h]
  simp
theorem PairAt.far {w : World} {b : Nat} {t : TypeId} {x y : Int} (h : PairAt w b t x y) (a : Addr) (v : Value) (hne : b ≠ a.block) : PairAt (w.setCell a v) b t x y := (Below.heap_setCell w a v b hne).trans h

theorem inl_snoc (l : List S31) (n : Nat) (h : n < l.length) (m : Nat) : inl (l.take (n + 1)) m = (inl (l.take n) m || (decide (l[n].f0 ≤ (m : Int)) && decide ((m : Int) < l[n].f1))) := by
  unfold inl
  rw [List.take_succ_eq_append_getElem h, List.any_append]
  simp
/-- One more day. -/
theorem day_more (A : Bool) (a x : Int) (m : Nat) (h0 : 0 ≤ x) (ha : a ≤ x) : (if m = x.toNat then true else (A || (decide (a ≤ (m : Int)) && decide ((m : Int) < x)))) = (A || (decide (a ≤ (m : Int)) && decide ((m : Int) < x + 1))) := by
  by_cases h : m = x.toNat
  · have h1 : a ≤ (m : Int) := by omega
    have h2 : (m : Int) < x + 1 := by omega
    simp [h, h1, h2]
    right
    constructor <;> omega
  · have : decide ((m : Int) < x + 1) = decide ((m : Int) < x) := by
      by_cases h2 : (m : Int) < x
      · simp [h2]; omega
      · simp [h2]; omega
    rw [if_neg h, this]
/-- All days of a span. -/
theorem day_all (A : Bool) (a b x : Int) (m : Nat) (hm : m < 1024) (hq : (m : Int) < x → a ≤ m → (m : Int) < b) (he : 1024 ≤ x ∨ b ≤ x) : (A || (decide (a ≤ (m : Int)) && decide ((m : Int) < x))) = (A || (decide (a ≤ (m : Int)) && decide ((m : Int) < b))) := by
  by_cases h1 : a ≤ (m : Int)
  · by_cases h2 : (m : Int) < x
    · simp [h1, h2, hq h2 h1]
    · have : ¬ (m : Int) < b := by omega
      simp [h2, this]
  · simp [h1]
set_option maxHeartbeats 400000 in
theorem of_calls (A0 : Option Addr) (c0 : Nat) (l0 : List (S31)) (w : World) (hr0 : Kd.C k31 w A0 l0.length l0) :
    Calls Try.prog 38 #[.slice A0 l0.length c0] w fun e w' => e = .returned (.pointer (some ⟨w.heap.size, 0, none⟩)) ∧ DaysAt w' w.heap.size (inl l0) ∧ Below w.heap.size w w' := by
  have hu := Try.underlying31
  have hu53 := Try.underlying53
  have hz := days_zero
  have HR := Aside0.mk hr0
  have hl : l0.length ≤ 9223372036854775807 := hr0.2.1
  clear hr0
  go_enter Try.func38, Try.ntmps38
  go_wp2
  go_loopw [9] (fun v9 w' => ∃ n : Nat, v9 = .int .i64 n ∧ n ≤ l0.length ∧ Aside0 (DaysAt w' w.heap.size (inl (l0.take n))) ∧ Aside0 (Below w.heap.size w w')) (fun v9 _ => l0.length - (intOf v9).toNat)
  case atStart => exact ⟨0, rfl, Nat.zero_le _, ⟨DaysAt.new _ _⟩, ⟨(Below.refl _ _).alloc (Nat.le_refl _) _⟩⟩
  case round =>
    obtain ⟨n, rfl, hn, HD, HB⟩ := hrel
    obtain ⟨wo, rfl⟩ : ∃ wo : World, wo = wr := ⟨_, rfl⟩
    by_cases hlt : n < l0.length
    · obtain ⟨ad, e1, hx0, hx1⟩ := at_T31 (Kd.C_below HR.out HB.out) n (by omega) (by omega)
      cases e1
      simp only [Int.toNat_natCast] at hx0 hx1
      have HP := Aside0.mk (rd_at l0 n hlt)
      generalize hs : rd_T31 l0 n = s at *
      have HS := Aside0.mk hs
      clear hs
      go_wp2
      all_goals
        go_loopw [6] (fun v6 w' => ∃ x : Int, v6 = .int .i64 x ∧ 0 ≤ x ∧ s.f0 ≤ x ∧ Aside0 (∀ m : Nat, (m : Int) < x → s.f0 ≤ m → (m : Int) < s.f1) ∧ Aside0 (DaysAt w' w.heap.size (fun m => inl (l0.take n) m || (decide (s.f0 ≤ (m : Int)) && decide ((m : Int) < x)))) ∧ Aside0 (PairAt w' wo.heap.size 31 s.f0 s.f1) ∧ Aside0 (Below w.heap.size w w')) (fun v6 _ => (1024 - intOf v6).toNat)
        case atStart =>
          refine ⟨_, rfl, by omega, by omega, ⟨fun m h1 h2 => by omega⟩, ⟨?_⟩, ⟨World.alloc_heap_new wo _⟩, ⟨HB.out.alloc HB.out.size _⟩⟩
          refine DaysAt.ext (HD.out.below ((Below.refl _ _).alloc (Nat.le_refl _) _)) (fun m hm => ?_)
          by_cases h1 : s.f0 ≤ (m : Int)
          · simp [h1]; omega
          · simp [h1]
        case round =>
          obtain ⟨x, rfl, h0, hf0, HQ, HDi, HP2, HBi⟩ := hrel
          obtain ⟨hc0, hc1⟩ := HP2.out.cells
          by_cases hx : x < 1024 ∧ x < s.f1
          · obtain ⟨hx, hx1⟩ := hx
            have hcell := HDi.out.cell x.toNat (by omega)
            have hfree := HDi.out.free x.toNat
            go_wp2
            all_goals
              refine ⟨⟨x + 1, rfl, by omega, by omega, ⟨fun m h1 h2 => ?_⟩, ⟨?_⟩, ⟨HP2.out.far _ _ (by have := HD.out.lt; simp; omega)⟩, ⟨HBi.out.setCell (p := ⟨w.heap.size, x.toNat, none⟩) (Nat.le_refl _) _⟩⟩, by simp [intOf]; omega⟩
              · by_cases h3 : (m : Int) < x
                · exact HQ.out m h3 h2
                · omega
              · exact (HDi.out.set x.toNat true).ext (fun m hm => day_more _ _ _ _ h0 hf0)
          · have hx' : 1024 ≤ x ∨ s.f1 ≤ x := by omega
            clear hx
            have HR1 : Aside0 (DaysAt wr w.heap.size (inl (l0.take (n + 1)))) := ⟨HDi.out.ext (fun m hm => by
              rw [inl_snoc l0 n hlt m, day_all _ _ _ _ m hm (HQ.out m) hx', ← HP.out])⟩
            rcases hx' with hx' | hx'
            all_goals
              go_wp2
              all_goals
                go_roundw
                case rel => exact ⟨n + 1, by go_num, hlt, HR1, HBi⟩
                case measure => simp [intOf]; omega
    · have HE := Aside0.mk (show l0.take n = l0 from List.take_of_length_le (by omega))
      go_wp2
      go_ret
      exact ⟨rfl, by have := HD.out; rw [HE.out] at this; exact this, HB.out⟩
end Go.Proofs.Ytcemfklhbgnflaa.P
