/- The law's sane: it returns true. -/
import Derived.Test.YtfbcjeknibfjcaaP5
import Derived.Test.YtfbcjeknibfjcaaP11
import Derived.Test.YtfbcjeknibfjcaaP13
import Derived.Test.YtfbcjeknibfjcaaGB
import Derived.Test.YtfbcjeknibfjcaaV2
import Derived.Deep.Cut
import Derived.Deep.RegionHeld
namespace Go.Proofs.Ytfbcjeknibfjcaa.P.Sn
open Go.RowKit Go.Proofs.YtfbcjeknibfjcaaW.PrintWords Go.Proofs.YtfbcjeknibfjcaaW.PrintLast Go.Proofs.YtfbcjeknibfjcaaW.PrintMore
set_option linter.unusedVariables false
theorem give_calls (a0 : Int) (A : Option Addr) (n c : Nat) (w : World) : Calls Try.prog 25 #[.int .i64 a0, .slice A n c] w fun e w' => e = .returned (.agg #[.slice none 0 0, .string ⟨#[]⟩, .slice A n c, .int .i64 a0]) ∧ Below w.heap.size w w' := by
 have hu29 := Try.underlying29
 go_enter Try.func25, Try.ntmps25
 go_wp2
 exact bodyPost_ret (v := .agg #[.slice none 0 0, .string ⟨#[]⟩, .slice A n c, .int .i64 a0]) (by simp [results, Try.results25, go_sem]) rfl ⟨rfl, below_alloc (Below.refl _ _) _⟩

/-! ### Rows that are written out -/
/-- A block that is known whole reads as a row: each element's cells stand in it, one after the other. -/
theorem C_of_blk {α : Type} {d : Kd α} {w : World} {b t : Nat} {cs : Array Value} (hb : w.heap[b]? = some (.cells cs t)) (ps : List α) (hn : ps.length ≤ 9223372036854775807)
  (h : ∀ j p, ps[j]? = some p → ∃ c : List Value, c.length = d.sz ∧ d.K w p c ∧ ∀ i u, c[i]? = some u → cs[j * d.sz + i]? = some u) : Kd.C d w (some ⟨b, 0, none⟩) ps.length ps := by
 refine ⟨rfl, hn, fun _ => ⟨_, rfl, fun j p hp => ?_⟩⟩
 obtain ⟨c, h1, h2, h3⟩ := h j p hp
 refine ⟨c, h1, h2, fun i u hu => ?_⟩
 have := blk_cell hb (j * d.sz + i)
 rw [h3 i u hu] at this
 have e : (⟨b, 0, none⟩ : Addr).add (j * d.sz + i) = ⟨b, j * d.sz + i, none⟩ := by
  unfold Addr.add
  split
  ·rename_i h0
   rw [h0]
  ·simp
 rw [e]
 exact this
theorem ints_of_blk {w : World} {b t : Nat} {l : List Int} (hb : w.heap[b]? = some (.cells (l.map (Value.int .i64)).toArray t)) (hn : l.length ≤ 9223372036854775807) : Kd.C (Kd.int .i64) w (some ⟨b, 0, none⟩) l.length l := by
 refine C_of_blk hb l hn fun j p hp => ⟨[.int .i64 p], rfl, rfl, fun i u hu => ?_⟩
 cases i with
 | zero =>
  obtain rfl : Value.int .i64 p = u := by simpa using hu
  have : (Kd.int .i64).sz = 1 := rfl
  simp [this, hp]
 | succ i => simp at hu
def Z4 : List S97 := List.replicate 4 z97
def DS : List S29 := [⟨[], ⟨#[]⟩, [1], 2⟩, ⟨[], ⟨#[]⟩, [2], 3⟩]
abbrev Zc : Array Value := (List.replicate 4 [.string ⟨#[]⟩, .int .i64 0, .int .i64 0, .int .i64 0, .string ⟨#[]⟩, .int .i64 0, .slice none 0 0, .int .i64 0, .int .i64 0, .int .i64 0, .int .i64 0]).flatten.toArray
def IntB (w : World) (k : Nat) (x : Int) : Prop := w.heap[k]? = some (.cells #[.int .i64 x] 3)
def DsB (w : World) (k A B : Nat) : Prop := w.heap[k]? = some (.cells #[.slice none 0 0, .string ⟨#[]⟩, .slice (some ⟨A, 0, none⟩) 1 1, .int .i64 2, .slice none 0 0, .string ⟨#[]⟩, .slice (some ⟨B, 0, none⟩) 1 1, .int .i64 3] 29) ∧ IntB w A 1 ∧ IntB w B 2
def FF (N : Nat) : Nat → Value → World → Prop
 | 0, v, w => ∃ k, v = .slice (some ⟨k, 0, none⟩) 4 4 ∧ w.heap[k]? = some (.cells Zc 97)
 | 1, v, w => ∃ k, v = .slice (some ⟨k, 0, none⟩) 1 1 ∧ IntB w k 1
 | 2, v, w => ∃ k, v = .agg #[.slice none 0 0, .string ⟨#[]⟩, .slice (some ⟨k, 0, none⟩) 1 1, .int .i64 2] ∧ IntB w k 1
 | 3, v, w => ∃ k, v = .slice (some ⟨k, 0, none⟩) 1 1 ∧ IntB w k 2
 | 4, v, w => ∃ k, v = .agg #[.slice none 0 0, .string ⟨#[]⟩, .slice (some ⟨k, 0, none⟩) 1 1, .int .i64 3] ∧ IntB w k 2
 | 5, v, w => ∃ k A B, v = .slice (some ⟨k, 0, none⟩) 2 2 ∧ DsB w k A B
 | 6, v, w => ∃ z k A B, v = .agg #[.string ⟨#[]⟩, .string ⟨#[]⟩, .int .i64 0, .int .i64 0, .slice (some ⟨z, 0, none⟩) 4 4, .slice (some ⟨k, 0, none⟩) 2 2] ∧ w.heap[z]? = some (.cells Zc 97) ∧ DsB w k A B
 | 7, v, w => ∃ b, v = .pointer (some ⟨b, 0, none⟩) ∧ N ≤ b ∧ w.heap[b]? = some (.cells #[.string ⟨#[]⟩, .string ⟨#[]⟩, .int .i64 0, .int .i64 0, .slice none 0 0, .slice none 0 0] 25)
 | _, v, w => ∃ b z k A B, v = .pointer (some ⟨b, 0, none⟩) ∧ w.heap[b]? = some (.cells #[.string ⟨#[]⟩, .string ⟨#[]⟩, .int .i64 0, .int .i64 0, .slice (some ⟨z, 0, none⟩) 4 4, .slice (some ⟨k, 0, none⟩) 2 2] 25) ∧ w.heap[z]? = some (.cells Zc 97) ∧ DsB w k A B
theorem blk_below {w1 w2 : World} (hb : Below w1.heap.size w1 w2) {b : Nat} {o : Obj} (h : w1.heap[b]? = some o) : w2.heap[b]? = some o := (hb.block _ (Array.getElem?_eq_some_iff.1 h).1).trans h
theorem DsB_below {w1 w2 : World} (hb : Below w1.heap.size w1 w2) {k A B : Nat} (h : DsB w1 k A B) : DsB w2 k A B := ⟨blk_below hb h.1, blk_below hb h.2.1, blk_below hb h.2.2⟩
theorem FF_mono {N : Nat} {w1 w2 : World} (hb : Below w1.heap.size w1 w2) : ∀ {j : Nat} {v : Value}, FF N j v w1 → FF N j v w2
 | 0, _, ⟨k, e, h⟩ => ⟨k, e, blk_below hb h⟩
 | 1, _, ⟨k, e, h⟩ => ⟨k, e, blk_below hb h⟩
 | 2, _, ⟨k, e, h⟩ => ⟨k, e, blk_below hb h⟩
 | 3, _, ⟨k, e, h⟩ => ⟨k, e, blk_below hb h⟩
 | 4, _, ⟨k, e, h⟩ => ⟨k, e, blk_below hb h⟩
 | 5, _, ⟨k, A, B, e, h⟩ => ⟨k, A, B, e, DsB_below hb h⟩
 | 6, _, ⟨z, k, A, B, e, h, l⟩ => ⟨z, k, A, B, e, blk_below hb h, DsB_below hb l⟩
 | 7, _, ⟨b, e, n, h⟩ => ⟨b, e, n, blk_below hb h⟩
 | _ + 8, _, ⟨b, z, k, A, B, e, h, l, m⟩ => ⟨b, z, k, A, B, e, blk_below hb h, blk_below hb l, DsB_below hb m⟩
def Fr (s : Nat → Value) : Act := { tmps := #[.bool false, s 7, undef, undef, undef, undef, undef, undef, undef, undef, undef, undef, undef, undef, undef, undef, undef, undef, undef, undef, undef, undef, undef, undef, undef, s 0, s 1, s 2, s 3, s 4, s 5, s 6, undef, undef, undef, undef, undef, undef, undef, undef, undef, undef, undef, undef, undef, undef, undef, undef, undef, undef, undef, undef, undef, undef, undef, undef, undef, undef, undef, undef, undef, undef, undef, undef, undef, undef, undef, undef, undef, undef, undef, undef, undef, undef, undef, undef, undef, undef, undef, undef, undef, undef, undef, undef, undef, undef, undef, undef, undef, undef, undef, undef, undef, undef, undef, undef, undef, undef, undef, undef, undef, undef, undef, undef, undef, undef, undef, undef, undef, undef, undef, undef, undef, undef, undef, undef, undef, undef, undef, undef, undef, undef, undef, undef, undef, undef, undef, undef, undef, undef, undef, undef, undef, undef, undef, undef, undef, undef, undef, undef, undef, undef, undef, undef, undef, undef, undef, undef, undef, undef, undef, undef, undef, undef, undef, undef, undef, undef, undef, undef, undef, undef], defers := [] }
set_option maxRecDepth 100000 in
theorem Fr_of {t : Nat → Value} {v0 v1 v2 v3 v4 v5 v6 v7 : Value} (h0 : t 0 = v0) (h1 : t 1 = v1) (h2 : t 2 = v2) (h3 : t 3 = v3) (h4 : t 4 = v4) (h5 : t 5 = v5) (h6 : t 6 = v6) (h7 : t 7 = v7) :
  ({ tmps := #[.bool false, v7, undef, undef, undef, undef, undef, undef, undef, undef, undef, undef, undef, undef, undef, undef, undef, undef, undef, undef, undef, undef, undef, undef, undef, v0, v1, v2, v3, v4, v5, v6, undef, undef, undef, undef, undef, undef, undef, undef, undef, undef, undef, undef, undef, undef, undef, undef, undef, undef, undef, undef, undef, undef, undef, undef, undef, undef, undef, undef, undef, undef, undef, undef, undef, undef, undef, undef, undef, undef, undef, undef, undef, undef, undef, undef, undef, undef, undef, undef, undef, undef, undef, undef, undef, undef, undef, undef, undef, undef, undef, undef, undef, undef, undef, undef, undef, undef, undef, undef, undef, undef, undef, undef, undef, undef, undef, undef, undef, undef, undef, undef, undef, undef, undef, undef, undef, undef, undef, undef, undef, undef, undef, undef, undef, undef, undef, undef, undef, undef, undef, undef, undef, undef, undef, undef, undef, undef, undef, undef, undef, undef, undef, undef, undef, undef, undef, undef, undef, undef, undef, undef, undef, undef, undef, undef, undef, undef, undef, undef, undef, undef], defers := [] } : Act) = Fr t := by
 subst h0 h1 h2 h3 h4 h5 h6 h7
 rfl
theorem Z4_of {w : World} {b : Nat} (hb : w.heap[b]? = some (.cells (List.replicate 4 [.string ⟨#[]⟩, .int .i64 0, .int .i64 0, .int .i64 0, .string ⟨#[]⟩, .int .i64 0, .slice none 0 0, .int .i64 0, .int .i64 0, .int .i64 0, .int .i64 0]).flatten.toArray 97)) : Kd.C k97 w (some ⟨b, 0, none⟩) 4 Z4 := by
 refine C_of_blk hb Z4 (by decide) fun j p hp => ⟨[.string ⟨#[]⟩, .int .i64 0, .int .i64 0, .int .i64 0, .string ⟨#[]⟩, .int .i64 0, .slice none 0 0, .int .i64 0, .int .i64 0, .int .i64 0, .int .i64 0], rfl, ?_, ?_⟩
 ·obtain rfl : p = z97 := by
   have := List.mem_of_getElem? hp
   simpa [Z4] using this
  exact k97_mk w z97 (A6 := none) (c6 := 0) (Nat.le_refl _) ⟨rfl, by decide, fun h => by cases h⟩
 ·intro i u hu
  have hj : j < 4 := (List.getElem?_eq_some_iff.1 hp).1
  have hi : i < 11 := (List.getElem?_eq_some_iff.1 hu).1
  rw [← hu]
  have hz : k97.sz = 11 := rfl
  rw [hz]
  clear hu hp
  have hj' : j = 0 ∨ j = 1 ∨ j = 2 ∨ j = 3 := by omega
  have hi' : i = 0 ∨ i = 1 ∨ i = 2 ∨ i = 3 ∨ i = 4 ∨ i = 5 ∨ i = 6 ∨ i = 7 ∨ i = 8 ∨ i = 9 ∨ i = 10 := by omega
  rcases hj' with rfl | rfl | rfl | rfl <;> rcases hi' with rfl | rfl | rfl | rfl | rfl | rfl | rfl | rfl | rfl | rfl | rfl <;> rfl
theorem nil_C {α : Type} (d : Kd α) (w : World) : Kd.C d w none 0 ([] : List α) := ⟨rfl, by decide, fun h => by cases h⟩
theorem DS_of {w : World} {b : Nat} {A B : Addr} (hb : w.heap[b]? = some (.cells #[.slice none 0 0, .string ⟨#[]⟩, .slice (some A) 1 1, .int .i64 2, .slice none 0 0, .string ⟨#[]⟩, .slice (some B) 1 1, .int .i64 3] 29)) (hA : Kd.C (Kd.int .i64) w (some A) 1 [1]) (hB : Kd.C (Kd.int .i64) w (some B) 1 [2]) : Kd.C k29 w (some ⟨b, 0, none⟩) 2 DS := by
 refine C_of_blk hb DS (by decide) fun j p hp => ?_
 have hj : j < 2 := (List.getElem?_eq_some_iff.1 hp).1
 have hj' : j = 0 ∨ j = 1 := by omega
 rcases hj' with rfl | rfl
 ·obtain rfl : (⟨[], ⟨#[]⟩, [1], 2⟩ : S29) = p := by simpa [DS] using hp
  refine ⟨[.slice none 0 0, .string ⟨#[]⟩, .slice (some A) 1 1, .int .i64 2], rfl, k29_mk w ⟨[], ⟨#[]⟩, [1], 2⟩ (Nat.le_refl _) (nil_C _ _) (Nat.le_refl _) hA, fun i u hu => ?_⟩
  have hi : i < 4 := (List.getElem?_eq_some_iff.1 hu).1
  rw [← hu]
  have hi' : i = 0 ∨ i = 1 ∨ i = 2 ∨ i = 3 := by omega
  rcases hi' with rfl | rfl | rfl | rfl <;> rfl
 ·obtain rfl : (⟨[], ⟨#[]⟩, [2], 3⟩ : S29) = p := by simpa [DS] using hp
  refine ⟨[.slice none 0 0, .string ⟨#[]⟩, .slice (some B) 1 1, .int .i64 3], rfl, k29_mk w ⟨[], ⟨#[]⟩, [2], 3⟩ (Nat.le_refl _) (nil_C _ _) (Nat.le_refl _) hB, fun i u hu => ?_⟩
  have hi : i < 4 := (List.getElem?_eq_some_iff.1 hu).1
  rw [← hu]
  have hi' : i = 0 ∨ i = 1 ∨ i = 2 ∨ i = 3 := by omega
  rcases hi' with rfl | rfl | rfl | rfl <;> rfl
def Is (w0 : World) (L : Nat → Bool) (a : Act) (w : World) : Prop :=
 ∃ s : Nat → Value, a = Fr s ∧ Below w0.heap.size w0 w ∧ (∀ j, j < 8 → L 8 = false → L j = true → FF w0.heap.size j (s j) w) ∧ (L 8 = true → FF w0.heap.size 8 (s 7) w) ∧ (L 8 = true → ∀ j, j < 8 → L j = true)
theorem Is_step {w0 w w2 : World} {L : Nat → Bool} {s : Nat → Value} (hB : Below w0.heap.size w0 w) (h1 : ∀ j, j < 8 → L 8 = false → L j = true → FF w0.heap.size j (s j) w) (h8 : L 8 = false)
  (hb : Below w.heap.size w w2) (i : Nat) (v : Value) (hi : i < 8) (hv : FF w0.heap.size i v w2) {a : Act} (ha : a = Fr (fun j => if j = i then v else s j)) : Is w0 (fun j => decide (j = i) || L j) a w2 := by
 have hn : ¬ (8 : Nat) = i := by omega
 refine ⟨_, ha, hB.trans (hb.mono hB.size), fun j hj h7 hL => ?_, fun h => absurd h (by simp [hn, h8]), fun h => absurd h (by simp [hn, h8])⟩
 by_cases e : j = i
 ·subst e
  rw [if_pos rfl]
  exact hv
 ·rw [if_neg e]
  exact FF_mono hb (h1 j hj h8 (by simpa [e] using hL))
theorem Is_last {w0 w2 : World} {L : Nat → Bool} {s : Nat → Value} (hB : Below w0.heap.size w0 w2) (hall : ∀ j, j < 8 → L j = true) (hv : FF w0.heap.size 8 (s 7) w2) {a : Act} (ha : a = Fr s) : Is w0 (fun j => decide (j = 8) || L j) a w2 :=
 ⟨_, ha, hB, fun j hj h8 => absurd h8 (by simp), fun _ => hv, fun _ j hj => by simp [hall j hj]⟩
theorem six_other {w : World} {b k : Nat} {o : Obj} (h : w.heap[k]? = some o) (hk : k ≠ b) (v0 v1 v2 v3 v4 v5 : Value) :
  ((((((w.setCell ⟨b, 0, none⟩ v0).setCell ⟨b, 1, none⟩ v1).setCell ⟨b, 2, none⟩ v2).setCell ⟨b, 3, none⟩ v3).setCell ⟨b, 4, none⟩ v4).setCell ⟨b, 5, none⟩ v5).heap[k]? = some o :=
 (Below.heap_setCell _ _ _ k hk).trans ((Below.heap_setCell _ _ _ k hk).trans ((Below.heap_setCell _ _ _ k hk).trans ((Below.heap_setCell _ _ _ k hk).trans ((Below.heap_setCell _ _ _ k hk).trans ((Below.heap_setCell _ _ _ k hk).trans h)))))
theorem six_here {w : World} {b : Nat} {u0 u1 u2 u3 u4 u5 : Value} (h : w.heap[b]? = some (.cells #[u0, u1, u2, u3, u4, u5] 25)) (v0 v1 v2 v3 v4 v5 : Value) :
  ((((((w.setCell ⟨b, 0, none⟩ v0).setCell ⟨b, 1, none⟩ v1).setCell ⟨b, 2, none⟩ v2).setCell ⟨b, 3, none⟩ v3).setCell ⟨b, 4, none⟩ v4).setCell ⟨b, 5, none⟩ v5).heap[b]? = some (.cells #[v0, v1, v2, v3, v4, v5] 25) :=
 blk_put (blk_put (blk_put (blk_put (blk_put (blk_put h 0 v0 rfl) 1 v1 rfl) 2 v2 rfl) 3 v3 rfl) 4 v4 rfl) 5 v5 rfl
theorem six_below {w0 w : World} {b N : Nat} (h : Below N w0 w) (hN : N ≤ b) (v0 v1 v2 v3 v4 v5 : Value) :
  Below N w0 ((((((w.setCell ⟨b, 0, none⟩ v0).setCell ⟨b, 1, none⟩ v1).setCell ⟨b, 2, none⟩ v2).setCell ⟨b, 3, none⟩ v3).setCell ⟨b, 4, none⟩ v4).setCell ⟨b, 5, none⟩ v5) :=
 (((((h.setCell hN _).setCell hN _).setCell hN _).setCell hN _).setCell hN _).setCell hN _
theorem ne_blk {w : World} {k b : Nat} {cs ds : Array Value} {t u : Nat} (h : w.heap[k]? = some (.cells cs t)) (g : w.heap[b]? = some (.cells ds u)) (ne : t ≠ u) : k ≠ b := by
 rintro rfl
 rw [h] at g
 injection g with g
 injection g with _ g _
 exact ne g
theorem hmk3 : ∀ w : World, (Instr.makeSlice 22 (.int .i64 3) (.int .i64 3)).run Try.prog w = .ok (.slice (some ⟨w.heap.size, 0, none⟩) 3 3) (w.alloc (.cells (List.replicate 3 [.string ⟨#[]⟩, .int .i64 0, .int .i64 0, .int .i64 0, .string ⟨#[]⟩, .int .i64 0, .slice none 0 0, .int .i64 0, .int .i64 0, .int .i64 0, .int .i64 0]).flatten.toArray 97)) := fun _ => by kernel_rfl
theorem hmk4 : ∀ w : World, (Instr.makeSlice 22 (.int .i64 4) (.int .i64 4)).run Try.prog w = .ok (.slice (some ⟨w.heap.size, 0, none⟩) 4 4) (w.alloc (.cells (List.replicate 4 [.string ⟨#[]⟩, .int .i64 0, .int .i64 0, .int .i64 0, .string ⟨#[]⟩, .int .i64 0, .slice none 0 0, .int .i64 0, .int .i64 0, .int .i64 0, .int .i64 0]).flatten.toArray 97)) := fun _ => by kernel_rfl
abbrev Zd : Array Value := #[.string ⟨#[]⟩, .int .i64 0, .int .i64 0, .int .i64 0, .string ⟨#[]⟩, .int .i64 0, .slice none 0 0, .int .i64 0, .int .i64 0, .int .i64 0, .int .i64 0, .string ⟨#[]⟩, .int .i64 0, .int .i64 0, .int .i64 0, .string ⟨#[]⟩, .int .i64 0, .slice none 0 0, .int .i64 0, .int .i64 0, .int .i64 0, .int .i64 0, .string ⟨#[]⟩, .int .i64 0, .int .i64 0, .int .i64 0, .string ⟨#[]⟩, .int .i64 0, .slice none 0 0, .int .i64 0, .int .i64 0, .int .i64 0, .int .i64 0]
/-- What the walk keeps: the two schemas' boxes and what they show. -/
structure Sx (W : World) (b z k A B b2 z2 : Nat) : Prop where
 hbb : W.heap[b]? = some (.cells #[.string ⟨#[]⟩, .string ⟨#[]⟩, .int .i64 0, .int .i64 0, .slice (some ⟨z, 0, none⟩) 4 4, .slice (some ⟨k, 0, none⟩) 2 2] 25)
 hz : W.heap[z]? = some (.cells Zc 97)
 hd : DsB W k A B
 hb2 : W.heap[b2]? = some (.cells #[.string ⟨#[]⟩, .string ⟨#[]⟩, .int .i64 0, .int .i64 0, .slice (some ⟨z2, 0, none⟩) 3 3, .slice none 0 0] 25)
 hz2 : W.heap[z2]? = some (.cells Zd 97)
theorem Sx.below {W W' : World} {b z k A B b2 z2 : Nat} (h : Sx W b z k A B b2 z2) (hb : Below W.heap.size W W') : Sx W' b z k A B b2 z2 :=
 ⟨blk_below hb h.hbb, blk_below hb h.hz, DsB_below hb h.hd, blk_below hb h.hb2, blk_below hb h.hz2⟩
def Cells25 (W : World) (b : Nat) (v4 v5 : Value) : Prop := W.cell? ⟨b, 0, none⟩ = some (.string ⟨#[]⟩) ∧ W.cell? ⟨b, 1, none⟩ = some (.string ⟨#[]⟩) ∧ W.cell? ⟨b, 2, none⟩ = some (.int .i64 0) ∧ W.cell? ⟨b, 3, none⟩ = some (.int .i64 0) ∧ W.cell? ⟨b, 4, none⟩ = some v4 ∧ W.cell? ⟨b, 5, none⟩ = some v5
theorem cells25 {W : World} {b : Nat} {v4 v5 : Value} (h : W.heap[b]? = some (.cells #[.string ⟨#[]⟩, .string ⟨#[]⟩, .int .i64 0, .int .i64 0, v4, v5] 25)) : Cells25 W b v4 v5 :=
 ⟨(blk_cell h 0).trans rfl, (blk_cell h 1).trans rfl, (blk_cell h 2).trans rfl, (blk_cell h 3).trans rfl, (blk_cell h 4).trans rfl, (blk_cell h 5).trans rfl⟩
theorem Z3_of {w : World} {b : Nat} (hb : w.heap[b]? = some (.cells Zd 97)) : Kd.C k97 w (some ⟨b, 0, none⟩) 3 (List.replicate 3 z97) := by
 refine C_of_blk hb (List.replicate 3 z97) (by decide) fun j p hp => ⟨[.string ⟨#[]⟩, .int .i64 0, .int .i64 0, .int .i64 0, .string ⟨#[]⟩, .int .i64 0, .slice none 0 0, .int .i64 0, .int .i64 0, .int .i64 0, .int .i64 0], rfl, ?_, ?_⟩
 ·obtain rfl : p = z97 := by
   have := List.mem_of_getElem? hp
   simpa using this
  exact k97_mk w z97 (A6 := none) (c6 := 0) (Nat.le_refl _) ⟨rfl, by decide, fun h => by cases h⟩
 ·intro i u hu
  have hj : j < 3 := (List.getElem?_eq_some_iff.1 hp).1
  have hi : i < 11 := (List.getElem?_eq_some_iff.1 hu).1
  rw [← hu]
  have hz : k97.sz = 11 := rfl
  rw [hz]
  clear hu hp
  have hj' : j = 0 ∨ j = 1 ∨ j = 2 := by omega
  have hi' : i = 0 ∨ i = 1 ∨ i = 2 ∨ i = 3 ∨ i = 4 ∨ i = 5 ∨ i = 6 ∨ i = 7 ∨ i = 8 ∨ i = 9 ∨ i = 10 := by omega
  rcases hj' with rfl | rfl | rfl <;> rcases hi' with rfl | rfl | rfl | rfl | rfl | rfl | rfl | rfl | rfl | rfl | rfl <;> rfl
theorem DsB.C {W : World} {k A B : Nat} (h : DsB W k A B) : Kd.C k29 W (some ⟨k, 0, none⟩) 2 DS := DS_of h.1 (ints_of_blk (l := [1]) h.2.1 (by decide)) (ints_of_blk (l := [2]) h.2.2 (by decide))
def Z3 : List S97 := List.replicate 3 z97
def E0 : ByteArray := ⟨#[]⟩
theorem cl1 : depends_Closure.f 60 E0 E0 0 0 Z4 DS [1] = some ([1, 2, 3], 0) := by decide +kernel
theorem cl2 : depends_Closure.f 60 E0 E0 0 0 Z3 [] [2, 0] = some ([0, 2], 0) := by decide +kernel
theorem im1 : depends_Implied.f 60 E0 E0 0 0 Z4 DS [] E0 [1] 3 = some (true, 0) := by decide +kernel
theorem im2 : depends_Implied.f 60 E0 E0 0 0 Z4 DS [] E0 [3] 1 = some (false, 0) := by decide +kernel
theorem im3 : depends_Implied.f 60 E0 E0 0 0 Z4 DS [] E0 [] 0 = some (false, 130) := by decide +kernel
def OneI : S49 := ⟨0, 0, 0, [9, 5, 6, 7]⟩
def TwoI : S49 := ⟨0, 0, 0, [8, 4, 6, 1]⟩
theorem br1 : depends_Broken.f E0 E0 0 0 Z4 DS [OneI, OneI, TwoI] = some (0, 2, 1, true, 0) := by decide +kernel
theorem br2 : depends_Broken.f E0 E0 0 0 Z4 DS [] = some (0, 0, 0, false, 0) := by decide +kernel
theorem sm1 : testamurref13_SameInts.f 60 [1, 2, 3] [1, 2, 3] = some true := by decide +kernel
theorem sm2 : testamurref13_SameInts.f 60 [0, 2] [0, 2] = some true := by decide +kernel
theorem ck1 : depends_Check.f E0 E0 0 0 [] [] = some 130 := by decide +kernel
theorem ck2 : depends_Check.f E0 E0 0 0 Z4 DS = some 0 := by decide +kernel
theorem Ins_of {w : World} {g a c : Nat} (hg : w.heap[g]? = some (.cells #[.int .i64 0, .int .i64 0, .int .i64 0, .slice (some ⟨a, 0, none⟩) 4 4, .int .i64 0, .int .i64 0, .int .i64 0, .slice (some ⟨a, 0, none⟩) 4 4, .int .i64 0, .int .i64 0, .int .i64 0, .slice (some ⟨c, 0, none⟩) 4 4] 49))
  (ha : Kd.C (Kd.int .i64) w (some ⟨a, 0, none⟩) 4 [9, 5, 6, 7]) (hc : Kd.C (Kd.int .i64) w (some ⟨c, 0, none⟩) 4 [8, 4, 6, 1]) : Kd.C k49 w (some ⟨g, 0, none⟩) 3 [OneI, OneI, TwoI] := by
 refine C_of_blk hg [OneI, OneI, TwoI] (by decide) fun j p hp => ?_
 have hj : j < 3 := (List.getElem?_eq_some_iff.1 hp).1
 have hj' : j = 0 ∨ j = 1 ∨ j = 2 := by omega
 rcases hj' with rfl | rfl | rfl
 ·obtain rfl : OneI = p := by simpa using hp
  refine ⟨[.int .i64 0, .int .i64 0, .int .i64 0, .slice (some ⟨a, 0, none⟩) 4 4], rfl, k49_mk w OneI (Nat.le_refl _) ha, fun i u hu => ?_⟩
  have hi : i < 4 := (List.getElem?_eq_some_iff.1 hu).1
  rw [← hu]
  have hi' : i = 0 ∨ i = 1 ∨ i = 2 ∨ i = 3 := by omega
  rcases hi' with rfl | rfl | rfl | rfl <;> rfl
 ·obtain rfl : OneI = p := by simpa using hp
  refine ⟨[.int .i64 0, .int .i64 0, .int .i64 0, .slice (some ⟨a, 0, none⟩) 4 4], rfl, k49_mk w OneI (Nat.le_refl _) ha, fun i u hu => ?_⟩
  have hi : i < 4 := (List.getElem?_eq_some_iff.1 hu).1
  rw [← hu]
  have hi' : i = 0 ∨ i = 1 ∨ i = 2 ∨ i = 3 := by omega
  rcases hi' with rfl | rfl | rfl | rfl <;> rfl
 ·obtain rfl : TwoI = p := by simpa using hp
  refine ⟨[.int .i64 0, .int .i64 0, .int .i64 0, .slice (some ⟨c, 0, none⟩) 4 4], rfl, k49_mk w TwoI (Nat.le_refl _) hc, fun i u hu => ?_⟩
  have hi : i < 4 := (List.getElem?_eq_some_iff.1 hu).1
  rw [← hu]
  have hi' : i = 0 ∨ i = 1 ∨ i = 2 ∨ i = 3 := by omega
  rcases hi' with rfl | rfl | rfl | rfl <;> rfl
theorem cells49 {W : World} {b : Nat} {v3 : Value} (h : W.heap[b]? = some (.cells #[.int .i64 0, .int .i64 0, .int .i64 0, v3] 49)) :
  W.cell? ⟨b, 0, none⟩ = some (.int .i64 0) ∧ W.cell? ⟨b, 1, none⟩ = some (.int .i64 0) ∧ W.cell? ⟨b, 2, none⟩ = some (.int .i64 0) ∧ W.cell? ⟨b, 3, none⟩ = some v3 :=
 ⟨(blk_cell h 0).trans rfl, (blk_cell h 1).trans rfl, (blk_cell h 2).trans rfl, (blk_cell h 3).trans rfl⟩
set_option maxRecDepth 100000 in
set_option maxHeartbeats 4000000 in
theorem sane_walk (w : World) : Calls Try.prog 10 #[] w fun e w' => e = .returned (.bool true) ∧ Below w.heap.size w w' := by
 have hu25 := Try.underlying25
 have hu29 := Try.underlying29
 have hu49 := Try.underlying49
 go_enter Try.func10, Try.ntmps10
 try simp only [List.append]
 go_wp2
 refine wp_region_any (by kernel_rfl) ?_
 refine wpAny_grow (by kernel_rfl) (Is w) ?done ?step 9 (Array.replicate 9 false) _ _ (by kernel_rfl) (by kernel_rfl) ?start
 case start => exact ⟨fun _ => undef, rfl, below_drew1 (Below.refl _ _), fun j hj _ h => (by
   have hr : ∀ j, j < 9 → (Array.replicate 9 false).getD j true = false := by decide
   have h' : (Array.replicate 9 false).getD j true = true := h
   rw [hr j (by omega)] at h'
   cases h'), fun h => (by cases h), fun h => (by cases h)⟩
 case step =>
  rintro i L a w1 hi hL hdeps ⟨s, rfl, hB, h1, h2, h3⟩
  have hi : i < 9 := hi
  have hi : i = 0 ∨ i = 1 ∨ i = 2 ∨ i = 3 ∨ i = 4 ∨ i = 5 ∨ i = 6 ∨ i = 7 ∨ i = 8 := by omega
  rcases hi with rfl | rfl | rfl | rfl | rfl | rfl | rfl | rfl | rfl
  ·have h8 : L 8 = false := by
    cases h8 : L 8 with
    | false => rfl
    | true => exact absurd (h3 h8 0 (by decide)) (by rw [hL]; simp)
   clear hdeps
   have hmk := hmk4
   refine wpOp_step (o := ⟨some 25, _, _, _, _, _⟩) rfl (fun K hK => ?_)
   dsimp only [Fr]
   go_simp
   refine hK _ _ (Is_step hB h1 h8 (below_alloc (Below.refl _ _) _) 0 _ (by decide) ⟨_, rfl, World.alloc_heap_new _ _⟩ rfl)
  ·have h8 : L 8 = false := by
    cases h8 : L 8 with
    | false => rfl
    | true => exact absurd (h3 h8 1 (by decide)) (by rw [hL]; simp)
   clear hdeps
   refine wpOp_step (o := ⟨some 26, _, _, _, _, _⟩) rfl (fun K hK => ?_)
   dsimp only [Fr]
   go_simp
   refine hK _ _ (Is_step hB h1 h8 (below_alloc (Below.refl _ _) _) 1 _ (by decide) ⟨_, rfl, World.alloc_heap_new _ _⟩ rfl)
  ·have h8 : L 8 = false := by
    cases h8 : L 8 with
    | false => rfl
    | true => exact absurd (h3 h8 2 (by decide)) (by rw [hL]; simp)
   have d1 := hdeps 1 (by kernel_rfl)
   clear hdeps
   obtain ⟨A, e1, hA⟩ := h1 1 (by decide) h8 d1
   refine wpOp_step (o := ⟨some 27, _, _, _, _, _⟩) rfl (fun K hK => ?_)
   dsimp only [Fr]
   go_simp
   refine (give_calls _ _ _ _ _).mono ?_
   rintro e w2 ⟨rfl, hb⟩
   exact hK _ _ (Is_step hB h1 h8 hb 2 _ (by decide) ⟨_, rfl, blk_below hb hA⟩ (Fr_of (by first | rfl | simpa using e1 | simpa using e2) (by first | rfl | simpa using e1 | simpa using e2) (by first | rfl | simpa using e1 | simpa using e2) (by first | rfl | simpa using e1 | simpa using e2) (by first | rfl | simpa using e1 | simpa using e2) (by first | rfl | simpa using e1 | simpa using e2) (by first | rfl | simpa using e1 | simpa using e2) (by first | rfl | simpa using e1 | simpa using e2)))
  ·have h8 : L 8 = false := by
    cases h8 : L 8 with
    | false => rfl
    | true => exact absurd (h3 h8 3 (by decide)) (by rw [hL]; simp)
   clear hdeps
   refine wpOp_step (o := ⟨some 28, _, _, _, _, _⟩) rfl (fun K hK => ?_)
   dsimp only [Fr]
   go_simp
   refine hK _ _ (Is_step hB h1 h8 (below_alloc (Below.refl _ _) _) 3 _ (by decide) ⟨_, rfl, World.alloc_heap_new _ _⟩ rfl)
  ·have h8 : L 8 = false := by
    cases h8 : L 8 with
    | false => rfl
    | true => exact absurd (h3 h8 4 (by decide)) (by rw [hL]; simp)
   have d3 := hdeps 3 (by kernel_rfl)
   clear hdeps
   obtain ⟨A, e1, hA⟩ := h1 3 (by decide) h8 d3
   refine wpOp_step (o := ⟨some 29, _, _, _, _, _⟩) rfl (fun K hK => ?_)
   dsimp only [Fr]
   go_simp
   refine (give_calls _ _ _ _ _).mono ?_
   rintro e w2 ⟨rfl, hb⟩
   exact hK _ _ (Is_step hB h1 h8 hb 4 _ (by decide) ⟨_, rfl, blk_below hb hA⟩ (Fr_of (by first | rfl | simpa using e1 | simpa using e2) (by first | rfl | simpa using e1 | simpa using e2) (by first | rfl | simpa using e1 | simpa using e2) (by first | rfl | simpa using e1 | simpa using e2) (by first | rfl | simpa using e1 | simpa using e2) (by first | rfl | simpa using e1 | simpa using e2) (by first | rfl | simpa using e1 | simpa using e2) (by first | rfl | simpa using e1 | simpa using e2)))
  ·have h8 : L 8 = false := by
    cases h8 : L 8 with
    | false => rfl
    | true => exact absurd (h3 h8 5 (by decide)) (by rw [hL]; simp)
   have d2 := hdeps 2 (by kernel_rfl)
   have d4 := hdeps 4 (by kernel_rfl)
   clear hdeps
   obtain ⟨A, e1, hA⟩ := h1 2 (by decide) h8 d2
   obtain ⟨B, e2, hB2⟩ := h1 4 (by decide) h8 d4
   refine wpOp_step (o := ⟨some 30, _, _, _, _, _⟩) rfl (fun K hK => ?_)
   dsimp only [Fr]
   go_simp
   exact hK _ _ (Is_step hB h1 h8 (below_alloc (Below.refl _ _) _) 5 _ (by decide) ⟨_, _, _, rfl, World.alloc_heap_new _ _, blk_alloc hA _, blk_alloc hB2 _⟩ (Fr_of (by first | rfl | simpa using e1 | simpa using e2) (by first | rfl | simpa using e1 | simpa using e2) (by first | rfl | simpa using e1 | simpa using e2) (by first | rfl | simpa using e1 | simpa using e2) (by first | rfl | simpa using e1 | simpa using e2) (by first | rfl | simpa using e1 | simpa using e2) (by first | rfl | simpa using e1 | simpa using e2) (by first | rfl | simpa using e1 | simpa using e2)))
  ·have h8 : L 8 = false := by
    cases h8 : L 8 with
    | false => rfl
    | true => exact absurd (h3 h8 6 (by decide)) (by rw [hL]; simp)
   have d0 := hdeps 0 (by kernel_rfl)
   have d5 := hdeps 5 (by kernel_rfl)
   clear hdeps
   obtain ⟨A, e1, hA⟩ := h1 0 (by decide) h8 d0
   obtain ⟨k, A2, B2, e2, hB2⟩ := h1 5 (by decide) h8 d5
   refine wpOp_step (o := ⟨some 31, _, _, _, _, _⟩) rfl (fun K hK => ?_)
   dsimp only [Fr]
   go_simp
   exact hK _ _ (Is_step hB h1 h8 (Below.refl _ _) 6 _ (by decide) ⟨_, _, _, _, rfl, hA, hB2⟩ (Fr_of (by first | rfl | simpa using e1 | simpa using e2) (by first | rfl | simpa using e1 | simpa using e2) (by first | rfl | simpa using e1 | simpa using e2) (by first | rfl | simpa using e1 | simpa using e2) (by first | rfl | simpa using e1 | simpa using e2) (by first | rfl | simpa using e1 | simpa using e2) (by first | rfl | simpa using e1 | simpa using e2) (by first | rfl | simpa using e1 | simpa using e2)))
  ·have h8 : L 8 = false := by
    cases h8 : L 8 with
    | false => rfl
    | true => exact absurd (h3 h8 7 (by decide)) (by rw [hL]; simp)
   clear hdeps
   refine wpOp_step (o := ⟨some 1, _, _, _, _, _⟩) rfl (fun K hK => ?_)
   dsimp only [Fr]
   go_simp
   exact hK _ _ (Is_step hB h1 h8 (below_alloc (Below.refl _ _) _) 7 _ (by decide) ⟨_, rfl, hB.size, World.alloc_heap_new _ _⟩ rfl)
  ·have h8 : L 8 = false := hL
   have d7 := hdeps 7 (by kernel_rfl)
   have d6 := hdeps 6 (by kernel_rfl)
   skip
   obtain ⟨z, k, A, B, e1, hA, hB2⟩ := h1 6 (by decide) h8 d6
   obtain ⟨b, e2, nb, hb⟩ := h1 7 (by decide) h8 d7
   have c0 := blk_cell hb 0
   have c1 := blk_cell hb 1
   have c2 := blk_cell hb 2
   have c3 := blk_cell hb 3
   have c4 := blk_cell hb 4
   have c5 := blk_cell hb 5
   have f0 := blk_frozen hb 0
   have f1 := blk_frozen hb 1
   have f2 := blk_frozen hb 2
   have f3 := blk_frozen hb 3
   have f4 := blk_frozen hb 4
   have f5 := blk_frozen hb 5
   simp only [List.getElem?_toArray, List.getElem?_cons_zero, List.getElem?_cons_succ] at c0 c1 c2 c3 c4 c5
   refine wpOp_step (o := ⟨none, _, _, _, _, _⟩) rfl (fun K hK => ?_)
   dsimp only [Fr]
   go_simp
   refine hK _ _ (Is_last (s := fun j => if j = 7 then .pointer (some ⟨b, 0, none⟩) else s j) (six_below hB nb _ _ _ _ _ _) (fun j hj => ?_) ⟨b, z, k, A, B, rfl, six_here hb _ _ _ _ _ _, six_other hA (ne_blk hA hb (by decide)) _ _ _ _ _ _, six_other hB2.1 (ne_blk hB2.1 hb (by decide)) _ _ _ _ _ _, six_other hB2.2.1 (ne_blk hB2.2.1 hb (by decide)) _ _ _ _ _ _, six_other hB2.2.2 (ne_blk hB2.2.2 hb (by decide)) _ _ _ _ _ _⟩ (Fr_of (by first | rfl | simpa using e1 | simpa using e2) (by first | rfl | simpa using e1 | simpa using e2) (by first | rfl | simpa using e1 | simpa using e2) (by first | rfl | simpa using e1 | simpa using e2) (by first | rfl | simpa using e1 | simpa using e2) (by first | rfl | simpa using e1 | simpa using e2) (by first | rfl | simpa using e1 | simpa using e2) (by first | rfl | simpa using e1 | simpa using e2)))
   have hj' : j = 0 ∨ j = 1 ∨ j = 2 ∨ j = 3 ∨ j = 4 ∨ j = 5 ∨ j = 6 ∨ j = 7 := by omega
   rcases hj' with rfl | rfl | rfl | rfl | rfl | rfl | rfl | rfl
   all_goals exact hdeps _ (by kernel_rfl)
 case done =>
  rintro L a w1 hall ⟨s, rfl, hB, h1, h2, h3⟩
  obtain ⟨b, z, k, A, B, e7, hbb, hz, hd⟩ := h2 (hall 8 (by decide))
  clear h1 h2 h3 hall
  dsimp only [Fr]
  have hmk := hmk3
  go_upto_region 3 with fail
  clear hmk
  have hba : Below w1.heap.size w1 (w1.alloc (.cells Zd 97)) := below_alloc (Below.refl _ _) _
  have hb2 : Below (w1.alloc (.cells Zd 97)).heap.size (w1.alloc (.cells Zd 97)) ((w1.alloc (.cells Zd 97)).alloc (.cells #[.string ⟨#[]⟩, .string ⟨#[]⟩, .int .i64 0, .int .i64 0, .slice (some ⟨w1.heap.size, 0, none⟩) 3 3, .slice none 0 0] 25)) := below_alloc (Below.refl _ _) _
  have HSb : Sx ((w1.alloc (.cells Zd 97)).alloc (.cells #[.string ⟨#[]⟩, .string ⟨#[]⟩, .int .i64 0, .int .i64 0, .slice (some ⟨w1.heap.size, 0, none⟩) 3 3, .slice none 0 0] 25)) b z k A B (w1.heap.size + 1) w1.heap.size := ⟨blk_below hb2 (blk_below hba hbb), blk_below hb2 (blk_below hba hz), DsB_below hb2 (DsB_below hba hd), by have := World.alloc_heap_new (w1.alloc (.cells Zd 97)) (.cells #[.string ⟨#[]⟩, .string ⟨#[]⟩, .int .i64 0, .int .i64 0, .slice (some ⟨w1.heap.size, 0, none⟩) 3 3, .slice none 0 0] 25); rwa [World.size_alloc] at this, blk_below hb2 (World.alloc_heap_new _ _)⟩
  have HB := hB.trans ((hba.trans (hb2.mono hba.size)).mono hB.size)
  generalize ((w1.alloc (.cells Zd 97)).alloc (.cells #[.string ⟨#[]⟩, .string ⟨#[]⟩, .int .i64 0, .int .i64 0, .slice (some ⟨w1.heap.size, 0, none⟩) 3 3, .slice none 0 0] 25)) = W2 at HSb HB ⊢
  generalize w1.heap.size + 1 = b2 at HSb ⊢
  clear hba hb2 hB hbb hz hd
  generalize w1.heap.size = z2 at HSb ⊢
  obtain ⟨c0, c1, c2, c3, c4, c5⟩ := cells25 HSb.hbb
  have HS := Aside0.mk HSb
  have HB := Aside0.mk HB
  clear HSb
  go_wp2_with (go_at_call 12; (refine (depends_Closure.calls 60 E0 E0 0 0 (some ⟨z, 0, none⟩) 4 Z4 (some ⟨k, 0, none⟩) 2 DS (some _) 1 [1] [1, 2, 3] 0 _ (Kd.C_alloc (Z4_of HS.out.hz) _) (Nat.le_refl _) (Kd.C_alloc HS.out.hd.C _) (Nat.le_refl _) (ints_of_blk (l := [1]) (World.alloc_heap_new _ _) (by decide)) (Nat.le_refl _) cl1).mono ?_); rintro e w3 ⟨v3, rfl, hR3, hb3⟩; refine Aside0.out (p := _) ?_)
  refine ⟨?_⟩
  obtain ⟨A3, q3, rfl, hl3, hC3⟩ := Kd.R_reads hR3
  have hb := (below_alloc (Below.refl W2.heap.size W2) _).trans (hb3.mono (by simp))
  have hs3 := HS.out.below hb
  have HB3 := Aside0.mk (HB.out.trans (hb.mono HB.out.size))
  obtain ⟨c0, c1, c2, c3, c4, c5⟩ := cells25 hs3.hbb
  obtain ⟨d0, d1, d2, d3, d4, d5⟩ := cells25 hs3.hb2
  have HS3 := Aside0.mk hs3
  have HC3 := Aside0.mk hC3
  have HL3 := Aside0.mk hl3
  clear hb hs3 hC3 hl3 hR3 hb3 HS HB
  go_wp2_with (go_at_call 12; (refine (depends_Closure.calls 60 E0 E0 0 0 (some ⟨z2, 0, none⟩) 3 Z3 none 0 [] (some _) 2 [2, 0] [0, 2] 0 _ (Kd.C_alloc (Z3_of HS3.out.hz2) _) (Nat.le_refl _) (nil_C _ _) (Nat.le_refl _) (ints_of_blk (l := [2, 0]) (World.alloc_heap_new _ _) (by decide)) (Nat.le_refl _) cl2).mono ?_); rintro e w4 ⟨v4, rfl, hR4, hb4⟩; refine Aside0.out (p := _) ?_)
  refine ⟨?_⟩
  obtain ⟨A4, q4, rfl, hl4, hC4⟩ := Kd.R_reads hR4
  have hb := (below_alloc (Below.refl w3.heap.size w3) _).trans (hb4.mono (by simp))
  have hs4 := HS3.out.below hb
  have HB4 := Aside0.mk (HB3.out.trans (hb.mono HB3.out.size))
  have HC3 := Aside0.mk (Kd.C_below HC3.out hb)
  clear c0 c1 c2 c3 c4 c5 d0 d1 d2 d3 d4 d5
  obtain ⟨c0, c1, c2, c3, c4, c5⟩ := cells25 hs4.hbb
  have HS4 := Aside0.mk hs4
  have HC4 := Aside0.mk hC4
  have HL4 := Aside0.mk hl4
  clear hb hs4 hC4 hl4 hR4 hb4 HS3 HB3
  go_wp2
  refine wp_region_any (by kernel_rfl) ?_
  refine wpAny_of_held (S := fun w' => Below w4.heap.size w4 w') 9 (Array.replicate 9 false) _ _ ?_
  refine wpAnyH_take (i := 0) (oi := ⟨some 47, _, _, _, _, _⟩) (v := ?_) rfl (by kernel_rfl) (by kernel_rfl) (by kernel_rfl) (fun _ _ _ h => h) (Or.inl ⟨by rfl, ?_⟩) (below_drew1 (Below.refl _ _)) ?_
  rotate_left
  ·intro w' hw'
   obtain ⟨c0, c1, c2, c3, c4, c5⟩ := cells25 (HS4.out.below hw').hbb
   go_simp
   try with_reducible rfl
  simp only [Act.put, List.setIfInBounds_toArray, List.set_cons_zero, List.set_cons_succ]
  refine wpAnyH_ready (rs := [1]) (by kernel_rfl) (by simp) (AllReadyH.cons (o := ⟨some 48, _, _, _, _, _⟩) rfl (fun K hK => ?_) AllReadyH.nil)
  go_simp
  refine hK.out _ _ (below_drew1 (below_alloc (Below.refl _ _) _)) (fun _ => ?_)
  clear hK K
  refine wpAnyH_ready (rs := [2]) (by kernel_rfl) (by simp) (AllReadyH.cons (o := ⟨some 49, _, _, _, _, _⟩) rfl (fun K hK => ?_) AllReadyH.nil)
  go_simp
  refine (give_calls _ _ _ _ _).mono ?_
  rintro e g5 ⟨rfl, hbg⟩
  have hbk : Below w4.heap.size w4 g5 := (below_drew1 (below_alloc (Below.refl _ _) _)).trans (hbg.mono (by simp))
  have hci : Kd.C (Kd.int .i64) g5 (some ⟨w4.heap.size, 0, none⟩) 1 [1] := Kd.C_below (ints_of_blk (l := [1]) (blk_drew (World.alloc_heap_new w4 _)) (by decide)) hbg
  refine hK.out _ _ hbk (fun _ => ?_)
  clear hK K
  refine wpAnyH_ready (rs := [3]) (by kernel_rfl) (by simp) (AllReadyH.cons (o := ⟨some 50, _, _, _, _, _⟩) rfl (fun K hK => ?_) AllReadyH.nil)
  go_simp
  refine (depends_Implied.calls 60 E0 E0 0 0 (some ⟨z, 0, none⟩) 4 Z4 (some ⟨k, 0, none⟩) 2 DS none 0 [] E0 (some _) 1 [1] 3 true 0 _ (Z4_of (HS4.out.below hbk).hz) (Nat.le_refl _) (HS4.out.below hbk).hd.C (Nat.le_refl _) (nil_C _ _) (Nat.le_refl _) hci (Nat.le_refl _) im1).mono ?_
  rintro e i5 ⟨rfl, hbi⟩
  have hbl : Below w4.heap.size w4 i5 := hbk.trans (hbi.mono hbk.size)
  refine hK.out _ _ hbl (fun _ => ?_)
  clear hK K
  refine wpAnyH_take (i := 4) (oi := ⟨some 46, _, _, _, _, _⟩) (v := ?_) rfl (by kernel_rfl) (by kernel_rfl) (by kernel_rfl) (fun _ _ _ h => h) (Or.inl ⟨by rfl, ?_⟩) hbl ?_
  rotate_left
  ·intro w' hw'
   go_simp
   try with_reducible rfl
  simp only [Act.put, List.setIfInBounds_toArray, List.set_cons_zero, List.set_cons_succ]
  refine wpAnyH_take (i := 5) (oi := ⟨some 51, _, _, _, _, _⟩) (v := ?_) rfl (by kernel_rfl) (by kernel_rfl) (by kernel_rfl) (fun _ _ _ h => h) (Or.inl ⟨by rfl, ?_⟩) hbl ?_
  rotate_left
  ·intro w' hw'
   go_simp
   try with_reducible rfl
  simp only [Act.put, List.setIfInBounds_toArray, List.set_cons_zero, List.set_cons_succ]
  refine wpAnyH_take (i := 6) (oi := ⟨some 52, _, _, _, _, _⟩) (v := ?_) rfl (by kernel_rfl) (by kernel_rfl) (by kernel_rfl) (fun _ _ _ h => h) (Or.inl ⟨by rfl, ?_⟩) hbl ?_
  rotate_left
  ·intro w' hw'
   go_simp
   try with_reducible rfl
  simp only [Act.put, List.setIfInBounds_toArray, List.set_cons_zero, List.set_cons_succ]
  refine wpAnyH_ready (rs := [7]) (by kernel_rfl) (by simp) (AllReadyH.cons (o := ⟨some 7, _, _, _, _, _⟩) rfl (fun K hK => ?_) AllReadyH.nil)
  go_simp
  refine hK.out _ _ hbl (fun _ => ?_)
  clear hK K
  refine wpAnyH_ready (rs := [8]) (by kernel_rfl) (by simp) (AllReadyH.cons (o := ⟨some 8, _, _, _, _, _⟩) rfl (fun K hK => ?_) AllReadyH.nil)
  go_simp
  refine hK.out _ _ hbl (fun _ => ?_)
  clear hK K
  refine wpAnyH_done (by kernel_rfl) ?_ _
  have hs := HS4.out.below hbl
  have HS5 := Aside0.mk hs
  have HB5 := Aside0.mk (HB4.out.trans (hbl.mono HB4.out.size))
  have HC3 := Aside0.mk (Kd.C_below HC3.out hbl)
  have HC4 := Aside0.mk (Kd.C_below HC4.out hbl)
  clear hs hbk hbg hbi hbl hci HS4 HB4 c0 c1 c2 c3 c4 c5
  obtain ⟨c0, c1, c2, c3, c4, c5⟩ := cells25 HS5.out.hbb
  go_wp2
  refine wp_region_any (by kernel_rfl) ?_
  refine wpAny_of_held (S := fun w' => Below i5.heap.size i5 w') 9 (Array.replicate 9 false) _ _ ?_
  refine wpAnyH_take (i := 0) (oi := ⟨some 54, _, _, _, _, _⟩) (v := ?_) rfl (by kernel_rfl) (by kernel_rfl) (by kernel_rfl) (fun _ _ _ h => h) (Or.inl ⟨by rfl, ?_⟩) (below_drew1 (Below.refl _ _)) ?_
  rotate_left
  ·intro w' hw'
   obtain ⟨c0, c1, c2, c3, c4, c5⟩ := cells25 (HS5.out.below hw').hbb
   go_simp
   try with_reducible rfl
  simp only [Act.put, List.setIfInBounds_toArray, List.set_cons_zero, List.set_cons_succ]
  refine wpAnyH_ready (rs := [1]) (by kernel_rfl) (by simp) (AllReadyH.cons (o := ⟨some 55, _, _, _, _, _⟩) rfl (fun K hK => ?_) AllReadyH.nil)
  go_simp
  refine hK.out _ _ (below_drew1 (below_alloc (Below.refl _ _) _)) (fun _ => ?_)
  clear hK K
  refine wpAnyH_ready (rs := [2]) (by kernel_rfl) (by simp) (AllReadyH.cons (o := ⟨some 56, _, _, _, _, _⟩) rfl (fun K hK => ?_) AllReadyH.nil)
  go_simp
  refine (give_calls _ _ _ _ _).mono ?_
  rintro e g6 ⟨rfl, hbg⟩
  have hbk : Below i5.heap.size i5 g6 := (below_drew1 (below_alloc (Below.refl _ _) _)).trans (hbg.mono (by simp))
  have hci : Kd.C (Kd.int .i64) g6 (some ⟨i5.heap.size, 0, none⟩) 1 [3] := Kd.C_below (ints_of_blk (l := [3]) (blk_drew (World.alloc_heap_new i5 _)) (by decide)) hbg
  refine hK.out _ _ hbk (fun _ => ?_)
  clear hK K
  refine wpAnyH_ready (rs := [3]) (by kernel_rfl) (by simp) (AllReadyH.cons (o := ⟨some 57, _, _, _, _, _⟩) rfl (fun K hK => ?_) AllReadyH.nil)
  go_simp
  refine (depends_Implied.calls 60 E0 E0 0 0 (some ⟨z, 0, none⟩) 4 Z4 (some ⟨k, 0, none⟩) 2 DS none 0 [] E0 (some _) 1 [3] 1 false 0 _ (Z4_of (HS5.out.below hbk).hz) (Nat.le_refl _) (HS5.out.below hbk).hd.C (Nat.le_refl _) (nil_C _ _) (Nat.le_refl _) hci (Nat.le_refl _) im2).mono ?_
  rintro e i6 ⟨rfl, hbi⟩
  have hbl : Below i5.heap.size i5 i6 := hbk.trans (hbi.mono hbk.size)
  refine hK.out _ _ hbl (fun _ => ?_)
  clear hK K
  refine wpAnyH_take (i := 4) (oi := ⟨some 53, _, _, _, _, _⟩) (v := ?_) rfl (by kernel_rfl) (by kernel_rfl) (by kernel_rfl) (fun _ _ _ h => h) (Or.inl ⟨by rfl, ?_⟩) hbl ?_
  rotate_left
  ·intro w' hw'
   go_simp
   try with_reducible rfl
  simp only [Act.put, List.setIfInBounds_toArray, List.set_cons_zero, List.set_cons_succ]
  refine wpAnyH_take (i := 5) (oi := ⟨some 58, _, _, _, _, _⟩) (v := ?_) rfl (by kernel_rfl) (by kernel_rfl) (by kernel_rfl) (fun _ _ _ h => h) (Or.inl ⟨by rfl, ?_⟩) hbl ?_
  rotate_left
  ·intro w' hw'
   go_simp
   try with_reducible rfl
  simp only [Act.put, List.setIfInBounds_toArray, List.set_cons_zero, List.set_cons_succ]
  refine wpAnyH_take (i := 6) (oi := ⟨some 59, _, _, _, _, _⟩) (v := ?_) rfl (by kernel_rfl) (by kernel_rfl) (by kernel_rfl) (fun _ _ _ h => h) (Or.inl ⟨by rfl, ?_⟩) hbl ?_
  rotate_left
  ·intro w' hw'
   go_simp
   try with_reducible rfl
  simp only [Act.put, List.setIfInBounds_toArray, List.set_cons_zero, List.set_cons_succ]
  refine wpAnyH_ready (rs := [7]) (by kernel_rfl) (by simp) (AllReadyH.cons (o := ⟨some 9, _, _, _, _, _⟩) rfl (fun K hK => ?_) AllReadyH.nil)
  go_simp
  refine hK.out _ _ hbl (fun _ => ?_)
  clear hK K
  refine wpAnyH_ready (rs := [8]) (by kernel_rfl) (by simp) (AllReadyH.cons (o := ⟨some 10, _, _, _, _, _⟩) rfl (fun K hK => ?_) AllReadyH.nil)
  go_simp
  refine hK.out _ _ hbl (fun _ => ?_)
  clear hK K
  refine wpAnyH_done (by kernel_rfl) ?_ _
  have hs := HS5.out.below hbl
  have HS6 := Aside0.mk hs
  have HB6 := Aside0.mk (HB5.out.trans (hbl.mono HB5.out.size))
  have HC3 := Aside0.mk (Kd.C_below HC3.out hbl)
  have HC4 := Aside0.mk (Kd.C_below HC4.out hbl)
  clear hs hbk hbg hbi hbl hci HS5 HB5 c0 c1 c2 c3 c4 c5
  obtain ⟨c0, c1, c2, c3, c4, c5⟩ := cells25 HS6.out.hbb
  go_wp2_with (go_at_call 14; (refine (depends_Implied.calls 60 E0 E0 0 0 (some ⟨z, 0, none⟩) 4 Z4 (some ⟨k, 0, none⟩) 2 DS none 0 [] E0 none 0 [] 0 false 130 _ (Z4_of HS6.out.hz) (Nat.le_refl _) HS6.out.hd.C (Nat.le_refl _) (nil_C _ _) (Nat.le_refl _) (nil_C _ _) (Nat.le_refl _) im3).mono ?_); rintro e w7 ⟨rfl, hb7⟩; refine Aside0.out (p := _) ?_)
  refine ⟨?_⟩
  have HS7 := Aside0.mk (HS6.out.below hb7)
  have HB7 := Aside0.mk (HB6.out.trans (hb7.mono HB6.out.size))
  have HC3 := Aside0.mk (Kd.C_below HC3.out hb7)
  have HC4 := Aside0.mk (Kd.C_below HC4.out hb7)
  clear hb7 HS6 HB6 c0 c1 c2 c3 c4 c5
  go_upto_region 9 with fail
  have hW1 := allocs_below [(.cells #[.int .i64 9, .int .i64 5, .int .i64 6, .int .i64 7] 3 : Obj), .cells #[.int .i64 8, .int .i64 4, .int .i64 6, .int .i64 1] 3, .cells #[.int .i64 0, .int .i64 0, .int .i64 0, .slice (some ⟨w7.heap.size, 0, none⟩) 4 4] 49, .cells #[.int .i64 0, .int .i64 0, .int .i64 0, .slice (some ⟨w7.heap.size + 1, 0, none⟩) 4 4] 49] w7
  have hk := fun k o h => allocs_at [(.cells #[.int .i64 9, .int .i64 5, .int .i64 6, .int .i64 7] 3 : Obj), .cells #[.int .i64 8, .int .i64 4, .int .i64 6, .int .i64 1] 3, .cells #[.int .i64 0, .int .i64 0, .int .i64 0, .slice (some ⟨w7.heap.size, 0, none⟩) 4 4] 49, .cells #[.int .i64 0, .int .i64 0, .int .i64 0, .slice (some ⟨w7.heap.size + 1, 0, none⟩) 4 4] 49] w7 k o h
  have k0 := hk 0 _ rfl
  have k1 := hk 1 _ rfl
  have k2 := hk 2 _ rfl
  have k3 := hk 3 _ rfl
  simp only [List.foldl_cons, List.foldl_nil] at hW1 k0 k1 k2 k3
  clear hk
  generalize ((((w7.alloc (.cells #[.int .i64 9, .int .i64 5, .int .i64 6, .int .i64 7] 3)).alloc (.cells #[.int .i64 8, .int .i64 4, .int .i64 6, .int .i64 1] 3)).alloc (.cells #[.int .i64 0, .int .i64 0, .int .i64 0, .slice (some ⟨w7.heap.size, 0, none⟩) 4 4] 49)).alloc (.cells #[.int .i64 0, .int .i64 0, .int .i64 0, .slice (some ⟨w7.heap.size + 1, 0, none⟩) 4 4] 49)) = W8 at hW1 k0 k1 k2 k3 ⊢
  have k2' : W8.heap[w7.heap.size + 1 + 1]? = _ := k2
  have k3' : W8.heap[w7.heap.size + 1 + 1 + 1]? = _ := k3
  have k0' : W8.heap[w7.heap.size]? = _ := k0
  clear k0 k2 k3
  have HS8 := Aside0.mk (HS7.out.below hW1)
  have HB8 := Aside0.mk (HB7.out.trans (hW1.mono HB7.out.size))
  have HC3 := Aside0.mk (Kd.C_below HC3.out hW1)
  have HC4 := Aside0.mk (Kd.C_below HC4.out hW1)
  clear hW1 HS7 HB7
  generalize w7.heap.size + 1 + 1 + 1 = x2 at k3' ⊢
  generalize w7.heap.size + 1 + 1 = x1 at k2' ⊢
  generalize w7.heap.size + 1 = i2 at k1 k3' ⊢
  generalize w7.heap.size = i1 at k0' k2' ⊢
  obtain ⟨c0, c1, c2, c3, c4, c5⟩ := cells25 HS8.out.hbb
  obtain ⟨d0, d1, d2, d3⟩ := cells49 k2'
  obtain ⟨f0, f1, f2, f3⟩ := cells49 k3'
  have K0 := Aside0.mk k0'
  have K1 := Aside0.mk k1
  clear k0' k1 k2' k3'
  go_wp2_with (go_at_call 20; (refine (depends_Broken.calls E0 E0 0 0 (some ⟨z, 0, none⟩) 4 Z4 (some ⟨k, 0, none⟩) 2 DS (some _) 3 [OneI, OneI, TwoI] 0 2 1 true 0 _ (Kd.C_alloc (Z4_of HS8.out.hz) _) (Nat.le_refl _) (Kd.C_alloc HS8.out.hd.C _) (Nat.le_refl _) (Ins_of (World.alloc_heap_new _ _) (Kd.C_alloc (ints_of_blk (l := [9, 5, 6, 7]) K0.out (by decide)) _) (Kd.C_alloc (ints_of_blk (l := [8, 4, 6, 1]) K1.out (by decide)) _)) (Nat.le_refl _) br1).mono ?_); rintro e w9 ⟨rfl, hb9⟩; refine Aside0.out (p := _) ?_)
  refine ⟨?_⟩
  have hb := (below_alloc (Below.refl W8.heap.size W8) _).trans (hb9.mono (by simp))
  have HS9 := Aside0.mk (HS8.out.below hb)
  have HB9 := Aside0.mk (HB8.out.trans (hb.mono HB8.out.size))
  have HC3 := Aside0.mk (Kd.C_below HC3.out hb)
  have HC4 := Aside0.mk (Kd.C_below HC4.out hb)
  clear hb hb9 HS8 HB8 c0 c1 c2 c3 c4 c5 d0 d1 d2 d3 f0 f1 f2 f3 K0 K1
  obtain ⟨c0, c1, c2, c3, c4, c5⟩ := cells25 HS9.out.hbb
  go_wp2_with (go_at_call 20; (refine (depends_Broken.calls E0 E0 0 0 (some ⟨z, 0, none⟩) 4 Z4 (some ⟨k, 0, none⟩) 2 DS none 0 [] 0 0 0 false 0 _ (Z4_of HS9.out.hz) (Nat.le_refl _) HS9.out.hd.C (Nat.le_refl _) (nil_C _ _) (Nat.le_refl _) br2).mono ?_); rintro e w10 ⟨rfl, hb10⟩; refine Aside0.out (p := _) ?_)
  refine ⟨?_⟩
  have HS10 := Aside0.mk (HS9.out.below hb10)
  have HB10 := Aside0.mk (HB9.out.trans (hb10.mono HB9.out.size))
  have HC3 := Aside0.mk (Kd.C_below HC3.out hb10)
  have HC4 := Aside0.mk (Kd.C_below HC4.out hb10)
  clear hb10 HS9 HB9 c0 c1 c2 c3 c4 c5
  go_wp2_with (go_at_call 18; (refine (testamurref13_SameInts.calls 60 A3 q3 [1, 2, 3] (some _) 3 [1, 2, 3] true _ (Kd.C_alloc HC3.out _) HL3.out (ints_of_blk (l := [1, 2, 3]) (World.alloc_heap_new _ _) (by decide)) (Nat.le_refl _) sm1).mono ?_); rintro e w11 ⟨rfl, hdw⟩; have HD := Aside0.mk hdw; clear hdw; refine Aside0.out (p := _) ?_)
  refine ⟨?_⟩
  have hb : Below w10.heap.size w10 w11 := by obtain ⟨n, hw⟩ := HD.out; rw [hw]; exact pw_below_drewN (below_alloc (Below.refl _ _) _) _
  have HS11 := Aside0.mk (HS10.out.below hb)
  have HB11 := Aside0.mk (HB10.out.trans (hb.mono HB10.out.size))
  have HC4 := Aside0.mk (Kd.C_below HC4.out hb)
  clear hb HD HS10 HB10 HC3
  go_wp2_with (go_at_call 18; (refine (testamurref13_SameInts.calls 60 A4 q4 [0, 2] (some _) 2 [0, 2] true _ (Kd.C_alloc HC4.out _) HL4.out (ints_of_blk (l := [0, 2]) (World.alloc_heap_new _ _) (by decide)) (Nat.le_refl _) sm2).mono ?_); rintro e w12 ⟨rfl, hdw⟩; have HD := Aside0.mk hdw; clear hdw; refine Aside0.out (p := _) ?_)
  refine ⟨?_⟩
  have hb : Below w11.heap.size w11 w12 := by obtain ⟨n, hw⟩ := HD.out; rw [hw]; exact pw_below_drewN (below_alloc (Below.refl _ _) _) _
  have HS12 := Aside0.mk (HS11.out.below hb)
  have HB12 := Aside0.mk (HB11.out.trans (hb.mono HB11.out.size))
  clear hb HD HS11 HB11 HC4
  go_wp2_with (go_at_call 16; (refine (depends_Check.calls E0 E0 0 0 none 0 [] none 0 [] 130 _ (nil_C _ _) (Nat.le_refl _) (nil_C _ _) (Nat.le_refl _) ck1).mono ?_); rintro e w13 ⟨rfl, hb13⟩; refine Aside0.out (p := _) ?_)
  refine ⟨?_⟩
  have HS13 := Aside0.mk (HS12.out.below hb13)
  have HB13 := Aside0.mk (HB12.out.trans (hb13.mono HB12.out.size))
  clear hb13 HS12 HB12
  obtain ⟨c0, c1, c2, c3, c4, c5⟩ := cells25 HS13.out.hbb
  go_wp2_with (go_at_call 16; (refine (depends_Check.calls E0 E0 0 0 (some ⟨z, 0, none⟩) 4 Z4 (some ⟨k, 0, none⟩) 2 DS 0 _ (Z4_of HS13.out.hz) (Nat.le_refl _) HS13.out.hd.C (Nat.le_refl _) ck2).mono ?_); rintro e w14 ⟨rfl, hb14⟩; refine Aside0.out (p := _) ?_)
  refine ⟨?_⟩
  go_wp2
  go_ret
  exact ⟨rfl, HB13.out.trans (hb14.mono HB13.out.size)⟩
end Go.Proofs.Ytfbcjeknibfjcaa.P.Sn
