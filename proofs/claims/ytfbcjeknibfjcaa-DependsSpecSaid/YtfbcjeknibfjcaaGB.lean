/- Several texts in one: G5, G6, G7, G. -/
import Derived.Test.YtfbcjeknibfjcaaGA
import Derived.Test.YtfbcjeknibfjcaaR
import Derived.RangeFuncNested
import Derived.BigRegion
import Derived.WalkMore
import Derived.Deep.RegionHeld
import Derived.Test.YtfbcjeknibfjcaaV
/- The iterator over pairs. -/
namespace Go.Proofs.Ytfbcjeknibfjcaa.P
open Go.RowKit Go.Shelf Go.Proofs.YtfbcjeknibfjcaaR Go.Proofs.YtfbcjeknibfjcaaW.PrintWords Go.Proofs.YtfbcjeknibfjcaaW.PrintLast Go.Proofs.YtfbcjeknibfjcaaW.PrintMore
set_option linter.unusedVariables false
attribute [local go_sem] Oper.semAt_some

def rowP (m a b : Nat) : List (Nat × Nat) := (List.range' b (m - b)).map fun j => (a, j)
def rowsP (m a : Nat) : List (Nat × Nat) := (List.range' a (m - a)).flatMap fun i => rowP m i (i + 1)
def pairsL (m : Nat) : List (Nat × Nat) := rowsP m 0
theorem rowP_lt {m a b : Nat} (h : b < m) : rowP m a b = (a, b) :: rowP m a (b + 1) := by
 rw [rowP, show m - b = (m - (b + 1)) + 1 by omega, List.range'_succ]
 rfl
theorem rowP_ge {m a b : Nat} (h : m ≤ b) : rowP m a b = [] := by
 rw [rowP, show m - b = 0 by omega]
 rfl
theorem rowsP_lt {m a : Nat} (h : a < m) : rowsP m a = rowP m a (a + 1) ++ rowsP m (a + 1) := by
 rw [rowsP, show m - a = (m - (a + 1)) + 1 by omega, List.range'_succ, List.flatMap_cons]
 rfl
theorem rowsP_ge {m a : Nat} (h : m ≤ a) : rowsP m a = [] := by
 rw [rowsP, show m - a = 0 by omega]
 rfl
theorem pairs_mem {m i j : Nat} (h : (i, j) ∈ pairsL m) : i < j ∧ j < m := by
 simp only [pairsL, rowsP, rowP, List.mem_flatMap, List.mem_map, List.mem_range'_1, Prod.mk.injEq] at h
 obtain ⟨a, h1, b, h2, rfl, rfl⟩ := h
 omega
set_option maxRecDepth 100000 in
set_option maxHeartbeats 2000000 in
theorem pairs1_in (F : Fence) (n : Nat) (h46 : F.fn 46) (hro : F.round = none) (hn : 1 ≤ n) (l bx m n₀ : Nat) (hm : m ≤ 9223372036854775807) (J Jx : List (Nat × Nat) → World → Prop) (hbx : bx < n₀)
  (hY : ∀ pre (i j : Nat) rest W, J pre W → pre ++ (i, j) :: rest = pairsL m → YieldAt F (n - 1) Try.prog l #[.int .i64 i, .int .i64 j] W fun e W' =>
   (e = .returned (.bool true) ∧ J (pre ++ [(i, j)]) W' ∧ Below n₀ W W') ∨ (e = .returned (.bool false) ∧ Jx (pre ++ [(i, j)]) W'))
  (W : World) (hI : W.cell? ⟨bx, 0, none⟩ = some (.int .i64 m)) (h0 : J [] W) :
  CallsIn F n Try.prog 46 #[.func (.yield l) #[] #[], .pointer (some ⟨bx, 0, none⟩)] W fun e W' => (∃ v, e = .returned v) ∧ (J (pairsL m) W' ∨ (∃ pre, Jx pre W')) := by
 refine callsIn_of_wp Try.func46 rfl h46 ?_ hro
 simp only [Try.ntmps46, List.size_toArray, List.length_cons, List.length_nil, Nat.reduceAdd, Nat.reduceSub, Array.replicate_succ, Array.replicate_zero, List.push_toArray, List.append_toArray, List.nil_append, List.cons_append]
 have HY := Aside0.mk hY
 have H0 := Aside0.mk h0
 have HI := Aside0.mk hI
 clear hY h0
 gi_wp2
 clear hI
 gi_loopw [6] (fun v6 wr => ∃ (a : Nat) (pre : List (Nat × Nat)), v6 = .int .i64 a ∧ a ≤ m ∧ Aside0 (pre ++ rowsP m a = pairsL m) ∧ Aside0 (wr.cell? ⟨bx, 0, none⟩ = some (.int .i64 m)) ∧ Aside0 (J pre wr)) (fun v6 _ => m - (intOf v6).toNat)
 case atStart => exact ⟨0, [], rfl, by omega, ⟨rfl⟩, HI, H0⟩
 case round =>
  obtain ⟨a, pre, rfl, ha, HE, HI2, HJ⟩ := hrel
  by_cases hlt : a < m
  ·have HN : Aside0 (pre ++ (rowP m a (a + 1) ++ rowsP m (a + 1)) = pairsL m) := ⟨by rw [← rowsP_lt hlt]; exact HE.out⟩
   clear HE
   have hdm : decide ((a : Int) < (m : Int)) = true := by simp; omega
   obtain ⟨wo, hwo⟩ : ∃ wo : World, wo = wr := ⟨_, rfl⟩
   subst hwo
   gi_wp2
   gi_loopw [4] (fun v4 wr => ∃ (b : Nat) (pre : List (Nat × Nat)), v4 = .int .i64 b ∧ b ≤ m ∧ a < b ∧ Aside0 (pre ++ (rowP m a b ++ rowsP m (a + 1)) = pairsL m) ∧ Aside0 (wr.cell? ⟨bx, 0, none⟩ = some (.int .i64 m)) ∧ Aside0 (J pre wr)) (fun v4 _ => m - (intOf v4).toNat)
   case atStart => exact ⟨a + 1, pre, by go_num, by omega, by omega, HN, HI2, HJ⟩
   case round =>
    obtain ⟨b, pre2, rfl, hb, hab, HE2, HI3, HJ2⟩ := hrel
    have hcm := HI3.out
    by_cases hlt2 : b < m
    ·have HN2 : Aside0 (pre2 ++ (a, b) :: (rowP m a (b + 1) ++ rowsP m (a + 1)) = pairsL m) := ⟨by rw [← List.cons_append, ← rowP_lt hlt2]; exact HE2.out⟩
     clear HE2
     have hdb : decide ((b : Int) < (m : Int)) = true := by simp; omega
     obtain ⟨fn, tmps, assign, body, hy, hR⟩ := HY.out pre2 a b _ wr HJ2.out HN2.out
     have HRR := Aside0.mk hR
     clear hR
     gi_wp2
     refine HRR.out.mono ?_
     rintro e W3 (⟨rfl, hJ3, hk3⟩ | ⟨rfl, hJx3⟩)
     ·have HJ3 := Aside0.mk hJ3
      have HI4 := Aside0.mk ((hk3.cell (p := ⟨bx, 0, none⟩) hbx).trans HI3.out)
      clear hJ3 hk3
      gi_wp2
      go_roundw
      case rel => exact ⟨b + 1, pre2 ++ [(a, b)], by go_num, by omega, by omega, ⟨by simpa using HN2.out⟩, HI4, HJ3⟩
      case measure => simp [intOf]; omega
     ·have HX := Aside0.mk hJx3
      clear hJx3
      gi_wp2
      refine bodyPost_ret (results_none rfl _ _ _) rfl ?_
      exact ⟨⟨_, rfl⟩, .inr ⟨_, HX.out⟩⟩
    ·have HN2 : Aside0 (pre2 ++ rowsP m (a + 1) = pairsL m) := ⟨by have := HE2.out; rwa [rowP_ge (by omega), List.nil_append] at this⟩
     clear HE2
     have hdb : decide ((b : Int) < (m : Int)) = false := decide_eq_false (by omega)
     gi_wp2
     go_roundw
     case rel => exact ⟨a + 1, pre2, by go_num, by omega, HN2, HI3, HJ2⟩
     case measure => simp [intOf]; omega
  ·have HN : Aside0 (pre = pairsL m) := ⟨by have := HE.out; rwa [rowsP_ge (by omega), List.append_nil] at this⟩
   have hdm : decide ((a : Int) < (m : Int)) = false := decide_eq_false (by omega)
   gi_wp2
   go_end0
   exact ⟨⟨_, rfl⟩, .inl (HN.out ▸ HJ.out)⟩
end Go.Proofs.Ytfbcjeknibfjcaa.P
/- depends.Broken: its closures; what it searches. -/
namespace Go.Proofs.Ytfbcjeknibfjcaa.P
open Go.RowKit Go.Shelf Go.Proofs.YtfbcjeknibfjcaaR Go.Proofs.YtfbcjeknibfjcaaW.PrintWords Go.Proofs.YtfbcjeknibfjcaaW.PrintLast Go.Proofs.YtfbcjeknibfjcaaW.PrintMore
set_option linter.unusedVariables false

/-! ### pairs, the closures -/
theorem pairs_calls (n : Int) (w : World) : Calls Try.prog 37 #[.int .i64 n] w fun e w' => e = .returned (.func (.func 46) #[] #[.pointer (some ⟨w.heap.size, 0, none⟩)]) ∧ w' = w.alloc (.cells #[.int .i64 n] 3) := by
 go_enter Try.func37, Try.ntmps37
 go_wp2
 go_ret
 exact ⟨rfl, rfl⟩
theorem enters36 : ∀ args w, (callFunc 36 args).run Try.prog w = .ok (.enter 36 args) w := enters_ Try.func36 (by kernel_rfl) rfl
theorem enters39 : ∀ args w, (callFunc 39 args).run Try.prog w = .ok (.enter 39 args) w := enters_ Try.func39 (by kernel_rfl) rfl
theorem enters46 : ∀ args w, (callFunc 46 args).run Try.prog w = .ok (.enter 46 args) w := enters_ Try.func46 (by kernel_rfl) rfl
set_option maxHeartbeats 1000000 in
theorem broken1_calls (b n : Nat) (A : Option Addr) (c : Nat) (w : World) (hb : b < w.heap.size) (h4 : w.cell? ⟨b, 4, none⟩ = some (.slice A n c)) :
  FunAt49 36 #[.pointer (some ⟨b, 0, none⟩)] (fun x => x.f3.length != n) w := by
 intro x W A3 c3 hB hl3 hg3
 have hu25 := Try.underlying25
 have hu49 := Try.underlying49
 have hB1 : Below w.heap.size w (W.alloc (.cells #[.int .i64 x.f0, .int .i64 x.f1, .int .i64 x.f2, .slice A3 x.f3.length c3] 49)) := below_alloc hB _
 have g4 : (W.alloc (.cells #[.int .i64 x.f0, .int .i64 x.f1, .int .i64 x.f2, .slice A3 x.f3.length c3] 49)).cell? ⟨b, 4, none⟩ = some (.slice A n c) := (hB1.cell (p := ⟨b, 4, none⟩) hb).trans h4
 clear hB1 hB hl3 hg3 h4
 show Calls Try.prog 36 #[.agg #[.int .i64 x.f0, .int .i64 x.f1, .int .i64 x.f2, .slice A3 x.f3.length c3], .pointer (some ⟨b, 0, none⟩)] W _
 cases hq : (x.f3.length != n)
 ·have hq2 : ((x.f3.length : Int) != (n : Int)) = false := by simp at hq ⊢; omega
  have HQ := Aside0.mk hq
  go_enter Try.func36, Try.ntmps36
  go_wp2
  repeat (go_quiet (fail); try go_wp2)
  go_ret
  exact ⟨by rw [HQ.out]; rfl, by repeat (first | exact Below.refl _ _ | apply below_alloc | apply pw_below_drewN | apply below_drew1)⟩
 ·have hq2 : ((x.f3.length : Int) != (n : Int)) = true := by simp at hq ⊢; omega
  have HQ := Aside0.mk hq
  go_enter Try.func36, Try.ntmps36
  go_wp2
  repeat (go_quiet (fail); try go_wp2)
  go_ret
  exact ⟨by rw [HQ.out]; rfl, by repeat (first | exact Below.refl _ _ | apply below_alloc | apply pw_below_drewN | apply below_drew1)⟩
set_option maxHeartbeats 1000000 in
theorem broken2_calls (bx bY : Nat) (X Y : List Int) (Ax Ay : Option Addr) (cx cy : Nat) (f : Int) (W : World) (hx : W.cell? ⟨bx, 0, none⟩ = some (.slice Ax X.length cx)) (hy : W.cell? ⟨bY, 0, none⟩ = some (.slice Ay Y.length cy))
  (hX : Kd.C (Kd.int .i64) W Ax X.length X) (hY : Kd.C (Kd.int .i64) W Ay Y.length Y) (h0 : 0 ≤ f) (h1 : f < X.length) (h2 : f < Y.length) :
  Calls Try.prog 39 #[.int .i64 f, .pointer (some ⟨bx, 0, none⟩), .pointer (some ⟨bY, 0, none⟩)] W fun e w' => e = .returned (.bool (rd X f != rd Y f)) ∧ Below W.heap.size W w' := by
 obtain ⟨ax, e1, hx0⟩ := Kd.at_int hX f h0 h1
 obtain ⟨ay, e2, hy0⟩ := Kd.at_int hY f h0 h2
 cases e1
 cases e2
 clear hX hY
 replace h0 := eq_true h0
 replace h1 := eq_true h1
 replace h2 := eq_true h2
 go_enter Try.func39, Try.ntmps39
 go_wp2
 repeat (go_quiet (fail); try go_wp2)
 go_ret
 exact ⟨rfl, by repeat (first | exact Below.refl _ _ | apply below_alloc | apply pw_below_drewN | apply below_drew1)⟩
end Go.Proofs.Ytfbcjeknibfjcaa.P
/- depends.Broken: the walk. -/
namespace Go.Proofs.Ytfbcjeknibfjcaa.P
open Go.RowKit Go.Shelf Go.Proofs.YtfbcjeknibfjcaaR Go.Proofs.YtfbcjeknibfjcaaW.PrintWords Go.Proofs.YtfbcjeknibfjcaaW.PrintLast Go.Proofs.YtfbcjeknibfjcaaW.PrintMore
set_option linter.unusedVariables false
attribute [local go_sem] Oper.semAt_some

/-! ### Blocks made one after the other -/
theorem allocs_below (os : List Obj) : ∀ w : World, Below w.heap.size w (os.foldl World.alloc w) := by
 induction os with
 | nil => exact fun w => Below.refl _ _
 | cons o os ih => exact fun w => (below_alloc (Below.refl _ _) o).trans ((ih (w.alloc o)).mono (by simp))
theorem allocs_at (os : List Obj) : ∀ (w : World) (k : Nat) (o : Obj), os[k]? = some o → (os.foldl World.alloc w).heap[w.heap.size + k]? = some o := by
 induction os with
 | nil => intro w k o h; simp at h
 | cons o' os ih =>
  intro w k o h
  cases k with
  | zero =>
   simp at h
   subst h
   exact ((allocs_below os (w.alloc o')).block w.heap.size (by simp)).trans (World.alloc_heap_new w o')
  | succ k =>
   have := ih (w.alloc o') k o (by simpa using h)
   rw [World.size_alloc] at this
   rw [show w.heap.size + (k + 1) = w.heap.size + 1 + k by omega]
   exact this
theorem allocs_size (os : List Obj) : ∀ w : World, (os.foldl World.alloc w).heap.size = w.heap.size + os.length := by
 induction os with
 | nil => exact fun w => rfl
 | cons o os ih => intro w; rw [List.foldl_cons, ih, World.size_alloc, List.length_cons]; omega
theorem loop_below {W W' : World} {D : Nat} {r : Loop} (h : LoopAt W D r) (hb : Below W.heap.size W W') : LoopAt W' D r :=
 ⟨(hb.block _ h.lt).trans h.rec_, (hb.block _ (by have := h.lt; omega)).trans h.dfr⟩
theorem results20 {tmps : Array Value} {W : World} {p4 p5 p6 p7 : Addr} {va vb vk : Int} {vo : Bool} {e : Int}
  (t4 : tmps.getD 4 undef = .pointer (some p4)) (t5 : tmps.getD 5 undef = .pointer (some p5)) (t6 : tmps.getD 6 undef = .pointer (some p6)) (t7 : tmps.getD 7 undef = .pointer (some p7)) (t8 : tmps.getD 8 undef = .int .i64 e)
  (ba : W.cell? p4 = some (.int .i64 va)) (bb : W.cell? p5 = some (.int .i64 vb)) (bk : W.cell? p6 = some (.int .i64 vk)) (bo : W.cell? p7 = some (.bool vo)) :
  (results Try.f20 tmps).run Try.prog W = .ok (.tuple #[.int .i64 va, .int .i64 vb, .int .i64 vk, .bool vo, .int .i64 e]) W := by
 have hr : Try.f20.results = #[.cell 4 3, .cell 5 3, .cell 6 3, .cell 7 4, .tmp 8] := by kernel_rfl
 have hu3 := Try.underlying3
 have hu4 := Try.underlying4
 unfold results
 rw [hr]
 simp only [List.mapM_toArray, List.mapM_cons, List.mapM_nil]
 simp [go_sem, t4, t5, t6, t7, t8, ba, bb, bk, bo, loadVar, asAddr]
theorem loop_setCell {W : World} {D : Nat} {r : Loop} (h : LoopAt W D r) (a : Addr) (v : Value) (hne : a.block < D) : LoopAt (W.setCell a v) D r :=
 ⟨(Below.heap_setCell W a v (D + 1) (by omega)).trans h.rec_, (Below.heap_setCell W a v D (by omega)).trans h.dfr⟩
theorem loop_drew {W : World} {D : Nat} {r : Loop} (h : LoopAt W D r) : LoopAt W.drew D r := ⟨h.rec_, h.dfr⟩
/-- Do two rows of values break a dependency of a valid schema? -/
def brkR (x y : List Int) (d : S29) : Bool := (!d.f2.any fun f => rd x f != rd y f) && (rd x d.f3 != rd y d.f3)
def rowAt (l : List S49) (i : Nat) : List Int := (rd_T49 l i).f3
def firstB (l : List S49) (ds : List S29) (p : Nat × Nat) : Option Nat := ds.findIdx? (brkR (rowAt l p.1) (rowAt l p.2))
theorem outF_false {n : Nat} {f : Int} (h : outF n f = false) : 0 ≤ f ∧ f < n := by
 simp [outF] at h
 exact h
theorem vld_from {n : Nat} {l : List Int} {tx : Int} (h : vld n l tx = true) : ∀ x ∈ l, 0 ≤ x ∧ x < n := by
 intro x hx
 obtain ⟨k, hk, rfl⟩ := List.getElem_of_mem hx
 simp only [vld, Bool.and_eq_true, List.all_eq_true] at h
 have := h.1 k (by simpa using hk)
 simp only [fromAt, Bool.and_eq_true, Bool.not_eq_true', rd_at3 l k hk] at this
 exact outF_false this.1
theorem vld_to {n : Nat} {l : List Int} {tx : Int} (h : vld n l tx = true) : 0 ≤ tx ∧ tx < n := by
 simp only [vld, Bool.and_eq_true, Bool.not_eq_true'] at h
 exact outF_false h.2.2.1
theorem chk_vld {n : Nat} {l : List S29} (h : chk n l = true) (k : Nat) (hk : k < l.length) : vld n (rd_T29 l k).f2 (rd_T29 l k).f3 = true := by
 simp only [chk, Bool.and_eq_true, Bool.not_eq_true'] at h
 have h2 := List.any_eq_false.1 h.2.2.2 l[k] (List.getElem_mem _)
 rw [rd_at29 l k hk]
 simpa using h2
theorem row_len {n : Nat} {l : List S49} (h : l.any (fun x => x.f3.length != n) = false) (i : Nat) (hi : i < l.length) : (rd_T49 l i).f3.length = n := by
 have h2 := List.any_eq_false.1 h l[i] (List.getElem_mem _)
 rw [rd_at49 l i hi]
 simpa using h2
theorem firstB_none {l : List S49} {ds : List S29} {p : Nat × Nat} (h : ∀ k, k < ds.length → brkR (rowAt l p.1) (rowAt l p.2) (rd_T29 ds k) = false) : firstB l ds p = none := by
 rw [firstB, List.findIdx?_eq_none_iff]
 intro x hx
 obtain ⟨k, hk, rfl⟩ := List.getElem_of_mem hx
 rw [← rd_at29 ds k hk]
 exact h k hk
theorem firstB_some {l : List S49} {ds : List S29} {p : Nat × Nat} {n : Nat} (hn : n < ds.length) (h : ∀ k, k < n → brkR (rowAt l p.1) (rowAt l p.2) (rd_T29 ds k) = false) (h1 : brkR (rowAt l p.1) (rowAt l p.2) (rd_T29 ds n) = true) : firstB l ds p = some n := by
 rw [firstB, List.findIdx?_eq_some_iff_getElem]
 refine ⟨hn, by rw [← rd_at29 ds n hn]; exact h1, fun k hk => ?_⟩
 rw [← rd_at29 ds k (by omega), h k hk]
 simp
def search (l : List S49) (ds : List S29) : Option (Nat × Nat × Nat) := (pairsL l.length).findSome? fun p => (firstB l ds p).map fun k => (p.1, p.2, k)
def brokenV (n : Nat) (ds : List S29) (l : List S49) : Int × Int × Int × Bool × Int :=
 if chk n ds = true then (if (l.any fun x => x.f3.length != n) = true then (0, 0, 0, false, 130) else match search l ds with
  | some (i, j, k) => (i, j, k, true, 0)
  | none => (0, 0, 0, false, 0)) else (0, 0, 0, false, 130)
def depends_Broken.f (a0_0 : ByteArray) (a0_1 : ByteArray) (a0_2 : Int) (a0_3 : Int) (l0_4 : List S97) (l0_5 : List S29) (l1 : List S49) : Option (Int × Int × Int × Bool × Int) := some (brokenV l0_4.length l0_5 l1)
/-- The boxes of Broken: of the schema, the instances, and the results. -/
structure BoxAt (W : World) (N : Nat) (A0_4 : Option Addr) (n4 c0_4 : Nat) (A0_5 : Option Addr) (n5 c0_5 : Nat) (A1 : Option Addr) (n1 c1 : Nat) (va vb vk : Int) (vo : Bool) : Prop where
 h4 : W.cell? ⟨N, 4, none⟩ = some (.slice A0_4 n4 c0_4)
 h5 : W.cell? ⟨N, 5, none⟩ = some (.slice A0_5 n5 c0_5)
 hl : W.cell? ⟨N + 1, 0, none⟩ = some (.slice A1 n1 c1)
 ba : Boxed W (N + 2) 3 (.int .i64 va)
 bb : Boxed W (N + 3) 3 (.int .i64 vb)
 bk : Boxed W (N + 4) 3 (.int .i64 vk)
 bo : Boxed W (N + 5) 4 (.bool vo)
theorem BoxAt.below {W W' : World} {N : Nat} {A0_4 : Option Addr} {n4 c0_4 : Nat} {A0_5 : Option Addr} {n5 c0_5 : Nat} {A1 : Option Addr} {n1 c1 : Nat} {va vb vk : Int} {vo : Bool} (h : BoxAt W N A0_4 n4 c0_4 A0_5 n5 c0_5 A1 n1 c1 va vb vk vo) (hb : Below (N + 6) W W') : BoxAt W' N A0_4 n4 c0_4 A0_5 n5 c0_5 A1 n1 c1 va vb vk vo :=
 ⟨(hb.cell (p := ⟨N, 4, none⟩) (by show N < _; omega)).trans h.h4, (hb.cell (p := ⟨N, 5, none⟩) (by show N < _; omega)).trans h.h5, (hb.cell (p := ⟨N + 1, 0, none⟩) (by show N + 1 < _; omega)).trans h.hl,
  (hb.block _ (by omega)).trans h.ba, (hb.block _ (by omega)).trans h.bb, (hb.block _ (by omega)).trans h.bk, (hb.block _ (by omega)).trans h.bo⟩
/-- What holds between two rounds: no pair so far breaks a dependency. -/
def Jb (w : World) (N : Nat) (A0_4 : Option Addr) (n4 c0_4 : Nat) (A0_5 : Option Addr) (c0_5 : Nat) (ds : List S29) (A1 : Option Addr) (c1 : Nat) (l : List S49) (pre : List (Nat × Nat)) (W : World) : Prop :=
 BoxAt W N A0_4 n4 c0_4 A0_5 ds.length c0_5 A1 l.length c1 0 0 0 false ∧ Below N w W ∧ ∀ p ∈ pre, firstB l ds p = none
/-- What holds when the search is left. -/
def Sb (w : World) (N : Nat) (A0_4 : Option Addr) (n4 c0_4 : Nat) (A0_5 : Option Addr) (c0_5 : Nat) (ds : List S29) (A1 : Option Addr) (c1 : Nat) (l : List S49) (c : Code) (W : World) : Prop :=
 c = .exit 0 ∧ ∃ (pre rest : List (Nat × Nat)) (i j k : Nat), pre ++ (i, j) :: rest = pairsL l.length ∧ (∀ p ∈ pre, firstB l ds p = none) ∧ firstB l ds (i, j) = some k ∧
  BoxAt W N A0_4 n4 c0_4 A0_5 ds.length c0_5 A1 l.length c1 i j k true ∧ Below N w W
theorem four_set {W : World} {N : Nat} {A0_4 : Option Addr} {n4 c0_4 : Nat} {A0_5 : Option Addr} {n5 c0_5 : Nat} {A1 : Option Addr} {n1 c1 : Nat} {va vb vk : Int} {vo : Bool} (h : BoxAt W N A0_4 n4 c0_4 A0_5 n5 c0_5 A1 n1 c1 va vb vk vo) (ua ub uk : Int) (uo : Bool) :
  BoxAt ((((W.setCell ⟨N + 1 + 1, 0, none⟩ (.int .i64 ua)).setCell ⟨N + 1 + 1 + 1, 0, none⟩ (.int .i64 ub)).setCell ⟨N + 1 + 1 + 1 + 1, 0, none⟩ (.int .i64 uk)).setCell ⟨N + 1 + 1 + 1 + 1 + 1, 0, none⟩ (.bool uo)) N A0_4 n4 c0_4 A0_5 n5 c0_5 A1 n1 c1 ua ub uk uo := by
 have cx : ∀ (b k : Nat) (v : Value), b < N + 2 → W.cell? ⟨b, k, none⟩ = some v → ((((W.setCell ⟨N + 1 + 1, 0, none⟩ (.int .i64 ua)).setCell ⟨N + 1 + 1 + 1, 0, none⟩ (.int .i64 ub)).setCell ⟨N + 1 + 1 + 1 + 1, 0, none⟩ (.int .i64 uk)).setCell ⟨N + 1 + 1 + 1 + 1 + 1, 0, none⟩ (.bool uo)).cell? ⟨b, k, none⟩ = some v := by
  intro b k v hb hv
  have hB : Below (N + 2) W ((((W.setCell ⟨N + 1 + 1, 0, none⟩ (.int .i64 ua)).setCell ⟨N + 1 + 1 + 1, 0, none⟩ (.int .i64 ub)).setCell ⟨N + 1 + 1 + 1 + 1, 0, none⟩ (.int .i64 uk)).setCell ⟨N + 1 + 1 + 1 + 1 + 1, 0, none⟩ (.bool uo)) :=
   ((((Below.refl _ _).setCell (p := ⟨N + 1 + 1, 0, none⟩) (by show _ ≤ _; simp) _).setCell (p := ⟨N + 1 + 1 + 1, 0, none⟩) (by show N + 2 ≤ N + 1 + 1 + 1; omega) _).setCell (p := ⟨N + 1 + 1 + 1 + 1, 0, none⟩) (by show N + 2 ≤ N + 1 + 1 + 1 + 1; omega) _).setCell (p := ⟨N + 1 + 1 + 1 + 1 + 1, 0, none⟩) (by show N + 2 ≤ N + 1 + 1 + 1 + 1 + 1; omega) _
  exact (hB.cell (p := ⟨b, k, none⟩) hb).trans hv
 exact ⟨cx _ _ _ (by omega) h.h4, cx _ _ _ (by omega) h.h5, cx _ _ _ (by omega) h.hl,
  (((h.ba.set (.int .i64 ua)).other (by omega) _).other (by omega) _).other (by omega) _,
  (((h.bb.other (by omega) _).set (.int .i64 ub)).other (by omega) _).other (by omega) _,
  (((h.bk.other (by omega) _).other (by omega) _).set (.int .i64 uk)).other (by omega) _,
  ((((h.bo.other (by omega) _).other (by omega) _).other (by omega) _).set (.bool uo))⟩
theorem four_below {W : World} {N M : Nat} (va vb vk vo : Value) (hM : M ≤ N) : Below M W ((((W.setCell ⟨N + 1 + 1, 0, none⟩ va).setCell ⟨N + 1 + 1 + 1, 0, none⟩ vb).setCell ⟨N + 1 + 1 + 1 + 1, 0, none⟩ vk).setCell ⟨N + 1 + 1 + 1 + 1 + 1, 0, none⟩ vo) :=
 ((((Below.refl _ _).setCell (p := ⟨N + 1 + 1, 0, none⟩) (by show M ≤ N + 1 + 1; omega) _).setCell (p := ⟨N + 1 + 1 + 1, 0, none⟩) (by show M ≤ N + 1 + 1 + 1; omega) _).setCell (p := ⟨N + 1 + 1 + 1 + 1, 0, none⟩) (by show M ≤ N + 1 + 1 + 1 + 1; omega) _).setCell (p := ⟨N + 1 + 1 + 1 + 1 + 1, 0, none⟩) (by show M ≤ N + 1 + 1 + 1 + 1 + 1; omega) _
set_option maxHeartbeats 4000000 in
set_option maxRecDepth 100000 in
theorem depends_Broken.calls (a0_0 : ByteArray) (a0_1 : ByteArray) (a0_2 : Int) (a0_3 : Int) (A0_4 : Option Addr) (c0_4 : Nat) (l0_4 : List S97) (A0_5 : Option Addr) (c0_5 : Nat) (l0_5 : List S29) (A1 : Option Addr) (c1 : Nat) (l1 : List S49) (r1 r2 r3 : Int) (r4 : Bool) (r5 : Int) (w : World) (hr0_4 : Kd.C k97 w A0_4 l0_4.length l0_4) (hc0_4 : l0_4.length ≤ c0_4) (hr0_5 : Kd.C k29 w A0_5 l0_5.length l0_5) (hc0_5 : l0_5.length ≤ c0_5) (hr1 : Kd.C k49 w A1 l1.length l1) (hc1 : l1.length ≤ c1) (h : depends_Broken.f a0_0 a0_1 a0_2 a0_3 l0_4 l0_5 l1 = some (r1, r2, r3, r4, r5)) :
  Calls Try.prog 20 #[.agg #[.string a0_0, .string a0_1, .int .i64 a0_2, .int .i64 a0_3, .slice A0_4 l0_4.length c0_4, .slice A0_5 l0_5.length c0_5], .slice A1 l1.length c1] w fun e w' => e = .returned (.tuple #[.int .i64 r1, .int .i64 r2, .int .i64 r3, .bool r4, .int .i64 r5]) ∧ Below w.heap.size w w' := by
 have HV := Aside0.mk (Option.some.inj h)
 have hu25 := Try.underlying25
 have hu29 := Try.underlying29
 have hu49 := Try.underlying49
 have H4 := Aside0.mk hr0_4
 have C4 := Aside0.mk hc0_4
 have H5 := Aside0.mk hr0_5
 have C5 := Aside0.mk hc0_5
 have H1 := Aside0.mk hr1
 have C1 := Aside0.mk hc1
 clear h hr0_4 hc0_4 hr0_5 hc0_5 hr1 hc1
 refine (callsIn_wide (n := 3)).1 (callsIn_of_wp_marks Try.func20 rfl trivial ?_ rfl)
 simp only [Try.ntmps20, List.size_toArray, List.length_cons, List.length_nil, Nat.reduceAdd, Nat.reduceSub, Array.replicate_succ, Array.replicate_zero, List.push_toArray, List.append_toArray, List.nil_append, List.cons_append]
 refine wpIn_wide.2 ?_
 go_wp2
 obtain ⟨W0, hW0⟩ : ∃ W0, ((((((w.alloc (.cells #[.string a0_0, .string a0_1, .int .i64 a0_2, .int .i64 a0_3, .slice A0_4 l0_4.length c0_4, .slice A0_5 l0_5.length c0_5] 25)).alloc (.cells #[.slice A1 l1.length c1] 40)).alloc (.cells #[.int .i64 0] 3)).alloc (.cells #[.int .i64 0] 3)).alloc (.cells #[.int .i64 0] 3)).alloc (.cells #[.bool false] 4)) = W0 := ⟨_, rfl⟩
 rw [hW0]
 have hW1 : [(.cells #[.string a0_0, .string a0_1, .int .i64 a0_2, .int .i64 a0_3, .slice A0_4 l0_4.length c0_4, .slice A0_5 l0_5.length c0_5] 25 : Obj), .cells #[.slice A1 l1.length c1] 40, .cells #[.int .i64 0] 3, .cells #[.int .i64 0] 3, .cells #[.int .i64 0] 3, .cells #[.bool false] 4].foldl World.alloc w = W0 := hW0
 have hB0 : Below w.heap.size w W0 := by rw [← hW1]; exact allocs_below _ _
 have hz : W0.heap.size = w.heap.size + 6 := by rw [← hW1]; exact allocs_size _ _
 have hk := fun k o h => hW1 ▸ allocs_at _ w k o h
 have hS := hk 0 _ rfl
 have hBX : BoxAt W0 w.heap.size A0_4 l0_4.length c0_4 A0_5 l0_5.length c0_5 A1 l1.length c1 0 0 0 false :=
  ⟨(blk_cell hS 4).trans rfl, (blk_cell hS 5).trans rfl, (blk_cell (hk 1 _ rfl) 0).trans rfl, hk 2 _ rfl, hk 3 _ rfl, hk 4 _ rfl, hk 5 _ rfl⟩
 have hs0 : W0.cell? ⟨w.heap.size, 0, none⟩ = some (.string a0_0) := (blk_cell hS 0).trans rfl
 have hs1 : W0.cell? ⟨w.heap.size, 1, none⟩ = some (.string a0_1) := (blk_cell hS 1).trans rfl
 have hs2 : W0.cell? ⟨w.heap.size, 2, none⟩ = some (.int .i64 a0_2) := (blk_cell hS 2).trans rfl
 have hs3 : W0.cell? ⟨w.heap.size, 3, none⟩ = some (.int .i64 a0_3) := (blk_cell hS 3).trans rfl
 have hs4 := hBX.h4
 have hs5 := hBX.h5
 have HBX := Aside0.mk hBX
 have HB0 := Aside0.mk hB0
 have HZ := Aside0.mk hz
 clear hW0 hW1 hk hS hBX hB0 hz
 cases hchk : chk l0_4.length l0_5 with
 | false =>
  have HQ := Aside0.mk hchk
  go_step3
  go_wp2_with (go_at_call 16; (refine (depends_Check.calls a0_0 a0_1 a0_2 a0_3 _ _ l0_4 _ _ l0_5 130 _ ?s1 C4.out ?s2 C5.out ?s3).mono ?_); (case s1 => exact Kd.C_below H4.out HB0.out); (case s2 => exact Kd.C_below H5.out HB0.out); (case s3 => rw [depends_Check.f, HQ.out]; rfl); rintro e w1 ⟨rfl, hb1⟩; refine Aside0.out (p := _) ?_)
  refine ⟨?_⟩
  have hBX1 := HBX.out.below (hb1.mono (by have := HZ.out; omega))
  have ca := hBX1.ba.cell
  have cb := hBX1.bb.cell
  have ck := hBX1.bk.cell
  have co := hBX1.bo.cell
  have fa := hBX1.ba.frozen
  have fb := hBX1.bb.frozen
  have fk := hBX1.bk.frozen
  have fo := hBX1.bo.frozen
  have HB1 := Aside0.mk (below2 HB0.out hb1)
  have HBX1 := Aside0.mk hBX1
  clear hb1 hBX1
  go_wp2
  rw [Exit.noGoto_ret]
  have hV := HV.out
  rw [brokenV, HQ.out] at hV
  simp only [Bool.false_eq_true, if_false, Prod.mk.injEq] at hV
  obtain ⟨rfl, rfl, rfl, rfl, rfl⟩ := hV
  have hf := four_set HBX1.out 0 0 0 false
  refine ⟨_, results20 (p4 := ⟨w.heap.size + 1 + 1, 0, none⟩) (p5 := ⟨w.heap.size + 1 + 1 + 1, 0, none⟩) (p6 := ⟨w.heap.size + 1 + 1 + 1 + 1, 0, none⟩) (p7 := ⟨w.heap.size + 1 + 1 + 1 + 1 + 1, 0, none⟩) rfl rfl rfl rfl rfl hf.ba.cell hf.bb.cell hf.bk.cell hf.bo.cell, rfl, HB1.out.trans (four_below _ _ _ _ (Nat.le_refl _))⟩
 | true =>
  have HQ := Aside0.mk hchk
  go_step3
  go_wp2_with (go_at_call 16; (refine (depends_Check.calls a0_0 a0_1 a0_2 a0_3 _ _ l0_4 _ _ l0_5 0 _ ?s1 C4.out ?s2 C5.out ?s3).mono ?_); (case s1 => exact Kd.C_below H4.out HB0.out); (case s2 => exact Kd.C_below H5.out HB0.out); (case s3 => rw [depends_Check.f, HQ.out]; rfl); rintro e w1 ⟨rfl, hb1⟩; refine Aside0.out (p := _) ?_)
  refine ⟨?_⟩
  have hBX1 := HBX.out.below (hb1.mono (by have := HZ.out; omega))
  have hl1 := hBX1.hl
  have HZ1 := Aside0.mk (show w.heap.size + 6 ≤ w1.heap.size from HZ.out ▸ hb1.size)
  have HB1 := Aside0.mk (below2 HB0.out hb1)
  have HBX1 := Aside0.mk hBX1
  have hI := contains49_calls 36 #[.pointer (some ⟨w.heap.size, 0, none⟩)] _ A1 c1 l1 w1 (Kd.C_below H1.out HB1.out) enters36 (broken1_calls w.heap.size l0_4.length A0_4 c0_4 w1 (by have := HZ1.out; omega) hBX1.h4)
  have HI := Aside0.mk hI
  clear hb1 hBX1 hI hs0 hs1 hs2 hs3 hs4 hs5
  cases hany : l1.any (fun x => x.f3.length != l0_4.length) with
  | true =>
   have HA := Aside0.mk hany
   go_wp2_with (go_at_call 35; (refine HI.out.mono ?_); rintro e w2 ⟨rfl, hb2⟩; rw [hany]; refine Aside0.out (p := _) ?_)
   refine ⟨?_⟩
   have hBX2 := HBX1.out.below (hb2.mono (by have := HZ1.out; omega))
   have ca := hBX2.ba.cell
   have cb := hBX2.bb.cell
   have ck := hBX2.bk.cell
   have co := hBX2.bo.cell
   have fa := hBX2.ba.frozen
   have fb := hBX2.bb.frozen
   have fk := hBX2.bk.frozen
   have fo := hBX2.bo.frozen
   have HB2 := Aside0.mk (below2 HB1.out hb2)
   have HBX2 := Aside0.mk hBX2
   clear hb2 hBX2
   go_wp2
   rw [Exit.noGoto_ret]
   have hV := HV.out
   rw [brokenV, HQ.out, HA.out] at hV
   simp only [if_true, Prod.mk.injEq] at hV
   obtain ⟨rfl, rfl, rfl, rfl, rfl⟩ := hV
   have hf := four_set HBX2.out 0 0 0 false
   refine ⟨_, results20 (p4 := ⟨w.heap.size + 1 + 1, 0, none⟩) (p5 := ⟨w.heap.size + 1 + 1 + 1, 0, none⟩) (p6 := ⟨w.heap.size + 1 + 1 + 1 + 1, 0, none⟩) (p7 := ⟨w.heap.size + 1 + 1 + 1 + 1 + 1, 0, none⟩) rfl rfl rfl rfl rfl hf.ba.cell hf.bb.cell hf.bk.cell hf.bo.cell, rfl, HB2.out.trans (four_below _ _ _ _ (Nat.le_refl _))⟩
  | false =>
   have HA := Aside0.mk hany
   go_wp2_with (go_at_call 35; (refine HI.out.mono ?_); rintro e w2 ⟨rfl, hb2⟩; rw [hany]; refine Aside0.out (p := _) ?_)
   refine ⟨?_⟩
   have hBX2 := HBX1.out.below (hb2.mono (by have := HZ1.out; omega))
   have hl2 := hBX2.hl
   have HZ2 := Aside0.mk (Nat.le_trans HZ1.out hb2.size)
   have HB2 := Aside0.mk (below2 HB1.out hb2)
   have HBX2 := Aside0.mk hBX2
   clear hb2 hBX2 hl1 HBX1 HI HB1 HZ1 HBX HZ HB0
   go_wp2
   go_step3
   go_wp2_with (go_at_call 37; (refine (pairs_calls _ _).mono ?_); rintro e w3 ⟨rfl, hw3⟩; refine Aside0.out (p := _) ?_)
   refine ⟨?_⟩
   go_wp2
   have hb3 : Below w2.heap.size w2 w3 := by rw [hw3]; exact below_alloc (Below.refl _ _) _
   have hbx : w3.cell? ⟨w2.heap.size, 0, none⟩ = some (.int .i64 l1.length) := by rw [hw3]; simp
   have hsz3 : w3.heap.size = w2.heap.size + 1 := by rw [hw3]; simp
   rw [← hw3]
   clear hw3
   have HBX3 := Aside0.mk (HBX2.out.below (hb3.mono HZ2.out))
   have HB3 := Aside0.mk (below2 HB2.out hb3)
   have HS3 := Aside0.mk hsz3
   have HX3 := Aside0.mk hbx
   have hlen : l1.length ≤ 9223372036854775807 := by have := H1.out.2.1; omega
   clear HBX2 HB2 hb3 hl2
   refine (wpIn_wide (n := 3)).1 ?_
   refine range_enter (gf := 46) (lb := #[.pointer (some ⟨w2.heap.size, 0, none⟩)]) rfl enters46 (Jb w w.heap.size A0_4 l0_4.length c0_4 A0_5 c0_5 l0_5 A1 c1 l1 (pairsL l1.length)) (Sb w w.heap.size A0_4 l0_4.length c0_4 A0_5 c0_5 l0_5 A1 c1 l1) ?call ?done ?stop
   case done =>
    rintro W2 r r' hl2 ⟨hbox, hbe, hno⟩ hl3
    obtain ⟨W3, hW3⟩ : ∃ W3, W2.putObj (w3.heap.size + 1) (.loop r') = W3 := ⟨_, rfl⟩
    have hpb : Below (w.heap.size + 6) W2 W3 := by rw [← hW3]; exact put_below r' hl2 (by have := HZ2.out; have := HS3.out; omega)
    have hbox3 := hbox.below hpb
    have ca := hbox3.ba.cell
    have cb := hbox3.bb.cell
    have ck := hbox3.bk.cell
    have co := hbox3.bo.cell
    have fa := hbox3.ba.frozen
    have fb := hbox3.bb.frozen
    have fk := hbox3.bk.frozen
    have fo := hbox3.bo.frozen
    have HD := Aside0.mk hl3
    rw [hW3] at HD ⊢
    have HBE := Aside0.mk (hbe.trans (hpb.mono (by omega)))
    have HBX := Aside0.mk hbox3
    have HNO := Aside0.mk hno
    clear hW3 hpb hbox3 hbox hbe hno hl2 hl3
    go_wp2
    go_region
    go_wp2
    rw [Exit.noGoto_ret]
    have hN : w.heap.size + 6 ≤ w3.heap.size := by have := HZ2.out; have := HS3.out; omega
    have hL := loop_drew (loop_setCell (loop_setCell (loop_setCell (loop_setCell HD.out ⟨w.heap.size + 1 + 1, 0, none⟩ (.int .i64 0) (by show w.heap.size + 1 + 1 < _; omega)) ⟨w.heap.size + 1 + 1 + 1, 0, none⟩ (.int .i64 0) (by show w.heap.size + 1 + 1 + 1 < _; omega)) ⟨w.heap.size + 1 + 1 + 1 + 1, 0, none⟩ (.int .i64 0) (by show w.heap.size + 1 + 1 + 1 + 1 < _; omega)) ⟨w.heap.size + 1 + 1 + 1 + 1 + 1, 0, none⟩ (.bool false) (by show w.heap.size + 1 + 1 + 1 + 1 + 1 < _; omega))
    have hf := (four_set HBX.out 0 0 0 false).below (below_drew1 (Below.refl _ _))
    have hf2 := hf.below (below_put_dfr hL (.deferred none) hN)
    have hbb := (((HBE.out.trans (four_below (N := w.heap.size) (.int .i64 0) (.int .i64 0) (.int .i64 0) (.bool false) (Nat.le_refl _))).trans (below_drew1 (Below.refl _ _))).trans (below_put_dfr hL (.deferred none) (by omega)))
    have hV := HV.out
    have hsn : search l1 l0_5 = none := by
     rw [search, List.findSome?_eq_none_iff]
     intro p hp
     rw [HNO.out p hp]
     rfl
    rw [brokenV, HQ.out, HA.out, hsn] at hV
    simp only [if_true, Bool.false_eq_true, if_false, Prod.mk.injEq] at hV
    obtain ⟨rfl, rfl, rfl, rfl, rfl⟩ := hV
    refine ⟨by simp, .inl ⟨w3.heap.size, _, rfl, run_takeDeferred hL.dfr, ?_⟩⟩
    exact ⟨_, results20 (p4 := ⟨w.heap.size + 1 + 1, 0, none⟩) (p5 := ⟨w.heap.size + 1 + 1 + 1, 0, none⟩) (p6 := ⟨w.heap.size + 1 + 1 + 1 + 1, 0, none⟩) (p7 := ⟨w.heap.size + 1 + 1 + 1 + 1 + 1, 0, none⟩) rfl rfl rfl rfl rfl hf2.ba.cell hf2.bb.cell hf2.bk.cell hf2.bo.cell, rfl, hbb⟩
   case stop =>
    rintro c W2 r r' hl2 ⟨rfl, pre, rest, i, j, k, hpre, hno, hk, hbox, hbe⟩ hl3
    refine wpIn_wide.2 ?_
    obtain ⟨W3, hW3⟩ : ∃ W3, W2.putObj (w3.heap.size + 1) (.loop r') = W3 := ⟨_, rfl⟩
    have hpb : Below (w.heap.size + 6) W2 W3 := by rw [← hW3]; exact put_below r' hl2 (by have := HZ2.out; have := HS3.out; omega)
    have hbox3 := hbox.below hpb
    have ca := hbox3.ba.cell
    have cb := hbox3.bb.cell
    have ck := hbox3.bk.cell
    have co := hbox3.bo.cell
    have fa := hbox3.ba.frozen
    have fb := hbox3.bb.frozen
    have fk := hbox3.bk.frozen
    have fo := hbox3.bo.frozen
    have HD := Aside0.mk hl3
    rw [hW3] at HD ⊢
    have HBE := Aside0.mk (hbe.trans (hpb.mono (by omega)))
    have HBX := Aside0.mk hbox3
    have HNO := Aside0.mk hno
    have HPR := Aside0.mk hpre
    have HK := Aside0.mk hk
    clear hW3 hpb hbox3 hbox hbe hno hl2 hl3 hpre hk
    go_wp2
    go_region
    go_wp2
    rw [Exit.noGoto_ret]
    have hN : w.heap.size + 6 ≤ w3.heap.size := by have := HZ2.out; have := HS3.out; omega
    have hL := loop_drew (loop_setCell (loop_setCell (loop_setCell (loop_setCell HD.out ⟨w.heap.size + 1 + 1, 0, none⟩ (.int .i64 i) (by show w.heap.size + 1 + 1 < _; omega)) ⟨w.heap.size + 1 + 1 + 1, 0, none⟩ (.int .i64 j) (by show w.heap.size + 1 + 1 + 1 < _; omega)) ⟨w.heap.size + 1 + 1 + 1 + 1, 0, none⟩ (.int .i64 k) (by show w.heap.size + 1 + 1 + 1 + 1 < _; omega)) ⟨w.heap.size + 1 + 1 + 1 + 1 + 1, 0, none⟩ (.bool true) (by show w.heap.size + 1 + 1 + 1 + 1 + 1 < _; omega))
    have hf := (four_set HBX.out i j k true).below (below_drew1 (Below.refl _ _))
    have hf2 := hf.below (below_put_dfr hL (.deferred none) hN)
    have hbb := (((HBE.out.trans (four_below (N := w.heap.size) (.int .i64 i) (.int .i64 j) (.int .i64 k) (.bool true) (Nat.le_refl _))).trans (below_drew1 (Below.refl _ _))).trans (below_put_dfr hL (.deferred none) (by omega)))
    have hV := HV.out
    have hsn : search l1 l0_5 = some (i, j, k) := by
     rw [search, ← HPR.out, List.findSome?_append, List.findSome?_eq_none_iff.2 (fun p hp => by rw [HNO.out p hp]; rfl), List.findSome?_cons, HK.out]
     rfl
    rw [brokenV, HQ.out, HA.out, hsn] at hV
    simp only [if_true, Bool.false_eq_true, if_false, Prod.mk.injEq] at hV
    obtain ⟨rfl, rfl, rfl, rfl, rfl⟩ := hV
    refine ⟨by simp, .inl ⟨w3.heap.size, _, rfl, run_takeDeferred hL.dfr, ?_⟩⟩
    exact ⟨_, results20 (p4 := ⟨w.heap.size + 1 + 1, 0, none⟩) (p5 := ⟨w.heap.size + 1 + 1 + 1, 0, none⟩) (p6 := ⟨w.heap.size + 1 + 1 + 1 + 1, 0, none⟩) (p7 := ⟨w.heap.size + 1 + 1 + 1 + 1 + 1, 0, none⟩) rfl rfl rfl rfl rfl hf2.ba.cell hf2.bb.cell hf2.bk.cell hf2.bo.cell, rfl, hbb⟩
   case call =>
    intro fn rc hrc
    obtain ⟨W1, hW1⟩ : ∃ W1, (w3.alloc (.deferred (some []))).alloc (.loop (rc .ready none)) = W1 := ⟨_, rfl⟩
    rw [hW1]
    have hl1 : LoopAt W1 w3.heap.size (rc .ready none) := by rw [← hW1]; exact LoopAt.new w3 _
    have hb1 : Below w3.heap.size w3 W1 := by rw [← hW1]; exact ((Below.refl _ _).alloc (Nat.le_refl _) _).alloc (by simp) _
    have hN := HZ2.out
    have hS := HS3.out
    refine (pairs1_in Fence.wide _ trivial rfl (by decide) (w3.heap.size + 1) w2.heap.size l1.length (w2.heap.size + 1) hlen
     (fun pre W => LoopAt W w3.heap.size (rc .ready none) ∧ Jb w w.heap.size A0_4 l0_4.length c0_4 A0_5 c0_5 l0_5 A1 c1 l1 pre W)
     (fun _ W => ∃ c, LoopAt W w3.heap.size (rc .done (some c)) ∧ Sb w w.heap.size A0_4 l0_4.length c0_4 A0_5 c0_5 l0_5 A1 c1 l1 c W) (by omega) ?_ W1 ?_ ?_).mono ?_
    ·rintro pre i j rest W ⟨hlW, hbox, hbe, hno⟩ hpre
     obtain ⟨hij, hjn⟩ := pairs_mem (i := i) (j := j) (m := l1.length) (by rw [← hpre]; simp)
     refine YieldAt.mono (yield_round hrc hlW rfl (fun W' => Jb w w.heap.size A0_4 l0_4.length c0_4 A0_5 c0_5 l0_5 A1 c1 l1 (pre ++ [(i, j)]) W' ∧ Below (w2.heap.size + 1) W W') (Sb w w.heap.size A0_4 l0_4.length c0_4 A0_5 c0_5 l0_5 A1 c1 l1) ?_) ?_
     ·intro K hK
      have HK := Aside0.mk hK
      clear hK
      gi_wp2
      refine HK.out _ _ hlW (fun r' hr' => ?_)
      clear HK
      obtain ⟨WB, hWB⟩ : ∃ WB, W.putObj (w3.heap.size + 1) (.loop r') = WB := ⟨_, rfl⟩
      have hlB : LoopAt WB w3.heap.size (rc .busy none) := by rw [← hWB, hr']; exact hlW.put _
      have hbB : Below w3.heap.size W WB := by rw [← hWB]; exact put_below r' hlW (Nat.le_refl _)
      have hltB := hlB.lt
      rw [hWB]
      have hboxB := hbox.below (hbB.mono (by omega))
      have hbeB := hbe.trans (hbB.mono (by omega))
      obtain ⟨ai, Ai, ci, ei, _, _, _, hxi, hli, hgi⟩ := at_T49 (Kd.C_below H1.out hbeB) i (by omega) (by omega)
      obtain ⟨aj, Aj, cj, ej, _, _, _, hxj, hlj, hgj⟩ := at_T49 (Kd.C_below H1.out hbeB) j (by omega) (by omega)
      cases ei
      cases ej
      simp only [Int.toNat_natCast] at hxi hxj
      have hll := hboxB.hl
      have HLB := Aside0.mk hlB
      have HBX := Aside0.mk hboxB
      have HBE := Aside0.mk hbeB
      have HGI := Aside0.mk hgi
      have HGJ := Aside0.mk hgj
      have HNO := Aside0.mk hno
      have HPR := Aside0.mk hpre
      have HBW := Aside0.mk (hbB.mono (show w2.heap.size + 1 ≤ w3.heap.size by omega))
      have HLT := Aside0.mk hltB
      have hjl : (j : Int) < (l1.length : Int) := by omega
      have hil : (i : Int) < (l1.length : Int) := by omega
      clear hlB hbB hWB hboxB hbeB hgi hgj hno hpre hbox hbe hlW hr' hltB
      gi_wp2
      refine wpIn_region_any_round ?lo (by kernel_rfl) (by kernel_rfl) ?_
      case lo => rintro ⟨a, w, h⟩; exact h
      obtain ⟨S, hS⟩ : ∃ S : World → Prop, S = fun w' => Below WB.heap.size WB w' ∧ w'.cell? ⟨w.heap.size + 1, 0, none⟩ = some (.slice (some ai) l1.length c1) ∧ w'.cell? ⟨(ai.add (i * 4)).block, (ai.add (i * 4)).off + 3, none⟩ = some (.slice Ai (rd_T49 l1 i).f3.length ci) ∧ w'.cell? ⟨(ai.add (j * 4)).block, (ai.add (j * 4)).off + 3, none⟩ = some (.slice Aj (rd_T49 l1 j).f3.length cj) := ⟨_, rfl⟩
      refine wpAny_of_held (S := fun w' => Below WB.heap.size WB w' ∧ w'.cell? ⟨w.heap.size + 1, 0, none⟩ = some (.slice (some ai) l1.length c1) ∧ w'.cell? ⟨(ai.add (i * 4)).block, (ai.add (i * 4)).off + 3, none⟩ = some (.slice Ai (rd_T49 l1 i).f3.length ci) ∧ w'.cell? ⟨(ai.add (j * 4)).block, (ai.add (j * 4)).off + 3, none⟩ = some (.slice Aj (rd_T49 l1 j).f3.length cj)) 14 (Array.replicate 14 false) _ _ ?_
      have hS0 : (fun w' : World => Below WB.heap.size WB w' ∧ w'.cell? ⟨w.heap.size + 1, 0, none⟩ = some (.slice (some ai) l1.length c1) ∧ w'.cell? ⟨(ai.add (i * 4)).block, (ai.add (i * 4)).off + 3, none⟩ = some (.slice Ai (rd_T49 l1 i).f3.length ci) ∧ w'.cell? ⟨(ai.add (j * 4)).block, (ai.add (j * 4)).off + 3, none⟩ = some (.slice Aj (rd_T49 l1 j).f3.length cj)) WB.drew := ⟨below_drew1 (Below.refl _ _), hll, hxi, hxj⟩
      refine wpAnyH_take (i := 0) (oi := ⟨some 30, _, _, _, _, _⟩) (v := ?_) rfl (by kernel_rfl) (by kernel_rfl) (by kernel_rfl) (fun _ _ _ h => h) (Or.inl ⟨by rfl, ?_⟩) hS0 ?_
      rotate_left
      ·intro w' hw'
       obtain ⟨_, c1, c2, c3⟩ := hw'
       go_simp
       try with_reducible rfl
      simp only [Act.put, List.setIfInBounds_toArray, List.set_cons_zero, List.set_cons_succ]
      refine wpAnyH_take (i := 1) (oi := ⟨some 31, _, _, _, _, _⟩) (v := ?_) rfl (by kernel_rfl) (by kernel_rfl) (by kernel_rfl) (fun _ _ _ h => h) (Or.inl ⟨by rfl, ?_⟩) hS0 ?_
      rotate_left
      ·intro w' hw'
       obtain ⟨_, c1, c2, c3⟩ := hw'
       go_simp
       try with_reducible rfl
      simp only [Act.put, List.setIfInBounds_toArray, List.set_cons_zero, List.set_cons_succ]
      refine wpAnyH_take (i := 2) (oi := ⟨some 32, _, _, _, _, _⟩) (v := ?_) rfl (by kernel_rfl) (by kernel_rfl) (by kernel_rfl) (fun _ _ _ h => h) (Or.inl ⟨by rfl, ?_⟩) hS0 ?_
      rotate_left
      ·intro w' hw'
       obtain ⟨_, c1, c2, c3⟩ := hw'
       go_simp
       try with_reducible rfl
      simp only [Act.put, List.setIfInBounds_toArray, List.set_cons_zero, List.set_cons_succ]
      refine wpAnyH_take (i := 3) (oi := ⟨some 33, _, _, _, _, _⟩) (v := ?_) rfl (by kernel_rfl) (by kernel_rfl) (by kernel_rfl) (fun _ _ _ h => h) (Or.inl ⟨by rfl, ?_⟩) hS0 ?_
      rotate_left
      ·intro w' hw'
       obtain ⟨_, c1, c2, c3⟩ := hw'
       go_simp
       try with_reducible rfl
      simp only [Act.put, List.setIfInBounds_toArray, List.set_cons_zero, List.set_cons_succ]
      refine wpAnyH_take (i := 4) (oi := ⟨some 34, _, _, _, _, _⟩) (v := ?_) rfl (by kernel_rfl) (by kernel_rfl) (by kernel_rfl) (fun _ _ _ h => h) (Or.inl ⟨by rfl, ?_⟩) hS0 ?_
      rotate_left
      ·intro w' hw'
       obtain ⟨_, c1, c2, c3⟩ := hw'
       go_simp
       try with_reducible rfl
      simp only [Act.put, List.setIfInBounds_toArray, List.set_cons_zero, List.set_cons_succ]
      refine wpAnyH_take (i := 5) (oi := ⟨some 35, _, _, _, _, _⟩) (v := ?_) rfl (by kernel_rfl) (by kernel_rfl) (by kernel_rfl) (fun _ _ _ h => h) (Or.inl ⟨by rfl, ?_⟩) hS0 ?_
      rotate_left
      ·intro w' hw'
       obtain ⟨_, c1, c2, c3⟩ := hw'
       go_simp
       try with_reducible rfl
      simp only [Act.put, List.setIfInBounds_toArray, List.set_cons_zero, List.set_cons_succ]
      refine wpAnyH_take (i := 6) (oi := ⟨some 36, _, _, _, _, _⟩) (v := ?_) rfl (by kernel_rfl) (by kernel_rfl) (by kernel_rfl) (fun _ _ _ h => h) (Or.inl ⟨by rfl, ?_⟩) hS0 ?_
      rotate_left
      ·intro w' hw'
       obtain ⟨_, c1, c2, c3⟩ := hw'
       go_simp
       try with_reducible rfl
      simp only [Act.put, List.setIfInBounds_toArray, List.set_cons_zero, List.set_cons_succ]
      refine wpAnyH_take (i := 7) (oi := ⟨some 37, _, _, _, _, _⟩) (v := ?_) rfl (by kernel_rfl) (by kernel_rfl) (by kernel_rfl) (fun _ _ _ h => h) (Or.inl ⟨by rfl, ?_⟩) hS0 ?_
      rotate_left
      ·intro w' hw'
       obtain ⟨_, c1, c2, c3⟩ := hw'
       go_simp
       try with_reducible rfl
      simp only [Act.put, List.setIfInBounds_toArray, List.set_cons_zero, List.set_cons_succ]
      refine wpAnyH_take (i := 8) (oi := ⟨some 38, _, _, _, _, _⟩) (v := ?_) rfl (by kernel_rfl) (by kernel_rfl) (by kernel_rfl) (fun _ _ _ h => h) (Or.inl ⟨by rfl, ?_⟩) hS0 ?_
      rotate_left
      ·intro w' hw'
       obtain ⟨_, c1, c2, c3⟩ := hw'
       go_simp
       try with_reducible rfl
      simp only [Act.put, List.setIfInBounds_toArray, List.set_cons_zero, List.set_cons_succ]
      refine wpAnyH_take (i := 9) (oi := ⟨some 39, _, _, _, _, _⟩) (v := ?_) rfl (by kernel_rfl) (by kernel_rfl) (by kernel_rfl) (fun _ _ _ h => h) (Or.inl ⟨by rfl, ?_⟩) hS0 ?_
      rotate_left
      ·intro w' hw'
       obtain ⟨_, c1, c2, c3⟩ := hw'
       go_simp
       try with_reducible rfl
      simp only [Act.put, List.setIfInBounds_toArray, List.set_cons_zero, List.set_cons_succ]
      have mk : ∀ w', Below WB.heap.size WB w' → Below WB.heap.size WB w' ∧ w'.cell? ⟨w.heap.size + 1, 0, none⟩ = some (.slice (some ai) l1.length c1) ∧ w'.cell? ⟨(ai.add (i * 4)).block, (ai.add (i * 4)).off + 3, none⟩ = some (.slice Ai (rd_T49 l1 i).f3.length ci) ∧ w'.cell? ⟨(ai.add (j * 4)).block, (ai.add (j * 4)).off + 3, none⟩ = some (.slice Aj (rd_T49 l1 j).f3.length cj) := fun w' h => ⟨h, (h.cell (World.block_lt_of_cell? _ _ hll)).trans hll, (h.cell (World.block_lt_of_cell? _ _ hxi)).trans hxi, (h.cell (World.block_lt_of_cell? _ _ hxj)).trans hxj⟩
      have MK := Aside0.mk mk
      clear mk hS0
      refine wpAnyH_ready (rs := [10, 11]) (by kernel_rfl) (by simp) ?_
      refine AllReadyH.cons (o := ⟨some 12, _, _, _, _, _⟩) rfl (fun K hK => ?_) (AllReadyH.cons (o := ⟨some 13, _, _, _, _, _⟩) rfl (fun K hK => ?_) AllReadyH.nil)
      focus
       go_simp
       refine hK.out _ _ (MK.out _ (by repeat (first | exact Below.refl _ _ | apply below_drew1 | apply below_alloc | (refine Below.setCell ?_ (by show _ ≤ _; simp) _)))) (fun hS1 => ?_)
       clear hK K hS1
       refine wpAnyH_ready (rs := [11]) (by kernel_rfl) (by simp) (AllReadyH.cons (o := ⟨some 13, _, _, _, _, _⟩) rfl (fun K hK => ?_) AllReadyH.nil)
       go_simp
       refine hK.out _ _ (MK.out _ (by repeat (first | exact Below.refl _ _ | apply below_drew1 | apply below_alloc | (refine Below.setCell ?_ (by show _ ≤ _; simp) _)))) (fun hS1 => ?_)
       clear hK K hS1
       refine wpAnyH_ready (rs := [12]) (by kernel_rfl) (by simp) (AllReadyH.cons (o := ⟨none, _, _, _, _, _⟩) rfl (fun K hK => ?_) AllReadyH.nil)
       go_simp
       refine hK.out _ _ (MK.out _ (by repeat (first | exact Below.refl _ _ | apply below_drew1 | apply below_alloc | (refine Below.setCell ?_ (by show _ ≤ _; simp) _)))) (fun hS1 => ?_)
       clear hK K hS1
       refine wpAnyH_ready (rs := [13]) (by kernel_rfl) (by simp) (AllReadyH.cons (o := ⟨none, _, _, _, _, _⟩) rfl (fun K hK => ?_) AllReadyH.nil)
       go_simp
       refine hK.out _ _ (MK.out _ (by repeat (first | exact Below.refl _ _ | apply below_drew1 | apply below_alloc | (refine Below.setCell ?_ (by show _ ≤ _; simp) _)))) (fun hS1 => ?_)
       clear hK K hS1
       refine wpAnyH_done (by kernel_rfl) ?_ _
       have hB4 : Below WB.heap.size WB ((WB.alloc (.cells #[.slice Ai (rd_T49 l1 i).f3.length ci] 26)).alloc (.cells #[.slice Aj (rd_T49 l1 j).f3.length cj] 26)).drew := (by repeat (first | exact Below.refl _ _ | apply below_drew1 | apply below_alloc | (refine Below.setCell ?_ (by show _ ≤ _; simp) _)))
       have hX4 : Boxed ((WB.alloc (.cells #[.slice Ai (rd_T49 l1 i).f3.length ci] 26)).alloc (.cells #[.slice Aj (rd_T49 l1 j).f3.length cj] 26)).drew (WB.heap.size) 26 (.slice Ai (rd_T49 l1 i).f3.length ci) := (Boxed.new WB 26 _).alloc _
       have hY4 : Boxed ((WB.alloc (.cells #[.slice Ai (rd_T49 l1 i).f3.length ci] 26)).alloc (.cells #[.slice Aj (rd_T49 l1 j).f3.length cj] 26)).drew (WB.heap.size + 1) 26 (.slice Aj (rd_T49 l1 j).f3.length cj) := by have := Boxed.new (WB.alloc (.cells #[.slice Ai (rd_T49 l1 i).f3.length ci] 26)) 26 (.slice Aj (rd_T49 l1 j).f3.length cj); rwa [World.size_alloc] at this
       generalize ((WB.alloc (.cells #[.slice Ai (rd_T49 l1 i).f3.length ci] 26)).alloc (.cells #[.slice Aj (rd_T49 l1 j).f3.length cj] 26)).drew = W4 at hB4 hX4 hY4 ⊢
       have hg1 : WB.heap.size ≤ WB.heap.size := by omega
       have hg2 : WB.heap.size ≤ WB.heap.size + 1 := by omega
       generalize WB.heap.size + 1 = bY at hY4 hg2 ⊢
       obtain ⟨bX, hbX⟩ : ∃ bX, WB.heap.size = bX := ⟨_, rfl⟩
       rw [hbX] at hX4 ⊢
       clear hbX hg1 hg2
      rotate_left
      focus
       go_simp
       refine hK.out _ _ (MK.out _ (by repeat (first | exact Below.refl _ _ | apply below_drew1 | apply below_alloc | (refine Below.setCell ?_ (by show _ ≤ _; simp) _)))) (fun hS1 => ?_)
       clear hK K hS1
       refine wpAnyH_ready (rs := [10]) (by kernel_rfl) (by simp) (AllReadyH.cons (o := ⟨some 12, _, _, _, _, _⟩) rfl (fun K hK => ?_) AllReadyH.nil)
       go_simp
       refine hK.out _ _ (MK.out _ (by repeat (first | exact Below.refl _ _ | apply below_drew1 | apply below_alloc | (refine Below.setCell ?_ (by show _ ≤ _; simp) _)))) (fun hS1 => ?_)
       clear hK K hS1
       refine wpAnyH_ready (rs := [12]) (by kernel_rfl) (by simp) (AllReadyH.cons (o := ⟨none, _, _, _, _, _⟩) rfl (fun K hK => ?_) AllReadyH.nil)
       go_simp
       refine hK.out _ _ (MK.out _ (by repeat (first | exact Below.refl _ _ | apply below_drew1 | apply below_alloc | (refine Below.setCell ?_ (by show _ ≤ _; simp) _)))) (fun hS1 => ?_)
       clear hK K hS1
       refine wpAnyH_ready (rs := [13]) (by kernel_rfl) (by simp) (AllReadyH.cons (o := ⟨none, _, _, _, _, _⟩) rfl (fun K hK => ?_) AllReadyH.nil)
       go_simp
       refine hK.out _ _ (MK.out _ (by repeat (first | exact Below.refl _ _ | apply below_drew1 | apply below_alloc | (refine Below.setCell ?_ (by show _ ≤ _; simp) _)))) (fun hS1 => ?_)
       clear hK K hS1
       refine wpAnyH_done (by kernel_rfl) ?_ _
       have hB4 : Below WB.heap.size WB ((WB.alloc (.cells #[.slice Aj (rd_T49 l1 j).f3.length cj] 26)).alloc (.cells #[.slice Ai (rd_T49 l1 i).f3.length ci] 26)).drew := (by repeat (first | exact Below.refl _ _ | apply below_drew1 | apply below_alloc | (refine Below.setCell ?_ (by show _ ≤ _; simp) _)))
       have hY4 : Boxed ((WB.alloc (.cells #[.slice Aj (rd_T49 l1 j).f3.length cj] 26)).alloc (.cells #[.slice Ai (rd_T49 l1 i).f3.length ci] 26)).drew (WB.heap.size) 26 (.slice Aj (rd_T49 l1 j).f3.length cj) := (Boxed.new WB 26 _).alloc _
       have hX4 : Boxed ((WB.alloc (.cells #[.slice Aj (rd_T49 l1 j).f3.length cj] 26)).alloc (.cells #[.slice Ai (rd_T49 l1 i).f3.length ci] 26)).drew (WB.heap.size + 1) 26 (.slice Ai (rd_T49 l1 i).f3.length ci) := by have := Boxed.new (WB.alloc (.cells #[.slice Aj (rd_T49 l1 j).f3.length cj] 26)) 26 (.slice Ai (rd_T49 l1 i).f3.length ci); rwa [World.size_alloc] at this
       generalize ((WB.alloc (.cells #[.slice Aj (rd_T49 l1 j).f3.length cj] 26)).alloc (.cells #[.slice Ai (rd_T49 l1 i).f3.length ci] 26)).drew = W4 at hB4 hX4 hY4 ⊢
       have hg1 : WB.heap.size ≤ WB.heap.size + 1 := by omega
       have hg2 : WB.heap.size ≤ WB.heap.size := by omega
       generalize WB.heap.size + 1 = bX at hX4 hg1 ⊢
       obtain ⟨bY, hbY⟩ : ∃ bY, WB.heap.size = bY := ⟨_, rfl⟩
       rw [hbY] at hY4 ⊢
       clear hbY hg1 hg2
      --TAIL
      all_goals
       have hl4 := HLB.out
       have hbx4 := (HBX.out.below (hB4.mono (by have := HLT.out; omega)))
       have h54 := hbx4.h5
       have hx4 := hX4.cell
       have hy4 := hY4.cell
       have HX4 := Aside0.mk hX4
       have HY4 := Aside0.mk hY4
       have HB4 := Aside0.mk hB4
       have HL4 := Aside0.mk (loop_below hl4 hB4)
       have HBX4 := Aside0.mk hbx4
       clear hX4 hY4 hB4 hl4 hbx4 MK hll hxi hxj
       gi_wp2
       have hlen5 : l0_5.length ≤ 9223372036854775807 := H5.out.2.1
       clear h54 hx4 hy4
       gi_loopw [43] (fun v43 wr => ∃ n : Nat, v43 = .int .i64 n ∧ n ≤ l0_5.length ∧ Aside0 (∀ k, k < n → brkR (rowAt l1 i) (rowAt l1 j) (rd_T29 l0_5 k) = false) ∧ Aside0 (Below W4.heap.size W4 wr)) (fun v43 _ => l0_5.length - (intOf v43).toNat)
       case atStart => exact ⟨0, rfl, Nat.zero_le _, ⟨fun k hk => absurd hk (by omega)⟩, ⟨Below.refl _ _⟩⟩
       case round =>
        obtain ⟨n, rfl, hn, HN, HB⟩ := hrel
        by_cases hlt : n < l0_5.length
        ·have HP := Aside0.mk hlt
         have hdl : decide ((n : Int) < (l0_5.length : Int)) = true := by simp; omega
         have hz4 := HB4.out.size
         have hzT := HLT.out
         have hzr := HB.out.size
         have hbe : Below w.heap.size w wr := (HBE.out.trans (HB4.out.mono (by omega))).trans (HB.out.mono (by omega))
         obtain ⟨ad5, B0, d0, B2, d2, e5, g0, g1, g2, g3, gl0, gg0, gl2, gg2⟩ := at_T29 (Kd.C_below H5.out hbe) n (by omega) (by omega)
         cases e5
         simp only [Int.toNat_natCast] at g0 g1 g2 g3
         have hv := chk_vld HQ.out n hlt
         have hf := vld_from hv
         have ht := vld_to hv
         have hrx := row_len HA.out i (by omega)
         have hry := row_len HA.out j (by omega)
         obtain ⟨dd, hdd⟩ : ∃ dd, rd_T29 l0_5 n = dd := ⟨_, rfl⟩
         rw [hdd] at g0 g1 g2 g3 gl0 gg0 gl2 gg2 hf ht
         have HDD := Aside0.mk hdd
         obtain ⟨X, hX⟩ : ∃ X, (rd_T49 l1 i).f3 = X := ⟨_, rfl⟩
         obtain ⟨Y, hY⟩ : ∃ Y, (rd_T49 l1 j).f3 = Y := ⟨_, rfl⟩
         have hx4 := HX4.out
         have hy4 := HY4.out
         have hgi := HGI.out
         have hgj := HGJ.out
         rw [hX] at hrx hx4 hgi
         rw [hY] at hry hy4 hgj
         have HXE := Aside0.mk hX
         have HYE := Aside0.mk hY
         obtain ⟨Wd, hWd⟩ : ∃ Wd, wr.alloc (.cells #[.slice B0 dd.f0.length d0, .string dd.f1, .slice B2 dd.f2.length d2, .int .i64 dd.f3] 29) = Wd := ⟨_, rfl⟩
         have hbd : Below wr.heap.size wr Wd := by rw [← hWd]; exact below_alloc (Below.refl _ _) _
         have hbd4 : Below W4.heap.size W4 Wd := HB.out.trans (hbd.mono hzr)
         have hgid := Kd.C_below (Kd.C_below hgi HB4.out) hbd4
         have hgjd := Kd.C_below (Kd.C_below hgj HB4.out) hbd4
         have hxd : Boxed Wd bX 26 (.slice Ai X.length ci) := (hbd4.block _ hx4.lt).trans hx4
         have hyd : Boxed Wd bY 26 (.slice Aj Y.length cj) := (hbd4.block _ hy4.lt).trans hy4
         have hld : bX < Wd.heap.size := (Array.getElem?_eq_some_iff.1 hxd).1
         have hmd : bY < Wd.heap.size := (Array.getElem?_eq_some_iff.1 hyd).1
         have hC : Calls Try.prog 38 #[.slice B2 dd.f2.length d2, .func (.func 39) #[] #[.pointer (some ⟨bX, 0, none⟩), .pointer (some ⟨bY, 0, none⟩)]] Wd fun e w' => e = .returned (.bool (dd.f2.any fun f => rd X f != rd Y f)) ∧ Below Wd.heap.size Wd w' := by
          refine contains3_calls 39 #[.pointer (some ⟨bX, 0, none⟩), .pointer (some ⟨bY, 0, none⟩)] _ B2 d2 dd.f2 Wd (Kd.C_below gg2 hbd) enters39 ?_
          intro x hx W' hB'
          have q := hf x hx
          exact broken2_calls bX bY X Y Ai Aj ci cj x W' (Boxed.cell ((hB'.block _ hld).trans hxd)) (Boxed.cell ((hB'.block _ hmd).trans hyd)) (Kd.C_below hgid hB') (Kd.C_below hgjd hB') q.1 (by rw [hrx]; exact q.2) (by rw [hry]; exact q.2)
         have hb15 : Wd.heap[wr.heap.size]? = some (.cells #[.slice B0 dd.f0.length d0, .string dd.f1, .slice B2 dd.f2.length d2, .int .i64 dd.f3] 29) := by rw [← hWd]; exact World.alloc_heap_new _ _
         have c15 : Wd.cell? ⟨wr.heap.size, 2, none⟩ = some (.slice B2 dd.f2.length d2) := (blk_cell hb15 2).trans rfl
         have HB15 := Aside0.mk hb15
         have HC := Aside0.mk hC
         have HG1 := Aside0.mk hgid
         have HG2 := Aside0.mk hgjd
         have HXD := Aside0.mk hxd
         have HYD := Aside0.mk hyd
         have HBD := Aside0.mk hbd
         have HBD4 := Aside0.mk hbd4
         have HTO := Aside0.mk ht
         have HRX := Aside0.mk hrx
         have HRY := Aside0.mk hry
         have HWD := Aside0.mk hWd
         clear hb15 hbd hbd4 hgid hgjd hxd hyd hld hmd hC hX hY hdd hx4 hy4 hgi hgj hf ht hv hrx hry hbe hz4 hzT hzr gl0 gg0 gl2 gg2
         cases hA : (dd.f2.any fun f => rd X f != rd Y f)
         ·have HAN := Aside0.mk hA
          gi_wp2_with (first | (refine ⟨trivial, ?_⟩; gi_at_call 38; refine (callsIn_round HC.out).mono ?_; rintro e w5 ⟨rfl, hb5⟩; rw [hA]; refine Aside0.out (p := _) ?_))
          refine ⟨?_⟩
          have hbox5 := HBX4.out.below ((HBD4.out.mono (by have := HLT.out; have := HB4.out.size; have := HZ2.out; have := HS3.out; omega)).trans (hb5.mono (by have := HLT.out; have := HB4.out.size; have := HZ2.out; have := HS3.out; have := HBD4.out.size; omega)))
          have cx := Boxed.cell ((hb5.block _ HXD.out.lt).trans HXD.out)
          have cy := Boxed.cell ((hb5.block _ HYD.out.lt).trans HYD.out)
          have h15 := (hb5.block _ (Array.getElem?_eq_some_iff.1 HB15.out).1).trans HB15.out
          have c15t : w5.cell? ⟨wr.heap.size, 3, none⟩ = some (.int .i64 dd.f3) := (blk_cell h15 3).trans rfl
          have q0 := HTO.out.1
          have q1 : dd.f3 < (X.length : Int) := by rw [HRX.out]; exact HTO.out.2
          have q2 : dd.f3 < (Y.length : Int) := by rw [HRY.out]; exact HTO.out.2
          obtain ⟨adx, ex, hxc⟩ := Kd.at_int (Kd.C_below HG1.out hb5) dd.f3 q0 q1
          obtain ⟨ady, ey, hyc⟩ := Kd.at_int (Kd.C_below HG2.out hb5) dd.f3 q0 q2
          cases ex
          cases ey
          replace q0 := eq_true q0
          replace q1 := eq_true q1
          replace q2 := eq_true q2
          have HB5 := Aside0.mk (HBD4.out.trans (hb5.mono HBD4.out.size))
          have ca := hbox5.ba.cell
          have cb := hbox5.bb.cell
          have ck := hbox5.bk.cell
          have co := hbox5.bo.cell
          have fa := hbox5.ba.frozen
          have fb := hbox5.bb.frozen
          have fk := hbox5.bk.frozen
          have fo := hbox5.bo.frozen
          have HBX5 := Aside0.mk hbox5
          clear hbox5 hb5 h15 hWd c15
          cases hT : (rd X dd.f3 != rd Y dd.f3)
          ·have HTN := Aside0.mk hT
           gi_wp2
           refine wpIn_region_quiet_round (by kernel_rfl) (by kernel_rfl) (by kernel_rfl) ?_
           repeat (go_big_quiet_step (fail))
           refine wpQuiet_nil ?_
           intro _ hw'
           obtain ⟨nq, hw''⟩ := hw'
           subst hw''
           gi_wp2
           go_roundw
           case rel =>
            refine ⟨n + 1, by go_num, HP.out, ⟨fun k hk => ?_⟩, ⟨by repeat (first | exact HB5.out | apply pw_below_drewN | apply below_drew1)⟩⟩
            rcases Nat.lt_or_ge k n with h | h
            ·exact HN.out k h
            ·obtain rfl : k = n := by omega
             rw [brkR, HDD.out, rowAt, rowAt, HXE.out, HYE.out, HAN.out]
             rw [HTN.out]; rfl
           case measure => have := HP.out; simp [intOf]; omega
          ·have HTN := Aside0.mk hT
           gi_wp2
           refine wpIn_region_quiet_round (by kernel_rfl) (by kernel_rfl) (by kernel_rfl) ?_
           repeat (go_big_quiet_step (fail))
           refine wpQuiet_nil ?_
           intro _ hw'
           obtain ⟨nq, hw''⟩ := hw'
           subst hw''
           gi_wp2
           have hN := HZ2.out
           have hS := HS3.out
           have hL6 := loop_below (loop_below HL4.out HB5.out) (pw_below_drewN (n := nq) (Below.refl _ _))
           have hB6 := fun M => pw_below_drewN (n := nq) (Below.refl M w5)
           have hL7 := loop_setCell (loop_setCell (loop_setCell (loop_setCell hL6 ⟨w.heap.size + 1 + 1, 0, none⟩ (.int .i64 i) (by show w.heap.size + 1 + 1 < _; omega)) ⟨w.heap.size + 1 + 1 + 1, 0, none⟩ (.int .i64 j) (by show w.heap.size + 1 + 1 + 1 < _; omega)) ⟨w.heap.size + 1 + 1 + 1 + 1, 0, none⟩ (.int .i64 n) (by show w.heap.size + 1 + 1 + 1 + 1 < _; omega)) ⟨w.heap.size + 1 + 1 + 1 + 1 + 1, 0, none⟩ (.bool true) (by show w.heap.size + 1 + 1 + 1 + 1 + 1 < _; omega)
           have hf6 := four_set (HBX5.out.below (hB6 _)) i j n true
           refine ⟨hL7, fun r' _ => ?_⟩
           refine ⟨rfl, pre, rest, i, j, n, HPR.out, HNO.out, firstB_some HP.out HN.out ?_, hf6.below (put_below r' hL7 (by omega)), ?_⟩
           ·rw [brkR, HDD.out, rowAt, rowAt, HXE.out, HYE.out, HAN.out, HTN.out]
            rfl
           ·have hzT := HLT.out
            have hz4 := HB4.out.size
            exact ((((HBE.out.trans (HB4.out.mono (by omega))).trans (HB5.out.mono (by omega))).trans (hB6 _)).trans (four_below _ _ _ _ (Nat.le_refl _))).trans (put_below r' hL7 (by omega))
         ·have HAN := Aside0.mk hA
          gi_wp2_with (first | (refine ⟨trivial, ?_⟩; gi_at_call 38; refine (callsIn_round HC.out).mono ?_; rintro e w5 ⟨rfl, hb5⟩; rw [hA]; refine Aside0.out (p := _) ?_))
          refine ⟨?_⟩
          have hbox5 := HBX4.out.below ((HBD4.out.mono (by have := HLT.out; have := HB4.out.size; have := HZ2.out; have := HS3.out; omega)).trans (hb5.mono (by have := HLT.out; have := HB4.out.size; have := HZ2.out; have := HS3.out; have := HBD4.out.size; omega)))
          have cx := Boxed.cell ((hb5.block _ HXD.out.lt).trans HXD.out)
          have cy := Boxed.cell ((hb5.block _ HYD.out.lt).trans HYD.out)
          have h15 := (hb5.block _ (Array.getElem?_eq_some_iff.1 HB15.out).1).trans HB15.out
          have c15t : w5.cell? ⟨wr.heap.size, 3, none⟩ = some (.int .i64 dd.f3) := (blk_cell h15 3).trans rfl
          have q0 := HTO.out.1
          have q1 : dd.f3 < (X.length : Int) := by rw [HRX.out]; exact HTO.out.2
          have q2 : dd.f3 < (Y.length : Int) := by rw [HRY.out]; exact HTO.out.2
          obtain ⟨adx, ex, hxc⟩ := Kd.at_int (Kd.C_below HG1.out hb5) dd.f3 q0 q1
          obtain ⟨ady, ey, hyc⟩ := Kd.at_int (Kd.C_below HG2.out hb5) dd.f3 q0 q2
          cases ex
          cases ey
          replace q0 := eq_true q0
          replace q1 := eq_true q1
          replace q2 := eq_true q2
          have HB5 := Aside0.mk (HBD4.out.trans (hb5.mono HBD4.out.size))
          have ca := hbox5.ba.cell
          have cb := hbox5.bb.cell
          have ck := hbox5.bk.cell
          have co := hbox5.bo.cell
          have fa := hbox5.ba.frozen
          have fb := hbox5.bb.frozen
          have fk := hbox5.bk.frozen
          have fo := hbox5.bo.frozen
          have HBX5 := Aside0.mk hbox5
          clear hbox5 hb5 h15 hWd c15
          gi_wp2
          refine wpIn_region_quiet_round (by kernel_rfl) (by kernel_rfl) (by kernel_rfl) ?_
          repeat (go_big_quiet_step (fail))
          refine wpQuiet_nil ?_
          intro _ hw'
          obtain ⟨nq, hw''⟩ := hw'
          subst hw''
          gi_wp2
          go_roundw
          case rel =>
           refine ⟨n + 1, by go_num, HP.out, ⟨fun k hk => ?_⟩, ⟨by repeat (first | exact HB5.out | apply pw_below_drewN | apply below_drew1)⟩⟩
           rcases Nat.lt_or_ge k n with h | h
           ·exact HN.out k h
           ·obtain rfl : k = n := by omega
            rw [brkR, HDD.out, rowAt, rowAt, HXE.out, HYE.out, HAN.out]
            rfl
          case measure => have := HP.out; simp [intOf]; omega
        ·have HP := Aside0.mk hlt
         have hdl : decide ((n : Int) < (l0_5.length : Int)) = false := by simp; omega
         gi_wp2
         have hL := loop_below HL4.out HB.out
         have hz4 := HB4.out.size
         have hzT := HLT.out
         refine ⟨hL, fun r' _ => ?_⟩
         have hP := put_below (N := w.heap.size + 6) r' hL (by omega)
         have hB9 := ((HB4.out.mono (by omega)).trans (HB.out.mono (by omega))).trans hP
         have hP2 := put_below (N := w2.heap.size + 1) r' hL (by omega)
         refine ⟨⟨HBX4.out.below ((HB.out.mono (by omega)).trans hP), HBE.out.trans (hB9.mono (by omega)), ?_⟩, HBW.out.trans (((HB4.out.mono (by omega)).trans (HB.out.mono (by omega))).trans hP2)⟩
         intro p hp
         rcases List.mem_append.1 hp with hp | hp
         ·exact HNO.out p hp
         ·obtain rfl : p = (i, j) := by simpa using hp
          exact firstB_none fun k hk => HN.out k (by have := HP.out; omega)
     ·rintro e W' (⟨rfl, h1, h2, h3⟩ | ⟨rfl, c, h1, h2⟩)
      ·exact .inl ⟨rfl, ⟨h1, h2⟩, h3⟩
      ·exact .inr ⟨rfl, c, h1, h2⟩
    ·exact (hb1.cell (p := ⟨w2.heap.size, 0, none⟩) (by show w2.heap.size < _; omega)).trans HX3.out
    ·exact ⟨hl1, HBX3.out.below (hb1.mono (by omega)), HB3.out.trans (hb1.mono (by omega)), fun p hp => by simp at hp⟩
    ·rintro e W2 ⟨hv, ⟨h1, h2⟩ | ⟨_, c, h1, h2⟩⟩
     ·exact ⟨hv, .inl ⟨h1, h2⟩⟩
     ·exact ⟨hv, .inr ⟨c, h1, h2⟩⟩
end Go.Proofs.Ytfbcjeknibfjcaa.P
/- The contracts of chapter 13 that are proved by hand, gathered. -/
