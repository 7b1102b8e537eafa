/- slices.AppendSeq and Collect over that iterator; combine. -/
import Derived.Test.YtcemfklhbgnflaaG3
import Derived.Test.YtcemfklhbgnflaaR
namespace Go.Proofs.Ytcemfklhbgnflaa.P
open Go.RowKit Go.Shelf Go.Proofs.YtcemfklhbgnflaaR Go.Proofs.YtcemfklhbgnflaaW.PrintWords Go.Proofs.YtcemfklhbgnflaaW.PrintLast Go.Proofs.YtcemfklhbgnflaaW.PrintMore
attribute [local go_sem] Oper.semAt_some

/-! ### slices.AppendSeq(nil, seq), slices.Collect -/
theorem info31' : (Try.prog.info? 31).map (fun i => (i.zero, i.size, i.bytes)) = some (some (.agg #[.int .i64 0, .int .i64 0]), 2, 16) := by kernel_rfl
def cells31 (l : List S31) : List Value := l.flatMap fun x => [.int .i64 x.f0, .int .i64 x.f1]
theorem cells31_len (l : List S31) : (cells31 l).length = l.length * 2 := by
  induction l with
  | nil => rfl
  | cons x l ih => simp only [cells31, List.flatMap_cons, List.length_append, List.length_cons, List.length_nil] at *; omega
theorem cells31_snoc (l : List S31) (x : S31) : cells31 (l ++ [x]) = cells31 l ++ [.int .i64 x.f0, .int .i64 x.f1] := by simp [cells31]
theorem reps31 (R : S31 → List Value → Prop) (hR : ∀ x : S31, R x [.int .i64 x.f0, .int .i64 x.f1]) (l : List S31) : Reps R 2 l (cells31 l) := by
  refine ⟨cells31_len l, ?_⟩
  induction l with
  | nil => intro j p h; simp at h
  | cons x l ih =>
    intro j p h
    cases j with
    | zero =>
      simp at h
      subst h
      simpa [cells31] using hR x
    | succ j =>
      have h1 := ih j p (by simpa using h)
      have h2 : (cells31 (x :: l)).drop ((j + 1) * 2) = (cells31 l).drop (j * 2) := by
        show ([Value.int .i64 x.f0, .int .i64 x.f1] ++ cells31 l).drop ((j + 1) * 2) = _
        rw [show (j + 1) * 2 = [Value.int .i64 x.f0, .int .i64 x.f1].length + j * 2 from by simp; omega, List.drop_append]
        simp [List.drop_eq_nil_of_le]
      rw [h2]
      exact h1
theorem row31 {W : World} {base : Nat} {v : Value} {l : List S31} (h : W.ownsRow base 31 2 v l.length (cells31 l)) : Kd.R k31 31 W base (fun _ => True) v l :=
  ⟨fun _ _ => trivial, cells31 l, h, reps31 _ (fun _ => ⟨_, _, rfl, rfl, rfl⟩) l⟩
/-- Between two rounds: the box holds a slice that owns what has come. -/
def AppI (w0 : World) (Bs : Nat) (ss : List S31) (W : World) : Prop := (∃ v, Boxed W Bs 22 v ∧ W.ownsRow w0.heap.size 31 2 v ss.length (cells31 ss)) ∧ Below w0.heap.size w0 W
theorem enters42 : ∀ args w, (callFunc 42 args).run Try.prog w = .ok (.enter 42 args) w := enters_ Try.func42 (by kernel_rfl) rfl
set_option maxRecDepth 100000 in
set_option maxHeartbeats 2000000 in
theorem appendSeq_calls (bx b : Nat) (f : Nat → Bool) (w : World) (hbx : bx < w.heap.size) (hb : b < w.heap.size) (hI : IterAt w bx b f) :
    Calls Try.prog 41 #[.slice none 0 0, .func (.func 42) #[] #[.pointer (some ⟨bx, 0, none⟩)]] w fun e w' => ∃ v, e = .returned v ∧ Kd.R k31 31 w' w.heap.size (fun _ => True) v (nrm f) ∧ Below w.heap.size w w' := by
  refine (callsIn_wide (n := 3)).1 (callsIn_of_wp_marks Try.func41 rfl trivial ?_ rfl)
  simp only [Try.ntmps41, List.size_toArray, List.length_cons, List.length_nil, Nat.reduceAdd, Nat.reduceSub, Array.replicate_succ, Array.replicate_zero, List.push_toArray, List.append_toArray, List.nil_append, List.cons_append]
  have hu31 := Try.underlying31
  have HI := Aside0.mk hI
  clear hI
  gi_wp2
  obtain ⟨w0, hw0⟩ : ∃ w0, w.alloc (.cells #[.slice none 0 0] 22) = w0 := ⟨_, rfl⟩
  have hs0 : w.heap.size + 1 ≤ w0.heap.size := by rw [← hw0]; simp
  have hv0 : Boxed w0 w.heap.size 22 (.slice none 0 0) := by rw [← hw0]; exact Boxed.new w _ _
  have hb0 : Below w.heap.size w w0 := by rw [← hw0]; exact (Below.refl _ w).alloc (Nat.le_refl _) _
  have HI0 : Aside0 (IterAt w0 bx b f) := ⟨(hb0.cell (p := ⟨bx, 0, none⟩) hbx).trans HI.out.box, HI.out.days.below hb0⟩
  rw [hw0]
  refine range_enter (gf := 42) (lb := #[.pointer (some ⟨bx, 0, none⟩)]) rfl enters42 (AppI w w.heap.size (nrm f)) (fun _ _ => False) ?call ?done ?stop
  case call =>
    intro fn rc hrc
    obtain ⟨W1, hW1⟩ : ∃ W1, (w0.alloc (.deferred (some []))).alloc (.loop (rc .ready none)) = W1 := ⟨_, rfl⟩
    rw [hW1]
    have hl1 : LoopAt W1 w0.heap.size (rc .ready none) := by rw [← hW1]; exact LoopAt.new w0 _
    have hk1 : KeepsOthers w0 W1 := by rw [← hW1]; exact (KeepsOthers.alloc _ _).trans (KeepsOthers.alloc _ _)
    have hb1 : Below w0.heap.size w0 W1 := by rw [← hW1]; exact ((Below.refl _ _).alloc (Nat.le_refl _) _).alloc (by simp) _
    have hb2 : Below w.heap.size w W1 := hb0.trans (hb1.mono (by omega))
    refine (spans1_in Fence.wide _ trivial rfl (by decide) (w0.heap.size + 1) bx b w.heap.size f
      (fun ss W => LoopAt W w0.heap.size (rc .ready none) ∧ AppI w w.heap.size ss W) (fun _ _ => False) hbx hb ?_ W1 ?_ ?_).mono ?_
    · rintro pre x W ⟨hlW, ⟨v, hbv, hrow⟩, hbe⟩ hlen
      refine YieldAt.mono (yield_round hrc hlW rfl (fun W' => AppI w w.heap.size (pre ++ [x]) W' ∧ Below w.heap.size W W') (fun _ _ => False) ?_) ?_
      · intro K hK
        have HK := Aside0.mk hK
        clear hK
        gi_wp2
        obtain ⟨W1, hW1⟩ : ∃ W1, W.alloc (.cells #[.int .i64 x.f0, .int .i64 x.f1] 31) = W1 := ⟨_, rfl⟩
        have hp1 : PairAt W1 W.heap.size 31 x.f0 x.f1 := by rw [← hW1]; exact World.alloc_heap_new W _
        have hk1 : KeepsOthers W W1 := by rw [← hW1]; exact KeepsOthers.alloc _ _
        have hsz := hbe.size
        have hb1 : Below W.heap.size W W1 := by rw [← hW1]; exact (Below.refl _ _).alloc (Nat.le_refl _) _
        rw [hW1]
        refine HK.out _ _ (hlW.keep hk1) (fun r' hr' => ?_)
        clear HK
        obtain ⟨W2, hW2⟩ : ∃ W2, W1.putObj (w0.heap.size + 1) (.loop r') = W2 := ⟨_, rfl⟩
        have hl2 : LoopAt W2 w0.heap.size (rc .busy none) := by rw [← hW2, hr']; exact (hlW.keep hk1).put _
        have hg2 : W1.grownBy W2 (some (w0.heap.size + 1)) := by rw [← hW2]; exact put_grown _ _ _
        have hlt := hlW.lt
        have hp2 : PairAt W2 W.heap.size 31 x.f0 x.f1 := (hg2.block _ (Array.getElem?_eq_some_iff.1 hp1).1 (by simp; omega)).trans hp1
        have hbv2 : Boxed W2 w.heap.size 22 v := (hbv.kept (by rw [← hW1]; exact World.grownBy_alloc W _ none) (by simp)).kept hg2 (by simp; omega)
        have hrow2 : W2.ownsRow w.heap.size 31 2 v pre.length (cells31 pre) := by
          have h1 : W1.ownsRow w.heap.size 31 2 v pre.length (cells31 pre) := by rw [← hW1]; exact hrow.alloc _
          exact h1.kept hg2 (own_not_rec h1 (hlW.keep hk1))
        have hbe2 : Below w.heap.size W W2 := (hb1.mono hsz).grown hg2 (by have := hb1.size; omega) (fun k e => by cases e; omega)
        obtain ⟨hc0, hc1⟩ := hp2.cells
        have hcb := hbv2.cell
        have hfb := hbv2.frozen
        rw [hW2]
        clear hW2 hW1
        obtain ⟨i0, hi, hz0, hz1, hz2⟩ := info_parts info31'
        have hB := Aside0.mk hbe2
        have hL := Aside0.mk hl2
        have hBv := Aside0.mk hbv2
        have hRow := Aside0.mk hrow2
        have hlen2 : pre.length < 1025 := hlen
        have hge : w.heap.size ≤ W2.heap.size := Nat.le_trans hsz (Nat.le_trans (hb1.size) hg2.size)
        clear hbe2 hl2 hbv2 hrow2 hr'
        gi_wp2_with (gi_at_builtin; refine wpListIn_append_own _ rfl _ _ 22 rfl w.heap.size 31 i0 (.agg #[.int .i64 0, .int .i64 0]) 2 16 Try.underlying22 hi hz0 hz1 hz2 rfl (by decide) _ _ _ rfl (hRow.out.alloc _) ⟨W2.heap.size, 0, none⟩ 1 1 [.int .i64 x.f0, .int .i64 x.f1] rfl rfl ?c1 ?c2 ?c3 ?c4 ?c5 ?_)
        case c1 => exact World.news_of_block (cs := #[.int .i64 x.f0, .int .i64 x.f1]) (t := 31) (fr := (0, 0)) (heap_alloc_new W2 _)
        case c2 => intro u hu; simp at hu; rcases hu with rfl | rfl <;> rfl
        case c3 => simp only [maxLen]; omega
        case c4 => omega
        case c5 => simp; omega
        intro v' w3 hown' hgrow _
        obtain ⟨q1, q2, q3, q4, q5⟩ := hBv.out.appended (by decide) hRow.out hge (Nat.le_refl _) hown' hgrow
        obtain ⟨g, cap, hv'⟩ := ownsRow_succ hown'
        have hc3 := q1.cell
        have hf3 := q1.frozen
        have Q2 := Aside0.mk q2
        have Q3 := Aside0.mk q3
        have Q4 := Aside0.mk q4
        have Q5 := Aside0.mk q5
        clear q1 q2 q3 q4 q5 hown' hgrow hc0 hc1 hcb hfb hi hz0 hz1 hz2
        subst hv'
        gi_wp2
        refine ⟨hL.out.keep Q4.out, fun r2 _ => ?_⟩
        have hl4 := hL.out.keep Q4.out
        refine ⟨⟨⟨_, put_cells r2 hl4 Q2.out rfl, ?_⟩, ?_⟩, ?_⟩
        · have h1 := Q3.out.kept (put_grown _ _ r2) (own_not_rec Q3.out hl4)
          rw [cells31_snoc, List.length_append]
          exact h1
        · exact (((hbe.trans hB.out).trans Q5.out).trans (put_below r2 hl4 (by omega)))
        · exact ((hB.out.trans Q5.out).trans (put_below r2 hl4 (by omega)))
      · rintro e W' (⟨rfl, h1, h2, h3⟩ | ⟨_, _, _, h⟩)
        · exact .inl ⟨rfl, ⟨h1, h2⟩, h3⟩
        · exact h.elim
    · exact ⟨(hb2.cell (p := ⟨bx, 0, none⟩) hbx).trans HI.out.box, HI.out.days.below hb2⟩
    · exact ⟨hl1, ⟨.slice none 0 0, (hb1.block _ hv0.lt).trans hv0, own_nil _ _ _ _⟩, hb2⟩
    · rintro e W2 ⟨hv, ⟨ys, rfl, h2⟩ | ⟨_, _, h2⟩⟩
      · exact ⟨hv, .inl h2⟩
      · exact h2.elim
  case done =>
    rintro W2 r r' hl2 ⟨⟨v, hbv, hrow⟩, hbe⟩ hl3
    obtain ⟨W3, hW3⟩ : ∃ W3, W2.putObj (w0.heap.size + 1) (.loop r') = W3 := ⟨_, rfl⟩
    have hbv3 : Boxed W3 w.heap.size 22 v := by rw [← hW3]; exact put_cells r' hl2 hbv rfl
    have hrow3 := World.ownsRow.kept hrow (put_grown W2 w0.heap.size r') (own_not_rec hrow hl2)
    have hbe3 := hbe.trans (put_below r' hl2 (by omega))
    rw [hW3] at hl3 hrow3 hbe3 ⊢
    have hcb := hbv3.cell
    have HD := Aside0.mk hl3.dfr
    have HL := Aside0.mk hl3
    have HR := Aside0.mk hrow3
    have HB := Aside0.mk hbe3
    clear hW3 hl3 hrow3 hbe3
    gi_wp2
    refine ⟨by simp, .inl ⟨_, _, rfl, run_takeDeferred HD.out, ?_⟩⟩
    exact ⟨_, results_tmp rfl _ _ _, v, rfl, row31 (own_put_dfr HR.out HL.out _), HB.out.trans (below_put_dfr HL.out _ (by omega))⟩
  case stop =>
    intro c W2 r r' _ h _
    exact h.elim
theorem collect_calls (bx b : Nat) (f : Nat → Bool) (w : World) (hbx : bx < w.heap.size) (hb : b < w.heap.size) (hI : IterAt w bx b f) :
    Calls Try.prog 39 #[.func (.func 42) #[] #[.pointer (some ⟨bx, 0, none⟩)]] w fun e w' => ∃ v, e = .returned v ∧ Kd.R k31 31 w' w.heap.size (fun _ => True) v (nrm f) ∧ Below w.heap.size w w' := by
  have HA := Aside0.mk (appendSeq_calls bx b f w hbx hb hI)
  clear hI
  go_enter Try.func39, Try.ntmps39
  go_wp2_with fail
  refine HA.out.mono ?_
  rintro e w1 ⟨v, rfl, hr, hb1⟩
  have HR := Aside0.mk hr
  have HB := Aside0.mk hb1
  clear hr hb1
  go_wp2
  go_ret
  exact ⟨v, rfl, HR.out, HB.out⟩

/-! ### combine, and the three sets -/
theorem union1_calls (x y : Bool) (w : World) : Calls Try.prog 33 #[.bool x, .bool y] w fun e w' => e = .returned (.bool (x || y)) ∧ w = w' := by
  cases x <;> (go_enter Try.func33, Try.ntmps33; go_wp2; go_ret; exact ⟨by simp, rfl⟩)
theorem meet1_calls (x y : Bool) (w : World) : Calls Try.prog 34 #[.bool x, .bool y] w fun e w' => e = .returned (.bool (x && y)) ∧ w = w' := by
  cases x <;> (go_enter Try.func34, Try.ntmps34; go_wp2; go_ret; exact ⟨by simp, rfl⟩)
theorem minus1_calls (x y : Bool) (w : World) : Calls Try.prog 35 #[.bool x, .bool y] w fun e w' => e = .returned (.bool (x && !y)) ∧ w = w' := by
  cases x <;> (go_enter Try.func35, Try.ntmps35; go_wp2; go_ret; exact ⟨by simp, rfl⟩)
theorem DaysAt.drew {w : World} {b : Nat} {f : Nat → Bool} (h : DaysAt w b f) : DaysAt w.drew b f := h
theorem runEnd_congr {f g : Nat → Bool} (h : ∀ m, m < 1024 → f m = g m) : ∀ k m, runEnd f k m = runEnd g k m := by
  intro k
  induction k with
  | zero => exact fun m => rfl
  | succ k ih =>
    intro m
    unfold runEnd
    split
    · rename_i hm
      rw [h m hm, ih]
    · rfl
theorem spG_congr {f g : Nat → Bool} (h : ∀ m, m < 1024 → f m = g m) : ∀ k m, spG f k m = spG g k m := by
  intro k
  induction k with
  | zero => exact fun m => rfl
  | succ k ih =>
    intro m
    unfold spG
    split
    · rename_i hm
      rw [h m hm, runEnd_congr h, ih, ih]
    · rfl
theorem nrm_congr {f g : Nat → Bool} (h : ∀ m, m < 1024 → f m = g m) : nrm f = nrm g := spG_congr h _ _
set_option maxRecDepth 100000 in
set_option maxHeartbeats 1000000 in
theorem combine_calls (g : FuncId) (F : Bool → Bool → Bool) (A0 : Option Addr) (c0 : Nat) (l0 : List (S31)) (A1 : Option Addr) (c1 : Nat) (l1 : List (S31)) (w : World) (hr0 : Kd.C k31 w A0 l0.length l0) (hr1 : Kd.C k31 w A1 l1.length l1)
    (eg : ∀ args w, (callFunc g args).run Try.prog w = .ok (.enter g args) w)
    (hf : ∀ x y W, Calls Try.prog g #[.bool x, .bool y] W fun e w' => e = .returned (.bool (F x y)) ∧ W = w') :
    Calls Try.prog 32 #[.slice A0 l0.length c0, .slice A1 l1.length c1, .func (.func g) #[] #[]] w fun e w' => ∃ v0_ : Value, e = .returned (v0_) ∧ Kd.R k31 31 w' w.heap.size (fun _ => True) v0_ (nrm fun m => F (inl l0 m) (inl l1 m)) ∧ Below w.heap.size w w' := by
  have hu53 := Try.underlying53
  have HF := Aside0.mk hf
  have H0 := Aside0.mk (of_calls A0 c0 l0 w hr0)
  have H1 := Aside0.mk (fun W (hb : Below w.heap.size w W) => of_calls A1 c1 l1 W (Kd.C_below hr1 hb))
  clear hf hr0 hr1
  go_enter Try.func32, Try.ntmps32
  go_wp2_with fail
  refine H0.out.mono ?_
  rintro e w1 ⟨rfl, hd1, hb1⟩
  have HD1 := Aside0.mk hd1
  have HB1 := Aside0.mk hb1
  clear hd1 hb1
  go_wp2_with fail
  refine (H1.out w1 HB1.out).mono ?_
  rintro e w2 ⟨rfl, hd2, hb2⟩
  have HD2 := Aside0.mk hd2
  have HD3 := Aside0.mk (HD1.out.below hb2)
  have HB2 := Aside0.mk (below2 HB1.out hb2)
  have hne : w.heap.size < w1.heap.size := HD1.out.lt
  clear hd2 hb2
  go_wp2
  go_loopw [14] (fun v14 w' => ∃ n : Nat, v14 = .int .i64 n ∧ n ≤ 1024 ∧ Aside0 (DaysAt w' w.heap.size (fun m => if m < n then F (inl l0 m) (inl l1 m) else inl l0 m)) ∧ Aside0 (DaysAt w' w1.heap.size (inl l1)) ∧ Aside0 (Below w.heap.size w w')) (fun v14 _ => 1024 - (intOf v14).toNat)
  case atStart => exact ⟨0, rfl, by omega, ⟨HD3.out.ext (fun m _ => by simp)⟩, HD2, HB2⟩
  case round =>
    obtain ⟨n, rfl, hn, HA, HE, HB⟩ := hrel
    by_cases hlt : n < 1024
    · have hc0 : wr.cell? ⟨w.heap.size, n, none⟩ = some (.bool (inl l0 n)) := by have := HA.out.cell n hlt; simpa using this
      have hc1 := HE.out.cell n hlt
      have hfr := HA.out.free n
      go_wp2
      go_region_with ((with_reducible refine (HF.out _ _ _).mono ?_); rintro e w4 ⟨rfl, rfl⟩)
      all_goals
        go_wp2
        go_roundw
        case rel =>
          refine ⟨n + 1, by go_num, hlt, ⟨((HA.out.set n _).drew).ext (fun m hm => ?_)⟩, ⟨?_⟩, ⟨(HB.out.setCell (p := ⟨w.heap.size, n, none⟩) (Nat.le_refl _) _).drew⟩⟩
          · by_cases h : m = n
            · subst h; simp
            · by_cases h2 : m < n
              · simp [h, h2, show m < n + 1 by omega]
              · simp [h, h2, show ¬ m < n + 1 by omega]
          · exact (Below.heap_setCell wr ⟨w.heap.size, n, none⟩ _ w1.heap.size (by simp; omega)).trans HE.out
        case measure => simp [intOf]; omega
    · obtain ⟨wx, rfl⟩ : ∃ wx : World, wx = wr := ⟨_, rfl⟩
      have HN : Aside0 (DaysAt wx w.heap.size (fun m => F (inl l0 m) (inl l1 m))) := ⟨HA.out.ext (fun m hm => by simp [show m < n by omega])⟩
      have hsx : w.heap.size < wx.heap.size := HA.out.lt
      clear HA HE
      go_wp2_with fail
      refine (spans_calls w.heap.size wx).mono ?_
      rintro e w3 ⟨rfl, hw3⟩
      have hb3 : Below wx.heap.size wx w3 := by rw [hw3]; exact (Below.refl _ _).alloc (Nat.le_refl _) _
      have HI3 : Aside0 (IterAt w3 wx.heap.size w.heap.size (fun m => F (inl l0 m) (inl l1 m))) := ⟨by rw [hw3]; simp, HN.out.below hb3⟩
      have hs3 : wx.heap.size < w3.heap.size := by rw [hw3]; simp
      have HB3 := Aside0.mk (HB.out.trans (hb3.mono (by omega)))
      clear hw3 hb3
      go_wp2_with fail
      refine (collect_calls wx.heap.size w.heap.size _ w3 hs3 (by omega) HI3.out).mono ?_
      rintro e w4 ⟨v, rfl, hr, hb4⟩
      have HR := Aside0.mk (Kd.R_lower hr HB3.out.size)
      have HB4 := Aside0.mk (below2 HB3.out hb4)
      clear hr hb4
      go_wp2
      go_ret
      exact ⟨v, rfl, HR.out, HB4.out⟩
end Go.Proofs.Ytcemfklhbgnflaa.P
