/- The three sets of spans, Check and Has: the contracts that the printed texts take. -/
import Derived.Test.YtcemfklhbgnflaaG4
namespace Go.Proofs.Ytcemfklhbgnflaa.P
open Go.RowKit Go.Proofs.YtcemfklhbgnflaaW.PrintWords Go.Proofs.YtcemfklhbgnflaaW.PrintLast Go.Proofs.YtcemfklhbgnflaaW.PrintMore
def spans_Union.f (l0 l1 : List S31) : Option (List S31) := some (nrm fun m => inl l0 m || inl l1 m)
theorem enters33 : ∀ args w, (callFunc 33 args).run Try.prog w = .ok (.enter 33 args) w := enters_ Try.func33 (by kernel_rfl) rfl
theorem spans_Union.calls (A0 : Option Addr) (c0 : Nat) (l0 : List (S31)) (A1 : Option Addr) (c1 : Nat) (l1 : List (S31)) (r : List (S31)) (w : World) (hr0 : Kd.C k31 w A0 l0.length l0) (hc0 : l0.length ≤ c0) (hr1 : Kd.C k31 w A1 l1.length l1) (hc1 : l1.length ≤ c1) (h : spans_Union.f l0 l1 = some r) :
    Calls Try.prog 17 #[.slice A0 l0.length c0, .slice A1 l1.length c1] w fun e w' => ∃ v0_ : Value, e = .returned (v0_) ∧ Kd.R k31 31 w' w.heap.size (fun _ => True) v0_ r ∧ Below w.heap.size w w' := by
  have HC := Aside0.mk (combine_calls 33 (fun x y => x || y) A0 c0 l0 A1 c1 l1 w hr0 hr1 enters33 union1_calls)
  obtain rfl := Option.some.inj h
  clear h hr0 hr1
  go_enter Try.func17, Try.ntmps17
  go_wp2_with fail
  refine HC.out.mono ?_
  rintro e w1 ⟨v, rfl, hr, hb⟩
  have HR := Aside0.mk hr
  have HB := Aside0.mk hb
  clear hr hb
  go_wp2
  go_ret
  exact ⟨v, rfl, HR.out, HB.out⟩
def spans_Meet.f (l0 l1 : List S31) : Option (List S31) := some (nrm fun m => inl l0 m && inl l1 m)
theorem enters34 : ∀ args w, (callFunc 34 args).run Try.prog w = .ok (.enter 34 args) w := enters_ Try.func34 (by kernel_rfl) rfl
theorem spans_Meet.calls (A0 : Option Addr) (c0 : Nat) (l0 : List (S31)) (A1 : Option Addr) (c1 : Nat) (l1 : List (S31)) (r : List (S31)) (w : World) (hr0 : Kd.C k31 w A0 l0.length l0) (hc0 : l0.length ≤ c0) (hr1 : Kd.C k31 w A1 l1.length l1) (hc1 : l1.length ≤ c1) (h : spans_Meet.f l0 l1 = some r) :
    Calls Try.prog 19 #[.slice A0 l0.length c0, .slice A1 l1.length c1] w fun e w' => ∃ v0_ : Value, e = .returned (v0_) ∧ Kd.R k31 31 w' w.heap.size (fun _ => True) v0_ r ∧ Below w.heap.size w w' := by
  have HC := Aside0.mk (combine_calls 34 (fun x y => x && y) A0 c0 l0 A1 c1 l1 w hr0 hr1 enters34 meet1_calls)
  obtain rfl := Option.some.inj h
  clear h hr0 hr1
  go_enter Try.func19, Try.ntmps19
  go_wp2_with fail
  refine HC.out.mono ?_
  rintro e w1 ⟨v, rfl, hr, hb⟩
  have HR := Aside0.mk hr
  have HB := Aside0.mk hb
  clear hr hb
  go_wp2
  go_ret
  exact ⟨v, rfl, HR.out, HB.out⟩
def spans_Minus.f (l0 l1 : List S31) : Option (List S31) := some (nrm fun m => inl l0 m && !inl l1 m)
theorem enters35 : ∀ args w, (callFunc 35 args).run Try.prog w = .ok (.enter 35 args) w := enters_ Try.func35 (by kernel_rfl) rfl
theorem spans_Minus.calls (A0 : Option Addr) (c0 : Nat) (l0 : List (S31)) (A1 : Option Addr) (c1 : Nat) (l1 : List (S31)) (r : List (S31)) (w : World) (hr0 : Kd.C k31 w A0 l0.length l0) (hc0 : l0.length ≤ c0) (hr1 : Kd.C k31 w A1 l1.length l1) (hc1 : l1.length ≤ c1) (h : spans_Minus.f l0 l1 = some r) :
    Calls Try.prog 21 #[.slice A0 l0.length c0, .slice A1 l1.length c1] w fun e w' => ∃ v0_ : Value, e = .returned (v0_) ∧ Kd.R k31 31 w' w.heap.size (fun _ => True) v0_ r ∧ Below w.heap.size w w' := by
  have HC := Aside0.mk (combine_calls 35 (fun x y => x && !y) A0 c0 l0 A1 c1 l1 w hr0 hr1 enters35 minus1_calls)
  obtain rfl := Option.some.inj h
  clear h hr0 hr1
  go_enter Try.func21, Try.ntmps21
  go_wp2_with fail
  refine HC.out.mono ?_
  rintro e w1 ⟨v, rfl, hr, hb⟩
  have HR := Aside0.mk hr
  have HB := Aside0.mk hb
  clear hr hb
  go_wp2
  go_ret
  exact ⟨v, rfl, HR.out, HB.out⟩
end Go.Proofs.Ytcemfklhbgnflaa.P
