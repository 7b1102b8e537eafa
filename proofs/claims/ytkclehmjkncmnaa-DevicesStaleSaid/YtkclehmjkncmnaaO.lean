/- From what an argument reads as (a datum over memory) to what the printed contracts ask of it: kind by kind. Plain theorems over any program. -/
import Derived.Test.YtkclehmjkncmnaaWMore
import Derived.OpenShut
import Derived.SizedLaws
import Derived.ChangeSlices
namespace Go.Proofs.YtkclehmjkncmnaaO
open Go.RowKit Go.WideShapes Go.Proofs.YtkclehmjkncmnaaW.PrintWords
section
variable {P : Program}

/-- Whatever reads at the type t has the kind d, and G holds of it. -/
def Opens (P : Program) {α : Type} (d : Kd α) (t : TypeId) (G : α → Prop) : Prop :=
  ∀ {H : Type} (enc : TypeId × Value → H) (w : World) (base : Nat) (spare : Nat → Bool) (held : Bool) (fuel : Nat) (cs : List Value) (x : DataW H × List MemPlace),
    DataW.trod enc P w base spare held fuel t cs = some x → ∃ a, d.K w a cs ∧ G a

theorem opens_int {t : TypeId} {k : IntKind} (ht : P.underlying t = some (.int k)) : Opens P (Kd.int k) t (fun n => (Lit.int k n).wf = true) := by
  intro H enc w base spare held fuel cs x h
  obtain ⟨n, rfl, _, hw⟩ := DataW.trod_int ht h
  exact ⟨n, rfl, hw⟩
theorem opens_bool {t : TypeId} (ht : P.underlying t = some .bool) : Opens P Kd.bool t (fun _ => True) := by
  intro H enc w base spare held fuel cs x h
  obtain ⟨n, rfl, _⟩ := DataW.trod_bool ht h
  exact ⟨n, rfl, trivial⟩
theorem opens_string {t : TypeId} (ht : P.underlying t = some .string) : Opens P Kd.string t (fun s => s.size ≤ maxLen) := by
  intro H enc w base spare held fuel cs x h
  obtain ⟨n, rfl, _, hw⟩ := DataW.trod_string ht h
  exact ⟨n, rfl, hw⟩
theorem opens_weak {α : Type} {d : Kd α} {t : TypeId} {G G' : α → Prop} (h : Opens P d t G) (hg : ∀ a, G a → G' a) : Opens P d t G' := by
  intro H enc w base spare held fuel cs x hx
  obtain ⟨a, h1, h2⟩ := h enc w base spare held fuel cs x hx
  exact ⟨a, h1, hg a h2⟩
theorem collect {α : Type} {p : Nat → α → Prop} : ∀ n, (∀ i, i < n → ∃ a, p i a) → ∃ l : List α, l.length = n ∧ ∀ i a, l[i]? = some a → p i a := by
  intro n
  induction n with
  | zero => exact fun _ => ⟨[], rfl, fun i a h => by simp at h⟩
  | succ n ih =>
    intro h
    obtain ⟨l, hl, hp⟩ := ih (fun i hi => h i (by omega))
    obtain ⟨a, ha⟩ := h n (by omega)
    refine ⟨l ++ [a], by simp [hl], fun i b hb => ?_⟩
    rcases Nat.lt_trichotomy i n with hi | hi | hi
    · rw [List.getElem?_append_left (by omega)] at hb
      exact hp i b hb
    · subst hi
      rw [List.getElem?_append_right (by omega), hl, Nat.sub_self] at hb
      simp at hb
      subst hb
      exact ha
    · rw [List.getElem?_eq_none (by simp; omega)] at hb
      cases hb
theorem add_add_ (a : Addr) (m i : Nat) : (a.add m).add i = a.add (m + i) := by
  unfold Addr.add
  by_cases hm : m = 0
  · subst hm; simp
  · by_cases hi : i = 0
    · subst hi; simp [hm]
    · simp [hm, hi, Nat.add_assoc]
theorem reads_of_cells {α : Type} {d : Kd α} {w : World} {base : Nat} {a : Addr} {l : List α} {G : α → Prop} (hm : l.length ≤ maxLen)
    (h : ∀ i x, l[i]? = some x → ∃ c, w.cells? base (a.add (i * d.sz)) d.sz = some c ∧ d.K w x c ∧ G x) : Kd.C d w (some a) l.length l ∧ ∀ x ∈ l, G x := by
  refine ⟨⟨rfl, by simpa [maxLen] using hm, fun _ => ⟨a, rfl, fun j p hj => ?_⟩⟩, fun x hx => ?_⟩
  · obtain ⟨c, hc, hK, _⟩ := h j p hj
    obtain ⟨_, hl, hcell⟩ := World.cells?_some hc
    refine ⟨c, hl, hK, fun i u hu => ?_⟩
    have hi : i < d.sz := by
      have := (List.getElem?_eq_some_iff.1 hu).1
      omega
    rw [← add_add_, hcell i hi, hu]
  · obtain ⟨i, hi, rfl⟩ := List.getElem_of_mem hx
    obtain ⟨_, _, _, hg⟩ := h i _ (List.getElem?_eq_getElem hi)
    exact hg
theorem opens_slice {α : Type} {d : Kd α} {t e : TypeId} {G : α → Prop} (ht : P.underlying t = some (.slice e)) (hsz : P.cellsOf e = d.sz) (hd : Opens P d e G) : Opens P (Kd.slice e d) t (fun l => l.length ≤ maxLen ∧ ∀ a ∈ l, G a) := by
  intro H enc w base spare held fuel cs x h
  rcases DataW.trod_slice ht h with ⟨rfl, _⟩ | ⟨a, len, cap, elems, rest, n, _, rfl, _, hb, hl, hm, hlen, hel, _⟩
  · exact ⟨[], ⟨none, 0, rfl, Nat.le_refl 0, rfl, by simp, fun h0 => absurd h0 (by simp)⟩, by simp⟩
  · obtain ⟨l, hll, hp⟩ := collect (p := fun i x => ∃ c, w.cells? base (a.add (i * d.sz)) d.sz = some c ∧ d.K w x c ∧ G x) len (fun i hi => by
      have h1 := hel i hi
      rw [List.getElem?_eq_getElem (by omega)] at h1
      obtain ⟨c, hc, hx⟩ := Option.bind_eq_some_iff.1 h1
      obtain ⟨b, hK, hG⟩ := hd enc w base spare held n c _ hx
      exact ⟨b, c, by rw [← hsz]; exact hc, hK, hG⟩)
    obtain ⟨h1, h2⟩ := reads_of_cells (d := d) (G := G) (by omega) hp
    subst hll
    exact ⟨l, ⟨some a, cap, rfl, hl, h1⟩, by omega, h2⟩

/-! ### Structs and arrays: the cells of one field behind those of another -/
def OpensF (P : Program) {α : Type} (d : Kd α) (ts : List TypeId) (G : α → Prop) : Prop :=
  ∀ {H : Type} (enc : TypeId × Value → H) (w : World) (base : Nat) (spare : Nat → Bool) (held : Bool) (fuel : Nat) (cs : List Value), cs.length = (ts.map P.cellsOf).sum →
    (∀ i t, ts[i]? = some t → ∃ x, DataW.trod enc P w base spare held fuel t ((cs.drop ((ts.take i).map P.cellsOf).sum).take (P.cellsOf t)) = some x) → ∃ a, d.K w a cs ∧ G a
theorem opens_last {α : Type} {d : Kd α} {t : TypeId} {G : α → Prop} (h : Opens P d t G) : OpensF P d [t] G := by
  intro H enc w base spare held fuel cs hl hx
  obtain ⟨x, hx⟩ := hx 0 t rfl
  simp at hl
  simp only [List.take_zero, List.map_nil, List.sum_nil, List.drop_zero] at hx
  rw [List.take_of_length_le (by omega)] at hx
  exact h enc w base spare held fuel cs x hx
theorem opens_next {α β : Type} {d : Kd α} {d' : Kd β} {t : TypeId} {ts : List TypeId} {G : α → Prop} {G' : β → Prop} (h : Opens P d t G) (h' : OpensF P d' ts G') : OpensF P (Kd.pair d d') (t :: ts) (fun x => G x.1 ∧ G' x.2) := by
  intro H enc w base spare held fuel cs hl hx
  simp only [List.map_cons, List.sum_cons] at hl
  obtain ⟨x, hx0⟩ := hx 0 t rfl
  simp only [List.take_zero, List.map_nil, List.sum_nil, List.drop_zero] at hx0
  obtain ⟨a, ha, hg⟩ := h enc w base spare held fuel _ x hx0
  obtain ⟨b, hb, hg'⟩ := h' enc w base spare held fuel (cs.drop (P.cellsOf t)) (by simp; omega) (fun i t' hi => by
    obtain ⟨y, hy⟩ := hx (i + 1) t' (by simpa using hi)
    simp only [List.take_succ_cons, List.map_cons, List.sum_cons] at hy
    rw [List.drop_drop]
    exact ⟨y, hy⟩)
  exact ⟨(a, b), ⟨_, _, (List.take_append_drop _ _).symm, ha, hb⟩, hg, hg'⟩
theorem opens_iso {α β : Type} {d : Kd α} {t : TypeId} {G : α → Prop} {f : β → α} (g : α → β) (hg : ∀ y, f (g y) = y) (h : Opens P d t G) : Opens P (Kd.iso d f) t (fun x => G (f x)) := by
  intro H enc w base spare held fuel cs x hx
  obtain ⟨a, ha, hG⟩ := h enc w base spare held fuel cs x hx
  refine ⟨g a, ?_, ?_⟩
  · show d.K w (f (g a)) cs
    rw [hg]
    exact ha
  · show G (f (g a))
    rw [hg]
    exact hG
def offs (P : Program) : Nat → List TypeId → List (TypeId × Nat)
  | _, [] => []
  | o, t :: ts => (t, o) :: offs P (o + P.cellsOf t) ts
theorem offs_get (P : Program) : ∀ (ts : List TypeId) (o i : Nat) (t : TypeId), ts[i]? = some t → (offs P o ts)[i]? = some (t, o + ((ts.take i).map P.cellsOf).sum) := by
  intro ts
  induction ts with
  | nil => intro o i t h; simp at h
  | cons u us ih =>
    intro o i t h
    cases i with
    | zero => simp at h; subst h; simp [offs]
    | succ i =>
      simp only [offs, List.getElem?_cons_succ, List.take_succ_cons, List.map_cons, List.sum_cons]
      rw [ih (o + P.cellsOf u) i t (by simpa using h), Nat.add_assoc]
theorem opens_struct {α : Type} {d : Kd α} {t : TypeId} {G : α → Prop} {fs : Array Field} {ts : List TypeId} (ht : P.underlying t = some (.struct fs)) (hts : (fs.toList.map fun f => (f.type, f.offset)) = offs P 0 ts)
    (hc : P.cellsOf t = (ts.map P.cellsOf).sum) (h : OpensF P d ts G) : Opens P d t G := by
  intro H enc w base spare held fuel cs x hx
  obtain ⟨xs, n, rfl, _, hl, hxs, hf⟩ := DataW.trod_struct ht hx
  refine h enc w base spare held n cs (hl.trans hc) (fun i u hu => ?_)
  have h1 := offs_get P ts 0 i u hu
  rw [← hts, List.getElem?_map] at h1
  obtain ⟨f, hf1, hf2⟩ := Option.map_eq_some_iff.1 h1
  rw [Array.getElem?_toList] at hf1
  have h2 := hf i f hf1
  simp only [Prod.mk.injEq, Nat.zero_add] at hf2
  rw [hf2.1, hf2.2] at h2
  have hi : i < fs.size := (Array.getElem?_eq_some_iff.1 hf1).1
  exact ⟨xs[i]'(by omega), by rw [h2]; exact List.getElem?_eq_getElem (by omega)⟩
theorem sum_rep (c e : Nat) (P : Program) (hc : P.cellsOf e = c) : ∀ n, ((List.replicate n e).map P.cellsOf).sum = n * c := by
  intro n
  induction n with
  | zero => simp
  | succ n ih => rw [List.replicate_succ, List.map_cons, List.sum_cons, ih, hc, Nat.succ_mul, Nat.add_comm]
theorem opens_array {α : Type} {d : Kd α} {t e n : Nat} {G : α → Prop} {ts : List TypeId} (hts : ts = List.replicate n e) (ht : P.underlying t = some (.array n e)) (hc : P.cellsOf t = n * P.cellsOf e) (h : OpensF P d ts G) : Opens P d t G := by
  intro H enc w base spare held fuel cs x hx
  obtain ⟨xs, m, rfl, _, hl, hxs, hf⟩ := DataW.trod_array ht hx
  subst hts
  refine h enc w base spare held m cs (by rw [hl, hc, sum_rep _ e P rfl]) (fun i u hu => ?_)
  obtain ⟨hi, rfl⟩ := List.getElem?_eq_some_iff.1 hu
  simp only [List.length_replicate] at hi
  rw [List.getElem_replicate, List.take_replicate, sum_rep _ e P rfl, Nat.min_eq_left (by omega), hf i hi]
  exact ⟨xs[i]'(by omega), List.getElem?_eq_getElem (by omega)⟩

/-! ### Arguments -/
variable {H : Type} {enc : TypeId × Value → H} {w : World} {base : Nat} {spare : Nat → Bool} {held : Bool} {t : TypeId} {dd : DataW H} {ps : List MemPlace}
theorem arg_slice {α : Type} {d : Kd α} {e : TypeId} {G : List α → Prop} {A : Option Addr} {len cap : Nat} (ho : Opens P (Kd.slice e d) t G) (h : DataW.Trod enc P w base spare held t (.slice A len cap) dd ps) :
    ∃ l : List α, len = l.length ∧ l.length ≤ cap ∧ Kd.C d w A l.length l ∧ G l := by
  obtain ⟨fuel, hf⟩ := h
  obtain ⟨l, ⟨A', c', hcs, hl, hC⟩, hG⟩ := ho enc w base spare held fuel _ _ hf
  simp [Value.cells] at hcs
  obtain ⟨rfl, rfl, rfl⟩ := hcs
  exact ⟨l, rfl, hl, hC, hG⟩
theorem arg_agg {α : Type} {d : Kd α} {G : α → Prop} {cs : Array Value} (ho : Opens P d t G) (h : DataW.Trod enc P w base spare held t (.agg cs) dd ps) : ∃ a, d.K w a cs.toList ∧ G a := by
  obtain ⟨fuel, hf⟩ := h
  exact ho enc w base spare held fuel _ _ hf
theorem arg_sized {ts : List TypeId} {ds : List (DataW H)} {j : Nat} {e : TypeId} {A : Option Addr} {len cap : Nat} (hsz : (DataW.weightsEach P ts ds).all (· ≤ reachBytes) = true) (ht : ts[j]? = some t) (hd : ds[j]? = some dd) (hu : P.underlying t = some (.slice e))
    (h : DataW.Trod enc P w base spare held t (.slice A len cap) dd ps) {B : Nat} (hB : P.bytesOf e = B) : len * B ≤ 140737488351232 := by
  obtain ⟨fuel, hf⟩ := h
  rcases DataW.trod_slice hu hf with ⟨hcs, _⟩ | ⟨a, len', cap', elems, rest, n, _, hcs, hx, _, _, _, hlen, _, _⟩
  · simp [Value.cells] at hcs
    obtain ⟨_, rfl, _⟩ := hcs
    simp
  · simp [Value.cells] at hcs
    obtain ⟨_, rfl, _⟩ := hcs
    obtain ⟨rfl, _⟩ := Prod.mk.inj hx
    have z := sized_slice hsz ht hd hu
    rw [hB] at z
    simp only [List.length_map] at z
    exact Nat.le_trans (Nat.mul_le_mul_right _ (by omega)) z
end
end Go.Proofs.YtkclehmjkncmnaaO
