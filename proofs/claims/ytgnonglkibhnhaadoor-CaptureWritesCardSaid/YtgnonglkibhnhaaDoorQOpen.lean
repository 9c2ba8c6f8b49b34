/- What came in as data, read as values: one lemma a kind. -/
import Derived.Test.YtgnonglkibhnhaaDoor0
import Derived.Deep.Slices
import Derived.SizedLaws
namespace Go.Proofs.YtgnonglkibhnhaaDoor.Q
open Go Go.RowKit Go.ChangeShapes Go.WideShapes Go.Deep Go.Proofs.YtgnonglkibhnhaaDoorW.PrintWords Go.Proofs.YtgnonglkibhnhaaDoorW.PrintLast Go.Proofs.YtgnonglkibhnhaaDoorW.PrintMore
set_option linter.unusedVariables false
def Opens {α : Type} (P : Program) (t : TypeId) (d : Kd α) (Wf : α → Prop) : Prop :=
 ∀ (H : Type) (enc : TypeId × Value → H) (w : World) (base : Nat) (held : Bool) (fuel : Nat) (cs : List Value) (x : DataW H × List MemPlace),
  DataW.trod enc P w base (fun _ => true) held fuel t cs = some x → (x.1.weights P t).all (· ≤ reachBytes) = true → ∃ a, d.K w a cs ∧ Wf a
theorem Opens.imp {α : Type} {P : Program} {t : TypeId} {d : Kd α} {Wf Wf' : α → Prop} (h : Opens P t d Wf) (hi : ∀ a, Wf a → Wf' a) : Opens P t d Wf' := by
 intro H enc w base held fuel cs x hx hw
 obtain ⟨a, h1, h2⟩ := h H enc w base held fuel cs x hx hw
 exact ⟨a, h1, hi a h2⟩
theorem Opens.int {P : Program} {t : TypeId} {k : IntKind} (ht : P.underlying t = some (.int k)) : Opens P t (Kd.int k) (fun a => (Lit.int k a).wf = true) := by
 intro H enc w base held fuel cs x h _
 cases fuel with
 | zero => cases h
 | succ fuel =>
  match cs with
  | [.int k' n] =>
   simp only [DataW.trod, ht] at h
   by_cases hk : k' = k ∧ (Lit.int k n).wf = true
   ·obtain ⟨rfl, hw⟩ := hk; exact ⟨n, rfl, hw⟩
   ·rw [if_neg hk] at h
    cases h
  | [] => simp [DataW.trod, ht] at h
  | v :: u :: r => simp [DataW.trod, ht] at h
  | [.bool _] => simp [DataW.trod, ht] at h
  | [.float _ _] => simp [DataW.trod, ht] at h
  | [.complex _ _ _] => simp [DataW.trod, ht] at h
  | [.string _] => simp [DataW.trod, ht] at h
  | [.pointer _] => simp [DataW.trod, ht] at h
  | [.slice _ _ _] => simp [DataW.trod, ht] at h
  | [.map _] => simp [DataW.trod, ht] at h
  | [.chan _] => simp [DataW.trod, ht] at h
  | [.func _ _ _] => simp [DataW.trod, ht] at h
  | [.nilFunc] => simp [DataW.trod, ht] at h
  | [.iface _ _] => simp [DataW.trod, ht] at h
  | [.nilIface] => simp [DataW.trod, ht] at h
  | [.agg _] => simp [DataW.trod, ht] at h
  | [.tuple _] => simp [DataW.trod, ht] at h
theorem Opens.bool {P : Program} {t : TypeId} (ht : P.underlying t = some .bool) : Opens P t Kd.bool (fun _ => True) := by
 intro H enc w base held fuel cs x h _
 cases fuel with
 | zero => cases h
 | succ fuel =>
  match cs with
  | [.bool b] => exact ⟨b, rfl, trivial⟩
  | [] => simp [DataW.trod, ht] at h
  | v :: u :: r => simp [DataW.trod, ht] at h
  | [.int _ _] => simp [DataW.trod, ht] at h
  | [.float _ _] => simp [DataW.trod, ht] at h
  | [.complex _ _ _] => simp [DataW.trod, ht] at h
  | [.string _] => simp [DataW.trod, ht] at h
  | [.pointer _] => simp [DataW.trod, ht] at h
  | [.slice _ _ _] => simp [DataW.trod, ht] at h
  | [.map _] => simp [DataW.trod, ht] at h
  | [.chan _] => simp [DataW.trod, ht] at h
  | [.func _ _ _] => simp [DataW.trod, ht] at h
  | [.nilFunc] => simp [DataW.trod, ht] at h
  | [.iface _ _] => simp [DataW.trod, ht] at h
  | [.nilIface] => simp [DataW.trod, ht] at h
  | [.agg _] => simp [DataW.trod, ht] at h
  | [.tuple _] => simp [DataW.trod, ht] at h
theorem Opens.string {P : Program} {t : TypeId} (ht : P.underlying t = some .string) : Opens P t Kd.string (fun s => s.size ≤ 140737488351232) := by
 intro H enc w base held fuel cs x h hw
 cases fuel with
 | zero => cases h
 | succ fuel =>
  match cs with
  | [.string s] =>
   simp only [DataW.trod, ht] at h
   by_cases hs : s.size ≤ maxLen
   ·rw [if_pos hs] at h
    cases h
    refine ⟨s, rfl, ?_⟩
    simp [DataW.weights, reachBytes] at hw
    exact of_decide_eq_true hw
   ·rw [if_neg hs] at h
    cases h
  | [] => simp [DataW.trod, ht] at h
  | v :: u :: r => simp [DataW.trod, ht] at h
  | [.int _ _] => simp [DataW.trod, ht] at h
  | [.float _ _] => simp [DataW.trod, ht] at h
  | [.complex _ _ _] => simp [DataW.trod, ht] at h
  | [.bool _] => simp [DataW.trod, ht] at h
  | [.pointer _] => simp [DataW.trod, ht] at h
  | [.slice _ _ _] => simp [DataW.trod, ht] at h
  | [.map _] => simp [DataW.trod, ht] at h
  | [.chan _] => simp [DataW.trod, ht] at h
  | [.func _ _ _] => simp [DataW.trod, ht] at h
  | [.nilFunc] => simp [DataW.trod, ht] at h
  | [.iface _ _] => simp [DataW.trod, ht] at h
  | [.nilIface] => simp [DataW.trod, ht] at h
  | [.agg _] => simp [DataW.trod, ht] at h
  | [.tuple _] => simp [DataW.trod, ht] at h
theorem add_add (a : Addr) (m i : Nat) : (a.add m).add i = a.add (m + i) := by
 unfold Addr.add
 by_cases hm : m = 0
 ·subst hm
  simp
 ·by_cases hi : i = 0
  ·subst hi
   simp [hm]
  ·simp [hm, hi, Nat.add_assoc]
theorem weightsAll_mem {H : Type} {P : Program} {e : TypeId} {l : List (DataW H)} (h : (DataW.weightsAll P e l).all (· ≤ reachBytes) = true) : ∀ x ∈ l, (x.weights P e).all (· ≤ reachBytes) = true := by
 induction l with
 | nil => intro x hx; cases hx
 | cons a l ih =>
  rw [DataW.weightsAll, List.all_append, Bool.and_eq_true] at h; intro x hx
  rcases List.mem_cons.1 hx with rfl | hx
  ·exact h.1
  ·exact ih h.2 x hx
theorem c4P {α : Type} {p : Nat → α → Prop} : ∀ {n : Nat}, (∀ i, i < n → ∃ a, p i a) → ∃ l : List α, l.length = n ∧ ∀ i a, l[i]? = some a → p i a
 | 0, _ => ⟨[], rfl, fun i a h => by simp at h⟩
 | n + 1, h => by
  obtain ⟨l, hl, hp⟩ := c4P (n := n) (fun i hi => h i (by omega)); obtain ⟨a, ha⟩ := h n (by omega); refine ⟨l ++ [a], by simp [hl], fun i b hb => ?_⟩
  by_cases hi : i < l.length
  ·rw [List.getElem?_append_left hi] at hb; exact hp i b hb
  ·rw [List.getElem?_append_right (by omega)] at hb
   by_cases h0 : i - l.length = 0
   ·rw [h0] at hb; have e1 : i = n := by omega
    have e2 : a = b := by simpa using hb
    rw [e1, ← e2]; exact ha
   ·obtain ⟨m, hm⟩ : ∃ m, i - l.length = m + 1 := ⟨i - l.length - 1, by omega⟩; rw [hm] at hb
    simp at hb
theorem Opens.slice {α : Type} {P : Program} {t e : TypeId} {d : Kd α} {Wf : α → Prop} {B : Nat} (ht : P.underlying t = some (.slice e)) (hc : P.cellsOf e = d.sz) (hB : P.bytesOf e = B) (h : Opens P e d Wf) :
  Opens P t (Kd.slice e d) (fun l => l.length * B ≤ 140737488351232 ∧ ∀ a ∈ l, Wf a) := by
 intro H enc w base held fuel cs x hx hw
 rcases open_slice ht hx with ⟨rfl, rfl⟩ | ⟨a, len, cap, m, n, D, Pl, rfl, hb, hl, hm, hmm, rfl, hel⟩
 ·exact ⟨[], ⟨none, 0, rfl, Nat.le_refl _, rfl, Nat.zero_le _, fun h0 => absurd h0 (Nat.lt_irrefl 0)⟩, by simp, fun a ha => by cases ha⟩
 ·simp only [if_true] at hmm
  subst hmm
  simp only [DataW.weights, ht, List.all_cons, Bool.and_eq_true, List.all_append] at hw
  obtain ⟨hw0, hw1, _⟩ := hw; have hwe := weightsAll_mem hw1; have each : ∀ i, i < len → ∃ a' : α, ∃ cs', w.cells? base (a.add (i * P.cellsOf e)) (P.cellsOf e) = some cs' ∧ d.K w a' cs' ∧ Wf a' := by
   intro i hi; obtain ⟨cs', h1, h2⟩ := hel i (by omega); obtain ⟨a', h3, h4⟩ := h H enc w base held n cs' _ h2 (hwe _ (List.mem_map.2 ⟨i, List.mem_range.2 hi, rfl⟩)); exact ⟨a', cs', h1, h3, h4⟩
  obtain ⟨V, hlV, hV⟩ := c4P each; have hmax : maxLen = 9223372036854775807 := by decide
  refine ⟨V, ⟨some a, _, by rw [hlV], by omega, ?_⟩, ?_, ?_⟩
  ·refine ⟨rfl, by omega, fun _ => ⟨a, rfl, fun j p hp => ?_⟩⟩; obtain ⟨cs', h1, h2, _⟩ := hV j p hp; refine ⟨cs', d.a3Q h2, h2, fun i u hu => ?_⟩; rw [hc] at h1; obtain ⟨_, hlen, hcell⟩ := World.cells?_some h1; have hi : i < d.sz := by
    have := (List.getElem?_eq_some_iff.1 hu).1; rw [d.a3Q h2] at this; exact this
   have hci := hcell i hi; rw [show a.add (j * d.sz + i) = (a.add (j * d.sz)).add i from (add_add a _ _).symm, hci]; exact hu
  ·simp only [List.length_map, List.length_range] at hw0
   simp only [hB, decide_eq_true_eq, reachBytes] at hw0
   refine Nat.le_trans (Nat.mul_le_mul_right _ ?_) hw0
   omega
  ·intro a' ha'; obtain ⟨i, hi, he⟩ := List.getElem_of_mem ha'; obtain ⟨_, _, _, h4⟩ := hV i a' (by rw [List.getElem?_eq_getElem hi, he]); exact h4
def a1E {α : Type} (P : Program) (off : Nat) (fs : List Field) (d : Kd α) (Wf : α → Prop) : Prop :=
 ∀ (H : Type) (enc : TypeId × Value → H) (w : World) (base : Nat) (held : Bool) (fuel : Nat) (cs : List Value) (xs : List (DataW H × List MemPlace)),
  (fs.mapM fun f => DataW.trod enc P w base (fun _ => true) held fuel f.type ((cs.drop f.offset).take (P.cellsOf f.type))) = some xs →
  (DataW.weightsEach P (fs.map (·.type)) (xs.map (·.1))).all (· ≤ reachBytes) = true → off + d.sz = cs.length → ∃ a, d.K w a (cs.drop off) ∧ Wf a
theorem a1E.one {α : Type} {P : Program} {off : Nat} {f : Field} {d : Kd α} {Wf : α → Prop} (hf : f.offset = off) (hc : P.cellsOf f.type = d.sz) (h : Opens P f.type d Wf) : a1E P off [f] d Wf := by
 intro H enc w base held fuel cs xs hx hw hl
 simp only [List.mapM_cons, List.mapM_nil, Option.bind_eq_bind, Option.pure_def, Option.bind_eq_some_iff, Option.some.injEq] at hx
 obtain ⟨x, hx, ys, rfl, rfl⟩ := hx
 rw [hf, hc, List.take_of_length_le (by rw [List.length_drop]; omega)] at hx
 simp only [List.map_cons, List.map_nil, DataW.weightsEach, List.append_nil] at hw
 exact h H enc w base held fuel _ x hx hw
theorem a1E.more {α β : Type} {P : Program} {off : Nat} {f : Field} {fs : List Field} {d : Kd α} {d' : Kd β} {Wf : α → Prop} {Wf' : β → Prop} (hf : f.offset = off) (hc : P.cellsOf f.type = d.sz) (h : Opens P f.type d Wf) (h' : a1E P (off + d.sz) fs d' Wf') :
  a1E P off (f :: fs) (Kd.pair d d') (fun a => Wf a.1 ∧ Wf' a.2) := by
 intro H enc w base held fuel cs xs hx hw hl
 simp only [List.mapM_cons, Option.bind_eq_bind, Option.pure_def, Option.bind_eq_some_iff, Option.some.injEq] at hx
 obtain ⟨x, hx, ys, hys, rfl⟩ := hx
 rw [hf, hc] at hx
 simp only [List.map_cons, DataW.weightsEach, List.all_append, Bool.and_eq_true] at hw
 have hl' : off + (d.sz + d'.sz) = cs.length := hl
 obtain ⟨a, h1, h2⟩ := h H enc w base held fuel _ x hx hw.1
 obtain ⟨b, h3, h4⟩ := h' H enc w base held fuel cs ys hys hw.2 (by omega)
 refine ⟨(a, b), ⟨(cs.drop off).take d.sz, cs.drop (off + d.sz), ?_, h1, h3⟩, h2, h4⟩
 rw [← List.drop_drop, List.take_append_drop]
theorem Opens.struct {α : Type} {P : Program} {t : TypeId} {fs : Array Field} {d : Kd α} {Wf : α → Prop} (ht : P.underlying t = some (.struct fs)) (hc : P.cellsOf t = d.sz) (h : a1E P 0 fs.toList d Wf) : Opens P t d Wf := by
 intro H enc w base held fuel cs x hx hw
 cases fuel with
 | zero => cases hx
 | succ fuel =>
  have hx' : (if cs.length = P.cellsOf t then (fs.toList.mapM fun f => DataW.trod enc P w base (fun _ => true) held fuel f.type ((cs.drop f.offset).take (P.cellsOf f.type))).map fun xs => (.agg (xs.map (·.1)), xs.flatMap (·.2)) else none) = some x := by
   simpa only [DataW.trod, ht] using hx
  by_cases hl : cs.length = P.cellsOf t
  ·rw [if_pos hl, Option.map_eq_some_iff] at hx'; obtain ⟨xs, hxs, rfl⟩ := hx'
   simp only [DataW.weights, ht] at hw
   have := h H enc w base held fuel cs xs hxs hw (by omega)
   simpa using this
  ·rw [if_neg hl] at hx'
   cases hx'
theorem Opens.iso {α β : Type} {P : Program} {t : TypeId} {d : Kd α} {Wf : α → Prop} (f : β → α) (g : α → β) (hg : ∀ a, f (g a) = a) (h : Opens P t d Wf) : Opens P t (Kd.iso d f) (fun b => Wf (f b)) := by
 intro H enc w base held fuel cs x hx hw
 obtain ⟨a, h1, h2⟩ := h H enc w base held fuel cs x hx hw
 exact ⟨g a, show d.K w (f (g a)) cs by rw [hg]; exact h1, show Wf (f (g a)) by rw [hg]; exact h2⟩
end Go.Proofs.YtgnonglkibhnhaaDoor.Q
