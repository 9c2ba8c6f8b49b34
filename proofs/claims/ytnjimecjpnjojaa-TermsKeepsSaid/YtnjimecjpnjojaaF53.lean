-- laid by this session's own program (wip/mkprint.sh) for this claim
import Derived.Test.Ytnjimecjpnjojaa0
import Derived.Test.YtnjimecjpnjojaaF56
import Derived.Test.YtnjimecjpnjojaaF70
import Derived.Test.YtnjimecjpnjojaaF72
namespace Go.Proofs.Ytnjimecjpnjojaa.Print
open Go.RowKit Go.Proofs.YtnjimecjpnjojaaW.PrintWords Go.Proofs.YtnjimecjpnjojaaW.PrintLast Go.Proofs.YtnjimecjpnjojaaW.PrintMore
attribute [local go_sem] max2_int min2_int max_two min_two max_three min_three max_four min_four   -- for this text's walks alone
set_option linter.unusedVariables false
set_option linter.unusedSimpArgs false

/-! ### terms_readers: function 53 -/
/-! Maps whose keys are ints: what a key leads to, as a function. -/
structure MapIs (P : Program) (k : TypeId) (R : Value → Option (DataW Value × List MemPlace)) (z : DataW Value) (w : World) (b n : Nat) (f : Int → DataW Value) : Prop where
  is : ∃ D : DataW Value, w.ownsMap P k R b n D ∧ ∀ a, D.atKey (.int .i64 a) z = f a
theorem MapIs.made (w : World) (P : Program) (k : TypeId) (R : Value → Option (DataW Value × List MemPlace)) (z : DataW Value) : MapIs P k R z (w.alloc (.map #[] 0)) w.heap.size 0 (fun _ => z) :=
  ⟨.map [], World.ownsMap_made w P k R, fun _ => rfl⟩
theorem MapIs.kept {P : Program} {k : TypeId} {R : Value → Option (DataW Value × List MemPlace)} {z : DataW Value} {w w' : World} {b n : Nat} {f : Int → DataW Value} (h : MapIs P k R z w b n f) (hg : w'.heap[b]? = w.heap[b]?) : MapIs P k R z w' b n f := by
  obtain ⟨D, ⟨es, clock, hb, r⟩, ha⟩ := h.is
  exact ⟨D, ⟨es, clock, hg.trans hb, r⟩, ha⟩
theorem MapIs.lt {P : Program} {k : TypeId} {R : Value → Option (DataW Value × List MemPlace)} {z : DataW Value} {w : World} {b n : Nat} {f : Int → DataW Value} (h : MapIs P k R z w b n f) : b < w.heap.size := by
  obtain ⟨D, ho, ha⟩ := h.is
  exact ho.lt
theorem MapIs.below {P : Program} {k : TypeId} {R : Value → Option (DataW Value × List MemPlace)} {z : DataW Value} {w w' : World} {b n : Nat} {f : Int → DataW Value} (h : MapIs P k R z w b n f) (hb : Below w.heap.size w w') : MapIs P k R z w' b n f :=
  h.kept (hb.block b h.lt)
theorem MapIs.ne {P : Program} {k : TypeId} {R : Value → Option (DataW Value × List MemPlace)} {z : DataW Value} {w : World} {b n : Nat} {f : Int → DataW Value} (h : MapIs P k R z w b n f) {g : Nat} {cs : Array Value} {e : TypeId} {fr : Nat × Nat} (hg : w.heap[g]? = some (.cells cs e fr)) : b ≠ g := by
  obtain ⟨D, ⟨es, clock, hb, r⟩, ha⟩ := h.is
  rintro rfl
  rw [hb] at hg
  cases hg
theorem MapIs.ne' {P : Program} {k : TypeId} {R : Value → Option (DataW Value × List MemPlace)} {z : DataW Value} {w : World} {b n : Nat} {f : Int → DataW Value} (h : MapIs P k R z w b n f) {g : Nat} {cs : Array Value} {e : TypeId} {fr : Nat × Nat} (hg : w.heap[g]? = some (.cells cs e fr)) : ¬ g = b := fun e => h.ne hg e.symm
theorem MapIs.set {P : Program} {k : TypeId} {R : Value → Option (DataW Value × List MemPlace)} {z : DataW Value} {w : World} {b n : Nat} {f : Int → DataW Value} (h : MapIs P k R z w b n f) {p : Addr} (hp : b ≠ p.block) (u : Value) : MapIs P k R z (w.setCell p u) b n f :=
  h.kept (RowKit.Below.heap_setCell _ _ _ _ hp)
theorem MapIs.look {P : Program} {k : TypeId} {R : Value → Option (DataW Value × List MemPlace)} {z : DataW Value} {w : World} {b n : Nat} {f : Int → DataW Value} (h : MapIs P k R z w b n f) (hk : P.underlying k = some (.int .i64)) {t e : TypeId} (ht : P.underlying t = some (.map k e))
    {zv : Value} (hz : (zeroValue e).run P w = .ok zv w) {zp : List MemPlace} (hR : R zv = some (z, zp)) (a : Int) (ha : (Lit.int .i64 a).wf = true) : ∃ v ps, (Instr.lookup t (.map (some b)) (.int .i64 a) false).run P w = .ok v w ∧ R v = some (f a, ps) := by
  obtain ⟨D, ho, hf⟩ := h.is
  obtain ⟨v, ps, h1, h2⟩ := ho.lookup (Go.Maps.int_keyed hk) ht hz hR (Go.Maps.keyOf_int_mk hk ha)
  exact ⟨v, ps, h1, by rw [← hf a]; exact h2⟩
theorem MapIs.put {P : Program} {k : TypeId} {R : Value → Option (DataW Value × List MemPlace)} {z : DataW Value} {w : World} {b n : Nat} {f : Int → DataW Value} (h : MapIs P k R z w b n f) (hk : P.underlying k = some (.int .i64)) {t e : TypeId} (ht : P.underlying t = some (.map k e))
    (hn : n < maxLen) (a : Int) (ha : (Lit.int .i64 a).wf = true) {v : Value} {d : DataW Value} {ps : List MemPlace} (hv : R v = some (d, ps)) :
    ∃ w', (Instr.mapUpdate t (.map (some b)) (.int .i64 a) v).run P w = .ok () w' ∧ MapIs P k R z w' b (n + 1) (fun x => if x = a then d else f x) ∧ w.grownBy w' (some b) := by
  obtain ⟨D, ho, hf⟩ := h.is
  obtain ⟨w', h1, h2, h3⟩ := ho.update (Go.Maps.int_keyed hk) ht hn (Go.Maps.keyOf_int_mk hk ha) hv
  refine ⟨w', h1, ⟨⟨_, h2, fun x => ?_⟩⟩, h3⟩
  by_cases e : x = a
  · subst e
    rw [if_pos rfl]
    obtain ⟨es, clock, _, _, _, hD⟩ := ho
    exact Go.Maps.atKey_put_same ⟨_, hD⟩ (by trivial) _ _
  · rw [if_neg e, Go.Maps.atKey_put_other (by simpa using e), hf x]

theorem below_grown {w W W1 : World} {b : Nat} (h : Below w.heap.size w W) (hg : W.grownBy W1 (some b)) (hb : w.heap.size ≤ b) : Below w.heap.size w W1 :=
  ⟨hg.os.trans h.os, hg.tape.trans h.tape, hg.output.trans h.output, Nat.le_trans h.size hg.size, fun i hi => (hg.block i (Nat.lt_of_lt_of_le hi h.size) (by simp; omega)).trans (h.block i hi)⟩
/-- How a function of the table reads: its number. -/
def terms_readers.rf (v : Value) : Option (DataW Value × List MemPlace) :=
  match v with
  | .func (.func n) a b => if a.size = 0 ∧ b.size = 0 then some (.lit (.int .i64 (n : Int)), []) else none
  | .nilFunc => some (.lit (.int .i64 (-1)), [])
  | _ => none
theorem terms_readers.rf_inv {v : Value} {n : Int} {ps : List MemPlace} (h : terms_readers.rf v = some (.lit (.int .i64 n), ps)) : (n = -1 ∧ v = .nilFunc) ∨ (0 ≤ n ∧ v = .func (.func n.toNat) #[] #[]) := by
  unfold terms_readers.rf at h
  split at h
  · split at h
    · rename_i f a b hab
      obtain rfl : a = #[] := Array.eq_empty_of_size_eq_zero hab.1
      obtain rfl : b = #[] := Array.eq_empty_of_size_eq_zero hab.2
      simp only [Option.some.injEq, Prod.mk.injEq] at h
      obtain ⟨h1, _⟩ := h
      injection h1 with h1
      injection h1 with _ h1
      subst h1
      exact .inr ⟨by omega, by rw [Int.toNat_natCast]⟩
    · cases h
  · simp only [Option.some.injEq, Prod.mk.injEq] at h
    obtain ⟨h1, _⟩ := h
    injection h1 with h1
    injection h1 with _ h1
    exact .inl ⟨h1.symm, rfl⟩
  · cases h
/-- Which function reads options of a type; -1: none. -/
def terms_readers.fn (a : Int) : Int := if a = 1 then 69 else if a = 2 then 71 else if a = 3 then 73 else if a = 4 then 74 else if a = 5 then 75 else if a = 7 then 76 else if a = 8 then 77 else -1
/-- A table of the readers. -/
def terms_readers.Tab (w : World) (b : Nat) : Prop := MapIs Try.prog 3 terms_readers.rf (.lit (.int .i64 (-1))) w b 7 (fun a => .lit (.int .i64 (terms_readers.fn a)))
set_option maxHeartbeats 8000000 in
set_option maxRecDepth 100000 in
theorem terms_readers.calls (w : World) : Calls Try.prog 53 #[] w fun e w' => ∃ b, e = .returned (.map (some b)) ∧ terms_readers.Tab w' b ∧ w.heap.size ≤ b ∧ Below w.heap.size w w' := by
  have m0 := MapIs.made w Try.prog 3 terms_readers.rf (.lit (.int .i64 (-1)))
  have b0 : Below w.heap.size w (w.alloc (.map #[] 0)) := below_alloc (Below.refl _ _) _
  obtain ⟨w1, r1, m1, g1⟩ := m0.put Try.underlying3 Try.underlying88 (by decide) 1 (by decide) (v := .func (.func 69) #[] #[]) rfl
  have b1 : Below w.heap.size w w1 := below_grown b0 g1 (Nat.le_refl _)
  obtain ⟨w2, r2, m2, g2⟩ := m1.put Try.underlying3 Try.underlying88 (by decide) 2 (by decide) (v := .func (.func 71) #[] #[]) rfl
  have b2 : Below w.heap.size w w2 := below_grown b1 g2 (Nat.le_refl _)
  obtain ⟨w3, r3, m3, g3⟩ := m2.put Try.underlying3 Try.underlying88 (by decide) 3 (by decide) (v := .func (.func 73) #[] #[]) rfl
  have b3 : Below w.heap.size w w3 := below_grown b2 g3 (Nat.le_refl _)
  obtain ⟨w4, r4, m4, g4⟩ := m3.put Try.underlying3 Try.underlying88 (by decide) 4 (by decide) (v := .func (.func 74) #[] #[]) rfl
  have b4 : Below w.heap.size w w4 := below_grown b3 g4 (Nat.le_refl _)
  obtain ⟨w5, r5, m5, g5⟩ := m4.put Try.underlying3 Try.underlying88 (by decide) 5 (by decide) (v := .func (.func 75) #[] #[]) rfl
  have b5 : Below w.heap.size w w5 := below_grown b4 g5 (Nat.le_refl _)
  obtain ⟨w6, r6, m6, g6⟩ := m5.put Try.underlying3 Try.underlying88 (by decide) 7 (by decide) (v := .func (.func 76) #[] #[]) rfl
  have b6 : Below w.heap.size w w6 := below_grown b5 g6 (Nat.le_refl _)
  obtain ⟨w7, r7, m7, g7⟩ := m6.put Try.underlying3 Try.underlying88 (by decide) 8 (by decide) (v := .func (.func 77) #[] #[]) rfl
  have b7 : Below w.heap.size w w7 := below_grown b6 g7 (Nat.le_refl _)
  have hT : terms_readers.Tab w7 w.heap.size := by
    obtain ⟨D, ho, hf⟩ := m7.is
    refine ⟨⟨D, ho, fun a => ?_⟩⟩
    rw [hf a]
    unfold terms_readers.fn
    repeat' split
    all_goals first | rfl | (exfalso; omega)
  have hmm := @run_makeMap Try.prog
  clear m0 m1 m2 m3 m4 m5 m6 m7 b0 b1 b2 b3 b4 b5 b6 g1 g2 g3 g4 g5 g6 g7
  go_enter Try.func53, Try.ntmps53
  go_wp2
  go_ret
  exact ⟨_, rfl, hT, Nat.le_refl _, b7⟩
/-- What a table's key leads to. -/
theorem terms_readers.Tab.look {w : World} {b : Nat} (h : terms_readers.Tab w b) (a : Int) (ha : (Lit.int .i64 a).wf = true) :
    (terms_readers.fn a = -1 ∧ (Instr.lookup 88 (.map (some b)) (.int .i64 a) false).run Try.prog w = .ok .nilFunc w) ∨ (0 ≤ terms_readers.fn a ∧ (Instr.lookup 88 (.map (some b)) (.int .i64 a) false).run Try.prog w = .ok (.func (.func (terms_readers.fn a).toNat) #[] #[]) w) := by
  obtain ⟨v, ps, h1, h2⟩ := MapIs.look h Try.underlying3 Try.underlying88 (zv := .nilFunc) (by kernel_rfl) rfl a ha
  rcases terms_readers.rf_inv h2 with ⟨e, rfl⟩ | ⟨e, rfl⟩
  · exact .inl ⟨e, h1⟩
  · exact .inr ⟨e, h1⟩

/-- From W to W' block g alone is turned; else only draws and new blocks. -/
structure Turns (W W' : World) (g : Nat) : Prop where
  keep : KeepBut W W' g none
  below : ∀ w0 : World, Below w0.heap.size w0 W → w0.heap.size ≤ g → Below w0.heap.size w0 W'
theorem Turns.refl (W : World) (g : Nat) : Turns W W g := ⟨KeepBut.refl _ _ _, fun _ h _ => h⟩
theorem Turns.grow {W W1 W2 : World} {g : Nat} (h : Turns W W1 g) (hb : Below W1.heap.size W1 W2) : Turns W W2 g :=
  ⟨h.keep.trans (KeepBut.of_below hb g none) (.inl rfl), fun w0 h0 hg => below_step (h.below w0 h0 hg) hb⟩
theorem Turns.drawn {W W1 : World} {g : Nat} (h : Turns W W1 g) (n : Nat) : Turns W (W1.drewN n) g := h.grow (pw_below_drewN (Below.refl _ _) n)
theorem Turns.set {W W1 : World} {g : Nat} (h : Turns W W1 g) (j : Nat) (u : Value) : Turns W (W1.setCell ⟨g, j, none⟩ u) g :=
  ⟨h.keep.set_ j u, fun w0 h0 hg => below_set (h.below w0 h0 hg) hg⟩
theorem Turns.trans {W W1 W2 : World} {g : Nat} (h : Turns W W1 g) (k : Turns W1 W2 g) : Turns W W2 g := ⟨h.keep.trans k.keep (.inl rfl), fun w0 h0 hg => k.below w0 (h.below w0 h0 hg) hg⟩
structure terms_readers.T where
  f0 : Bool
  f1 : Int
  f2 : Bool
  f3 : Int
  f4 : Int
  f5 : Bool
  f6 : Bool
  f7 : Int
  f8 : Bool
  f9 : Bool
def terms_readers.T.cells (t : terms_readers.T) : Array Value := #[.bool t.f0, .int .i64 t.f1, .bool t.f2, .int .u32 t.f3, .int .i64 t.f4, .bool t.f5, .bool t.f6, .int .u32 t.f7, .bool t.f8, .bool t.f9]
def terms_readers.T.zero : terms_readers.T := ⟨false, 0, false, 0, 0, false, false, 0, false, false⟩
/-- What an option of a type makes of the terms; whether it is right. -/
def terms_readers.step (k : Nat) (ty : Int) (t : terms_readers.T) (l : List Int) : Option (terms_readers.T × Bool) :=
  if ty = 1 then (terms_number.f k l 2).bind fun r => some ({ t with f0 := true, f1 := wrap64 r.1 }, r.2) else
  if ty = 2 then (accm_Get.f k l).bind fun r => some ({ t with f2 := true, f3 := r.1 }, r.2) else
  if ty = 3 then (terms_asked.f k l).bind fun r => some ({ t with f4 := r }, r != 0) else
  if ty = 4 then some ({ t with f5 := true }, decide (2 ≤ (l.length : Int))) else
  if ty = 5 then (terms_number.f k l 4).bind fun r => some ({ t with f6 := true, f7 := r.1 % 4294967296 }, r.2 && r.1 != 0) else
  if ty = 7 then some ({ t with f8 := true }, (l.length : Int) == 0) else
  if ty = 8 then some ({ t with f9 := true }, (l.length : Int) == 0) else none
theorem terms_readers.mono_step (ty : Int) (t : terms_readers.T) (l : List Int) (k : Nat) : LeO (terms_readers.step k ty t l) (terms_readers.step (k + 1) ty t l) := by
  unfold terms_readers.step
  refine LeO.ite (LeO.bind (terms_number.mono _ _ k) fun _ => LeO.refl _) ?_
  refine LeO.ite (LeO.bind (accm_Get.mono _ k) fun _ => LeO.refl _) ?_
  refine LeO.ite (LeO.bind (terms_asked.mono _ k) fun _ => LeO.refl _) ?_
  refine LeO.ite (LeO.refl _) ?_
  exact LeO.ite (LeO.bind (terms_number.mono _ _ k) fun _ => LeO.refl _) (LeO.refl _)
set_option maxHeartbeats 8000000 in
set_option maxRecDepth 100000 in
theorem terms_readers.c1 (k : Nat) (t : terms_readers.T) (A0 : Option Addr) (c0 : Nat) (l : List Int) (x : Int) (y : Bool) (gt : Nat) (W : World) (hT : W.heap[gt]? = some (.cells t.cells 61 (0, 0))) (hr0 : Kd.C (Kd.int .u8) W A0 l.length l) (hc0 : l.length ≤ c0) (h : terms_number.f k l 2 = some (x, y)) :
    Calls Try.prog 69 #[.pointer (some ⟨gt, 0, none⟩), .slice A0 l.length c0] W fun e w' => e = .returned (.bool (y)) ∧ w'.heap[gt]? = some (.cells #[.bool true, .int .i64 (wrap64 x), .bool t.f2, .int .u32 t.f3, .int .i64 t.f4, .bool t.f5, .bool t.f6, .int .u32 t.f7, .bool t.f8, .bool t.f9] 61 (0, 0)) ∧ Turns W w' gt := by
  have HT := Aside0.mk hT
  have HR0 := Aside0.mk hr0
  have HC0 := Aside0.mk hc0
  have H := Aside0.mk h
  clear h
  clear hT hr0 hc0
  go_enter Try.func69, Try.ntmps69
  go_wp2_with (fail)
  refine (terms_number.calls k A0 c0 l 2 x y _ HR0.out HC0.out H.out).mono ?_
  rintro e w1 ⟨rfl, hd⟩
  have HT1 := Aside0.mk (blk_below HT.out hd.below)
  have TU : Aside0 (Turns W w1 gt) := ⟨(Turns.refl _ _).grow hd.below⟩
  clear hd
  have hc0 : w1.cell? ⟨gt, 0, none⟩ = some (.bool t.f0) := (blk_cell HT1.out 0).trans rfl
  have hf0 := blk_frozen HT1.out 0
  have hc1 : w1.cell? ⟨gt, 1, none⟩ = some (.int .i64 t.f1) := (blk_cell HT1.out 1).trans rfl
  have hf1 := blk_frozen HT1.out 1
  go_wp2_with (fail)
  go_ret
  exact ⟨rfl, by refine blk_put (cs := #[.bool true, .int .i64 t.f1, .bool t.f2, .int .u32 t.f3, .int .i64 t.f4, .bool t.f5, .bool t.f6, .int .u32 t.f7, .bool t.f8, .bool t.f9]) ?_ 1 _ rfl; refine blk_put (cs := #[.bool t.f0, .int .i64 t.f1, .bool t.f2, .int .u32 t.f3, .int .i64 t.f4, .bool t.f5, .bool t.f6, .int .u32 t.f7, .bool t.f8, .bool t.f9]) ?_ 0 _ rfl; exact HT1.out, ((TU.out.set 0 _).set 1 _)⟩
set_option maxHeartbeats 8000000 in
set_option maxRecDepth 100000 in
theorem terms_readers.c2 (k : Nat) (t : terms_readers.T) (A0 : Option Addr) (c0 : Nat) (l : List Int) (x : Int) (y : Bool) (gt : Nat) (W : World) (hT : W.heap[gt]? = some (.cells t.cells 61 (0, 0))) (hr0 : Kd.C (Kd.int .u8) W A0 l.length l) (hc0 : l.length ≤ c0) (h : accm_Get.f k l = some (x, y)) :
    Calls Try.prog 71 #[.pointer (some ⟨gt, 0, none⟩), .slice A0 l.length c0] W fun e w' => e = .returned (.bool (y)) ∧ w'.heap[gt]? = some (.cells #[.bool t.f0, .int .i64 t.f1, .bool true, .int .u32 x, .int .i64 t.f4, .bool t.f5, .bool t.f6, .int .u32 t.f7, .bool t.f8, .bool t.f9] 61 (0, 0)) ∧ Turns W w' gt := by
  have HT := Aside0.mk hT
  have HR0 := Aside0.mk hr0
  have HC0 := Aside0.mk hc0
  have H := Aside0.mk h
  clear h
  clear hT hr0 hc0
  go_enter Try.func71, Try.ntmps71
  go_wp2_with (fail)
  refine (accm_Get.calls k A0 c0 l x y _ HR0.out HC0.out H.out).mono ?_
  rintro e w1 ⟨rfl, hd⟩
  have HT1 := Aside0.mk (blk_below HT.out hd.below)
  have TU : Aside0 (Turns W w1 gt) := ⟨(Turns.refl _ _).grow hd.below⟩
  clear hd
  have hc2 : w1.cell? ⟨gt, 2, none⟩ = some (.bool t.f2) := (blk_cell HT1.out 2).trans rfl
  have hf2 := blk_frozen HT1.out 2
  have hc3 : w1.cell? ⟨gt, 3, none⟩ = some (.int .u32 t.f3) := (blk_cell HT1.out 3).trans rfl
  have hf3 := blk_frozen HT1.out 3
  go_wp2_with (fail)
  go_ret
  exact ⟨rfl, by refine blk_put (cs := #[.bool t.f0, .int .i64 t.f1, .bool true, .int .u32 t.f3, .int .i64 t.f4, .bool t.f5, .bool t.f6, .int .u32 t.f7, .bool t.f8, .bool t.f9]) ?_ 3 _ rfl; refine blk_put (cs := #[.bool t.f0, .int .i64 t.f1, .bool t.f2, .int .u32 t.f3, .int .i64 t.f4, .bool t.f5, .bool t.f6, .int .u32 t.f7, .bool t.f8, .bool t.f9]) ?_ 2 _ rfl; exact HT1.out, ((TU.out.set 2 _).set 3 _)⟩
set_option maxHeartbeats 8000000 in
set_option maxRecDepth 100000 in
theorem terms_readers.c3 (k : Nat) (t : terms_readers.T) (A0 : Option Addr) (c0 : Nat) (l : List Int) (x : Int) (gt : Nat) (W : World) (hT : W.heap[gt]? = some (.cells t.cells 61 (0, 0))) (hr0 : Kd.C (Kd.int .u8) W A0 l.length l) (hc0 : l.length ≤ c0) (h : terms_asked.f k l = some x) :
    Calls Try.prog 73 #[.pointer (some ⟨gt, 0, none⟩), .slice A0 l.length c0] W fun e w' => e = .returned (.bool (x != 0)) ∧ w'.heap[gt]? = some (.cells #[.bool t.f0, .int .i64 t.f1, .bool t.f2, .int .u32 t.f3, .int .i64 x, .bool t.f5, .bool t.f6, .int .u32 t.f7, .bool t.f8, .bool t.f9] 61 (0, 0)) ∧ Turns W w' gt := by
  have HT := Aside0.mk hT
  have HR0 := Aside0.mk hr0
  have HC0 := Aside0.mk hc0
  have H := Aside0.mk h
  clear h
  clear hT hr0 hc0
  have hc4 : W.cell? ⟨gt, 4, none⟩ = some (.int .i64 t.f4) := (blk_cell HT.out 4).trans rfl
  have hf4 := blk_frozen HT.out 4
  go_enter Try.func73, Try.ntmps73
  go_wp2_with (fail)
  refine (terms_asked.calls k A0 c0 l x _ HR0.out HC0.out H.out).mono ?_
  rintro e w1 ⟨rfl, hb⟩
  have HT1 := Aside0.mk (blk_below HT.out hb)
  have TU : Aside0 (Turns W w1 gt) := ⟨(Turns.refl _ _).grow hb⟩
  clear hb hc4 hf4
  have hc4 : w1.cell? ⟨gt, 4, none⟩ = some (.int .i64 t.f4) := (blk_cell HT1.out 4).trans rfl
  have hf4 := blk_frozen HT1.out 4
  go_wp2_with (fail)
  go_ret
  exact ⟨rfl, by refine blk_put (cs := #[.bool t.f0, .int .i64 t.f1, .bool t.f2, .int .u32 t.f3, .int .i64 t.f4, .bool t.f5, .bool t.f6, .int .u32 t.f7, .bool t.f8, .bool t.f9]) ?_ 4 _ rfl; exact HT1.out, (TU.out.set 4 _)⟩
set_option maxHeartbeats 8000000 in
set_option maxRecDepth 100000 in
theorem terms_readers.c4 (k : Nat) (t : terms_readers.T) (A0 : Option Addr) (c0 : Nat) (l : List Int)  (gt : Nat) (W : World) (hT : W.heap[gt]? = some (.cells t.cells 61 (0, 0))) (hr0 : Kd.C (Kd.int .u8) W A0 l.length l) (hc0 : l.length ≤ c0) :
    Calls Try.prog 74 #[.pointer (some ⟨gt, 0, none⟩), .slice A0 l.length c0] W fun e w' => e = .returned (.bool (decide (2 ≤ (l.length : Int)))) ∧ w'.heap[gt]? = some (.cells #[.bool t.f0, .int .i64 t.f1, .bool t.f2, .int .u32 t.f3, .int .i64 t.f4, .bool true, .bool t.f6, .int .u32 t.f7, .bool t.f8, .bool t.f9] 61 (0, 0)) ∧ Turns W w' gt := by
  have HT := Aside0.mk hT
  have HR0 := Aside0.mk hr0
  have HC0 := Aside0.mk hc0
  clear hT hr0 hc0
  have hc5 : W.cell? ⟨gt, 5, none⟩ = some (.bool t.f5) := (blk_cell HT.out 5).trans rfl
  have hf5 := blk_frozen HT.out 5
  go_enter Try.func74, Try.ntmps74
  go_wp2_with (fail)
  go_ret
  exact ⟨rfl, by refine blk_put (cs := #[.bool t.f0, .int .i64 t.f1, .bool t.f2, .int .u32 t.f3, .int .i64 t.f4, .bool t.f5, .bool t.f6, .int .u32 t.f7, .bool t.f8, .bool t.f9]) ?_ 5 _ rfl; exact HT.out, ((Turns.refl _ _).set 5 _)⟩
set_option maxHeartbeats 8000000 in
set_option maxRecDepth 100000 in
theorem terms_readers.c5 (k : Nat) (t : terms_readers.T) (A0 : Option Addr) (c0 : Nat) (l : List Int) (x : Int) (y : Bool) (gt : Nat) (W : World) (hT : W.heap[gt]? = some (.cells t.cells 61 (0, 0))) (hr0 : Kd.C (Kd.int .u8) W A0 l.length l) (hc0 : l.length ≤ c0) (h : terms_number.f k l 4 = some (x, y)) :
    Calls Try.prog 75 #[.pointer (some ⟨gt, 0, none⟩), .slice A0 l.length c0] W fun e w' => e = .returned (.bool (y && x != 0)) ∧ w'.heap[gt]? = some (.cells #[.bool t.f0, .int .i64 t.f1, .bool t.f2, .int .u32 t.f3, .int .i64 t.f4, .bool t.f5, .bool true, .int .u32 (x % 4294967296), .bool t.f8, .bool t.f9] 61 (0, 0)) ∧ Turns W w' gt := by
  have HT := Aside0.mk hT
  have HR0 := Aside0.mk hr0
  have HC0 := Aside0.mk hc0
  have H := Aside0.mk h
  clear h
  clear hT hr0 hc0
  go_enter Try.func75, Try.ntmps75
  go_wp2_with (fail)
  refine (terms_number.calls k A0 c0 l 4 x y _ HR0.out HC0.out H.out).mono ?_
  rintro e w1 ⟨rfl, hd⟩
  have HT1 := Aside0.mk (blk_below HT.out hd.below)
  have TU : Aside0 (Turns W w1 gt) := ⟨(Turns.refl _ _).grow hd.below⟩
  clear hd
  have hc6 : w1.cell? ⟨gt, 6, none⟩ = some (.bool t.f6) := (blk_cell HT1.out 6).trans rfl
  have hf6 := blk_frozen HT1.out 6
  have hc7 : w1.cell? ⟨gt, 7, none⟩ = some (.int .u32 t.f7) := (blk_cell HT1.out 7).trans rfl
  have hf7 := blk_frozen HT1.out 7
  cases y <;> (go_wp2_with (fail); go_ret; exact ⟨rfl, by refine blk_put (cs := #[.bool t.f0, .int .i64 t.f1, .bool t.f2, .int .u32 t.f3, .int .i64 t.f4, .bool t.f5, .bool true, .int .u32 t.f7, .bool t.f8, .bool t.f9]) ?_ 7 _ rfl; refine blk_put (cs := #[.bool t.f0, .int .i64 t.f1, .bool t.f2, .int .u32 t.f3, .int .i64 t.f4, .bool t.f5, .bool t.f6, .int .u32 t.f7, .bool t.f8, .bool t.f9]) ?_ 6 _ rfl; exact HT1.out, ((TU.out.set 6 _).set 7 _)⟩)
set_option maxHeartbeats 8000000 in
set_option maxRecDepth 100000 in
theorem terms_readers.c7 (k : Nat) (t : terms_readers.T) (A0 : Option Addr) (c0 : Nat) (l : List Int)  (gt : Nat) (W : World) (hT : W.heap[gt]? = some (.cells t.cells 61 (0, 0))) (hr0 : Kd.C (Kd.int .u8) W A0 l.length l) (hc0 : l.length ≤ c0) :
    Calls Try.prog 76 #[.pointer (some ⟨gt, 0, none⟩), .slice A0 l.length c0] W fun e w' => e = .returned (.bool ((l.length : Int) == 0)) ∧ w'.heap[gt]? = some (.cells #[.bool t.f0, .int .i64 t.f1, .bool t.f2, .int .u32 t.f3, .int .i64 t.f4, .bool t.f5, .bool t.f6, .int .u32 t.f7, .bool true, .bool t.f9] 61 (0, 0)) ∧ Turns W w' gt := by
  have HT := Aside0.mk hT
  have HR0 := Aside0.mk hr0
  have HC0 := Aside0.mk hc0
  clear hT hr0 hc0
  have hc8 : W.cell? ⟨gt, 8, none⟩ = some (.bool t.f8) := (blk_cell HT.out 8).trans rfl
  have hf8 := blk_frozen HT.out 8
  go_enter Try.func76, Try.ntmps76
  go_wp2_with (fail)
  go_ret
  exact ⟨rfl, by refine blk_put (cs := #[.bool t.f0, .int .i64 t.f1, .bool t.f2, .int .u32 t.f3, .int .i64 t.f4, .bool t.f5, .bool t.f6, .int .u32 t.f7, .bool t.f8, .bool t.f9]) ?_ 8 _ rfl; exact HT.out, ((Turns.refl _ _).set 8 _)⟩
set_option maxHeartbeats 8000000 in
set_option maxRecDepth 100000 in
theorem terms_readers.c8 (k : Nat) (t : terms_readers.T) (A0 : Option Addr) (c0 : Nat) (l : List Int)  (gt : Nat) (W : World) (hT : W.heap[gt]? = some (.cells t.cells 61 (0, 0))) (hr0 : Kd.C (Kd.int .u8) W A0 l.length l) (hc0 : l.length ≤ c0) :
    Calls Try.prog 77 #[.pointer (some ⟨gt, 0, none⟩), .slice A0 l.length c0] W fun e w' => e = .returned (.bool ((l.length : Int) == 0)) ∧ w'.heap[gt]? = some (.cells #[.bool t.f0, .int .i64 t.f1, .bool t.f2, .int .u32 t.f3, .int .i64 t.f4, .bool t.f5, .bool t.f6, .int .u32 t.f7, .bool t.f8, .bool true] 61 (0, 0)) ∧ Turns W w' gt := by
  have HT := Aside0.mk hT
  have HR0 := Aside0.mk hr0
  have HC0 := Aside0.mk hc0
  clear hT hr0 hc0
  have hc9 : W.cell? ⟨gt, 9, none⟩ = some (.bool t.f9) := (blk_cell HT.out 9).trans rfl
  have hf9 := blk_frozen HT.out 9
  go_enter Try.func77, Try.ntmps77
  go_wp2_with (fail)
  go_ret
  exact ⟨rfl, by refine blk_put (cs := #[.bool t.f0, .int .i64 t.f1, .bool t.f2, .int .u32 t.f3, .int .i64 t.f4, .bool t.f5, .bool t.f6, .int .u32 t.f7, .bool t.f8, .bool t.f9]) ?_ 9 _ rfl; exact HT.out, ((Turns.refl _ _).set 9 _)⟩
theorem terms_readers.neq_nil : ∀ W : World, (binOp .neq 87 .nilFunc .nilFunc).run Try.prog W = .ok (.bool false) W := fun W => by kernel_rfl
theorem terms_readers.neq_fn : ∀ (n : Nat) (W : World), (binOp .neq 87 (.func (.func n) #[] #[]) .nilFunc).run Try.prog W = .ok (.bool true) W := fun n W => by kernel_rfl
theorem terms_readers.eql_nil : ∀ W : World, (binOp .eql 87 .nilFunc .nilFunc).run Try.prog W = .ok (.bool true) W := fun W => by kernel_rfl
theorem terms_readers.eql_fn : ∀ (n : Nat) (W : World), (binOp .eql 87 (.func (.func n) #[] #[]) .nilFunc).run Try.prog W = .ok (.bool false) W := fun n W => by kernel_rfl
theorem terms_readers.Tab.drew {w : World} {b : Nat} (h : terms_readers.Tab w b) : terms_readers.Tab w.drew b := MapIs.kept h rfl
theorem terms_readers.Tab.look_nil {w : World} {b : Nat} (h : terms_readers.Tab w b) (a : Int) (ha : (Lit.int .i64 a).wf = true) (hf : terms_readers.fn a = -1) : (Instr.lookup 88 (.map (some b)) (.int .i64 a) false).run Try.prog w = .ok .nilFunc w :=
  (h.look a ha).elim (fun x => x.2) (fun x => absurd x.1 (by omega))
theorem terms_readers.Tab.look_fn {w : World} {b : Nat} (h : terms_readers.Tab w b) (a : Int) (ha : (Lit.int .i64 a).wf = true) (hf : terms_readers.fn a ≠ -1) : (Instr.lookup 88 (.map (some b)) (.int .i64 a) false).run Try.prog w = .ok (.func (.func (terms_readers.fn a).toNat) #[] #[]) w :=
  (h.look a ha).elim (fun x => absurd x.1 hf) (fun x => x.2)
/-- The contract of the function that a type leads to. -/
theorem terms_readers.read (k : Nat) (ty : Int) (t : terms_readers.T) (A0 : Option Addr) (c0 : Nat) (l : List Int) (t' : terms_readers.T) (ok : Bool) (gt : Nat) (W : World) (hT : W.heap[gt]? = some (.cells t.cells 61 (0, 0))) (hr0 : Kd.C (Kd.int .u8) W A0 l.length l) (hc0 : l.length ≤ c0) (h : terms_readers.step k ty t l = some (t', ok)) :
    Calls Try.prog (terms_readers.fn ty).toNat #[.pointer (some ⟨gt, 0, none⟩), .slice A0 l.length c0] W fun e w' => e = .returned (.bool ok) ∧ w'.heap[gt]? = some (.cells t'.cells 61 (0, 0)) ∧ Turns W w' gt := by
  unfold terms_readers.step at h
  by_cases e1 : ty = 1
  · rw [if_pos e1] at h
    subst e1
    obtain ⟨r, hr, h⟩ := Option.bind_eq_some_iff.1 h
    simp only [Option.some.injEq, Prod.mk.injEq] at h
    obtain ⟨rfl, rfl⟩ := h
    exact terms_readers.c1 k t A0 c0 l r.1 r.2 gt W hT hr0 hc0 hr
  · rw [if_neg e1] at h
    by_cases e2 : ty = 2
    · rw [if_pos e2] at h
      subst e2
      obtain ⟨r, hr, h⟩ := Option.bind_eq_some_iff.1 h
      simp only [Option.some.injEq, Prod.mk.injEq] at h
      obtain ⟨rfl, rfl⟩ := h
      exact terms_readers.c2 k t A0 c0 l r.1 r.2 gt W hT hr0 hc0 hr
    · rw [if_neg e2] at h
      by_cases e3 : ty = 3
      · rw [if_pos e3] at h
        subst e3
        obtain ⟨r, hr, h⟩ := Option.bind_eq_some_iff.1 h
        simp only [Option.some.injEq, Prod.mk.injEq] at h
        obtain ⟨rfl, rfl⟩ := h
        exact terms_readers.c3 k t A0 c0 l r gt W hT hr0 hc0 hr
      · rw [if_neg e3] at h
        by_cases e4 : ty = 4
        · rw [if_pos e4] at h
          subst e4
          simp only [Option.some.injEq, Prod.mk.injEq] at h
          obtain ⟨rfl, rfl⟩ := h
          exact terms_readers.c4 k t A0 c0 l gt W hT hr0 hc0
        · rw [if_neg e4] at h
          by_cases e5 : ty = 5
          · rw [if_pos e5] at h
            subst e5
            obtain ⟨r, hr, h⟩ := Option.bind_eq_some_iff.1 h
            simp only [Option.some.injEq, Prod.mk.injEq] at h
            obtain ⟨rfl, rfl⟩ := h
            exact terms_readers.c5 k t A0 c0 l r.1 r.2 gt W hT hr0 hc0 hr
          · rw [if_neg e5] at h
            by_cases e7 : ty = 7
            · rw [if_pos e7] at h
              subst e7
              simp only [Option.some.injEq, Prod.mk.injEq] at h
              obtain ⟨rfl, rfl⟩ := h
              exact terms_readers.c7 k t A0 c0 l gt W hT hr0 hc0
            · rw [if_neg e7] at h
              by_cases e8 : ty = 8
              · rw [if_pos e8] at h
                subst e8
                simp only [Option.some.injEq, Prod.mk.injEq] at h
                obtain ⟨rfl, rfl⟩ := h
                exact terms_readers.c8 k t A0 c0 l gt W hT hr0 hc0
              · rw [if_neg e8] at h
                cases h
theorem terms_readers.enters (ty : Int) (h : terms_readers.fn ty ≠ -1) : ∀ (args : Array Value) (W : World), (callFunc (terms_readers.fn ty).toNat args).run Try.prog W = .ok (.enter (terms_readers.fn ty).toNat args) W := by
  intro args W
  unfold terms_readers.fn at h ⊢
  by_cases e1 : ty = 1
  · rw [if_pos e1]
    exact enters_ Try.func69 (by kernel_rfl) (by kernel_rfl) args W
  · rw [if_neg e1] at h ⊢
    by_cases e2 : ty = 2
    · rw [if_pos e2]
      exact enters_ Try.func71 (by kernel_rfl) (by kernel_rfl) args W
    · rw [if_neg e2] at h ⊢
      by_cases e3 : ty = 3
      · rw [if_pos e3]
        exact enters_ Try.func73 (by kernel_rfl) (by kernel_rfl) args W
      · rw [if_neg e3] at h ⊢
        by_cases e4 : ty = 4
        · rw [if_pos e4]
          exact enters_ Try.func74 (by kernel_rfl) (by kernel_rfl) args W
        · rw [if_neg e4] at h ⊢
          by_cases e5 : ty = 5
          · rw [if_pos e5]
            exact enters_ Try.func75 (by kernel_rfl) (by kernel_rfl) args W
          · rw [if_neg e5] at h ⊢
            by_cases e7 : ty = 7
            · rw [if_pos e7]
              exact enters_ Try.func76 (by kernel_rfl) (by kernel_rfl) args W
            · rw [if_neg e7] at h ⊢
              by_cases e8 : ty = 8
              · rw [if_pos e8]
                exact enters_ Try.func77 (by kernel_rfl) (by kernel_rfl) args W
              · rw [if_neg e8] at h ⊢
                exact absurd rfl h

end Go.Proofs.Ytnjimecjpnjojaa.Print
