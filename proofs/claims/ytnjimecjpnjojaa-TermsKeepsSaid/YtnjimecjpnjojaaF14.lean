-- laid by this session's own program (wip/mkprint.sh) for this claim
import Derived.Test.Ytnjimecjpnjojaa0
import Derived.Test.YtnjimecjpnjojaaF40
import Derived.Test.YtnjimecjpnjojaaF41
import Derived.Test.YtnjimecjpnjojaaF26
import Derived.Test.YtnjimecjpnjojaaF31
import Derived.Test.YtnjimecjpnjojaaF38
namespace Go.Proofs.Ytnjimecjpnjojaa.Print
open Go.RowKit Go.Proofs.YtnjimecjpnjojaaW.PrintWords Go.Proofs.YtnjimecjpnjojaaW.PrintLast Go.Proofs.YtnjimecjpnjojaaW.PrintMore
attribute [local go_sem] max2_int min2_int max_two min_two max_three min_three max_four min_four   -- for this text's walks alone
set_option linter.unusedVariables false
set_option linter.unusedSimpArgs false

/-! ### umpirelaw14_TermsKeeps: function 14 -/
theorem TKint {w : World} {a : Addr} (h : ∃ m, w.cell? a = some (.int .u8 m)) (b : Addr) (x : Int) : ∃ m, (w.setCell b (.int .u8 x)).cell? a = some (.int .u8 m) := by
  obtain ⟨m, hm⟩ := h
  by_cases e : b = a
  · subst e
    exact ⟨x, World.cell?_setCell_same _ _ _ hm⟩
  · exact ⟨m, (World.cell?_setCell_other _ _ _ _ e).trans hm⟩
/-- What is reckoned behind the loop that makes own. -/
def umpirelaw14_TermsKeeps.rest (k : Nat) (own l : List (S55)) : Option Bool := (terms_Bad.f k own).bind fun p => (umpireref12_Same.f k own l).bind fun s => if s = true then (umpireref14_Bad.f k l).bind fun q => (umpireref12_Same.f k p.1 q.1).bind fun s2 => if s2 = true then (umpireref12_Same.f k p.2 q.2).bind fun s3 => if s3 = true then (terms_Bad.f k l).bind fun p2 => umpireref12_Same.f k p2.2 q.2 else none else none else none
theorem umpirelaw14_TermsKeeps.rest_mono (own l : List (S55)) (k : Nat) : LeO (umpirelaw14_TermsKeeps.rest k own l) (umpirelaw14_TermsKeeps.rest (k + 1) own l) :=
  LeO.bind (terms_Bad.mono _ k) fun _ => LeO.bind (umpireref12_Same.mono _ _ k) fun _ => LeO.ite (LeO.bind (umpireref14_Bad.mono _ k) fun _ => LeO.bind (umpireref12_Same.mono _ _ k) fun _ => LeO.ite (LeO.bind (umpireref12_Same.mono _ _ k) fun _ => LeO.ite (LeO.bind (terms_Bad.mono _ k) fun _ => umpireref12_Same.mono _ _ k) (LeO.refl _)) (LeO.refl _)) (LeO.refl _)
theorem umpirelaw14_TermsKeeps.rest_inv {k : Nat} {own l : List (S55)} {r : Bool} (h : umpirelaw14_TermsKeeps.rest k own l = some r) : ∃ a b c d a2 e, terms_Bad.f k own = some (a, b) ∧ umpireref12_Same.f k own l = some true ∧ umpireref14_Bad.f k l = some (c, d) ∧ umpireref12_Same.f k a c = some true ∧ umpireref12_Same.f k b d = some true ∧ terms_Bad.f k l = some (a2, e) ∧ umpireref12_Same.f k e d = some r := by
  obtain ⟨⟨a, b⟩, h1, h⟩ := Option.bind_eq_some_iff.1 h
  obtain ⟨s, h2, h⟩ := Option.bind_eq_some_iff.1 h
  by_cases e2 : s = true
  · subst e2
    rw [if_pos rfl] at h
    obtain ⟨⟨c, d⟩, h3, h⟩ := Option.bind_eq_some_iff.1 h
    obtain ⟨s, h4, h⟩ := Option.bind_eq_some_iff.1 h
    by_cases e4 : s = true
    · subst e4
      rw [if_pos rfl] at h
      obtain ⟨s, h5, h⟩ := Option.bind_eq_some_iff.1 h
      by_cases e5 : s = true
      · subst e5
        rw [if_pos rfl] at h
        obtain ⟨⟨a2, e⟩, h6, h⟩ := Option.bind_eq_some_iff.1 h
        exact ⟨a, b, c, d, a2, e, h1, h2, h3, h4, h5, h6, h⟩
      · rw [if_neg e5] at h
        cases h
    · rw [if_neg e4] at h
      cases h
  · rw [if_neg e2] at h
    cases h
/-- Bytes behind a row's elements, that may be written: their blocks lie in [lo, hi), none is the row's own. -/
structure TKShp (W : World) (lo hi g n : Nat) (row : Nat → Option Addr × Nat × Nat) : Prop where
  outer : ∀ i, i < n → W.cell? ⟨g, i * 2 + 1, none⟩ = some (.slice (row i).1 (row i).2.1 (row i).2.2)
  inner : ∀ i, i < n → ∀ j, j < (row i).2.1 → ∃ b, (row i).1 = some ⟨b, 0, none⟩ ∧ (∃ x, W.cell? ⟨b, j, none⟩ = some (.int .u8 x)) ∧ (∃ cur, W.heap[b]? = some (.cells cur 5 (0, 0))) ∧ lo ≤ b ∧ b < hi ∧ b ≠ g
  few : ∀ i, i < n → (row i).2.1 ≤ 9223372036854775807
theorem TKShp.below {W W1 : World} {lo hi g n : Nat} {row : Nat → Option Addr × Nat × Nat} (h : TKShp W lo hi g n row) (hb : Below W.heap.size W W1) : TKShp W1 lo hi g n row where
  outer := fun i hi => (hb.cell (World.block_lt_of_cell? W _ (h.outer i hi))).trans (h.outer i hi)
  inner := fun i hi j hj => by
    obtain ⟨b, e, ⟨x, hx⟩, ⟨cur, hc⟩, r⟩ := h.inner i hi j hj
    exact ⟨b, e, ⟨x, (hb.cell (World.block_lt_of_cell? W _ hx)).trans hx⟩, ⟨cur, blk_below hc hb⟩, r⟩
  few := h.few
theorem TKShp.set {W : World} {lo hi g n : Nat} {row : Nat → Option Addr × Nat × Nat} (h : TKShp W lo hi g n row) {b j : Nat} (hbg : b ≠ g) (y : Int) : TKShp (W.setCell ⟨b, j, none⟩ (.int .u8 y)) lo hi g n row where
  outer := fun i hi => (cell_far (p := ⟨b, j, none⟩) (a := ⟨g, i * 2 + 1, none⟩) (fun e => hbg e.symm) _).trans (h.outer i hi)
  inner := fun i hi j' hj => by
    obtain ⟨b', e, hx, ⟨cur, hc⟩, r⟩ := h.inner i hi j' hj
    refine ⟨b', e, TKint hx _ _, ?_, r⟩
    by_cases eb : b' = b
    · subst eb
      exact ⟨_, blk_set hc j (.int .u8 y)⟩
    · exact ⟨cur, (Below.heap_setCell W ⟨b, j, none⟩ (.int .u8 y) b' eb).trans hc⟩
  few := h.few
def TKrow (W : World) (g : Nat) (i : Nat) : Option Addr × Nat × Nat := match W.cell? ⟨g, i * 2 + 1, none⟩ with
  | some (.slice A m c) => (A, m, c)
  | _ => (none, 0, 0)
theorem TKShp.of_S {W : World} {base hi g n c : Nat} {ok : Nat → Prop} {xs : List (S55)} (h : Kd.S k55 55 W base ok (.slice (some ⟨g, 0, none⟩) n c) xs) (hok : ∀ k, ok k → base ≤ k ∧ k < hi) : TKShp W base hi g n (TKrow W g) := by
  obtain ⟨gc, hgc⟩ := Kd.S_typed h g (by simp [Value.ownBlock])
  have main : ∀ i, i < n → ∃ (A1 : Option Addr) (m c1 : Nat), W.cell? ⟨g, i * 2 + 1, none⟩ = some (.slice A1 m c1) ∧ m ≤ 9223372036854775807 ∧ ∀ j, j < m → ∃ b, A1 = some ⟨b, 0, none⟩ ∧ (∃ x, W.cell? ⟨b, j, none⟩ = some (.int .u8 x)) ∧ (∃ cur, W.heap[b]? = some (.cells cur 5 (0, 0))) ∧ base ≤ b ∧ b < hi ∧ b ≠ g := by
    intro i hi
    obtain ⟨cs, _, hM, hc⟩ := Kd.S_get h z55 (i : Int) (by omega) (by omega)
    obtain ⟨v1, rfl, hR⟩ := k55_openM hM
    obtain ⟨A1, c1, rfl⟩ := Kd.R_slice hR
    have hcell := hc 1 _ rfl
    have e1 : (⟨g, 0, none⟩ : Addr).add ((i : Int).toNat * k55.sz + 1) = ⟨g, i * 2 + 1, none⟩ := by
      rw [Int.toNat_natCast, show k55.sz = 2 from rfl]
      simp [Addr.add]
    rw [e1] at hcell
    refine ⟨A1, _, c1, hcell, Kd.C_max (Kd.R_reads' hR).2.2, fun j hj => ?_⟩
    obtain ⟨b, cap, hv, h1, h2, cur, hcur⟩ := Kd.R_form hR (by omega)
    injection hv with hA _ hcap
    subst hA hcap
    obtain ⟨hx, _⟩ := Kd.R_celln 0 hR (j : Int) (by omega) (by omega)
    rw [Int.toNat_natCast] at hx
    have hk := hok b (hR.1 b (by simp [Value.ownBlock])).1
    refine ⟨b, rfl, ⟨_, hx⟩, ⟨cur, hcur⟩, hk.1, hk.2, ?_⟩
    rintro rfl
    rw [hcur] at hgc
    injection hgc with hgc
    injection hgc with _ hgc
    exact absurd hgc (by decide)
  have hr : ∀ i, i < n → ∀ (A1 : Option Addr) (m c1 : Nat), W.cell? ⟨g, i * 2 + 1, none⟩ = some (.slice A1 m c1) → TKrow W g i = (A1, m, c1) := by
    intro i hi A1 m c1 hc
    unfold TKrow
    rw [hc]
  constructor
  · intro i hi
    obtain ⟨A1, m, c1, hc, _⟩ := main i hi
    rw [hr i hi A1 m c1 hc]
    exact hc
  · intro i hi
    obtain ⟨A1, m, c1, hc, _, hin⟩ := main i hi
    rw [hr i hi A1 m c1 hc]
    exact hin
  · intro i hi
    obtain ⟨A1, m, c1, hc, hm, _⟩ := main i hi
    rw [hr i hi A1 m c1 hc]
    exact hm
/-- What a loop over them leaves: w the call's world, W1 the loop's. -/
structure TKAlt (w W1 W : World) (lo hi g n : Nat) (row : Nat → Option Addr × Nat × Nat) : Prop where
  shp : TKShp W lo hi g n row
  bel : Below w.heap.size w W
  kept : Kept W1 W (fun k => lo ≤ k ∧ k < hi)
theorem TKAlt.drew {w W1 W : World} {lo hi g n : Nat} {row : Nat → Option Addr × Nat × Nat} (h : TKAlt w W1 W lo hi g n row) : TKAlt w W1 W.drew lo hi g n row := ⟨h.shp.below (below_drew (Below.refl _ _)), below_drew1 h.bel, h.kept.drew⟩
theorem TKAlt.set {w W1 W : World} {lo hi g n : Nat} {row : Nat → Option Addr × Nat × Nat} (h : TKAlt w W1 W lo hi g n row) (hw : w.heap.size ≤ lo) {b j : Nat} (h1 : lo ≤ b) (h2 : b < hi) (hbg : b ≠ g) (y : Int) : TKAlt w W1 (W.setCell ⟨b, j, none⟩ (.int .u8 y)) lo hi g n row :=
  ⟨h.shp.set hbg y, below_set h.bel (Nat.le_trans hw h1), h.kept.setCell (.inl ⟨h1, h2⟩) _⟩
mutual
def umpirelaw14_TermsKeeps.j0 : Nat → List (S55) → Bool → Option (Bool)
  | 0, _, _ => none
  | k + 1, x0, x21 => if x21 = true then ((umpirelaw14_awake.f k).bind fun t832 => (some t832)) else (umpirelaw14_TermsKeeps.l0 k x0 ([] : List (S55)) 0)
def umpirelaw14_TermsKeeps.l0 : Nat → List (S55) → List (S55) → Int → Option (Bool)
  | 0, _, _, _ => none
  | k + 1, x0, x3, x4 => if x4 < (x0.length : Int) then (if 0 ≤ x4 then ((some (([] : List Int) : List Int)).bind fun y834 => (if y834.length + ((rd_T55 x0 x4).f1).length < 140737488355328 then (if x3.length < 4398046511104 then (umpirelaw14_TermsKeeps.l0 k x0 (x3 ++ [(⟨(rd_T55 x0 x4).f0, (y834 ++ ((rd_T55 x0 x4).f1))⟩ : S55)]) (wrap64 (x4 + 1))) else (none)) else (none))) else (none)) else (umpirelaw14_TermsKeeps.rest k x3 x0)
end
def umpirelaw14_TermsKeeps.f (k : Nat) (l0 : List (S55)) : Option (Bool) := (umpirelaw14_awake.f k).bind fun t830 => (if t830 = true then ((umpireref12_Few.f k l0).bind fun t831 => (umpirelaw14_TermsKeeps.j0 k l0 (!t831))) else (umpirelaw14_TermsKeeps.j0 k l0 true))
theorem umpirelaw14_TermsKeeps.mono_l : ∀ k, (∀ y0 y1, LeO (umpirelaw14_TermsKeeps.j0 k y0 y1) (umpirelaw14_TermsKeeps.j0 (k + 1) y0 y1)) ∧ (∀ y0 y1 y2, LeO (umpirelaw14_TermsKeeps.l0 k y0 y1 y2) (umpirelaw14_TermsKeeps.l0 (k + 1) y0 y1 y2))
  | 0 => ⟨fun _ _ r h => by simp [umpirelaw14_TermsKeeps.j0] at h, fun _ _ _ r h => by simp [umpirelaw14_TermsKeeps.l0] at h⟩
  | k + 1 => by
    obtain ⟨ih0, ih1⟩ := umpirelaw14_TermsKeeps.mono_l k
    refine ⟨?_, ?_⟩
    · intro y0 y1
      unfold umpirelaw14_TermsKeeps.j0
      repeat' first
      | (with_reducible exact ih0 _ _)
      | (with_reducible exact ih1 _ _ _)
      | (with_reducible exact umpirelaw14_awake.mono _)
      | (with_reducible exact umpireref12_Few.mono _ _)
      | (with_reducible exact umpirelaw14_TermsKeeps.rest_mono _ _ _)
      | (with_reducible exact LeO.refl _)
      | (with_reducible exact LeO.none _)
      | (with_reducible refine LeO.ite ?_ ?_)
      | (with_reducible refine LeO.bind ?_ (fun _ => ?_))
      | exact ih0 _ _
      | exact ih1 _ _ _
      | exact umpirelaw14_awake.mono _
      | exact umpireref12_Few.mono _ _
      | exact umpirelaw14_TermsKeeps.rest_mono _ _ _
      | exact LeO.none _
      | refine LeO.ite ?_ ?_
      | refine LeO.bind ?_ (fun _ => ?_)
    · intro y0 y1 y2
      unfold umpirelaw14_TermsKeeps.l0
      repeat' first
      | (with_reducible exact ih0 _ _)
      | (with_reducible exact ih1 _ _ _)
      | (with_reducible exact umpirelaw14_awake.mono _)
      | (with_reducible exact umpireref12_Few.mono _ _)
      | (with_reducible exact umpirelaw14_TermsKeeps.rest_mono _ _ _)
      | (with_reducible exact LeO.refl _)
      | (with_reducible exact LeO.none _)
      | (with_reducible refine LeO.ite ?_ ?_)
      | (with_reducible refine LeO.bind ?_ (fun _ => ?_))
      | exact ih0 _ _
      | exact ih1 _ _ _
      | exact umpirelaw14_awake.mono _
      | exact umpireref12_Few.mono _ _
      | exact umpirelaw14_TermsKeeps.rest_mono _ _ _
      | exact LeO.none _
      | refine LeO.ite ?_ ?_
      | refine LeO.bind ?_ (fun _ => ?_)
theorem umpirelaw14_TermsKeeps.mono : ∀ a0 k, LeO (umpirelaw14_TermsKeeps.f k a0) (umpirelaw14_TermsKeeps.f (k + 1) a0) := by
  intro a0 k
  obtain ⟨ih0, ih1⟩ := umpirelaw14_TermsKeeps.mono_l k
  unfold umpirelaw14_TermsKeeps.f
  repeat' first
      | (with_reducible exact ih0 _ _)
      | (with_reducible exact ih1 _ _ _)
      | (with_reducible exact umpirelaw14_awake.mono _)
      | (with_reducible exact umpireref12_Few.mono _ _)
      | (with_reducible exact umpirelaw14_TermsKeeps.rest_mono _ _ _)
      | (with_reducible exact LeO.refl _)
      | (with_reducible exact LeO.none _)
      | (with_reducible refine LeO.ite ?_ ?_)
      | (with_reducible refine LeO.bind ?_ (fun _ => ?_))
      | exact ih0 _ _
      | exact ih1 _ _ _
      | exact umpirelaw14_awake.mono _
      | exact umpireref12_Few.mono _ _
      | exact umpirelaw14_TermsKeeps.rest_mono _ _ _
      | exact LeO.none _
      | refine LeO.ite ?_ ?_
      | refine LeO.bind ?_ (fun _ => ?_)
def umpirelaw14_TermsKeeps.T7 : Bool × List (List Nat × List Nat) := (true, [([], []), ([], []), ([], []), ([1, 2], [1, 2]), ([3], [3]), ([4], [4]), ([], []), ([], []), ([], []), ([7, 8], [7, 8]), ([9], [9]), ([10], [10]), ([6, 11], [6, 11]), ([5, 12], [5, 12]), ([13], [13]), ([0, 14, 12], [0, 14]), ([15, 15, 0, 1, 2, 3, 4, 5, 6, 7, 8, 9, 10, 11, 12, 13, 14, 15], [0, 15])])
def umpirelaw14_TermsKeeps.B7 : List Nat := [0, 0, 0, 6, 14, 30, 0, 0, 0, 384, 896, 1920, 4032, 8190, 16382, 32767, 65535]
theorem umpirelaw14_TermsKeeps.tab7 : rtab .any (opsOf Try.f14 7) = umpirelaw14_TermsKeeps.T7 := by kernel_rfl
theorem umpirelaw14_TermsKeeps.bits7 : waitsOk umpirelaw14_TermsKeeps.T7.2 umpirelaw14_TermsKeeps.B7 = true := by kernel_rfl
def umpirelaw14_TermsKeeps.T17 : Bool × List (List Nat × List Nat) := (true, [([], []), ([], []), ([0, 1], [0, 1]), ([2], [2]), ([3], [3]), ([], []), ([], []), ([], []), ([6, 7], [6, 7]), ([8], [8]), ([9], [9]), ([], []), ([10, 11], [10, 11]), ([12], [12]), ([13], [13]), ([4, 5, 0, 1, 2, 3, 4, 5, 6, 7, 8, 9, 10, 11, 12, 13, 14], [4, 5]), ([15, 14, 0, 1, 2, 3, 4, 5, 6, 7, 8, 9, 10, 11, 12, 13, 14], [14, 15])])
def umpirelaw14_TermsKeeps.B17 : List Nat := [0, 0, 3, 7, 15, 0, 0, 0, 192, 448, 960, 0, 4032, 8128, 16320, 32767, 65535]
theorem umpirelaw14_TermsKeeps.tab17 : rtab .any (opsOf Try.f14 17) = umpirelaw14_TermsKeeps.T17 := by kernel_rfl
theorem umpirelaw14_TermsKeeps.bits17 : waitsOk umpirelaw14_TermsKeeps.T17.2 umpirelaw14_TermsKeeps.B17 = true := by kernel_rfl
def umpirelaw14_TermsKeeps.T27 : Bool × List (List Nat × List Nat) := (true, [([], []), ([], []), ([0, 1], [0, 1]), ([2], [2]), ([3], [3]), ([], []), ([4, 5, 0, 1, 2, 3, 4, 5], [4, 5]), ([6, 0, 1, 2, 3, 4, 5], [6])])
def umpirelaw14_TermsKeeps.B27 : List Nat := [0, 0, 3, 7, 15, 0, 63, 127]
theorem umpirelaw14_TermsKeeps.tab27 : rtab .any (opsOf Try.f14 27) = umpirelaw14_TermsKeeps.T27 := by kernel_rfl
theorem umpirelaw14_TermsKeeps.bits27 : waitsOk umpirelaw14_TermsKeeps.T27.2 umpirelaw14_TermsKeeps.B27 = true := by kernel_rfl
set_option maxHeartbeats 8000000 in
set_option maxRecDepth 100000 in
theorem umpirelaw14_TermsKeeps.calls (k : Nat) (A0 : Option Addr) (c0 : Nat) (l0 : List (S55)) (r : Bool) (w : World) (hr0 : Kd.C k55 w A0 l0.length l0) (hc0 : l0.length ≤ c0) (h : umpirelaw14_TermsKeeps.f k l0 = some r) :
    Calls Try.prog 14 #[.slice A0 l0.length c0] w fun e w' => e = .returned (.bool r) ∧ Below w.heap.size w w' := by
  have hu55 := Try.underlying55
  have HR0 := Aside0.mk hr0
  have HC0 := Aside0.mk hc0
  clear hr0 hc0
  have HB := Aside0.mk (Below.refl w.heap.size w)
  have H : ((umpirelaw14_awake.f k).bind fun t830 => (if t830 = true then ((umpireref12_Few.f k l0).bind fun t831 => (umpirelaw14_TermsKeeps.j0 k l0 (!t831))) else (umpirelaw14_TermsKeeps.j0 k l0 true))) = some r := h
  clear h
  have HC2 := Aside0.mk H
  clear H
  go_enter Try.func14, Try.ntmps14
  go_upto_region 1 with (fail)
  go_cut [21] (fun v21 wc => ∃ (kq : Nat) (x21_1 : Bool), v21 = .bool x21_1 ∧ Aside0 (umpirelaw14_TermsKeeps.j0 kq l0 x21_1 = some r) ∧ Aside0 (kq ≤ k) ∧ Aside0 (Below w.heap.size w wc))
  case first =>
    have H := HC2.out
    clear HC2
    replace H := Option.bind_eq_some_iff.mp H
    obtain ⟨t830, A30, H⟩ := H
    replace H : (if t830 = true then ((umpireref12_Few.f k l0).bind fun t831 => (umpirelaw14_TermsKeeps.j0 k l0 (!t831))) else (umpirelaw14_TermsKeeps.j0 k l0 true)) = some r := H
    have A3 := Aside0.mk A30
    clear A30
    by_cases c4 : t830 = true
    · subst c4
      have H1 : ((umpireref12_Few.f k l0).bind fun t831 => (umpirelaw14_TermsKeeps.j0 k l0 (!t831))) = some r := by rw [if_pos rfl] at H; exact H
      clear H
      have H := H1
      clear H1
      replace H := Option.bind_eq_some_iff.mp H
      obtain ⟨t831, A50, H⟩ := H
      replace H : (umpirelaw14_TermsKeeps.j0 k l0 (!t831)) = some r := H
      have A5 := Aside0.mk A50
      clear A50
      have H' := Aside0.mk H
      clear H
      go_wp2_with (first | ((with_reducible refine gate_callee (f := 26) rfl ?_); refine goesL_ (some 15) rfl rfl Try.func26 (by kernel_rfl) rfl #[] rfl (by (try simp only [List.map_toArray, List.map_cons, List.map_nil]); first | done | rfl | (simp only [List.length_drop, List.length_take]; rfl)) ?_; (with_reducible refine (umpirelaw14_awake.calls k  true _ A3.out).mono ?_); rintro e w6 ⟨rfl, hb⟩; refine ⟨_, rfl, ?_⟩; have n0_ := Aside0.mk (below_step (by repeat (first | (with_reducible first | exact HB.out | apply below_alloc | apply pw_below_drewN | apply below_drew1) | exact HB.out)) hb); clear HB; have HB := n0_; clear n0_; (try clear hb); (try clear hb2); (try clear hk); (try clear hi)) | (go_at_call 31; (with_reducible refine (umpireref12_Few.calls k _ _ l0 t831 _ ?side1 ?side2 A5.out).mono ?_); (case side1 => repeat (first | exact (Kd.C_below HR0.out HB.out) | (with_reducible refine Kd.C_alloc ?_ _) | (with_reducible refine Kd.C_drewN ?_ _) | (with_reducible refine Kd.C_drew ?_))); (case side2 => exact HC0.out); rintro e w' ⟨rfl, ⟨nd, rfl⟩⟩))
      go_meet
      case rel => exact ⟨_, (!t831), (by first | rfl | (simp; done) | (simp [*]; done)), H', ⟨by first | omega | exact Nat.le_refl _⟩, ⟨by repeat (first | (with_reducible first | exact HB.out | apply below_alloc | apply pw_below_drewN | apply below_drew1) | exact HB.out)⟩⟩
    · replace c4 := Bool.eq_false_iff.mpr c4
      subst c4
      have H1 : (umpirelaw14_TermsKeeps.j0 k l0 true) = some r := by rw [if_neg (show ¬ (false = true) by decide)] at H; exact H
      clear H
      have H := H1
      clear H1
      have H' := Aside0.mk H
      clear H
      go_wp2_with (first | ((with_reducible refine gate_callee (f := 26) rfl ?_); refine goesL_ (some 15) rfl rfl Try.func26 (by kernel_rfl) rfl #[] rfl (by (try simp only [List.map_toArray, List.map_cons, List.map_nil]); first | done | rfl | (simp only [List.length_drop, List.length_take]; rfl)) ?_; (with_reducible refine (umpirelaw14_awake.calls k  false _ A3.out).mono ?_); rintro e w7 ⟨rfl, hb⟩; refine ⟨_, rfl, ?_⟩; have n0_ := Aside0.mk (below_step (by repeat (first | (with_reducible first | exact HB.out | apply below_alloc | apply pw_below_drewN | apply below_drew1) | exact HB.out)) hb); clear HB; have HB := n0_; clear n0_; (try clear hb); (try clear hb2); (try clear hk); (try clear hi)))
      go_meet
      case rel => exact ⟨_, (true), (by first | rfl | (simp; done) | (simp [*]; done)), H', ⟨by first | omega | exact Nat.le_refl _⟩, ⟨by repeat (first | (with_reducible first | exact HB.out | apply below_alloc | apply pw_below_drewN | apply below_drew1) | exact HB.out)⟩⟩
  case rest =>
    clear HC2
    try clear c1
    try clear c2
    try clear p2
    try clear c4
    obtain ⟨kq, x21_1, rfl, HA, HJ1, HB⟩ := hcut
    cases kq with
    | zero => exact absurd HA.out (by simp [umpirelaw14_TermsKeeps.j0])
    | succ kj1 =>
      have H := HA.out
      clear HA
      simp only [umpirelaw14_TermsKeeps.j0] at H
      by_cases c8 : x21_1 = true
      · subst c8
        have H1 : ((umpirelaw14_awake.f kj1).bind fun t832 => (some t832)) = some r := by rw [if_pos rfl] at H; exact H
        clear H
        have H := H1
        clear H1
        replace H := Option.bind_eq_some_iff.mp H
        obtain ⟨t832, A90, H⟩ := H
        replace H : (some t832) = some r := H
        have A9 := Aside0.mk A90
        clear A90
        obtain rfl := Option.some.inj H
        go_wp2_with (first | ((with_reducible refine gate_callee (f := 26) rfl ?_); refine goesL_ (some 22) rfl rfl Try.func26 (by kernel_rfl) rfl #[] rfl (by (try simp only [List.map_toArray, List.map_cons, List.map_nil]); first | done | rfl | (simp only [List.length_drop, List.length_take]; rfl)) ?_; (with_reducible refine (umpirelaw14_awake.calls kj1  t832 _ A9.out).mono ?_); rintro e w10 ⟨rfl, hb⟩; refine ⟨_, rfl, ?_⟩; have n0_ := Aside0.mk (below_step (by repeat (first | (with_reducible first | exact HB.out | apply below_alloc | apply pw_below_drewN | apply below_drew1) | exact HB.out)) hb); clear HB; have HB := n0_; clear n0_; (try clear hb); (try clear hb2); (try clear hk); (try clear hi)))
        go_ret
        exact ⟨by first | rfl | (simp [errW_none, errW_some] <;> rfl) | (simp [*, errW_none, errW_some] <;> rfl), by repeat (first | (with_reducible first | exact HB.out | apply below_alloc | apply pw_below_drewN | apply below_drew1) | exact HB.out)⟩
      · replace c8 := Bool.eq_false_iff.mpr c8
        subst c8
        have H1 : (umpirelaw14_TermsKeeps.l0 kj1 l0 ([] : List (S55)) 0) = some r := by rw [if_neg (show ¬ (false = true) by decide)] at H; exact H
        clear H
        have H := H1
        clear H1
        have H' := Aside0.mk H
        clear H
        go_wp2
        go_loopg [3, 4] kj1 (fun kq v3 v4 w' => ∃ (x3_2 : List (S55)) (x4_2 : Int), v4 = .int .i64 x4_2 ∧ Aside0 (umpirelaw14_TermsKeeps.l0 kq l0 x3_2 x4_2 = some r) ∧ Aside0 (kq ≤ kj1) ∧ Aside0 (Kd.S k55 55 w' w.heap.size (fun _ => True) v3 x3_2) ∧ Aside0 (Below w.heap.size w w'))
        case atStart => exact ⟨(([] : List (S55))), (0), (by first | rfl | (simp; done) | (simp [*]; done)), H', ⟨Nat.le_refl _⟩, ⟨by first | exact Kd.S_nil _ _ _ _ _ | exact Kd.N_nil _ _ _ _ _ | exact Kd.V_nil _ _ _ _ _ | exact Kd.Q_nil _ _ _ _ _ | exact Kd.R_nil _ _ _ _ _⟩, ⟨by repeat (first | (with_reducible first | exact HB.out | apply below_alloc | apply pw_below_drewN | apply below_drew1) | exact HB.out)⟩⟩
        case round =>
          clear H'
          try clear c1
          try clear c2
          try clear p2
          try clear c4
          try clear c8
          try clear p2
          obtain ⟨x3_2, x4_2, rfl, HA, HK2, HO_3, HB⟩ := hrel
          cases gk with
          | zero => exact absurd HA.out (by simp [umpirelaw14_TermsKeeps.l0])
          | succ k2 =>
            have H := HA.out
            clear HA
            simp only [umpirelaw14_TermsKeeps.l0] at H
            by_cases c11 : x4_2 < (l0.length : Int)
            · rw [if_pos c11] at H
              have c11b0 : decide (x4_2 < (l0.length : Int)) = true := decide_eq_true c11
              clear c11
              by_cases c12 : 0 ≤ x4_2
              · rw [if_pos c12] at H
                have c12b0 : decide (0 ≤ x4_2) = true := decide_eq_true c12
                clear c12
                obtain ⟨y834, hy834⟩ : ∃ y_ : List Int, y_ = (([] : List Int)) := ⟨_, rfl⟩
                replace H : (if y834.length + ((rd_T55 l0 x4_2).f1).length < 140737488355328 then (if x3_2.length < 4398046511104 then (umpirelaw14_TermsKeeps.l0 k2 l0 (x3_2 ++ [(⟨(rd_T55 l0 x4_2).f0, (y834 ++ ((rd_T55 l0 x4_2).f1))⟩ : S55)]) (wrap64 (x4_2 + 1))) else (none)) else (none)) = some r := by first | (rw [hy834]; with_reducible exact H) | (have H2_ := (Option.bind_some _ _).symm.trans H; rw [hy834]; with_reducible exact H2_) | (have H2_ := (Option.bind_some _ _).symm.trans H; with_reducible exact H2_) | with_reducible exact H | (rw [hy834]; exact H) | exact H
                have Ny834 := Aside0.mk hy834
                clear hy834
                by_cases c13 : y834.length + ((rd_T55 l0 x4_2).f1).length < 140737488355328
                · rw [if_pos c13] at H
                  have LMc13 := Aside0.mk c13
                  clear c13
                  obtain ⟨y838, hy838⟩ : ∃ y_ : List Int, y_ = (y834 ++ ((rd_T55 l0 x4_2).f1)) := ⟨_, rfl⟩
                  replace H : (if x3_2.length < 4398046511104 then (umpirelaw14_TermsKeeps.l0 k2 l0 (x3_2 ++ [(⟨(rd_T55 l0 x4_2).f0, y838⟩ : S55)]) (wrap64 (x4_2 + 1))) else (none)) = some r := by first | (rw [hy838]; with_reducible exact H) | (have H2_ := (Option.bind_some _ _).symm.trans H; rw [hy838]; with_reducible exact H2_) | (have H2_ := (Option.bind_some _ _).symm.trans H; with_reducible exact H2_) | with_reducible exact H | (rw [hy838]; exact H) | exact H
                  have Ny838 := Aside0.mk hy838
                  clear hy838
                  by_cases c14 : x3_2.length < 4398046511104
                  · rw [if_pos c14] at H
                    have LMc14 := Aside0.mk c14
                    clear c14
                    obtain ⟨y841, hy841⟩ : ∃ y_ : List (S55), y_ = (x3_2 ++ [(⟨(rd_T55 l0 x4_2).f0, y838⟩ : S55)]) := ⟨_, rfl⟩
                    replace H : (umpirelaw14_TermsKeeps.l0 k2 l0 y841 (wrap64 (x4_2 + 1))) = some r := by first | (rw [hy841]; with_reducible exact H) | (have H2_ := (Option.bind_some _ _).symm.trans H; rw [hy841]; with_reducible exact H2_) | (have H2_ := (Option.bind_some _ _).symm.trans H; with_reducible exact H2_) | with_reducible exact H | (rw [hy841]; exact H) | exact H
                    have Ny841 := Aside0.mk hy841
                    clear hy841
                    have H' := Aside0.mk H
                    clear H
                    try go_wp2
                    have n0_ := Aside0.mk (Kd.S_drew HO_3.out)
                    have n1_ := Aside0.mk (below_drew1 HB.out)
                    clear HO_3
                    clear HB
                    have HO_3 := n0_
                    have HB := n1_
                    clear n0_ n1_
                    have p833 : 0 ≤ (x4_2 : Int) := of_decide_eq_true (by first | (with_reducible assumption) | assumption)
                    have q833 : x4_2 < (l0.length : Int) := of_decide_eq_true (by first | (with_reducible assumption) | assumption)
                    obtain ⟨ad833, A833_1, c833_1, e833, hx833_0, hx833_1, hl833_1, hi833_1⟩ := at_T55 HR0.out x4_2 p833 q833
                    have hw833_1 := hx833_1
                    have hw833_0 := hx833_0
                    cases e833
                    replace hx833_0 := (HB.out.cell (World.block_lt_of_cell? w _ hx833_0)).trans hx833_0
                    replace hx833_1 := (HB.out.cell (World.block_lt_of_cell? w _ hx833_1)).trans hx833_1
                    have HR833_1 := Aside0.mk hi833_1
                    have HC833_1 := Aside0.mk hl833_1
                    clear hi833_1 hl833_1
                    replace p833 := eq_true p833
                    replace q833 := eq_true q833
                    have p837 : 0 ≤ (x4_2 : Int) := of_decide_eq_true (by first | (with_reducible assumption) | assumption)
                    have q837 : x4_2 < (l0.length : Int) := of_decide_eq_true (by first | (with_reducible assumption) | assumption)
                    obtain ⟨ad837, A837_1, c837_1, e837, hx837_0, hx837_1, hl837_1, hi837_1⟩ := at_T55 HR0.out x4_2 p837 q837
                    have hw837_1 := hx837_1
                    have hw837_0 := hx837_0
                    obtain rfl : ad833 = ad837 := (by injection e837)
                    replace hx837_0 := (HB.out.cell (World.block_lt_of_cell? w _ hx837_0)).trans hx837_0
                    replace hx837_1 := (HB.out.cell (World.block_lt_of_cell? w _ hx837_1)).trans hx837_1
                    have HR837_1 := Aside0.mk hi837_1
                    have HC837_1 := Aside0.mk hl837_1
                    clear hi837_1 hl837_1
                    replace p837 := eq_true p837
                    replace q837 := eq_true q837
                    have ea_ := Option.some.inj (hx833_1.symm.trans hx837_1)
                    injection ea_ with ea_ en_ ec_
                    subst ea_
                    subst ec_
                    clear en_
                    refine start_ (n := 17) (S := fun w' => w'.cell? (ad833.add ((x4_2).toNat * 2)) = some (.int .i64 ((rd_T55 l0 x4_2).f0)) ∧ w'.cell? ⟨(ad833.add ((x4_2).toNat * 2)).block, (ad833.add ((x4_2).toNat * 2)).off + 1, none⟩ = some (.slice A833_1 ((rd_T55 l0 x4_2).f1).length c833_1) ∧ w'.cell? (ad833.add ((x4_2).toNat * 2)) = some (.int .i64 ((rd_T55 l0 x4_2).f0)) ∧ w'.cell? ⟨(ad833.add ((x4_2).toNat * 2)).block, (ad833.add ((x4_2).toNat * 2)).off + 1, none⟩ = some (.slice A833_1 ((rd_T55 l0 x4_2).f1).length c833_1)) (ds := []) #[false, false, false, false, false, false, false, false, false, false, false, false, false, false, false, false, false] (by kernel_rfl) rfl rfl ⟨((HB.out.cell (World.block_lt_of_cell? w _ hw833_0)).trans hw833_0), ((HB.out.cell (World.block_lt_of_cell? w _ hw833_1)).trans hw833_1), ((HB.out.cell (World.block_lt_of_cell? w _ hw837_0)).trans hw837_0), ((HB.out.cell (World.block_lt_of_cell? w _ hw837_1)).trans hw837_1)⟩ (fun hHeld => ?_); refine with_tabW umpirelaw14_TermsKeeps.tab7 umpirelaw14_TermsKeeps.bits7 (fun HT_ HW_ => ?_)
                    generalize wr.drew = w15 at HO_3 HB HR833_1 HR837_1 hx833_0 hx833_1 hx837_0 hx837_1 hHeld ⊢
                    refine pure_ (i := 0) (N := some 29) (v := ?_) (a' := ?_) #[true, false, false, false, false, false, false, false, false, false, false, false, false, false, false, false, false] rfl rfl (any_of HT_.out (by kernel_rfl)) (fun _ _ _ h => h) (Or.inl ⟨by rfl, ?_⟩) ?_ ?_
                    rotate_left
                    · intro w'
                      go_simp
                      with_reducible rfl
                    rotate_left
                    · simp only [Act.put, List.setIfInBounds_toArray, List.set_cons_zero, List.set_cons_succ, i64_w, i32_w]
                      rfl
                    refine pure_ (i := 1) (N := some 30) (v := ?_) (a' := ?_) #[true, true, false, false, false, false, false, false, false, false, false, false, false, false, false, false, false] rfl rfl (any_of HT_.out (by kernel_rfl)) (fun _ _ _ h => h) (Or.inl ⟨by rfl, ?_⟩) ?_ ?_
                    rotate_left
                    · intro w'
                      go_simp
                      with_reducible rfl
                    rotate_left
                    · simp only [Act.put, List.setIfInBounds_toArray, List.set_cons_zero, List.set_cons_succ, i64_w, i32_w]
                      rfl
                    refine pure_ (i := 2) (N := some 31) (v := ?_) (a' := ?_) #[true, true, true, false, false, false, false, false, false, false, false, false, false, false, false, false, false] rfl rfl (any_of HT_.out (by kernel_rfl)) (fun _ _ _ h => h) (Or.inl ⟨by rfl, ?_⟩) ?_ ?_
                    rotate_left
                    · intro w'
                      go_simp
                      with_reducible rfl
                    rotate_left
                    · simp only [Act.put, List.setIfInBounds_toArray, List.set_cons_zero, List.set_cons_succ, i64_w, i32_w]
                      rfl
                    refine pure_ (i := 3) (N := some 32) (v := ?_) (a' := ?_) #[true, true, true, true, false, false, false, false, false, false, false, false, false, false, false, false, false] rfl rfl (any_of HT_.out (by kernel_rfl)) (fun _ _ _ h => h) (Or.inl ⟨by rfl, ?_⟩) ?_ ?_
                    rotate_left
                    · intro w'
                      go_simp
                      with_reducible rfl
                    rotate_left
                    · simp only [Act.put, List.setIfInBounds_toArray, List.set_cons_zero, List.set_cons_succ, i64_w, i32_w]
                      rfl
                    refine pure_ (i := 4) (N := some 33) (v := ?_) (a' := ?_) #[true, true, true, true, true, false, false, false, false, false, false, false, false, false, false, false, false] rfl rfl (any_of HT_.out (by kernel_rfl)) (fun _ _ _ h => h) (Or.inl ⟨by rfl, ?_⟩) ?_ ?_
                    rotate_left
                    · intro w'
                      go_simp
                      with_reducible rfl
                    rotate_left
                    · simp only [Act.put, List.setIfInBounds_toArray, List.set_cons_zero, List.set_cons_succ, i64_w, i32_w]
                      rfl
                    refine pure_ (i := 7) (N := some 36) (v := ?_) (a' := ?_) #[true, true, true, true, true, false, false, true, false, false, false, false, false, false, false, false, false] rfl rfl (any_of HT_.out (by kernel_rfl)) (fun _ _ _ h => h) (Or.inl ⟨by rfl, ?_⟩) ?_ ?_
                    rotate_left
                    · intro w'
                      go_simp
                      with_reducible rfl
                    rotate_left
                    · simp only [Act.put, List.setIfInBounds_toArray, List.set_cons_zero, List.set_cons_succ, i64_w, i32_w]
                      rfl
                    refine pure_ (i := 8) (N := some 37) (v := ?_) (a' := ?_) #[true, true, true, true, true, false, false, true, true, false, false, false, false, false, false, false, false] rfl rfl (any_of HT_.out (by kernel_rfl)) (fun _ _ _ h => h) (Or.inl ⟨by rfl, ?_⟩) ?_ ?_
                    rotate_left
                    · intro w'
                      go_simp
                      with_reducible rfl
                    rotate_left
                    · simp only [Act.put, List.setIfInBounds_toArray, List.set_cons_zero, List.set_cons_succ, i64_w, i32_w]
                      rfl
                    refine pure_ (i := 9) (N := some 38) (v := ?_) (a' := ?_) #[true, true, true, true, true, false, false, true, true, true, false, false, false, false, false, false, false] rfl rfl (any_of HT_.out (by kernel_rfl)) (fun _ _ _ h => h) (Or.inl ⟨by rfl, ?_⟩) ?_ ?_
                    rotate_left
                    · intro w'
                      go_simp
                      with_reducible rfl
                    rotate_left
                    · simp only [Act.put, List.setIfInBounds_toArray, List.set_cons_zero, List.set_cons_succ, i64_w, i32_w]
                      rfl
                    refine pure_ (i := 10) (N := some 39) (v := ?_) (a' := ?_) #[true, true, true, true, true, false, false, true, true, true, true, false, false, false, false, false, false] rfl rfl (any_of HT_.out (by kernel_rfl)) (fun _ _ _ h => h) (Or.inl ⟨by rfl, ?_⟩) ?_ ?_
                    rotate_left
                    · intro w'
                      go_simp
                      with_reducible rfl
                    rotate_left
                    · simp only [Act.put, List.setIfInBounds_toArray, List.set_cons_zero, List.set_cons_succ, i64_w, i32_w]
                      rfl
                    refine take_ (i := 5) (N := some 34) (v := ?_) (a' := ?_) #[true, true, true, true, true, true, false, true, true, true, true, false, false, false, false, false, false] rfl rfl (take_ofW HT_.out HW_.out (by kernel_rfl)) (fun _ _ _ h => h) (Or.inl ⟨by rfl, ?_⟩) hHeld ?_ ?_
                    rotate_left
                    · rintro w' ⟨s0, s1, s2, s3⟩
                      go_simp
                      with_reducible rfl
                    rotate_left
                    · simp only [Act.put, List.setIfInBounds_toArray, List.set_cons_zero, List.set_cons_succ, i64_w, i32_w]
                      rfl
                    refine take_ (i := 11) (N := some 40) (v := ?_) (a' := ?_) #[true, true, true, true, true, true, false, true, true, true, true, true, false, false, false, false, false] rfl rfl (take_ofW HT_.out HW_.out (by kernel_rfl)) (fun _ _ _ h => h) (Or.inl ⟨by rfl, ?_⟩) hHeld ?_ ?_
                    rotate_left
                    · rintro w' ⟨s0, s1, s2, s3⟩
                      go_simp
                      with_reducible rfl
                    rotate_left
                    · simp only [Act.put, List.setIfInBounds_toArray, List.set_cons_zero, List.set_cons_succ, i64_w, i32_w]
                      rfl
                    refine one_ (i := 6) (N := some 35) #[true, true, true, true, true, true, true, true, true, true, true, true, false, false, false, false, false] rfl rfl (one_of HT_.out (by kernel_rfl)) (by decide) (fun K hK => ?_)
                    refine Kd.R_lit_step (Kd.int .u8) _ 5 ?hg (N := 35) ?hd (xs := ([] : List Int)) (inner := []) (ok := fun _ => True) (okp := fun _ => True) ?hr ?hp (fun _ hk => hk) trivial (Below.refl _ _) (Nat.le_refl _) (by simp) ?_; (case hd => rfl); (case hg => rfl); (case hr => first | (go_simp; done) | (go_simp; rfl)); (case hp => exact (Reps.none _ _))
                    intro v835 w16 ho17 hb hg_ hnew_
                    clear hg_ hnew_
                    (first | rw [← Ny834.out] at ho17 | (simp only [Int.reduceToNat] at ho17; rw [← Ny834.out] at ho17))
                    have n0_ := Aside0.mk (Kd.S_elder' (by (with_reducible repeat (first | apply Kd.S_alloc | apply Kd.S_drewN | apply Kd.S_drew)); exact HO_3.out) (by first | exact Kd.R_base ho17 | exact Kd.N_base (Kd.S_N (Kd.S_bound ho17)) | exact Kd.R_base ho17 | exact Kd.S_base ho17) hb)
                    have n1_ := Aside0.mk (Kd.R_lower ho17 (below_size (by repeat (first | (with_reducible first | exact HB.out | apply below_alloc | apply pw_below_drewN | apply below_drew1) | exact HB.out))))
                    have n2_ := Aside0.mk (below_step (by repeat (first | (with_reducible first | exact HB.out | apply below_alloc | apply pw_below_drewN | apply below_drew1) | exact HB.out)) hb)
                    clear HO_3
                    clear HB
                    have HO_3 := n0_
                    have HO836 := n1_
                    have HB := n2_
                    clear n0_ n1_ n2_
                    clear hb ho17
                    refine hK.out _ _ ⟨((HB.out.cell (World.block_lt_of_cell? w _ hw833_0)).trans hw833_0), ((HB.out.cell (World.block_lt_of_cell? w _ hw833_1)).trans hw833_1), ((HB.out.cell (World.block_lt_of_cell? w _ hw837_0)).trans hw837_0), ((HB.out.cell (World.block_lt_of_cell? w _ hw837_1)).trans hw837_1)⟩ (fun hHeld => ?_)
                    clear hK K
                    refine norm_ (a' := ?_) ?_ ?_
                    rotate_left
                    · show Act.put _ (some 35) _ = _
                      simp only [Act.put, List.setIfInBounds_toArray, List.set_cons_zero, List.set_cons_succ, i64_w, i32_w]
                      rfl
                    refine one_ (i := 12) (N := some 41) #[true, true, true, true, true, true, true, true, true, true, true, true, true, false, false, false, false] rfl rfl (one_of HT_.out (by kernel_rfl)) (by decide) (fun K hK => ?_)
                    refine Kd.R_append_rows_step (Kd.int .u8) (w0 := w) w.heap.size (by rfl) (.tmp 35) (.tmp 40) 28 5 (.int .u8 0) 1 rfl Try.underlying28 info5 rfl (by decide) (by omega) v835 y834 ((rd_T55 l0 x4_2).f1) _ _ _ (fun _ => True) (fun _ => False) rfl rfl ?aO ?aR (fun _ _ h => h) (fun _ h => h.elim) ?aF ?aB ?aS ?aL ?_
                    (case aR => repeat (first | exact (Kd.C_below HR837_1.out HB.out) | (with_reducible refine Kd.C_alloc ?_ _) | (with_reducible refine Kd.C_drewN ?_ _) | (with_reducible refine Kd.C_drew ?_)))
                    (case aB => exact (by repeat (first | (with_reducible first | exact HB.out | apply below_alloc | apply pw_below_drewN | apply below_drew1) | exact HB.out)))
                    (case aF => exact (fun _ _ => trivial))
                    (case aO => exact (by (with_reducible repeat (first | apply Kd.R_alloc | apply Kd.R_drewN | apply Kd.R_drew)); exact HO836.out))
                    (case aS => exact (below_size (by repeat (first | (with_reducible first | exact HB.out | apply below_alloc | apply pw_below_drewN | apply below_drew1) | exact HB.out))))
                    (case aL => have := LMc13.out; omega)
                    intro v839 w18 ho hb hg hat
                    rw [← Ny838.out] at ho
                    have n0_ := Aside0.mk (Kd.S_after (ok := (fun _ => True)) (by (with_reducible repeat (first | apply Kd.S_alloc | apply Kd.S_drewN | apply Kd.S_drew)); exact HO_3.out) hg hat)
                    have n1_ := Aside0.mk (hb)
                    have n2_ := Aside0.mk (ho)
                    clear HO_3
                    clear HB
                    clear HO836
                    have HO_3 := n0_
                    have HB := n1_
                    have HO840 := n2_
                    clear n0_ n1_ n2_
                    clear ho hb hg hat
                    obtain ⟨Ao19, co19, eo19⟩ := Kd.R_slice HO840.out
                    (first | subst eo19 | (injection eo19 with f1_ f2_ f3_; have f4_ := f1_.symm; have f5_ := f3_.symm; clear f1_ f2_ f3_; subst f4_; subst f5_))
                    refine hK.out _ _ ⟨((HB.out.cell (World.block_lt_of_cell? w _ hw833_0)).trans hw833_0), ((HB.out.cell (World.block_lt_of_cell? w _ hw833_1)).trans hw833_1), ((HB.out.cell (World.block_lt_of_cell? w _ hw837_0)).trans hw837_0), ((HB.out.cell (World.block_lt_of_cell? w _ hw837_1)).trans hw837_1)⟩ (fun hHeld => ?_)
                    clear hK K
                    refine norm_ (a' := ?_) ?_ ?_
                    rotate_left
                    · show Act.put _ (some 41) _ = _
                      simp only [Act.put, List.setIfInBounds_toArray, List.set_cons_zero, List.set_cons_succ, i64_w, i32_w]
                      rfl
                    refine pure_ (i := 13) (N := some 42) (v := ?_) (a' := ?_) #[true, true, true, true, true, true, true, true, true, true, true, true, true, true, false, false, false] rfl rfl (any_of HT_.out (by kernel_rfl)) (fun _ _ _ h => h) (Or.inl ⟨by rfl, ?_⟩) ?_ ?_
                    rotate_left
                    · intro w'
                      go_simp
                      with_reducible rfl
                    rotate_left
                    · simp only [Act.put, List.setIfInBounds_toArray, List.set_cons_zero, List.set_cons_succ, i64_w, i32_w]
                      rfl
                    refine one_ (i := 14) (N := some 43) #[true, true, true, true, true, true, true, true, true, true, true, true, true, true, true, false, false] rfl rfl (one_of HT_.out (by kernel_rfl)) (by decide) (fun K hK => ?_)
                    refine value_ (w1 := ?_) (v := ?_) (by rfl) rfl ?_ ?_
                    rotate_left 2
                    · go_simp
                      constructor
                      · rfl
                      · rfl
                    refine hK.out _ _ ⟨(World.cell?_alloc_lt _ _ _ (World.block_lt_of_cell? _ _ (((HB.out.cell (World.block_lt_of_cell? w _ hw833_0)).trans hw833_0)))).trans (((HB.out.cell (World.block_lt_of_cell? w _ hw833_0)).trans hw833_0)), (World.cell?_alloc_lt _ _ _ (World.block_lt_of_cell? _ _ (((HB.out.cell (World.block_lt_of_cell? w _ hw833_1)).trans hw833_1)))).trans (((HB.out.cell (World.block_lt_of_cell? w _ hw833_1)).trans hw833_1)), (World.cell?_alloc_lt _ _ _ (World.block_lt_of_cell? _ _ (((HB.out.cell (World.block_lt_of_cell? w _ hw837_0)).trans hw837_0)))).trans (((HB.out.cell (World.block_lt_of_cell? w _ hw837_0)).trans hw837_0)), (World.cell?_alloc_lt _ _ _ (World.block_lt_of_cell? _ _ (((HB.out.cell (World.block_lt_of_cell? w _ hw837_1)).trans hw837_1)))).trans (((HB.out.cell (World.block_lt_of_cell? w _ hw837_1)).trans hw837_1))⟩ (fun hHeld => ?_)
                    clear hK K
                    refine norm_ (a' := ?_) ?_ ?_
                    rotate_left
                    · show Act.put _ (some 43) _ = _
                      simp only [Act.put, List.setIfInBounds_toArray, List.set_cons_zero, List.set_cons_succ, i64_w, i32_w]
                      rfl
                    refine one_ (i := 15) (N := some 44) #[true, true, true, true, true, true, true, true, true, true, true, true, true, true, true, true, false] rfl rfl (one_of HT_.out (by kernel_rfl)) (by decide) (fun K hK => ?_)
                    refine Kd.S_append_step k55 (w0 := w) w.heap.size (by rfl) (.tmp 29) (.tmp 43) 58 55 (.agg #[(.int .i64 0), (.slice none 0 0)]) 32 rfl Try.underlying58 info55 rfl (by decide) (by omega) u3 x3_2 (⟨(rd_T55 l0 x4_2).f0, y838⟩ : S55) [.int .i64 ((rd_T55 l0 x4_2).f0), .slice Ao19 y838.length co19] (fun _ => True) (fun k_ => some k_ = (.slice Ao19 y838.length co19 : Value).ownBlock) rfl rfl ?aP (fun k_ hk_ => ((Kd.R_mono (ok' := fun k_ => ((fun _ => True)) k_ ∧ some k_ ≠ (u3 : Value).ownBlock) (Kd.R_apart' (HO840.out) (Kd.S_typed HO_3.out) (by decide)) (fun k_ hk => ⟨trivial, hk.2⟩))).1 k_ hk_.symm) ?aF ?aO ?aB ?aS ?aL ?_
                    (case aP => exact k55_mkM _ _ _ (⟨(rd_T55 l0 x4_2).f0, y838⟩ : S55) (Kd.R_mono (Kd.R_tight rfl (Kd.R_mono (ok' := fun k_ => ((fun _ => True)) k_ ∧ some k_ ≠ (u3 : Value).ownBlock) (Kd.R_apart' (HO840.out) (Kd.S_typed HO_3.out) (by decide)) (fun k_ hk => ⟨trivial, hk.2⟩))) (fun _ h_ => h_)))
                    (case aB => exact (by repeat (first | (with_reducible first | exact HB.out | apply below_alloc | apply pw_below_drewN | apply below_drew1) | exact HB.out)))
                    (case aF => exact (fun _ _ => trivial))
                    (case aO => exact (by (with_reducible repeat (first | apply Kd.S_alloc | apply Kd.S_drewN | apply Kd.S_drew)); exact Kd.S_mono HO_3.out (fun k_ hk => ⟨trivial, fun e_ => hk.2 e_⟩)))
                    (case aS => exact (below_size (by repeat (first | (with_reducible first | exact HB.out | apply below_alloc | apply pw_below_drewN | apply below_drew1) | exact HB.out))))
                    (case aL => have := LMc14.out; omega)
                    intro v842 w20 ho hb hg hat
                    rw [← Ny841.out] at ho
                    have n0_ := Aside0.mk (hb)
                    have n1_ := Aside0.mk (ho)
                    clear HB
                    clear HO_3
                    clear HO840
                    have HB := n0_
                    have HO843 := n1_
                    clear n0_ n1_
                    clear ho hb hg hat
                    refine hK.out _ _ ⟨((HB.out.cell (World.block_lt_of_cell? w _ hw833_0)).trans hw833_0), ((HB.out.cell (World.block_lt_of_cell? w _ hw833_1)).trans hw833_1), ((HB.out.cell (World.block_lt_of_cell? w _ hw837_0)).trans hw837_0), ((HB.out.cell (World.block_lt_of_cell? w _ hw837_1)).trans hw837_1)⟩ (fun hHeld => ?_)
                    clear hK K
                    refine norm_ (a' := ?_) ?_ ?_
                    rotate_left
                    · show Act.put _ (some 44) _ = _
                      simp only [Act.put, List.setIfInBounds_toArray, List.set_cons_zero, List.set_cons_succ, i64_w, i32_w]
                      rfl
                    refine pure_ (i := 16) (N := some 3) (v := ?_) (a' := ?_) #[true, true, true, true, true, true, true, true, true, true, true, true, true, true, true, true, true] rfl rfl (any_of HT_.out (by kernel_rfl)) (fun _ _ _ h => h) (Or.inl ⟨by rfl, ?_⟩) ?_ ?_
                    rotate_left
                    · intro w'
                      go_simp
                      with_reducible rfl
                    rotate_left
                    · simp only [Act.put, List.setIfInBounds_toArray, List.set_cons_zero, List.set_cons_succ, i64_w, i32_w]
                      rfl
                    refine done_ (done_of HT_.out (by kernel_rfl)) ?_
                    try go_wp2
                    go_roundg k2
                    case measure => have := HJ1.out; have := HK2.out; omega
                    case rel => exact ⟨(y841), (wrap64 (x4_2 + 1)), (by first | rfl | (simp; done) | (simp [*]; done)), H', ⟨by have := HJ1.out; have := HK2.out; omega⟩, ⟨by (with_reducible repeat (first | apply Kd.S_alloc | apply Kd.S_drewN | apply Kd.S_drew)); exact HO843.out⟩, ⟨by repeat (first | (with_reducible first | exact HB.out | apply below_alloc | apply pw_below_drewN | apply below_drew1) | exact HB.out)⟩⟩
                  · rw [if_neg c14] at H
                    exact absurd H (by simp)
                · rw [if_neg c13] at H
                  exact absurd H (by simp)
              · rw [if_neg c12] at H
                exact absurd H (by simp)
            · rw [if_neg c11] at H
              have c11b0 : decide (x4_2 < (l0.length : Int)) = false := decide_eq_false c11
              clear c11
              obtain ⟨a, b, c, d, a2, e_, hk1, hk2, hk3, hk4, hk5, hk6, hk7⟩ := umpirelaw14_TermsKeeps.rest_inv H
              clear H
              have G1 := Aside0.mk hk1
              have G2 := Aside0.mk hk2
              have G3 := Aside0.mk hk3
              have G4 := Aside0.mk hk4
              have G5 := Aside0.mk hk5
              have G6 := Aside0.mk hk6
              have G7 := Aside0.mk hk7
              clear hk1 hk2 hk3 hk4 hk5 hk6 hk7
              obtain ⟨N0, hN0⟩ : ∃ n_, n_ = wr.heap.size := ⟨_, rfl⟩
              have HS := Aside0.mk (Kd.S_mono (ok' := fun k_ => w.heap.size ≤ k_ ∧ k_ < N0) (Kd.S_bound HO_3.out) (fun k_ hk_ => ⟨hk_.2.1, by rw [hN0]; exact hk_.2.2.1⟩))
              have HL0 : Aside0 (w.heap.size ≤ N0) := ⟨by rw [hN0]; exact HB.out.size⟩
              obtain ⟨Ao, co, eo⟩ := Kd.S_slice HO_3.out
              subst eo
              have HNIL : Aside0 (0 < x3_2.length → ∃ g, Ao = some ⟨g, 0, none⟩) := ⟨fun hp => by obtain ⟨g, cap, hv, _⟩ := Kd.S_form HO_3.out hp; injection hv with hA _ _; exact ⟨g, hA⟩⟩
              clear HO_3
              go_wp2_with (first | (go_at_call 40; refine (terms_Bad.calls k2 _ _ x3_2 a b _ (Kd.S_reads' HS.out).2.2 (Kd.S_reads' HS.out).2.1 G1.out).mono ?_; rintro e w8 ⟨va, vb, rfl, ha, hbb, hb⟩; rw [← hN0] at ha hbb; have HN0 := Aside0.mk hN0; obtain ⟨N1, hN1⟩ : ∃ n_, n_ = w8.heap.size := ⟨_, rfl⟩; have HN1 : Aside0 (N0 ≤ N1) := ⟨by rw [hN0, hN1]; exact hb.size⟩; have SA8 := Aside0.mk (Kd.S_mono (ok' := fun k_ => N0 ≤ k_) (Kd.S_bound ha) (fun k_ hk_ => hk_.2.1)); have SB8 := Aside0.mk (Kd.S_mono (ok' := fun k_ => N0 ≤ k_ ∧ k_ < N1) (Kd.S_bound hbb) (fun k_ hk_ => ⟨hk_.2.1, by rw [hN1]; exact hk_.2.2.1⟩)); have HS8 := Aside0.mk (Kd.S_below HS.out hb); have HB8 := Aside0.mk (below_step HB.out hb); have HLE8 : Aside0 (N1 ≤ w8.heap.size) := ⟨by rw [hN1]; exact Nat.le_refl _⟩; obtain ⟨Aa, ca, ea⟩ := Kd.S_slice SA8.out; subst ea; obtain ⟨Ab, cb, eb⟩ := Kd.S_slice SB8.out; subst eb; clear ha hbb hb hN0 hN1) | (go_at_call 38; refine (umpireref12_Same.calls k2 _ _ x3_2 _ _ l0 true _ (Kd.S_reads' HS8.out).2.2 (Kd.S_reads' HS8.out).2.1 (Kd.C_below HR0.out HB8.out) HC0.out G2.out).mono ?_; rintro e w9 ⟨rfl, hb⟩; have HS9 := Aside0.mk (Kd.S_below HS8.out hb); have SA9 := Aside0.mk (Kd.S_below SA8.out hb); have SB9 := Aside0.mk (Kd.S_below SB8.out hb); have HB9 := Aside0.mk (below_step HB8.out hb); have HLE9 : Aside0 (N1 ≤ w9.heap.size) := ⟨Nat.le_trans HLE8.out hb.size⟩; clear hb))
              clear HS HS8 SA8 SB8 HB8 HLE8 HN0 HB
              have HM3 := Aside0.mk (Kd.C_max (Kd.S_reads' HS9.out).2.2)
              obtain ⟨g, hg⟩ : ∃ g, 0 < x3_2.length → Ao = some ⟨g, 0, none⟩ := by
                by_cases hp : 0 < x3_2.length
                · obtain ⟨g, cap, hv, _⟩ := Kd.S_form HS9.out hp
                  injection hv with hA _ _
                  exact ⟨g, fun _ => hA⟩
                · exact ⟨0, fun h => absurd h hp⟩
              obtain ⟨row, hrow0⟩ : ∃ row, TKAlt w w9 w9 w.heap.size N0 g x3_2.length row := by
                by_cases hp : 0 < x3_2.length
                · have h9 := HS9.out
                  rw [hg hp] at h9
                  exact ⟨_, TKShp.of_S h9 (fun _ hk => hk), HB9.out, Kept.refl _ _⟩
                · exact ⟨fun _ => (none, 0, 0), ⟨fun i hi => absurd hi (by omega), fun i hi => absurd hi (by omega), fun i hi => absurd hi (by omega)⟩, HB9.out, Kept.refl _ _⟩
              have HG := Aside0.mk hg
              have HRW := Aside0.mk hrow0
              clear hg hrow0
              go_loopg [7] x3_2.length (fun kq v7 w' => ∃ i : Nat, kq + i = x3_2.length ∧ v7 = .int .i64 (i : Int) ∧ Aside0 (TKAlt w w9 w' w.heap.size N0 g x3_2.length row))
              case atStart => exact ⟨0, rfl, rfl, HRW⟩
              case round =>
                obtain ⟨i, hi, rfl, HI⟩ := hrel
                clear HRW
                have hm3 := HM3.out
                by_cases hlt : i < x3_2.length
                · obtain ⟨k3, rfl⟩ : ∃ k3, gk = k3 + 1 := ⟨gk - 1, by omega⟩
                  obtain rfl := HG.out (by omega)
                  have d1 : decide ((i : Int) < (x3_2.length : Int)) = true := decide_eq_true (by omega)
                  have p1 : (0 : Int) ≤ (i : Int) := by omega
                  have q1 : (i : Int) < (x3_2.length : Int) := by omega
                  obtain ⟨A1, m, c1, hrow⟩ : ∃ A1 m c1, row i = (A1, m, c1) := ⟨_, _, _, rfl⟩
                  have hm4 : m ≤ 9223372036854775807 := by have h_ := HI.out.shp.few i hlt; rw [hrow] at h_; exact h_
                  go_wp2
                  go_loopg [8] m (fun kq v8 w' => ∃ j : Nat, kq + j = m ∧ v8 = .int .i64 (j : Int) ∧ Aside0 (TKAlt w w9 w' w.heap.size N0 g x3_2.length row))
                  case atStart => exact ⟨0, by omega, rfl, HI⟩
                  case round =>
                    clear HI
                    obtain ⟨j, hj, rfl, HI⟩ := hrel
                    have hx : wr.cell? ⟨g, i * 2 + 1, none⟩ = some (.slice A1 m c1) := by have h_ := HI.out.shp.outer i hlt; rw [hrow] at h_; exact h_
                    by_cases hjt : j < m
                    · obtain ⟨k4, rfl⟩ : ∃ k4, gk = k4 + 1 := ⟨gk - 1, by omega⟩
                      have d2 : decide ((j : Int) < (m : Int)) = true := decide_eq_true (by omega)
                      have p2 : (0 : Int) ≤ (j : Int) := by omega
                      have q2 : (j : Int) < (m : Int) := by omega
                      obtain ⟨b_, hA, ⟨x, hxj⟩, ⟨cur, hblk⟩, l1, l2, l3⟩ := HI.out.shp.inner i hlt j (by rw [hrow]; exact hjt)
                      rw [hrow] at hA
                      obtain rfl : A1 = some ⟨b_, 0, none⟩ := hA
                      have hfz := blk_frozen hblk j
                      try go_wp2
                      refine start_ (n := 17) (S := fun w' => w'.cell? ⟨g, i * 2 + 1, none⟩ = some (.slice (some ⟨b_, 0, none⟩) m c1) ∧ w'.cell? ⟨b_, j, none⟩ = some (.int .u8 x)) (ds := [16]) #[false, false, false, false, false, false, false, false, false, false, false, false, false, false, false, false, false] (by kernel_rfl) rfl rfl ⟨hx, hxj⟩ (fun hHeld => ?_)
                      refine with_tabW umpirelaw14_TermsKeeps.tab17 umpirelaw14_TermsKeeps.bits17 (fun HT_ HW_ => ?_)
                      refine pure_ (i := 0) (N := some 70) (v := ?_) (a' := ?_) #[true, false, false, false, false, false, false, false, false, false, false, false, false, false, false, false, false] rfl rfl (any_of HT_.out (by kernel_rfl)) (fun _ _ _ h => h) (Or.inl ⟨by rfl, ?_⟩) ?_ ?_
                      rotate_left
                      · intro w'
                        go_simp
                        with_reducible rfl
                      rotate_left
                      · simp only [Act.put, List.setIfInBounds_toArray, List.set_cons_zero, List.set_cons_succ, i64_w, i32_w]
                        rfl
                      refine pure_ (i := 1) (N := some 71) (v := ?_) (a' := ?_) #[true, true, false, false, false, false, false, false, false, false, false, false, false, false, false, false, false] rfl rfl (any_of HT_.out (by kernel_rfl)) (fun _ _ _ h => h) (Or.inl ⟨by rfl, ?_⟩) ?_ ?_
                      rotate_left
                      · intro w'
                        go_simp
                        with_reducible rfl
                      rotate_left
                      · simp only [Act.put, List.setIfInBounds_toArray, List.set_cons_zero, List.set_cons_succ, i64_w, i32_w]
                        rfl
                      refine pure_ (i := 2) (N := some 72) (v := ?_) (a' := ?_) #[true, true, true, false, false, false, false, false, false, false, false, false, false, false, false, false, false] rfl rfl (any_of HT_.out (by kernel_rfl)) (fun _ _ _ h => h) (Or.inl ⟨by rfl, ?_⟩) ?_ ?_
                      rotate_left
                      · intro w'
                        go_simp
                        with_reducible rfl
                      rotate_left
                      · simp only [Act.put, List.setIfInBounds_toArray, List.set_cons_zero, List.set_cons_succ, i64_w, i32_w]
                        rfl
                      refine pure_ (i := 3) (N := some 73) (v := ?_) (a' := ?_) #[true, true, true, true, false, false, false, false, false, false, false, false, false, false, false, false, false] rfl rfl (any_of HT_.out (by kernel_rfl)) (fun _ _ _ h => h) (Or.inl ⟨by rfl, ?_⟩) ?_ ?_
                      rotate_left
                      · intro w'
                        go_simp
                        with_reducible rfl
                      rotate_left
                      · simp only [Act.put, List.setIfInBounds_toArray, List.set_cons_zero, List.set_cons_succ, i64_w, i32_w]
                        rfl
                      refine pure_ (i := 5) (N := some 75) (v := ?_) (a' := ?_) #[true, true, true, true, false, true, false, false, false, false, false, false, false, false, false, false, false] rfl rfl (any_of HT_.out (by kernel_rfl)) (fun _ _ _ h => h) (Or.inl ⟨by rfl, ?_⟩) ?_ ?_
                      rotate_left
                      · intro w'
                        go_simp
                        with_reducible rfl
                      rotate_left
                      · simp only [Act.put, List.setIfInBounds_toArray, List.set_cons_zero, List.set_cons_succ, i64_w, i32_w]
                        rfl
                      refine pure_ (i := 6) (N := some 76) (v := ?_) (a' := ?_) #[true, true, true, true, false, true, true, false, false, false, false, false, false, false, false, false, false] rfl rfl (any_of HT_.out (by kernel_rfl)) (fun _ _ _ h => h) (Or.inl ⟨by rfl, ?_⟩) ?_ ?_
                      rotate_left
                      · intro w'
                        go_simp
                        with_reducible rfl
                      rotate_left
                      · simp only [Act.put, List.setIfInBounds_toArray, List.set_cons_zero, List.set_cons_succ, i64_w, i32_w]
                        rfl
                      refine pure_ (i := 7) (N := some 77) (v := ?_) (a' := ?_) #[true, true, true, true, false, true, true, true, false, false, false, false, false, false, false, false, false] rfl rfl (any_of HT_.out (by kernel_rfl)) (fun _ _ _ h => h) (Or.inl ⟨by rfl, ?_⟩) ?_ ?_
                      rotate_left
                      · intro w'
                        go_simp
                        with_reducible rfl
                      rotate_left
                      · simp only [Act.put, List.setIfInBounds_toArray, List.set_cons_zero, List.set_cons_succ, i64_w, i32_w]
                        rfl
                      refine pure_ (i := 8) (N := some 78) (v := ?_) (a' := ?_) #[true, true, true, true, false, true, true, true, true, false, false, false, false, false, false, false, false] rfl rfl (any_of HT_.out (by kernel_rfl)) (fun _ _ _ h => h) (Or.inl ⟨by rfl, ?_⟩) ?_ ?_
                      rotate_left
                      · intro w'
                        go_simp
                        with_reducible rfl
                      rotate_left
                      · simp only [Act.put, List.setIfInBounds_toArray, List.set_cons_zero, List.set_cons_succ, i64_w, i32_w]
                        rfl
                      refine pure_ (i := 9) (N := some 79) (v := ?_) (a' := ?_) #[true, true, true, true, false, true, true, true, true, true, false, false, false, false, false, false, false] rfl rfl (any_of HT_.out (by kernel_rfl)) (fun _ _ _ h => h) (Or.inl ⟨by rfl, ?_⟩) ?_ ?_
                      rotate_left
                      · intro w'
                        go_simp
                        with_reducible rfl
                      rotate_left
                      · simp only [Act.put, List.setIfInBounds_toArray, List.set_cons_zero, List.set_cons_succ, i64_w, i32_w]
                        rfl
                      refine pure_ (i := 11) (N := some 81) (v := ?_) (a' := ?_) #[true, true, true, true, false, true, true, true, true, true, false, true, false, false, false, false, false] rfl rfl (any_of HT_.out (by kernel_rfl)) (fun _ _ _ h => h) (Or.inl ⟨by rfl, ?_⟩) ?_ ?_
                      rotate_left
                      · intro w'
                        go_simp
                        with_reducible rfl
                      rotate_left
                      · simp only [Act.put, List.setIfInBounds_toArray, List.set_cons_zero, List.set_cons_succ, i64_w, i32_w]
                        rfl
                      refine take_ (i := 4) (N := some 74) (v := ?_) (a' := ?_) #[true, true, true, true, true, true, true, true, true, true, false, true, false, false, false, false, false] rfl rfl (take_ofW HT_.out HW_.out (by kernel_rfl)) (fun _ _ _ h => h) (Or.inl ⟨by rfl, ?_⟩) hHeld ?_ ?_
                      rotate_left
                      · rintro w' ⟨s0, s1⟩
                        go_simp
                        with_reducible rfl
                      rotate_left
                      · simp only [Act.put, List.setIfInBounds_toArray, List.set_cons_zero, List.set_cons_succ, i64_w, i32_w]
                        rfl
                      refine take_ (i := 10) (N := some 80) (v := ?_) (a' := ?_) #[true, true, true, true, true, true, true, true, true, true, true, true, false, false, false, false, false] rfl rfl (take_ofW HT_.out HW_.out (by kernel_rfl)) (fun _ _ _ h => h) (Or.inl ⟨by rfl, ?_⟩) hHeld ?_ ?_
                      rotate_left
                      · rintro w' ⟨s0, s1⟩
                        go_simp
                        with_reducible rfl
                      rotate_left
                      · simp only [Act.put, List.setIfInBounds_toArray, List.set_cons_zero, List.set_cons_succ, i64_w, i32_w]
                        rfl
                      refine pure_ (i := 12) (N := some 82) (v := ?_) (a' := ?_) #[true, true, true, true, true, true, true, true, true, true, true, true, true, false, false, false, false] rfl rfl (any_of HT_.out (by kernel_rfl)) (fun _ _ _ h => h) (Or.inl ⟨by rfl, ?_⟩) ?_ ?_
                      rotate_left
                      · intro w'
                        go_simp
                        with_reducible rfl
                      rotate_left
                      · simp only [Act.put, List.setIfInBounds_toArray, List.set_cons_zero, List.set_cons_succ, i64_w, i32_w]
                        rfl
                      refine take_ (i := 13) (N := some 83) (v := ?_) (a' := ?_) #[true, true, true, true, true, true, true, true, true, true, true, true, true, true, false, false, false] rfl rfl (take_ofW HT_.out HW_.out (by kernel_rfl)) (fun _ _ _ h => h) (Or.inl ⟨by rfl, ?_⟩) hHeld ?_ ?_
                      rotate_left
                      · rintro w' ⟨s0, s1⟩
                        go_simp
                        with_reducible rfl
                      rotate_left
                      · simp only [Act.put, List.setIfInBounds_toArray, List.set_cons_zero, List.set_cons_succ, i64_w, i32_w]
                        rfl
                      refine pure_ (i := 14) (N := some 84) (v := ?_) (a' := ?_) #[true, true, true, true, true, true, true, true, true, true, true, true, true, true, true, false, false] rfl rfl (any_of HT_.out (by kernel_rfl)) (fun _ _ _ h => h) (Or.inl ⟨by rfl, ?_⟩) ?_ ?_
                      rotate_left
                      · intro w'
                        go_simp
                        with_reducible rfl
                      rotate_left
                      · simp only [Act.put, List.setIfInBounds_toArray, List.set_cons_zero, List.set_cons_succ, i64_w, i32_w]
                        rfl
                      refine pure_ (i := 15) (N := some 85) (v := ?_) (a' := ?_) #[true, true, true, true, true, true, true, true, true, true, true, true, true, true, true, true, false] rfl rfl (any_of HT_.out (by kernel_rfl)) (fun _ _ _ h => h) (Or.inl ⟨by rfl, ?_⟩) ?_ ?_
                      rotate_left
                      · intro w'
                        go_simp
                        with_reducible rfl
                      rotate_left
                      · simp only [Act.put, List.setIfInBounds_toArray, List.set_cons_zero, List.set_cons_succ, i64_w, i32_w]
                        rfl
                      refine last_ (i := 16) (N := none) #[true, true, true, true, true, true, true, true, true, true, true, true, true, true, true, true, true] rfl rfl (one_of HT_.out (by kernel_rfl)) (by decide) (fun K hK => ?_)
                      refine skip_ (w1 := ?_) (by rfl) rfl ?_ ?_
                      rotate_left
                      · go_simp
                        rfl
                      refine hK.out _ _ ?_
                      clear hK K
                      refine done_ (done_of HT_.out (by kernel_rfl)) ?_
                      
                      try go_wp2
                      go_roundg k4
                      case measure => omega
                      case rel => exact ⟨j + 1, by omega, by go_num, ⟨(HI.out.drew).set (Nat.le_refl _) l1 l2 l3 _⟩⟩
                    · have d2 : decide ((j : Int) < (m : Int)) = false := decide_eq_false (by omega)
                      go_wp2
                      go_roundg k3
                      case measure => omega
                      case rel => exact ⟨i + 1, by omega, by go_num, HI⟩
                · have d1 : decide ((i : Int) < (x3_2.length : Int)) = false := decide_eq_false (by omega)
                  have SA10 := Aside0.mk (Kd.S_kept SA9.out HI.out.kept (fun k_ hk_ h_ => by omega))
                  have SB10 := Aside0.mk (Kd.S_kept SB9.out HI.out.kept (fun k_ hk_ h_ => by omega))
                  have HB10 := Aside0.mk HI.out.bel
                  have HLE10 : Aside0 (N1 ≤ wr.heap.size) := ⟨Nat.le_trans HLE9.out HI.out.kept.1⟩
                  clear HI HG SA9 SB9 HB9 HLE9 HS9
                  go_wp2_with (first | (go_at_call 41; refine (umpireref14_Bad.calls k2 _ _ l0 c d _ (Kd.C_below HR0.out HB10.out) HC0.out G3.out).mono ?_; rintro e w11 ⟨vc, vd, rfl, hc_, hd_, hb⟩; have SA11 := Aside0.mk (Kd.S_below SA10.out hb); have SB11 := Aside0.mk (Kd.S_below SB10.out hb); have HB11 := Aside0.mk (below_step HB10.out hb); obtain ⟨Ac, cc, rfl, hlc, hcc⟩ := Kd.N_reads hc_; have SD11 := Aside0.mk (Kd.S_mono (ok' := fun k_ => N1 ≤ k_) (Kd.S_bound hd_) (fun k_ hk_ => Nat.le_trans HLE10.out hk_.2.1)); obtain ⟨Ad, cd, ed⟩ := Kd.S_slice SD11.out; subst ed; have LCC := Aside0.mk hlc; have CCC := Aside0.mk hcc; clear hc_ hd_ hlc hcc hb) | (go_at_call 38; (with_reducible refine (umpireref12_Same.calls k2 _ _ a _ _ c true _ (Kd.S_reads' SA11.out).2.2 (Kd.S_reads' SA11.out).2.1 CCC.out LCC.out G4.out).mono ?_); rintro e w12 ⟨rfl, hb⟩; have SB12 := Aside0.mk (Kd.S_below SB11.out hb); have SD12 := Aside0.mk (Kd.S_below SD11.out hb); have HB12 := Aside0.mk (below_step HB11.out hb); clear hb) | (go_at_call 38; (with_reducible refine (umpireref12_Same.calls k2 _ _ b _ _ d true _ (Kd.S_reads' SB12.out).2.2 (Kd.S_reads' SB12.out).2.1 (Kd.S_reads' SD12.out).2.2 (Kd.S_reads' SD12.out).2.1 G5.out).mono ?_); rintro e w13 ⟨rfl, hb⟩; have SB13 := Aside0.mk (Kd.S_below SB12.out hb); have SD13 := Aside0.mk (Kd.S_below SD12.out hb); have HB13 := Aside0.mk (below_step HB12.out hb); clear hb))
                  clear SA10 SB10 HB10 HLE10 SA11 SB11 HB11 SD11 LCC CCC SB12 SD12 HB12
                  have HM13 := Aside0.mk (Kd.C_max (Kd.S_reads' SB13.out).2.2)
                  obtain ⟨g, hg⟩ : ∃ g, 0 < b.length → Ab = some ⟨g, 0, none⟩ := by
                    by_cases hp : 0 < b.length
                    · obtain ⟨g, cap, hv, _⟩ := Kd.S_form SB13.out hp
                      injection hv with hA _ _
                      exact ⟨g, fun _ => hA⟩
                    · exact ⟨0, fun h => absurd h hp⟩
                  obtain ⟨row, hrow0⟩ : ∃ row, TKAlt w w13 w13 N0 N1 g b.length row := by
                    by_cases hp : 0 < b.length
                    · have h9 := SB13.out
                      rw [hg hp] at h9
                      exact ⟨_, TKShp.of_S h9 (fun _ hk => hk), HB13.out, Kept.refl _ _⟩
                    · exact ⟨fun _ => (none, 0, 0), ⟨fun i hi => absurd hi (by omega), fun i hi => absurd hi (by omega), fun i hi => absurd hi (by omega)⟩, HB13.out, Kept.refl _ _⟩
                  have HG := Aside0.mk hg
                  have HRW := Aside0.mk hrow0
                  clear hg hrow0
                  go_loopg [11] b.length (fun kq v7 w' => ∃ i : Nat, kq + i = b.length ∧ v7 = .int .i64 (i : Int) ∧ Aside0 (TKAlt w w13 w' N0 N1 g b.length row))
                  case atStart => exact ⟨0, rfl, rfl, HRW⟩
                  case round =>
                    obtain ⟨i, hi, rfl, HI⟩ := hrel
                    clear HRW
                    have hm3 := HM13.out
                    by_cases hlt : i < b.length
                    · obtain ⟨k3, rfl⟩ : ∃ k3, gk = k3 + 1 := ⟨gk - 1, by omega⟩
                      obtain rfl := HG.out (by omega)
                      have d1 : decide ((i : Int) < (b.length : Int)) = true := decide_eq_true (by omega)
                      have p1 : (0 : Int) ≤ (i : Int) := by omega
                      have q1 : (i : Int) < (b.length : Int) := by omega
                      obtain ⟨A1, m, c1, hrow⟩ : ∃ A1 m c1, row i = (A1, m, c1) := ⟨_, _, _, rfl⟩
                      have hm4 : m ≤ 9223372036854775807 := by have h_ := HI.out.shp.few i hlt; rw [hrow] at h_; exact h_
                      go_wp2
                      go_loopg [12] m (fun kq v8 w' => ∃ j : Nat, kq + j = m ∧ v8 = .int .i64 (j : Int) ∧ Aside0 (TKAlt w w13 w' N0 N1 g b.length row))
                      case atStart => exact ⟨0, by omega, rfl, HI⟩
                      case round =>
                        clear HI
                        obtain ⟨j, hj, rfl, HI⟩ := hrel
                        have hx : wr.cell? ⟨g, i * 2 + 1, none⟩ = some (.slice A1 m c1) := by have h_ := HI.out.shp.outer i hlt; rw [hrow] at h_; exact h_
                        by_cases hjt : j < m
                        · obtain ⟨k4, rfl⟩ : ∃ k4, gk = k4 + 1 := ⟨gk - 1, by omega⟩
                          have d2 : decide ((j : Int) < (m : Int)) = true := decide_eq_true (by omega)
                          have p2 : (0 : Int) ≤ (j : Int) := by omega
                          have q2 : (j : Int) < (m : Int) := by omega
                          obtain ⟨b_, hA, ⟨x, hxj⟩, ⟨cur, hblk⟩, l1, l2, l3⟩ := HI.out.shp.inner i hlt j (by rw [hrow]; exact hjt)
                          rw [hrow] at hA
                          obtain rfl : A1 = some ⟨b_, 0, none⟩ := hA
                          have hfz := blk_frozen hblk j
                          go_wp2
                          go_roundg k4
                          case measure => omega
                          case rel => exact ⟨j + 1, by omega, by go_num, ⟨HI.out.set HL0.out l1 l2 l3 _⟩⟩
                        · have d2 : decide ((j : Int) < (m : Int)) = false := decide_eq_false (by omega)
                          go_wp2
                          go_roundg k3
                          case measure => omega
                          case rel => exact ⟨i + 1, by omega, by go_num, HI⟩
                    · have d1 : decide ((i : Int) < (b.length : Int)) = false := decide_eq_false (by omega)
                      have SD14 := Aside0.mk (Kd.S_kept SD13.out HI.out.kept (fun k_ hk_ h_ => by omega))
                      have HB14 := Aside0.mk HI.out.bel
                      clear HI HG SB13 SD13
                      go_wp2_with (first | (go_at_call 40; refine (terms_Bad.calls k2 _ _ l0 a2 e_ _ (Kd.C_below HR0.out HB14.out) HC0.out G6.out).mono ?_; rintro e w15 ⟨va2, ve, rfl, ha2, he2, hb⟩; have SD15 := Aside0.mk (Kd.S_below SD14.out hb); have HB15 := Aside0.mk (below_step HB14.out hb); obtain ⟨Aa2, ca2, rfl⟩ := Kd.S_slice ha2; obtain ⟨Ae, ce, rfl, hle, hce⟩ := Kd.S_reads he2; have LE15 := Aside0.mk hle; have CE15 := Aside0.mk hce; clear ha2 he2 hle hce hb) | (go_at_call 38; (with_reducible refine (umpireref12_Same.calls k2 _ _ e_ _ _ d r _ CE15.out LE15.out (Kd.S_reads' SD15.out).2.2 (Kd.S_reads' SD15.out).2.1 G7.out).mono ?_); rintro e w16 ⟨rfl, hb⟩; have HB16 := Aside0.mk (below_step HB15.out hb); clear hb))
                      go_ret
                      exact ⟨rfl, HB16.out⟩

end Go.Proofs.Ytnjimecjpnjojaa.Print
