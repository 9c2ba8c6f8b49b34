-- laid by this session's own program (wip/mkprint.sh) for this claim
import Derived.Test.Ytgnonglkibhnhaa0
import Derived.Test.YtgnonglkibhnhaaE0
import Derived.Test.YtgnonglkibhnhaaF15
import Derived.Test.YtgnonglkibhnhaaF14
import Derived.Test.YtgnonglkibhnhaaF16
import Derived.Test.YtgnonglkibhnhaaF8
namespace Go.Proofs.Ytgnonglkibhnhaa.Print
open Go.RowKit Go.Proofs.YtgnonglkibhnhaaW.PrintWords Go.Proofs.YtgnonglkibhnhaaW.PrintLast Go.Proofs.YtgnonglkibhnhaaW.PrintMore
attribute [local go_sem] max2_int min2_int max_two min_two max_three min_three max_four min_four   -- for this text's walks alone
set_option linter.unusedVariables false
set_option linter.unusedSimpArgs false

/-! ### a deframer beside what came of it so far: chunk behind chunk -/
theorem step_agree {k : Nat} {m : Int} {wide : Bool} {s : DF} {c : Int} {d : List (List Int)} {s1 s2 : DF} (h1 : DF.step k m wide s c = some s1) (h2 : DF.step k m wide { s with done := d } c = some s2) : ({ s1 with done := [] } : DF) = { s2 with done := [] } := by
  unfold DF.step at h1 h2
  by_cases a : s.inn = true
  · rw [if_pos a] at h1
    rw [if_pos (show ({ s with done := d } : DF).inn = true from a)] at h2
    by_cases b : c = 126
    · rw [if_pos b] at h1 h2
      obtain ⟨u1, g1, e1⟩ := Option.bind_eq_some_iff.1 h1
      obtain ⟨u2, g2, e2⟩ := Option.bind_eq_some_iff.1 h2
      clear h1 h2
      obtain rfl := Option.some.inj e1
      obtain rfl := Option.some.inj e2
      unfold DF.close at g1 g2
      obtain ⟨x, hx, f1⟩ := Option.bind_eq_some_iff.1 g1
      obtain ⟨x', hx', f2⟩ := Option.bind_eq_some_iff.1 g2
      clear g1 g2
      obtain rfl : x = x' := Option.some.inj (hx.symm.trans hx')
      clear hx hx'
      by_cases c1 : x.2 = true
      · rw [if_pos c1] at f1 f2
        by_cases c2 : x.1.length = 0
        · rw [if_pos c2] at f1 f2
          obtain rfl := Option.some.inj f1
          obtain rfl := Option.some.inj f2
          rfl
        · rw [if_neg c2] at f1 f2
          by_cases c3 : (x.1.length : Int) < DF.size wide + 2
          · rw [if_pos c3] at f1 f2
            obtain rfl := Option.some.inj f1
            obtain rfl := Option.some.inj f2
            rfl
          · rw [if_neg c3] at f1 f2
            by_cases c4 : (x.1.length : Int) > DF.size wide + 65535
            · rw [if_pos c4] at f1 f2
              obtain rfl := Option.some.inj f1
              obtain rfl := Option.some.inj f2
              rfl
            · rw [if_neg c4] at f1 f2
              obtain ⟨y, hy, k1⟩ := Option.bind_eq_some_iff.1 f1
              obtain ⟨y', hy', k2⟩ := Option.bind_eq_some_iff.1 f2
              clear f1 f2
              obtain rfl : y = y' := Option.some.inj (hy.symm.trans hy')
              clear hy hy'
              by_cases c5 : y.2 = true
              · rw [if_pos c5] at k1 k2
                by_cases c6 : s.done.length < 5864062014805
                · rw [if_pos c6] at k1
                  by_cases c7 : ({ s with done := d } : DF).done.length < 5864062014805
                  · rw [if_pos c7] at k2
                    obtain rfl := Option.some.inj k1
                    obtain rfl := Option.some.inj k2
                    rfl
                  · rw [if_neg c7] at k2
                    cases k2
                · rw [if_neg c6] at k1
                  cases k1
              · rw [if_neg c5] at k1 k2
                obtain rfl := Option.some.inj k1
                obtain rfl := Option.some.inj k2
                rfl
      · rw [if_neg c1] at f1 f2
        obtain rfl := Option.some.inj f1
        obtain rfl := Option.some.inj f2
        rfl
    · rw [if_neg b] at h1 h2
      by_cases e : s.held.length < 140737488355328
      · rw [if_pos e] at h1
        rw [if_pos (show ({ s with done := d } : DF).held.length < 140737488355328 from e)] at h2
        obtain rfl := Option.some.inj h1
        obtain rfl := Option.some.inj h2
        rfl
      · rw [if_neg e] at h1
        cases h1
  · rw [if_neg a] at h1
    rw [if_neg (show ¬ ({ s with done := d } : DF).inn = true from a)] at h2
    by_cases b : c = 126
    · rw [if_pos b] at h1 h2
      obtain rfl := Option.some.inj h1
      obtain rfl := Option.some.inj h2
      rfl
    · rw [if_neg b] at h1 h2
      obtain rfl := Option.some.inj h1
      obtain rfl := Option.some.inj h2
      rfl
theorem DF.redone (s : DF) (d : List (List Int)) : ({ s with done := d } : DF) = { ({ s with done := [] } : DF) with done := d } := rfl
theorem feed_same {k : Nat} {m : Int} {wide : Bool} : ∀ {l : List Int} {s sb s1 s2 : DF}, ({ s with done := [] } : DF) = { sb with done := [] } → DF.feed k m wide s l = some s1 → DF.feed k m wide sb l = some s2 → ({ s1 with done := [] } : DF) = { s2 with done := [] }
  | [], s, sb, s1, s2, h, h1, h2 => by
    obtain rfl := Option.some.inj h1
    obtain rfl := Option.some.inj h2
    exact h
  | c :: l, s, sb, s1, s2, h, h1, h2 => by
    rw [DF.feed] at h1 h2
    obtain ⟨u1, e1, h1⟩ := Option.bind_eq_some_iff.1 h1
    obtain ⟨u2, e2, h2⟩ := Option.bind_eq_some_iff.1 h2
    have hb : sb = { s with done := sb.done } := by
      rw [DF.redone s sb.done, h]
    rw [hb] at e2
    exact feed_same (step_agree e1 e2) h1 h2
theorem feed_up {k k' : Nat} (hk : k ≤ k') {m : Int} {wide : Bool} {s sr : DF} {l : List Int} (h : DF.feed k m wide s l = some sr) : DF.feed k' m wide s l = some sr := by
  induction hk with
  | refl => exact h
  | step _ ih => exact DF.feed_mono m wide _ l s _ ih
theorem feed_append {k : Nat} {m : Int} {wide : Bool} : ∀ (l1 l2 : List Int) (s : DF), DF.feed k m wide s (l1 ++ l2) = (DF.feed k m wide s l1).bind fun s' => DF.feed k m wide s' l2
  | [], _, _ => rfl
  | c :: l1, l2, s => by
    rw [List.cons_append, DF.feed, DF.feed]
    cases DF.step k m wide s c with
    | none => rfl
    | some s1 => exact feed_append l1 l2 s1
/-- What a state is, but for what is done, behind these bytes. -/
def After (m : Int) (wide : Bool) (l : List Int) (s : DF) : Prop := ∀ k s', DF.feed k m wide DF.init l = some s' → ({ s' with done := [] } : DF) = s
theorem After.next {m : Int} {wide : Bool} {l1 l2 : List Int} {s s2 : DF} {k : Nat} (h : After m wide l1 s) (h2 : DF.feed k m wide s l2 = some s2) (hd : s.done = []) : After m wide (l1 ++ l2) { s2 with done := [] } := by
  intro k' s' h'
  rw [feed_append] at h'
  obtain ⟨sa, ha, h'⟩ := Option.bind_eq_some_iff.1 h'
  have e := h k' sa ha
  refine feed_same (k := max k k') (s := sa) (sb := s) ?_ (feed_up (Nat.le_max_right _ _) h') (feed_up (Nat.le_max_left _ _) h2)
  rw [e, ← e]
theorem take_chunk (l : List Int) (i j : Nat) (h : i ≤ j) : l.take i ++ (l.take j).drop i = l.take j := by
  conv => rhs; rw [← List.take_append_drop i (l.take j)]
  rw [List.take_take, Nat.min_eq_left h]
structure CK (b0 : Nat) (w0 W : World) (p : Nat) (m : Int) (wide : Bool) (l1 : List Int) (va : Value) (x : List (List Int)) : Prop where
  mk ::
  out : ∃ (vh : Value) (s : DF), After m wide l1 s ∧ (∀ D, DFI b0 D W p vh (.slice none 0 0) m wide s) ∧ w0.heap.size ≤ b0 ∧ b0 ≤ W.heap.size ∧ Below w0.heap.size w0 W ∧ Kd.N (Kd.slice 5 (Kd.int .u8)) 26 W w0.heap.size (fun k => k ≠ p ∧ some k ≠ vh.ownBlock) va x
/-- Behind a Feed: what came of it beside what came before. -/
structure CM (b0 : Nat) (w0 W : World) (p : Nat) (m : Int) (wide : Bool) (l1 : List Int) (vh : Value) (s : DF) (va : Value) (x : List (List Int)) (vb : Value) (y : List (List Int)) : Prop where
  aft : After m wide l1 s
  dfi : ∀ D, DFI b0 D W p vh (.slice none 0 0) m wide s
  le0 : w0.heap.size ≤ b0
  leW : b0 ≤ W.heap.size
  bel : Below w0.heap.size w0 W
  ha : Kd.N (Kd.slice 5 (Kd.int .u8)) 26 W w0.heap.size (fun k => (k ≠ p ∧ some k ≠ vh.ownBlock) ∧ some k ≠ vb.ownBlock) va x
  hb : Kd.N (Kd.slice 5 (Kd.int .u8)) 26 W w0.heap.size (fun k => (k ≠ p ∧ some k ≠ vh.ownBlock) ∧ some k ≠ va.ownBlock) vb y
section
variable {b0 p : Nat} {w0 W : World} {m : Int} {wide : Bool} {l1 : List Int} {va vb vh : Value} {x y : List (List Int)} {s : DF}
theorem CK.drewN (h : CK b0 w0 W p m wide l1 va x) (n : Nat) : CK b0 w0 (W.drewN n) p m wide l1 va x := by
  obtain ⟨vh, s, h1, h2, h3, h4, h5, h6⟩ := h.out
  exact ⟨⟨vh, s, h1, fun D => (h2 D).drewN n, h3, h4, pw_below_drewN h5 n, Kd.N_drewN h6 n⟩⟩
theorem CK.drew (h : CK b0 w0 W p m wide l1 va x) : CK b0 w0 W.drew p m wide l1 va x := by
  obtain ⟨vh, s, h1, h2, h3, h4, h5, h6⟩ := h.out
  exact ⟨⟨vh, s, h1, fun D => (h2 D).below (below_drew (Below.refl _ _)), h3, h4, below_drew h5, Kd.N_drew h6⟩⟩
theorem CK.start {w w1 w2 : World} (h : FD w1 w2 p m wide DF.init) (hb : Below w.heap.size w w1) : CK w1.heap.size w w2 p m wide [] (.slice none 0 0) [] := by
  obtain ⟨vh, hd, hb1⟩ := h.out
  refine ⟨⟨vh, DF.init, fun k s' h' => ?_, hd, hb.size, hb1.size, hb.trans (hb1.mono hb.size), Kd.N_nil _ _ _ _ _⟩⟩
  obtain rfl := Option.some.inj h'
  rfl
theorem CK.bel (h : CK b0 w0 W p m wide l1 va x) : Below w0.heap.size w0 W := by
  obtain ⟨vh, s, h1, h2, h3, h4, h5, h6⟩ := h.out
  exact h5
theorem DFI.drew {B D : Nat} (h : DFI B D W p vh vb m wide s) : DFI B D W.drew p vh vb m wide s := h.below (below_drew (Below.refl _ _))
theorem CM.dfi_grown {w1 : World} (h : CM b0 w0 W p m wide l1 vh s va x vb y) (hg : W.grownBy w1 va.ownBlock) (D : Nat) : DFI b0 D w1 p vh (.slice none 0 0) m wide s := by
  have hdn : s.done = [] := List.eq_nil_of_length_eq_zero (Kd.S_reads' (h.dfi 0).done).1.symm
  exact ⟨blk_grown (h.dfi D).blk hg (Kd.N_away h.ha (fun k hk => hk.1.1)), Kd.R_mono (Kd.R_grown (Kd.R_apart' (h.dfi D).held (Kd.N_typed h.ha) (by decide)) hg (fun k hk => hk.2)) (fun k hk => hk.1), by rw [hdn]; exact Kd.S_nil _ _ _ _ _, (h.dfi D).le⟩
theorem CM.grown {w1 : World} {v1 : Value} (h : CM b0 w0 W p m wide l1 vh s va x vb y) (hg : W.grownBy w1 va.ownBlock) (hb : Below w0.heap.size w0 w1) (ho : Kd.N (Kd.slice 5 (Kd.int .u8)) 26 w1 w0.heap.size (fun k => k ≠ p ∧ some k ≠ vh.ownBlock) v1 (x ++ y)) : CK b0 w0 w1 p m wide l1 v1 (x ++ y) := by
  have hdn : s.done = [] := List.eq_nil_of_length_eq_zero (Kd.S_reads' (h.dfi 0).done).1.symm
  refine ⟨⟨vh, s, h.aft, fun D => ⟨blk_grown (h.dfi D).blk hg (Kd.N_away h.ha (fun k hk => hk.1.1)), ?_, by rw [hdn]; exact Kd.S_nil _ _ _ _ _, (h.dfi D).le⟩, h.le0, Nat.le_trans h.leW hg.size, hb, ho⟩⟩
  exact Kd.R_mono (Kd.R_grown (Kd.R_apart' (h.dfi D).held (Kd.N_typed h.ha) (by decide)) hg (fun k hk => hk.2)) (fun k hk => hk.1)
end
theorem CK.feed (k b0 p : Nat) (w0 W : World) (m : Int) (wide : Bool) (l1 l2 : List Int) (va : Value) (x r1 : List (List Int)) (r2 r3 r4 r5 r6 : Int) (A1 : Option Addr) (c1 : Nat) (h : CK b0 w0 W p m wide l1 va x) (hA : Kd.C (Kd.int .u8) w0 A1 l2.length l2) (hM : frame_More.f k l1 l2 m wide = some (r1, r2, r3, r4, r5, r6)) :
    Calls Try.prog 14 #[.pointer (some ⟨p, 0, none⟩), .slice A1 l2.length c1] W fun e w' => ∃ (v0 vh : Value) (s : DF), e = .returned v0 ∧ Aside0 (CM b0 w0 w' p m wide (l1 ++ l2) vh s va x v0 r1) ∧ Aside0 (s.tg = r2 ∧ s.ta = r3 ∧ s.ts = r4 ∧ s.tl = r5 ∧ s.tw = r6) := by
  obtain ⟨vh, s, h1, h2, h3, h4, h5, h6⟩ := h.out
  obtain ⟨s1, hs1, hM⟩ := Option.bind_eq_some_iff.1 hM
  obtain ⟨s2, hs2, hM⟩ := Option.bind_eq_some_iff.1 hM
  rw [h1 k s1 hs1] at hs2
  have hdn : s.done = [] := List.eq_nil_of_length_eq_zero (Kd.S_reads' (h2 0).done).1.symm
  obtain ⟨rfl, rfl, rfl, rfl, rfl, rfl⟩ : s2.done = r1 ∧ s2.tg = r2 ∧ s2.ta = r3 ∧ s2.ts = r4 ∧ s2.tl = r5 ∧ s2.tw = r6 := by
    injection hM with hM
    injection hM with g1 hM
    injection hM with g2 hM
    injection hM with g3 hM
    injection hM with g4 hM
    injection hM with g5 g6
    exact ⟨g1, g2, g3, g4, g5, g6⟩
  refine (frame_Deframer_Feed.calls k b0 p vh m wide s s2 A1 c1 l2 W (h2 _) h4 (Kd.F_mono (Kd.F_below (Kd.C_F (Kd.heap_int .u8) hA) h5) (fun k_ hk => ⟨Nat.ne_of_lt (Nat.lt_of_lt_of_le hk (Nat.le_trans h3 (h2 0).le)), fun e_ => by have h_ := Kd.R_base (h2 0).held k_ e_.symm; omega⟩)) hs2).mono ?_
  rintro e w1 ⟨v0, rfl, ⟨vh1, hd1, ho, hk, hv⟩⟩
  have hne : ∀ k_, some k_ ≠ vh.ownBlock → k_ < W.heap.size → some k_ ≠ vh1.ownBlock := by
    intro k_ hk_ hlt e_
    rcases hv with hv | ⟨b, hv, hb⟩
    · exact hk_ (e_.trans hv)
    · rw [hv] at e_
      injection e_ with e_
      omega
  refine ⟨v0, vh1, { s2 with done := [] }, rfl, ⟨⟨h1.next hs2 hdn, hd1, h3, Nat.le_trans h4 hk.kept.1, h5.trans (hk.bel.mono h3), ?_, ?_⟩⟩, ⟨rfl, rfl, rfl, rfl, rfl⟩⟩
  · refine Kd.N_mono (Kd.N_kept (Kd.N_bound h6) hk.kept (fun k_ hk_ h_ => h_.elim hk_.1.1 hk_.1.2)) (fun k_ hk_ => ⟨⟨hk_.1.1, hne k_ hk_.1.2 hk_.2⟩, fun e_ => ?_⟩)
    have h7 := Kd.S_base ho k_ e_.symm
    have h8 := hk_.2
    omega
  · refine Kd.N_lower (Kd.N_mono (Kd.S_N (Kd.S_bound ho)) (fun k_ hk_ => ⟨hk_.1, fun e_ => ?_⟩)) h5.size
    have h7 := Kd.N_lt h6 k_ e_.symm
    have h8 := hk_.2.1
    omega
theorem DFI.far {B D : Nat} {W : World} {p g : Nat} {vh : Value} {m : Int} {wide : Bool} {s : DF} {cells : Array Value} (h : DFI B D W p vh (.slice none 0 0) m wide s) (hg : W.heap[g]? = some (.cells cells 40 (0, 0))) (j : Nat) (u : Value) : DFI B D (W.setCell ⟨g, j, none⟩ u) p vh (.slice none 0 0) m wide s :=
  have hdn : s.done = [] := List.eq_nil_of_length_eq_zero (Kd.S_reads' h.done).1.symm
  ⟨blk_far h.blk (p := ⟨g, j, none⟩) (blk_ne h.blk hg (by decide)) u, Kd.R_mono (Kd.R_far (p := ⟨g, j, none⟩) (Kd.R_types h.held hg (by decide)) (fun k hk => hk.2) u) (fun k hk => hk.1), by rw [hdn]; exact Kd.S_nil _ _ _ _ _, h.le⟩
attribute [local go_sem high] eqA40
/-! ### umpirelaw07_FrameChunks: function 4 -/
mutual
def umpirelaw07_FrameChunks.j0 : Nat → List Int → List Int → Int → Bool → Bool → Option (Bool)
  | 0, _, _, _, _, _ => none
  | k + 1, x0, x1, x2, x3, x27 => if x27 = true then ((umpirelaw07_awake.f k).bind fun t297 => (some t297)) else (if 0 = 1 then (none) else (umpirelaw07_FrameChunks.l0 k x0 x1 x2 x3 ([] : List (List Int)) 0 0))
def umpirelaw07_FrameChunks.l0 : Nat → List Int → List Int → Int → Bool → List (List Int) → Int → Int → Option (Bool)
  | 0, _, _, _, _, _, _, _ => none
  | k + 1, x0, x1, x2, x3, x10, x11, x12 => if x12 < (x1.length : Int) then (if 0 ≤ x12 then (if 0 ≤ x11 then (if x11 ≤ (wrap64 (x11 + (mn (wrap64 (rd x1 x12)) (wrap64 ((x0.length : Int) - x11))))) then (if (wrap64 (x11 + (mn (wrap64 (rd x1 x12)) (wrap64 ((x0.length : Int) - x11))))) ≤ (x0.length : Int) then ((frame_More.f k (x0.take (x11 : Int).toNat) ((x0.take ((wrap64 (x11 + (mn (wrap64 (rd x1 x12)) (wrap64 ((x0.length : Int) - x11))))) : Int).toNat).drop (x11 : Int).toNat) x2 x3).bind fun bt300 => (if x10.length + bt300.1.length < 5864062014805 then (umpirelaw07_FrameChunks.l0 k x0 x1 x2 x3 (x10 ++ bt300.1) (wrap64 (x11 + (mn (wrap64 (rd x1 x12)) (wrap64 ((x0.length : Int) - x11))))) (wrap64 (x12 + 1))) else (none))) else (none)) else (none)) else (none)) else (none)) else (if 0 ≤ x11 then (if x11 ≤ (x0.length : Int) then ((frame_More.f k (x0.take (x11 : Int).toNat) (x0.drop (x11 : Int).toNat) x2 x3).bind fun bt312 => (if x10.length + bt312.1.length < 5864062014805 then ((frame_All.f k x0 x2 x3).bind fun bt323 => ((umpireref07_Same.f k (x10 ++ bt312.1) bt323.1).bind fun t332 => (if t332 = true then (some (bt312.2.1 == bt323.2.1 && (bt312.2.2.1 == bt323.2.2.1 && (bt312.2.2.2.1 == bt323.2.2.2.1 && (bt312.2.2.2.2.1 == bt323.2.2.2.2.1 && (bt312.2.2.2.2.2 == bt323.2.2.2.2.2)))))) else (none)))) else (none))) else (none)) else (none))
end
def umpirelaw07_FrameChunks.f (k : Nat) (l0 : List Int) (l1 : List Int) (a2 : Int) (a3 : Bool) : Option (Bool) := (umpirelaw07_awake.f k).bind fun t296 => (if t296 = true then (if (l0.length : Int) > 3000 then (umpirelaw07_FrameChunks.j0 k l0 l1 a2 a3 true) else (umpirelaw07_FrameChunks.j0 k l0 l1 a2 a3 (decide ((l1.length : Int) > 100)))) else (umpirelaw07_FrameChunks.j0 k l0 l1 a2 a3 true))
theorem umpirelaw07_FrameChunks.mono_l : ∀ k, (∀ y0 y1 y2 y3 y4, LeO (umpirelaw07_FrameChunks.j0 k y0 y1 y2 y3 y4) (umpirelaw07_FrameChunks.j0 (k + 1) y0 y1 y2 y3 y4)) ∧ (∀ y0 y1 y2 y3 y4 y5 y6, LeO (umpirelaw07_FrameChunks.l0 k y0 y1 y2 y3 y4 y5 y6) (umpirelaw07_FrameChunks.l0 (k + 1) y0 y1 y2 y3 y4 y5 y6))
  | 0 => ⟨fun _ _ _ _ _ r h => by simp [umpirelaw07_FrameChunks.j0] at h, fun _ _ _ _ _ _ _ r h => by simp [umpirelaw07_FrameChunks.l0] at h⟩
  | k + 1 => by
    obtain ⟨ih0, ih1⟩ := umpirelaw07_FrameChunks.mono_l k
    refine ⟨?_, ?_⟩
    · intro y0 y1 y2 y3 y4
      unfold umpirelaw07_FrameChunks.j0
      repeat' first
      | (with_reducible exact ih0 _ _ _ _ _)
      | (with_reducible exact ih1 _ _ _ _ _ _ _)
      | (with_reducible exact frame_All.mono _ _ _ _)
      | (with_reducible exact frame_More.mono _ _ _ _ _)
      | (with_reducible exact umpirelaw07_awake.mono _)
      | (with_reducible exact umpireref07_Same.mono _ _ _)
      | (with_reducible exact LeO.refl _)
      | (with_reducible exact LeO.none _)
      | (with_reducible refine LeO.ite ?_ ?_)
      | (with_reducible refine LeO.bind ?_ (fun _ => ?_))
      | exact ih0 _ _ _ _ _
      | exact ih1 _ _ _ _ _ _ _
      | exact frame_All.mono _ _ _ _
      | exact umpirelaw07_awake.mono _
      | exact umpireref07_Same.mono _ _ _
      | exact LeO.none _
      | refine LeO.ite ?_ ?_
      | refine LeO.bind ?_ (fun _ => ?_)
    · intro y0 y1 y2 y3 y4 y5 y6
      unfold umpirelaw07_FrameChunks.l0
      repeat' first
      | (with_reducible exact ih0 _ _ _ _ _)
      | (with_reducible exact ih1 _ _ _ _ _ _ _)
      | (with_reducible exact frame_All.mono _ _ _ _)
      | (with_reducible exact frame_More.mono _ _ _ _ _)
      | (with_reducible exact umpirelaw07_awake.mono _)
      | (with_reducible exact umpireref07_Same.mono _ _ _)
      | (with_reducible exact LeO.refl _)
      | (with_reducible exact LeO.none _)
      | (with_reducible refine LeO.ite ?_ ?_)
      | (with_reducible refine LeO.bind ?_ (fun _ => ?_))
      | exact ih0 _ _ _ _ _
      | exact ih1 _ _ _ _ _ _ _
      | exact frame_All.mono _ _ _ _
      | exact umpirelaw07_awake.mono _
      | exact umpireref07_Same.mono _ _ _
      | exact LeO.none _
      | refine LeO.ite ?_ ?_
      | refine LeO.bind ?_ (fun _ => ?_)
theorem umpirelaw07_FrameChunks.mono : ∀ a0 a1 a2 a3 k, LeO (umpirelaw07_FrameChunks.f k a0 a1 a2 a3) (umpirelaw07_FrameChunks.f (k + 1) a0 a1 a2 a3) := by
  intro a0 a1 a2 a3 k
  obtain ⟨ih0, ih1⟩ := umpirelaw07_FrameChunks.mono_l k
  unfold umpirelaw07_FrameChunks.f
  repeat' first
      | (with_reducible exact ih0 _ _ _ _ _)
      | (with_reducible exact ih1 _ _ _ _ _ _ _)
      | (with_reducible exact frame_All.mono _ _ _ _)
      | (with_reducible exact frame_More.mono _ _ _ _ _)
      | (with_reducible exact umpirelaw07_awake.mono _)
      | (with_reducible exact umpireref07_Same.mono _ _ _)
      | (with_reducible exact LeO.refl _)
      | (with_reducible exact LeO.none _)
      | (with_reducible refine LeO.ite ?_ ?_)
      | (with_reducible refine LeO.bind ?_ (fun _ => ?_))
      | exact ih0 _ _ _ _ _
      | exact ih1 _ _ _ _ _ _ _
      | exact frame_All.mono _ _ _ _
      | exact umpirelaw07_awake.mono _
      | exact umpireref07_Same.mono _ _ _
      | exact LeO.none _
      | refine LeO.ite ?_ ?_
      | refine LeO.bind ?_ (fun _ => ?_)
set_option maxHeartbeats 8000000 in
set_option maxRecDepth 100000 in
theorem umpirelaw07_FrameChunks.calls (k : Nat) (A0 : Option Addr) (c0 : Nat) (l0 : List Int) (A1 : Option Addr) (c1 : Nat) (l1 : List Int) (a2 : Int) (a3 : Bool) (r : Bool) (w : World) (hr0 : Kd.C (Kd.int .u8) w A0 l0.length l0) (hc0 : l0.length ≤ c0) (hr1 : Kd.C (Kd.int .u16) w A1 l1.length l1) (hc1 : l1.length ≤ c1) (h : umpirelaw07_FrameChunks.f k l0 l1 a2 a3 = some r) :
    Calls Try.prog 4 #[.slice A0 l0.length c0, .slice A1 l1.length c1, .int .u32 a2, .bool a3] w fun e w' => e = .returned (.bool r) ∧ Below w.heap.size w w' := by
  have hu40 := Try.underlying40
  have HR0 := Aside0.mk hr0
  have HC0 := Aside0.mk hc0
  clear hr0 hc0
  have HR1 := Aside0.mk hr1
  have HC1 := Aside0.mk hc1
  clear hr1 hc1
  have HB := Aside0.mk (Below.refl w.heap.size w)
  have H : ((umpirelaw07_awake.f k).bind fun t296 => (if t296 = true then (if (l0.length : Int) > 3000 then (umpirelaw07_FrameChunks.j0 k l0 l1 a2 a3 true) else (umpirelaw07_FrameChunks.j0 k l0 l1 a2 a3 (decide ((l1.length : Int) > 100)))) else (umpirelaw07_FrameChunks.j0 k l0 l1 a2 a3 true))) = some r := h
  clear h
  have HC5 := Aside0.mk H
  clear H
  go_enter Try.func4, Try.ntmps4
  go_upto_region 1 with (fail)
  repeat (go_quiet (fail); go_upto_region 1 with (fail))
  go_cut [27] (fun v27 wc => ∃ (kq : Nat) (x27_4 : Bool), v27 = .bool x27_4 ∧ Aside0 (umpirelaw07_FrameChunks.j0 kq l0 l1 a2 a3 x27_4 = some r) ∧ Aside0 (kq ≤ k) ∧ Aside0 (Below w.heap.size w wc))
  case first =>
    have H := HC5.out
    clear HC5
    replace H := Option.bind_eq_some_iff.mp H
    obtain ⟨t296, A60, H⟩ := H
    replace H : (if t296 = true then (if (l0.length : Int) > 3000 then (umpirelaw07_FrameChunks.j0 k l0 l1 a2 a3 true) else (umpirelaw07_FrameChunks.j0 k l0 l1 a2 a3 (decide ((l1.length : Int) > 100)))) else (umpirelaw07_FrameChunks.j0 k l0 l1 a2 a3 true)) = some r := H
    have A6 := Aside0.mk A60
    clear A60
    by_cases c7 : t296 = true
    · subst c7
      have H1 : (if (l0.length : Int) > 3000 then (umpirelaw07_FrameChunks.j0 k l0 l1 a2 a3 true) else (umpirelaw07_FrameChunks.j0 k l0 l1 a2 a3 (decide ((l1.length : Int) > 100)))) = some r := by rw [if_pos rfl] at H; exact H
      clear H
      have H := H1
      clear H1
      by_cases c8 : (l0.length : Int) > 3000
      · rw [if_pos c8] at H
        have c8b0 : decide (3000 < (l0.length : Int)) = true := decide_eq_true c8
        have c8b1 : decide (3000 < l0.length) = true := decide_eq_true (by omega)
        clear c8
        (first | rw [c8b0] | (simp only [i64_w, i32_w]; rw [c8b0]) | skip)
        have H' := Aside0.mk H
        clear H
        go_wp2_with (first | (go_at_call 8; (with_reducible refine (umpirelaw07_awake.calls k  true _ A6.out).mono ?_); rintro e w9 ⟨rfl, hb⟩; have n0_ := Aside0.mk (below_step (by repeat (first | (with_reducible first | exact HB.out | apply below_alloc | apply pw_below_drewN | apply below_drew1) | exact HB.out)) hb); clear HB; have HB := n0_; clear n0_; (try clear hb); (try clear hb2); (try clear hk); (try clear hi)))
        repeat (go_quiet (first | (go_at_call 8; (with_reducible refine (umpirelaw07_awake.calls k  true _ A6.out).mono ?_); rintro e w9 ⟨rfl, hb⟩; have n0_ := Aside0.mk (below_step (by repeat (first | (with_reducible first | exact HB.out | apply below_alloc | apply pw_below_drewN | apply below_drew1) | exact HB.out)) hb); clear HB; have HB := n0_; clear n0_; (try clear hb); (try clear hb2); (try clear hk); (try clear hi))); try go_wp2_with (first | (go_at_call 8; (with_reducible refine (umpirelaw07_awake.calls k  true _ A6.out).mono ?_); rintro e w9 ⟨rfl, hb⟩; have n0_ := Aside0.mk (below_step (by repeat (first | (with_reducible first | exact HB.out | apply below_alloc | apply pw_below_drewN | apply below_drew1) | exact HB.out)) hb); clear HB; have HB := n0_; clear n0_; (try clear hb); (try clear hb2); (try clear hk); (try clear hi))))
        go_meet
        case rel => exact ⟨_, (true), (by first | rfl | (simp; done) | (simp [*]; done)), H', ⟨by first | omega | exact Nat.le_refl _⟩, ⟨by repeat (first | (with_reducible first | exact HB.out | apply below_alloc | apply pw_below_drewN | apply below_drew1) | exact HB.out)⟩⟩
      · rw [if_neg c8] at H
        have c8b0 : decide (3000 < (l0.length : Int)) = false := decide_eq_false c8
        have c8b1 : decide (3000 < l0.length) = false := decide_eq_false (by omega)
        clear c8
        (first | rw [c8b0] | (simp only [i64_w, i32_w]; rw [c8b0]) | skip)
        have H' := Aside0.mk H
        clear H
        go_wp2_with (first | (go_at_call 8; (with_reducible refine (umpirelaw07_awake.calls k  true _ A6.out).mono ?_); rintro e w10 ⟨rfl, hb⟩; have n0_ := Aside0.mk (below_step (by repeat (first | (with_reducible first | exact HB.out | apply below_alloc | apply pw_below_drewN | apply below_drew1) | exact HB.out)) hb); clear HB; have HB := n0_; clear n0_; (try clear hb); (try clear hb2); (try clear hk); (try clear hi)))
        repeat (go_quiet (first | (go_at_call 8; (with_reducible refine (umpirelaw07_awake.calls k  true _ A6.out).mono ?_); rintro e w10 ⟨rfl, hb⟩; have n0_ := Aside0.mk (below_step (by repeat (first | (with_reducible first | exact HB.out | apply below_alloc | apply pw_below_drewN | apply below_drew1) | exact HB.out)) hb); clear HB; have HB := n0_; clear n0_; (try clear hb); (try clear hb2); (try clear hk); (try clear hi))); try go_wp2_with (first | (go_at_call 8; (with_reducible refine (umpirelaw07_awake.calls k  true _ A6.out).mono ?_); rintro e w10 ⟨rfl, hb⟩; have n0_ := Aside0.mk (below_step (by repeat (first | (with_reducible first | exact HB.out | apply below_alloc | apply pw_below_drewN | apply below_drew1) | exact HB.out)) hb); clear HB; have HB := n0_; clear n0_; (try clear hb); (try clear hb2); (try clear hk); (try clear hi))))
        go_meet
        case rel => exact ⟨_, (decide ((l1.length : Int) > 100)), (by first | rfl | (simp; done) | (simp [*]; done)), H', ⟨by first | omega | exact Nat.le_refl _⟩, ⟨by repeat (first | (with_reducible first | exact HB.out | apply below_alloc | apply pw_below_drewN | apply below_drew1) | exact HB.out)⟩⟩
    · replace c7 := Bool.eq_false_iff.mpr c7
      subst c7
      have H1 : (umpirelaw07_FrameChunks.j0 k l0 l1 a2 a3 true) = some r := by rw [if_neg (show ¬ (false = true) by decide)] at H; exact H
      clear H
      have H := H1
      clear H1
      have H' := Aside0.mk H
      clear H
      go_wp2_with (first | (go_at_call 8; (with_reducible refine (umpirelaw07_awake.calls k  false _ A6.out).mono ?_); rintro e w11 ⟨rfl, hb⟩; have n0_ := Aside0.mk (below_step (by repeat (first | (with_reducible first | exact HB.out | apply below_alloc | apply pw_below_drewN | apply below_drew1) | exact HB.out)) hb); clear HB; have HB := n0_; clear n0_; (try clear hb); (try clear hb2); (try clear hk); (try clear hi)))
      repeat (go_quiet (first | (go_at_call 8; (with_reducible refine (umpirelaw07_awake.calls k  false _ A6.out).mono ?_); rintro e w11 ⟨rfl, hb⟩; have n0_ := Aside0.mk (below_step (by repeat (first | (with_reducible first | exact HB.out | apply below_alloc | apply pw_below_drewN | apply below_drew1) | exact HB.out)) hb); clear HB; have HB := n0_; clear n0_; (try clear hb); (try clear hb2); (try clear hk); (try clear hi))); try go_wp2_with (first | (go_at_call 8; (with_reducible refine (umpirelaw07_awake.calls k  false _ A6.out).mono ?_); rintro e w11 ⟨rfl, hb⟩; have n0_ := Aside0.mk (below_step (by repeat (first | (with_reducible first | exact HB.out | apply below_alloc | apply pw_below_drewN | apply below_drew1) | exact HB.out)) hb); clear HB; have HB := n0_; clear n0_; (try clear hb); (try clear hb2); (try clear hk); (try clear hi))))
      go_meet
      case rel => exact ⟨_, (true), (by first | rfl | (simp; done) | (simp [*]; done)), H', ⟨by first | omega | exact Nat.le_refl _⟩, ⟨by repeat (first | (with_reducible first | exact HB.out | apply below_alloc | apply pw_below_drewN | apply below_drew1) | exact HB.out)⟩⟩
  case rest =>
    clear HC5
    try clear c1
    try clear p2
    try clear c4
    try clear c7
    try clear c8
    try clear c8b0
    try clear c8b1
    obtain ⟨kq, x27_4, rfl, HA, HJ4, HB⟩ := hcut
    cases kq with
    | zero => exact absurd HA.out (by simp [umpirelaw07_FrameChunks.j0])
    | succ kj4 =>
      have H := HA.out
      clear HA
      simp only [umpirelaw07_FrameChunks.j0] at H
      by_cases c12 : x27_4 = true
      · subst c12
        have H1 : ((umpirelaw07_awake.f kj4).bind fun t297 => (some t297)) = some r := by rw [if_pos rfl] at H; exact H
        clear H
        have H := H1
        clear H1
        replace H := Option.bind_eq_some_iff.mp H
        obtain ⟨t297, A130, H⟩ := H
        replace H : (some t297) = some r := H
        have A13 := Aside0.mk A130
        clear A130
        obtain rfl := Option.some.inj H
        go_wp2_with (first | (go_at_call 8; (with_reducible refine (umpirelaw07_awake.calls kj4  t297 _ A13.out).mono ?_); rintro e w14 ⟨rfl, hb⟩; have n0_ := Aside0.mk (below_step (by repeat (first | (with_reducible first | exact HB.out | apply below_alloc | apply pw_below_drewN | apply below_drew1) | exact HB.out)) hb); clear HB; have HB := n0_; clear n0_; (try clear hb); (try clear hb2); (try clear hk); (try clear hi)))
        repeat (go_quiet (first | (go_at_call 8; (with_reducible refine (umpirelaw07_awake.calls kj4  t297 _ A13.out).mono ?_); rintro e w14 ⟨rfl, hb⟩; have n0_ := Aside0.mk (below_step (by repeat (first | (with_reducible first | exact HB.out | apply below_alloc | apply pw_below_drewN | apply below_drew1) | exact HB.out)) hb); clear HB; have HB := n0_; clear n0_; (try clear hb); (try clear hb2); (try clear hk); (try clear hi))); try go_wp2_with (first | (go_at_call 8; (with_reducible refine (umpirelaw07_awake.calls kj4  t297 _ A13.out).mono ?_); rintro e w14 ⟨rfl, hb⟩; have n0_ := Aside0.mk (below_step (by repeat (first | (with_reducible first | exact HB.out | apply below_alloc | apply pw_below_drewN | apply below_drew1) | exact HB.out)) hb); clear HB; have HB := n0_; clear n0_; (try clear hb); (try clear hb2); (try clear hk); (try clear hi))))
        go_ret
        exact ⟨by first | rfl | (simp [errW_none, errW_some] <;> rfl) | (simp [*, errW_none, errW_some] <;> rfl), by repeat (first | (with_reducible first | exact HB.out | apply below_alloc | apply pw_below_drewN | apply below_drew1) | exact HB.out)⟩
      · replace c12 := Bool.eq_false_iff.mpr c12
        subst c12
        have H1 : (if 0 = 1 then (none) else (umpirelaw07_FrameChunks.l0 kj4 l0 l1 a2 a3 ([] : List (List Int)) 0 0)) = some r := by rw [if_neg (show ¬ (false = true) by decide)] at H; exact H
        clear H
        have H := H1
        clear H1
        by_cases c15 : 0 = 1
        · rw [if_pos c15] at H
          exact absurd H (by simp)
        · rw [if_neg c15] at H
          have c15b0 : (0 == 1) = false := beq_eq_false_iff_ne.mpr c15
          have c15b1 : (0 != 1) = true := bne_iff_ne.mpr c15
          have H' := Aside0.mk H
          clear H
          go_wp2_with ((go_at_call 13; (with_reducible refine (FD.new a2 a3 _).mono ?_); rintro e w34N ⟨pN, rfl, hFD⟩; have HCK := Aside0.mk (CK.start hFD.out (by repeat (first | (with_reducible first | exact HB.out | apply below_alloc | apply pw_below_drewN | apply below_drew1) | exact HB.out))); have n0_ := Aside0.mk (CK.bel HCK.out); clear HB; have HB := n0_; clear n0_ hFD))
          obtain ⟨b0N, HCKb⟩ : ∃ b0N, Aside0 (CK b0N w _ pN a2 a3 [] (.slice none 0 0) []) := ⟨_, HCK⟩
          clear HCK
          go_loopg [10, 11, 12] kj4 (fun kq v10 v11 v12 w' => ∃ (x10_2 : List (List Int)) (x11_2 : Int) (x12_2 : Int), v11 = .int .i64 x11_2 ∧ v12 = .int .i64 x12_2 ∧ Aside0 (umpirelaw07_FrameChunks.l0 kq l0 l1 a2 a3 x10_2 x11_2 x12_2 = some r) ∧ Aside0 (kq ≤ kj4) ∧ Aside0 (Kd.N (Kd.slice 5 (Kd.int .u8)) 26 w' w.heap.size (fun _ => True) v10 x10_2) ∧ Aside0 (Below w.heap.size w w') ∧ Aside0 (CK b0N w w' pN a2 a3 (l0.take (x11_2 : Int).toNat) v10 x10_2))
          case atStart => exact ⟨(([] : List (List Int))), (0), (0), (by first | rfl | (simp; done) | (simp [*]; done)), (by first | rfl | (simp; done) | (simp [*]; done)), H', ⟨Nat.le_refl _⟩, ⟨by first | exact Kd.S_nil _ _ _ _ _ | exact Kd.N_nil _ _ _ _ _ | exact Kd.V_nil _ _ _ _ _ | exact Kd.Q_nil _ _ _ _ _ | exact Kd.R_nil _ _ _ _ _⟩, ⟨by repeat (first | (with_reducible first | exact HB.out | apply below_alloc | apply pw_below_drewN | apply below_drew1) | exact HB.out)⟩, ⟨by (with_reducible repeat (first | apply CK.drewN | apply CK.drew)); exact HCKb.out⟩⟩
          case round =>
            clear H'
            try clear c1
            try clear p2
            try clear c4
            try clear c7
            try clear c8
            try clear c8b0
            try clear c8b1
            try clear c12
            try clear c15
            try clear c15b0
            try clear c15b1
            try clear p2
            obtain ⟨x10_2, x11_2, x12_2, rfl, rfl, HA, HK2, HO_10, HB, HCK⟩ := hrel
            try clear HCKb
            cases gk with
            | zero => exact absurd HA.out (by simp [umpirelaw07_FrameChunks.l0])
            | succ k2 =>
              have H := HA.out
              clear HA
              simp only [umpirelaw07_FrameChunks.l0] at H
              by_cases c16 : x12_2 < (l1.length : Int)
              · rw [if_pos c16] at H
                have c16b0 : decide (x12_2 < (l1.length : Int)) = true := decide_eq_true c16
                clear c16
                by_cases c17 : 0 ≤ x12_2
                · rw [if_pos c17] at H
                  have c17b0 : decide (0 ≤ x12_2) = true := decide_eq_true c17
                  clear c17
                  obtain ⟨ji18, hji18⟩ : ∃ j_ : Int, (mn (wrap64 (rd l1 x12_2)) (wrap64 ((l0.length : Int) - x11_2))) = j_ := ⟨_, rfl⟩
                  replace H : (if 0 ≤ x11_2 then (if x11_2 ≤ (wrap64 (x11_2 + (ji18))) then (if (wrap64 (x11_2 + (ji18))) ≤ (l0.length : Int) then ((frame_More.f k2 (l0.take (x11_2 : Int).toNat) ((l0.take ((wrap64 (x11_2 + (ji18))) : Int).toNat).drop (x11_2 : Int).toNat) a2 a3).bind fun bt300 => (if x10_2.length + bt300.1.length < 5864062014805 then (umpirelaw07_FrameChunks.l0 k2 l0 l1 a2 a3 (x10_2 ++ bt300.1) (wrap64 (x11_2 + (ji18))) (wrap64 (x12_2 + 1))) else (none))) else (none)) else (none)) else (none)) = some r := by first | (rw [hji18] at H; exact H) | (simp only [hji18] at H ⊢; exact H)
                  have hji18_ : (if (wrap64 ((l0.length : Int) - x11_2)) < (wrap64 (rd l1 x12_2)) then (wrap64 ((l0.length : Int) - x11_2)) else (wrap64 (rd l1 x12_2))) = ji18 := hji18
                  by_cases c19 : 0 ≤ x11_2
                  · rw [if_pos c19] at H
                    have c19b0 := eq_true c19
                    have c19b1 : decide (0 ≤ x11_2) = true := decide_eq_true c19
                    clear c19
                    by_cases c20 : x11_2 ≤ (wrap64 (x11_2 + (ji18)))
                    · rw [if_pos c20] at H
                      have c20b0 := eq_true c20
                      have c20b1 : decide (x11_2 ≤ (wrap64 (x11_2 + (ji18)))) = true := decide_eq_true c20
                      by_cases c21 : (wrap64 (x11_2 + (ji18))) ≤ (l0.length : Int)
                      · rw [if_pos c21] at H
                        have c21b0 := eq_true c21
                        have c21b1 : decide ((wrap64 (x11_2 + (ji18))) ≤ (l0.length : Int)) = true := decide_eq_true c21
                        replace H := Option.bind_eq_some_iff.mp H
                        obtain ⟨⟨t300, t303, t304, t305, t306, t307⟩, A220, H⟩ := H
                        replace H : (if x10_2.length + t300.length < 5864062014805 then (umpirelaw07_FrameChunks.l0 k2 l0 l1 a2 a3 (x10_2 ++ t300) (wrap64 (x11_2 + (ji18))) (wrap64 (x12_2 + 1))) else (none)) = some r := H
                        have A22 := Aside0.mk A220
                        clear A220
                        by_cases c23 : x10_2.length + t300.length < 5864062014805
                        · rw [if_pos c23] at H
                          have LMc23 := Aside0.mk c23
                          clear c23
                          obtain ⟨y308, hy308⟩ : ∃ y_ : List (List Int), y_ = (x10_2 ++ t300) := ⟨_, rfl⟩
                          replace H : (umpirelaw07_FrameChunks.l0 k2 l0 l1 a2 a3 y308 (wrap64 (x11_2 + (ji18))) (wrap64 (x12_2 + 1))) = some r := by first | (rw [hy308]; with_reducible exact H) | (have H2_ := (Option.bind_some _ _).symm.trans H; rw [hy308]; with_reducible exact H2_) | (have H2_ := (Option.bind_some _ _).symm.trans H; with_reducible exact H2_) | with_reducible exact H | (rw [hy308]; exact H) | exact H
                          have Ny308 := Aside0.mk hy308
                          clear hy308
                          have H' := Aside0.mk H
                          clear H
                          have LENN : Aside0 ((x11_2 : Int).toNat ≤ (wrap64 (x11_2 + (ji18)) : Int).toNat) := ⟨Int.toNat_le_toNat c20⟩
                          have p298 : 0 ≤ (x12_2 : Int) := of_decide_eq_true (by first | (with_reducible assumption) | assumption)
                          have q298 : x12_2 < (l1.length : Int) := of_decide_eq_true (by first | (with_reducible assumption) | assumption)
                          obtain ⟨ad298, e298, hx298_0⟩ := Kd.at_int HR1.out x12_2 p298 q298
                          cases e298
                          replace hx298_0 := (HB.out.cell (World.block_lt_of_cell? w _ hx298_0)).trans hx298_0
                          replace p298 := eq_true p298
                          replace q298 := eq_true q298
                          obtain ⟨i024, hi024, _, hsz24, _⟩ := info_parts info5
                          obtain ⟨A24, hcut24, hA24, hC24⟩ := print_mid_of (P := Try.prog) (Value.int .u8) 0 26 5 .i64 .i64 Try.underlying26 hi024 hsz24 A0 c0 l0 x11_2 (wrap64 (x11_2 + (ji18))) (of_decide_eq_true (by first | (with_reducible assumption) | assumption)) (by first | omega | exact of_decide_eq_true (by first | (with_reducible assumption) | assumption)) (of_decide_eq_true (by first | (with_reducible assumption) | assumption)) HC0.out
                          have HR299 := Aside0.mk (Kd.C_of_reads (h1 := fun _ => rfl) (hA24 _ (Kd.reads_of_C HR0.out)))
                          have HC299 := Aside0.mk hC24
                          clear hA24 hC24 hi024 hsz24
                          obtain ⟨yCN, hyCN⟩ : ∃ y_ : List Int, y_ = ((l0.take ((wrap64 (x11_2 + (ji18))) : Int).toNat).drop (x11_2 : Int).toNat) := ⟨_, rfl⟩
                          rw [← hyCN] at hcut24
                          have HRN := Aside0.mk (show Kd.C (Kd.int .u8) w A24 yCN.length yCN from by rw [hyCN]; exact HR299.out)
                          have AN := A22
                          rw [← hyCN] at AN
                          have HYN := Aside0.mk hyCN
                          clear hyCN
                          go_wp2_with (first | (go_at_call 14; (with_reducible refine (CK.feed k2 b0N pN w _ a2 a3 (l0.take (x11_2 : Int).toNat) yCN _ x10_2 t300 t303 t304 t305 t306 t307 _ _ HCK.out HRN.out AN.out).mono ?_); rintro e w25 ⟨v301, vhN, sN, rfl, hcm, hts⟩; clear HO_10 HB HCK; have HCM := Aside0.mk hcm.out; have HO_10 := Aside0.mk hcm.out.ha; have HO302 := Aside0.mk hcm.out.hb; have HB := Aside0.mk hcm.out.bel; clear hcm hts; obtain ⟨Ao27, co27, eo27⟩ := Kd.N_slice HO302.out; subst eo27) | ((with_reducible refine gate_builtin (b := .append) (xs := #[.tmp 50, .tmp 58]) rfl ?_); (try (refine gate_guard (by rfl) ?_; dsimp only)); at_builtin; refine Kd.N_append_rows (Kd.slice 5 (Kd.int .u8)) (w0 := w) w.heap.size rfl (.tmp 50) (.tmp 58) 22 26 (.slice none 0 0) 24 rfl Try.underlying22 info26 rfl (by decide) (by omega) u10 x10_2 t300 _ _ _ (fun k_ => k_ ≠ pN ∧ some k_ ≠ vhN.ownBlock) (fun k_ => (k_ ≠ pN ∧ some k_ ≠ vhN.ownBlock) ∧ some k_ ≠ (u10 : Value).ownBlock) rfl rfl ?aO ?aR (fun _ hk => hk) ?aF ?aB ?aS ?aL ?_; (case aR => exact Kd.N_F HO302.out); (case aB => exact (by repeat (first | (with_reducible first | exact HB.out | apply below_alloc | apply pw_below_drewN | apply below_drew1) | exact HB.out))); (case aF => exact fun k_ hk_ => ⟨fun e_ => by have h_ := blk_lt (HCM.out.dfi 0).blk; omega, fun e_ => by have h_ := Kd.R_lt (HCM.out.dfi 0).held k_ e_.symm; omega⟩); (case aO => exact Kd.N_mono HO_10.out (fun _ hk => hk.1)); (case aS => exact (below_size (by repeat (first | (with_reducible first | exact HB.out | apply below_alloc | apply pw_below_drewN | apply below_drew1) | exact HB.out)))); (case aL => have := LMc23.out; omega); intro v309 w26 ho hb hg hat; have nC_ := CM.grown HCM.out hg hb ho; rw [HYN.out, take_chunk _ _ _ LENN.out, ← Ny308.out] at nC_; rw [← Ny308.out] at ho; have HCK := Aside0.mk nC_; clear nC_; have n1_ := Aside0.mk hb; have n2_ := Aside0.mk (Kd.N_mono (ok' := fun _ => True) ho (fun _ _ => trivial)); clear HO302 HB HO_10 HCM; have HB := n1_; have HO310 := n2_; clear n1_ n2_; clear ho hb hg hat))
                          repeat (go_quiet (first | (go_at_call 14; (with_reducible refine (CK.feed k2 b0N pN w _ a2 a3 (l0.take (x11_2 : Int).toNat) yCN _ x10_2 t300 t303 t304 t305 t306 t307 _ _ HCK.out HRN.out AN.out).mono ?_); rintro e w25 ⟨v301, vhN, sN, rfl, hcm, hts⟩; clear HO_10 HB HCK; have HCM := Aside0.mk hcm.out; have HO_10 := Aside0.mk hcm.out.ha; have HO302 := Aside0.mk hcm.out.hb; have HB := Aside0.mk hcm.out.bel; clear hcm hts; obtain ⟨Ao27, co27, eo27⟩ := Kd.N_slice HO302.out; subst eo27) | ((with_reducible refine gate_builtin (b := .append) (xs := #[.tmp 50, .tmp 58]) rfl ?_); (try (refine gate_guard (by rfl) ?_; dsimp only)); at_builtin; refine Kd.N_append_rows (Kd.slice 5 (Kd.int .u8)) (w0 := w) w.heap.size rfl (.tmp 50) (.tmp 58) 22 26 (.slice none 0 0) 24 rfl Try.underlying22 info26 rfl (by decide) (by omega) u10 x10_2 t300 _ _ _ (fun k_ => k_ ≠ pN ∧ some k_ ≠ vhN.ownBlock) (fun k_ => (k_ ≠ pN ∧ some k_ ≠ vhN.ownBlock) ∧ some k_ ≠ (u10 : Value).ownBlock) rfl rfl ?aO ?aR (fun _ hk => hk) ?aF ?aB ?aS ?aL ?_; (case aR => exact Kd.N_F HO302.out); (case aB => exact (by repeat (first | (with_reducible first | exact HB.out | apply below_alloc | apply pw_below_drewN | apply below_drew1) | exact HB.out))); (case aF => exact fun k_ hk_ => ⟨fun e_ => by have h_ := blk_lt (HCM.out.dfi 0).blk; omega, fun e_ => by have h_ := Kd.R_lt (HCM.out.dfi 0).held k_ e_.symm; omega⟩); (case aO => exact Kd.N_mono HO_10.out (fun _ hk => hk.1)); (case aS => exact (below_size (by repeat (first | (with_reducible first | exact HB.out | apply below_alloc | apply pw_below_drewN | apply below_drew1) | exact HB.out)))); (case aL => have := LMc23.out; omega); intro v309 w26 ho hb hg hat; have nC_ := CM.grown HCM.out hg hb ho; rw [HYN.out, take_chunk _ _ _ LENN.out, ← Ny308.out] at nC_; rw [← Ny308.out] at ho; have HCK := Aside0.mk nC_; clear nC_; have n1_ := Aside0.mk hb; have n2_ := Aside0.mk (Kd.N_mono (ok' := fun _ => True) ho (fun _ _ => trivial)); clear HO302 HB HO_10 HCM; have HB := n1_; have HO310 := n2_; clear n1_ n2_; clear ho hb hg hat)); try go_wp2_with (first | (go_at_call 14; (with_reducible refine (CK.feed k2 b0N pN w _ a2 a3 (l0.take (x11_2 : Int).toNat) yCN _ x10_2 t300 t303 t304 t305 t306 t307 _ _ HCK.out HRN.out AN.out).mono ?_); rintro e w25 ⟨v301, vhN, sN, rfl, hcm, hts⟩; clear HO_10 HB HCK; have HCM := Aside0.mk hcm.out; have HO_10 := Aside0.mk hcm.out.ha; have HO302 := Aside0.mk hcm.out.hb; have HB := Aside0.mk hcm.out.bel; clear hcm hts; obtain ⟨Ao27, co27, eo27⟩ := Kd.N_slice HO302.out; subst eo27) | ((with_reducible refine gate_builtin (b := .append) (xs := #[.tmp 50, .tmp 58]) rfl ?_); (try (refine gate_guard (by rfl) ?_; dsimp only)); at_builtin; refine Kd.N_append_rows (Kd.slice 5 (Kd.int .u8)) (w0 := w) w.heap.size rfl (.tmp 50) (.tmp 58) 22 26 (.slice none 0 0) 24 rfl Try.underlying22 info26 rfl (by decide) (by omega) u10 x10_2 t300 _ _ _ (fun k_ => k_ ≠ pN ∧ some k_ ≠ vhN.ownBlock) (fun k_ => (k_ ≠ pN ∧ some k_ ≠ vhN.ownBlock) ∧ some k_ ≠ (u10 : Value).ownBlock) rfl rfl ?aO ?aR (fun _ hk => hk) ?aF ?aB ?aS ?aL ?_; (case aR => exact Kd.N_F HO302.out); (case aB => exact (by repeat (first | (with_reducible first | exact HB.out | apply below_alloc | apply pw_below_drewN | apply below_drew1) | exact HB.out))); (case aF => exact fun k_ hk_ => ⟨fun e_ => by have h_ := blk_lt (HCM.out.dfi 0).blk; omega, fun e_ => by have h_ := Kd.R_lt (HCM.out.dfi 0).held k_ e_.symm; omega⟩); (case aO => exact Kd.N_mono HO_10.out (fun _ hk => hk.1)); (case aS => exact (below_size (by repeat (first | (with_reducible first | exact HB.out | apply below_alloc | apply pw_below_drewN | apply below_drew1) | exact HB.out)))); (case aL => have := LMc23.out; omega); intro v309 w26 ho hb hg hat; have nC_ := CM.grown HCM.out hg hb ho; rw [HYN.out, take_chunk _ _ _ LENN.out, ← Ny308.out] at nC_; rw [← Ny308.out] at ho; have HCK := Aside0.mk nC_; clear nC_; have n1_ := Aside0.mk hb; have n2_ := Aside0.mk (Kd.N_mono (ok' := fun _ => True) ho (fun _ _ => trivial)); clear HO302 HB HO_10 HCM; have HB := n1_; have HO310 := n2_; clear n1_ n2_; clear ho hb hg hat)))
                          go_roundg k2
                          case measure => have := HJ4.out; have := HK2.out; omega
                          case rel => exact ⟨(y308), (wrap64 (x11_2 + (ji18))), (wrap64 (x12_2 + 1)), (by first | rfl | (simp; done) | (simp only [← hji18] <;> (first | rfl | simp)) | (simp [*]; done)), (by first | rfl | (simp; done) | (simp [*]; done)), H', ⟨by have := HJ4.out; have := HK2.out; omega⟩, ⟨by (with_reducible repeat (first | apply Kd.N_alloc | apply Kd.N_drewN | apply Kd.N_drew)); exact HO310.out⟩, ⟨by repeat (first | (with_reducible first | exact HB.out | apply below_alloc | apply pw_below_drewN | apply below_drew1) | exact HB.out)⟩, ⟨by (with_reducible repeat (first | apply CK.drewN | apply CK.drew)); exact HCK.out⟩⟩
                        · rw [if_neg c23] at H
                          exact absurd H (by simp)
                      · rw [if_neg c21] at H
                        exact absurd H (by simp)
                    · rw [if_neg c20] at H
                      exact absurd H (by simp)
                  · rw [if_neg c19] at H
                    exact absurd H (by simp)
                · rw [if_neg c17] at H
                  exact absurd H (by simp)
              · rw [if_neg c16] at H
                have c16b0 : decide (x12_2 < (l1.length : Int)) = false := decide_eq_false c16
                clear c16
                by_cases c28 : 0 ≤ x11_2
                · rw [if_pos c28] at H
                  have c28b0 := eq_true c28
                  have c28b1 : decide (0 ≤ x11_2) = true := decide_eq_true c28
                  clear c28
                  by_cases c29 : x11_2 ≤ (l0.length : Int)
                  · rw [if_pos c29] at H
                    have c29b0 := eq_true c29
                    have c29b1 : decide (x11_2 ≤ (l0.length : Int)) = true := decide_eq_true c29
                    clear c29
                    replace H := Option.bind_eq_some_iff.mp H
                    obtain ⟨⟨t312, t315, t316, t317, t318, t319⟩, A300, H⟩ := H
                    replace H : (if x10_2.length + t312.length < 5864062014805 then ((frame_All.f k2 l0 a2 a3).bind fun bt323 => ((umpireref07_Same.f k2 (x10_2 ++ t312) bt323.1).bind fun t332 => (if t332 = true then (some (t315 == bt323.2.1 && (t316 == bt323.2.2.1 && (t317 == bt323.2.2.2.1 && (t318 == bt323.2.2.2.2.1 && (t319 == bt323.2.2.2.2.2)))))) else (none)))) else (none)) = some r := H
                    have A30 := Aside0.mk A300
                    clear A300
                    by_cases c31 : x10_2.length + t312.length < 5864062014805
                    · rw [if_pos c31] at H
                      have LMc31 := Aside0.mk c31
                      clear c31
                      obtain ⟨y320, hy320⟩ : ∃ y_ : List (List Int), y_ = (x10_2 ++ t312) := ⟨_, rfl⟩
                      replace H : ((frame_All.f k2 l0 a2 a3).bind fun bt323 => ((umpireref07_Same.f k2 y320 bt323.1).bind fun t332 => (if t332 = true then (some (t315 == bt323.2.1 && (t316 == bt323.2.2.1 && (t317 == bt323.2.2.2.1 && (t318 == bt323.2.2.2.2.1 && (t319 == bt323.2.2.2.2.2)))))) else (none)))) = some r := by first | (rw [hy320]; with_reducible exact H) | (have H2_ := (Option.bind_some _ _).symm.trans H; rw [hy320]; with_reducible exact H2_) | (have H2_ := (Option.bind_some _ _).symm.trans H; with_reducible exact H2_) | with_reducible exact H | (rw [hy320]; exact H) | exact H
                      have Ny320 := Aside0.mk hy320
                      clear hy320
                      replace H := Option.bind_eq_some_iff.mp H
                      obtain ⟨⟨t323, t326, t327, t328, t329, t330⟩, A320, H⟩ := H
                      replace H : ((umpireref07_Same.f k2 y320 t323).bind fun t332 => (if t332 = true then (some (t315 == t326 && (t316 == t327 && (t317 == t328 && (t318 == t329 && (t319 == t330)))))) else (none))) = some r := H
                      have A32 := Aside0.mk A320
                      clear A320
                      replace H := Option.bind_eq_some_iff.mp H
                      obtain ⟨t332, A330, H⟩ := H
                      replace H : (if t332 = true then (some (t315 == t326 && (t316 == t327 && (t317 == t328 && (t318 == t329 && (t319 == t330)))))) else (none)) = some r := H
                      have A33 := Aside0.mk A330
                      clear A330
                      by_cases c34 : t332 = true
                      · subst c34
                        have H1 : (some (t315 == t326 && (t316 == t327 && (t317 == t328 && (t318 == t329 && (t319 == t330)))))) = some r := by rw [if_pos rfl] at H; exact H
                        clear H
                        have H := H1
                        clear H1
                        obtain rfl := Option.some.inj H
                        obtain ⟨i035, hi035, _, hsz35, _⟩ := info_parts info5
                        obtain ⟨A35, hcut35, hA35, hC35⟩ := print_drop_of (P := Try.prog) (Value.int .u8) 0 26 5 .i64 Try.underlying26 hi035 hsz35 A0 c0 l0 x11_2 (of_decide_eq_true (by first | (with_reducible assumption) | assumption)) (of_decide_eq_true (by first | (with_reducible assumption) | assumption)) HC0.out
                        have HR311 := Aside0.mk (Kd.C_of_reads (h1 := fun _ => rfl) (hA35 _ (Kd.reads_of_C HR0.out)))
                        have HC311 := Aside0.mk hC35
                        clear hA35 hC35 hi035 hsz35
                        obtain ⟨yCN, hyCN⟩ : ∃ y_ : List Int, y_ = (l0.drop (x11_2 : Int).toNat) := ⟨_, rfl⟩
                        rw [← hyCN] at hcut35
                        have HRN := Aside0.mk (show Kd.C (Kd.int .u8) w A35 yCN.length yCN from by rw [hyCN]; exact HR311.out)
                        have AN := A30
                        rw [← hyCN] at AN
                        have HYN := Aside0.mk hyCN
                        clear hyCN
                        go_wp2_with (first | (go_at_call 14; (with_reducible refine (CK.feed k2 b0N pN w _ a2 a3 (l0.take (x11_2 : Int).toNat) yCN _ x10_2 t312 t315 t316 t317 t318 t319 _ _ HCK.out HRN.out AN.out).mono ?_); rintro e w36 ⟨v313, vhN, sN, rfl, hcm, hts⟩; clear HO_10 HB HCK; have HTS := Aside0.mk hts.out; have HCM := Aside0.mk hcm.out; have HO_10 := Aside0.mk hcm.out.ha; have HO314 := Aside0.mk hcm.out.hb; have HB := Aside0.mk hcm.out.bel; clear hcm hts; obtain ⟨Ao38, co38, eo38⟩ := Kd.N_slice HO314.out; subst eo38) | ((with_reducible refine gate_builtin (b := .append) (xs := #[.tmp 63, .tmp 68]) rfl ?_); (try (refine gate_guard (by rfl) ?_; dsimp only)); at_builtin; refine Kd.N_append_rows (Kd.slice 5 (Kd.int .u8)) (w0 := w) w.heap.size rfl (.tmp 63) (.tmp 68) 22 26 (.slice none 0 0) 24 rfl Try.underlying22 info26 rfl (by decide) (by omega) u10 x10_2 t312 _ _ _ (fun k_ => k_ ≠ pN ∧ some k_ ≠ vhN.ownBlock) (fun k_ => (k_ ≠ pN ∧ some k_ ≠ vhN.ownBlock) ∧ some k_ ≠ (u10 : Value).ownBlock) rfl rfl ?aO ?aR (fun _ hk => hk) ?aF ?aB ?aS ?aL ?_; (case aR => exact Kd.N_F HO314.out); (case aB => exact (by repeat (first | (with_reducible first | exact HB.out | apply below_alloc | apply pw_below_drewN | apply below_drew1) | exact HB.out))); (case aF => exact fun k_ hk_ => ⟨fun e_ => by have h_ := blk_lt (HCM.out.dfi 0).blk; omega, fun e_ => by have h_ := Kd.R_lt (HCM.out.dfi 0).held k_ e_.symm; omega⟩); (case aO => exact Kd.N_mono HO_10.out (fun _ hk => hk.1)); (case aS => exact (below_size (by repeat (first | (with_reducible first | exact HB.out | apply below_alloc | apply pw_below_drewN | apply below_drew1) | exact HB.out)))); (case aL => have := LMc31.out; omega); intro v321 w37 ho hb hg hat; have HT := Aside0.mk (CM.dfi_grown HCM.out hg 0); rw [← Ny320.out] at ho; have n0_ := Aside0.mk (Kd.N_afterv (ok := (fun _ => True)) (Kd.N_mono HO314.out (fun _ hk => ⟨trivial, hk.2⟩)) hg hat); have n1_ := Aside0.mk hb; have n2_ := Aside0.mk (Kd.N_mono (ok' := fun _ => True) ho (fun _ _ => trivial)); clear HO314 HB HO_10 HCM; have HO314 := n0_; clear n0_; have HB := n1_; have HO322 := n2_; clear n1_ n2_; clear ho hb hg hat) | (go_at_call 15; (with_reducible refine (frame_All.calls k2 _ _ l0 a2 a3 t323 t326 t327 t328 t329 t330 _ ?side1 ?side2 A32.out).mono ?_); (case side1 => repeat (first | exact (Kd.C_below HR0.out HB.out) | (with_reducible refine Kd.C_alloc ?_ _) | (with_reducible refine Kd.C_drewN ?_ _) | (with_reducible refine Kd.C_drew ?_))); (case side2 => exact HC0.out); rintro e w39 ⟨v324, rfl, ho0, hb⟩; have nT_ := Aside0.mk (DFI.below (by (with_reducible repeat (apply DFI.drewN)); exact HT.out) hb); clear HT; have HT := nT_; clear nT_; have n0_ := Aside0.mk (Kd.N_elder' (by (with_reducible repeat (first | apply Kd.N_alloc | apply Kd.N_drewN | apply Kd.N_drew)); exact HO314.out) (by first | exact Kd.N_base ho0 | exact Kd.N_base (Kd.S_N (Kd.S_bound ho0)) | exact Kd.R_base ho0 | exact Kd.S_base ho0) hb); have n1_ := Aside0.mk (Kd.N_elder' (by (with_reducible repeat (first | apply Kd.N_alloc | apply Kd.N_drewN | apply Kd.N_drew)); exact HO322.out) (by first | exact Kd.N_base ho0 | exact Kd.N_base (Kd.S_N (Kd.S_bound ho0)) | exact Kd.R_base ho0 | exact Kd.S_base ho0) hb); have n2_ := Aside0.mk (Kd.N_lower (Kd.N_mono (ok' := fun k_ => some k_ ≠ (.slice Ao38 t312.length co38 : Value).ownBlock ∧ some k_ ≠ (v321 : Value).ownBlock) (Kd.S_N (Kd.S_bound ho0)) (fun k_ hk_ => ⟨(Kd.fresh' (Kd.N_lt (by (with_reducible repeat (first | apply Kd.N_alloc | apply Kd.N_drewN | apply Kd.N_drew)); exact HO314.out)) k_ hk_.2.1), (Kd.fresh' (Kd.N_lt (by (with_reducible repeat (first | apply Kd.N_alloc | apply Kd.N_drewN | apply Kd.N_drew)); exact HO322.out)) k_ hk_.2.1)⟩)) (below_size (by repeat (first | (with_reducible first | exact HB.out | apply below_alloc | apply pw_below_drewN | apply below_drew1) | exact HB.out)))); have n3_ := Aside0.mk (below_step (by repeat (first | (with_reducible first | exact HB.out | apply below_alloc | apply pw_below_drewN | apply below_drew1) | exact HB.out)) hb); clear HO314; clear HO322; clear HB; have HO314 := n0_; have HO322 := n1_; have HO325 := n2_; have HB := n3_; clear n0_ n1_ n2_ n3_; (try clear hb); (try clear hb2); (try clear hk); (try clear hi); (try clear ho0)) | ((with_reducible refine gate_dst (N := 15) rfl ?_); (try (refine gate_guard (by rfl) ?_; dsimp only)); refine box_event ?hg (N := 15) ?hd (cs := #[.int .i64 0, .int .i64 0, .int .i64 0, .int .i64 0, .int .i64 0]) (t := 40) ?hr ?_; (case hd => rfl); (case hg => rfl); (case hr => first | (go_simp; done) | (go_simp; rfl)); intro gb331 hg w40 hbox hb; have nT_ := Aside0.mk (DFI.below (by (with_reducible repeat (apply DFI.drewN)); exact HT.out) hb); clear HT; have HT := nT_; clear nT_; have n0_ := Aside0.mk (Kd.N_below (Kd.N_elderB (by (with_reducible repeat (first | apply Kd.N_alloc | apply Kd.N_drewN | apply Kd.N_drew)); exact HO314.out) gb331 (Nat.le_of_eq hg.symm)) hb); have n1_ := Aside0.mk (Kd.N_below (Kd.N_elderB (by (with_reducible repeat (first | apply Kd.N_alloc | apply Kd.N_drewN | apply Kd.N_drew)); exact HO322.out) gb331 (Nat.le_of_eq hg.symm)) hb); have n2_ := Aside0.mk (Kd.N_below (Kd.N_elderB (by (with_reducible repeat (first | apply Kd.N_alloc | apply Kd.N_drewN | apply Kd.N_drew)); exact HO325.out) gb331 (Nat.le_of_eq hg.symm)) hb); have n3_ := Aside0.mk (below_step (by repeat (first | (with_reducible first | exact HB.out | apply below_alloc | apply pw_below_drewN | apply below_drew1) | exact HB.out)) hb); have n4_ := Aside0.mk (hbox); have n5_ := Aside0.mk ((by rw [hg]; exact (below_size (by repeat (first | (with_reducible first | exact HB.out | apply below_alloc | apply pw_below_drewN | apply below_drew1) | exact HB.out))) : w.heap.size ≤ gb331)); have n6_ := Aside0.mk ((by rw [hg]; exact (below_size (by repeat (first | (with_reducible first | exact HB.out | apply below_alloc | apply pw_below_drewN | apply below_drew1) | exact HB.out))) : w.heap.size ≤ gb331)); clear HO314; clear HO322; clear HO325; clear HB; have HO314 := n0_; have HO322 := n1_; have HO325 := n2_; have HB := n3_; have BK331 := n4_; have GW331 := n5_; have GE331 := n6_; clear n0_ n1_ n2_ n3_ n4_ n5_ n6_; clear hb hbox hg; have hcz41_0 : w40.cell? ⟨gb331, 0, none⟩ = some (.int .i64 0) := (blk_cell BK331.out 0).trans rfl; have hcz41_1 : w40.cell? ⟨gb331, 1, none⟩ = some (.int .i64 0) := (blk_cell BK331.out 1).trans rfl; have hcz41_2 : w40.cell? ⟨gb331, 2, none⟩ = some (.int .i64 0) := (blk_cell BK331.out 2).trans rfl; have hcz41_3 : w40.cell? ⟨gb331, 3, none⟩ = some (.int .i64 0) := (blk_cell BK331.out 3).trans rfl; have hcz41_4 : w40.cell? ⟨gb331, 4, none⟩ = some (.int .i64 0) := (blk_cell BK331.out 4).trans rfl; have hfz41_0 := blk_frozen BK331.out 0; have hfz41_1 := blk_frozen BK331.out 1; have hfz41_2 := blk_frozen BK331.out 2; have hfz41_3 := blk_frozen BK331.out 3; have hfz41_4 := blk_frozen BK331.out 4; obtain ⟨Ao42, co42, eo42⟩ := Kd.N_slice HO322.out; subst eo42; obtain ⟨Ao43, co43, eo43⟩ := Kd.N_slice HO325.out; subst eo43))
                        have hC1 : Aside0 (Kd.C (Kd.slice 5 (Kd.int .u8)) (((((w40.setCell ⟨gb331, 0, none⟩ (.int .i64 t326)).setCell ⟨gb331, 1, none⟩ (.int .i64 t327)).setCell ⟨gb331, 2, none⟩ (.int .i64 t328)).setCell ⟨gb331, 3, none⟩ (.int .i64 t329)).setCell ⟨gb331, 4, none⟩ (.int .i64 t330)) Ao42 y320.length y320) := ⟨by refine (Kd.N_reads' (e := 26) (base := w.heap.size) (ok := fun k_ => ((True ∧ some k_ ≠ (.slice Ao43 t323.length co43 : Value).ownBlock) ∧ k_ ≠ gb331)) (n := y320.length) (c := co42) ?_).2.2; exact (by (with_reducible repeat (first | apply Kd.N_alloc | apply Kd.N_drewN | apply Kd.N_drew)); exact (Kd.N_mono (Kd.N_far (p := ⟨gb331, 4, none⟩) (Kd.N_far (p := ⟨gb331, 3, none⟩) (Kd.N_far (p := ⟨gb331, 2, none⟩) (Kd.N_far (p := ⟨gb331, 1, none⟩) (Kd.N_far (p := ⟨gb331, 0, none⟩) (Kd.N_mono HO322.out (fun k_ hk => (⟨hk, hk.2⟩ : _ ∧ k_ ≠ gb331))) (fun _ hk => hk.2) (.int .i64 t326)) (fun _ hk => hk.2) (.int .i64 t327)) (fun _ hk => hk.2) (.int .i64 t328)) (fun _ hk => hk.2) (.int .i64 t329)) (fun _ hk => hk.2) (.int .i64 t330)) (fun _ h_ => h_.1)))⟩
                        have hC2 : Aside0 (Kd.C (Kd.slice 5 (Kd.int .u8)) (((((w40.setCell ⟨gb331, 0, none⟩ (.int .i64 t326)).setCell ⟨gb331, 1, none⟩ (.int .i64 t327)).setCell ⟨gb331, 2, none⟩ (.int .i64 t328)).setCell ⟨gb331, 3, none⟩ (.int .i64 t329)).setCell ⟨gb331, 4, none⟩ (.int .i64 t330)) Ao43 t323.length t323) := ⟨by refine (Kd.N_reads' (e := 26) (base := w.heap.size) (ok := fun k_ => ((some k_ ≠ (.slice Ao38 t312.length co38 : Value).ownBlock ∧ some k_ ≠ (.slice Ao42 y320.length co42 : Value).ownBlock) ∧ k_ ≠ gb331)) (n := t323.length) (c := co43) ?_).2.2; exact (by (with_reducible repeat (first | apply Kd.N_alloc | apply Kd.N_drewN | apply Kd.N_drew)); exact (Kd.N_mono (Kd.N_far (p := ⟨gb331, 4, none⟩) (Kd.N_far (p := ⟨gb331, 3, none⟩) (Kd.N_far (p := ⟨gb331, 2, none⟩) (Kd.N_far (p := ⟨gb331, 1, none⟩) (Kd.N_far (p := ⟨gb331, 0, none⟩) (Kd.N_mono HO325.out (fun k_ hk => (⟨hk, hk.2⟩ : _ ∧ k_ ≠ gb331))) (fun _ hk => hk.2) (.int .i64 t326)) (fun _ hk => hk.2) (.int .i64 t327)) (fun _ hk => hk.2) (.int .i64 t328)) (fun _ hk => hk.2) (.int .i64 t329)) (fun _ hk => hk.2) (.int .i64 t330)) (fun _ h_ => h_.1)))⟩
                        have hT5 : Aside0 (DFI b0N 0 (((((w40.setCell ⟨gb331, 0, none⟩ (.int .i64 t326)).setCell ⟨gb331, 1, none⟩ (.int .i64 t327)).setCell ⟨gb331, 2, none⟩ (.int .i64 t328)).setCell ⟨gb331, 3, none⟩ (.int .i64 t329)).setCell ⟨gb331, 4, none⟩ (.int .i64 t330)) pN vhN (.slice none 0 0) a2 a3 sN) := ⟨(DFI.far (DFI.far (DFI.far (DFI.far (DFI.far HT.out BK331.out 0 (.int .i64 t326)) (blk_set BK331.out 0 (.int .i64 t326)) 1 (.int .i64 t327)) (blk_set (blk_set BK331.out 0 (.int .i64 t326)) 1 (.int .i64 t327)) 2 (.int .i64 t328)) (blk_set (blk_set (blk_set BK331.out 0 (.int .i64 t326)) 1 (.int .i64 t327)) 2 (.int .i64 t328)) 3 (.int .i64 t329)) (blk_set (blk_set (blk_set (blk_set BK331.out 0 (.int .i64 t326)) 1 (.int .i64 t327)) 2 (.int .i64 t328)) 3 (.int .i64 t329)) 4 (.int .i64 t330))⟩
                        have hB5 : Aside0 (Below w.heap.size w (((((w40.setCell ⟨gb331, 0, none⟩ (.int .i64 t326)).setCell ⟨gb331, 1, none⟩ (.int .i64 t327)).setCell ⟨gb331, 2, none⟩ (.int .i64 t328)).setCell ⟨gb331, 3, none⟩ (.int .i64 t329)).setCell ⟨gb331, 4, none⟩ (.int .i64 t330))) := ⟨(below_set (below_set (below_set (below_set (below_set HB.out GE331.out) GE331.out) GE331.out) GE331.out) GE331.out)⟩
                        have hK5 : Aside0 ((((((w40.setCell ⟨gb331, 0, none⟩ (.int .i64 t326)).setCell ⟨gb331, 1, none⟩ (.int .i64 t327)).setCell ⟨gb331, 2, none⟩ (.int .i64 t328)).setCell ⟨gb331, 3, none⟩ (.int .i64 t329)).setCell ⟨gb331, 4, none⟩ (.int .i64 t330)).heap[gb331]? = some (.cells #[.int .i64 t326, .int .i64 t327, .int .i64 t328, .int .i64 t329, .int .i64 t330] 40 (0, 0))) := ⟨(blk_set (blk_set (blk_set (blk_set (blk_set BK331.out 0 (.int .i64 t326)) 1 (.int .i64 t327)) 2 (.int .i64 t328)) 3 (.int .i64 t329)) 4 (.int .i64 t330))⟩
                        have hL1 := Aside0.mk (Kd.N_reads' HO322.out).2.1
                        have hL2 := Aside0.mk (Kd.N_reads' HO325.out).2.1
                        obtain ⟨z1, z2, z3, z4, z5⟩ := HTS.out
                        have HZ : Aside0 ((Value.agg #[.int .i64 sN.tg, .int .i64 sN.ta, .int .i64 sN.ts, .int .i64 sN.tl, .int .i64 sN.tw]) = .agg #[.int .i64 t315, .int .i64 t316, .int .i64 t317, .int .i64 t318, .int .i64 t319]) := ⟨by rw [z1, z2, z3, z4, z5]⟩
                        clear z1 z2 z3 z4 z5 HTS
                        generalize (((((w40.setCell ⟨gb331, 0, none⟩ (.int .i64 t326)).setCell ⟨gb331, 1, none⟩ (.int .i64 t327)).setCell ⟨gb331, 2, none⟩ (.int .i64 t328)).setCell ⟨gb331, 3, none⟩ (.int .i64 t329)).setCell ⟨gb331, 4, none⟩ (.int .i64 t330)) = w5 at hC1 hC2 hT5 hB5 hK5 ⊢
                        clear hcz41_0 hfz41_0 hcz41_1 hfz41_1 hcz41_2 hfz41_2 hcz41_3 hfz41_3 hcz41_4 hfz41_4
                        have hs5 : w5.cell? ⟨gb331, 0, none⟩ = some (.int .i64 t326) ∧ w5.cell? ⟨gb331, 1, none⟩ = some (.int .i64 t327) ∧ w5.cell? ⟨gb331, 2, none⟩ = some (.int .i64 t328) ∧ w5.cell? ⟨gb331, 3, none⟩ = some (.int .i64 t329) ∧ w5.cell? ⟨gb331, 4, none⟩ = some (.int .i64 t330) := ⟨(blk_cell hK5.out 0).trans rfl, (blk_cell hK5.out 1).trans rfl, (blk_cell hK5.out 2).trans rfl, (blk_cell hK5.out 3).trans rfl, (blk_cell hK5.out 4).trans rfl⟩
                        have hs6 : w5.drew.cell? ⟨gb331, 0, none⟩ = some (.int .i64 t326) ∧ w5.drew.cell? ⟨gb331, 1, none⟩ = some (.int .i64 t327) ∧ w5.drew.cell? ⟨gb331, 2, none⟩ = some (.int .i64 t328) ∧ w5.drew.cell? ⟨gb331, 3, none⟩ = some (.int .i64 t329) ∧ w5.drew.cell? ⟨gb331, 4, none⟩ = some (.int .i64 t330) := ⟨(blk_cell (blk_drew hK5.out) 0).trans rfl, (blk_cell (blk_drew hK5.out) 1).trans rfl, (blk_cell (blk_drew hK5.out) 2).trans rfl, (blk_cell (blk_drew hK5.out) 3).trans rfl, (blk_cell (blk_drew hK5.out) 4).trans rfl⟩
                        go_region_held (fun w' => w'.cell? ⟨gb331, 0, none⟩ = some (.int .i64 t326) ∧ w'.cell? ⟨gb331, 1, none⟩ = some (.int .i64 t327) ∧ w'.cell? ⟨gb331, 2, none⟩ = some (.int .i64 t328) ∧ w'.cell? ⟨gb331, 3, none⟩ = some (.int .i64 t329) ∧ w'.cell? ⟨gb331, 4, none⟩ = some (.int .i64 t330)) ((first | exact hs8 | exact hs7 | exact hs6 | exact hs5)) (first | (go_at_call 16; with_reducible refine (umpireref07_Same.calls k2 Ao42 co42 y320 Ao43 co43 t323 true _ (Kd.C_drew hC1.out) hL1.out (Kd.C_drew hC2.out) hL2.out A33.out).mono ?_; rintro e w6 ⟨rfl, ⟨nd, rfl⟩⟩; have hs7 : (w5.drewN (1 + nd)).cell? ⟨gb331, 0, none⟩ = some (.int .i64 t326) ∧ (w5.drewN (1 + nd)).cell? ⟨gb331, 1, none⟩ = some (.int .i64 t327) ∧ (w5.drewN (1 + nd)).cell? ⟨gb331, 2, none⟩ = some (.int .i64 t328) ∧ (w5.drewN (1 + nd)).cell? ⟨gb331, 3, none⟩ = some (.int .i64 t329) ∧ (w5.drewN (1 + nd)).cell? ⟨gb331, 4, none⟩ = some (.int .i64 t330) := ⟨(blk_cell (blk_drewN hK5.out (1 + nd)) 0).trans rfl, (blk_cell (blk_drewN hK5.out (1 + nd)) 1).trans rfl, (blk_cell (blk_drewN hK5.out (1 + nd)) 2).trans rfl, (blk_cell (blk_drewN hK5.out (1 + nd)) 3).trans rfl, (blk_cell (blk_drewN hK5.out (1 + nd)) 4).trans rfl⟩) | (go_at_call 17; with_reducible refine (frame_Deframer_Tally.calls _ 0 pN vhN _ a2 a3 sN _ (DFI.drewN hT5.out (1 + nd))).mono ?_; rintro e w7 ⟨he, ⟨hb7⟩⟩; rw [HZ.out] at he; subst he; have HB := Aside0.mk (below_step (pw_below_drewN hB5.out (1 + nd)) hb7); have hs8 : w7.cell? ⟨gb331, 0, none⟩ = some (.int .i64 t326) ∧ w7.cell? ⟨gb331, 1, none⟩ = some (.int .i64 t327) ∧ w7.cell? ⟨gb331, 2, none⟩ = some (.int .i64 t328) ∧ w7.cell? ⟨gb331, 3, none⟩ = some (.int .i64 t329) ∧ w7.cell? ⟨gb331, 4, none⟩ = some (.int .i64 t330) := ⟨(blk_cell (blk_below (blk_drewN hK5.out (1 + nd)) hb7) 0).trans rfl, (blk_cell (blk_below (blk_drewN hK5.out (1 + nd)) hb7) 1).trans rfl, (blk_cell (blk_below (blk_drewN hK5.out (1 + nd)) hb7) 2).trans rfl, (blk_cell (blk_below (blk_drewN hK5.out (1 + nd)) hb7) 3).trans rfl, (blk_cell (blk_below (blk_drewN hK5.out (1 + nd)) hb7) 4).trans rfl⟩; clear hb7))
                        all_goals go_wp2
                        go_ret
                        exact ⟨by first | rfl | (simp [errW_none, errW_some] <;> rfl) | (simp [*, errW_none, errW_some] <;> rfl), by repeat (first | (with_reducible first | exact HB.out | apply below_alloc | apply pw_below_drewN | apply below_drew1 | refine below_set ?_ GE331.out) | exact HB.out)⟩
                      · replace c34 := Bool.eq_false_iff.mpr c34
                        subst c34
                        have H1 : (none) = some r := by rw [if_neg (show ¬ (false = true) by decide)] at H; exact H
                        clear H
                        have H := H1
                        clear H1
                        exact absurd H (by simp)
                    · rw [if_neg c31] at H
                      exact absurd H (by simp)
                  · rw [if_neg c29] at H
                    exact absurd H (by simp)
                · rw [if_neg c28] at H
                  exact absurd H (by simp)

/-- THE ONE PURE STATEMENT of umpirelaw07_FrameChunks: yours. -/
def umpirelaw07_FrameChunks.Pure : Prop := ∀ (l0 : List Int) (l1 : List Int) (a2 : Int) (a3 : Bool), l0.length ≤ maxLen → l0.length * 1 ≤ 140737488351232 → (∀ x ∈ l0, (Lit.int .u8 x).wf = true) → l1.length ≤ maxLen → l1.length * 2 ≤ 140737488351232 → (∀ x ∈ l1, (Lit.int .u16 x).wf = true) → (Lit.int .u32 a2).wf = true → ∃ k, umpirelaw07_FrameChunks.f k l0 l1 a2 a3 = some true
theorem umpirelaw07_FrameChunks.walk (P : umpirelaw07_FrameChunks.Pure) (a0 : Option Addr) (len0 cap0 : Nat) (z0 : List Int) (a1 : Option Addr) (len1 cap1 : Nat) (z1 : List Int) (a2 : Int) (a3 : Bool) (w : World) (w0 : (a0 = none ∧ len0 = 0 ∧ cap0 = 0 ∧ z0 = []) ∨ ∃ x, a0 = some x ∧ len0 ≤ cap0 ∧ cap0 ≤ maxLen ∧ z0.length = cap0 ∧ (∀ i, i < z0.length → w.cell? (x.add i) = some (.int .u8 (z0.getD i 0))) ∧ ∀ n ∈ z0, (Lit.int .u8 n).wf = true) (y0 : len0 * 1 ≤ 140737488351232) (w1 : (a1 = none ∧ len1 = 0 ∧ cap1 = 0 ∧ z1 = []) ∨ ∃ x, a1 = some x ∧ len1 ≤ cap1 ∧ cap1 ≤ maxLen ∧ z1.length = cap1 ∧ (∀ i, i < z1.length → w.cell? (x.add i) = some (.int .u16 (z1.getD i 0))) ∧ ∀ n ∈ z1, (Lit.int .u16 n).wf = true) (y1 : len1 * 2 ≤ 140737488351232) (w2 : (Lit.int .u32 a2).wf = true) :
    Calls Try.prog 4 #[.slice a0 len0 cap0, .slice a1 len1 cap1, .int .u32 a2, .bool a3] w fun e w' => e = .returned (.bool true) ∧ Below w.heap.size w w' := by
  obtain ⟨l0, rfl, hr0, hm0, hw0, hc0⟩ := ReadsInt.ofRowC w0
  obtain ⟨l1, rfl, hr1, hm1, hw1, hc1⟩ := ReadsInt.ofRowC w1
  obtain ⟨k, h⟩ := P l0 l1 a2 a3 hm0 y0 hw0 hm1 y1 hw1 w2
  refine (umpirelaw07_FrameChunks.calls k _ _ l0 _ _ l1 a2 a3 true w (Kd.C_of_reads (d := (0 : Int)) (h1 := fun _ => rfl) hr0) hc0 (Kd.C_of_reads (d := (0 : Int)) (h1 := fun _ => rfl) hr1) hc1 h).mono ?_
  rintro e w' ⟨rfl, hd⟩
  exact ⟨rfl, hd⟩

end Go.Proofs.Ytgnonglkibhnhaa.Print
