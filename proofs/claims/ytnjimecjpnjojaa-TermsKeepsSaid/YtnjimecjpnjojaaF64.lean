-- laid by this session's own program (wip/mkprint.sh) for this claim
import Derived.Test.Ytnjimecjpnjojaa0
import Derived.Test.YtnjimecjpnjojaaF53
namespace Go.Proofs.Ytnjimecjpnjojaa.Print
open Go.RowKit Go.Proofs.YtnjimecjpnjojaaW.PrintWords Go.Proofs.YtnjimecjpnjojaaW.PrintLast Go.Proofs.YtnjimecjpnjojaaW.PrintMore
attribute [local go_sem] max2_int min2_int max_two min_two max_three min_three max_four min_four   -- for this text's walks alone
set_option linter.unusedVariables false
set_option linter.unusedSimpArgs false

/-! ### terms_instead: function 64 -/
def terms_instead.rh (v : Value) : Option (DataW Value × List MemPlace) := some (.held v, [])
/-- What an option of a type is to be changed to: its bytes. -/
def terms_instead.bytes (a : Int) : List Int := if a = 5 then [0, 0, 0, 1] else if a = 4 then [192, 37] else if a = 3 then [192, 35] else if a = 2 then [0, 0, 0, 0] else if a = 1 then [5, 220] else []
def terms_instead.look : List (Int × Nat × List Int) → Int → Value
  | [], _ => .slice none 0 0
  | (k, g, bs) :: D, a => if a = k then .slice (some ⟨g, 0, none⟩) bs.length bs.length else terms_instead.look D a
def terms_instead.byt : List (Int × Nat × List Int) → Int → List Int
  | [], _ => []
  | (k, _, bs) :: D, a => if a = k then bs else terms_instead.byt D a
/-- A map of rows. -/
structure terms_instead.Rows (w W : World) (gm n : Nat) (D : List (Int × Nat × List Int)) : Prop where
  hm : MapIs Try.prog 3 terms_instead.rh (.held (.slice none 0 0)) W gm n (fun a => .held (terms_instead.look D a))
  hb : Below w.heap.size w W
  lm : w.heap.size ≤ gm
  hr : ∀ e ∈ D, Kd.R (Kd.int .u8) 5 W w.heap.size (fun k => k ≠ gm) (.slice (some ⟨e.2.1, 0, none⟩) e.2.2.length e.2.2.length) e.2.2
theorem terms_instead.Rows.made {w W : World} (hb : Below w.heap.size w W) : terms_instead.Rows w (W.alloc (.map #[] 0)) W.heap.size 0 [] :=
  ⟨MapIs.made W Try.prog 3 terms_instead.rh _, below_alloc hb _, below_size hb, fun _ h => by cases h⟩
theorem terms_instead.Rows.step {w W : World} {gm n : Nat} {D : List (Int × Nat × List Int)} (h : terms_instead.Rows w W gm n D) (hn : n < 100) (key : Int) (hk : (Lit.int .i64 key).wf = true) (bs : List Int) (hbs : bs.length < 100) (cs : Array Value) (hcs : cs = (encs (Value.int .u8) bs).toArray) (s m : Nat) (hs : W.heap.size = s) (hm : bs.length = m) :
    ∃ W2, (Instr.mapUpdate 111 (.map (some gm)) (.int .i64 key) (.slice (some ⟨s, 0, none⟩) m m)).run Try.prog (W.alloc (.cells cs 5)) = .ok () W2 ∧ terms_instead.Rows w W2 gm (n + 1) ((key, s, bs) :: D) ∧ (W.alloc (.cells cs 5)).grownBy W2 (some gm) := by
  subst hcs hs hm
  have h1 : MapIs Try.prog 3 terms_instead.rh (.held (.slice none 0 0)) (W.alloc (.cells (encs (Value.int .u8) bs).toArray 5)) gm n _ := MapIs.below h.hm (below_alloc (Below.refl _ _) _)
  obtain ⟨W2, hr, h2, hg⟩ := MapIs.put h1 Try.underlying3 Try.underlying111 (by unfold maxLen; omega) key hk (v := .slice (some ⟨W.heap.size, 0, none⟩) bs.length bs.length) rfl
  have hb1 : Below w.heap.size w (W.alloc (.cells (encs (Value.int .u8) bs).toArray 5)) := below_alloc h.hb _
  refine ⟨W2, hr, ⟨?_, below_grown hb1 hg h.lm, h.lm, ?_⟩, hg⟩
  · obtain ⟨D0, ho, hf⟩ := h2.is
    refine ⟨⟨D0, ho, fun x => (hf x).trans ?_⟩⟩
    show (if x = key then _ else _) = DataW.held (if x = key then _ else _)
    split <;> rfl
  · intro e he
    have hne : gm < W.heap.size := MapIs.lt h.hm
    rcases List.mem_cons.1 he with rfl | he
    · have ho := own_lit_of (enc := Value.int .u8) W w.heap.size 5 bs (below_size h.hb) (by omega)
      exact Kd.R_grown (Kd.R_of_own (h1 := fun _ => rfl) ho (fun k hk => by simp [Value.ownBlock] at hk; omega)) hg (fun k hk => by simpa using hk)
    · exact Kd.R_grown (Kd.R_below (h.hr e he) (below_alloc (Below.refl _ _) _)) hg (fun k hk => by simpa using hk)
theorem terms_instead.Rows.get {w W : World} {gm : Nat} : ∀ {D : List (Int × Nat × List Int)} (hr : ∀ e ∈ D, Kd.R (Kd.int .u8) 5 W w.heap.size (fun k => k ≠ gm) (.slice (some ⟨e.2.1, 0, none⟩) e.2.2.length e.2.2.length) e.2.2) (a : Int),
    Kd.R (Kd.int .u8) 5 W w.heap.size (fun _ => True) (terms_instead.look D a) (terms_instead.byt D a)
  | [], _, _ => Kd.R_nil _ _ _ _ _
  | (k, g, bs) :: D, hr, a => by
    unfold terms_instead.look terms_instead.byt
    by_cases e : a = k
    · rw [if_pos e, if_pos e]
      exact Kd.R_mono (hr _ (List.mem_cons_self ..)) (fun _ _ => trivial)
    · rw [if_neg e, if_neg e]
      exact terms_instead.Rows.get (fun x hx => hr x (List.mem_cons_of_mem _ hx)) a
set_option maxRecDepth 100000 in
theorem terms_instead.Rows.lookup {w W : World} {gm n : Nat} {D : List (Int × Nat × List Int)} (h : terms_instead.Rows w W gm n D) (a : Int) (ha : (Lit.int .i64 a).wf = true) : (Instr.lookup 111 (.map (some gm)) (.int .i64 a) false).run Try.prog W = .ok (terms_instead.look D a) W := by
  obtain ⟨v, ps, h1, h2⟩ := MapIs.look h.hm Try.underlying3 Try.underlying111 (zv := .slice none 0 0) (by kernel_rfl) rfl a ha
  have hv : v = terms_instead.look D a := by
    simp only [terms_instead.rh, Option.some.injEq, Prod.mk.injEq, DataW.held.injEq] at h2
    exact h2.1
  rw [hv] at h1
  exact h1
set_option maxHeartbeats 8000000 in
set_option maxRecDepth 100000 in
theorem terms_instead.calls (a0 : Int) (w : World) (hw : (Lit.int .i64 a0).wf = true) :
    Calls Try.prog 64 #[.int .i64 a0] w fun e w' => ∃ v : Value, e = .returned (.agg #[.int .i64 a0, v]) ∧ Kd.R (Kd.int .u8) 5 w' w.heap.size (fun _ => True) v (terms_instead.bytes a0) ∧ Below w.heap.size w w' := by
  have huO := Try.underlying55
  have HWF := Aside0.mk hw
  have HW := Aside0.mk (Below.refl w.heap.size w)
  have hmm := @run_makeMap Try.prog
  clear hw
  go_enter Try.func64, Try.ntmps64
  go_upto_region 1 with (((with_reducible refine gate_dst (N := 2) rfl ?_); refine box_event ?hg (N := 2) ?hd (cs := #[.int .i64 0, .slice none 0 0]) (t := 55) ?hr ?_; (case hd => rfl); (case hg => rfl); (case hr => first | (go_simp; done) | (go_simp; rfl)); intro g2 hg w1 hbox hb; have BK2 := Aside0.mk hbox; have HB1 := Aside0.mk (below_step HW.out hb); have GE2 : Aside0 (w.heap.size ≤ g2) := ⟨by rw [hg]; exact Nat.le_refl _⟩; clear hg hbox hb HW))
  have R0 := terms_instead.Rows.made HB1.out
  have hsz : (w1.alloc (.map #[] 0)).heap.size = w1.heap.size + 1 := by simp
  have K0 := blk_alloc BK2.out (.map #[] 0)
  obtain ⟨v1, r1, R1, G1⟩ := R0.step (by decide) 1 (by decide) [5, 220] (by decide) #[.int .u8 5, .int .u8 220] rfl (w1.heap.size + 1) 2 hsz rfl
  have K1 := blk_grown (blk_alloc K0 (.cells #[.int .u8 5, .int .u8 220] 5)) G1 (by simp; exact MapIs.ne' R0.hm K0)
  obtain ⟨v2, r2, R2, G2⟩ := R1.step (by decide) 2 (by decide) [0, 0, 0, 0] (by decide) #[.int .u8 0, .int .u8 0, .int .u8 0, .int .u8 0] rfl v1.heap.size 4 rfl rfl
  have K2 := blk_grown (blk_alloc K1 (.cells #[.int .u8 0, .int .u8 0, .int .u8 0, .int .u8 0] 5)) G2 (by simp; exact MapIs.ne' R1.hm K1)
  obtain ⟨v3, r3, R3, G3⟩ := R2.step (by decide) 3 (by decide) [192, 35] (by decide) #[.int .u8 192, .int .u8 35] rfl v2.heap.size 2 rfl rfl
  have K3 := blk_grown (blk_alloc K2 (.cells #[.int .u8 192, .int .u8 35] 5)) G3 (by simp; exact MapIs.ne' R2.hm K2)
  obtain ⟨v4, r4, R4, G4⟩ := R3.step (by decide) 4 (by decide) [192, 37] (by decide) #[.int .u8 192, .int .u8 37] rfl v3.heap.size 2 rfl rfl
  have K4 := blk_grown (blk_alloc K3 (.cells #[.int .u8 192, .int .u8 37] 5)) G4 (by simp; exact MapIs.ne' R3.hm K3)
  obtain ⟨v5, r5, R5, G5⟩ := R4.step (by decide) 5 (by decide) [0, 0, 0, 1] (by decide) #[.int .u8 0, .int .u8 0, .int .u8 0, .int .u8 1] rfl v4.heap.size 4 rfl rfl
  have K5 := blk_grown (blk_alloc K4 (.cells #[.int .u8 0, .int .u8 0, .int .u8 0, .int .u8 1] 5)) G5 (by simp; exact MapIs.ne' R4.hm K4)
  have hlk := R5.lookup a0 HWF.out
  have hby : terms_instead.byt ((5, v4.heap.size, [0, 0, 0, 1]) :: ((4, v3.heap.size, [192, 37]) :: ((3, v2.heap.size, [192, 35]) :: ((2, v1.heap.size, [0, 0, 0, 0]) :: ((1, (w1.heap.size + 1), [5, 220]) :: []))))) a0 = terms_instead.bytes a0 := rfl
  have HR5 := Aside0.mk (terms_instead.Rows.get R5.hr a0)
  rw [hby] at HR5
  have HB5 := Aside0.mk R5.hb
  clear hby R0 R1 G1 R2 G2 R3 G3 R4 G4 R5 G5 hsz K0 K1 K2 K3 K4
  generalize terms_instead.look ((5, v4.heap.size, [0, 0, 0, 1]) :: ((4, v3.heap.size, [192, 37]) :: ((3, v2.heap.size, [192, 35]) :: ((2, v1.heap.size, [0, 0, 0, 0]) :: ((1, (w1.heap.size + 1), [5, 220]) :: []))))) a0 = v at hlk HR5
  obtain ⟨Av, cv, rfl⟩ := Kd.R_slice HR5.out
  have hc2_0 : v5.cell? ⟨g2, 0, none⟩ = some (.int .i64 0) := (blk_cell (Aside0.mk K5).out 0).trans rfl
  have hf2_0 := blk_frozen (Aside0.mk K5).out 0
  have hc2_1 : v5.cell? ⟨g2, 1, none⟩ = some (.slice none 0 0) := (blk_cell (Aside0.mk K5).out 1).trans rfl
  have hf2_1 := blk_frozen (Aside0.mk K5).out 1
  go_wp2_with (fail)
  have E0 := blk_put K5 0 (.int .i64 a0) (cs' := #[.int .i64 a0, .slice none 0 0]) rfl
  have E1 := blk_put E0 1 (.slice Av (terms_instead.bytes a0).length cv) (cs' := #[.int .i64 a0, .slice Av (terms_instead.bytes a0).length cv]) rfl
  have F0 := Kd.R_set HR5.out K5 (by decide) 0 (.int .i64 a0)
  have F1 := Kd.R_set F0 E0 (by decide) 1 (.slice Av (terms_instead.bytes a0).length cv)
  refine bodyPost_ret (results_single rfl (.cell g2 55 #[.int .i64 a0, .slice Av (terms_instead.bytes a0).length cv] (0, 0) _ rfl E1 Try.underlying55 rfl (by kernel_rfl) .nil)) rfl ?_
  exact ⟨_, rfl, F1, below_set (below_set HB5.out GE2.out) GE2.out⟩

end Go.Proofs.Ytnjimecjpnjojaa.Print
