-- laid by this session's own program (wip/mkprint.sh) for this claim
import Derived.Test.Ytnjimecjpnjojaa0
import Derived.Test.YtnjimecjpnjojaaF28
import Derived.Test.YtnjimecjpnjojaaF30
import Derived.Test.YtnjimecjpnjojaaF43
import Derived.Test.YtnjimecjpnjojaaF54
import Derived.Test.YtnjimecjpnjojaaF64
namespace Go.Proofs.Ytnjimecjpnjojaa.Print
open Go.RowKit Go.Proofs.YtnjimecjpnjojaaW.PrintWords Go.Proofs.YtnjimecjpnjojaaW.PrintLast Go.Proofs.YtnjimecjpnjojaaW.PrintMore
attribute [local go_sem] max2_int min2_int max_two min_two max_three min_three max_four min_four   -- for this text's walks alone
set_option linter.unusedVariables false
set_option linter.unusedSimpArgs false

/-! ### umpireref14_Bad: function 41 -/
def umpireref14_Bad.seen (k : Nat) (l : List S55) (j : Nat) (x : Int) : Option Bool := (umpireref14_Known.f x).bind fun kn => if kn = true then (umpireref12_Find.f k (l.take j) x).bind fun t => some (decide (t ≥ 0)) else some true
def umpireref14_Bad.go (k : Nat) (l : List S55) : List S55 → Nat → List S55 → List S55 → Option (List S55 × List S55)
  | [], _, a, ch => some (a, ch)
  | x :: m, j, a, ch => (umpireref14_Bad.seen k l j x.f0).bind fun s => if s = true then umpireref14_Bad.go k l m (j + 1) (a ++ [x]) ch
      else (umpireref14_Right.f k x.f0 x.f1).bind fun rt => if rt = true then umpireref14_Bad.go k l m (j + 1) a ch else umpireref14_Bad.go k l m (j + 1) a (ch ++ [(⟨x.f0, terms_instead.bytes x.f0⟩ : S55)])
def umpireref14_Bad.f (k : Nat) (l0 : List S55) : Option (List S55 × List S55) := if l0.length < 1000 then umpireref14_Bad.go k l0 l0 0 [] [] else none
theorem umpireref14_Bad.mono_seen (k : Nat) (l : List S55) (j : Nat) (x : Int) : LeO (umpireref14_Bad.seen k l j x) (umpireref14_Bad.seen (k + 1) l j x) :=
  LeO.bind (LeO.refl _) fun kn => LeO.ite (LeO.bind (umpireref12_Find.mono _ _ k) fun _ => LeO.refl _) (LeO.refl _)
theorem umpireref14_Bad.mono_go (k : Nat) (l : List S55) : ∀ (m : List S55) (j : Nat) (a ch : List S55), LeO (umpireref14_Bad.go k l m j a ch) (umpireref14_Bad.go (k + 1) l m j a ch)
  | [], _, _, _ => LeO.refl _
  | x :: m, j, a, ch => LeO.bind (umpireref14_Bad.mono_seen k l j _) fun s => LeO.ite (umpireref14_Bad.mono_go k l m _ _ _) (LeO.bind (umpireref14_Right.mono _ _ k) fun rt => LeO.ite (umpireref14_Bad.mono_go k l m _ _ _) (umpireref14_Bad.mono_go k l m _ _ _))
theorem umpireref14_Bad.mono (l0 : List S55) (k : Nat) : LeO (umpireref14_Bad.f k l0) (umpireref14_Bad.f (k + 1) l0) := by
  unfold umpireref14_Bad.f
  exact LeO.ite (umpireref14_Bad.mono_go k l0 l0 _ _ _) (LeO.refl _)
theorem umpireref14_Bad.known {k : Nat} {l : List S55} {j : Nat} {x : Int} (h : umpireref14_Bad.seen k l j x = some false) : x = 1 ∨ x = 2 ∨ x = 3 ∨ x = 4 ∨ x = 5 ∨ x = 7 ∨ x = 8 := by
  unfold umpireref14_Bad.seen at h
  obtain ⟨kn, hkn, hs⟩ := Option.bind_eq_some_iff.1 h
  clear h
  cases kn with
  | false => rw [if_neg (by decide)] at hs; exact absurd hs (by simp)
  | true =>
    clear hs
    unfold umpireref14_Known.f at hkn
    by_cases h1 : x ≥ 1
    · rw [if_pos h1] at hkn
      by_cases h2 : x ≤ 5
      · omega
      · rw [if_neg h2] at hkn
        by_cases h3 : x = 7
        · omega
        · rw [if_neg h3] at hkn
          have h4 : x = 8 := by simpa using hkn
          omega
    · rw [if_neg h1] at hkn
      by_cases h3 : x = 7
      · omega
      · rw [if_neg h3] at hkn
        have h4 : x = 8 := by simpa using hkn
        omega
theorem umpireref14_Bad.lit_at (W : World) (base : Nat) (hb : base ≤ W.heap.size) (bs : List Int) (hl : bs.length < 1000) (cs : Array Value) (hcs : cs = (encs (Value.int .u8) bs).toArray) (s m : Nat) (hs : W.heap.size = s) (hm : bs.length = m) : Kd.R (Kd.int .u8) 5 (W.alloc (.cells cs 5)) base (fun _ => True) (.slice (some ⟨s, 0, none⟩) m m) bs := by
  subst hcs hs hm
  exact Kd.R_of_own (h1 := fun _ => rfl) (own_lit_of (enc := Value.int .u8) W base 5 bs hb (by omega)) (fun _ _ => trivial)
theorem umpireref14_Bad.lit1 (W : World) (o : Obj) : Kd.R (Kd.int .u8) 5 ((((((W.alloc (.cells #[.int .u8 5, .int .u8 220] 5)).alloc (.cells #[.int .u8 0, .int .u8 0, .int .u8 0, .int .u8 0] 5)).alloc (.cells #[.int .u8 192, .int .u8 35] 5)).alloc (.cells #[.int .u8 192, .int .u8 37] 5)).alloc (.cells #[.int .u8 0, .int .u8 0, .int .u8 0, .int .u8 1] 5)).alloc o) W.heap.size (fun _ => True) (.slice (some ⟨W.heap.size, 0, none⟩) 2 2) [5, 220] :=
  Kd.R_below (umpireref14_Bad.lit_at W W.heap.size (by first | (simp; done) | (simp; omega)) [5, 220] (by decide) #[.int .u8 5, .int .u8 220] rfl _ 2 (by simp) rfl) (below_alloc (below_alloc (below_alloc (below_alloc (below_alloc (Below.refl _ _) _) _) _) _) _)
theorem umpireref14_Bad.lit2 (W : World) (o : Obj) : Kd.R (Kd.int .u8) 5 ((((((W.alloc (.cells #[.int .u8 5, .int .u8 220] 5)).alloc (.cells #[.int .u8 0, .int .u8 0, .int .u8 0, .int .u8 0] 5)).alloc (.cells #[.int .u8 192, .int .u8 35] 5)).alloc (.cells #[.int .u8 192, .int .u8 37] 5)).alloc (.cells #[.int .u8 0, .int .u8 0, .int .u8 0, .int .u8 1] 5)).alloc o) W.heap.size (fun _ => True) (.slice (some ⟨W.heap.size + 1, 0, none⟩) 4 4) [0, 0, 0, 0] :=
  Kd.R_below (umpireref14_Bad.lit_at (W.alloc (.cells #[.int .u8 5, .int .u8 220] 5)) W.heap.size (by first | (simp; done) | (simp; omega)) [0, 0, 0, 0] (by decide) #[.int .u8 0, .int .u8 0, .int .u8 0, .int .u8 0] rfl _ 4 (by simp) rfl) (below_alloc (below_alloc (below_alloc (below_alloc (Below.refl _ _) _) _) _) _)
theorem umpireref14_Bad.lit3 (W : World) (o : Obj) : Kd.R (Kd.int .u8) 5 ((((((W.alloc (.cells #[.int .u8 5, .int .u8 220] 5)).alloc (.cells #[.int .u8 0, .int .u8 0, .int .u8 0, .int .u8 0] 5)).alloc (.cells #[.int .u8 192, .int .u8 35] 5)).alloc (.cells #[.int .u8 192, .int .u8 37] 5)).alloc (.cells #[.int .u8 0, .int .u8 0, .int .u8 0, .int .u8 1] 5)).alloc o) W.heap.size (fun _ => True) (.slice (some ⟨W.heap.size + 2, 0, none⟩) 2 2) [192, 35] :=
  Kd.R_below (umpireref14_Bad.lit_at ((W.alloc (.cells #[.int .u8 5, .int .u8 220] 5)).alloc (.cells #[.int .u8 0, .int .u8 0, .int .u8 0, .int .u8 0] 5)) W.heap.size (by first | (simp; done) | (simp; omega)) [192, 35] (by decide) #[.int .u8 192, .int .u8 35] rfl _ 2 (by simp) rfl) (below_alloc (below_alloc (below_alloc (Below.refl _ _) _) _) _)
theorem umpireref14_Bad.lit4 (W : World) (o : Obj) : Kd.R (Kd.int .u8) 5 ((((((W.alloc (.cells #[.int .u8 5, .int .u8 220] 5)).alloc (.cells #[.int .u8 0, .int .u8 0, .int .u8 0, .int .u8 0] 5)).alloc (.cells #[.int .u8 192, .int .u8 35] 5)).alloc (.cells #[.int .u8 192, .int .u8 37] 5)).alloc (.cells #[.int .u8 0, .int .u8 0, .int .u8 0, .int .u8 1] 5)).alloc o) W.heap.size (fun _ => True) (.slice (some ⟨W.heap.size + 3, 0, none⟩) 2 2) [192, 37] :=
  Kd.R_below (umpireref14_Bad.lit_at (((W.alloc (.cells #[.int .u8 5, .int .u8 220] 5)).alloc (.cells #[.int .u8 0, .int .u8 0, .int .u8 0, .int .u8 0] 5)).alloc (.cells #[.int .u8 192, .int .u8 35] 5)) W.heap.size (by first | (simp; done) | (simp; omega)) [192, 37] (by decide) #[.int .u8 192, .int .u8 37] rfl _ 2 (by simp) rfl) (below_alloc (below_alloc (Below.refl _ _) _) _)
theorem umpireref14_Bad.lit5 (W : World) (o : Obj) : Kd.R (Kd.int .u8) 5 ((((((W.alloc (.cells #[.int .u8 5, .int .u8 220] 5)).alloc (.cells #[.int .u8 0, .int .u8 0, .int .u8 0, .int .u8 0] 5)).alloc (.cells #[.int .u8 192, .int .u8 35] 5)).alloc (.cells #[.int .u8 192, .int .u8 37] 5)).alloc (.cells #[.int .u8 0, .int .u8 0, .int .u8 0, .int .u8 1] 5)).alloc o) W.heap.size (fun _ => True) (.slice (some ⟨W.heap.size + 4, 0, none⟩) 4 4) [0, 0, 0, 1] :=
  Kd.R_below (umpireref14_Bad.lit_at ((((W.alloc (.cells #[.int .u8 5, .int .u8 220] 5)).alloc (.cells #[.int .u8 0, .int .u8 0, .int .u8 0, .int .u8 0] 5)).alloc (.cells #[.int .u8 192, .int .u8 35] 5)).alloc (.cells #[.int .u8 192, .int .u8 37] 5)) W.heap.size (by first | (simp; done) | (simp; omega)) [0, 0, 0, 1] (by decide) #[.int .u8 0, .int .u8 0, .int .u8 0, .int .u8 1] rfl _ 4 (by simp) rfl) (below_alloc (Below.refl _ _) _)
def umpireref14_Bad.T7 : Bool × List (List Nat × List Nat) := (true, [([], []), ([0], [0]), ([1], [1]), ([2], [2]), ([3, 2], [3]), ([4], [4]), ([4], [4]), ([5, 6, 4], [4, 5, 6]), ([4], [4]), ([8, 4], [4, 8]), ([7, 9, 4, 4], [4, 7, 9]), ([10, 4], [4, 10]), ([4, 11], [4, 11])])
def umpireref14_Bad.B7 : List Nat := [0, 1, 3, 7, 15, 31, 31, 127, 31, 287, 1023, 2047, 4095]
theorem umpireref14_Bad.tab7 : rtab .any (opsOf Try.f41 7) = umpireref14_Bad.T7 := by kernel_rfl
theorem umpireref14_Bad.bits7 : waitsOk umpireref14_Bad.T7.2 umpireref14_Bad.B7 = true := by kernel_rfl
structure umpireref14_Bad.Round (w W : World) (k : Nat) (l : List S55) (j : Nat) (v4 v5 : Value) (a ch : List S55) (r : List S55 × List S55) : Prop where
  h4 : Kd.N k55 55 W w.heap.size (fun k_ => some k_ ≠ v5.ownBlock) v4 a
  h5 : Kd.S k55 55 W w.heap.size (fun k_ => some k_ ≠ v4.ownBlock) v5 ch
  hb : Below w.heap.size w W
  la : a.length ≤ j
  lc : ch.length ≤ j
  hl : umpireref14_Bad.go k l (l.drop j) j a ch = some r
set_option maxHeartbeats 16000000 in
set_option maxRecDepth 100000 in
theorem umpireref14_Bad.calls (k : Nat) (A0 : Option Addr) (c0 : Nat) (l0 : List S55) (r1 r2 : List S55) (w : World) (hr0 : Kd.C k55 w A0 l0.length l0) (hc0 : l0.length ≤ c0) (h : umpireref14_Bad.f k l0 = some (r1, r2)) :
    Calls Try.prog 41 #[.slice A0 l0.length c0] w fun e w' => ∃ v0_ v1_ : Value, e = .returned (.tuple #[v0_, v1_]) ∧ Kd.N k55 55 w' w.heap.size (fun k_ => some k_ ≠ (v1_ : Value).ownBlock) v0_ r1 ∧ Kd.S k55 55 w' w.heap.size (fun k_ => some k_ ≠ (v0_ : Value).ownBlock) v1_ r2 ∧ Below w.heap.size w w' := by
  have huO := Try.underlying55
  unfold umpireref14_Bad.f at h
  by_cases hw : l0.length < 1000
  · rw [if_pos hw] at h
    have HLN := Aside0.mk hw
    have HG : Aside0 (umpireref14_Bad.go k l0 (l0.drop 0) 0 [] [] = some (r1, r2)) := ⟨by rw [List.drop_zero]; exact h⟩
    have HR0 := Aside0.mk hr0
    have HC0 := Aside0.mk hc0
    have HB := Aside0.mk (Below.refl w.heap.size w)
    clear h hw hr0 hc0
    go_enter Try.func41, Try.ntmps41
    go_wp2_with (fail)
    go_loopg [4, 5, 6] l0.length (fun kq v4 v5 v6 w' => ∃ (j : Nat) (a ch : List S55), kq + j = l0.length ∧ v6 = .int .i64 (j : Int) ∧ Aside0 (umpireref14_Bad.Round w w' k l0 j v4 v5 a ch (r1, r2)))
    case atStart => exact ⟨0, [], [], rfl, rfl, ⟨⟨Kd.N_nil _ _ _ _ _, Kd.S_nil _ _ _ _ _, HB.out, Nat.le_refl _, Nat.le_refl _, HG.out⟩⟩⟩
    case round =>
      obtain ⟨j, a, ch, hj, rfl, HI⟩ := hrel
      clear HB HG
      have H4 := Aside0.mk HI.out.h4
      have H5 := Aside0.mk HI.out.h5
      have HB := Aside0.mk HI.out.hb
      have LA := Aside0.mk HI.out.la
      have LC := Aside0.mk HI.out.lc
      have hl := HI.out.hl
      clear HI
      by_cases hlt : j < l0.length
      · have c1 : decide ((j : Int) < (l0.length : Int)) = true := decide_eq_true (by omega)
        obtain ⟨hdr, hmem⟩ := option_at l0 j hlt
        have p1 : (0 : Int) ≤ (j : Int) := by omega
        have q1 : (j : Int) < (l0.length : Int) := by omega
        obtain ⟨ad, Ax, cx, e0, hx0, hx1, hlx, hix⟩ := at_T55 HR0.out (j : Int) p1 q1
        rw [hdr, umpireref14_Bad.go] at hl
        generalize rd_T55 l0 (j : Int) = x at hx0 hx1 hlx hix hl
        cases e0
        rw [Int.toNat_natCast] at hx0 hx1
        replace hx0 := (HB.out.cell (World.block_lt_of_cell? w _ hx0)).trans hx0
        replace hx1 := (HB.out.cell (World.block_lt_of_cell? w _ hx1)).trans hx1
        obtain ⟨s, hs, hl⟩ := Option.bind_eq_some_iff.1 hl
        have HS := Aside0.mk hs
        have HL := Aside0.mk hl
        have HJ := Aside0.mk hj
        have HLX := Aside0.mk hlx
        have HIX := Aside0.mk hix
        have HFX := Aside0.mk (Kd.C_F (Kd.heap_int .u8) hix)
        have LT4 := Aside0.mk (Kd.N_lt H4.out)
        have LT5 := Aside0.mk (Kd.S_lt H5.out)
        have B4 := Aside0.mk (Kd.N_base H4.out)
        have B5 := Aside0.mk (Kd.S_base H5.out)
        have HLT := Aside0.mk hlt
        clear hdr hmem hl hlx hix hj hs hlt
        go_upto_region 7 with (((with_reducible refine gate_dst (N := 7) rfl ?_); refine box_event ?hg (N := 7) ?hd (cs := #[.int .i64 0, .slice none 0 0]) (t := 55) ?hr ?_; (case hd => rfl); (case hg => rfl); (case hr => first | (go_simp; done) | (go_simp; rfl)); intro g7 hg w5 hbox hb; have BK5 := Aside0.mk hbox; have GE7 : Aside0 (wr.heap.size ≤ g7) := ⟨by rw [hg]; exact Nat.le_refl _⟩; have HBr5 := Aside0.mk hb; replace hx0 := (hb.cell (World.block_lt_of_cell? _ _ hx0)).trans hx0; replace hx1 := (hb.cell (World.block_lt_of_cell? _ _ hx1)).trans hx1; clear hg hbox hb; have hc5_0 : w5.cell? ⟨g7, 0, none⟩ = some (.int .i64 0) := (blk_cell BK5.out 0).trans rfl; have hf5_0 := blk_frozen BK5.out 0; have hc5_1 : w5.cell? ⟨g7, 1, none⟩ = some (.slice none 0 0) := (blk_cell BK5.out 1).trans rfl; have hf5_1 := blk_frozen BK5.out 1))
        have BK6 := Aside0.mk (show ((w5.setCell ⟨g7, 0, none⟩ (.int .i64 x.f0)).setCell ⟨g7, 1, none⟩ (.slice Ax x.f1.length cx)).heap[g7]? = some (.cells #[.int .i64 x.f0, .slice Ax x.f1.length cx] 55 (0, 0)) from by refine blk_put (cs := #[.int .i64 x.f0, .slice none 0 0]) ?_ 1 _ rfl; refine blk_put (cs := #[.int .i64 0, .slice none 0 0]) ?_ 0 _ rfl; exact BK5.out)
        have HBr6 := Aside0.mk (below_set (j := 1) (v := .slice Ax x.f1.length cx) (below_set (j := 0) (v := .int .i64 x.f0) HBr5.out GE7.out) GE7.out)
        generalize (w5.setCell ⟨g7, 0, none⟩ (.int .i64 x.f0)).setCell ⟨g7, 1, none⟩ (.slice Ax x.f1.length cx) = w6 at BK6 HBr6 ⊢
        clear BK5 HBr5 hx0 hx1 hc5_0 hf5_0 hc5_1 hf5_1
        go_cut [31] from 19 to 30 (fun v31 wx => v31 = .bool s ∧ Aside0 (Below wr.heap.size wr wx) ∧ Aside0 (wx.heap[g7]? = some (.cells #[.int .i64 x.f0, .slice Ax x.f1.length cx] 55 (0, 0))))
        case first =>
          have HB6 := Aside0.mk (below_step HB.out HBr6.out)
          have hs := HS.out
          unfold umpireref14_Bad.seen at hs
          obtain ⟨kn, hkn, hs⟩ := Option.bind_eq_some_iff.1 hs
          have HKN := Aside0.mk hkn
          clear hkn
          cases kn with
          | false =>
            rw [if_neg (by decide)] at hs
            obtain rfl := Option.some.inj hs
            clear hs
            go_wp2_with (fail)
            refine start_ (n := 13) (S := fun w' => w'.cell? ⟨g7, 0, none⟩ = some (.int .i64 x.f0) ∧ w'.cell? ⟨g7, 1, none⟩ = some (.slice Ax x.f1.length cx)) (ds := []) #[false, false, false, false, false, false, false, false, false, false, false, false, false] (by kernel_rfl) rfl rfl ⟨((blk_cell (blk_drew BK6.out) 0).trans rfl), ((blk_cell (blk_drew BK6.out) 1).trans rfl)⟩ (fun hHeld => ?_)
            refine with_tabW umpireref14_Bad.tab7 umpireref14_Bad.bits7 (fun HT_ HW_ => ?_)
            refine pure_ (i := 0) (N := some 19) (v := ?_) (a' := ?_) #[true, false, false, false, false, false, false, false, false, false, false, false, false] rfl rfl (any_of HT_.out (by kernel_rfl)) (fun _ _ _ h => h) (Or.inl ⟨by rfl, ?_⟩) ?_ ?_
            rotate_left
            · intro w'
              go_simp
              with_reducible rfl
            rotate_left
            · simp only [Act.put, List.setIfInBounds_toArray, List.set_cons_zero, List.set_cons_succ, i64_w, i32_w]
              rfl
            refine take_ (i := 1) (N := some 20) (v := ?_) (a' := ?_) #[true, true, false, false, false, false, false, false, false, false, false, false, false] rfl rfl (take_ofW HT_.out HW_.out (by kernel_rfl)) (fun _ _ _ h => h) (Or.inl ⟨by rfl, ?_⟩) hHeld ?_ ?_
            rotate_left
            · rintro w' ⟨s0, s1⟩
              go_simp
              with_reducible rfl
            rotate_left
            · simp only [Act.put, List.setIfInBounds_toArray, List.set_cons_zero, List.set_cons_succ, i64_w, i32_w]
              rfl
            refine one_ (i := 2) (N := some 21) #[true, true, true, false, false, false, false, false, false, false, false, false, false] rfl rfl (one_of HT_.out (by kernel_rfl)) (by decide) (fun K hK => ?_)
            refine goes_ Try.func28 (by kernel_rfl) rfl #[.int .i64 x.f0] (by rfl) rfl rfl (by simp only [List.map_toArray, List.map_cons, List.map_nil]; rfl) ?_
            with_reducible refine (umpireref14_Known.calls x.f0 false _ HKN.out).mono ?_
            rintro e w8 ⟨rfl, ⟨nd, rfl⟩⟩
            refine ⟨_, rfl, ?_⟩
            have BK7a := Aside0.mk (blk_drewN (blk_drew BK6.out) nd)
            refine hK.out _ _ ⟨((blk_cell (BK7a.out) 0).trans rfl), ((blk_cell (BK7a.out) 1).trans rfl)⟩ (fun hHeld => ?_)
            clear hK K
            refine norm_ (a' := ?_) ?_ ?_
            rotate_left
            · show Act.put _ (some 21) _ = _
              simp only [Act.put, List.setIfInBounds_toArray, List.set_cons_zero, List.set_cons_succ, i64_w, i32_w]
              rfl
            refine pure_ (i := 3) (N := some 22) (v := ?_) (a' := ?_) #[true, true, true, true, false, false, false, false, false, false, false, false, false] rfl rfl (any_of HT_.out (by kernel_rfl)) (fun _ _ _ h => h) (Or.inl ⟨by rfl, ?_⟩) ?_ ?_
            rotate_left
            · intro w'
              go_simp
              with_reducible rfl
            rotate_left
            · simp only [Act.put, List.setIfInBounds_toArray, List.set_cons_zero, List.set_cons_succ, i64_w, i32_w]
              rfl
            refine pure_ (i := 4) (N := some 23) (v := ?_) (a' := ?_) #[true, true, true, true, true, false, false, false, false, false, false, false, false] rfl rfl (any_of HT_.out (by kernel_rfl)) (fun _ _ _ h => h) (Or.inl ⟨by rfl, ?_⟩) ?_ ?_
            rotate_left
            · intro w'
              go_simp
              with_reducible rfl
            rotate_left
            · simp only [Act.put, List.setIfInBounds_toArray, List.set_cons_zero, List.set_cons_succ, i64_w, i32_w]
              rfl
            refine pure_ (i := 5) (N := some 24) (v := undef) (a' := ?_) #[true, true, true, true, true, true, false, false, false, false, false, false, false] rfl rfl (any_of HT_.out (by kernel_rfl)) (fun _ _ _ h => h) (Or.inr ⟨by rfl, rfl⟩) ?_ ?_
            rotate_left
            · simp only [Act.put, List.setIfInBounds_toArray, List.set_cons_zero, List.set_cons_succ, i64_w, i32_w]
              rfl
            refine pure_ (i := 6) (N := some 25) (v := undef) (a' := ?_) #[true, true, true, true, true, true, true, false, false, false, false, false, false] rfl rfl (any_of HT_.out (by kernel_rfl)) (fun _ _ _ h => h) (Or.inr ⟨by rfl, rfl⟩) ?_ ?_
            rotate_left
            · simp only [Act.put, List.setIfInBounds_toArray, List.set_cons_zero, List.set_cons_succ, i64_w, i32_w]
              rfl
            refine pure_ (i := 7) (N := some 26) (v := undef) (a' := ?_) #[true, true, true, true, true, true, true, true, false, false, false, false, false] rfl rfl (any_of HT_.out (by kernel_rfl)) (fun _ _ _ h => h) (Or.inr ⟨by rfl, rfl⟩) ?_ ?_
            rotate_left
            · simp only [Act.put, List.setIfInBounds_toArray, List.set_cons_zero, List.set_cons_succ, i64_w, i32_w]
              rfl
            refine pure_ (i := 8) (N := some 27) (v := undef) (a' := ?_) #[true, true, true, true, true, true, true, true, true, false, false, false, false] rfl rfl (any_of HT_.out (by kernel_rfl)) (fun _ _ _ h => h) (Or.inr ⟨by rfl, rfl⟩) ?_ ?_
            rotate_left
            · simp only [Act.put, List.setIfInBounds_toArray, List.set_cons_zero, List.set_cons_succ, i64_w, i32_w]
              rfl
            refine pure_ (i := 9) (N := some 28) (v := undef) (a' := ?_) #[true, true, true, true, true, true, true, true, true, true, false, false, false] rfl rfl (any_of HT_.out (by kernel_rfl)) (fun _ _ _ h => h) (Or.inr ⟨by rfl, rfl⟩) ?_ ?_
            rotate_left
            · simp only [Act.put, List.setIfInBounds_toArray, List.set_cons_zero, List.set_cons_succ, i64_w, i32_w]
              rfl
            refine pure_ (i := 10) (N := some 29) (v := undef) (a' := ?_) #[true, true, true, true, true, true, true, true, true, true, true, false, false] rfl rfl (any_of HT_.out (by kernel_rfl)) (fun _ _ _ h => h) (Or.inr ⟨by rfl, rfl⟩) ?_ ?_
            rotate_left
            · simp only [Act.put, List.setIfInBounds_toArray, List.set_cons_zero, List.set_cons_succ, i64_w, i32_w]
              rfl
            refine pure_ (i := 11) (N := some 30) (v := undef) (a' := ?_) #[true, true, true, true, true, true, true, true, true, true, true, true, false] rfl rfl (any_of HT_.out (by kernel_rfl)) (fun _ _ _ h => h) (Or.inr ⟨by rfl, rfl⟩) ?_ ?_
            rotate_left
            · simp only [Act.put, List.setIfInBounds_toArray, List.set_cons_zero, List.set_cons_succ, i64_w, i32_w]
              rfl
            refine pure_ (i := 12) (N := some 31) (v := ?_) (a' := ?_) #[true, true, true, true, true, true, true, true, true, true, true, true, true] rfl rfl (any_of HT_.out (by kernel_rfl)) (fun _ _ _ h => h) (Or.inl ⟨by rfl, ?_⟩) ?_ ?_
            rotate_left
            · intro w'
              go_simp
              with_reducible rfl
            rotate_left
            · simp only [Act.put, List.setIfInBounds_toArray, List.set_cons_zero, List.set_cons_succ, i64_w, i32_w]
              rfl
            refine done_ (done_of HT_.out (by kernel_rfl)) ?_
            go_wp2_with (fail)
            go_meet
            case rel => exact ⟨rfl, ⟨pw_below_drewN (below_drew HBr6.out) nd⟩, BK7a⟩
          | true =>
            rw [if_pos rfl] at hs
            obtain ⟨t, ht, hs⟩ := Option.bind_eq_some_iff.1 hs
            obtain rfl := Option.some.inj hs
            have HT := Aside0.mk ht
            obtain ⟨y, hy⟩ : ∃ y_ : List S55, y_ = l0.take j := ⟨_, rfl⟩
            rw [← hy] at HT
            have hcut7 := fun (i021 : TypeInfo) (hi021 : Try.prog.info? 55 = some i021) => cut_to (P := Try.prog) 58 55 .i64 Try.underlying58 hi021 (some ad) l0.length c0 (j : Int) p1 (Int.le_of_lt q1) HC0.out
            obtain ⟨i021, hi021, _, hsz21, _⟩ := info_parts info55
            replace hcut7 := hcut7 i021 hi021
            have hyl : y.length = ((j : Int)).toNat := by rw [hy, List.length_take]; have := HLT.out; omega
            have hr7 := Kd.C_take (m := j) HR0.out (Nat.le_of_lt HLT.out)
            rw [← hy] at hr7
            rw [← hyl] at hcut7
            have HRY := Aside0.mk hr7
            have HCY : Aside0 (y.length ≤ c0) := ⟨by have := HLT.out; have := HC0.out; omega⟩
            clear hs ht hr7 hi021 hsz21 hyl hy
            go_wp2_with (fail)
            refine start_ (n := 13) (S := fun w' => w'.cell? ⟨g7, 0, none⟩ = some (.int .i64 x.f0) ∧ w'.cell? ⟨g7, 1, none⟩ = some (.slice Ax x.f1.length cx)) (ds := []) #[false, false, false, false, false, false, false, false, false, false, false, false, false] (by kernel_rfl) rfl rfl ⟨((blk_cell (blk_drew BK6.out) 0).trans rfl), ((blk_cell (blk_drew BK6.out) 1).trans rfl)⟩ (fun hHeld => ?_)
            refine with_tabW umpireref14_Bad.tab7 umpireref14_Bad.bits7 (fun HT_ HW_ => ?_)
            refine pure_ (i := 0) (N := some 19) (v := ?_) (a' := ?_) #[true, false, false, false, false, false, false, false, false, false, false, false, false] rfl rfl (any_of HT_.out (by kernel_rfl)) (fun _ _ _ h => h) (Or.inl ⟨by rfl, ?_⟩) ?_ ?_
            rotate_left
            · intro w'
              go_simp
              with_reducible rfl
            rotate_left
            · simp only [Act.put, List.setIfInBounds_toArray, List.set_cons_zero, List.set_cons_succ, i64_w, i32_w]
              rfl
            refine take_ (i := 1) (N := some 20) (v := ?_) (a' := ?_) #[true, true, false, false, false, false, false, false, false, false, false, false, false] rfl rfl (take_ofW HT_.out HW_.out (by kernel_rfl)) (fun _ _ _ h => h) (Or.inl ⟨by rfl, ?_⟩) hHeld ?_ ?_
            rotate_left
            · rintro w' ⟨s0, s1⟩
              go_simp
              with_reducible rfl
            rotate_left
            · simp only [Act.put, List.setIfInBounds_toArray, List.set_cons_zero, List.set_cons_succ, i64_w, i32_w]
              rfl
            refine one_ (i := 2) (N := some 21) #[true, true, true, false, false, false, false, false, false, false, false, false, false] rfl rfl (one_of HT_.out (by kernel_rfl)) (by decide) (fun K hK => ?_)
            refine goes_ Try.func28 (by kernel_rfl) rfl #[.int .i64 x.f0] (by rfl) rfl rfl (by simp only [List.map_toArray, List.map_cons, List.map_nil]; rfl) ?_
            with_reducible refine (umpireref14_Known.calls x.f0 true _ HKN.out).mono ?_
            rintro e w8 ⟨rfl, ⟨nd, rfl⟩⟩
            refine ⟨_, rfl, ?_⟩
            have BK7a := Aside0.mk (blk_drewN (blk_drew BK6.out) nd)
            refine hK.out _ _ ⟨((blk_cell (BK7a.out) 0).trans rfl), ((blk_cell (BK7a.out) 1).trans rfl)⟩ (fun hHeld => ?_)
            clear hK K
            refine norm_ (a' := ?_) ?_ ?_
            rotate_left
            · show Act.put _ (some 21) _ = _
              simp only [Act.put, List.setIfInBounds_toArray, List.set_cons_zero, List.set_cons_succ, i64_w, i32_w]
              rfl
            refine pure_ (i := 3) (N := some 22) (v := ?_) (a' := ?_) #[true, true, true, true, false, false, false, false, false, false, false, false, false] rfl rfl (any_of HT_.out (by kernel_rfl)) (fun _ _ _ h => h) (Or.inl ⟨by rfl, ?_⟩) ?_ ?_
            rotate_left
            · intro w'
              go_simp
              with_reducible rfl
            rotate_left
            · simp only [Act.put, List.setIfInBounds_toArray, List.set_cons_zero, List.set_cons_succ, i64_w, i32_w]
              rfl
            refine pure_ (i := 4) (N := some 23) (v := ?_) (a' := ?_) #[true, true, true, true, true, false, false, false, false, false, false, false, false] rfl rfl (any_of HT_.out (by kernel_rfl)) (fun _ _ _ h => h) (Or.inl ⟨by rfl, ?_⟩) ?_ ?_
            rotate_left
            · intro w'
              go_simp
              with_reducible rfl
            rotate_left
            · simp only [Act.put, List.setIfInBounds_toArray, List.set_cons_zero, List.set_cons_succ, i64_w, i32_w]
              rfl
            refine pure_ (i := 5) (N := some 24) (v := ?_) (a' := ?_) #[true, true, true, true, true, true, false, false, false, false, false, false, false] rfl rfl (any_of HT_.out (by kernel_rfl)) (fun _ _ _ h => h) (Or.inl ⟨by rfl, ?_⟩) ?_ ?_
            rotate_left
            · intro w'
              go_simp
              with_reducible rfl
            rotate_left
            · simp only [Act.put, List.setIfInBounds_toArray, List.set_cons_zero, List.set_cons_succ, i64_w, i32_w]
              rfl
            refine pure_ (i := 6) (N := some 25) (v := ?_) (a' := ?_) #[true, true, true, true, true, true, true, false, false, false, false, false, false] rfl rfl (any_of HT_.out (by kernel_rfl)) (fun _ _ _ h => h) (Or.inl ⟨by rfl, ?_⟩) ?_ ?_
            rotate_left
            · intro w'
              go_simp
              with_reducible rfl
            rotate_left
            · simp only [Act.put, List.setIfInBounds_toArray, List.set_cons_zero, List.set_cons_succ, i64_w, i32_w]
              rfl
            refine pure_ (i := 7) (N := some 26) (v := ?_) (a' := ?_) #[true, true, true, true, true, true, true, true, false, false, false, false, false] rfl rfl (any_of HT_.out (by kernel_rfl)) (fun _ _ _ h => h) (Or.inl ⟨by rfl, ?_⟩) ?_ ?_
            rotate_left
            · intro w'
              go_simp
              with_reducible rfl
            rotate_left
            · simp only [Act.put, List.setIfInBounds_toArray, List.set_cons_zero, List.set_cons_succ, i64_w, i32_w]
              rfl
            refine pure_ (i := 8) (N := some 27) (v := ?_) (a' := ?_) #[true, true, true, true, true, true, true, true, true, false, false, false, false] rfl rfl (any_of HT_.out (by kernel_rfl)) (fun _ _ _ h => h) (Or.inl ⟨by rfl, ?_⟩) ?_ ?_
            rotate_left
            · intro w'
              go_simp
              with_reducible rfl
            rotate_left
            · simp only [Act.put, List.setIfInBounds_toArray, List.set_cons_zero, List.set_cons_succ, i64_w, i32_w]
              rfl
            refine take_ (i := 9) (N := some 28) (v := ?_) (a' := ?_) #[true, true, true, true, true, true, true, true, true, true, false, false, false] rfl rfl (take_ofW HT_.out HW_.out (by kernel_rfl)) (fun _ _ _ h => h) (Or.inl ⟨by rfl, ?_⟩) hHeld ?_ ?_
            rotate_left
            · rintro w' ⟨s0, s1⟩
              go_simp
              with_reducible rfl
            rotate_left
            · simp only [Act.put, List.setIfInBounds_toArray, List.set_cons_zero, List.set_cons_succ, i64_w, i32_w]
              rfl
            refine one_ (i := 10) (N := some 29) #[true, true, true, true, true, true, true, true, true, true, true, false, false] rfl rfl (one_of HT_.out (by kernel_rfl)) (by decide) (fun K hK => ?_)
            refine goes_ Try.func43 (by kernel_rfl) rfl #[.slice (some ad) y.length c0, .int .i64 x.f0] (by rfl) rfl rfl (by simp only [List.map_toArray, List.map_cons, List.map_nil]; rfl) ?_
            with_reducible refine (umpireref12_Find.calls k _ _ y x.f0 t _ (Kd.C_below HRY.out (pw_below_drewN (below_drew HB6.out) nd)) HCY.out HT.out).mono ?_
            rintro e w8 ⟨rfl, ⟨nd2, rfl⟩⟩
            refine ⟨_, rfl, ?_⟩
            have BK7b := Aside0.mk (blk_drewN BK7a.out nd2)
            refine hK.out _ _ ⟨((blk_cell (BK7b.out) 0).trans rfl), ((blk_cell (BK7b.out) 1).trans rfl)⟩ (fun hHeld => ?_)
            clear hK K
            refine norm_ (a' := ?_) ?_ ?_
            rotate_left
            · show Act.put _ (some 29) _ = _
              simp only [Act.put, List.setIfInBounds_toArray, List.set_cons_zero, List.set_cons_succ, i64_w, i32_w]
              rfl
            refine pure_ (i := 11) (N := some 30) (v := ?_) (a' := ?_) #[true, true, true, true, true, true, true, true, true, true, true, true, false] rfl rfl (any_of HT_.out (by kernel_rfl)) (fun _ _ _ h => h) (Or.inl ⟨by rfl, ?_⟩) ?_ ?_
            rotate_left
            · intro w'
              go_simp
              with_reducible rfl
            rotate_left
            · simp only [Act.put, List.setIfInBounds_toArray, List.set_cons_zero, List.set_cons_succ, i64_w, i32_w]
              rfl
            refine pure_ (i := 12) (N := some 31) (v := ?_) (a' := ?_) #[true, true, true, true, true, true, true, true, true, true, true, true, true] rfl rfl (any_of HT_.out (by kernel_rfl)) (fun _ _ _ h => h) (Or.inl ⟨by rfl, ?_⟩) ?_ ?_
            rotate_left
            · intro w'
              go_simp
              with_reducible rfl
            rotate_left
            · simp only [Act.put, List.setIfInBounds_toArray, List.set_cons_zero, List.set_cons_succ, i64_w, i32_w]
              rfl
            refine done_ (done_of HT_.out (by kernel_rfl)) ?_
            go_wp2_with (fail)
            go_meet
            case rel => exact ⟨rfl, ⟨pw_below_drewN (pw_below_drewN (below_drew HBr6.out) nd) nd2⟩, BK7b⟩
        case rest =>
          obtain ⟨rfl, HBr, BK8⟩ := hcut
          clear BK6 HBr6
          have N4t := Aside0.mk (Kd.N_below H4.out HBr.out)
          have S5t := Aside0.mk (Kd.S_below H5.out HBr.out)
          have HB8 := Aside0.mk (below_step HB.out HBr.out)
          have LW := Aside0.mk HBr.out.size
          have hjw : IntKind.i64.wrap ((j : Int) + 1) = ((j + 1 : Nat) : Int) := by rw [IntWalk.i64_in _ (by have := HLN.out; have := HLT.out; omega)]; omega
          obtain ⟨gk2, rfl⟩ : ∃ q, gk = q + 1 := ⟨gk - 1, by have := HJ.out; have := HLT.out; omega⟩
          have N58 : Aside0 (some g7 ≠ u5.ownBlock) := ⟨fun e_ => absurd (LT5.out g7 e_.symm) (by have := GE7.out; omega)⟩
          have hc8_0 : wc.cell? ⟨g7, 0, none⟩ = some (.int .i64 x.f0) := (blk_cell BK8.out 0).trans rfl
          have hf8_0 := blk_frozen BK8.out 0
          have hc8_1 : wc.cell? ⟨g7, 1, none⟩ = some (.slice Ax x.f1.length cx) := (blk_cell BK8.out 1).trans rfl
          have hf8_1 := blk_frozen BK8.out 1
          cases s with
          | true =>
            have hl := HL.out
            rw [if_pos rfl] at hl
            have HE := Aside0.mk hl
            clear hl HL
            go_wp2_with (((with_reducible refine gate_builtin (b := .append) (xs := #[.tmp 32, .tmp 34]) rfl ?_); at_builtin; refine Kd.N_append k55 (w0 := w) w.heap.size rfl (.tmp 32) (.tmp 34) 58 55 (.agg #[(.int .i64 0), (.slice none 0 0)]) 32 rfl Try.underlying58 info55 rfl (by decide) (by omega) u4 a x [.int .i64 x.f0, .slice Ax x.f1.length cx] (fun k_ => some k_ ≠ u5.ownBlock) (fun k_ => k_ < w.heap.size) rfl rfl ?aP ?aK ?aF ?aO ?aB ?aS ?aL ?_; (case aP => exact k55_mkF _ _ x HLX.out (Kd.F_below HFX.out HB8.out)); (case aK => exact fun k_ hk => ⟨fun e_ => absurd (B5.out k_ e_.symm) (by omega), fun e_ => absurd (B4.out k_ e_.symm) (by omega)⟩); (case aF => exact fun k_ hk e_ => absurd (LT5.out k_ e_.symm) (by have := LW.out; omega)); (case aO => exact N4t.out); (case aB => exact HB8.out); (case aS => exact HB8.out.size); (case aL => have := LA.out; have := HLN.out; have := HLT.out; omega); intro u9 w9 ho hb hg hat; have N4b := Aside0.mk ho; have HB9 := Aside0.mk hb; have S5b := Aside0.mk (Kd.S_mono (Kd.S_after (ok := fun _ => True) (Kd.S_mono (Kd.S_below H5.out HBr.out) (fun _ h_ => ⟨trivial, h_⟩)) hg hat) (fun _ h_ => h_.2)); clear ho hb hg hat))
            go_roundg gk2
            case measure => omega
            case rel => exact ⟨j + 1, a ++ [x], ch, by have := HJ.out; omega, rfl, ⟨⟨N4b.out, S5b.out, HB9.out, by rw [List.length_append]; simp only [List.length_cons, List.length_nil]; have := LA.out; omega, by have := LC.out; omega, HE.out⟩⟩⟩
          | false =>
            have hl := HL.out
            rw [if_neg (by decide)] at hl
            obtain ⟨rt, hrt, hl⟩ := Option.bind_eq_some_iff.1 hl
            have HRT := Aside0.mk hrt
            have HE := Aside0.mk hl
            clear hl HL hrt
            go_wp2_with (fail)
            refine (umpireref14_Right.calls k x.f0 Ax cx x.f1 rt _ (Kd.C_below HIX.out HB8.out) HLX.out HRT.out).mono ?_
            rintro e w9 ⟨rfl, hb⟩
            have BK9 := Aside0.mk (blk_below BK8.out hb)
            have HBr9 := Aside0.mk (below_step HBr.out hb)
            have HB9 := Aside0.mk (below_step HB8.out hb)
            have N4b := Aside0.mk (Kd.N_below H4.out HBr9.out)
            have S5b := Aside0.mk (Kd.S_below H5.out HBr9.out)
            clear hb BK8 HBr N4t S5t HB8 hc8_0 hf8_0 hc8_1 hf8_1
            have hc9_0 : w9.cell? ⟨g7, 0, none⟩ = some (.int .i64 x.f0) := (blk_cell BK9.out 0).trans rfl
            have hf9_0 := blk_frozen BK9.out 0
            have hc9_1 : w9.cell? ⟨g7, 1, none⟩ = some (.slice Ax x.f1.length cx) := (blk_cell BK9.out 1).trans rfl
            have hf9_1 := blk_frozen BK9.out 1
            cases rt with
            | true =>
              go_wp2_with (fail)
              go_roundg gk2
              case measure => omega
              case rel => exact ⟨j + 1, a, ch, by have := HJ.out; omega, rfl, ⟨⟨N4b.out, S5b.out, HB9.out, by have := LA.out; omega, by have := LC.out; omega, HE.out⟩⟩⟩
            | false =>
              have hl := HE.out
              rw [if_neg (by decide)] at hl
              clear HE
              have HE := Aside0.mk hl
              clear hl
              go_upto_region 10 with (fail)
              go_cut [8] from 38 to 47 (fun v8 wx => Aside0 (Kd.R (Kd.int .u8) 5 wx w9.heap.size (fun _ => True) v8 (terms_instead.bytes x.f0)) ∧ Aside0 (Below w9.heap.size w9 wx))
              case first =>
                have K6 := blk_alloc (blk_alloc (blk_alloc (blk_alloc (blk_alloc (blk_alloc (BK9.out) (.cells #[.int .u8 5, .int .u8 220] 5)) (.cells #[.int .u8 0, .int .u8 0, .int .u8 0, .int .u8 0] 5)) (.cells #[.int .u8 192, .int .u8 35] 5)) (.cells #[.int .u8 192, .int .u8 37] 5)) (.cells #[.int .u8 0, .int .u8 0, .int .u8 0, .int .u8 1] 5)) (.cells #[(.slice none 0 0), (.slice (some ⟨w9.heap.size, 0, none⟩) 2 2), (.slice (some ⟨w9.heap.size + 1, 0, none⟩) 4 4), (.slice (some ⟨w9.heap.size + 1 + 1, 0, none⟩) 2 2), (.slice (some ⟨w9.heap.size + 1 + 1 + 1, 0, none⟩) 2 2), (.slice (some ⟨w9.heap.size + 1 + 1 + 1 + 1, 0, none⟩) 4 4), (.slice none 0 0), (.slice none 0 0), (.slice none 0 0)] 28)
                have hcA_0 := (blk_cell K6 0).trans rfl
                have hfA_0 := blk_frozen K6 0
                have KT := blk_new (((((w9.alloc (.cells #[.int .u8 5, .int .u8 220] 5)).alloc (.cells #[.int .u8 0, .int .u8 0, .int .u8 0, .int .u8 0] 5)).alloc (.cells #[.int .u8 192, .int .u8 35] 5)).alloc (.cells #[.int .u8 192, .int .u8 37] 5)).alloc (.cells #[.int .u8 0, .int .u8 0, .int .u8 0, .int .u8 1] 5)) (.cells #[(.slice none 0 0), (.slice (some ⟨w9.heap.size, 0, none⟩) 2 2), (.slice (some ⟨w9.heap.size + 1, 0, none⟩) 4 4), (.slice (some ⟨w9.heap.size + 1 + 1, 0, none⟩) 2 2), (.slice (some ⟨w9.heap.size + 1 + 1 + 1, 0, none⟩) 2 2), (.slice (some ⟨w9.heap.size + 1 + 1 + 1 + 1, 0, none⟩) 4 4), (.slice none 0 0), (.slice none 0 0), (.slice none 0 0)] 28)
                have hszT : (((((w9.alloc (.cells #[.int .u8 5, .int .u8 220] 5)).alloc (.cells #[.int .u8 0, .int .u8 0, .int .u8 0, .int .u8 0] 5)).alloc (.cells #[.int .u8 192, .int .u8 35] 5)).alloc (.cells #[.int .u8 192, .int .u8 37] 5)).alloc (.cells #[.int .u8 0, .int .u8 0, .int .u8 0, .int .u8 1] 5)).heap.size = w9.heap.size + 1 + 1 + 1 + 1 + 1 := by simp
                rw [hszT] at KT
                clear hszT
                rcases umpireref14_Bad.known HS.out with e_ | e_ | e_ | e_ | e_ | e_ | e_
                · rw [e_] at hc9_0
                  rw [e_] at hcA_0
                  have hcT := (blk_cell KT 1).trans rfl
                  have hfT := blk_frozen KT 1
                  clear K6 KT
                  go_wp2_with (fail)
                  go_meet
                  case rel => exact ⟨⟨by rw [e_]; exact umpireref14_Bad.lit1 w9 _⟩, ⟨(below_alloc (below_alloc (below_alloc (below_alloc (below_alloc (below_alloc (Below.refl _ _) _) _) _) _) _) _)⟩⟩
                · rw [e_] at hc9_0
                  rw [e_] at hcA_0
                  have hcT := (blk_cell KT 2).trans rfl
                  have hfT := blk_frozen KT 2
                  clear K6 KT
                  go_wp2_with (fail)
                  go_meet
                  case rel => exact ⟨⟨by rw [e_]; exact umpireref14_Bad.lit2 w9 _⟩, ⟨(below_alloc (below_alloc (below_alloc (below_alloc (below_alloc (below_alloc (Below.refl _ _) _) _) _) _) _) _)⟩⟩
                · rw [e_] at hc9_0
                  rw [e_] at hcA_0
                  have hcT := (blk_cell KT 3).trans rfl
                  have hfT := blk_frozen KT 3
                  clear K6 KT
                  go_wp2_with (fail)
                  go_meet
                  case rel => exact ⟨⟨by rw [e_]; exact umpireref14_Bad.lit3 w9 _⟩, ⟨(below_alloc (below_alloc (below_alloc (below_alloc (below_alloc (below_alloc (Below.refl _ _) _) _) _) _) _) _)⟩⟩
                · rw [e_] at hc9_0
                  rw [e_] at hcA_0
                  have hcT := (blk_cell KT 4).trans rfl
                  have hfT := blk_frozen KT 4
                  clear K6 KT
                  go_wp2_with (fail)
                  go_meet
                  case rel => exact ⟨⟨by rw [e_]; exact umpireref14_Bad.lit4 w9 _⟩, ⟨(below_alloc (below_alloc (below_alloc (below_alloc (below_alloc (below_alloc (Below.refl _ _) _) _) _) _) _) _)⟩⟩
                · rw [e_] at hc9_0
                  rw [e_] at hcA_0
                  have hcT := (blk_cell KT 5).trans rfl
                  have hfT := blk_frozen KT 5
                  clear K6 KT
                  go_wp2_with (fail)
                  go_meet
                  case rel => exact ⟨⟨by rw [e_]; exact umpireref14_Bad.lit5 w9 _⟩, ⟨(below_alloc (below_alloc (below_alloc (below_alloc (below_alloc (below_alloc (Below.refl _ _) _) _) _) _) _) _)⟩⟩
                · rw [e_] at hc9_0
                  rw [e_] at hcA_0
                  have hcT := (blk_cell KT 7).trans rfl
                  have hfT := blk_frozen KT 7
                  clear K6 KT
                  go_wp2_with (fail)
                  go_meet
                  case rel => exact ⟨⟨by rw [e_]; exact Kd.R_nil _ _ _ _ _⟩, ⟨(below_alloc (below_alloc (below_alloc (below_alloc (below_alloc (below_alloc (Below.refl _ _) _) _) _) _) _) _)⟩⟩
                · rw [e_] at hc9_0
                  rw [e_] at hcA_0
                  have hcT := (blk_cell KT 8).trans rfl
                  have hfT := blk_frozen KT 8
                  clear K6 KT
                  go_wp2_with (fail)
                  go_meet
                  case rel => exact ⟨⟨by rw [e_]; exact Kd.R_nil _ _ _ _ _⟩, ⟨(below_alloc (below_alloc (below_alloc (below_alloc (below_alloc (below_alloc (Below.refl _ _) _) _) _) _) _) _)⟩⟩
              case rest =>
                obtain ⟨HI8, HB8r⟩ := hcut
                have hi := HI8.out
                have hb := HB8r.out
                generalize wc = w10 at hi hb ⊢
                have BK10 := Aside0.mk (blk_below BK9.out hb)
                have HBr10 := Aside0.mk (below_step HBr9.out hb)
                have HB10 := Aside0.mk (below_step HB9.out hb)
                have HD10 := Aside0.mk (Kd.R_lower hi (below_size HB9.out))
                have S5e := Aside0.mk (Kd.S_elder' S5b.out (Kd.R_base hi) hb)
                have LD := Aside0.mk (Kd.R_base hi)
                have LW9 := Aside0.mk HBr9.out.size
                obtain ⟨Ad, cd, rfl⟩ := Kd.R_slice HD10.out
                clear hi hb HI8 HB8r BK9 hc9_0 hf9_0 hc9_1 hf9_1
                have hc10_0 : w10.cell? ⟨g7, 0, none⟩ = some (.int .i64 x.f0) := (blk_cell BK10.out 0).trans rfl
                have hf10_0 := blk_frozen BK10.out 0
                have hc10_1 : w10.cell? ⟨g7, 1, none⟩ = some (.slice Ax x.f1.length cx) := (blk_cell BK10.out 1).trans rfl
                have hf10_1 := blk_frozen BK10.out 1
                go_wp2_with (((with_reducible refine gate_builtin (b := .append) (xs := #[.tmp 48, .tmp 53]) rfl ?_); at_builtin; refine Kd.S_append k55 (w0 := w) w.heap.size rfl (.tmp 48) (.tmp 53) 58 55 (.agg #[(.int .i64 0), (.slice none 0 0)]) 32 rfl Try.underlying58 info55 rfl (by decide) (by omega) u5 ch (⟨x.f0, terms_instead.bytes x.f0⟩ : S55) [.int .i64 x.f0, .slice Ad (terms_instead.bytes x.f0).length cd] (fun k_ => some k_ ≠ u4.ownBlock) (fun k_ => some k_ = (.slice Ad (terms_instead.bytes x.f0).length cd : Value).ownBlock) rfl rfl ?aP ?aK ?aF ?aO ?aB ?aS ?aL ?_; (case aP => exact k55_mkM _ _ _ _ (Kd.R_mono (Kd.R_tight rfl HD10.out) (fun _ h => h))); (case aK => exact fun k_ hk => ⟨fun e_ => absurd (LT4.out k_ e_.symm) (by have := LD.out k_ hk.symm; have := LW9.out; omega), fun e_ => absurd (LT5.out k_ e_.symm) (by have := LD.out k_ hk.symm; have := LW9.out; omega)⟩); (case aB => exact HB10.out); (case aF => exact fun k_ hk e_ => absurd (LT4.out k_ e_.symm) (by have := HBr10.out.size; omega)); (case aO => exact S5e.out); (case aS => exact HB10.out.size); (case aL => have := LC.out; have := HLN.out; have := HLT.out; omega); intro u11 w11 ho hb hg hat; have HB12 := Aside0.mk hb; have S5c := Aside0.mk ho; have N4c := Aside0.mk (Kd.N_mono (Kd.N_after (ok := fun _ => True) (Kd.N_mono (Kd.N_below H4.out HBr10.out) (fun _ h_ => ⟨trivial, h_⟩)) hg hat) (fun _ h_ => h_.2)); clear ho hb hg hat))
                go_roundg gk2
                case measure => omega
                case rel => exact ⟨j + 1, a, ch ++ [(⟨x.f0, terms_instead.bytes x.f0⟩ : S55)], by have := HJ.out; omega, rfl, ⟨⟨N4c.out, S5c.out, HB12.out, by have := LA.out; omega, by rw [List.length_append]; simp only [List.length_cons, List.length_nil]; have := LC.out; omega, HE.out⟩⟩⟩
      · have c1 : decide ((j : Int) < (l0.length : Int)) = false := decide_eq_false (by omega)
        obtain rfl : j = l0.length := by omega
        rw [List.drop_length] at hl
        simp only [umpireref14_Bad.go, Option.some.injEq, Prod.mk.injEq] at hl
        obtain ⟨rfl, rfl⟩ := hl
        clear hj
        go_wp2_with (fail)
        go_ret2
        exact ⟨_, _, rfl, H4.out, H5.out, HB.out⟩
  · rw [if_neg hw] at h
    cases h

end Go.Proofs.Ytnjimecjpnjojaa.Print
