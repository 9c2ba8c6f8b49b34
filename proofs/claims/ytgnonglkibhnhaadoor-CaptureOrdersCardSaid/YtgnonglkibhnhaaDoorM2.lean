-- laid together by this session's own program (wip/tools/merge.py) of texts that its program laid
import Derived.Test.YtgnonglkibhnhaaDoorZ
import Derived.Test.YtgnonglkibhnhaaDoorM1
namespace Go.Proofs.YtgnonglkibhnhaaDoor.Print
open Go.RowKit Go.Proofs.YtgnonglkibhnhaaDoorW.PrintWords Go.Proofs.YtgnonglkibhnhaaDoorW.PrintLast Go.Proofs.YtgnonglkibhnhaaDoorW.PrintMore
attribute [local go_sem] a0u a0v a1m a1n Y7 Y8 a0w a0x
set_option linter.unusedVariables false
set_option linter.unusedSimpArgs false
set_option maxHeartbeats 16000000
set_option maxRecDepth 100000
def U0.l0 : Nat → Int → List Int → Bool → List Int → Int → Int → Option (List Int × Bool)
 | 0, _, _, _, _, _, _ => none
 | k + 1, x1, x6, x7, x10, x11, x12 => if x12 < x11 then (if 0 ≤ x12 then (if x12 < (x10.length : Int) then (if (rd x10 x12) = 126 then (some (([] : List Int), false)) else ((a4z.f x1 (rd x10 x12)).bind fun t182 => (if t182 = true then (U0.l0 k x1 x6 x7 x10 x11 (wrap64 (x12 + 1))) else (if x7 = true then (if x6.length < 140737488355328 then (U0.l0 k x1 (x6 ++ [Go.bits .xor .u8 (rd x10 x12) 32]) false x10 x11 (wrap64 (x12 + 1))) else (none)) else (if (rd x10 x12) = 125 then (U0.l0 k x1 x6 true x10 x11 (wrap64 (x12 + 1))) else (if x6.length < 140737488355328 then (U0.l0 k x1 (x6 ++ [rd x10 x12]) x7 x10 x11 (wrap64 (x12 + 1))) else (none))))))) else (none)) else (none)) else (if x7 = true then (some (([] : List Int), false)) else (some (x6, true)))
def U0.f (k : Nat) (l0 : List Int) (a1 : Int) : Option (List Int × Bool) := U0.l0 k a1 ([] : List Int) false l0 (l0.length : Int) 0
theorem U0.calls (k : Nat) (A0 : Option Addr) (c0 : Nat) (l0 : List Int) (a1 : Int) (r1 : List Int) (r2 : Bool) (w : World) (hr0 : Kd.C (Kd.int .u8) w A0 l0.length l0) (hc0 : l0.length ≤ c0) (h : U0.f k l0 a1 = some (r1, r2)) :
  Calls Tryd.prog 106 #[.slice A0 l0.length c0, .int .u32 a1] w fun e w' => ∃ v0_ : Value, e = .returned (.tuple #[v0_, .bool r2]) ∧ Kd.R (Kd.int .u8) 5 w' w.heap.size (fun _ => True) v0_ r1 ∧ Below w.heap.size w w' := by
 have HR0 := a_ hr0
 have HC0 := a_ hc0
 clear hr0 hc0
 have HB := a_ (Below.refl w.heap.size w)
 have H := h
 clear h
 unfold U0.f at H
 have H' := a_ H
 clear H
 go_enter Tryd.func106, Tryd.ntmps106
 go_wp2
 go_loopg [6, 7, 12] k (fun kq v6 v7 v12 w' => ∃ (a2u : List Int) (S9 : Bool) (y8 : Int), v7 = .bool S9 ∧ v12 = .int .i64 y8 ∧ Aside0 (U0.l0 kq a1 a2u S9 l0 (l0.length : Int) y8 = some (r1, r2)) ∧ Aside0 (kq ≤ k) ∧ Aside0 (Kd.R (Kd.int .u8) 5 w' w.heap.size (fun _ => True) v6 a2u) ∧ Aside0 (Below w.heap.size w w'))
 case atStart => exact ⟨([] : List Int), (false), (0), (by rfl), (by rfl), H', ⟨Nat.le_refl _⟩, ⟨by (exact Kd.a0I _ _ _ _ _)⟩, ⟨by exact HB.out⟩⟩
 case round =>
  clear H'
  obtain ⟨a2u, S9, y8, rfl, rfl, HA, HK1, a2d, HB⟩ := hrel
  cases gk with
  | zero => exact absurd HA.out (by simp [U0.l0])
  | succ k1 =>
   have H := HA.out
   clear HA
   simp only [U0.l0] at H
   by_cases c3 : y8 < (l0.length : Int)
   ·rw [if_pos c3] at H
    have a5g := decide_eq_true c3
    clear c3
    have a6r := a4w H
    replace H := U9 H
    have a9g := a4w H
    replace H := U9 H
    by_cases c6 : (rd l0 y8) = 126
    ·rw [if_pos c6] at H
     obtain ⟨a9K, b8v⟩ := bt_ c6
     clear c6
     obtain ⟨rfl, rfl⟩ := s2_ H
     have b0F : 0 ≤ (y8 : Int) := Y9
     have b0G : y8 < (l0.length : Int) := Y9
     obtain ⟨d0t, e181, a4T⟩ := Kd.a0W HR0.out y8 b0F b0G
     cases e181
     replace a4T := cb_ HB a4T
     replace b0F := eq_true b0F
     replace b0G := eq_true b0G
     go_wp2
     go_ret2
     exact ⟨_, by (rfl), by (exact Kd.a0I _ _ _ _ _), by exact HB.out⟩
    ·rw [if_neg c6] at H
     have a9K := beq_eq_false_iff_ne.mpr c6
     have b8v := bne_iff_ne.mpr c6
     replace H := Option.bind_eq_some_iff.mp H
     obtain ⟨t182, A70, H⟩ := H
     try dsimp only at H
     have A7 := a_ A70
     clear A70
     by_cases c8 : t182 = true
     ·subst c8
      rw [if_pos rfl] at H
      have H' := a_ H
      clear H
      have b0F : 0 ≤ (y8 : Int) := Y9
      have b0G : y8 < (l0.length : Int) := Y9
      obtain ⟨d0t, e181, a4T⟩ := Kd.a0W HR0.out y8 b0F b0G
      cases e181
      replace a4T := cb_ HB a4T
      replace b0F := eq_true b0F
      replace b0G := eq_true b0G
      go_wp2_with (first | (refine gl_ (some 26) Tryd.func111 #[.int .u32 a1, .int .u8 (rd l0 y8)] ?_; (with_reducible refine (a4z.calls a1 (rd l0 y8) true _ A7.out).mono ?_); rintro e w' ⟨rfl, ⟨nd, rfl⟩⟩; refine ⟨_, rfl, ?_⟩))
      go_roundg k1
      case measure => have := HK1.out; omega
      case rel => exact ⟨(a2u), (S9), (wrap64 (y8 + 1)), (by rfl), (by rfl), H', ⟨by have := HK1.out; omega⟩, ⟨by (with_reducible repeat (apply Kd.a1o)); exact a2d.out⟩, ⟨by repeat (with_reducible first | exact HB.out | apply o7)⟩⟩
     ·cases nt_ c8
      rw [if_neg a5a] at H
      by_cases c9 : S9 = true
      ·subst c9
       rw [if_pos rfl] at H
       have c10 := a0o H
       replace H := U9 H
       have c5q := a_ c10
       clear c10
       obtain ⟨g7B, d5J⟩ := is_ ((a2u ++ [Go.bits .xor .u8 (rd l0 y8) 32]) : List Int)
       rw [← d5J] at H
       have f5O := a_ d5J
       clear d5J
       have H' := a_ H
       clear H
       have b0F : 0 ≤ (y8 : Int) := Y9
       have b0G : y8 < (l0.length : Int) := Y9
       obtain ⟨d0t, e181, a4T⟩ := Kd.a0W HR0.out y8 b0F b0G
       cases e181
       replace a4T := cb_ HB a4T
       replace b0F := eq_true b0F
       replace b0G := eq_true b0G
       go_wp2_with (first | (refine gl_ (some 26) Tryd.func111 #[.int .u32 a1, .int .u8 (rd l0 y8)] ?_; (with_reducible refine (a4z.calls a1 (rd l0 y8) false _ A7.out).mono ?_); rintro e w' ⟨rfl, ⟨nd, rfl⟩⟩; refine ⟨_, rfl, ?_⟩) | ((with_reducible refine G7 (b := .append) (xs := #[.tmp 29, .tmp 32]) rfl ?_); at_builtin; refine Kd.a5c (Kd.int .u8) (w0 := w) w.heap.size rfl (.tmp 29) (.tmp 32) 22 5 (.int .u8 0) 1 rfl Tryd.underlying22 info5 rfl (by decide) (by omega) u6 a2u (Go.bits .xor .u8 (rd l0 y8) 32) [.int .u8 (Go.bits .xor .u8 (rd l0 y8) 32)] (fun _ => True) (fun _ => False) rfl rfl ?aP (fun _ hk => hk.elim) ?aF ?aO ?aB ?aS ?aL ?_; (case aP => exact rfl); (case aB => exact (by repeat (with_reducible first | exact HB.out | apply o7))); (case aF => exact (fun _ _ => trivial)); (case aO => exact (by (with_reducible repeat (apply Kd.a1o)); exact a2d.out)); (case aS => exact (y5 (by repeat (with_reducible first | exact HB.out | apply o7)))); (case aL => have := c5q.out; omega); intro h5N w11 ho hb hg hat; rw [← f5O.out] at ho; have f5P := a_ ho; replace HB := a_ hb; clear a2d; clear ho hb hg hat))
       go_roundg k1
       case measure => have := HK1.out; omega
       case rel => exact ⟨(g7B), (false), (wrap64 (y8 + 1)), (by rfl), (by rfl), H', ⟨by have := HK1.out; omega⟩, ⟨by exact f5P.out⟩, ⟨by exact HB.out⟩⟩
      ·cases nt_ c9
       rw [if_neg a5a] at H
       by_cases c12 : (rd l0 y8) = 125
       ·rw [if_pos c12] at H
        obtain ⟨b8m, c0s⟩ := bt_ c12
        clear c12
        have H' := a_ H
        clear H
        have b0F : 0 ≤ (y8 : Int) := Y9
        have b0G : y8 < (l0.length : Int) := Y9
        obtain ⟨d0t, e181, a4T⟩ := Kd.a0W HR0.out y8 b0F b0G
        cases e181
        replace a4T := cb_ HB a4T
        replace b0F := eq_true b0F
        replace b0G := eq_true b0G
        go_wp2_with (first | (refine gl_ (some 26) Tryd.func111 #[.int .u32 a1, .int .u8 (rd l0 y8)] ?_; (with_reducible refine (a4z.calls a1 (rd l0 y8) false _ A7.out).mono ?_); rintro e w' ⟨rfl, ⟨nd, rfl⟩⟩; refine ⟨_, rfl, ?_⟩))
        go_roundg k1
        case measure => have := HK1.out; omega
        case rel => exact ⟨(a2u), (true), (wrap64 (y8 + 1)), (by rfl), (by rfl), H', ⟨by have := HK1.out; omega⟩, ⟨by (with_reducible repeat (apply Kd.a1o)); exact a2d.out⟩, ⟨by repeat (with_reducible first | exact HB.out | apply o7)⟩⟩
       ·rw [if_neg c12] at H
        have b8m := beq_eq_false_iff_ne.mpr c12
        have c0s := bne_iff_ne.mpr c12
        have c13 := a0o H
        replace H := U9 H
        have f5Q := a_ c13
        clear c13
        obtain ⟨g7C, d5K⟩ := is_ ((a2u ++ [rd l0 y8]) : List Int)
        rw [← d5K] at H
        have f5R := a_ d5K
        clear d5K
        have H' := a_ H
        clear H
        have b0F : 0 ≤ (y8 : Int) := Y9
        have b0G : y8 < (l0.length : Int) := Y9
        obtain ⟨d0t, e181, a4T⟩ := Kd.a0W HR0.out y8 b0F b0G
        cases e181
        replace a4T := cb_ HB a4T
        replace b0F := eq_true b0F
        replace b0G := eq_true b0G
        go_wp2_with (first | (refine gl_ (some 26) Tryd.func111 #[.int .u32 a1, .int .u8 (rd l0 y8)] ?_; (with_reducible refine (a4z.calls a1 (rd l0 y8) false _ A7.out).mono ?_); rintro e w' ⟨rfl, ⟨nd, rfl⟩⟩; refine ⟨_, rfl, ?_⟩) | ((with_reducible refine G7 (b := .append) (xs := #[.tmp 16, .tmp 18]) rfl ?_); at_builtin; refine Kd.a5c (Kd.int .u8) (w0 := w) w.heap.size rfl (.tmp 16) (.tmp 18) 22 5 (.int .u8 0) 1 rfl Tryd.underlying22 info5 rfl (by decide) (by omega) u6 a2u (rd l0 y8) [.int .u8 (rd l0 y8)] (fun _ => True) (fun _ => False) rfl rfl ?aP (fun _ hk => hk.elim) ?aF ?aO ?aB ?aS ?aL ?_; (case aP => exact rfl); (case aB => exact (by repeat (with_reducible first | exact HB.out | apply o7))); (case aF => exact (fun _ _ => trivial)); (case aO => exact (by (with_reducible repeat (apply Kd.a1o)); exact a2d.out)); (case aS => exact (y5 (by repeat (with_reducible first | exact HB.out | apply o7)))); (case aL => have := f5Q.out; omega); intro h5O w14 ho hb hg hat; rw [← f5R.out] at ho; have f5S := a_ ho; replace HB := a_ hb; clear a2d; clear ho hb hg hat))
        go_roundg k1
        case measure => have := HK1.out; omega
        case rel => exact ⟨(g7C), (false), (wrap64 (y8 + 1)), (by rfl), (by rfl), H', ⟨by have := HK1.out; omega⟩, ⟨by exact f5S.out⟩, ⟨by exact HB.out⟩⟩
   ·rw [if_neg c3] at H
    have a5g := decide_eq_false c3
    clear c3
    by_cases c15 : S9 = true
    ·subst c15
     rw [if_pos rfl] at H
     obtain ⟨rfl, rfl⟩ := s2_ H
     go_wp2
     go_ret2
     exact ⟨_, by (rfl), by (exact Kd.a0I _ _ _ _ _), by exact HB.out⟩
    ·cases nt_ c15
     rw [if_neg a5a] at H
     obtain ⟨rfl, rfl⟩ := s2_ H
     go_wp2
     go_ret2
     exact ⟨_, by (rfl), by exact a2d.out, by exact HB.out⟩
def F6.bit (p x : Int) : Int := if Go.bits .and .u32 x 1 = 1 then Go.bits .xor .u32 (x / 2) p else x / 2
def F6.b0H (p : Int) : Nat → Int → Int
 | 0, x => x
 | m + 1, x => F6.bit p (F6.b0H p m x)
def F6.by (b : Bool) : Int := if b = true then 3988292384 else 33800
structure F6.Inv (w0 W : World) (B : Nat) (p : Int) (j : Nat) : Prop where mk :: (out : ∃ cs : Array Value, W.heap[B]? = some (.cells cs 167 (0, 0)) ∧ cs.size = 256 ∧ (∀ i : Nat, i < j → cs[i]? = some (.int .u32 (F6.b0H p 8 (i : Int)))) ∧ Below w0.heap.size w0 W ∧ w0.heap.size ≤ B)
theorem F6.zero (w : World) : (zeroValue 167).run Tryd.prog w = .ok (.agg (Array.replicate 256 (.int .u32 0))) w := by kernel_rfl
theorem F6.start (w : World) (p : Int) : F6.Inv w (w.alloc (.cells (Array.replicate 256 (.int .u32 0)) 167)) w.heap.size p 0 :=
 ⟨⟨_, heap_alloc_new w _, Array.size_replicate, (fun i hi => absurd hi (Nat.not_lt_zero i)), C9 (Below.refl _ _) _, Nat.le_refl _⟩⟩
theorem F6.next {w0 W : World} {B : Nat} {p : Int} {j : Nat} (hj : j < 256) (h : F6.Inv w0 W B p j) : F6.Inv w0 (W.setCell ⟨B, j, none⟩ (.int .u32 (F6.b0H p 8 (j : Int)))) B p (j + 1) := by
 obtain ⟨cs, h1, h2, h3, h4, h5⟩ := h.out
 refine ⟨⟨_, a4S h1 j _, by simpa using h2, ?_, o8 h4 h5, h5⟩⟩
 intro i hi
 rw [Array.getElem?_setIfInBounds]
 split
 ·rename_i e
  subst e
  split
  ·rfl
  ·rename_i hn
   exact absurd (show j < cs.size by omega) hn
 ·rename_i e
  exact h3 i (by omega)
theorem F6.cell {w0 W : World} {B : Nat} {p : Int} {j : Nat} (hj : j < 256) (h : F6.Inv w0 W B p j) : ∃ c, W.cell? ⟨B, j, none⟩ = some c ∧ W.frozen? ⟨B, j, none⟩ = false := by
 obtain ⟨cs, h1, h2, h3, h4, h5⟩ := h.out
 exact ⟨_, (E5 h1 j).trans (Array.getElem?_eq_getElem (by omega)), l7 h1 j⟩
theorem F6.c5r (p : Int) (m : Nat) (x : Int) (h : Go.bits .and .u32 (F6.b0H p m x) 1 = 1) : F6.b0H p (m + 1) x = Go.bits .xor .u32 (F6.b0H p m x / 2) p := by
 rw [F6.b0H, F6.bit, if_pos h]
theorem F6.d0u (p : Int) (m : Nat) (x : Int) (h : ¬ Go.bits .and .u32 (F6.b0H p m x) 1 = 1) : F6.b0H p (m + 1) x = F6.b0H p m x / 2 := by
 rw [F6.b0H, F6.bit, if_neg h]
theorem F6.calls (b : Bool) (w : World) :
  Calls Tryd.prog 113 #[.bool b] w fun e w' => ∃ B : Nat, e = .returned (.pointer (some ⟨B, 0, none⟩)) ∧ F6.Inv w w' B (F6.by b) 256 := by
 cases b with
 | true =>
  have hby : F6.by true = 3988292384 := rfl
  rw [hby]
  go_enter Tryd.func113, Tryd.ntmps113
  go_wp2
  try (rw [F6.zero]; go_wp2)
  go_loopg [9] 256 (fun kq v9 w' => ∃ j : Nat, Aside0 (kq + j = 256) ∧ v9 = .int .i64 (j : Int) ∧ Aside0 (F6.Inv w w' w.heap.size 3988292384 j))
  case atStart => exact ⟨0, ⟨rfl⟩, rfl, ⟨F6.start w _⟩⟩
  case round =>
   obtain ⟨j, HJ, rfl, HI⟩ := hrel
   have hj := HJ.out
   by_cases hlt : j < 256
   ·obtain ⟨k1, rfl⟩ : ∃ k1, gk = k1 + 1 := ⟨gk - 1, by omega⟩
    have hjc : (j : Int) < 256 := by omega
    go_wp2
    go_loopg [14, 6] 8 (fun kq v14 v6 w'' => ∃ m : Nat, Aside0 (kq + m = 8) ∧ v14 = .int .i64 (m : Int) ∧ v6 = .int .u32 (F6.b0H 3988292384 m (j : Int)) ∧ Aside0 (F6.Inv w w'' w.heap.size 3988292384 j))
    case atStart => exact ⟨0, ⟨rfl⟩, rfl, rfl, HI⟩
    case round =>
     obtain ⟨m, HM, rfl, rfl, HI⟩ := hrel
     have hm := HM.out
     by_cases hmt : m < 8
     ·obtain ⟨k2, rfl⟩ : ∃ k2, gk = k2 + 1 := ⟨gk - 1, by omega⟩
      have hmc : (m : Int) < 8 := by omega
      by_cases hb : Go.bits .and .u32 (F6.b0H 3988292384 m (j : Int)) 1 = 1
      ·go_wp2
       go_roundg k2
       case measure => omega
       case rel => exact ⟨m + 1, ⟨by omega⟩, by go_num, (by rw [F6.c5r _ _ _ hb]), HI⟩
      ·go_wp2
       go_roundg k2
       case measure => omega
       case rel => exact ⟨m + 1, ⟨by omega⟩, by go_num, (by rw [F6.d0u _ _ _ hb]), HI⟩
     ·have hmc : ¬ (m : Int) < 8 := by omega
      obtain rfl : m = 8 := by omega
      obtain ⟨c, hcell, hfr⟩ := F6.cell hlt HI.out
      have HN := a_ (F6.next hlt HI.out)
      go_wp2
      go_roundg k1
      case measure => omega
      case rel => exact ⟨j + 1, ⟨by omega⟩, by go_num, HN⟩
   ·have hjc : ¬ (j : Int) < 256 := by omega
    go_wp2
    go_ret
    obtain rfl : j = 256 := by omega
    exact ⟨_, rfl, HI.out⟩
 | false =>
  have hby : F6.by false = 33800 := rfl
  rw [hby]
  go_enter Tryd.func113, Tryd.ntmps113
  go_wp2
  try (rw [F6.zero]; go_wp2)
  go_loopg [9] 256 (fun kq v9 w' => ∃ j : Nat, Aside0 (kq + j = 256) ∧ v9 = .int .i64 (j : Int) ∧ Aside0 (F6.Inv w w' w.heap.size 33800 j))
  case atStart => exact ⟨0, ⟨rfl⟩, rfl, ⟨F6.start w _⟩⟩
  case round =>
   obtain ⟨j, HJ, rfl, HI⟩ := hrel
   have hj := HJ.out
   by_cases hlt : j < 256
   ·obtain ⟨k1, rfl⟩ : ∃ k1, gk = k1 + 1 := ⟨gk - 1, by omega⟩
    have hjc : (j : Int) < 256 := by omega
    go_wp2
    go_loopg [14, 6] 8 (fun kq v14 v6 w'' => ∃ m : Nat, Aside0 (kq + m = 8) ∧ v14 = .int .i64 (m : Int) ∧ v6 = .int .u32 (F6.b0H 33800 m (j : Int)) ∧ Aside0 (F6.Inv w w'' w.heap.size 33800 j))
    case atStart => exact ⟨0, ⟨rfl⟩, rfl, rfl, HI⟩
    case round =>
     obtain ⟨m, HM, rfl, rfl, HI⟩ := hrel
     have hm := HM.out
     by_cases hmt : m < 8
     ·obtain ⟨k2, rfl⟩ : ∃ k2, gk = k2 + 1 := ⟨gk - 1, by omega⟩
      have hmc : (m : Int) < 8 := by omega
      by_cases hb : Go.bits .and .u32 (F6.b0H 33800 m (j : Int)) 1 = 1
      ·go_wp2
       go_roundg k2
       case measure => omega
       case rel => exact ⟨m + 1, ⟨by omega⟩, by go_num, (by rw [F6.c5r _ _ _ hb]), HI⟩
      ·go_wp2
       go_roundg k2
       case measure => omega
       case rel => exact ⟨m + 1, ⟨by omega⟩, by go_num, (by rw [F6.d0u _ _ _ hb]), HI⟩
     ·have hmc : ¬ (m : Int) < 8 := by omega
      obtain rfl : m = 8 := by omega
      obtain ⟨c, hcell, hfr⟩ := F6.cell hlt HI.out
      have HN := a_ (F6.next hlt HI.out)
      go_wp2
      go_roundg k1
      case measure => omega
      case rel => exact ⟨j + 1, ⟨by omega⟩, by go_num, HN⟩
   ·have hjc : ¬ (j : Int) < 256 := by omega
    go_wp2
    go_ret
    obtain rfl : j = 256 := by omega
    exact ⟨_, rfl, HI.out⟩
def Y3.stp (p reg c : Int) : Int := Go.bits .xor .u32 (reg / 256) (F6.b0H p 8 (Go.bits .xor .u8 (reg % 256) c))
def Y3.f (a0 : Int) (l1 : List Int) (a2 : Bool) : Option (Int) := (a3L.f a2).bind fun m => some (l1.foldl (Y3.stp (F6.by a2)) (Go.bits .and .u32 a0 m))
theorem Y3.at_ {w0 W : World} {B : Nat} {p : Int} (h : F6.Inv w0 W B p 256) (i : Int) (h0 : 0 ≤ i) (h1 : i < 256) : W.cell? ⟨B, i.toNat, none⟩ = some (.int .u32 (F6.b0H p 8 i)) := by
 obtain ⟨cs, g1, g2, g3, g4, g5⟩ := h.out
 obtain ⟨j, rfl⟩ := Int.eq_ofNat_of_zero_le h0
 exact (E5 g1 j).trans (g3 j (by omega))
theorem Y3.snoc (p r0 : Int) (l : List Int) (j : Nat) (h : j < l.length) : (l.take (j + 1)).foldl (Y3.stp p) r0 = Y3.stp p ((l.take j).foldl (Y3.stp p) r0) (rd l (j : Int)) := by
 unfold rd
 rw [List.take_succ_eq_append_getElem h, List.foldl_append]
 simp [h]
theorem Y3.range (a b : Int) : 0 ≤ Go.bits .xor .u8 a b ∧ Go.bits .xor .u8 a b < 256 := by
 unfold Go.bits
 simp only [IntKind.wrap_u8]
 omega
theorem Y3.calls (a0 : Int) (A1 : Option Addr) (c1 : Nat) (l1 : List Int) (a2 : Bool) (r : Int) (w : World) (hr1 : Kd.C (Kd.int .u8) w A1 l1.length l1) (hc1 : l1.length ≤ c1) (h : Y3.f a0 l1 a2 = some r) :
  Calls Tryd.prog 109 #[.int .u32 a0, .slice A1 l1.length c1, .bool a2] w fun e w' => e = .returned (.int .u32 r) ∧ Below w.heap.size w w' := by
 obtain ⟨m, hm, hr⟩ : ∃ m, a3L.f a2 = some m ∧ l1.foldl (Y3.stp (F6.by a2)) (Go.bits .and .u32 a0 m) = r := by
  unfold Y3.f at h
  cases e : a3L.f a2 with
  | none => rw [e] at h; cases h
  | some m => rw [e] at h; exact ⟨m, rfl, Option.some.inj h⟩
 have HR := a_ hr
 have HC := a_ hr1
 have HN := a_ hr1.2.1
 clear h hr hr1
 go_enter Tryd.func109, Tryd.ntmps109
 go_wp2_with fail
 refine (a3L.calls a2 m _ hm).mono ?_
 rintro e w1 ⟨rfl, ⟨nd, rfl⟩⟩
 by_cases hl : l1 = []
 ·subst hl
  have hlen : (([] : List Int).length : Int) = 0 := rfl
  go_wp2
  go_ret
  refine ⟨by rw [← HR.out]; rfl, ?_⟩
  exact o7 (Below.refl _ _) nd
 ·have hlen : ¬ (l1.length : Int) = 0 := by
   intro h0
   exact hl (List.eq_nil_of_length_eq_zero (by omega))
  go_wp2_with fail
  refine (F6.calls a2 _).mono ?_
  rintro e w2 ⟨B, rfl, hI⟩
  have HI := a_ hI
  clear hI
  go_wp2
  go_loopg [22, 0] l1.length (fun kq v22 v0 w' => ∃ j : Nat, Aside0 (kq + j = l1.length) ∧ v22 = .int .i64 (j : Int) ∧ v0 = .int .u32 ((l1.take j).foldl (Y3.stp (F6.by a2)) (Go.bits .and .u32 a0 m)) ∧ Aside0 (F6.Inv (w.drewN nd) w' B (F6.by a2) 256))
  case atStart => exact ⟨0, ⟨rfl⟩, rfl, rfl, HI⟩
  case round =>
   obtain ⟨j, HJ, rfl, rfl, HI⟩ := hrel
   have hj := HJ.out
   have hn := HN.out
   by_cases hlt : j < l1.length
   ·obtain ⟨k1, rfl⟩ : ∃ k1, gk = k1 + 1 := ⟨gk - 1, by omega⟩
    have hB : Below w.heap.size w wr := (o7 (Below.refl _ _) nd).trans HI.out.out.choose_spec.2.2.2.1
    have p1 : 0 ≤ (j : Int) := by omega
    have q1 : (j : Int) < (l1.length : Int) := by omega
    obtain ⟨ad, e1, hx⟩ := Kd.a0W HC.out (j : Int) p1 q1
    cases e1
    simp only [Int.toNat_natCast] at hx
    replace hx := (hB.cell (World.block_lt_of_cell? w _ hx)).trans hx
    have HS := a_ (Y3.snoc (F6.by a2) (Go.bits .and .u32 a0 m) l1 j hlt)
    generalize hg : (l1.take j).foldl (Y3.stp (F6.by a2)) (Go.bits .and .u32 a0 m) = g at HS ⊢
    have i0 : 0 ≤ Go.bits .xor .u8 (g % 256) (rd l1 (j : Int)) := (Y3.range _ _).1
    have i1 : Go.bits .xor .u8 (g % 256) (rd l1 (j : Int)) < 256 := (Y3.range _ _).2
    have ht := Y3.at_ HI.out _ i0 i1
    go_wp2
    go_roundg k1
    case measure => omega
    case rel => exact ⟨j + 1, ⟨by omega⟩, by go_num, (by rw [HS.out]; rfl), HI⟩
   ·have q1 : ¬ (j : Int) < (l1.length : Int) := by omega
    go_wp2
    go_ret
    refine ⟨by rw [← HR.out, List.take_of_length_le (by omega)]; rfl, ?_⟩
    exact (o7 (Below.refl _ _) nd).trans HI.out.out.choose_spec.2.2.2.1
def a7S.f (l0 : List Int) (a1 : Bool) : Option (Bool) := if a1 = true then ((a2r.f a1).bind fun c7s => (if (l0.length : Int) ≥ c7s then ((a3L.f a1).bind fun e1y => ((Y3.f e1y l0 a1).bind fun e8v => (some (e8v == 3736805603)))) else (some false))) else ((a2r.f a1).bind fun c7t => (if (l0.length : Int) ≥ c7t then ((a3L.f a1).bind fun t193 => ((Y3.f t193 l0 a1).bind fun t194 => (some (t194 == 61624)))) else (some false)))
theorem a7S.calls (A0 : Option Addr) (c0 : Nat) (l0 : List Int) (a1 : Bool) (r : Bool) (w : World) (hr0 : Kd.C (Kd.int .u8) w A0 l0.length l0) (hc0 : l0.length ≤ c0) (h : a7S.f l0 a1 = some r) :
  Calls Tryd.prog 112 #[.slice A0 l0.length c0, .bool a1] w fun e w' => e = .returned (.bool r) ∧ Below w.heap.size w w' := by
 have HR0 := a_ hr0
 have HC0 := a_ hc0
 clear hr0 hc0
 have HB := a_ (Below.refl w.heap.size w)
 have H := h
 clear h
 unfold a7S.f at H
 by_cases c3 : a1 = true
 ·subst c3
  rw [if_pos rfl] at H
  replace H := Option.bind_eq_some_iff.mp H
  obtain ⟨c7s, A40, H⟩ := H
  try dsimp only at H
  have A4 := a_ A40
  clear A40
  by_cases c5 : (l0.length : Int) ≥ c7s
  ·rw [if_pos c5] at H
   have a9g : decide (c7s ≤ (l0.length : Int)) = true := decide_eq_true c5
   clear c5
   replace H := Option.bind_eq_some_iff.mp H
   obtain ⟨e1y, A60, H⟩ := H
   try dsimp only at H
   have A6 := a_ A60
   clear A60
   replace H := Option.bind_eq_some_iff.mp H
   obtain ⟨e8v, A70, H⟩ := H
   try dsimp only at H
   have A7 := a_ A70
   clear A70
   obtain rfl := Option.some.inj H
   go_enter Tryd.func112, Tryd.ntmps112
   go_wp2_with (first | (refine gl_ (some 10) Tryd.func105 #[.bool true] ?_ (hargs := by (try simp only [List.map_toArray, List.map_cons, List.map_nil]); first | done | rfl | (simp only [List.length_drop, List.length_take]; rfl)); (with_reducible refine (a2r.calls true c7s _ A4.out).mono ?_); rintro e w' ⟨rfl, ⟨nd, rfl⟩⟩; refine ⟨_, rfl, ?_⟩) | (go_at_call 110; (with_reducible refine (a3L.calls true e1y _ A6.out).mono ?_); rintro e w' ⟨rfl, ⟨nd, rfl⟩⟩) | (go_at_call 109; (with_reducible refine (Y3.calls e1y _ _ l0 true e8v _ ?Q5 ?Q7 A7.out).mono ?_); (case Q5 => repeat (first | exact HR0.out | (with_reducible refine Kd.a7C ?_ _) | (with_reducible refine Kd.a2V ?_ _) | (with_reducible refine Kd.a4l ?_))); (case Q7 => exact HC0.out); rintro e w8 ⟨rfl, hb⟩; replace HB := a_ (G9 (by repeat (first | (with_reducible first | exact HB.out | apply C9 | apply o7 | apply D7) | exact HB.out)) hb); (try clear hb); (try clear hb2); (try clear hk); (try clear hi)))
   go_ret
   exact ⟨by first | rfl | (simp [P7, P8] <;> rfl) | (simp [*, P7, P8] <;> rfl), by repeat (first | (with_reducible first | exact HB.out | apply C9 | apply o7 | apply D7) | exact HB.out)⟩
  ·rw [if_neg c5] at H
   have a9g : decide (c7s ≤ (l0.length : Int)) = false := decide_eq_false c5
   clear c5
   obtain rfl := Option.some.inj H
   go_enter Tryd.func112, Tryd.ntmps112
   go_wp2_with (first | (refine gl_ (some 10) Tryd.func105 #[.bool true] ?_ (hargs := by (try simp only [List.map_toArray, List.map_cons, List.map_nil]); first | done | rfl | (simp only [List.length_drop, List.length_take]; rfl)); (with_reducible refine (a2r.calls true c7s _ A4.out).mono ?_); rintro e w' ⟨rfl, ⟨nd, rfl⟩⟩; refine ⟨_, rfl, ?_⟩))
   go_ret
   exact ⟨by first | rfl | (simp [P7, P8] <;> rfl) | (simp [*, P7, P8] <;> rfl), by repeat (first | (with_reducible first | exact HB.out | apply C9 | apply o7 | apply D7) | exact HB.out)⟩
 ·cases nt_ c3
  rw [if_neg a5a] at H
  replace H := Option.bind_eq_some_iff.mp H
  obtain ⟨c7t, A90, H⟩ := H
  try dsimp only at H
  have A9 := a_ A90
  clear A90
  by_cases c10 : (l0.length : Int) ≥ c7t
  ·rw [if_pos c10] at H
   have b34 : decide (c7t ≤ (l0.length : Int)) = true := decide_eq_true c10
   clear c10
   replace H := Option.bind_eq_some_iff.mp H
   obtain ⟨t193, b35, H⟩ := H
   try dsimp only at H
   have A11 := a_ b35
   clear b35
   replace H := Option.bind_eq_some_iff.mp H
   obtain ⟨t194, b8X, H⟩ := H
   try dsimp only at H
   have A12 := a_ b8X
   clear b8X
   obtain rfl := Option.some.inj H
   go_enter Tryd.func112, Tryd.ntmps112
   go_wp2_with (first | (refine gl_ (some 10) Tryd.func105 #[.bool false] ?_ (hargs := by (try simp only [List.map_toArray, List.map_cons, List.map_nil]); first | done | rfl | (simp only [List.length_drop, List.length_take]; rfl)); (with_reducible refine (a2r.calls false c7t _ A9.out).mono ?_); rintro e w' ⟨rfl, ⟨nd, rfl⟩⟩; refine ⟨_, rfl, ?_⟩) | (go_at_call 110; (with_reducible refine (a3L.calls false t193 _ A11.out).mono ?_); rintro e w' ⟨rfl, ⟨nd, rfl⟩⟩) | (go_at_call 109; (with_reducible refine (Y3.calls t193 _ _ l0 false t194 _ ?Q5 ?Q7 A12.out).mono ?_); (case Q5 => repeat (first | exact HR0.out | (with_reducible refine Kd.a7C ?_ _) | (with_reducible refine Kd.a2V ?_ _) | (with_reducible refine Kd.a4l ?_))); (case Q7 => exact HC0.out); rintro e w13 ⟨rfl, hb⟩; replace HB := a_ (G9 (by repeat (first | (with_reducible first | exact HB.out | apply C9 | apply o7 | apply D7) | exact HB.out)) hb); (try clear hb); (try clear hb2); (try clear hk); (try clear hi)))
   go_ret
   exact ⟨by first | rfl | (simp [P7, P8] <;> rfl) | (simp [*, P7, P8] <;> rfl), by repeat (first | (with_reducible first | exact HB.out | apply C9 | apply o7 | apply D7) | exact HB.out)⟩
  ·rw [if_neg c10] at H
   have b34 : decide (c7t ≤ (l0.length : Int)) = false := decide_eq_false c10
   clear c10
   obtain rfl := Option.some.inj H
   go_enter Tryd.func112, Tryd.ntmps112
   go_wp2_with (first | (refine gl_ (some 10) Tryd.func105 #[.bool false] ?_ (hargs := by (try simp only [List.map_toArray, List.map_cons, List.map_nil]); first | done | rfl | (simp only [List.length_drop, List.length_take]; rfl)); (with_reducible refine (a2r.calls false c7t _ A9.out).mono ?_); rintro e w' ⟨rfl, ⟨nd, rfl⟩⟩; refine ⟨_, rfl, ?_⟩))
   go_ret
   exact ⟨by first | rfl | (simp [P7, P8] <;> rfl) | (simp [*, P7, P8] <;> rfl), by repeat (first | (with_reducible first | exact HB.out | apply C9 | apply o7 | apply D7) | exact HB.out)⟩
def a8Q.f (l0 : List Int) (a1 : Bool) : Option (List Int × Bool) := (a7S.f l0 a1).bind fun e8w => (if e8w = true then ((a2r.f a1).bind fun t196 => (if 0 ≤ (wrap64 ((l0.length : Int) - t196)) then (if (wrap64 ((l0.length : Int) - t196)) ≤ (l0.length : Int) then ((J6.f (l0.take ((wrap64 ((l0.length : Int) - t196)) : Int).toNat)).bind fun t198 => (some (t198, true))) else (none)) else (none))) else (some (([] : List Int), false)))
theorem a8Q.calls (A0 : Option Addr) (c0 : Nat) (l0 : List Int) (a1 : Bool) (r1 : List Int) (r2 : Bool) (w : World) (hr0 : Kd.C (Kd.int .u8) w A0 l0.length l0) (hc0 : l0.length ≤ c0) (h : a8Q.f l0 a1 = some (r1, r2)) :
  Calls Tryd.prog 107 #[.slice A0 l0.length c0, .bool a1] w fun e w' => ∃ v0_ : Value, e = .returned (.tuple #[v0_, .bool r2]) ∧ Kd.R (Kd.int .u8) 5 w' w.heap.size (fun _ => True) v0_ r1 ∧ Below w.heap.size w w' := by
 have HR0 := a_ hr0
 have HC0 := a_ hc0
 clear hr0 hc0
 have HB := a_ (Below.refl w.heap.size w)
 have H := h
 clear h
 unfold a8Q.f at H
 replace H := Option.bind_eq_some_iff.mp H
 obtain ⟨e8w, A30, H⟩ := H
 try dsimp only at H
 have A3 := a_ A30
 clear A30
 by_cases c4 : e8w = true
 ·subst c4
  rw [if_pos rfl] at H
  replace H := Option.bind_eq_some_iff.mp H
  obtain ⟨t196, A50, H⟩ := H
  try dsimp only at H
  have A5 := a_ A50
  clear A50
  obtain ⟨ji6, b6G⟩ := si_ ((wrap64 ((l0.length : Int) - t196)))
  rw [b6G] at H
  have e4J : (IntKind.i64.wrap ((l0.length : Int) - t196)) = ji6 := (a6w _).trans b6G
  have c7 := a0o H
  replace H := U9 H
  have a9h := eq_true c7
  have b5j := decide_eq_true c7
  clear c7
  have c8 := a0o H
  replace H := U9 H
  have b8l := eq_true c8
  have d9C := decide_eq_true c8
  clear c8
  replace H := Option.bind_eq_some_iff.mp H
  obtain ⟨t198, A90, H⟩ := H
  try dsimp only at H
  have A9 := a_ A90
  clear A90
  obtain ⟨rfl, rfl⟩ := s2_ H
  go_enter Tryd.func107, Tryd.ntmps107
  go_wp2_with (first | (refine gl_ (some 8) Tryd.func112 #[.slice A0 l0.length c0, .bool a1] ?_; (with_reducible refine (a7S.calls _ _ l0 a1 true _ HR0.out HC0.out A3.out).mono ?_); rintro e w10 ⟨rfl, hb⟩; refine ⟨_, rfl, ?_⟩; replace HB := W9 HB hb; (try clear hb)) | (refine gl_ (some 14) Tryd.func105 #[.bool a1] ?_; (with_reducible refine (a2r.calls a1 t196 _ A5.out).mono ?_); rintro e w' ⟨rfl, ⟨nd, rfl⟩⟩; refine ⟨_, rfl, ?_⟩; obtain ⟨h5P, e4T, _, e4U, _⟩ := info_parts info5; obtain ⟨g7D, f5T, f5U⟩ := b2F (P := Tryd.prog) (Value.int .u8) 0 22 5 .i64 Tryd.underlying22 e4T e4U A0 c0 l0 (ji6) (Y9) (Y9) HC0.out; have f5V := a_ (Kd.a0K (h1 := fun _ => rfl) (f5T _ (Kd.a0p HR0.out))); have f5W := a_ f5U; clear f5T f5U e4T e4U) | (refine gl_ (some 17) Tryd.func96 #[.slice A0 (l0.take ((ji6) : Int).toNat).length c0] ?_ (hargs := by (try simp only [List.map_toArray, List.map_cons, List.map_nil]); (rw [show (l0.take ((ji6) : Int).toNat).length = (ji6).toNat from (by rw [List.length_take]; have h_ : ((ji6) : Int) ≤ (l0.length : Int) := Y9; omega)] <;> rfl)); (with_reducible refine (J6.calls _ _ (l0.take ((ji6) : Int).toNat) t198 _ ?Q5 ?Q7 A9.out).mono ?_); (case Q5 => repeat ((exact (Kd.D6 f5V.out (by repeat (with_reducible first | exact HB.out | apply o7)))))); (case Q7 => exact f5W.out); rintro e w12 ⟨h5Q, rfl, ho0, hb⟩; refine ⟨_, rfl, ?_⟩; have f5X := a_ (Kd.X4 ho0 (y5 (by repeat (with_reducible first | exact HB.out | apply o7)))); replace HB := a_ (G9 (by repeat (with_reducible first | exact HB.out | apply o7)) hb); (try clear hb); (try clear ho0)))
  go_ret2
  exact ⟨_, by (rfl), by exact f5X.out, by exact HB.out⟩
 ·cases nt_ c4
  rw [if_neg a5a] at H
  obtain ⟨rfl, rfl⟩ := s2_ H
  go_enter Tryd.func107, Tryd.ntmps107
  go_wp2_with (first | (refine gl_ (some 8) Tryd.func112 #[.slice A0 l0.length c0, .bool a1] ?_; (with_reducible refine (a7S.calls _ _ l0 a1 false _ HR0.out HC0.out A3.out).mono ?_); rintro e w13 ⟨rfl, hb⟩; refine ⟨_, rfl, ?_⟩; replace HB := W9 HB hb; (try clear hb)))
  go_ret2
  exact ⟨_, by (rfl), by (exact Kd.a0I _ _ _ _ _), by exact HB.out⟩
def DF.size (wide : Bool) : Int := if wide = true then 4 else 2
def DF.close (k : Nat) (m : Int) (wide : Bool) (s : DF) : Option DF :=
 (U0.f k s.held m).bind fun x =>
  if x.2 = true then
   if x.1.length = 0 then some s
   else if (x.1.length : Int) < DF.size wide + 2 then some { s with ts := wrap64 (s.ts + 1) }
   else if (x.1.length : Int) > DF.size wide + 65535 then some { s with tl := wrap64 (s.tl + 1) }
   else (a8Q.f x.1 wide).bind fun y =>
    if y.2 = true then if s.done.length < 5864062014805 then some { s with tg := wrap64 (s.tg + 1), done := s.done ++ [y.1] } else none
    else some { s with tw := wrap64 (s.tw + 1) }
  else some { s with ta := wrap64 (s.ta + 1) }
theorem DF.e8x (wide : Bool) : a2r.f wide = some (DF.size wide) := by cases wide <;> rfl
theorem DF.size_le (wide : Bool) : 2 ≤ DF.size wide ∧ DF.size wide ≤ 4 := by cases wide <;> decide
theorem b1B.calls (k : Nat) (B D p : Nat) (vh vd : Value) (m : Int) (wide : Bool) (s s' : DF) (W : World) (h : DFI B D W p vh vd m wide s) (hB : B ≤ D) (hD : D ≤ W.heap.size) (hs : DF.close k m wide s = some s') :
  Calls Tryd.prog 98 #[.pointer (some ⟨p, 0, none⟩), vh] W fun e W' => e = .returned (.tuple #[]) ∧ Aside0 (∃ vd', DFI B D W' p vh vd' m wide s' ∧ DFK B W W' (fun k => k = p ∨ some k = vd.ownBlock)) := by
 have hu := Tryd.underlying120
 have hu2 := Tryd.underlying118
 unfold DF.close at hs
 obtain ⟨⟨x, xo⟩, hx, hs⟩ := Option.bind_eq_some_iff.1 hs
 have hz := DF.size_le wide
 have hzf := DF.e8x wide
 generalize DF.size wide = z at hs hz hzf
 have HZF := a_ hzf
 clear hzf
 obtain ⟨hz1, hz2⟩ := hz
 obtain ⟨Ah, ch, rfl, hle, hC⟩ := Kd.b3K h.held
 have HLE := a_ hle
 have HC := a_ hC
 have HX := a_ hx
 have HS := a_ hs
 have HH := a_ h
 have HBB := a_ hB
 have HD := a_ hD
 have hc0 : W.cell? ⟨p, 0, none⟩ = some (.int .u32 m) := h.cell 0 _ rfl
 have hf0 := h.free 0
 have hc1 : W.cell? ⟨p, 1, none⟩ = some (.bool wide) := h.cell 1 _ rfl
 have hf1 := h.free 1
 have hc4 : W.cell? ⟨p, 4, none⟩ = some (.int .i64 s.tg) := h.cell 4 _ rfl
 have hf4 := h.free 4
 have hc5 : W.cell? ⟨p, 5, none⟩ = some (.int .i64 s.ta) := h.cell 5 _ rfl
 have hf5 := h.free 5
 have hc6 : W.cell? ⟨p, 6, none⟩ = some (.int .i64 s.ts) := h.cell 6 _ rfl
 have hf6 := h.free 6
 have hc7 : W.cell? ⟨p, 7, none⟩ = some (.int .i64 s.tl) := h.cell 7 _ rfl
 have hf7 := h.free 7
 have hc8 : W.cell? ⟨p, 8, none⟩ = some (.int .i64 s.tw) := h.cell 8 _ rfl
 have hf8 := h.free 8
 have hc9 : W.cell? ⟨p, 9, none⟩ = some (vd) := h.cell 9 _ rfl
 have hf9 := h.free 9
 clear h hs hx hle hC hB hD
 go_enter Tryd.func98, Tryd.ntmps98
 go_wp2_with (fail)
 refine (U0.calls k Ah ch s.held m x xo W HC.out HLE.out HX.out).mono ?_
 rintro e w1 ⟨vx, rfl, hox, hb⟩
 have HH1 := a_ (HH.out.below hb)
 have HK1 := a_ (DFK.below (S := fun k => k = p ∨ some k = vd.ownBlock) (DFK.refl B W _) (Nat.le_trans HBB.out HD.out) hb)
 have HD1 := a_ (Nat.le_trans HD.out hb.size)
 obtain ⟨Ax, cx, rfl⟩ := Kd.J4 hox
 have HOX := a_ hox
 have LX := a_ (Kd.G5 hox).2.2.2.1
 clear hox hb hc0 hf0 hc1 hf1 hc4 hf4 hc5 hf5 hc6 hf6 hc7 hf7 hc8 hf8 hc9 hf9
 have hc0 : w1.cell? ⟨p, 0, none⟩ = some (.int .u32 m) := HH1.out.cell 0 _ rfl
 have hf0 := HH1.out.free 0
 have hc1 : w1.cell? ⟨p, 1, none⟩ = some (.bool wide) := HH1.out.cell 1 _ rfl
 have hf1 := HH1.out.free 1
 have hc4 : w1.cell? ⟨p, 4, none⟩ = some (.int .i64 s.tg) := HH1.out.cell 4 _ rfl
 have hf4 := HH1.out.free 4
 have hc5 : w1.cell? ⟨p, 5, none⟩ = some (.int .i64 s.ta) := HH1.out.cell 5 _ rfl
 have hf5 := HH1.out.free 5
 have hc6 : w1.cell? ⟨p, 6, none⟩ = some (.int .i64 s.ts) := HH1.out.cell 6 _ rfl
 have hf6 := HH1.out.free 6
 have hc7 : w1.cell? ⟨p, 7, none⟩ = some (.int .i64 s.tl) := HH1.out.cell 7 _ rfl
 have hf7 := HH1.out.free 7
 have hc8 : w1.cell? ⟨p, 8, none⟩ = some (.int .i64 s.tw) := HH1.out.cell 8 _ rfl
 have hf8 := HH1.out.free 8
 have hc9 : w1.cell? ⟨p, 9, none⟩ = some (vd) := HH1.out.cell 9 _ rfl
 have hf9 := HH1.out.free 9
 go_wp2_with (fail)
 refine (a2r.calls wide _ _ HZF.out).mono ?_
 rintro e w2 ⟨rfl, ⟨nd, rfl⟩⟩
 cases xo with
 | false =>
  have hs := HS.out
  rw [if_neg (by decide)] at hs
  obtain rfl := Option.some.inj hs
  clear hs HS
  go_wp2
  go_end0
  exact ⟨rfl, ⟨_, (HH1.out.drewN nd).set 5 _ { s with ta := wrap64 (s.ta + 1) } rfl rfl rfl, (HK1.out.drewN nd).set (Or.inl rfl) HH1.out.le 5 _⟩⟩
 | true =>
  have hs := HS.out
  rw [if_pos rfl] at hs
  clear HS
  by_cases hx0 : x.length = 0
  ·rw [if_pos hx0] at hs
   obtain rfl := Option.some.inj hs
   obtain rfl := List.eq_nil_of_length_eq_zero hx0
   clear hs hx0
   simp only [List.length_nil]
   go_wp2
   go_end0
   exact ⟨rfl, ⟨_, HH1.out.drewN nd, HK1.out.drewN nd⟩⟩
  ·rw [if_neg hx0] at hs
   have e0 : ((x.length : Int) == 0) = false := by simpa using hx0
   have e1 : decide ((x.length : Int) = 0) = false := by simpa using hx0
   have e2 : (x.length == 0) = false := by simpa using hx0
   have e3 : ¬ (x = []) := fun e_ => hx0 (by rw [e_]; rfl)
   by_cases hx1 : (x.length : Int) < z + 2
   ·rw [if_pos hx1] at hs
    obtain rfl := Option.some.inj hs
    have f1 : decide ((x.length : Int) < z + 2) = true := decide_eq_true hx1
    clear hs hx0
    go_wp2
    go_end0
    exact ⟨rfl, ⟨_, (HH1.out.drewN nd).set 6 _ { s with ts := wrap64 (s.ts + 1) } rfl rfl rfl, (HK1.out.drewN nd).set (Or.inl rfl) HH1.out.le 6 _⟩⟩
   ·rw [if_neg hx1] at hs
    have f1 : decide ((x.length : Int) < z + 2) = false := decide_eq_false hx1
    by_cases hx2 : (x.length : Int) > z + 65535
    ·rw [if_pos hx2] at hs
     obtain rfl := Option.some.inj hs
     have f2 : decide (z + 65535 < (x.length : Int)) = true := decide_eq_true hx2
     clear hs hx0
     go_wp2
     go_end0
     exact ⟨rfl, ⟨_, (HH1.out.drewN nd).set 7 _ { s with tl := wrap64 (s.tl + 1) } rfl rfl rfl, (HK1.out.drewN nd).set (Or.inl rfl) HH1.out.le 7 _⟩⟩
    ·rw [if_neg hx2] at hs
     have f2 : decide (z + 65535 < (x.length : Int)) = false := decide_eq_false hx2
     obtain ⟨⟨y, yo⟩, hy, hs⟩ := Option.bind_eq_some_iff.1 hs
     have HY := a_ hy
     have HS := a_ hs
     clear hs hx0 hy
     go_wp2_with (fail)
     refine (a8Q.calls Ax cx x wide y yo _ (Kd.a2V (Kd.G5 HOX.out).2.2 nd) (Kd.G5 HOX.out).2.1 HY.out).mono ?_
     rintro e w3 ⟨vy, rfl, hoy, hb⟩
     have HH3 := a_ ((HH1.out.drewN nd).below hb)
     have HK3 := a_ (DFK.below (HK1.out.drewN nd) (Nat.le_trans HBB.out HD.out) hb)
     have SD := a_ (Kd.e4l (HH1.out.drewN nd).done hb)
     have LP : Aside0 (p < (w1.drewN nd).heap.size) := ⟨a0L (HH1.out.drewN nd).blk⟩
     have LH := a_ (Kd.a0h (HH1.out.drewN nd).held)
     have LV := a_ (Kd.d4b (HH1.out.drewN nd).done)
     have LY := a_ (Kd.a0n hoy)
     have L31 := a_ hb.size
     have HD3 := a_ (Nat.le_trans HD1.out hb.size)
     obtain ⟨Ay, cy, rfl⟩ := Kd.J4 hoy
     have HOY := a_ (Kd.X4 hoy HD1.out)
     clear hoy hb hc0 hf0 hc1 hf1 hc4 hf4 hc5 hf5 hc6 hf6 hc7 hf7 hc8 hf8 hc9 hf9
     have hc4 : w3.cell? ⟨p, 4, none⟩ = some (.int .i64 s.tg) := HH3.out.cell 4 _ rfl
     have hf4 := HH3.out.free 4
     have hc8 : w3.cell? ⟨p, 8, none⟩ = some (.int .i64 s.tw) := HH3.out.cell 8 _ rfl
     have hf8 := HH3.out.free 8
     have hc9 : w3.cell? ⟨p, 9, none⟩ = some (vd) := HH3.out.cell 9 _ rfl
     have hf9 := HH3.out.free 9
     cases yo with
     | false =>
      have hs := HS.out
      rw [if_neg (by decide)] at hs
      obtain rfl := Option.some.inj hs
      clear hs HS
      go_wp2
      refine bodyPost_ret (results_none rfl _ _ _) rfl ?_
      exact ⟨rfl, ⟨_, HH3.out.set 8 _ { s with tw := wrap64 (s.tw + 1) } rfl rfl rfl, HK3.out.set (Or.inl rfl) HH3.out.le 8 _⟩⟩
     | true =>
      have hs := HS.out
      rw [if_pos rfl] at hs
      clear HS
      by_cases hl : s.done.length < 5864062014805
      ·rw [if_pos hl] at hs
       obtain rfl := Option.some.inj hs
       have HL := a_ hl
       clear hs hl
       have H4 : Aside0 (DFI B D (w3.setCell ⟨p, 4, none⟩ (.int .i64 (wrap64 (s.tg + 1)))) p (.slice Ah s.held.length ch) vd m wide { s with tg := wrap64 (s.tg + 1) }) := ⟨HH3.out.set 4 _ { s with tg := wrap64 (s.tg + 1) } rfl rfl rfl⟩
       have SD4 := a_ (Kd.Y6 (p := ⟨p, 4, none⟩) SD.out (fun k hk => hk.1.1) (.int .i64 (wrap64 (s.tg + 1))))
       have HY4 := a_ (Kd.U7 (p := ⟨p, 4, none⟩) (Kd.V7 HOY.out HH3.out.blk (by decide)) (fun k hk => hk.2) (.int .i64 (wrap64 (s.tg + 1))))
       have HK4 := a_ (HK3.out.set (Or.inl rfl) HH3.out.le 4 (.int .i64 (wrap64 (s.tg + 1))))
       go_wp2_with (((with_reducible refine G7 (b := .append) (xs := #[.tmp 56, .tmp 58]) rfl ?_); at_builtin; refine Kd.a90 (Kd.slice 5 (Kd.int .u8)) (w0 := w3.setCell ⟨p, 4, none⟩ (.int .i64 (wrap64 (s.tg + 1)))) D rfl (.tmp 56) (.tmp 58) 74 22 (.slice none 0 0) 24 rfl Tryd.underlying74 info22 rfl (by decide) (by omega) vd s.done y [.slice Ay y.length cy] (fun k => k ≠ p ∧ some k ≠ (.slice Ah s.held.length ch : Value).ownBlock) (fun k => some k = (.slice Ay y.length cy : Value).ownBlock) rfl ?aX ?aP ?aK ?aF ?aO ?aB ?aS ?aL ?_; (case aX => exact congrArg (fun n : Nat => Value.slice (some ⟨n, 0, none⟩) 1 1) (show w3.heap.size = (w3.setCell _ _).heap.size from by simp only [World.setCell, Array.size_modify])); (case aP => exact Kd.f3x (Kd.a2i rfl HY4.out)); (case aK => exact fun k hk => ⟨⟨fun e_ => by have h1 := LY.out k hk.symm; have h2 := LP.out; omega, fun e_ => by have h1 := LY.out k hk.symm; have h2 := LH.out k e_.symm; omega⟩, fun e_ => by have h1 := LY.out k hk.symm; have h2 := LV.out k e_.symm; omega⟩); (case aF => exact fun k hk => ⟨fun e_ => by have h1 := L31.out; have h2 := LP.out; simp only [World.setCell, Array.size_modify] at hk; omega, fun e_ => by have h1 := L31.out; have h2 := LH.out k e_.symm; simp only [World.setCell, Array.size_modify] at hk; omega⟩); (case aO => exact Kd.V6 SD4.out (fun k hk => ⟨hk.1, fun e_ => by have h1 := LY.out k e_.symm; have h2 := hk.2; omega⟩)); (case aB => exact Below.refl _ _); (case aS => simp only [World.setCell, Array.size_modify]; exact HD3.out); (case aL => have := HL.out; omega); intro v5 w5 ho hb hg hat; obtain ⟨A5, c5, eo5⟩ := Kd.b0B ho; subst eo5; have BK5 := a_ (F9 H4.out.blk hg (Kd.b9Y SD4.out H4.out.blk (by decide))); have HO5 := a_ ho; have HB5 := a_ hb; have HG5 := a_ hg; have hc5 : w5.cell? ⟨p, 9, none⟩ = some vd := (E5 BK5.out 9).trans rfl; have hf5 := l7 BK5.out 9; clear ho hb hg hat))
       go_end0
       have ho6 := HO5.out
       simp only [List.length_append, List.length_singleton] at ho6
       have HO6 := a_ ho6
       refine ⟨rfl, ⟨.slice A5 (s.done.length + 1) c5, ⟨?_, ?_, ?_, HH3.out.le⟩, ?_⟩⟩
       ·exact a4S BK5.out 9 _
       ·exact Kd.U7 (Kd.D8 (Kd.a0g (Kd.c1C H4.out.held HG5.out (fun k hk => hk.2)) (Kd.a5q HO6.out) (by decide)) (fun k hk => ⟨hk.1.1, hk.2⟩)) (fun k hk => hk.1) _
       ·exact Kd.Y6 HO6.out (fun k hk => hk.1) _
       ·exact DFK.set (DFK.grown HK4.out HBB.out HB5.out HG5.out (fun k hk => Or.inr hk.symm)) (Or.inl rfl) HH3.out.le 9 _
      ·rw [if_neg hl] at hs
       cases hs
theorem DF.c7u {k : Nat} {m : Int} {wide : Bool} {s s' : DF} (h : DF.close k m wide s = some s') : s'.held = s.held ∧ s'.inn = s.inn := by
 unfold DF.close at h
 obtain ⟨x, _, h⟩ := Option.bind_eq_some_iff.1 h
 by_cases h1 : x.2 = true
 ·rw [if_pos h1] at h
  by_cases h2 : x.1.length = 0
  ·rw [if_pos h2] at h
   obtain rfl := Option.some.inj h
   exact ⟨rfl, rfl⟩
  ·rw [if_neg h2] at h
   by_cases h3 : (x.1.length : Int) < DF.size wide + 2
   ·rw [if_pos h3] at h
    obtain rfl := Option.some.inj h
    exact ⟨rfl, rfl⟩
   ·rw [if_neg h3] at h
    by_cases h4 : (x.1.length : Int) > DF.size wide + 65535
    ·rw [if_pos h4] at h
     obtain rfl := Option.some.inj h
     exact ⟨rfl, rfl⟩
    ·rw [if_neg h4] at h
     obtain ⟨y, _, h⟩ := Option.bind_eq_some_iff.1 h
     by_cases h5 : y.2 = true
     ·rw [if_pos h5] at h
      by_cases h6 : s.done.length < 5864062014805
      ·rw [if_pos h6] at h
       obtain rfl := Option.some.inj h
       exact ⟨rfl, rfl⟩
      ·rw [if_neg h6] at h
       cases h
     ·rw [if_neg h5] at h
      obtain rfl := Option.some.inj h
      exact ⟨rfl, rfl⟩
 ·rw [if_neg h1] at h
  obtain rfl := Option.some.inj h
  exact ⟨rfl, rfl⟩
theorem a4N.more (B D p : Nat) (vh vd : Value) (m : Int) (wide : Bool) (s : DF) (c : Int) (W : World) (h : DFI B D W p vh vd m wide s) (hc : c ≠ 126) (hB : B ≤ W.heap.size) (hl : s.held.length < 140737488355328) :
  Calls Tryd.prog 84 #[.pointer (some ⟨p, 0, none⟩), .int .u8 c] W fun e W' => e = .returned (.tuple #[]) ∧ Aside0 (∃ vh', DFI B D W' p vh' vd m wide { s with held := s.held ++ [c] } ∧ DFK B W W' (fun k => k = p ∨ some k = vh.ownBlock) ∧ (vh'.ownBlock = vh.ownBlock ∨ ∃ b, vh'.ownBlock = some b ∧ W.heap.size ≤ b)) := by
 have hu := Tryd.underlying120
 have h1 : (c != 126) = true := by simpa using hc
 have h2 : decide (c = 126) = false := by simpa using hc
 have h3 : (c == 126) = false := by simpa using hc
 have HBB := a_ hB
 have HL := a_ hl
 have HH := a_ h
 have LP : Aside0 (p < W.heap.size) := ⟨a0L h.blk⟩
 have LV := a_ (Kd.d4b h.done)
 have hc3 : W.cell? ⟨p, 3, none⟩ = some vh := h.cell 3 _ rfl
 have hf3 := h.free 3
 clear h hc hB hl
 go_enter Tryd.func84, Tryd.ntmps84
 go_wp2_with (((with_reducible refine G7 (b := .append) (xs := #[.tmp 10, .tmp 12]) rfl ?_); at_builtin; refine Kd.a5c (Kd.int .u8) (w0 := W) B rfl (.tmp 10) (.tmp 12) 22 5 (.int .u8 0) 1 rfl Tryd.underlying22 info5 rfl (by decide) (by omega) vh s.held c [.int .u8 c] (fun k => k ≠ p ∧ some k ≠ vd.ownBlock) (fun _ => False) rfl rfl ?aP (fun _ hk => hk.elim) ?aF ?aO ?aB ?aS ?aL ?_; (case aP => exact rfl); (case aB => exact Below.refl _ _); (case aF => exact fun k hk => ⟨fun e_ => by have h_ := LP.out; omega, fun e_ => by have h_ := LV.out k e_.symm; omega⟩); (case aO => exact HH.out.held); (case aS => exact HBB.out); (case aL => have := HL.out; omega); intro v5 w5 ho hb hg hat; obtain ⟨A5, c5, eo5⟩ := Kd.J4 ho; subst eo5; have BK5 := a_ (F9 HH.out.blk hg (Kd.a6B HH.out.held HH.out.blk (by decide))); have HO5 := a_ ho; have HB5 := a_ hb; have HG5 := a_ hg; have HA5 := a_ hat; have hc5 := bc3 BK5; have hf5 := l7 BK5.out 3; clear ho hb hg hat))
 refine bodyPost_ret (results_none rfl _ _ _) rfl ?_
 have ho6 := HO5.out
 have ha6 := HA5.out
 simp only [List.length_append, List.length_singleton] at ho6 ha6
 refine ⟨rfl, ⟨.slice A5 (s.held.length + 1) c5, ⟨?_, ?_, ?_, HH.out.le⟩, ?_, ha6⟩⟩
 ·exact a4S BK5.out 3 _
 ·exact Kd.U7 ho6 (fun k hk => hk.1) _
 ·exact Kd.Y6 (Kd.V6 (Kd.c9h (Kd.V6 HH.out.done (fun k hk => ⟨hk.1, hk.2⟩)) HG5.out ha6) (fun k hk => hk)) (fun k hk => hk.1) _
 ·exact DFK.set (S := fun k => k = p ∨ some k = vh.ownBlock) (DFK.grown (DFK.refl B W (fun k => k = p ∨ some k = vh.ownBlock)) (Nat.le_refl _) HB5.out HG5.out (fun k hk => Or.inr hk.symm)) (Or.inl (show p = p from rfl)) HH.out.le 3 _
theorem a4N.flag (k : Nat) (B D p : Nat) (vh vd : Value) (m : Int) (wide : Bool) (s s' : DF) (W : World) (h : DFI B D W p vh vd m wide s) (hB : B ≤ D) (hD : D ≤ W.heap.size) (hs : DF.close k m wide s = some s') :
  Calls Tryd.prog 84 #[.pointer (some ⟨p, 0, none⟩), .int .u8 126] W fun e W' => e = .returned (.tuple #[]) ∧ Aside0 (∃ vh' vd', DFI B D W' p vh' vd' m wide { s' with held := [] } ∧ DFK B W W' (fun k => k = p ∨ some k = vd.ownBlock) ∧ vh'.ownBlock = vh.ownBlock) := by
 have hu := Tryd.underlying120
 have hsh := DF.c7u hs
 obtain ⟨Ah, ch, rfl, hle, hC⟩ := Kd.b3K h.held
 have HLE := a_ hle
 have hc3 : W.cell? ⟨p, 3, none⟩ = some (.slice Ah s.held.length ch) := h.cell 3 _ rfl
 have hf3 := h.free 3
 have HBB := a_ hB
 have HD := a_ hD
 have HS := a_ hs
 have HSH := a_ hsh
 have HH := a_ h
 clear h hB hD hs hsh hle hC
 go_enter Tryd.func84, Tryd.ntmps84
 go_wp2_with (fail)
 refine (b1B.calls k B D p _ vd m wide s s' W HH.out HBB.out HD.out HS.out).mono ?_
 rintro e w1 ⟨rfl, ⟨vd1, hh, hk⟩⟩
 have HH1 := a_ hh
 have HK1 := a_ hk
 clear hc3 hf3 hh hk
 have hc3 : w1.cell? ⟨p, 3, none⟩ = some (.slice Ah s.held.length ch) := HH1.out.cell 3 _ rfl
 have hf3 := HH1.out.free 3
 go_wp2
 go_end0
 refine ⟨rfl, ⟨.slice Ah 0 ch, vd1, ⟨?_, ?_, ?_, HH1.out.le⟩, ?_, ?_⟩⟩
 ·exact a4S HH1.out.blk 3 _
 ·exact Kd.U7 (Kd.d35 HH1.out.held (Nat.zero_le _)) (fun k hk => hk.1) _
 ·exact Kd.Y6 (Kd.V6 HH1.out.done (fun k hk => ⟨hk.1, fun e_ => hk.2 (by rw [e_]; cases Ah <;> rfl)⟩)) (fun k hk => hk.1) _
 ·exact HK1.out.set (Or.inl rfl) HH1.out.le 3 _
 ·cases Ah <;> rfl
def DF.step (k : Nat) (m : Int) (wide : Bool) (s : DF) (c : Int) : Option DF :=
 if s.inn = true then
  if c = 126 then (DF.close k m wide s).bind fun s' => some { s' with held := [] }
  else if s.held.length < 140737488355328 then some { s with held := s.held ++ [c] } else none
 else if c = 126 then some { s with inn := true } else some s
def DF.feed (k : Nat) (m : Int) (wide : Bool) : DF → List Int → Option DF
 | s, [] => some s
 | s, c :: l => (DF.step k m wide s c).bind fun s' => DF.feed k m wide s' l
structure DFR (k B : Nat) (w W : World) (p : Nat) (vh0 : Value) (m : Int) (wide : Bool) (r : List Int) (sr : DF) : Prop where
 mk ::
 out : ∃ (vh vd : Value) (s : DF), DFI B w.heap.size W p vh vd m wide s ∧ DFK B w W (fun k => k = p ∨ some k = vh0.ownBlock) ∧ (vh.ownBlock = vh0.ownBlock ∨ ∃ b, vh.ownBlock = some b ∧ w.heap.size ≤ b) ∧ DF.feed k m wide s r = some sr
theorem DFI.e1z {B D D' : Nat} {W : World} {p : Nat} {vh : Value} {m : Int} {wide : Bool} {s : DF} (h : DFI B D W p vh (.slice none 0 0) m wide s) (hd : s.done = []) : DFI B D' W p vh (.slice none 0 0) m wide s := ⟨h.blk, h.held, by rw [hd]; exact Kd.a6k _ _ _ _ _, h.le⟩
theorem DF.changed {B p : Nat} {w W : World} {vh0 vh vd : Value} {m : Int} {wide : Bool} {s : DF} (h : DFI B w.heap.size W p vh vd m wide s) (hv : vh.ownBlock = vh0.ownBlock ∨ ∃ b, vh.ownBlock = some b ∧ w.heap.size ≤ b) (k : Nat) (hk : k = p ∨ some k = vh.ownBlock ∨ some k = vd.ownBlock) : (k = p ∨ some k = vh0.ownBlock) ∨ w.heap.size ≤ k := by
 rcases hk with hk | hk | hk
 ·exact .inl (.inl hk)
 ·rcases hv with hv | ⟨b, hv, hb⟩
  ·exact .inl (.inr (hk.trans hv))
  ·rw [hv] at hk
   injection hk with hk
   subst hk
   exact .inr hb
 ·exact .inr (Kd.b8d h.done k hk.symm)
theorem DF.moved {w W : World} {vh0 vh vh' : Value} (hv : vh.ownBlock = vh0.ownBlock ∨ ∃ b, vh.ownBlock = some b ∧ w.heap.size ≤ b) (hle : w.heap.size ≤ W.heap.size) (h : vh'.ownBlock = vh.ownBlock ∨ ∃ b, vh'.ownBlock = some b ∧ W.heap.size ≤ b) : vh'.ownBlock = vh0.ownBlock ∨ ∃ b, vh'.ownBlock = some b ∧ w.heap.size ≤ b := by
 rcases h with h | ⟨b, h, hb⟩
 ·rw [h]; exact hv
 ·exact .inr ⟨b, h, Nat.le_trans hle hb⟩
theorem a8j.calls (k B p : Nat) (vh0 : Value) (m : Int) (wide : Bool) (s sr : DF) (A0 : Option Addr) (c0 : Nat) (l0 : List Int) (w : World) (hD : DFI B w.heap.size w p vh0 (.slice none 0 0) m wide s) (hB : B ≤ w.heap.size) (hA : Kd.F (Kd.int .u8) w (fun k => k ≠ p ∧ some k ≠ vh0.ownBlock) A0 l0.length l0) (hs : DF.feed k m wide s l0 = some sr) :
  Calls Tryd.prog 46 #[.pointer (some ⟨p, 0, none⟩), .slice A0 l0.length c0] w fun e w' => ∃ v0 : Value, e = .returned v0 ∧ Aside0 (∃ vh', (∀ D, DFI B D w' p vh' (.slice none 0 0) m wide { sr with done := [] }) ∧ Kd.S (Kd.slice 5 (Kd.int .u8)) 22 w' w.heap.size (fun k => k ≠ p ∧ some k ≠ vh'.ownBlock) v0 sr.done ∧ DFK B w w' (fun k => k = p ∨ some k = vh0.ownBlock) ∧ (vh'.ownBlock = vh0.ownBlock ∨ ∃ b, vh'.ownBlock = some b ∧ w.heap.size ≤ b)) := by
 have hu := Tryd.underlying120
 have HN := a_ (Kd.f3G hA)
 have HBB := a_ hB
 have HA := a_ hA
 have HR : Aside0 (DFR k B w w p vh0 m wide (l0.drop 0) sr) := ⟨⟨⟨vh0, _, s, hD, DFK.refl _ _ _, .inl rfl, by rw [List.drop_zero]; exact hs⟩⟩⟩
 clear hD hB hA hs
 go_enter Tryd.func46, Tryd.ntmps46
 go_wp2
 go_loopg [10] l0.length (fun kq v10 w' => ∃ j : Nat, Aside0 (kq + j = l0.length) ∧ v10 = .int .i64 (j : Int) ∧ Aside0 (DFR k B w w' p vh0 m wide (l0.drop j) sr))
 case atStart => exact ⟨0, ⟨rfl⟩, rfl, HR⟩
 case round =>
  obtain ⟨j, HJ, rfl, HI⟩ := hrel
  clear HR
  have hj := HJ.out
  have hn := HN.out
  obtain ⟨vh, vd, s, hI, hK, hV, hF⟩ := HI.out.out
  have HV := a_ hV
  have HK := a_ hK
  have HD := a_ hI
  clear HI
  have hc2 : wr.cell? ⟨p, 2, none⟩ = some (DF.fn s.inn p) := hI.cell 2 _ rfl
  have hf2 := hI.free 2
  by_cases hlt : j < l0.length
  ·obtain ⟨k1, rfl⟩ : ∃ k1, gk = k1 + 1 := ⟨gk - 1, by omega⟩
   have p1 : 0 ≤ (j : Int) := by omega
   have q1 : (j : Int) < (l0.length : Int) := by omega
   obtain ⟨ad, e1, hx⟩ := Kd.a0W (Kd.c4E (Kd.e6T HA.out hK.kept (fun k hk hs => hs.elim hk.1 hk.2))) (j : Int) p1 q1
   cases e1
   simp only [Int.toNat_natCast] at hx
   obtain ⟨c, hcd⟩ : ∃ c, c = rd l0 (j : Int) := ⟨_, rfl⟩
   have hdr : l0.drop j = c :: l0.drop (j + 1) := by
    rw [List.drop_eq_getElem_cons hlt, hcd]
    unfold rd
    rw [Int.toNat_natCast, List.getD_eq_getElem?_getD, List.getElem?_eq_getElem hlt]
    rfl
   rw [hdr, DF.feed] at hF
   rw [← hcd] at hx
   obtain ⟨s1, hs1, hF⟩ := Option.bind_eq_some_iff.1 hF
   have HF := a_ hF
   have HWW := a_ hK.kept.1
   clear hI hK hV hF hdr hcd
   unfold DF.step at hs1
   cases hi : s.inn with
   | true =>
    rw [hi] at hc2
    rw [if_pos hi] at hs1
    replace hc2 : wr.cell? ⟨p, 2, none⟩ = some (.func (.func 84) #[.pointer (some ⟨p, 0, none⟩)] #[]) := hc2
    by_cases c2x : c = 126
    ·subst c2x
     rw [if_pos rfl] at hs1
     obtain ⟨s2, hs2, hs1⟩ := Option.bind_eq_some_iff.1 hs1
     obtain rfl := Option.some.inj hs1
     have HS2 := a_ hs2
     have HI := a_ hi
     clear hs1 hs2 hi
     go_wp2_with (fail)
     refine (a4N.flag k B w.heap.size p vh vd m wide s s2 _ HD.out HBB.out HWW.out HS2.out).mono ?_
     rintro e w1 ⟨rfl, ⟨vh1, vd1, hh, hk, hv⟩⟩
     have HR1 : Aside0 (DFR k B w w1 p vh0 m wide (l0.drop (j + 1)) sr) := ⟨⟨⟨vh1, vd1, _, hh, DFK.trans HK.out hk (fun k hk => DF.changed HD.out HV.out k (hk.elim Or.inl (fun h => Or.inr (Or.inr h)))), by rw [hv]; exact HV.out, HF.out⟩⟩⟩
     clear hh hk hv hc2 hf2
     go_wp2
     go_roundg k1
     case measure => omega
     case rel => exact ⟨j + 1, ⟨by have := HJ.out; omega⟩, by go_num, HR1⟩
    ·rw [if_neg c2x] at hs1
     by_cases hl : s.held.length < 140737488355328
     ·rw [if_pos hl] at hs1
      obtain rfl := Option.some.inj hs1
      have HI := a_ hi
      have HL := a_ hl
      have HC := a_ c2x
      clear hs1 hi hl c2x
      go_wp2_with (fail)
      refine (a4N.more B w.heap.size p vh vd m wide s c _ HD.out HC.out (Nat.le_trans HBB.out HWW.out) HL.out).mono ?_
      rintro e w1 ⟨rfl, ⟨vh1, hh, hk, hv⟩⟩
      have HR1 : Aside0 (DFR k B w w1 p vh0 m wide (l0.drop (j + 1)) sr) := ⟨⟨⟨vh1, vd, _, hh, DFK.trans HK.out hk (fun k hk => DF.changed HD.out HV.out k (hk.elim Or.inl (fun h => Or.inr (Or.inl h)))), DF.moved HV.out HWW.out hv, HF.out⟩⟩⟩
      clear hh hk hv hc2 hf2
      go_wp2
      go_roundg k1
      case measure => omega
      case rel => exact ⟨j + 1, ⟨by have := HJ.out; omega⟩, by go_num, HR1⟩
     ·rw [if_neg hl] at hs1
      cases hs1
   | false =>
    rw [hi] at hc2
    rw [if_neg (by rw [hi]; decide)] at hs1
    replace hc2 : wr.cell? ⟨p, 2, none⟩ = some (.func (.func 65) #[.pointer (some ⟨p, 0, none⟩)] #[]) := hc2
    have HI := a_ hi
    clear hi
    by_cases c2x : c = 126
    ·subst c2x
     rw [if_pos rfl] at hs1
     obtain rfl := Option.some.inj hs1
     clear hs1
     go_wp2_with (fail)
     refine (a4r.flag B w.heap.size p vh vd m wide s _ HD.out (Nat.le_trans HBB.out HWW.out) HI.out).mono ?_
     rintro e w1 ⟨rfl, ⟨hh⟩, ⟨hk⟩⟩
     have HR1 : Aside0 (DFR k B w w1 p vh0 m wide (l0.drop (j + 1)) sr) := ⟨⟨⟨vh, vd, _, hh, DFK.trans HK.out hk (fun k hk => .inl (.inl hk)), HV.out, HF.out⟩⟩⟩
     clear hh hk hc2 hf2
     go_wp2
     go_roundg k1
     case measure => omega
     case rel => exact ⟨j + 1, ⟨by have := HJ.out; omega⟩, by go_num, HR1⟩
    ·rw [if_neg c2x] at hs1
     obtain rfl := Option.some.inj hs1
     have HC := a_ c2x
     clear hs1 c2x
     go_wp2_with (fail)
     refine (a4r.other c HC.out p _).mono ?_
     rintro e w1 ⟨rfl, rfl⟩
     have HR1 : Aside0 (DFR k B w w1 p vh0 m wide (l0.drop (j + 1)) sr) := ⟨⟨⟨vh, vd, _, HD.out, HK.out, HV.out, HF.out⟩⟩⟩
     clear hc2 hf2
     go_wp2
     go_roundg k1
     case measure => omega
     case rel => exact ⟨j + 1, ⟨by have := HJ.out; omega⟩, by go_num, HR1⟩
  ·have hdr : l0.drop j = [] := List.drop_eq_nil_of_le (by omega)
   rw [hdr] at hF
   obtain rfl := Option.some.inj hF
   have hc9 : wr.cell? ⟨p, 9, none⟩ = some vd := HD.out.cell 9 _ rfl
   have hf9 := HD.out.free 9
   clear hI hK hV hF hdr
   go_wp2
   go_ret
   refine ⟨_, rfl, ⟨vh, fun D => ⟨?_, ?_, Kd.a6k _ _ _ _ _, HD.out.le⟩, ?_, ?_, HV.out⟩⟩
   ·exact a4S HD.out.blk 9 _
   ·exact Kd.U7 (Kd.D8 HD.out.held (fun k hk => ⟨hk.1, by simp [Value.ownBlock]⟩)) (fun k hk => hk.1) _
   ·exact Kd.Y6 HD.out.done (fun k hk => hk.1) _
   ·exact HK.out.set (Or.inl rfl) HD.out.le 9 _
def H8.l0 : Nat → List (S42) → List (S42) → Int → Option (Bool)
 | 0, _, _, _ => none
 | k + 1, x0, x1, x5 => if x5 < (x0.length : Int) then (if 0 ≤ x5 then (if x5 < (x1.length : Int) then (if ((F7 x0 x5).f0) = ((F7 x1 x5).f0) then (if ((F7 x0 x5).f1) = ((F7 x1 x5).f1) then (if (strOfNums ((F7 x0 x5).f2)).toList = (strOfNums ((F7 x1 x5).f2)).toList then (H8.l0 k x0 x1 (wrap64 (x5 + 1))) else (some false)) else (some false)) else (some false)) else (none)) else (none)) else (some true)
def H8.f (k : Nat) (l0 : List (S42)) (l1 : List (S42)) : Option (Bool) := if (l0.length : Int) = (l1.length : Int) then (H8.l0 k l0 l1 0) else (some false)
theorem H8.calls (k : Nat) (A0 : Option Addr) (c0 : Nat) (l0 : List (S42)) (A1 : Option Addr) (c1 : Nat) (l1 : List (S42)) (r : Bool) (w : World) (hr0 : Kd.C k42 w A0 l0.length l0) (hc0 : l0.length ≤ c0) (hr1 : Kd.C k42 w A1 l1.length l1) (hc1 : l1.length ≤ c1) (h : H8.f k l0 l1 = some r) :
  Calls Tryd.prog 12 #[.slice A0 l0.length c0, .slice A1 l1.length c1] w fun e w' => e = .returned (.bool r) ∧ G6 w w' := by
 have HR0 := a_ hr0
 have HC0 := a_ hc0
 clear hr0 hc0
 have HR1 := a_ hr1
 have HC1 := a_ hc1
 clear hr1 hc1
 have H := h
 clear h
 unfold H8.f at H
 by_cases c3 : (l0.length : Int) = (l1.length : Int)
 ·rw [if_pos c3] at H
  have a5g := beq_iff_eq.mpr c3
  have b1b := bne_eq_false_iff_eq.mpr c3
  have f6a : (l0.length == l1.length) = true := by (simp at c3 ⊢; omega)
  clear c3
  have H' := a_ H
  clear H
  go_enter Tryd.func12, Tryd.ntmps12
  go_wp2
  go_loopg [5] k (fun kq v5 w' => ∃ (X6 : Int), v5 = .int .i64 X6 ∧ Aside0 (H8.l0 kq l0 l1 X6 = some r) ∧ Aside0 (kq ≤ k) ∧ G6 w w')
  case atStart => exact ⟨(0), (by rfl), H', ⟨Nat.le_refl _⟩, by exact G6.refl _⟩
  case round =>
   clear H'
   try clear a5g
   try clear b1b
   try clear f6a
   obtain ⟨X6, rfl, HA, HK1, ⟨m1, rfl⟩⟩ := hrel
   cases gk with
   | zero => exact absurd HA.out (by simp [H8.l0])
   | succ k1 =>
    have H := HA.out
    clear HA
    simp only [H8.l0] at H
    by_cases c4 : X6 < (l0.length : Int)
    ·rw [if_pos c4] at H
     have a6r := decide_eq_true c4
     clear c4
     have a9g := a4w H
     replace H := U9 H
     have a9K := a4w H
     replace H := U9 H
     by_cases c7 : ((F7 l0 X6).f0) = ((F7 l1 X6).f0)
     ·rw [if_pos c7] at H
      obtain ⟨a9h, b5j⟩ := bt_ c7
      by_cases c8 : ((F7 l0 X6).f1) = ((F7 l1 X6).f1)
      ·rw [if_pos c8] at H
       obtain ⟨b8l, d9C⟩ := bt_ c8
       by_cases c9 : (strOfNums ((F7 l0 X6).f2)).toList = (strOfNums ((F7 l1 X6).f2)).toList
       ·rw [if_pos c9] at H
        obtain ⟨b5i, c1O⟩ := bt_ c9
        have H' := a_ H
        clear H
        have b3r : 0 ≤ (X6 : Int) := Y9
        have b3s : X6 < (l0.length : Int) := Y9
        obtain ⟨b6d, b3t, b3u, c7v, c2y, c2z, a9s, a6H, a6I⟩ := a2P HR0.out X6 b3r b3s
        cases c7v
        have c2A := a_ a6I
        have c2B := a_ a6H
        clear a6I a6H
        replace b3r := eq_true b3r
        replace b3s := eq_true b3s
        have b3v : 0 ≤ (X6 : Int) := Y9
        have b3w : X6 < (l1.length : Int) := Y9
        obtain ⟨b6e, b3x, b3y, c7w, c2C, c2E, a9t, a6J, a6K⟩ := a2P HR1.out X6 b3v b3w
        cases c7w
        have c2F := a_ a6K
        have c2G := a_ a6J
        clear a6K a6J
        replace b3v := eq_true b3v
        replace b3w := eq_true b3w
        have b82 : 0 ≤ (X6 : Int) := Y9
        have b83 : X6 < (l0.length : Int) := Y9
        obtain ⟨c5s, d5M, d5N, e203, d0v, d0w, b4s, a9u, a9v⟩ := a2P HR0.out X6 b82 b83
        obtain rfl : b6d = c5s := (by injection e203)
        have d0x := a_ a9v
        have d0y := a_ a9u
        clear a9v a9u
        replace b82 := eq_true b82
        replace b83 := eq_true b83
        have ea_ := Option.some.inj (a9s.symm.trans b4s)
        injection ea_ with ea_ en_ ec_
        subst ea_
        subst ec_
        clear en_
        have b86 : 0 ≤ (X6 : Int) := Y9
        have b87 : X6 < (l1.length : Int) := Y9
        obtain ⟨c5t, d5O, d5P, e204, d0z, d0A, b4t, a9w, a9x⟩ := a2P HR1.out X6 b86 b87
        obtain rfl : b6e = c5t := (by injection e204)
        have d0B := a_ a9x
        have d0C := a_ a9w
        clear a9x a9w
        replace b86 := eq_true b86
        replace b87 := eq_true b87
        have ea_ := Option.some.inj (a9t.symm.trans b4t)
        injection ea_ with ea_ en_ ec_
        subst ea_
        subst ec_
        clear en_
        have c7x : 0 ≤ (X6 : Int) := Y9
        have c7y : X6 < (l0.length : Int) := Y9
        obtain ⟨d5Q, e8y, e8z, e8A, e1A, e1B, c2H, b4u, b4v⟩ := a2P HR0.out X6 c7x c7y
        obtain rfl : b6d = d5Q := (by injection e8A)
        have b4w := a_ b4v
        have e1C := a_ b4u
        clear b4v b4u
        replace c7x := eq_true c7x
        replace c7y := eq_true c7y
        have ea_ := Option.some.inj (a9s.symm.trans c2H)
        injection ea_ with ea_ en_ ec_
        subst ea_
        subst ec_
        clear en_
        have h3o := fun m_ : Nat => Kd.a6C (P := Tryd.prog) (A := b3t) (c := b3u) Tryd.underlying22 Tryd.underlying5 Tryd.underlying9 (Kd.a2V b4w.out m_)
        have h3p := Kd.a6C (P := Tryd.prog) (A := b3t) (c := b3u) Tryd.underlying22 Tryd.underlying5 Tryd.underlying9 b4w.out
        have c7z : 0 ≤ (X6 : Int) := Y9
        have c7A : X6 < (l1.length : Int) := Y9
        obtain ⟨d5R, e8B, e8C, e206, e1D, e1E, c2I, b4x, b4y⟩ := a2P HR1.out X6 c7z c7A
        obtain rfl : b6e = d5R := (by injection e206)
        have b4z := a_ b4y
        have e1F := a_ b4x
        clear b4y b4x
        replace c7z := eq_true c7z
        replace c7A := eq_true c7A
        have ea_ := Option.some.inj (a9t.symm.trans c2I)
        injection ea_ with ea_ en_ ec_
        subst ea_
        subst ec_
        clear en_
        have h3q := fun m_ : Nat => Kd.a6C (P := Tryd.prog) (A := b3x) (c := b3y) Tryd.underlying22 Tryd.underlying5 Tryd.underlying9 (Kd.a2V b4z.out m_)
        have h3r := Kd.a6C (P := Tryd.prog) (A := b3x) (c := b3y) Tryd.underlying22 Tryd.underlying5 Tryd.underlying9 b4z.out
        go_wp2
        repeat (go_quiet (fail); try go_wp2)
        go_roundg k1
        case measure => have := HK1.out; omega
        case rel => exact ⟨(wrap64 (X6 + 1)), (by rfl), H', ⟨by have := HK1.out; omega⟩, by repeat (first | exact G6.refl _ | apply G6.step)⟩
       ·rw [if_neg c9] at H
        have b5i := beq_eq_false_iff_ne.mpr c9
        have c1O := bne_iff_ne.mpr c9
        obtain rfl := Option.some.inj H
        have b3r : 0 ≤ (X6 : Int) := Y9
        have b3s : X6 < (l0.length : Int) := Y9
        obtain ⟨b6d, b3t, b3u, c7v, c2y, c2z, a9s, a6H, a6I⟩ := a2P HR0.out X6 b3r b3s
        cases c7v
        have c2A := a_ a6I
        have c2B := a_ a6H
        clear a6I a6H
        replace b3r := eq_true b3r
        replace b3s := eq_true b3s
        have b3v : 0 ≤ (X6 : Int) := Y9
        have b3w : X6 < (l1.length : Int) := Y9
        obtain ⟨b6e, b3x, b3y, c7w, c2C, c2E, a9t, a6J, a6K⟩ := a2P HR1.out X6 b3v b3w
        cases c7w
        have c2F := a_ a6K
        have c2G := a_ a6J
        clear a6K a6J
        replace b3v := eq_true b3v
        replace b3w := eq_true b3w
        have b82 : 0 ≤ (X6 : Int) := Y9
        have b83 : X6 < (l0.length : Int) := Y9
        obtain ⟨c5s, d5M, d5N, e203, d0v, d0w, b4s, a9u, a9v⟩ := a2P HR0.out X6 b82 b83
        obtain rfl : b6d = c5s := (by injection e203)
        have d0x := a_ a9v
        have d0y := a_ a9u
        clear a9v a9u
        replace b82 := eq_true b82
        replace b83 := eq_true b83
        have ea_ := Option.some.inj (a9s.symm.trans b4s)
        injection ea_ with ea_ en_ ec_
        subst ea_
        subst ec_
        clear en_
        have b86 : 0 ≤ (X6 : Int) := Y9
        have b87 : X6 < (l1.length : Int) := Y9
        obtain ⟨c5t, d5O, d5P, e204, d0z, d0A, b4t, a9w, a9x⟩ := a2P HR1.out X6 b86 b87
        obtain rfl : b6e = c5t := (by injection e204)
        have d0B := a_ a9x
        have d0C := a_ a9w
        clear a9x a9w
        replace b86 := eq_true b86
        replace b87 := eq_true b87
        have ea_ := Option.some.inj (a9t.symm.trans b4t)
        injection ea_ with ea_ en_ ec_
        subst ea_
        subst ec_
        clear en_
        have c7x : 0 ≤ (X6 : Int) := Y9
        have c7y : X6 < (l0.length : Int) := Y9
        obtain ⟨d5Q, e8y, e8z, e8A, e1A, e1B, c2H, b4u, b4v⟩ := a2P HR0.out X6 c7x c7y
        obtain rfl : b6d = d5Q := (by injection e8A)
        have b4w := a_ b4v
        have e1C := a_ b4u
        clear b4v b4u
        replace c7x := eq_true c7x
        replace c7y := eq_true c7y
        have ea_ := Option.some.inj (a9s.symm.trans c2H)
        injection ea_ with ea_ en_ ec_
        subst ea_
        subst ec_
        clear en_
        have h3s := fun m_ : Nat => Kd.a6C (P := Tryd.prog) (A := b3t) (c := b3u) Tryd.underlying22 Tryd.underlying5 Tryd.underlying9 (Kd.a2V b4w.out m_)
        have h3t := Kd.a6C (P := Tryd.prog) (A := b3t) (c := b3u) Tryd.underlying22 Tryd.underlying5 Tryd.underlying9 b4w.out
        have c7z : 0 ≤ (X6 : Int) := Y9
        have c7A : X6 < (l1.length : Int) := Y9
        obtain ⟨d5R, e8B, e8C, e206, e1D, e1E, c2I, b4x, b4y⟩ := a2P HR1.out X6 c7z c7A
        obtain rfl : b6e = d5R := (by injection e206)
        have b4z := a_ b4y
        have e1F := a_ b4x
        clear b4y b4x
        replace c7z := eq_true c7z
        replace c7A := eq_true c7A
        have ea_ := Option.some.inj (a9t.symm.trans c2I)
        injection ea_ with ea_ en_ ec_
        subst ea_
        subst ec_
        clear en_
        have h3u := fun m_ : Nat => Kd.a6C (P := Tryd.prog) (A := b3x) (c := b3y) Tryd.underlying22 Tryd.underlying5 Tryd.underlying9 (Kd.a2V b4z.out m_)
        have h3v := Kd.a6C (P := Tryd.prog) (A := b3x) (c := b3y) Tryd.underlying22 Tryd.underlying5 Tryd.underlying9 b4z.out
        go_wp2
        repeat (go_quiet (fail); try go_wp2)
        go_ret
        exact ⟨by (rfl), by repeat (first | exact G6.refl _ | apply G6.step)⟩
      ·rw [if_neg c8] at H
       have b8l := beq_eq_false_iff_ne.mpr c8
       have d9C := bne_iff_ne.mpr c8
       obtain rfl := Option.some.inj H
       have b3r : 0 ≤ (X6 : Int) := Y9
       have b3s : X6 < (l0.length : Int) := Y9
       obtain ⟨b6d, b3t, b3u, c7v, c2y, c2z, a9s, a6H, a6I⟩ := a2P HR0.out X6 b3r b3s
       cases c7v
       have c2A := a_ a6I
       have c2B := a_ a6H
       clear a6I a6H
       replace b3r := eq_true b3r
       replace b3s := eq_true b3s
       have b3v : 0 ≤ (X6 : Int) := Y9
       have b3w : X6 < (l1.length : Int) := Y9
       obtain ⟨b6e, b3x, b3y, c7w, c2C, c2E, a9t, a6J, a6K⟩ := a2P HR1.out X6 b3v b3w
       cases c7w
       have c2F := a_ a6K
       have c2G := a_ a6J
       clear a6K a6J
       replace b3v := eq_true b3v
       replace b3w := eq_true b3w
       have b82 : 0 ≤ (X6 : Int) := Y9
       have b83 : X6 < (l0.length : Int) := Y9
       obtain ⟨c5s, d5M, d5N, e203, d0v, d0w, b4s, a9u, a9v⟩ := a2P HR0.out X6 b82 b83
       obtain rfl : b6d = c5s := (by injection e203)
       have d0x := a_ a9v
       have d0y := a_ a9u
       clear a9v a9u
       replace b82 := eq_true b82
       replace b83 := eq_true b83
       have ea_ := Option.some.inj (a9s.symm.trans b4s)
       injection ea_ with ea_ en_ ec_
       subst ea_
       subst ec_
       clear en_
       have b86 : 0 ≤ (X6 : Int) := Y9
       have b87 : X6 < (l1.length : Int) := Y9
       obtain ⟨c5t, d5O, d5P, e204, d0z, d0A, b4t, a9w, a9x⟩ := a2P HR1.out X6 b86 b87
       obtain rfl : b6e = c5t := (by injection e204)
       have d0B := a_ a9x
       have d0C := a_ a9w
       clear a9x a9w
       replace b86 := eq_true b86
       replace b87 := eq_true b87
       have ea_ := Option.some.inj (a9t.symm.trans b4t)
       injection ea_ with ea_ en_ ec_
       subst ea_
       subst ec_
       clear en_
       go_wp2
       repeat (go_quiet (fail); try go_wp2)
       go_ret
       exact ⟨by (rfl), by repeat (first | exact G6.refl _ | apply G6.step)⟩
     ·rw [if_neg c7] at H
      have a9h := beq_eq_false_iff_ne.mpr c7
      have b5j := bne_iff_ne.mpr c7
      obtain rfl := Option.some.inj H
      have b3r : 0 ≤ (X6 : Int) := Y9
      have b3s : X6 < (l0.length : Int) := Y9
      obtain ⟨b6d, b3t, b3u, c7v, c2y, c2z, a9s, a6H, a6I⟩ := a2P HR0.out X6 b3r b3s
      cases c7v
      have c2A := a_ a6I
      have c2B := a_ a6H
      clear a6I a6H
      replace b3r := eq_true b3r
      replace b3s := eq_true b3s
      have b3v : 0 ≤ (X6 : Int) := Y9
      have b3w : X6 < (l1.length : Int) := Y9
      obtain ⟨b6e, b3x, b3y, c7w, c2C, c2E, a9t, a6J, a6K⟩ := a2P HR1.out X6 b3v b3w
      cases c7w
      have c2F := a_ a6K
      have c2G := a_ a6J
      clear a6K a6J
      replace b3v := eq_true b3v
      replace b3w := eq_true b3w
      go_wp2
      repeat (go_quiet (fail); try go_wp2)
      go_ret
      exact ⟨by (rfl), by repeat (first | exact G6.refl _ | apply G6.step)⟩
    ·rw [if_neg c4] at H
     have a6r := decide_eq_false c4
     clear c4
     obtain rfl := Option.some.inj H
     go_wp2
     go_ret
     exact ⟨by (rfl), by repeat (first | exact G6.refl _ | apply G6.step)⟩
 ·rw [if_neg c3] at H
  have a5g := beq_eq_false_iff_ne.mpr c3
  have b1b := bne_iff_ne.mpr c3
  have f6a : (l0.length == l1.length) = false := by (simp at c3 ⊢; omega)
  obtain rfl := Option.some.inj H
  go_enter Tryd.func12, Tryd.ntmps12
  go_wp2
  go_ret
  exact ⟨by (rfl), by exact G6.refl _⟩
def U6.l0 : Nat → List (S42) → Int → Int → Option (Bool)
 | 0, _, _, _ => none
 | k + 1, x0, x3, x4 => if x4 < (x0.length : Int) then (if x4 < 100 then (if 0 ≤ x4 then (U6.l0 k x0 (wrap64 (x3 + (mn (((F7 x0 x4).f2).length : Int) 100000))) (wrap64 (x4 + 1))) else (none)) else (if (x0.length : Int) ≤ 60 then (some (decide (x3 ≤ 70000))) else (some false))) else (if (x0.length : Int) ≤ 60 then (some (decide (x3 ≤ 70000))) else (some false))
def U6.f (k : Nat) (l0 : List (S42)) : Option (Bool) := U6.l0 k l0 0 0
theorem U6.calls (k : Nat) (A0 : Option Addr) (c0 : Nat) (l0 : List (S42)) (r : Bool) (w : World) (hr0 : Kd.C k42 w A0 l0.length l0) (hc0 : l0.length ≤ c0) (h : U6.f k l0 = some r) :
  Calls Tryd.prog 13 #[.slice A0 l0.length c0] w fun e w' => e = .returned (.bool r) ∧ Below w.heap.size w w' := by
 have HR0 := a_ hr0
 have HC0 := a_ hc0
 clear hr0 hc0
 have HB := a_ (Below.refl w.heap.size w)
 have H := h
 clear h
 unfold U6.f at H
 have H' := a_ H
 clear H
 go_enter Tryd.func13, Tryd.ntmps13
 go_wp2
 go_loopg [3, 4] k (fun kq v3 v4 w' => ∃ (a6Z : Int) (a7Q : Int), v3 = .int .i64 a6Z ∧ v4 = .int .i64 a7Q ∧ Aside0 (U6.l0 kq l0 a6Z a7Q = some r) ∧ Aside0 (kq ≤ k) ∧ Aside0 (Below w.heap.size w w'))
 case atStart => exact ⟨(0), (0), (by first | rfl | (simp; done) | (simp [*]; done)), (by first | rfl | (simp; done) | (simp [*]; done)), H', ⟨Nat.le_refl _⟩, ⟨by repeat (first | (with_reducible first | exact HB.out | apply C9 | apply o7 | apply D7) | exact HB.out)⟩⟩
 case round =>
  clear H'
  try clear c1
  obtain ⟨a6Z, a7Q, rfl, rfl, HA, HK1, HB⟩ := hrel
  cases gk with
  | zero => exact absurd HA.out (by simp [U6.l0])
  | succ k1 =>
   have H := HA.out
   clear HA
   simp only [U6.l0] at H
   by_cases c2 : a7Q < (l0.length : Int)
   ·rw [if_pos c2] at H
    have b6B := decide_eq_true c2
    clear c2
    by_cases c3 : a7Q < 100
    ·rw [if_pos c3] at H
     have a5g := decide_eq_true c3
     clear c3
     have a6r := a4w H
     replace H := U9 H
     obtain ⟨ji5, b90⟩ := si_ ((mn (((F7 l0 a7Q).f2).length : Int) 100000))
     first | rw [b90] at H | simp only [b90] at H
     have f3Z : (if 100000 < (((F7 l0 a7Q).f2).length : Int) then 100000 else (((F7 l0 a7Q).f2).length : Int)) = ji5 := b90
     have H' := a_ H
     clear H
     have e8D : 0 ≤ (a7Q : Int) := of_decide_eq_true (by first | (with_reducible assumption) | assumption)
     have e8E : a7Q < (l0.length : Int) := of_decide_eq_true (by first | (with_reducible assumption) | assumption)
     obtain ⟨h3w, g7L, g7M, g7N, d0D, d0E, d0F, d0G, d0H⟩ := a2P HR0.out a7Q e8D e8E
     cases g7N
     replace d0D := cb_ HB d0D
     replace d0E := cb_ HB d0E
     replace d0F := cb_ HB d0F
     have g0Y := a_ d0H
     have g0Z := a_ d0G
     clear d0H d0G
     replace e8D := eq_true e8D
     replace e8E := eq_true e8E
     go_wp2
     go_roundg k1
     case measure => have := HK1.out; omega
     case rel => exact ⟨(wrap64 (a6Z + (ji5))), (wrap64 (a7Q + 1)), (by first | rfl | (simp; done) | (simp only [← b90] <;> (first | rfl | simp)) | (simp [*]; done)), (by first | rfl | (simp; done) | (simp [*]; done)), H', ⟨by have := HK1.out; omega⟩, ⟨by repeat (first | (with_reducible first | exact HB.out | apply C9 | apply o7 | apply D7) | exact HB.out)⟩⟩
    ·rw [if_neg c3] at H
     have a5g := decide_eq_false c3
     clear c3
     by_cases c6 : (l0.length : Int) ≤ 60
     ·rw [if_pos c6] at H
      have a9K := decide_eq_true c6
      have b8v : decide (l0.length ≤ 60) = true := decide_eq_true (by omega)
      clear c6
      obtain rfl := Option.some.inj H
      go_wp2
      go_ret
      exact ⟨by first | rfl | (simp [P7, P8] <;> rfl) | (simp [*, P7, P8] <;> rfl), by repeat (first | (with_reducible first | exact HB.out | apply C9 | apply o7 | apply D7) | exact HB.out)⟩
     ·rw [if_neg c6] at H
      have a9K := decide_eq_false c6
      have b8v : decide (l0.length ≤ 60) = false := decide_eq_false (by omega)
      clear c6
      obtain rfl := Option.some.inj H
      go_wp2
      go_ret
      exact ⟨by first | rfl | (simp [P7, P8] <;> rfl) | (simp [*, P7, P8] <;> rfl), by repeat (first | (with_reducible first | exact HB.out | apply C9 | apply o7 | apply D7) | exact HB.out)⟩
   ·rw [if_neg c2] at H
    have b6B := decide_eq_false c2
    clear c2
    by_cases c7 : (l0.length : Int) ≤ 60
    ·rw [if_pos c7] at H
     have a9h := decide_eq_true c7
     have b5j : decide (l0.length ≤ 60) = true := decide_eq_true (by omega)
     clear c7
     obtain rfl := Option.some.inj H
     go_wp2
     go_ret
     exact ⟨by first | rfl | (simp [P7, P8] <;> rfl) | (simp [*, P7, P8] <;> rfl), by repeat (first | (with_reducible first | exact HB.out | apply C9 | apply o7 | apply D7) | exact HB.out)⟩
    ·rw [if_neg c7] at H
     have a9h := decide_eq_false c7
     have b5j : decide (l0.length ≤ 60) = false := decide_eq_false (by omega)
     clear c7
     obtain rfl := Option.some.inj H
     go_wp2
     go_ret
     exact ⟨by first | rfl | (simp [P7, P8] <;> rfl) | (simp [*, P7, P8] <;> rfl), by repeat (first | (with_reducible first | exact HB.out | apply C9 | apply o7 | apply D7) | exact HB.out)⟩
theorem b1f.d2d (n : Nat) (w : World) (hn : n < 140737488355328) :
  Calls Tryd.prog 91 #[.slice none 0 0, .int .i64 (n : Int)] w fun e w' => ∃ v0_ : Value, e = .returned (v0_) ∧ Kd.R (Kd.int .u8) 5 w' w.heap.size (fun _ => True) v0_ [] ∧ Below w.heap.size w w' := by
 have HB := a_ (Below.refl w.heap.size w)
 have h0 : decide ((n : Int) < 0) = false := decide_eq_false (by omega)
 have HN := a_ hn
 have hb1 : (n : Int) ≤ 140737488355328 := by omega
 clear hn
 by_cases hz : 0 < (n : Int)
 ·have hz1 : decide (0 < (n : Int)) = true := decide_eq_true hz
  go_enter Tryd.func91, Tryd.ntmps91
  go_wp2_with ((with_reducible refine G7 (b := .append) (xs := #[.tmp 20, .tmp 21]) rfl ?_); at_builtin; refine Kd.b8e (Kd.int .u8) (w0 := w) w.heap.size rfl (.tmp 20) (.tmp 21) 22 3 5 (.int .u8 0) 1 rfl Tryd.underlying22 Tryd.underlying3 info5 rfl (by decide) (by omega) (.slice none 0 0) ([] : List Int) 0 (kx := .i64) (n : Int) (fun _ => True) rfl rfl ?aZ (fun _ _ => trivial) (Kd.a0I _ _ _ _ _) (by omega) ?aB ?aS ?aL ?_; (case aZ => rfl); (case aB => exact HB.out); (case aS => exact Nat.le_refl _); (case aL => have := HN.out; simp only [List.length_nil]; omega); intro v1 w1 ho hb hg hat; have n0_ := a_ hb; have n1_ := a_ ho; clear ho hb hg hat HB; have HB := n0_; have HO := n1_; clear n0_ n1_; obtain ⟨A1, c1, eo⟩ := Kd.J4 HO.out; subst eo)
  go_ret
  exact ⟨_, rfl, Kd.d35 (m := 0) HO.out (Nat.zero_le _), HB.out⟩
 ·have hz1 : decide (0 < (n : Int)) = false := decide_eq_false hz
  go_enter Tryd.func91, Tryd.ntmps91
  go_wp2
  go_ret
  exact ⟨_, rfl, Kd.a0I _ _ _ _ _, HB.out⟩
end Go.Proofs.YtgnonglkibhnhaaDoor.Print
