-- laid together by this session's own program (wip/tools/merge.py) of texts that its program laid
import Derived.Test.YtgnonglkibhnhaaDoor0
import Derived.Test.YtgnonglkibhnhaaDoorZ
namespace Go.Proofs.YtgnonglkibhnhaaDoor.Print
open Go.RowKit Go.Proofs.YtgnonglkibhnhaaDoorW.PrintWords Go.Proofs.YtgnonglkibhnhaaDoorW.PrintLast Go.Proofs.YtgnonglkibhnhaaDoorW.PrintMore
attribute [local go_sem] a0u a0v a1m a1n Y7 Y8 a0w a0x   -- for this text's walks alone
set_option linter.unusedVariables false
set_option linter.unusedSimpArgs false
set_option maxHeartbeats 16000000
set_option maxRecDepth 100000
theorem e3s (d : Nat) (w : World) (x0 y0 : Int) (x1 y1 : Int) :
    (Op.equalIn (d + 2) 30 (.agg #[.int .i64 x0, .int .i64 x1]) (.agg #[.int .i64 y0, .int .i64 y1])).run Tryd.prog w = .ok (x0 == y0 && (x1 == y1)) w := by
  refine d4h Tryd.underlying30 (by kernel_rfl) ?_
  refine c4H (by rfl) (by go_simp; rfl) (by go_simp; rfl) (by go_simp) ?_
  exact c4G (by rfl) (by go_simp; rfl) (by go_simp; rfl) (by go_simp)
theorem E8.b3S.calls (w : World) : Calls Tryd.prog 129 #[.agg #[]] w fun e w' => e = .returned (.int .i64 1) ∧ Below w.heap.size w w' := by
 go_enter Tryd.func129, Tryd.ntmps129
 go_wp2
 go_ret
 exact ⟨rfl, C9 (Below.refl w.heap.size w) _⟩
theorem E8.b8k.calls (w : World) : Calls Tryd.prog 130 #[.agg #[]] w fun e w' => e = .returned (.int .i64 2) ∧ Below w.heap.size w w' := by
 go_enter Tryd.func130, Tryd.ntmps130
 go_wp2
 go_ret
 exact ⟨rfl, C9 (Below.refl w.heap.size w) _⟩
def E8.form (j : Nat) : Value := match j with | 0 => .iface 65 (.agg #[]) | 1 => .iface 67 (.agg #[]) | _ => .nilIface
def E8.at (a0 : Int) : Nat := if a0 = 1 then 0 else if a0 = 2 then 1 else 2
structure E8.Round (w W : World) (gq : Nat) (a0 : Int) (j : Nat) : Prop where
 hr : W.heap[gq]? = some (.cells #[.iface 65 (.agg #[]), .iface 67 (.agg #[])] 62 (0, 0))
 hb : Below w.heap.size w W
 hl : j ≤ E8.at a0
theorem E8.calls (a0 : Int) (w : World) :
  Calls Tryd.prog 22 #[.int .i64 a0] w fun e w' => e = .returned (E8.form (E8.at a0)) ∧ Below w.heap.size w w' := by
 have HB0 := a_ (Below.refl w.heap.size w)
 go_enter Tryd.func22, Tryd.ntmps22
 go_wp2
 obtain ⟨gq, hgq⟩ : ∃ gq, gq = w.heap.size := ⟨_, rfl⟩
 have BR := a_ (b0x w (Obj.cells #[.iface 65 (.agg #[]), .iface 67 (.agg #[])] 62))
 have HB2 := a_ (C9 HB0.out (Obj.cells #[.iface 65 (.agg #[]), .iface 67 (.agg #[])] 62))
 rw [← hgq] at BR ⊢
 generalize hw2 : w.alloc (Obj.cells #[.iface 65 (.agg #[]), .iface 67 (.agg #[])] 62) = w2 at BR HB2 ⊢
 clear hw2 HB0 hgq
 go_loopg [11] 2 (fun kq v11 w' => ∃ j : Nat, kq + j = 2 ∧ v11 = .int .i64 (j : Int) ∧ Aside0 (E8.Round w w' gq a0 j))
 case atStart => exact ⟨0, rfl, rfl, ⟨⟨BR.out, HB2.out, Nat.zero_le _⟩⟩⟩
 case round =>
  obtain ⟨j, hj, rfl, HI⟩ := hrel
  clear BR HB2
  have HK := a_ HI.out.hr
  have HB := a_ HI.out.hb
  have HL := a_ HI.out.hl
  clear HI
  rcases (show j = 0 ∨ j = 1 ∨ j = 2 by omega) with rfl | rfl | rfl
  ·obtain ⟨k1, rfl⟩ : ∃ k1, gk = k1 + 1 := ⟨gk - 1, by omega⟩
   have hm0 : ∀ w : World, (method 145 65 (.agg #[]) "umpire/capture.name").run Tryd.prog w = .ok (129, .agg #[]) w := fun _ => by kernel_rfl
   have hcq := bc0 HK
   have hv : (((0 : Nat) : Int)) = 0 := rfl
   simp only [hv]
   by_cases c1 : a0 = 1
   ·subst c1
    go_wp2_with (fail)
    refine (E8.b3S.calls _).mono ?_
    rintro e w1 ⟨rfl, hb⟩
    have HB1 := W9 HB hb
    clear hb
    go_wp2_with (fail)
    go_ret
    exact ⟨rfl, HB1.out⟩
   ·have c1b : ((1 : Int) == a0) = false := by simpa using (fun h => c1 h.symm)
    go_wp2_with (fail)
    refine (E8.b3S.calls _).mono ?_
    rintro e w1 ⟨rfl, hb⟩
    have HB1 := W9 HB hb
    have HK1 := U5 HK hb
    clear hb HK HB hcq
    go_wp2_with (fail)
    go_roundg k1
    case measure => omega
    case rel => exact ⟨1, by omega, rfl, ⟨⟨HK1.out, HB1.out, by unfold E8.at; rw [if_neg c1]; split <;> omega⟩⟩⟩
  ·obtain ⟨k1, rfl⟩ : ∃ k1, gk = k1 + 1 := ⟨gk - 1, by omega⟩
   have hm0 : ∀ w : World, (method 145 67 (.agg #[]) "umpire/capture.name").run Tryd.prog w = .ok (130, .agg #[]) w := fun _ => by kernel_rfl
   have hcq := bc1 HK
   have hv : (((1 : Nat) : Int)) = 1 := rfl
   simp only [hv]
   have c0 : a0 ≠ 1 := fun h => by have h1 := HL.out; rw [h] at h1; exact absurd h1 (by decide)
   by_cases c1 : a0 = 2
   ·subst c1
    go_wp2_with (fail)
    refine (E8.b8k.calls _).mono ?_
    rintro e w1 ⟨rfl, hb⟩
    have HB1 := W9 HB hb
    clear hb
    go_wp2_with (fail)
    go_ret
    exact ⟨rfl, HB1.out⟩
   ·have c1b : ((2 : Int) == a0) = false := by simpa using (fun h => c1 h.symm)
    go_wp2_with (fail)
    refine (E8.b8k.calls _).mono ?_
    rintro e w1 ⟨rfl, hb⟩
    have HB1 := W9 HB hb
    have HK1 := U5 HK hb
    clear hb HK HB hcq
    go_wp2_with (fail)
    go_roundg k1
    case measure => omega
    case rel => exact ⟨2, by omega, rfl, ⟨⟨HK1.out, HB1.out, by unfold E8.at; rw [if_neg c0, if_neg c1]; omega⟩⟩⟩
  ·have hv : (((2 : Nat) : Int)) = 2 := rfl
   simp only [hv]
   have EA : Aside0 (E8.at a0 = 2) := ⟨by have h := HL.out; unfold E8.at at h ⊢; revert h; split; (intro h; omega); split <;> omega⟩
   go_wp2_with (fail)
   go_ret
   exact ⟨by rw [EA.out]; rfl, HB.out⟩
theorem b3T (v : Value) (w : World) : (Instr.typeAssert (.iface 65 v) 62 65 true).run Tryd.prog w = .ok (.tuple #[v, .bool true]) w := by
 simp [Instr.typeAssert, run_underlying Tryd.underlying65, go_sem, Result.andThen]
theorem b2J (v : Value) (w : World) : (Instr.typeAssert (.iface 67 v) 62 65 true).run Tryd.prog w = .ok (.tuple #[.agg #[], .bool false]) w := by
 simp [Instr.typeAssert, run_underlying Tryd.underlying65, go_sem, Result.andThen]
theorem b2K (w : World) : (Instr.typeAssert .nilIface 62 65 true).run Tryd.prog w = .ok (.tuple #[.agg #[], .bool false]) w := by
 simp [Instr.typeAssert, run_underlying Tryd.underlying65, go_sem, Result.andThen]
theorem b3U (v : Value) (w : World) : (Instr.typeAssert (.iface 67 v) 62 67 true).run Tryd.prog w = .ok (.tuple #[v, .bool true]) w := by
 simp [Instr.typeAssert, run_underlying Tryd.underlying67, go_sem, Result.andThen]
theorem b2L (v : Value) (w : World) : (Instr.typeAssert (.iface 65 v) 62 67 true).run Tryd.prog w = .ok (.tuple #[.agg #[], .bool false]) w := by
 simp [Instr.typeAssert, run_underlying Tryd.underlying67, go_sem, Result.andThen]
theorem b2M (w : World) : (Instr.typeAssert .nilIface 62 67 true).run Tryd.prog w = .ok (.tuple #[.agg #[], .bool false]) w := by
 simp [Instr.typeAssert, run_underlying Tryd.underlying67, go_sem, Result.andThen]
theorem b9Z (v : Value) (w : World) : (Instr.typeAssert (.iface 65 v) 62 65 false).run Tryd.prog w = .ok v w := by
 simp [Instr.typeAssert, run_underlying Tryd.underlying65, go_sem, Result.andThen]
mutual
def V3.j0 : Nat → List Int → Bool → Bool → Option (Int × Bool)
 | 0, _, _, _ => none
 | k + 1, x0, x1, x16 => if x16 = true then (some (0, false)) else (V3.l0 k x0 x1 0 (x0.length : Int) 0)
def V3.l0 : Nat → List Int → Bool → Int → Int → Int → Option (Int × Bool)
 | 0, _, _, _, _, _ => none
 | k + 1, x0, x1, x6, x18, x19 => if x19 < x18 then (if 0 ≤ (wrap64 ((wrap64 ((x0.length : Int) - 1)) - x19)) then (if (wrap64 ((wrap64 ((x0.length : Int) - 1)) - x19)) < (x0.length : Int) then (if x1 = true then (if 0 ≤ x19 then (if x19 < (x0.length : Int) then (V3.l0 k x0 x1 (Go.bits .or .u64 (IntKind.u64.wrap (x6 * 256)) (IntKind.u64.wrap (rd x0 x19))) x18 (wrap64 (x19 + 1))) else (none)) else (none)) else (V3.l0 k x0 x1 (Go.bits .or .u64 (IntKind.u64.wrap (x6 * 256)) (IntKind.u64.wrap (rd x0 (wrap64 ((wrap64 ((x0.length : Int) - 1)) - x19))))) x18 (wrap64 (x19 + 1)))) else (none)) else (none)) else (some (x6, true))
end
def V3.f (k : Nat) (l0 : List Int) (a1 : Bool) : Option (Int × Bool) := if (l0.length : Int) < 1 then (V3.j0 k l0 a1 true) else (V3.j0 k l0 a1 (decide ((l0.length : Int) > 8)))
theorem V3.calls (k : Nat) (A0 : Option Addr) (c0 : Nat) (l0 : List Int) (a1 : Bool) (r1 : Int) (r2 : Bool) (w : World) (hr0 : Kd.C (Kd.int .u8) w A0 l0.length l0) (hc0 : l0.length ≤ c0) (h : V3.f k l0 a1 = some (r1, r2)) :
  Calls Tryd.prog 83 #[.slice A0 l0.length c0, .bool a1] w fun e w' => e = .returned (.tuple #[.int .u64 r1, .bool r2]) ∧ G6 w w' := by
 have HR0 := a_ hr0
 have HC0 := a_ hc0
 clear hr0 hc0
 have H := h
 clear h
 unfold V3.f at H
 have HC3 := a_ H
 clear H
 go_enter Tryd.func83, Tryd.ntmps83
 go_upto_region 1 with (fail)
 go_cut [16] (fun v16 wc => ∃ (kq : Nat) (c9l : Bool), v16 = .bool c9l ∧ Aside0 (V3.j0 kq l0 a1 c9l = some (r1, r2)) ∧ Aside0 (kq ≤ k) ∧ G6 w wc)
 case first =>
  have H := HC3.out
  clear HC3
  by_cases c4 : (l0.length : Int) < 1
  ·rw [if_pos c4] at H
   have a6r := decide_eq_true c4
   have b6A : decide (l0.length < 1) = true := decide_eq_true (by omega)
   clear c4
   have H' := a_ H
   clear H
   go_wp2
   go_meet
   case rel => exact ⟨_, (true), (by rfl), H', ⟨by (omega)⟩, by exact G6.refl _⟩
  ·rw [if_neg c4] at H
   have a6r := decide_eq_false c4
   have b6A : decide (l0.length < 1) = false := decide_eq_false (by omega)
   clear c4
   have H' := a_ H
   clear H
   go_wp2
   go_meet
   case rel => exact ⟨_, (decide ((l0.length : Int) > 8)), (by rfl), H', ⟨by (omega)⟩, by exact G6.refl _⟩
 case rest =>
  clear HC3
  obtain ⟨kq, c9l, rfl, HA, HJ2, ⟨mc2, rfl⟩⟩ := hcut
  cases kq with
  | zero => exact absurd HA.out (by simp [V3.j0])
  | succ kj2 =>
   have H := HA.out
   clear HA
   simp only [V3.j0] at H
   by_cases c5 : c9l = true
   ·subst c5
    rw [if_pos rfl] at H
    obtain ⟨rfl, rfl⟩ := s2_ H
    go_wp2
    go_ret2
    exact ⟨by (rfl), by repeat (first | exact G6.refl _ | apply G6.step)⟩
   ·cases nt_ c5
    rw [if_neg a5a] at H
    have H' := a_ H
    clear H
    go_wp2
    go_loopg [6, 19] kj2 (fun kq v6 v19 w' => ∃ (b3f : Int) (b2N : Int), v6 = .int .u64 b3f ∧ v19 = .int .i64 b2N ∧ Aside0 (V3.l0 kq l0 a1 b3f (l0.length : Int) b2N = some (r1, r2)) ∧ Aside0 (kq ≤ kj2) ∧ G6 w w')
    case atStart => exact ⟨(0), (0), (by rfl), (by rfl), H', ⟨Nat.le_refl _⟩, by repeat (first | exact G6.refl _ | apply G6.step)⟩
    case round =>
     clear H'
     obtain ⟨b3f, b2N, rfl, rfl, HA, HK2, ⟨m2, rfl⟩⟩ := hrel
     cases gk with
     | zero => exact absurd HA.out (by simp [V3.l0])
     | succ k2 =>
      have H := HA.out
      clear HA
      simp only [V3.l0] at H
      by_cases c6 : b2N < (l0.length : Int)
      ·rw [if_pos c6] at H
       have a9K := decide_eq_true c6
       clear c6
       obtain ⟨ji7, f3J⟩ := si_ ((wrap64 ((wrap64 ((l0.length : Int) - 1)) - b2N)))
       rw [f3J] at H
       have h1Q : (IntKind.i64.wrap ((wrap64 ((l0.length : Int) - 1)) - b2N)) = ji7 := (a6w _).trans f3J
       have b8l := a4w H
       replace H := U9 H
       have b5i := a4w H
       replace H := U9 H
       by_cases c10 : a1 = true
       ·subst c10
        rw [if_pos rfl] at H
        have c0o := a4w H
        replace H := U9 H
        have b8m := a4w H
        replace H := U9 H
        have H' := a_ H
        clear H
        obtain ⟨e4p, e7a, d9z, g4Y, g4Z⟩ := e6r HR0 (ji7) Y9 Y9
        cases e7a
        obtain ⟨f3K, e152, g0m, h5g, h5h⟩ := e6r HR0 b2N Y9 Y9
        obtain rfl : e4p = f3K := (by injection e152)
        go_wp2
        go_roundg k2
        case measure => have := HJ2.out; have := HK2.out; omega
        case rel => exact ⟨(Go.bits .or .u64 (IntKind.u64.wrap (b3f * 256)) (IntKind.u64.wrap (rd l0 b2N))), (wrap64 (b2N + 1)), (by rfl), (by rfl), H', ⟨by have := HJ2.out; have := HK2.out; omega⟩, by repeat (first | exact G6.refl _ | apply G6.step)⟩
       ·cases nt_ c10
        rw [if_neg a5a] at H
        have H' := a_ H
        clear H
        obtain ⟨e4p, e7a, d9z, g4Y, g4Z⟩ := e6r HR0 (ji7) Y9 Y9
        cases e7a
        go_wp2
        go_roundg k2
        case measure => have := HJ2.out; have := HK2.out; omega
        case rel => exact ⟨(Go.bits .or .u64 (IntKind.u64.wrap (b3f * 256)) (IntKind.u64.wrap (rd l0 (ji7)))), (wrap64 (b2N + 1)), (by rfl), (by rfl), H', ⟨by have := HJ2.out; have := HK2.out; omega⟩, by repeat (first | exact G6.refl _ | apply G6.step)⟩
      ·rw [if_neg c6] at H
       have a9K := decide_eq_false c6
       clear c6
       obtain ⟨rfl, rfl⟩ := s2_ H
       go_wp2
       go_ret2
       exact ⟨by (rfl), by repeat (first | exact G6.refl _ | apply G6.step)⟩
structure y7.Inv (W : World) (base : Nat) (A : Option Addr) (n c : Nat) (big : Bool) (at_ : Int) (gb ga gg : Nat) : Prop where
 hb : W.heap[gb]? = some (.cells #[.slice A n c] 22 (0, 0))
 ha : W.heap[ga]? = some (.cells #[.int .i64 at_] 3 (0, 0))
 hg : W.heap[gg]? = some (.cells #[.bool big] 4 (0, 0))
 lb : base ≤ gb
 la : base ≤ ga
 lg : base ≤ gg
theorem y7.Inv.keep {W W1 : World} {base : Nat} {A : Option Addr} {n c : Nat} {big : Bool} {at_ : Int} {gb ga gg : Nat} (h : y7.Inv W base A n c big at_ gb ga gg) {g : Nat} (hk : a0X W W1 g none) (h1 : gb ≠ g) (h2 : ga ≠ g) (h3 : gg ≠ g) : y7.Inv W1 base A n c big at_ gb ga gg :=
 ⟨hk.blk h.hb h1 (by simp), hk.blk h.ha h2 (by simp), hk.blk h.hg h3 (by simp), h.lb, h.la, h.lg⟩
theorem y7.Inv.below {W W1 : World} {base : Nat} {A : Option Addr} {n c : Nat} {big : Bool} {at_ : Int} {gb ga gg : Nat} (h : y7.Inv W base A n c big at_ gb ga gg) (hb : Below W.heap.size W W1) : y7.Inv W1 base A n c big at_ gb ga gg :=
 ⟨J3 h.hb hb, J3 h.ha hb, J3 h.hg hb, h.lb, h.la, h.lg⟩
theorem y7.Inv.far {W : World} {base : Nat} {A : Option Addr} {n c : Nat} {big : Bool} {at_ : Int} {gb ga gg : Nat} (h : y7.Inv W base A n c big at_ gb ga gg) {p : Addr} (h1 : gb ≠ p.block) (h2 : ga ≠ p.block) (h3 : gg ≠ p.block) (u : Value) : y7.Inv (W.setCell p u) base A n c big at_ gb ga gg :=
 ⟨o9 h.hb h1 u, o9 h.ha h2 u, o9 h.hg h3 u, h.lb, h.la, h.lg⟩
theorem y7.Inv.lower {W : World} {base base' : Nat} {A : Option Addr} {n c : Nat} {big : Bool} {at_ : Int} {gb ga gg : Nat} (h : y7.Inv W base A n c big at_ gb ga gg) (hb : base' ≤ base) : y7.Inv W base' A n c big at_ gb ga gg :=
 ⟨h.hb, h.ha, h.hg, Nat.le_trans hb h.lb, Nat.le_trans hb h.la, Nat.le_trans hb h.lg⟩
theorem y7.Inv.go {W : World} {base : Nat} {A : Option Addr} {n c : Nat} {big : Bool} {at_ at' : Int} {gb ga gg : Nat} (h : y7.Inv W base A n c big at_ gb ga gg) (nd : Nat) :
  y7.Inv ((W.drewN nd).setCell ⟨ga, 0, none⟩ (.int .i64 at')) base A n c big at' gb ga gg ∧ a0X W ((W.drewN nd).setCell ⟨ga, 0, none⟩ (.int .i64 at')) ga none ∧ (∀ w0 : World, Below w0.heap.size w0 W → w0.heap.size ≤ ga → Below w0.heap.size w0 ((W.drewN nd).setCell ⟨ga, 0, none⟩ (.int .i64 at'))) := by
 have n1 : gb ≠ ga := a6z h.hb h.ha (by decide)
 have n3 : gg ≠ ga := a6z h.hg h.ha (by decide)
 refine ⟨⟨o9 (p := ⟨ga, 0, none⟩) (Q9 h.hb nd) n1 _, l9 (Q9 h.ha nd) 0 _ rfl, o9 (p := ⟨ga, 0, none⟩) (Q9 h.hg nd) n3 _, h.lb, h.la, h.lg⟩, ?_, fun w0 hb hl => o8 (o7 hb nd) hl⟩
 exact (a0X.of_below (o7 (Below.refl _ _) nd) ga none).f3w 0 _
theorem y7.calls (A : Option Addr) (n c : Nat) (big : Bool) (w : World) :
  Calls Tryd.prog 79 #[.slice A n c, .bool big] w fun e w' => ∃ gb ga gg, e = .returned (.func (.func 95) #[] #[.pointer (some ⟨gb, 0, none⟩), .pointer (some ⟨ga, 0, none⟩), .pointer (some ⟨gg, 0, none⟩)]) ∧ y7.Inv w' w.heap.size A n c big 0 gb ga gg ∧ Below w.heap.size w w' := by
 go_enter Tryd.func79, Tryd.ntmps79
 go_wp2
 go_ret
 refine ⟨w.heap.size, w.heap.size + 1 + 1, w.heap.size + 1, rfl, ⟨a7o (a7o (b0x w _) _) _, ?_, ?_, by omega, by omega, by omega⟩, C9 (C9 (C9 (Below.refl _ _) _) _) _⟩
 ·have h := b0x ((w.alloc (.cells #[.slice A n c] 22)).alloc (.cells #[.bool big] 4)) (.cells #[.int .i64 0] 3)
  simpa using h
 ·refine a7o ?_ _
  have h := b0x (w.alloc (.cells #[.slice A n c] 22)) (.cells #[.bool big] 4)
  simpa using h
def y7.num (k : Nat) (l : List Int) (big : Bool) (at_ size : Int) : Option Int := (V3.f k ((l.take (at_ + size).toNat).drop at_.toNat) big).bind fun t => some (t.1 % 4294967296)
theorem y7.next (k : Nat) (A : Option Addr) (l : List Int) (c : Nat) (big : Bool) (at_ size : Int) (r : Int) (base gb ga gg : Nat) (W : World) (hI : y7.Inv W base A l.length c big at_ gb ga gg) (hC : Kd.C (Kd.int .u8) W A l.length l) (hc : l.length ≤ c) (h0 : 0 ≤ at_) (h1 : 0 ≤ size) (h2 : at_ + size ≤ l.length) (h : y7.num k l big at_ size = some r) :
  Calls Tryd.prog 95 #[.int .i64 size, .pointer (some ⟨gb, 0, none⟩), .pointer (some ⟨ga, 0, none⟩), .pointer (some ⟨gg, 0, none⟩)] W fun e w' => e = .returned (.int .u32 r) ∧ y7.Inv w' base A l.length c big (at_ + size) gb ga gg ∧ a0X W w' ga none ∧ (∀ w0 : World, Below w0.heap.size w0 W → w0.heap.size ≤ ga → Below w0.heap.size w0 w') := by
 obtain ⟨⟨t1, t2⟩, hg, hr⟩ := Option.bind_eq_some_iff.1 h
 have hr' : t1 % 4294967296 = r := Option.some.inj hr
 have hm := hC.2.1
 have hc1 : W.cell? ⟨gb, 0, none⟩ = some (.slice A l.length c) := (E5 hI.hb 0).trans rfl
 have hc2 : W.cell? ⟨ga, 0, none⟩ = some (.int .i64 at_) := (E5 hI.ha 0).trans rfl
 have hc3 : W.cell? ⟨gg, 0, none⟩ = some (.bool big) := (E5 hI.hg 0).trans rfl
 have hf2 : W.frozen? ⟨ga, 0, none⟩ = false := l7 hI.ha 0
 obtain ⟨i0, hi0, _, hsz, _⟩ := info_parts info5
 obtain ⟨A8, hcut, hA8, hC8⟩ := a6A (P := Tryd.prog) (Value.int .u8) 0 22 5 .i64 .i64 Tryd.underlying22 hi0 hsz A c l at_ (at_ + size) h0 (by omega) h2 hc
 have HR := a_ (Kd.a0K (h1 := fun _ => rfl) (hA8 _ (Kd.a0p hC)))
 have HC := a_ hC8
 have HG := a_ hg
 have HE := a_ hr'
 have HI := a_ hI
 have hlen : ((l.take (at_ + size).toNat).drop at_.toNat).length = (at_ + size).toNat - at_.toNat := by
  rw [List.length_drop, List.length_take]
  omega
 have d9A : Aside0 (∀ a : Nat, Calls Tryd.prog 83 #[.slice A8 ((at_ + size).toNat - at_.toNat) (c - at_.toNat), .bool big] (W.drewN a) fun e w' => e = .returned (.tuple #[.int .u64 t1, .bool t2]) ∧ ∃ m, w' = W.drewN m) := ⟨fun a => by
  rw [← hlen]
  exact Calls.quiet_of ((V3.calls k _ _ ((l.take (at_ + size).toNat).drop at_.toNat) big t1 t2 _ (Kd.a2V HR.out a) HC.out HG.out).mono fun _ _ h => ⟨h.1, h.2.out⟩)⟩
 have hw : IntKind.i64.wrap (at_ + size) = at_ + size := IntWalk.i64_in _ (by omega)
 clear hI hC hc h hr hr' hg hA8 hC8 hi0 hsz hlen
 go_enter Tryd.func95, Tryd.ntmps95
 go_wp2
 go_quiet ((go_at_call 83; exact d9A.out _))
 go_wp2
 go_ret
 refine ⟨by rw [← HE.out]; rfl, HI.out.go nq⟩
theorem y7.range {k : Nat} {l : List Int} {big : Bool} {at_ size r : Int} (h : y7.num k l big at_ size = some r) : 0 ≤ r ∧ r < 4294967296 := by
 obtain ⟨t, _, hr⟩ := Option.bind_eq_some_iff.1 h
 have := Option.some.inj hr
 omega
def a0q.f (k : Nat) (l0 : List Int) : Option (Bool × Bool × Int × Int × Bool) :=
 (y7.num k l0 false 0 4).bind fun t1 => if t1 = 2712847316 then some (false, false, 0, 0, true) else if t1 = 2712812621 then some (false, true, 0, 0, true) else
  (y7.num k l0 true 0 4).bind fun t2 => if t2 = 2712847316 then some (true, false, 0, 0, true) else if t2 = 2712812621 then some (true, true, 0, 0, true) else some (false, false, 0, 0, false)
def a0q.left (k : Nat) (l0 : List Int) (j : Nat) (r : Bool × Bool × Int × Int × Bool) : Prop :=
 match j with
 | 0 => a0q.f k l0 = some r
 | 1 => ((y7.num k l0 true 0 4).bind fun t2 => if t2 = 2712847316 then some (true, false, 0, 0, true) else if t2 = 2712812621 then some (true, true, 0, 0, true) else some (false, false, 0, 0, false)) = some r
 | _ => (false, false, 0, 0, false) = r
theorem a0q.left_step {k : Nat} {l0 : List Int} {j : Nat} {r : Bool × Bool × Int × Int × Bool} (hj : j < 2) (h : a0q.left k l0 j r) :
  ∃ t, y7.num k l0 (decide (j = 1)) 0 4 = some t ∧ (t = 2712847316 → (decide (j = 1), false, 0, 0, true) = r) ∧ (t ≠ 2712847316 → t = 2712812621 → (decide (j = 1), true, 0, 0, true) = r) ∧ (t ≠ 2712847316 → t ≠ 2712812621 → a0q.left k l0 (j + 1) r) := by
 have hc : j = 0 ∨ j = 1 := by omega
 rcases hc with rfl | rfl
 ·obtain ⟨t, ht, h⟩ := Option.bind_eq_some_iff.1 (show a0q.f k l0 = some r from h)
  refine ⟨t, ht, fun h1 => ?_, fun h1 h2 => ?_, fun h1 h2 => ?_⟩
  ·rw [if_pos h1] at h; exact Option.some.inj h
  ·rw [if_neg h1, if_pos h2] at h; exact Option.some.inj h
  ·rw [if_neg h1, if_neg h2] at h; exact h
 ·obtain ⟨t, ht, h⟩ := Option.bind_eq_some_iff.1 h
  refine ⟨t, ht, fun h1 => ?_, fun h1 h2 => ?_, fun h1 h2 => ?_⟩
  ·rw [if_pos h1] at h; exact Option.some.inj h
  ·rw [if_neg h1, if_pos h2] at h; exact Option.some.inj h
  ·rw [if_neg h1, if_neg h2] at h; exact Option.some.inj h
structure a0q.Round (w W : World) (gq g2 k : Nat) (l0 : List Int) (j : Nat) (r : Bool × Bool × Int × Int × Bool) : Prop where
 hr : W.heap[gq]? = some (.cells #[.bool false, .bool true] 4 (0, 0))
 h2 : W.heap[g2]? = some (.cells #[.bool false, .bool false, .int .u32 0, .int .u32 0] 46 (0, 0))
 hb : Below w.heap.size w W
 hl : a0q.left k l0 j r
theorem a0q.calls (k : Nat) (A0 : Option Addr) (c0 : Nat) (l0 : List Int) (r1 r2 : Bool) (r3 r4 : Int) (r5 : Bool) (w : World) (hr0 : Kd.C (Kd.int .u8) w A0 l0.length l0) (hc0 : l0.length ≤ c0) (h4 : 4 ≤ l0.length) (h : a0q.f k l0 = some (r1, r2, r3, r4, r5)) :
  Calls Tryd.prog 78 #[.slice A0 l0.length c0] w fun e w' => e = .returned (.tuple #[.agg #[.bool r1, .bool r2, .int .u32 r3, .int .u32 r4], .bool r5]) ∧ Below w.heap.size w w' := by
 have huM := Tryd.underlying46
 have HR0 := a_ hr0
 have HC0 := a_ hc0
 have HW := a_ (Below.refl w.heap.size w)
 have HF := a_ (show a0q.left k l0 0 (r1, r2, r3, r4, r5) from h)
 have H4 := a_ h4
 clear hr0 hc0 h h4
 go_enter Tryd.func78, Tryd.ntmps78
 go_wp2_with ((refine be_ 2 #[.bool false, .bool false, .int .u32 0, .int .u32 0] 46 ?_; intro g2 hg w1 hbox hb; have BK2 := a_ hbox; have HB1 := W9 HW hb; have GE2 : Aside0 (w.heap.size ≤ g2) := ⟨by rw [hg]; exact Nat.le_refl _⟩; clear hg hbox hb; have b3V := bc0 BK2; have b3W := l7 BK2.out 0; have b3X := bc1 BK2; have b3Y := l7 BK2.out 1; have b3Z := bc2 BK2; have b30 := l7 BK2.out 2; have b31 := bc3 BK2; have b33 := l7 BK2.out 3))
 obtain ⟨gq, hgq⟩ : ∃ gq, gq = w1.heap.size := ⟨_, rfl⟩
 have BR := a_ (b0x w1 (Obj.cells #[.bool false, .bool true] 4))
 have a9l := a_ (a7o BK2.out (Obj.cells #[.bool false, .bool true] 4))
 have HB2 := a_ (C9 HB1.out (Obj.cells #[.bool false, .bool true] 4))
 rw [← hgq] at BR ⊢
 generalize w1.alloc (Obj.cells #[.bool false, .bool true] 4) = w2 at BR a9l HB2 ⊢
 clear hgq BK2 HB1 b3V b3X b3Z b31 b3W b3Y b30 b33 HW
 go_loopg [8] 2 (fun kq v8 w' => ∃ j : Nat, kq + j = 2 ∧ v8 = .int .i64 (j : Int) ∧ Aside0 (a0q.Round w w' gq g2 k l0 j (r1, r2, r3, r4, r5)))
 case atStart => exact ⟨0, rfl, rfl, ⟨⟨BR.out, a9l.out, HB2.out, HF.out⟩⟩⟩
 case round =>
  obtain ⟨j, hj, rfl, HI⟩ := hrel
  clear BR a9l HB2 HF
  have HK := a_ HI.out.hr
  have BK := a_ HI.out.h2
  have HB := a_ HI.out.hb
  have HL := a_ HI.out.hl
  clear HI
  obtain ⟨b3V, b3X, b3Z, b31, b3W, b3Y, b30, b33⟩ := blk4 BK.out
  by_cases hlt : j < 2
  ·obtain ⟨t, ht, e1, e2, e3⟩ := a0q.left_step hlt HL.out
   obtain ⟨k1, rfl⟩ : ∃ k1, gk = k1 + 1 := ⟨gk - 1, by omega⟩
   have HT := a_ ht
   have E1 := a_ e1
   have E2 := a_ e2
   have E3 := a_ e3
   clear ht e1 e2 e3 HL
   rcases (show j = 0 ∨ j = 1 by omega) with rfl | rfl
   ·have hcq := bc0 HK
    have hv : ((0 : Nat) : Int) = 0 := rfl
    simp only [hv]
    go_wp2_with (fail)
    refine (y7.calls A0 l0.length c0 false _).mono ?_
    rintro e w3 ⟨gb, ga, gg, rfl, hI, hb⟩
    have BK3 := U5 BK hb
    have HK3 := U5 HK hb
    have HB3 := W9 HB hb
    have LA := a_ (Nat.le_trans (y5 HB.out) hI.la)
    have I3 := a_ (hI.lower (y5 HB.out))
    have NB2 : Aside0 (g2 ≠ ga) := ⟨a6z BK3.out hI.ha (by decide)⟩
    have NBQ : Aside0 (gq ≠ ga) := ⟨a6z HK3.out hI.ha (by decide)⟩
    clear hI hb
    go_wp2_with (fail)
    refine (y7.next k A0 l0 c0 false 0 4 t _ gb ga gg _ I3.out (Kd.D6 HR0.out HB3.out) HC0.out (by omega) (by omega) (by have := H4.out; omega) HT.out).mono ?_
    rintro e w4 ⟨rfl, hI, hk, hb⟩
    have BK4 := a_ (hk.blk BK3.out NB2.out (by simp))
    have HK4 := a_ (hk.blk HK3.out NBQ.out (by simp))
    have HB4 := a_ (hb w HB3.out LA.out)
    clear hI hk hb BK3 HK3 HB3 I3
    have b8n := bc0 BK4
    have b8o := l7 BK4.out 0
    have b8p := bc1 BK4
    have b8q := l7 BK4.out 1
    have b8r := bc2 BK4
    have b8s := l7 BK4.out 2
    have b8t := bc3 BK4
    have b8u := l7 BK4.out 3
    by_cases c1 : t = 2712847316
    ·have c1b : (t == 2712847316) = true := by simpa using c1
     have h : (false, false, (0 : Int), (0 : Int), true) = (r1, r2, r3, r4, r5) := E1.out c1
     simp only [Prod.mk.injEq] at h
     obtain ⟨rfl, rfl, rfl, rfl, rfl⟩ := h
     clear E1 E2 E3 c1
     go_wp2_with (fail)
     refine bodyPost_ret (Y5 rfl _ _ g2 46 #[.bool false, .bool false, .int .u32 0, .int .u32 0] (0, 0) _ rfl (by refine l9 (cs := #[.bool false, .bool false, .int .u32 0, .int .u32 0]) ?_ 3 _ rfl; refine l9 (cs := #[.bool false, .bool false, .int .u32 0, .int .u32 0]) ?_ 2 _ rfl; refine l9 (cs := #[.bool false, .bool false, .int .u32 0, .int .u32 0]) ?_ 1 _ rfl; refine l9 (cs := #[.bool false, .bool false, .int .u32 0, .int .u32 0]) ?_ 0 _ rfl; exact BK4.out) Tryd.underlying46 rfl (by kernel_rfl)) rfl ?_; exact ⟨rfl, by repeat (first | exact HB4.out | refine o8 ?_ GE2.out)⟩
    ·by_cases c2 : t = 2712812621
     ·have c1b : (t == 2712847316) = false := by simpa using c1
      have c2b : (t == 2712812621) = true := by simpa using c2
      have h : (false, true, (0 : Int), (0 : Int), true) = (r1, r2, r3, r4, r5) := E2.out c1 c2
      simp only [Prod.mk.injEq] at h
      obtain ⟨rfl, rfl, rfl, rfl, rfl⟩ := h
      clear E1 E2 E3 c1 c2
      go_wp2_with (fail)
      refine bodyPost_ret (Y5 rfl _ _ g2 46 #[.bool false, .bool true, .int .u32 0, .int .u32 0] (0, 0) _ rfl (by refine l9 (cs := #[.bool false, .bool true, .int .u32 0, .int .u32 0]) ?_ 3 _ rfl; refine l9 (cs := #[.bool false, .bool true, .int .u32 0, .int .u32 0]) ?_ 2 _ rfl; refine l9 (cs := #[.bool false, .bool false, .int .u32 0, .int .u32 0]) ?_ 1 _ rfl; refine l9 (cs := #[.bool false, .bool false, .int .u32 0, .int .u32 0]) ?_ 0 _ rfl; exact BK4.out) Tryd.underlying46 rfl (by kernel_rfl)) rfl ?_; exact ⟨rfl, by repeat (first | exact HB4.out | refine o8 ?_ GE2.out)⟩
     ·have c1b : (t == 2712847316) = false := by simpa using c1
      have c2b : (t == 2712812621) = false := by simpa using c2
      have HL : Aside0 (a0q.left k l0 1 (r1, r2, r3, r4, r5)) := ⟨E3.out c1 c2⟩
      clear E1 E2 E3 c1 c2
      go_wp2_with (fail)
      go_roundg k1
      case measure => omega
      case rel => exact ⟨1, by omega, rfl, ⟨⟨HK4.out, BK4.out, HB4.out, HL.out⟩⟩⟩
   ·have hcq := bc1 HK
    have hv : ((1 : Nat) : Int) = 1 := rfl
    simp only [hv]
    go_wp2_with (fail)
    refine (y7.calls A0 l0.length c0 true _).mono ?_
    rintro e w3 ⟨gb, ga, gg, rfl, hI, hb⟩
    have BK3 := U5 BK hb
    have HK3 := U5 HK hb
    have HB3 := W9 HB hb
    have LA := a_ (Nat.le_trans (y5 HB.out) hI.la)
    have I3 := a_ (hI.lower (y5 HB.out))
    have NB2 : Aside0 (g2 ≠ ga) := ⟨a6z BK3.out hI.ha (by decide)⟩
    have NBQ : Aside0 (gq ≠ ga) := ⟨a6z HK3.out hI.ha (by decide)⟩
    clear hI hb
    go_wp2_with (fail)
    refine (y7.next k A0 l0 c0 true 0 4 t _ gb ga gg _ I3.out (Kd.D6 HR0.out HB3.out) HC0.out (by omega) (by omega) (by have := H4.out; omega) HT.out).mono ?_
    rintro e w4 ⟨rfl, hI, hk, hb⟩
    have BK4 := a_ (hk.blk BK3.out NB2.out (by simp))
    have HK4 := a_ (hk.blk HK3.out NBQ.out (by simp))
    have HB4 := a_ (hb w HB3.out LA.out)
    clear hI hk hb BK3 HK3 HB3 I3
    have b8n := bc0 BK4
    have b8o := l7 BK4.out 0
    have b8p := bc1 BK4
    have b8q := l7 BK4.out 1
    have b8r := bc2 BK4
    have b8s := l7 BK4.out 2
    have b8t := bc3 BK4
    have b8u := l7 BK4.out 3
    by_cases c1 : t = 2712847316
    ·have c1b : (t == 2712847316) = true := by simpa using c1
     have h : (true, false, (0 : Int), (0 : Int), true) = (r1, r2, r3, r4, r5) := E1.out c1
     simp only [Prod.mk.injEq] at h
     obtain ⟨rfl, rfl, rfl, rfl, rfl⟩ := h
     clear E1 E2 E3 c1
     go_wp2_with (fail)
     refine bodyPost_ret (Y5 rfl _ _ g2 46 #[.bool true, .bool false, .int .u32 0, .int .u32 0] (0, 0) _ rfl (by refine l9 (cs := #[.bool true, .bool false, .int .u32 0, .int .u32 0]) ?_ 3 _ rfl; refine l9 (cs := #[.bool true, .bool false, .int .u32 0, .int .u32 0]) ?_ 2 _ rfl; refine l9 (cs := #[.bool true, .bool false, .int .u32 0, .int .u32 0]) ?_ 1 _ rfl; refine l9 (cs := #[.bool false, .bool false, .int .u32 0, .int .u32 0]) ?_ 0 _ rfl; exact BK4.out) Tryd.underlying46 rfl (by kernel_rfl)) rfl ?_; exact ⟨rfl, by repeat (first | exact HB4.out | refine o8 ?_ GE2.out)⟩
    ·by_cases c2 : t = 2712812621
     ·have c1b : (t == 2712847316) = false := by simpa using c1
      have c2b : (t == 2712812621) = true := by simpa using c2
      have h : (true, true, (0 : Int), (0 : Int), true) = (r1, r2, r3, r4, r5) := E2.out c1 c2
      simp only [Prod.mk.injEq] at h
      obtain ⟨rfl, rfl, rfl, rfl, rfl⟩ := h
      clear E1 E2 E3 c1 c2
      go_wp2_with (fail)
      refine bodyPost_ret (Y5 rfl _ _ g2 46 #[.bool true, .bool true, .int .u32 0, .int .u32 0] (0, 0) _ rfl (by refine l9 (cs := #[.bool true, .bool true, .int .u32 0, .int .u32 0]) ?_ 3 _ rfl; refine l9 (cs := #[.bool true, .bool true, .int .u32 0, .int .u32 0]) ?_ 2 _ rfl; refine l9 (cs := #[.bool true, .bool false, .int .u32 0, .int .u32 0]) ?_ 1 _ rfl; refine l9 (cs := #[.bool false, .bool false, .int .u32 0, .int .u32 0]) ?_ 0 _ rfl; exact BK4.out) Tryd.underlying46 rfl (by kernel_rfl)) rfl ?_; exact ⟨rfl, by repeat (first | exact HB4.out | refine o8 ?_ GE2.out)⟩
     ·have c1b : (t == 2712847316) = false := by simpa using c1
      have c2b : (t == 2712812621) = false := by simpa using c2
      have HL : Aside0 (a0q.left k l0 2 (r1, r2, r3, r4, r5)) := ⟨E3.out c1 c2⟩
      clear E1 E2 E3 c1 c2
      go_wp2_with (fail)
      go_roundg k1
      case measure => omega
      case rel => exact ⟨2, by omega, rfl, ⟨⟨HK4.out, BK4.out, HB4.out, HL.out⟩⟩⟩
  ·obtain rfl : j = 2 := by omega
   have h : (false, false, (0 : Int), (0 : Int), false) = (r1, r2, r3, r4, r5) := HL.out
   simp only [Prod.mk.injEq] at h
   obtain ⟨rfl, rfl, rfl, rfl, rfl⟩ := h
   have hv : ((2 : Nat) : Int) = 2 := rfl
   simp only [hv]
   clear HL
   go_wp2_with (fail)
   refine bodyPost_ret (Y5 rfl _ _ g2 46 #[.bool false, .bool false, .int .u32 0, .int .u32 0] (0, 0) _ rfl (by refine l9 (cs := #[.bool false, .bool false, .int .u32 0, .int .u32 0]) ?_ 3 _ rfl; refine l9 (cs := #[.bool false, .bool false, .int .u32 0, .int .u32 0]) ?_ 2 _ rfl; refine l9 (cs := #[.bool false, .bool false, .int .u32 0, .int .u32 0]) ?_ 1 _ rfl; refine l9 (cs := #[.bool false, .bool false, .int .u32 0, .int .u32 0]) ?_ 0 _ rfl; exact BK.out) Tryd.underlying46 rfl (by kernel_rfl)) rfl ?_; exact ⟨rfl, by repeat (first | exact HB.out | refine o8 ?_ GE2.out)⟩
def J6.f (l0 : List Int) : Option (List Int) := if l0.length < 140737488355328 then some l0 else none
theorem J6.calls (A0 : Option Addr) (c0 : Nat) (l0 : List Int) (r : List Int) (w : World) (hr0 : Kd.C (Kd.int .u8) w A0 l0.length l0) (hc0 : l0.length ≤ c0) (h : J6.f l0 = some r) :
  Calls Tryd.prog 96 #[.slice A0 l0.length c0] w fun e w' => ∃ v0_ : Value, e = .returned (v0_) ∧ Kd.R (Kd.int .u8) 5 w' w.heap.size (fun _ => True) v0_ r ∧ Below w.heap.size w w' := by
 obtain ⟨hl, rfl⟩ : l0.length < 140737488355328 ∧ l0 = r := by
  unfold J6.f at h
  split at h
  ·exact ⟨by assumption, Option.some.inj h⟩
  ·cases h
 have HR0 := a_ hr0
 have HB := a_ (Below.refl w.heap.size w)
 have HL := a_ hl
 clear h hl
 cases A0 with
 | none =>
  obtain rfl : l0 = [] := by
   rcases Nat.eq_zero_or_pos l0.length with h0 | h0
   ·exact List.eq_nil_of_length_eq_zero h0
   ·obtain ⟨ad, e, _⟩ := hr0.2.2 h0
    cases e
  clear hr0 HL HR0
  have hnil := fun W : World => Go.Lib.run_eql_slice_nil (P := Tryd.prog) W 22 5 none 0 c0 0 0 Tryd.underlying22
  simp only [List.length_nil]
  go_enter Tryd.func96, Tryd.ntmps96
  go_wp2
  go_ret
  exact ⟨_, rfl, Kd.a0I _ _ _ _ _, HB.out⟩
 | some ad0 =>
  clear hr0
  have hnil := fun W : World => Go.Lib.run_eql_slice_nil (P := Tryd.prog) W 22 5 (some ad0) l0.length c0 0 0 Tryd.underlying22
  go_enter Tryd.func96, Tryd.ntmps96
  go_wp2_with (first | ((with_reducible refine P9 (N := 5) rfl ?_); refine Kd.b03 (Kd.int .u8) _ 5 ?hg (N := 5) ?hd (xs := ([] : List Int)) (inner := []) (ok := fun _ => True) (okp := fun _ => True) ?hr ?hp (fun _ hk => hk) trivial (Below.refl _ _) (Nat.le_refl _) (by simp) ?_; (case hd => rfl); (case hg => rfl); (case hr => first | (go_simp; done) | (go_simp; rfl)); (case hp => exact (N9.none _ _)); intro g42 w3 ho4 hb hg_ a1q; clear hg_ a1q; have e4r := a_ (Kd.X4 ho4 (y5 (by repeat (first | (with_reducible first | exact HB.out | apply C9 | apply o7 | apply D7) | exact HB.out)))); replace HB := a_ (G9 (by repeat (first | (with_reducible first | exact HB.out | apply C9 | apply o7 | apply D7) | exact HB.out)) hb); clear hb ho4) | ((with_reducible refine G7 (b := .append) (xs := #[.tmp 5, .tmp 6]) rfl ?_); at_builtin; refine Kd.Q8 (Kd.int .u8) (w0 := w) w.heap.size rfl (.tmp 5) (.tmp 6) 22 5 (.int .u8 0) 1 rfl Tryd.underlying22 info5 rfl (by decide) (by omega) g42 ([] : List Int) l0 _ _ _ (fun _ => True) (fun _ => False) rfl rfl ?aO ?aR (fun _ _ h => h) (fun _ h => h.elim) ?aF ?aB ?aS ?aL ?_; (case aR => repeat (first | exact (Kd.D6 HR0.out HB.out) | (with_reducible refine Kd.a7C ?_ _) | (with_reducible refine Kd.a2V ?_ _) | (with_reducible refine Kd.a4l ?_))); (case aB => exact (by repeat (first | (with_reducible first | exact HB.out | apply C9 | apply o7 | apply D7) | exact HB.out))); (case aF => exact (fun _ _ => trivial)); (case aO => exact (by (with_reducible repeat (first | apply Kd.a6d | apply Kd.a1o | apply Kd.a4k)); exact e4r.out)); (case aS => exact (y5 (by repeat (first | (with_reducible first | exact HB.out | apply C9 | apply o7 | apply D7) | exact HB.out)))); (case aL => have := HL.out; simp only [List.length_nil]; omega); intro v117 w5 ho hb hg hat; have f3M := a_ ho; replace HB := a_ hb; clear e4r; clear ho hb hg hat))
  go_ret
  exact ⟨_, rfl, f3M.out, HB.out⟩
def a1S.f (l0 : List Int) (a1 : Int) (a2 : Int) : Option (List Int × Bool) := if a1 < 0 then (some (([] : List Int), false)) else (if a2 < 0 then (some (([] : List Int), false)) else (if a1 > (l0.length : Int) then (some (([] : List Int), false)) else (if a2 > (wrap64 ((l0.length : Int) - a1)) then (some (([] : List Int), false)) else (if 0 ≤ a1 then (if a1 ≤ (wrap64 (a1 + a2)) then (if (wrap64 (a1 + a2)) ≤ (l0.length : Int) then ((J6.f ((l0.take ((wrap64 (a1 + a2)) : Int).toNat).drop (a1 : Int).toNat)).bind fun e7b => (some (e7b, true))) else (none)) else (none)) else (none)))))
theorem a1S.calls (A0 : Option Addr) (c0 : Nat) (l0 : List Int) (a1 : Int) (a2 : Int) (r1 : List Int) (r2 : Bool) (w : World) (hr0 : Kd.C (Kd.int .u8) w A0 l0.length l0) (hc0 : l0.length ≤ c0) (h : a1S.f l0 a1 a2 = some (r1, r2)) :
  Calls Tryd.prog 80 #[.slice A0 l0.length c0, .int .i64 a1, .int .i64 a2] w fun e w' => ∃ v0_ : Value, e = .returned (.tuple #[v0_, .bool r2]) ∧ Kd.R (Kd.int .u8) 5 w' w.heap.size (fun _ => True) v0_ r1 ∧ Below w.heap.size w w' := by
 have HR0 := a_ hr0
 have HC0 := a_ hc0
 clear hr0 hc0
 have HB := a_ (Below.refl w.heap.size w)
 have H := h
 clear h
 unfold a1S.f at H
 by_cases c4 : a1 < 0
 ·rw [if_pos c4] at H
  have a6r := decide_eq_true c4
  clear c4
  obtain ⟨rfl, rfl⟩ := s2_ H
  go_enter Tryd.func80, Tryd.ntmps80
  go_wp2
  go_ret2
  exact ⟨_, by first | rfl | (simp [P7, P8] <;> rfl) | (simp [*, P7, P8] <;> rfl), by first | exact Kd.a0I _ _ _ _ _ | exact Kd.c4F _ _ _ _ _ | exact Kd.c9j _ _ _ _ _ | exact Kd.c9e _ _ _ _ _ | exact Kd.a6k _ _ _ _ _, by repeat (first | (with_reducible first | exact HB.out | apply C9 | apply o7 | apply D7) | exact HB.out)⟩
 ·rw [if_neg c4] at H
  have a6r := decide_eq_false c4
  clear c4
  by_cases c5 : a2 < 0
  ·rw [if_pos c5] at H
   have a9g := decide_eq_true c5
   clear c5
   obtain ⟨rfl, rfl⟩ := s2_ H
   go_enter Tryd.func80, Tryd.ntmps80
   go_wp2
   go_ret2
   exact ⟨_, by first | rfl | (simp [P7, P8] <;> rfl) | (simp [*, P7, P8] <;> rfl), by first | exact Kd.a0I _ _ _ _ _ | exact Kd.c4F _ _ _ _ _ | exact Kd.c9j _ _ _ _ _ | exact Kd.c9e _ _ _ _ _ | exact Kd.a6k _ _ _ _ _, by repeat (first | (with_reducible first | exact HB.out | apply C9 | apply o7 | apply D7) | exact HB.out)⟩
  ·rw [if_neg c5] at H
   have a9g := decide_eq_false c5
   clear c5
   by_cases c6 : a1 > (l0.length : Int)
   ·rw [if_pos c6] at H
    have a9K : decide ((l0.length : Int) < a1) = true := decide_eq_true c6
    clear c6
    obtain ⟨rfl, rfl⟩ := s2_ H
    go_enter Tryd.func80, Tryd.ntmps80
    go_wp2
    go_ret2
    exact ⟨_, by first | rfl | (simp [P7, P8] <;> rfl) | (simp [*, P7, P8] <;> rfl), by first | exact Kd.a0I _ _ _ _ _ | exact Kd.c4F _ _ _ _ _ | exact Kd.c9j _ _ _ _ _ | exact Kd.c9e _ _ _ _ _ | exact Kd.a6k _ _ _ _ _, by repeat (first | (with_reducible first | exact HB.out | apply C9 | apply o7 | apply D7) | exact HB.out)⟩
   ·rw [if_neg c6] at H
    have a9K : decide ((l0.length : Int) < a1) = false := decide_eq_false c6
    clear c6
    by_cases c7 : a2 > (wrap64 ((l0.length : Int) - a1))
    ·rw [if_pos c7] at H
     have a9h : decide ((wrap64 ((l0.length : Int) - a1)) < a2) = true := decide_eq_true c7
     clear c7
     obtain ⟨rfl, rfl⟩ := s2_ H
     go_enter Tryd.func80, Tryd.ntmps80
     go_wp2
     go_ret2
     exact ⟨_, by first | rfl | (simp [P7, P8] <;> rfl) | (simp [*, P7, P8] <;> rfl), by first | exact Kd.a0I _ _ _ _ _ | exact Kd.c4F _ _ _ _ _ | exact Kd.c9j _ _ _ _ _ | exact Kd.c9e _ _ _ _ _ | exact Kd.a6k _ _ _ _ _, by repeat (first | (with_reducible first | exact HB.out | apply C9 | apply o7 | apply D7) | exact HB.out)⟩
    ·rw [if_neg c7] at H
     have a9h : decide ((wrap64 ((l0.length : Int) - a1)) < a2) = false := decide_eq_false c7
     clear c7
     have c8 := a0o H
     replace H := U9 H
     have b8l := eq_true c8
     have d9C := decide_eq_true c8
     clear c8
     have c9 := a0o H
     replace H := U9 H
     have b5i := eq_true c9
     have c1O := decide_eq_true c9
     have c10 := a0o H
     replace H := U9 H
     have b34 := eq_true c10
     have d4n := decide_eq_true c10
     replace H := Option.bind_eq_some_iff.mp H
     obtain ⟨e7b, b35, H⟩ := H
     try dsimp only at H
     have A11 := a_ b35
     clear b35
     obtain ⟨rfl, rfl⟩ := s2_ H
     obtain ⟨g43, c4K, _, c4M, _⟩ := info_parts info5
     obtain ⟨A12, e7c, d4o, d4p⟩ := a6A (P := Tryd.prog) (Value.int .u8) 0 22 5 .i64 .i64 Tryd.underlying22 c4K c4M A0 c0 l0 a1 (wrap64 (a1 + a2)) (of_decide_eq_true (by first | (with_reducible assumption) | assumption)) (by first | omega | exact of_decide_eq_true (by first | (with_reducible assumption) | assumption)) (of_decide_eq_true (by first | (with_reducible assumption) | assumption)) HC0.out
     have f3N := a_ (Kd.a0K (h1 := fun _ => rfl) (d4o _ (Kd.a0p HR0.out)))
     have f3O := a_ d4p
     clear d4o d4p c4K c4M
     go_enter Tryd.func80, Tryd.ntmps80
     go_wp2_with (first | (refine gl_ (some 34) Tryd.func96 #[.slice A12 ((l0.take ((wrap64 (a1 + a2)) : Int).toNat).drop (a1 : Int).toNat).length (c0 - a1.toNat)] ?_ (hargs := by (try simp only [List.map_toArray, List.map_cons, List.map_nil]); first | done | (rw [show ((l0.take ((wrap64 (a1 + a2)) : Int).toNat).drop (a1 : Int).toNat).length = ((wrap64 (a1 + a2)).toNat - a1.toNat) from (by rw [List.length_drop, List.length_take]; have h_ : ((wrap64 (a1 + a2)) : Int) ≤ (l0.length : Int) := of_decide_eq_true (by first | (with_reducible assumption) | assumption); omega)] <;> rfl) | rfl | (simp only [List.length_drop, List.length_take]; rfl)); (with_reducible refine (J6.calls _ _ ((l0.take ((wrap64 (a1 + a2)) : Int).toNat).drop (a1 : Int).toNat) e7b _ ?Q5 ?Q7 A11.out).mono ?_); (case Q5 => repeat (first | exact f3N.out | (with_reducible refine Kd.a7C ?_ _) | (with_reducible refine Kd.a2V ?_ _) | (with_reducible refine Kd.a4l ?_))); (case Q7 => exact f3O.out); rintro e w13 ⟨h5i, rfl, ho0, hb⟩; refine ⟨_, rfl, ?_⟩; have f3P := a_ (Kd.X4 ho0 (y5 (by repeat (first | (with_reducible first | exact HB.out | apply C9 | apply o7 | apply D7) | exact HB.out)))); replace HB := a_ (G9 (by repeat (first | (with_reducible first | exact HB.out | apply C9 | apply o7 | apply D7) | exact HB.out)) hb); (try clear hb); (try clear hb2); (try clear hk); (try clear hi); (try clear ho0)))
     go_ret2
     exact ⟨_, by first | rfl | (simp [P7, P8] <;> rfl) | (simp [*, P7, P8] <;> rfl), by (with_reducible repeat (first | apply Kd.a6d | apply Kd.a1o | apply Kd.a4k)); exact f3P.out, by repeat (first | (with_reducible first | exact HB.out | apply C9 | apply o7 | apply D7) | exact HB.out)⟩
def a4F.f (k : Nat) (l0 : List Int) (a1 : Bool) : Option (Int × Int × Int × List Int × Int × Int) :=
 if (l0.length : Int) < 16 then some (0, 0, 0, ([] : List Int), 0, 2) else
 (y7.num k l0 a1 0 4).bind fun t1 => (y7.num k l0 a1 4 4).bind fun t2 => (y7.num k l0 a1 8 4).bind fun t3 => (y7.num k l0 a1 12 4).bind fun t4 =>
  if t3 > 131072 then some (0, 0, 0, ([] : List Int), 0, 4) else
  (a1S.f l0 16 t3).bind fun c => if c.2 = true then some (t1, t2, t4, c.1, 16 + t3, 0) else some (0, 0, 0, ([] : List Int), 0, 2)
theorem a4F.calls (k : Nat) (A0 : Option Addr) (c0 : Nat) (l0 : List Int) (a1 : Bool) (r1 : Int) (r2 : Int) (r3 : Int) (r4 : List Int) (r5 : Int) (r6 : Int) (w : World) (hr0 : Kd.C (Kd.int .u8) w A0 l0.length l0) (hc0 : l0.length ≤ c0) (h : a4F.f k l0 a1 = some (r1, r2, r3, r4, r5, r6)) :
  Calls Tryd.prog 62 #[.slice A0 l0.length c0, .bool a1] w fun e w' => ∃ v3_ : Value, e = .returned (.tuple #[.agg #[.int .u32 r1, .int .u32 r2, .int .u32 r3, v3_], .int .i64 r5, .int .i64 r6]) ∧ Kd.R (Kd.int .u8) 5 w' w.heap.size (fun _ => True) v3_ r4 ∧ Below w.heap.size w w' := by
 have c39 := Tryd.underlying51
 unfold a4F.f at h
 have HR0 := a_ hr0
 have HC0 := a_ hc0
 have HW := a_ (Below.refl w.heap.size w)
 by_cases c1 : (l0.length : Int) < 16
 ·rw [if_pos c1] at h
  simp only [Option.some.injEq, Prod.mk.injEq] at h
  obtain ⟨rfl, rfl, rfl, rfl, rfl, rfl⟩ := h
  have c1b := decide_eq_true c1
  clear c1 hr0 hc0
  go_enter Tryd.func62, Tryd.ntmps62
  go_wp2_with ((refine be_ 4 #[.int .u32 0, .int .u32 0, .int .u32 0, .slice none 0 0] 51 ?_; intro g4 hg w1 hbox hb; have BK4 := a_ hbox; have HB1 := W9 HW hb; have GE4 : Aside0 (w.heap.size ≤ g4) := ⟨by rw [hg]; exact Nat.le_refl _⟩; clear hg hbox hb; obtain ⟨b8n, b8p, b8r, b8t, b8o, b8q, b8s, b8u⟩ := blk4 BK4.out))
  refine bodyPost_ret (a1e rfl _ _ g4 51 #[.int .u32 0, .int .u32 0, .int .u32 0, .slice none 0 0] (0, 0) _ rfl (by refine l9 (cs := #[.int .u32 0, .int .u32 0, .int .u32 0, .slice none 0 0]) ?_ 3 _ rfl; refine l9 (cs := #[.int .u32 0, .int .u32 0, .int .u32 0, .slice none 0 0]) ?_ 2 _ rfl; refine l9 (cs := #[.int .u32 0, .int .u32 0, .int .u32 0, .slice none 0 0]) ?_ 1 _ rfl; refine l9 (cs := #[.int .u32 0, .int .u32 0, .int .u32 0, .slice none 0 0]) ?_ 0 _ rfl; exact BK4.out) Tryd.underlying51 rfl (by kernel_rfl)) rfl ?_
  exact ⟨_, rfl, Kd.a0I _ _ _ _ _, by repeat (first | exact HB1.out | refine o8 ?_ GE4.out)⟩
 ·rw [if_neg c1] at h
  replace h := Option.bind_eq_some_iff.1 h
  obtain ⟨t1, h1, h⟩ := h
  replace h := Option.bind_eq_some_iff.1 h
  obtain ⟨t2, h2, h⟩ := h
  replace h := Option.bind_eq_some_iff.1 h
  obtain ⟨t3, h3, h⟩ := h
  replace h := Option.bind_eq_some_iff.1 h
  obtain ⟨t4, h4, h⟩ := h
  have c1b := decide_eq_false c1
  have hlen : 16 ≤ (l0.length : Int) := by omega
  have r30 := (y7.range h3).1
  have r31 := (y7.range h3).2
  have HL := a_ hlen
  have H1 := a_ h1
  have H2 := a_ h2
  have H3 := a_ h3
  have H4 := a_ h4
  have H := a_ h
  clear h1 h2 h3 h4 h c1 hr0 hc0
  go_enter Tryd.func62, Tryd.ntmps62
  go_wp2_with ((refine be_ 4 #[.int .u32 0, .int .u32 0, .int .u32 0, .slice none 0 0] 51 ?_; intro g4 hg w1 hbox hb; have BK4 := a_ hbox; have HB1 := W9 HW hb; have GE4 : Aside0 (w.heap.size ≤ g4) := ⟨by rw [hg]; exact Nat.le_refl _⟩; clear hg hbox hb; obtain ⟨b8n, b8p, b8r, b8t, b8o, b8q, b8s, b8u⟩ := blk4 BK4.out))
  refine (y7.calls A0 l0.length c0 a1 _).mono ?_
  rintro e w2 ⟨gb, ga, gg, rfl, hI2, hb2⟩
  have d4q := U5 BK4 hb2
  have HB2 := W9 HB1 hb2
  have LA := a_ (Nat.le_trans (y5 HB1.out) hI2.la)
  have I2 := a_ (hI2.lower (y5 HB1.out))
  have NB4 : Aside0 (g4 ≠ ga) := ⟨a6z d4q.out hI2.ha (by decide)⟩
  clear hI2 hb2 BK4 HB1
  go_wp2_with (fail)
  refine (y7.next k A0 l0 c0 a1 0 4 t1 _ gb ga gg _ I2.out (Kd.D6 HR0.out HB2.out) HC0.out (by omega) (by omega) (by have := HL.out; omega) H1.out).mono ?_
  rintro e w3 ⟨rfl, hI3, hk3, hb3⟩
  have d4r := a_ (hk3.blk d4q.out NB4.out (by simp))
  have HB3 := a_ (hb3 w HB2.out LA.out)
  have I3 : Aside0 (y7.Inv w3 w.heap.size A0 l0.length c0 a1 4 gb ga gg) := ⟨hI3⟩
  clear hI3 hk3 hb3 d4q HB2 I2
  go_wp2_with ((refine be_ 8 #[.int .u32 0, .int .u32 0, .int .u32 0, .slice none 0 0] 51 ?_; intro g8 hg w4 hbox hb; have BK8 := a_ hbox; have GE8 : Aside0 (w.heap.size ≤ g8) := ⟨by rw [hg]; exact y5 HB3.out⟩; have c4N : Aside0 (g4 ≠ g8) := ⟨by rw [hg]; exact Nat.ne_of_lt (a0L d4r.out)⟩; have b36 := U5 d4r hb; have I4 := a_ (I3.out.below hb); have HB4 := W9 HB3 hb; have N8b : Aside0 (gb ≠ g8) := ⟨a6z I4.out.hb BK8.out (by decide)⟩; have N8a : Aside0 (ga ≠ g8) := ⟨a6z I4.out.ha BK8.out (by decide)⟩; have N8g : Aside0 (gg ≠ g8) := ⟨a6z I4.out.hg BK8.out (by decide)⟩; clear hg hbox hb d4r HB3 I3; obtain ⟨e4s, e4t, e4u, c0p, c9p, e4v, e4w, e4x⟩ := blk4 BK8.out))
  refine (y7.next k A0 l0 c0 a1 4 4 t2 w.heap.size gb ga gg _ (by repeat (first | exact I4.out | refine y7.Inv.far ?_ N8b.out N8a.out N8g.out _)) (Kd.D6 HR0.out (by repeat (first | exact HB4.out | refine o8 ?_ GE8.out))) HC0.out (by omega) (by omega) (by have := HL.out; omega) H2.out).mono ?_
  rintro e w5 ⟨rfl, hI, hk, hb⟩
  have b2O := a_ (hk.blk (o := .cells #[.int .u32 t1, .int .u32 0, .int .u32 0, .slice none 0 0] 51 (0, 0)) (g' := g8) (by refine l9 (cs := #[.int .u32 t1, .int .u32 0, .int .u32 0, .slice none 0 0]) ?_ 3 _ rfl; refine l9 (cs := #[.int .u32 t1, .int .u32 0, .int .u32 0, .slice none 0 0]) ?_ 2 _ rfl; refine l9 (cs := #[.int .u32 t1, .int .u32 0, .int .u32 0, .slice none 0 0]) ?_ 1 _ rfl; refine l9 (cs := #[.int .u32 0, .int .u32 0, .int .u32 0, .slice none 0 0]) ?_ 0 _ rfl; exact BK8.out) N8a.out.symm (by simp))
  have a94 := a_ (hk.blk (o := .cells #[.int .u32 0, .int .u32 0, .int .u32 0, .slice none 0 0] 51 (0, 0)) (g' := g4) (by repeat (first | exact b36.out | refine o9 ?_ c4N.out _)) NB4.out (by simp))
  have HB5 := a_ (hb w (by repeat (first | exact HB4.out | refine o8 ?_ GE8.out)) LA.out)
  have I5 : Aside0 (y7.Inv w5 w.heap.size A0 l0.length c0 a1 8 gb ga gg) := ⟨hI⟩
  clear hI hk hb BK8 b36 HB4 I4
  have g44 := bc0 b2O
  have g45 := l7 b2O.out 0
  have g46 := bc1 b2O
  have g49 := l7 b2O.out 1
  have g5a := bc2 b2O
  have g5b := l7 b2O.out 2
  have g5c := bc3 b2O
  have g5d := l7 b2O.out 3
  go_wp2_with (fail)
  refine (y7.next k A0 l0 c0 a1 8 4 t3 w.heap.size gb ga gg _ (by repeat (first | exact I5.out | refine y7.Inv.far ?_ N8b.out N8a.out N8g.out _)) (Kd.D6 HR0.out (by repeat (first | exact HB5.out | refine o8 ?_ GE8.out))) HC0.out (by omega) (by omega) (by have := HL.out; omega) H3.out).mono ?_
  rintro e w6 ⟨rfl, hI, hk, hb⟩
  have b2P := a_ (hk.blk (o := .cells #[.int .u32 t1, .int .u32 t2, .int .u32 0, .slice none 0 0] 51 (0, 0)) (g' := g8) (by refine l9 (cs := #[.int .u32 t1, .int .u32 0, .int .u32 0, .slice none 0 0]) ?_ 1 _ rfl; exact b2O.out) N8a.out.symm (by simp))
  have a95 := a_ (hk.blk (o := .cells #[.int .u32 0, .int .u32 0, .int .u32 0, .slice none 0 0] 51 (0, 0)) (g' := g4) (by repeat (first | exact a94.out | refine o9 ?_ c4N.out _)) NB4.out (by simp))
  have HB6 := a_ (hb w (by repeat (first | exact HB5.out | refine o8 ?_ GE8.out)) LA.out)
  have I6 : Aside0 (y7.Inv w6 w.heap.size A0 l0.length c0 a1 12 gb ga gg) := ⟨hI⟩
  clear hI hk hb b2O a94 HB5 I5
  have g5e := bc0 b2P
  have g5f := l7 b2P.out 0
  have g5g := bc1 b2P
  have g5h := l7 b2P.out 1
  have g5i := bc2 b2P
  have g5j := l7 b2P.out 2
  have g5k := bc3 b2P
  have g5l := l7 b2P.out 3
  go_wp2_with (fail)
  refine (y7.next k A0 l0 c0 a1 12 4 t4 w.heap.size gb ga gg _ I6.out (Kd.D6 HR0.out HB6.out) HC0.out (by omega) (by omega) (by have := HL.out; omega) H4.out).mono ?_
  rintro e w7 ⟨rfl, hI, hk, hb⟩
  have b37 := a_ (hk.blk b2P.out N8a.out.symm (by simp))
  have a5G := a_ (hk.blk a95.out NB4.out (by simp))
  have HB7 := a_ (hb w HB6.out LA.out)
  clear hI hk hb b2P a95 HB6 I6
  have g5m := bc0 b37
  have g5n := l7 b37.out 0
  have g5o := bc1 b37
  have g5p := l7 b37.out 1
  have g5q := bc2 b37
  have g5r := l7 b37.out 2
  have g5s := bc3 b37
  have g5t := l7 b37.out 3
  have e7d := bc0 a5G
  have e7e := l7 a5G.out 0
  have e7f := bc1 a5G
  have e7g := l7 a5G.out 1
  have e7h := bc2 a5G
  have e7i := l7 a5G.out 2
  have e7j := bc3 a5G
  have e7k := l7 a5G.out 3
  have n48 : g4 ≠ g8 := c4N.out
  have n84 : g8 ≠ g4 := c4N.out.symm
  by_cases c2 : t3 > 131072
  ·have h := H.out
   rw [if_pos c2] at h
   simp only [Option.some.injEq, Prod.mk.injEq] at h
   obtain ⟨rfl, rfl, rfl, rfl, rfl, rfl⟩ := h
   have c2b : decide (131072 < t3) = true := decide_eq_true c2
   go_wp2_with (fail)
   refine bodyPost_ret (a1e rfl _ _ g4 51 #[.int .u32 0, .int .u32 0, .int .u32 0, .slice none 0 0] (0, 0) _ rfl (by refine l9 (cs := #[.int .u32 0, .int .u32 0, .int .u32 0, .slice none 0 0]) ?_ 3 _ rfl; refine l9 (cs := #[.int .u32 0, .int .u32 0, .int .u32 0, .slice none 0 0]) ?_ 2 _ rfl; refine l9 (cs := #[.int .u32 0, .int .u32 0, .int .u32 0, .slice none 0 0]) ?_ 1 _ rfl; refine l9 (cs := #[.int .u32 0, .int .u32 0, .int .u32 0, .slice none 0 0]) ?_ 0 _ rfl; refine o9 ?_ c4N.out _; exact a5G.out) Tryd.underlying51 rfl (by kernel_rfl)) rfl ?_
   exact ⟨_, rfl, Kd.a0I _ _ _ _ _, by repeat (first | exact HB7.out | refine o8 ?_ GE4.out | refine o8 ?_ GE8.out)⟩
  ·have h := H.out
   rw [if_neg c2] at h
   obtain ⟨⟨d1, d2⟩, h5, h6⟩ := Option.bind_eq_some_iff.1 h
   have H5 := a_ h5
   have c2b : decide (131072 < t3) = false := decide_eq_false c2
   have r32 : t3 ≤ 131072 := by omega
   cases d2 with
   | false =>
    simp only [Bool.false_eq_true, if_false, Option.some.injEq, Prod.mk.injEq] at h6
    obtain ⟨rfl, rfl, rfl, rfl, rfl, rfl⟩ := h6
    clear h h5 c2
    go_wp2_with (fail)
    refine (a1S.calls A0 c0 l0 16 t3 d1 false _ (Kd.D6 HR0.out (by repeat (first | exact HB7.out | refine o8 ?_ GE8.out))) HC0.out H5.out).mono ?_
    rintro e w8 ⟨v, rfl, hv, hb⟩
    have a2Z := a_ (J3 (g := g4) (o := .cells #[.int .u32 0, .int .u32 0, .int .u32 0, .slice none 0 0] 51 (0, 0)) (by repeat (first | exact a5G.out | refine o9 ?_ c4N.out _)) hb)
    have HB8 := a_ (G9 (by repeat (first | exact HB7.out | refine o8 ?_ GE8.out)) hb)
    clear hv hb
    have d4s := bc0 a2Z
    have d4t := l7 a2Z.out 0
    have d4u := bc1 a2Z
    have d4v := l7 a2Z.out 1
    have d4w := bc2 a2Z
    have d4x := l7 a2Z.out 2
    have d4y := bc3 a2Z
    have d4z := l7 a2Z.out 3
    go_wp2_with (fail)
    refine bodyPost_ret (a1e rfl _ _ g4 51 #[.int .u32 0, .int .u32 0, .int .u32 0, .slice none 0 0] (0, 0) _ rfl (by refine l9 (cs := #[.int .u32 0, .int .u32 0, .int .u32 0, .slice none 0 0]) ?_ 3 _ rfl; refine l9 (cs := #[.int .u32 0, .int .u32 0, .int .u32 0, .slice none 0 0]) ?_ 2 _ rfl; refine l9 (cs := #[.int .u32 0, .int .u32 0, .int .u32 0, .slice none 0 0]) ?_ 1 _ rfl; refine l9 (cs := #[.int .u32 0, .int .u32 0, .int .u32 0, .slice none 0 0]) ?_ 0 _ rfl; exact a2Z.out) Tryd.underlying51 rfl (by kernel_rfl)) rfl ?_
    exact ⟨_, rfl, Kd.a0I _ _ _ _ _, by repeat (first | exact HB8.out | refine o8 ?_ GE4.out)⟩
   | true =>
    simp only [if_true, Option.some.injEq, Prod.mk.injEq] at h6
    obtain ⟨rfl, rfl, rfl, rfl, rfl, rfl⟩ := h6
    clear h h5 c2
    go_wp2_with (fail)
    refine (a1S.calls A0 c0 l0 16 t3 d1 true _ (Kd.D6 HR0.out (by repeat (first | exact HB7.out | refine o8 ?_ GE8.out))) HC0.out H5.out).mono ?_
    rintro e w8 ⟨v, rfl, hv, hb⟩
    obtain ⟨Av, cv, rfl⟩ := Kd.J4 hv
    have a2Z := a_ (J3 (g := g4) (o := .cells #[.int .u32 0, .int .u32 0, .int .u32 0, .slice none 0 0] 51 (0, 0)) (by repeat (first | exact a5G.out | refine o9 ?_ c4N.out _)) hb)
    have b38 := a_ (J3 (g := g8) (o := .cells #[.int .u32 t1, .int .u32 t2, .int .u32 t4, .slice none 0 0] 51 (0, 0)) (by refine l9 (cs := #[.int .u32 t1, .int .u32 t2, .int .u32 0, .slice none 0 0]) ?_ 2 _ rfl; exact b37.out) hb)
    have HB8 := a_ (G9 (by repeat (first | exact HB7.out | refine o8 ?_ GE8.out)) hb)
    have HO := a_ (Kd.X4 hv (y5 (by repeat (first | exact HB7.out | refine o8 ?_ GE8.out))))
    clear hv hb
    have d4s := bc0 a2Z
    have d4t := l7 a2Z.out 0
    have d4u := bc1 a2Z
    have d4v := l7 a2Z.out 1
    have d4w := bc2 a2Z
    have d4x := l7 a2Z.out 2
    have d4y := bc3 a2Z
    have d4z := l7 a2Z.out 3
    have g5u := bc0 b38
    have g5v := l7 b38.out 0
    have g5w := bc1 b38
    have g5x := l7 b38.out 1
    have g5y := bc2 b38
    have g5z := l7 b38.out 2
    have g5A := bc3 b38
    have g5B := l7 b38.out 3
    go_wp2_with (fail)
    have B0 := a_ (o9 (p := ⟨g8, 3, none⟩) a2Z.out c4N.out (.slice Av d1.length cv))
    have B1 := a_ (l9 B0.out 0 (.int .u32 t1) (cs' := #[.int .u32 t1, .int .u32 0, .int .u32 0, .slice none 0 0]) rfl)
    have B2 := a_ (l9 B1.out 1 (.int .u32 t2) (cs' := #[.int .u32 t1, .int .u32 t2, .int .u32 0, .slice none 0 0]) rfl)
    have B3 := a_ (l9 B2.out 2 (.int .u32 t4) (cs' := #[.int .u32 t1, .int .u32 t2, .int .u32 t4, .slice none 0 0]) rfl)
    have B4 := a_ (l9 B3.out 3 (.slice Av d1.length cv) (cs' := #[.int .u32 t1, .int .u32 t2, .int .u32 t4, .slice Av d1.length cv]) rfl)
    have O0 := a_ (Kd.c0e HO.out b38.out (by decide) 3 (.slice Av d1.length cv))
    have O1 := a_ (Kd.c0e O0.out B0.out (by decide) 0 (.int .u32 t1))
    have O2 := a_ (Kd.c0e O1.out B1.out (by decide) 1 (.int .u32 t2))
    have O3 := a_ (Kd.c0e O2.out B2.out (by decide) 2 (.int .u32 t4))
    have O4 := a_ (Kd.c0e O3.out B3.out (by decide) 3 (.slice Av d1.length cv))
    refine bodyPost_ret (a1e rfl _ _ g4 51 #[.int .u32 t1, .int .u32 t2, .int .u32 t4, .slice Av d1.length cv] (0, 0) _ rfl B4.out Tryd.underlying51 rfl (by kernel_rfl)) rfl ?_
    exact ⟨_, rfl, O4.out, by repeat (first | exact HB8.out | refine o8 ?_ GE4.out | refine o8 ?_ GE8.out)⟩
def a0a.f (a0 : Int) : Option (Bool) := if a0 ≥ 1 then (if a0 ≤ 65535 then (if (Go.bits .and .i64 a0 1) = 1 then (if (Go.bits .and .i64 a0 256) = 0 then (some (a0 != 255)) else (some false)) else (some false)) else (some false)) else (some false)
theorem a0a.calls (a0 : Int) (r : Bool) (w : World) (h : a0a.f a0 = some r) :
  Calls Tryd.prog 33 #[.int .i64 a0] w fun e w' => e = .returned (.bool r) ∧ G6 w w' := by
 have H := h
 clear h
 unfold a0a.f at H
 by_cases c2 : a0 ≥ 1
 ·rw [if_pos c2] at H
  have b6B : decide (1 ≤ a0) = true := decide_eq_true c2
  clear c2
  by_cases c3 : a0 ≤ 65535
  ·rw [if_pos c3] at H
   have a5g := decide_eq_true c3
   clear c3
   by_cases c4 : (Go.bits .and .i64 a0 1) = 1
   ·rw [if_pos c4] at H
    obtain ⟨a6r, b6A⟩ := bt_ c4
    by_cases c5 : (Go.bits .and .i64 a0 256) = 0
    ·rw [if_pos c5] at H
     obtain ⟨a9g, b6C⟩ := bt_ c5
     obtain rfl := Option.some.inj H
     go_enter Tryd.func33, Tryd.ntmps33
     go_wp2
     go_ret
     exact ⟨by first | rfl | (simp; done) | (simp [*]; done), by repeat (first | exact G6.refl _ | apply G6.step)⟩
    ·rw [if_neg c5] at H
     have a9g := beq_eq_false_iff_ne.mpr c5
     have b6C := bne_iff_ne.mpr c5
     obtain rfl := Option.some.inj H
     go_enter Tryd.func33, Tryd.ntmps33
     go_wp2
     go_ret
     exact ⟨by first | rfl | (simp; done) | (simp [*]; done), by repeat (first | exact G6.refl _ | apply G6.step)⟩
   ·rw [if_neg c4] at H
    have a6r := beq_eq_false_iff_ne.mpr c4
    have b6A := bne_iff_ne.mpr c4
    obtain rfl := Option.some.inj H
    go_enter Tryd.func33, Tryd.ntmps33
    go_wp2
    go_ret
    exact ⟨by first | rfl | (simp; done) | (simp [*]; done), by repeat (first | exact G6.refl _ | apply G6.step)⟩
  ·rw [if_neg c3] at H
   have a5g := decide_eq_false c3
   clear c3
   obtain rfl := Option.some.inj H
   go_enter Tryd.func33, Tryd.ntmps33
   go_wp2
   go_ret
   exact ⟨by first | rfl | (simp; done) | (simp [*]; done), by repeat (first | exact G6.refl _ | apply G6.step)⟩
 ·rw [if_neg c2] at H
  have b6B : decide (1 ≤ a0) = false := decide_eq_false c2
  clear c2
  obtain rfl := Option.some.inj H
  go_enter Tryd.func33, Tryd.ntmps33
  go_wp2
  go_ret
  exact ⟨by first | rfl | (simp; done) | (simp [*]; done), by repeat (first | exact G6.refl _ | apply G6.step)⟩
def a2R.f (l0 : List Int) : Option (Int × Int) := if (l0.length : Int) = 0 then (some (0, 2)) else (if 0 < (l0.length : Int) then (if (rd l0 0) = 255 then (if (l0.length : Int) = 1 then (some (0, 2)) else (if 1 < (l0.length : Int) then (if (rd l0 1) = 3 then (some (2, 0)) else (some (0, 3))) else (none))) else (some (0, 0))) else (none))
theorem a2R.calls (A0 : Option Addr) (c0 : Nat) (l0 : List Int) (r1 : Int) (r2 : Int) (w : World) (hr0 : Kd.C (Kd.int .u8) w A0 l0.length l0) (hc0 : l0.length ≤ c0) (h : a2R.f l0 = some (r1, r2)) :
  Calls Tryd.prog 97 #[.slice A0 l0.length c0] w fun e w' => e = .returned (.tuple #[.int .i64 r1, .int .i64 r2]) ∧ G6 w w' := by
 have HR0 := a_ hr0
 have HC0 := a_ hc0
 clear hr0 hc0
 have H := h
 clear h
 unfold a2R.f at H
 by_cases c2 : (l0.length : Int) = 0
 ·rw [if_pos c2] at H
  obtain ⟨b6B, d18⟩ := bt_ c2
  obtain ⟨rfl, rfl⟩ := s2_ H
  go_enter Tryd.func97, Tryd.ntmps97
  go_wp2
  go_ret2
  exact ⟨by first | rfl | (simp; done) | (simp [*]; done), by repeat (first | exact G6.refl _ | apply G6.step)⟩
 ·rw [if_neg c2] at H
  have b6B := beq_eq_false_iff_ne.mpr c2
  have d18 := bne_iff_ne.mpr c2
  have f3T : ¬ (l0 = []) := fun h_ => c2 (by rw [h_]; rfl)
  have c3 := a0o H
  replace H := U9 H
  have a5g := decide_eq_true c3
  have b1b : decide (0 < l0.length) = true := decide_eq_true (by omega)
  clear c3
  by_cases c4 : (rd l0 0) = 255
  ·rw [if_pos c4] at H
   obtain ⟨a6r, b6A⟩ := bt_ c4
   by_cases c5 : (l0.length : Int) = 1
   ·rw [if_pos c5] at H
    obtain ⟨a9g, b6C⟩ := bt_ c5
    obtain ⟨rfl, rfl⟩ := s2_ H
    have b3g : 0 ≤ (0 : Int) := (by omega)
    have b3h : 0 < (l0.length : Int) := of_decide_eq_true (by first | (with_reducible assumption) | assumption)
    obtain ⟨c4O, e126, a6F⟩ := Kd.a0W HR0.out 0 b3g b3h
    cases e126
    have d4A : (0 < l0.length) = True := eq_true (by omega)
    (try rw [show ((0 : Int)).toNat = 0 from rfl] at a6F)
    (try rw [Addr.add_zero'] at a6F)
    replace b3g := eq_true b3g
    replace b3h := eq_true b3h
    go_enter Tryd.func97, Tryd.ntmps97
    go_wp2
    go_ret2
    exact ⟨by first | rfl | (simp; done) | (simp [*]; done), by repeat (first | exact G6.refl _ | apply G6.step)⟩
   ·rw [if_neg c5] at H
    have a9g := beq_eq_false_iff_ne.mpr c5
    have b6C := bne_iff_ne.mpr c5
    have c6 := a0o H
    replace H := U9 H
    have a9K := decide_eq_true c6
    have b8v : decide (1 < l0.length) = true := decide_eq_true (by omega)
    clear c6
    by_cases c7 : (rd l0 1) = 3
    ·rw [if_pos c7] at H
     obtain ⟨a9h, b5j⟩ := bt_ c7
     obtain ⟨rfl, rfl⟩ := s2_ H
     have b3g : 0 ≤ (0 : Int) := (by omega)
     have b3h : 0 < (l0.length : Int) := of_decide_eq_true (by first | (with_reducible assumption) | assumption)
     obtain ⟨c4O, e126, a6F⟩ := Kd.a0W HR0.out 0 b3g b3h
     cases e126
     have d4A : (0 < l0.length) = True := eq_true (by omega)
     (try rw [show ((0 : Int)).toNat = 0 from rfl] at a6F)
     (try rw [Addr.add_zero'] at a6F)
     replace b3g := eq_true b3g
     replace b3h := eq_true b3h
     have c62 : 0 ≤ (1 : Int) := (by omega)
     have c63 : 1 < (l0.length : Int) := of_decide_eq_true (by first | (with_reducible assumption) | assumption)
     obtain ⟨d4B, e127, b39⟩ := Kd.a0W HR0.out 1 c62 c63
     obtain rfl : c4O = d4B := (by injection e127)
     (try simp only [show (1 : Int).toNat = 1 from rfl, Nat.reduceMul, Nat.reduceEqDiff, Go.Addr.add, ↓reduceIte] at b39)
     have f3U : (1 < l0.length) = True := eq_true (by omega)
     (try rw [show ((1 : Int)).toNat = 1 from rfl] at b39)
     replace c62 := eq_true c62
     replace c63 := eq_true c63
     go_enter Tryd.func97, Tryd.ntmps97
     go_wp2
     go_ret2
     exact ⟨by first | rfl | (simp; done) | (simp [*]; done), by repeat (first | exact G6.refl _ | apply G6.step)⟩
    ·rw [if_neg c7] at H
     have a9h := beq_eq_false_iff_ne.mpr c7
     have b5j := bne_iff_ne.mpr c7
     obtain ⟨rfl, rfl⟩ := s2_ H
     have b3g : 0 ≤ (0 : Int) := (by omega)
     have b3h : 0 < (l0.length : Int) := of_decide_eq_true (by first | (with_reducible assumption) | assumption)
     obtain ⟨c4O, e126, a6F⟩ := Kd.a0W HR0.out 0 b3g b3h
     cases e126
     have d4A : (0 < l0.length) = True := eq_true (by omega)
     (try rw [show ((0 : Int)).toNat = 0 from rfl] at a6F)
     (try rw [Addr.add_zero'] at a6F)
     replace b3g := eq_true b3g
     replace b3h := eq_true b3h
     have c62 : 0 ≤ (1 : Int) := (by omega)
     have c63 : 1 < (l0.length : Int) := of_decide_eq_true (by first | (with_reducible assumption) | assumption)
     obtain ⟨d4B, e127, b39⟩ := Kd.a0W HR0.out 1 c62 c63
     obtain rfl : c4O = d4B := (by injection e127)
     (try simp only [show (1 : Int).toNat = 1 from rfl, Nat.reduceMul, Nat.reduceEqDiff, Go.Addr.add, ↓reduceIte] at b39)
     have f3U : (1 < l0.length) = True := eq_true (by omega)
     (try rw [show ((1 : Int)).toNat = 1 from rfl] at b39)
     replace c62 := eq_true c62
     replace c63 := eq_true c63
     go_enter Tryd.func97, Tryd.ntmps97
     go_wp2
     go_ret2
     exact ⟨by first | rfl | (simp; done) | (simp [*]; done), by repeat (first | exact G6.refl _ | apply G6.step)⟩
  ·rw [if_neg c4] at H
   have a6r := beq_eq_false_iff_ne.mpr c4
   have b6A := bne_iff_ne.mpr c4
   obtain ⟨rfl, rfl⟩ := s2_ H
   have b3g : 0 ≤ (0 : Int) := (by omega)
   have b3h : 0 < (l0.length : Int) := of_decide_eq_true (by first | (with_reducible assumption) | assumption)
   obtain ⟨c4O, e126, a6F⟩ := Kd.a0W HR0.out 0 b3g b3h
   cases e126
   have d4A : (0 < l0.length) = True := eq_true (by omega)
   (try rw [show ((0 : Int)).toNat = 0 from rfl] at a6F)
   (try rw [Addr.add_zero'] at a6F)
   replace b3g := eq_true b3g
   replace b3h := eq_true b3h
   go_enter Tryd.func97, Tryd.ntmps97
   go_wp2
   go_ret2
   exact ⟨by first | rfl | (simp; done) | (simp [*]; done), by repeat (first | exact G6.refl _ | apply G6.step)⟩
def a4q.f (l0 : List Int) (a1 : Int) : Option (List Int) := if 0 ≤ (mn (mx a1 0) (l0.length : Int)) then (if (mn (mx a1 0) (l0.length : Int)) ≤ (l0.length : Int) then ((J6.f (l0.drop ((mn (mx a1 0) (l0.length : Int)) : Int).toNat)).bind fun t141 => (some t141)) else (none)) else (none)
theorem a4q.calls (A0 : Option Addr) (c0 : Nat) (l0 : List Int) (a1 : Int) (r : List Int) (w : World) (hr0 : Kd.C (Kd.int .u8) w A0 l0.length l0) (hc0 : l0.length ≤ c0) (h : a4q.f l0 a1 = some r) :
  Calls Tryd.prog 82 #[.slice A0 l0.length c0, .int .i64 a1] w fun e w' => ∃ v0_ : Value, e = .returned (v0_) ∧ Kd.R (Kd.int .u8) 5 w' w.heap.size (fun _ => True) v0_ r ∧ Below w.heap.size w w' := by
 have HR0 := a_ hr0
 have HC0 := a_ hc0
 clear hr0 hc0
 have HB := a_ (Below.refl w.heap.size w)
 have H := h
 clear h
 unfold a4q.f at H
 obtain ⟨ji3, d4C⟩ := si_ ((mx a1 0))
 first | rw [d4C] at H | simp only [d4C] at H
 (try (have h1V : 0 ≤ ji3 := by (rw [← d4C]; unfold mx; (repeat' split) <;> omega)))
 (try (have h1W : 0 ≤ ji3 := by omega))
 have h1X : (if a1 < 0 then 0 else a1) = ji3 := d4C
 obtain ⟨ji4, d4D⟩ := si_ ((mn (ji3) (l0.length : Int)))
 first | rw [d4D] at H | simp only [d4D] at H
 have h1Y : (if (l0.length : Int) < (ji3) then (l0.length : Int) else (ji3)) = ji4 := d4D
 have c5 := a0o H
 replace H := U9 H
 have a9g := eq_true c5
 have b6C := decide_eq_true c5
 clear c5
 have c6 := a0o H
 replace H := U9 H
 have a9K := eq_true c6
 have b8v := decide_eq_true c6
 clear c6
 replace H := Option.bind_eq_some_iff.mp H
 obtain ⟨t141, A70, H⟩ := H
 try dsimp only at H
 have A7 := a_ A70
 clear A70
 obtain rfl := Option.some.inj H
 obtain ⟨i08, c4P, _, c4Q, _⟩ := info_parts info5
 obtain ⟨A8, e4y, hA8, hC8⟩ := a1D (P := Tryd.prog) (Value.int .u8) 0 22 5 .i64 Tryd.underlying22 c4P c4Q A0 c0 l0 (ji4) (of_decide_eq_true (by first | (with_reducible assumption) | assumption)) (of_decide_eq_true (by first | (with_reducible assumption) | assumption)) HC0.out
 have f3V := a_ (Kd.a0K (h1 := fun _ => rfl) (hA8 _ (Kd.a0p HR0.out)))
 have f3W := a_ hC8
 clear hA8 hC8 c4P c4Q
 go_enter Tryd.func82, Tryd.ntmps82
 go_wp2_with (first | (refine gl_ (some 12) Tryd.func96 #[.slice A8 (l0.drop ((ji4) : Int).toNat).length (c0 - (ji4).toNat)] ?_ (hargs := by (try simp only [List.map_toArray, List.map_cons, List.map_nil]); first | done | (rw [show (l0.drop ((ji4) : Int).toNat).length = (l0.length - (ji4).toNat) from List.length_drop] <;> rfl) | (simp only [d4D]; rfl) | rfl | (simp only [List.length_drop, List.length_take]; rfl)); (with_reducible refine (J6.calls _ _ (l0.drop ((ji4) : Int).toNat) t141 _ ?Q5 ?Q7 A7.out).mono ?_); (case Q5 => repeat (first | exact f3V.out | (with_reducible refine Kd.a7C ?_ _) | (with_reducible refine Kd.a2V ?_ _) | (with_reducible refine Kd.a4l ?_))); (case Q7 => exact f3W.out); rintro e w9 ⟨h5j, rfl, ho0, hb⟩; refine ⟨_, rfl, ?_⟩; have f3X := a_ (Kd.X4 ho0 (y5 (by repeat (first | (with_reducible first | exact HB.out | apply C9 | apply o7 | apply D7) | exact HB.out)))); replace HB := a_ (G9 (by repeat (first | (with_reducible first | exact HB.out | apply C9 | apply o7 | apply D7) | exact HB.out)) hb); (try clear hb); (try clear hb2); (try clear hk); (try clear hi); (try clear ho0)))
 go_ret
 exact ⟨_, by first | rfl | (simp [P7, P8] <;> rfl) | (simp only [← d4C, ← d4D]; first | rfl | (simp [P7, P8] <;> rfl)) | (simp [*, P7, P8] <;> rfl), by (with_reducible repeat (first | apply Kd.a6d | apply Kd.a1o | apply Kd.a4k)); exact f3X.out, by repeat (first | (with_reducible first | exact HB.out | apply C9 | apply o7 | apply D7) | exact HB.out)⟩
structure DF where
 inn : Bool
 held : List Int
 tg : Int
 ta : Int
 ts : Int
 tl : Int
 tw : Int
 done : List (List Int)
def DF.init : DF := ⟨false, [], 0, 0, 0, 0, 0, []⟩
def DF.fn : Bool → Nat → Value
 | true, p => .func (.func 84) #[.pointer (some ⟨p, 0, none⟩)] #[]
 | false, p => .func (.func 65) #[.pointer (some ⟨p, 0, none⟩)] #[]
def DF.cells (m : Int) (wide : Bool) (p : Nat) (vh vd : Value) (s : DF) : Array Value := #[.int .u32 m, .bool wide, DF.fn s.inn p, vh, .int .i64 s.tg, .int .i64 s.ta, .int .i64 s.ts, .int .i64 s.tl, .int .i64 s.tw, vd]
structure DFI (B D : Nat) (W : World) (p : Nat) (vh vd : Value) (m : Int) (wide : Bool) (s : DF) : Prop where
 blk : W.heap[p]? = some (.cells (DF.cells m wide p vh vd s) 120 (0, 0))
 held : Kd.R (Kd.int .u8) 5 W B (fun k => k ≠ p ∧ some k ≠ vd.ownBlock) vh s.held
 done : Kd.S (Kd.slice 5 (Kd.int .u8)) 22 W D (fun k => k ≠ p ∧ some k ≠ vh.ownBlock) vd s.done
 le : B ≤ p
theorem DFI.below {B D : Nat} {W W1 : World} {p : Nat} {vh vd : Value} {m : Int} {wide : Bool} {s : DF} (h : DFI B D W p vh vd m wide s) (hb : Below W.heap.size W W1) : DFI B D W1 p vh vd m wide s := ⟨J3 h.blk hb, Kd.a1Y h.held hb, Kd.a6v h.done hb, h.le⟩
theorem DFI.drewN {B D : Nat} {W : World} {p : Nat} {vh vd : Value} {m : Int} {wide : Bool} {s : DF} (h : DFI B D W p vh vd m wide s) (n : Nat) : DFI B D (W.drewN n) p vh vd m wide s := h.below (o7 (Below.refl _ _) n)
theorem DFI.set {B D : Nat} {W : World} {p : Nat} {vh vd : Value} {m : Int} {wide : Bool} {s : DF} (h : DFI B D W p vh vd m wide s) (j : Nat) (u : Value) (s' : DF) (he : (DF.cells m wide p vh vd s).setIfInBounds j u = DF.cells m wide p vh vd s') (h1 : s'.held = s.held) (h2 : s'.done = s.done) : DFI B D (W.setCell ⟨p, j, none⟩ u) p vh vd m wide s' :=
 ⟨by rw [← he]; exact a4S h.blk j u, by rw [h1]; exact Kd.U7 h.held (fun k hk => hk.1) u, by rw [h2]; exact Kd.Y6 h.done (fun k hk => hk.1) u, h.le⟩
theorem DFI.cell {B D : Nat} {W : World} {p : Nat} {vh vd : Value} {m : Int} {wide : Bool} {s : DF} (h : DFI B D W p vh vd m wide s) (j : Nat) (u : Value) (he : (DF.cells m wide p vh vd s)[j]? = some u) : W.cell? ⟨p, j, none⟩ = some u := (E5 h.blk j).trans he
theorem DFI.free {B D : Nat} {W : World} {p : Nat} {vh vd : Value} {m : Int} {wide : Bool} {s : DF} (h : DFI B D W p vh vd m wide s) (j : Nat) : W.frozen? ⟨p, j, none⟩ = false := l7 h.blk j
structure DFK (B : Nat) (W W' : World) (S : Nat → Prop) : Prop where
 bel : Below B W W'
 kept : Kept W W' S
theorem DFK.below {B : Nat} {W W' W2 : World} {S : Nat → Prop} (h : DFK B W W' S) (hB : B ≤ W.heap.size) (hb : Below W'.heap.size W' W2) : DFK B W W2 S := ⟨h.bel.trans (hb.mono (Nat.le_trans hB h.kept.1)), h.kept.below hb⟩
theorem DFK.refl (B : Nat) (W : World) (S : Nat → Prop) : DFK B W W S := ⟨Below.refl _ _, Kept.refl _ _⟩
theorem DFK.set {B : Nat} {W W' : World} {S : Nat → Prop} (h : DFK B W W' S) {p : Nat} (hp : S p) (hB : B ≤ p) (j : Nat) (u : Value) : DFK B W (W'.setCell ⟨p, j, none⟩ u) S := ⟨h.bel.setCell hB u, h.kept.setCell (Or.inl hp) u⟩
theorem DFK.grown {B D : Nat} {W W' W2 : World} {S : Nat → Prop} {row : Option Nat} (h : DFK B W W' S) (hB : B ≤ D) (hb : Below D W' W2) (hg : W'.grownBy W2 row) (hr : ∀ k, row = some k → S k) : DFK B W W2 S := ⟨h.bel.trans (hb.mono hB), h.kept.b3J hg (fun k hk => Or.inl (hr k hk))⟩
theorem DFK.trans {B : Nat} {w W W2 : World} {S S2 : Nat → Prop} (h : DFK B w W S) (h2 : DFK B W W2 S2) (hs : ∀ k, S2 k → S k ∨ w.heap.size ≤ k) : DFK B w W2 S := ⟨h.bel.trans h2.bel, h.kept.then_ h2.kept hs⟩
theorem DFK.drewN {B : Nat} {W W' : World} {S : Nat → Prop} (h : DFK B W W' S) (n : Nat) : DFK B W (W'.drewN n) S := ⟨h.bel.trans (o7 (Below.refl _ _) n), h.kept.drewN n⟩
theorem b2j.calls (m : Int) (wide : Bool) (w : World) :
  Calls Tryd.prog 45 #[.int .u32 m, .bool wide] w fun e w' => e = .returned (.pointer (some ⟨w.heap.size, 0, none⟩)) ∧ Aside0 (∀ D, DFI w.heap.size D w' w.heap.size (.slice none 0 0) (.slice none 0 0) m wide DF.init) ∧ Aside0 (Below w.heap.size w w') := by
 have hu := Tryd.underlying120
 go_enter Tryd.func45, Tryd.ntmps45
 go_wp2
 go_ret
 exact ⟨rfl, ⟨fun D => ⟨heap_alloc_new w _, Kd.a0I _ _ _ _ _, Kd.a6k _ _ _ _ _, Nat.le_refl _⟩⟩, ⟨C9 (Below.refl _ _) _⟩⟩
theorem a4r.flag (B D p : Nat) (vh vd : Value) (m : Int) (wide : Bool) (s : DF) (W : World) (h : DFI B D W p vh vd m wide s) (hB : B ≤ W.heap.size) (hs : s.inn = false) :
  Calls Tryd.prog 65 #[.pointer (some ⟨p, 0, none⟩), .int .u8 126] W fun e W' => e = .returned (.tuple #[]) ∧ Aside0 (DFI B D W' p vh vd m wide { s with inn := true }) ∧ Aside0 (DFK B W W' (fun k => k = p)) := by
 have HH := a_ h
 have HBB := a_ hB
 have hu := Tryd.underlying120
 have hc2 := h.cell 2 _ rfl
 have hf2 := h.free 2
 have HS := a_ hs
 clear h hB hs
 go_enter Tryd.func65, Tryd.ntmps65
 go_wp2
 go_end0
 exact ⟨rfl, ⟨HH.out.set 2 _ { s with inn := true } (by unfold DF.cells; rfl) rfl rfl⟩, ⟨DFK.set (S := fun k => k = p) (DFK.refl B W _) (show p = p from rfl) HH.out.le 2 _⟩⟩
theorem a4r.other (c : Int) (hc : c ≠ 126) (p : Nat) (W : World) :
  Calls Tryd.prog 65 #[.pointer (some ⟨p, 0, none⟩), .int .u8 c] W fun e W' => e = .returned (.tuple #[]) ∧ W' = W := by
 have h1 : (c == 126) = false := by simpa using hc
 have h2 : decide (c = 126) = false := by simpa using hc
 clear hc
 go_enter Tryd.func65, Tryd.ntmps65
 go_wp2
 go_end0
 exact ⟨rfl, rfl⟩
def a2r.f (a0 : Bool) : Option (Int) := if a0 = true then (some 4) else (some 2)
theorem a2r.calls (a0 : Bool) (r : Int) (w : World) (h : a2r.f a0 = some r) :
  Calls Tryd.prog 105 #[.bool a0] w fun e w' => e = .returned (.int .i64 r) ∧ G6 w w' := by
 have H := h
 clear h
 unfold a2r.f at H
 by_cases c2 : a0 = true
 ·subst c2
  rw [if_pos rfl] at H
  obtain rfl := Option.some.inj H
  go_enter Tryd.func105, Tryd.ntmps105
  go_wp2
  go_ret
  exact ⟨by first | rfl | (simp; done) | (simp [*]; done), by repeat (first | exact G6.refl _ | apply G6.step)⟩
 ·cases nt_ c2
  rw [if_neg a5a] at H
  obtain rfl := Option.some.inj H
  go_enter Tryd.func105, Tryd.ntmps105
  go_wp2
  go_ret
  exact ⟨by first | rfl | (simp; done) | (simp [*]; done), by repeat (first | exact G6.refl _ | apply G6.step)⟩
def a4z.f (a0 : Int) (a1 : Int) : Option (Bool) := if a1 < 32 then (if 0 ≤ a1 then (some ((Go.bits .and .u32 (shr .u32 a0 a1) 1) == 1)) else (none)) else (some false)
theorem a4z.calls (a0 : Int) (a1 : Int) (r : Bool) (w : World) (h : a4z.f a0 a1 = some r) :
  Calls Tryd.prog 111 #[.int .u32 a0, .int .u8 a1] w fun e w' => e = .returned (.bool r) ∧ G6 w w' := by
 have H := h
 clear h
 unfold a4z.f at H
 by_cases c3 : a1 < 32
 ·rw [if_pos c3] at H
  have a5g := decide_eq_true c3
  clear c3
  have c4 := a0o H
  replace H := U9 H
  have a6r := eq_true c4
  have b6A := decide_eq_true c4
  clear c4
  obtain ⟨ji5, b90⟩ := si_ ((shr .u32 a0 a1))
  first | rw [b90] at H | simp only [b90] at H
  have f3Z : (a0 / 2 ^ min a1.toNat 32) = ji5 := b90
  have h14 : a1 ≤ 32 → (a0 / 2 ^ a1.toNat) = ji5 := b5h b90
  obtain rfl := Option.some.inj H
  go_enter Tryd.func111, Tryd.ntmps111
  go_wp2
  go_ret
  exact ⟨by first | rfl | (simp; done) | (simp only [← b90] <;> (first | rfl | simp)) | (simp [*]; done), by repeat (first | exact G6.refl _ | apply G6.step)⟩
 ·rw [if_neg c3] at H
  have a5g := decide_eq_false c3
  clear c3
  obtain rfl := Option.some.inj H
  go_enter Tryd.func111, Tryd.ntmps111
  go_wp2
  go_ret
  exact ⟨by first | rfl | (simp; done) | (simp [*]; done), by repeat (first | exact G6.refl _ | apply G6.step)⟩
def a3L.f (a0 : Bool) : Option (Int) := if a0 = true then (some 4294967295) else (some 65535)
theorem a3L.calls (a0 : Bool) (r : Int) (w : World) (h : a3L.f a0 = some r) :
  Calls Tryd.prog 110 #[.bool a0] w fun e w' => e = .returned (.int .u32 r) ∧ G6 w w' := by
 have H := h
 clear h
 unfold a3L.f at H
 by_cases c2 : a0 = true
 ·subst c2
  rw [if_pos rfl] at H
  obtain rfl := Option.some.inj H
  go_enter Tryd.func110, Tryd.ntmps110
  go_wp2
  go_ret
  exact ⟨by first | rfl | (simp; done) | (simp [*]; done), by repeat (first | exact G6.refl _ | apply G6.step)⟩
 ·cases nt_ c2
  rw [if_neg a5a] at H
  obtain rfl := Option.some.inj H
  go_enter Tryd.func110, Tryd.ntmps110
  go_wp2
  go_ret
  exact ⟨by first | rfl | (simp; done) | (simp [*]; done), by repeat (first | exact G6.refl _ | apply G6.step)⟩
end Go.Proofs.YtgnonglkibhnhaaDoor.Print
