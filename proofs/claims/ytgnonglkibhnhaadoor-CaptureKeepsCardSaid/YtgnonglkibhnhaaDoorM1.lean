-- laid together by this session's own program (wip/tools/merge.py) of texts that its program laid
import Derived.Test.YtgnonglkibhnhaaDoorZ
namespace Go.Proofs.YtgnonglkibhnhaaDoor.Print
open Go.RowKit Go.Proofs.YtgnonglkibhnhaaDoorW.PrintWords Go.Proofs.YtgnonglkibhnhaaDoorW.PrintLast Go.Proofs.YtgnonglkibhnhaaDoorW.PrintMore
attribute [local go_sem] a0o a0p a0R a0S Y5 Y6 a0q a0r
set_option linter.unusedVariables false
set_option linter.unusedSimpArgs false
set_option maxHeartbeats 16000000
set_option maxRecDepth 100000
theorem E5.b5I.calls (w : World) : Calls Tryd.prog 129 #[.agg #[]] w fun e w' => e = .returned (.int .i64 1) ∧ Below w.heap.size w w' := by
 go_enter Tryd.func129, Tryd.ntmps129
 go_wp2
 go_ret
 exact ⟨rfl, a0A (Below.refl w.heap.size w) _⟩
theorem E5.b9s.calls (w : World) : Calls Tryd.prog 130 #[.agg #[]] w fun e w' => e = .returned (.int .i64 2) ∧ Below w.heap.size w w' := by
 go_enter Tryd.func130, Tryd.ntmps130
 go_wp2
 go_ret
 exact ⟨rfl, a0A (Below.refl w.heap.size w) _⟩
def E5.form (j : Nat) : Value := match j with | 0 => .iface 65 (.agg #[]) | 1 => .iface 67 (.agg #[]) | _ => .nilIface
def E5.at (a0 : Int) : Nat := if a0 = 1 then 0 else if a0 = 2 then 1 else 2
structure E5.Round (w W : World) (gq : Nat) (a0 : Int) (j : Nat) : Prop where
 hr : W.heap[gq]? = some (.cells #[.iface 65 (.agg #[]), .iface 67 (.agg #[])] 62 (0, 0))
 hb : Below w.heap.size w W
 hl : j ≤ E5.at a0
theorem E5.calls (a0 : Int) (w : World) :
  Calls Tryd.prog 22 #[.int .i64 a0] w fun e w' => e = .returned (E5.form (E5.at a0)) ∧ Below w.heap.size w w' := by
 have HB0 := a_ (Below.refl w.heap.size w)
 go_enter Tryd.func22, Tryd.ntmps22
 go_wp2
 obtain ⟨gq, hgq⟩ : ∃ gq, gq = w.heap.size := ⟨_, rfl⟩
 have BR := a_ (b0S w (Obj.cells #[.iface 65 (.agg #[]), .iface 67 (.agg #[])] 62))
 have HB2 := a_ (a0A HB0.out (Obj.cells #[.iface 65 (.agg #[]), .iface 67 (.agg #[])] 62))
 rw [← hgq] at BR ⊢
 generalize hw2 : w.alloc (Obj.cells #[.iface 65 (.agg #[]), .iface 67 (.agg #[])] 62) = w2 at BR HB2 ⊢
 clear hw2 HB0 hgq
 go_loopg [11] 2 (fun kq v11 w' => ∃ j : Nat, kq + j = 2 ∧ v11 = .int .i64 (j : Int) ∧ Aside0 (E5.Round w w' gq a0 j))
 case atStart => exact ⟨0, rfl, rfl, ⟨⟨BR.out, HB2.out, Nat.zero_le _⟩⟩⟩
 case round =>
  obtain ⟨j, hj, rfl, HI⟩ := hrel; clear BR HB2; have HK := a_ HI.out.hr; have HB := a_ HI.out.hb; have HL := a_ HI.out.hl; clear HI
  rcases (show j = 0 ∨ j = 1 ∨ j = 2 by omega) with rfl | rfl | rfl
  ·obtain ⟨k1, rfl⟩ : ∃ k1, gk = k1 + 1 := ⟨gk - 1, by omega⟩; have hm0 : ∀ w : World, (method 145 65 (.agg #[]) "umpire/capture.name").run Tryd.prog w = .ok (129, .agg #[]) w := fun _ => by kernel_rfl
   have hcq := bc0 HK; have hv : ((0 : Nat) : Int) = 0 := rfl
   simp only [hv]
   by_cases c1 : a0 = 1
   ·subst c1
    go_wp2_with (fail)
    refine (E5.b5I.calls _).mono ?_; rintro e w1 ⟨rfl, hb⟩; have HB1 := V3 HB hb; clear hb
    go_wp2_with (fail)
    go_ret
    exact ⟨rfl, HB1.out⟩
   ·have c1b : ((1 : Int) == a0) = false := by simpa using (fun h => c1 h.symm)
    go_wp2_with (fail)
    refine (E5.b5I.calls _).mono ?_; rintro e w1 ⟨rfl, hb⟩; have HB1 := V3 HB hb; have HK1 := X3 HK hb; clear hb HK HB hcq
    go_wp2_with (fail)
    go_roundg k1
    case measure => omega
    case rel => exact ⟨1, by omega, rfl, ⟨⟨HK1.out, HB1.out, by unfold E5.at; rw [if_neg c1]; split <;> omega⟩⟩⟩
  ·obtain ⟨k1, rfl⟩ : ∃ k1, gk = k1 + 1 := ⟨gk - 1, by omega⟩; have hm0 : ∀ w : World, (method 145 67 (.agg #[]) "umpire/capture.name").run Tryd.prog w = .ok (130, .agg #[]) w := fun _ => by kernel_rfl
   have hcq := bc1 HK; have hv : ((1 : Nat) : Int) = 1 := rfl
   simp only [hv]
   have c0 : a0 ≠ 1 := fun h => by have h1 := HL.out; rw [h] at h1; exact absurd h1 (by decide)
   by_cases c1 : a0 = 2
   ·subst c1
    go_wp2_with (fail)
    refine (E5.b9s.calls _).mono ?_; rintro e w1 ⟨rfl, hb⟩; have HB1 := V3 HB hb; clear hb
    go_wp2_with (fail)
    go_ret
    exact ⟨rfl, HB1.out⟩
   ·have c1b : ((2 : Int) == a0) = false := by simpa using (fun h => c1 h.symm)
    go_wp2_with (fail)
    refine (E5.b9s.calls _).mono ?_; rintro e w1 ⟨rfl, hb⟩; have HB1 := V3 HB hb; have HK1 := X3 HK hb; clear hb HK HB hcq
    go_wp2_with (fail)
    go_roundg k1
    case measure => omega
    case rel => exact ⟨2, by omega, rfl, ⟨⟨HK1.out, HB1.out, by unfold E5.at; rw [if_neg c0, if_neg c1]; omega⟩⟩⟩
  ·have hv : ((2 : Nat) : Int) = 2 := rfl
   simp only [hv]
   have EA : Aside0 (E5.at a0 = 2) := ⟨by have h := HL.out; unfold E5.at at h ⊢; revert h; split; (intro h; omega); split <;> omega⟩
   go_wp2_with (fail)
   go_ret
   exact ⟨by rw [EA.out]; rfl, HB.out⟩
theorem b5g (v : Value) (w : World) : (Instr.typeAssert (.iface 65 v) 62 65 true).run Tryd.prog w = .ok (.tuple #[v, .bool true]) w := by
 simp [Instr.typeAssert, run_underlying Tryd.underlying65, go_sem, Result.andThen]
theorem b3J (v : Value) (w : World) : (Instr.typeAssert (.iface 67 v) 62 65 true).run Tryd.prog w = .ok (.tuple #[.agg #[], .bool false]) w := by
 simp [Instr.typeAssert, run_underlying Tryd.underlying65, go_sem, Result.andThen]
theorem b3K (w : World) : (Instr.typeAssert .nilIface 62 65 true).run Tryd.prog w = .ok (.tuple #[.agg #[], .bool false]) w := by
 simp [Instr.typeAssert, run_underlying Tryd.underlying65, go_sem, Result.andThen]
theorem b5h (v : Value) (w : World) : (Instr.typeAssert (.iface 67 v) 62 67 true).run Tryd.prog w = .ok (.tuple #[v, .bool true]) w := by
 simp [Instr.typeAssert, run_underlying Tryd.underlying67, go_sem, Result.andThen]
theorem b3L (v : Value) (w : World) : (Instr.typeAssert (.iface 65 v) 62 67 true).run Tryd.prog w = .ok (.tuple #[.agg #[], .bool false]) w := by
 simp [Instr.typeAssert, run_underlying Tryd.underlying67, go_sem, Result.andThen]
theorem b3M (w : World) : (Instr.typeAssert .nilIface 62 67 true).run Tryd.prog w = .ok (.tuple #[.agg #[], .bool false]) w := by
 simp [Instr.typeAssert, run_underlying Tryd.underlying67, go_sem, Result.andThen]
theorem b98 (v : Value) (w : World) : (Instr.typeAssert (.iface 65 v) 62 65 false).run Tryd.prog w = .ok v w := by
 simp [Instr.typeAssert, run_underlying Tryd.underlying65, go_sem, Result.andThen]
mutual
def X4.j0 : Nat → List Int → Bool → Bool → Option (Int × Bool)
 | 0, _, _, _ => none
 | k + 1, x0, x1, x16 => if x16 = true then (some (0, false)) else (X4.l0 k x0 x1 0 (x0.length : Int) 0)
def X4.l0 : Nat → List Int → Bool → Int → Int → Int → Option (Int × Bool)
 | 0, _, _, _, _, _ => none
 | k + 1, x0, x1, x6, x18, x19 => if x19 < x18 then (if 0 ≤ (wrap64 ((wrap64 ((x0.length : Int) - 1)) - x19)) then (if (wrap64 ((wrap64 ((x0.length : Int) - 1)) - x19)) < (x0.length : Int) then (if x1 = true then (if 0 ≤ x19 then (if x19 < (x0.length : Int) then (X4.l0 k x0 x1 (Go.bits .or .u64 (IntKind.u64.wrap (x6 * 256)) (IntKind.u64.wrap (rd x0 x19))) x18 (wrap64 (x19 + 1))) else (none)) else (none)) else (X4.l0 k x0 x1 (Go.bits .or .u64 (IntKind.u64.wrap (x6 * 256)) (IntKind.u64.wrap (rd x0 (wrap64 ((wrap64 ((x0.length : Int) - 1)) - x19))))) x18 (wrap64 (x19 + 1)))) else (none)) else (none)) else (some (x6, true))
end
def X4.f (k : Nat) (l0 : List Int) (a1 : Bool) : Option (Int × Bool) := if (l0.length : Int) < 1 then (X4.j0 k l0 a1 true) else (X4.j0 k l0 a1 (decide ((l0.length : Int) > 8)))
theorem X4.calls (k : Nat) (A0 : Option Addr) (c0 : Nat) (l0 : List Int) (a1 : Bool) (r1 : Int) (r2 : Bool) (w : World) (hr0 : Kd.C (Kd.int .u8) w A0 l0.length l0) (hc0 : l0.length ≤ c0) (h : X4.f k l0 a1 = some (r1, r2)) :
  Calls Tryd.prog 83 #[.slice A0 l0.length c0, .bool a1] w fun e w' => e = .returned (.tuple #[.int .u64 r1, .bool r2]) ∧ G5 w w' := by
 have HR0 := a_ hr0
 have HC0 := a_ hc0
 clear hr0 hc0
 have H := h
 clear h
 unfold X4.f at H
 have HC3 := a_ H
 clear H
 go_enter Tryd.func83, Tryd.ntmps83
 go_upto_region 1 with (fail)
 go_cut [16] (fun v16 wc => ∃ (kq : Nat) (d1X : Bool), v16 = .bool d1X ∧ Aside0 (X4.j0 kq l0 a1 d1X = some (r1, r2)) ∧ Aside0 (kq ≤ k) ∧ G5 w wc)
 case first =>
  have H := HC3.out; clear HC3
  by_cases c4 : (l0.length : Int) < 1
  ·rw [if_pos c4] at H; have a4i := dt_ c4; have b2z : decide (l0.length < 1) = true := dt_ (by omega); clear c4; have H' := a_ H; clear H
   go_wp2
   go_meet
   case rel => exact ⟨_, (true), (by rfl), H', ⟨by (omega)⟩, by exact G5.refl _⟩
  ·rw [if_neg c4] at H; have a4i := df_ c4; have b2z : decide (l0.length < 1) = false := df_ (by omega); clear c4; have H' := a_ H; clear H
   go_wp2
   go_meet
   case rel => exact ⟨_, (decide ((l0.length : Int) > 8)), (by rfl), H', ⟨by (omega)⟩, by exact G5.refl _⟩
 case rest =>
  clear HC3; obtain ⟨kq, d1X, rfl, HA, HJ2, ⟨mc2, rfl⟩⟩ := hcut
  cases kq with
  | zero => exact absurd HA.out (by simp [X4.j0])
  | succ kj2 =>
   have H := HA.out; clear HA
   simp only [X4.j0] at H
   by_cases c5 : d1X = true
   ·subst c5; rw [if_pos rfl] at H; obtain ⟨rfl, rfl⟩ := s2_ H
    go_wp2
    go_ret2
    exact ⟨by (rfl), by repeat (first | exact G5.refl _ | apply G5.step)⟩
   ·cases nt_ c5
    rw [if_neg a3X] at H; have H' := a_ H; clear H
    go_wp2
    go_loopg [6, 19] kj2 (fun kq v6 v19 w' => ∃ (b4u : Int) (b3V : Int), v6 = .int .u64 b4u ∧ v19 = .int .i64 b3V ∧ Aside0 (X4.l0 kq l0 a1 b4u (l0.length : Int) b3V = some (r1, r2)) ∧ Aside0 (kq ≤ kj2) ∧ G5 w w')
    case atStart => exact ⟨(0), (0), (by rfl), (by rfl), H', ⟨Nat.le_refl _⟩, by repeat (first | exact G5.refl _ | apply G5.step)⟩
    case round =>
     clear H'; obtain ⟨b4u, b3V, rfl, rfl, HA, HK2, ⟨m2, rfl⟩⟩ := hrel
     cases gk with
     | zero => exact absurd HA.out (by simp [X4.l0])
     | succ k2 =>
      have H := HA.out; clear HA
      simp only [X4.l0] at H
      by_cases c6 : b3V < (l0.length : Int)
      ·rw [if_pos c6] at H; have a8y := dt_ c6; clear c6; obtain ⟨ji7, f6f⟩ := si_ ((wrap64 ((wrap64 ((l0.length : Int) - 1)) - b3V))); rw [f6f] at H; have g92 : (IntKind.i64.wrap ((wrap64 ((l0.length : Int) - 1)) - b3V)) = ji7 := (a0J _).trans f6f; have b2c := a2x H; replace H := O5 H; have b2d := a2x H; replace H := O5 H
       by_cases c10 : a1 = true
       ·subst c10; rw [if_pos rfl] at H; have a7L := a2x H; replace H := O5 H; have b0h := a2x H; replace H := O5 H; have H' := a_ H; clear H; obtain ⟨e6j, e9G, e3q, g5H, g5I⟩ := d3J HR0 (ji7) V5 V5
        cases e9G
        obtain ⟨f6g, e152, g1q, h4q, h4r⟩ := d3J HR0 b3V V5 V5; obtain rfl : e6j = f6g := (by injection e152)
        go_wp2
        go_roundg k2
        case measure => have := HJ2.out; have := HK2.out; omega
        case rel => exact ⟨(Go.bits .or .u64 (IntKind.u64.wrap (b4u * 256)) (IntKind.u64.wrap (rd l0 b3V))), (wrap64 (b3V + 1)), (by rfl), (by rfl), H', ⟨by have := HJ2.out; have := HK2.out; omega⟩, by repeat (first | exact G5.refl _ | apply G5.step)⟩
       ·cases nt_ c10
        rw [if_neg a3X] at H; have H' := a_ H; clear H; obtain ⟨e6j, e9G, e3q, g5H, g5I⟩ := d3J HR0 (ji7) V5 V5
        cases e9G
        go_wp2
        go_roundg k2
        case measure => have := HJ2.out; have := HK2.out; omega
        case rel => exact ⟨(Go.bits .or .u64 (IntKind.u64.wrap (b4u * 256)) (IntKind.u64.wrap (rd l0 (ji7)))), (wrap64 (b3V + 1)), (by rfl), (by rfl), H', ⟨by have := HJ2.out; have := HK2.out; omega⟩, by repeat (first | exact G5.refl _ | apply G5.step)⟩
      ·rw [if_neg c6] at H; have a8y := df_ c6; clear c6; obtain ⟨rfl, rfl⟩ := s2_ H
       go_wp2
       go_ret2
       exact ⟨by (rfl), by repeat (first | exact G5.refl _ | apply G5.step)⟩
structure y8.Inv (W : World) (base : Nat) (A : Option Addr) (n c : Nat) (big : Bool) (at_ : Int) (gb ga gg : Nat) : Prop where
 hb : W.heap[gb]? = some (.cells #[.slice A n c] 22 (0, 0))
 ha : W.heap[ga]? = some (.cells #[.int .i64 at_] 3 (0, 0))
 hg : W.heap[gg]? = some (.cells #[.bool big] 4 (0, 0))
 lb : base ≤ gb
 la : base ≤ ga
 lg : base ≤ gg
theorem y8.Inv.keep {W W1 : World} {base : Nat} {A : Option Addr} {n c : Nat} {big : Bool} {at_ : Int} {gb ga gg : Nat} (h : y8.Inv W base A n c big at_ gb ga gg) {g : Nat} (hk : a05 W W1 g none) (h1 : gb ≠ g) (h2 : ga ≠ g) (h3 : gg ≠ g) : y8.Inv W1 base A n c big at_ gb ga gg :=
 ⟨hk.blk h.hb h1 (by simp), hk.blk h.ha h2 (by simp), hk.blk h.hg h3 (by simp), h.lb, h.la, h.lg⟩
theorem y8.Inv.below {W W1 : World} {base : Nat} {A : Option Addr} {n c : Nat} {big : Bool} {at_ : Int} {gb ga gg : Nat} (h : y8.Inv W base A n c big at_ gb ga gg) (hb : Below W.heap.size W W1) : y8.Inv W1 base A n c big at_ gb ga gg :=
 ⟨L6 h.hb hb, L6 h.ha hb, L6 h.hg hb, h.lb, h.la, h.lg⟩
theorem y8.Inv.far {W : World} {base : Nat} {A : Option Addr} {n c : Nat} {big : Bool} {at_ : Int} {gb ga gg : Nat} (h : y8.Inv W base A n c big at_ gb ga gg) {p : Addr} (h1 : gb ≠ p.block) (h2 : ga ≠ p.block) (h3 : gg ≠ p.block) (u : Value) : y8.Inv (W.setCell p u) base A n c big at_ gb ga gg :=
 ⟨o8 h.hb h1 u, o8 h.ha h2 u, o8 h.hg h3 u, h.lb, h.la, h.lg⟩
theorem y8.Inv.lower {W : World} {base base' : Nat} {A : Option Addr} {n c : Nat} {big : Bool} {at_ : Int} {gb ga gg : Nat} (h : y8.Inv W base A n c big at_ gb ga gg) (hb : base' ≤ base) : y8.Inv W base' A n c big at_ gb ga gg :=
 ⟨h.hb, h.ha, h.hg, Nat.le_trans hb h.lb, Nat.le_trans hb h.la, Nat.le_trans hb h.lg⟩
theorem y8.Inv.go {W : World} {base : Nat} {A : Option Addr} {n c : Nat} {big : Bool} {at_ at' : Int} {gb ga gg : Nat} (h : y8.Inv W base A n c big at_ gb ga gg) (nd : Nat) :
  y8.Inv ((W.drewN nd).setCell ⟨ga, 0, none⟩ (.int .i64 at')) base A n c big at' gb ga gg ∧ a05 W ((W.drewN nd).setCell ⟨ga, 0, none⟩ (.int .i64 at')) ga none ∧ (∀ w0 : World, Below w0.heap.size w0 W → w0.heap.size ≤ ga → Below w0.heap.size w0 ((W.drewN nd).setCell ⟨ga, 0, none⟩ (.int .i64 at'))) := by
 have n1 : gb ≠ ga := a6E h.hb h.ha (by decide)
 have n3 : gg ≠ ga := a6E h.hg h.ha (by decide)
 refine ⟨⟨o8 (p := ⟨ga, 0, none⟩) (Y7 h.hb nd) n1 _, l9 (Y7 h.ha nd) 0 _ rfl, o8 (p := ⟨ga, 0, none⟩) (Y7 h.hg nd) n3 _, h.lb, h.la, h.lg⟩, ?_, fun w0 hb hl => o7 (o9 hb nd) hl⟩
 exact (a05.of_below (o9 (Below.refl _ _) nd) ga none).f1x 0 _
theorem y8.calls (A : Option Addr) (n c : Nat) (big : Bool) (w : World) :
  Calls Tryd.prog 79 #[.slice A n c, .bool big] w fun e w' => ∃ gb ga gg, e = .returned (.func (.func 95) #[] #[.pointer (some ⟨gb, 0, none⟩), .pointer (some ⟨ga, 0, none⟩), .pointer (some ⟨gg, 0, none⟩)]) ∧ y8.Inv w' w.heap.size A n c big 0 gb ga gg ∧ Below w.heap.size w w' := by
 go_enter Tryd.func79, Tryd.ntmps79
 go_wp2
 go_ret
 refine ⟨w.heap.size, w.heap.size + 1 + 1, w.heap.size + 1, rfl, ⟨a95 (a95 (b0S w _) _) _, ?_, ?_, by omega, by omega, by omega⟩, a0A (a0A (a0A (Below.refl _ _) _) _) _⟩
 ·have h := b0S ((w.alloc (.cells #[.slice A n c] 22)).alloc (.cells #[.bool big] 4)) (.cells #[.int .i64 0] 3)
  simpa using h
 ·refine a95 ?_ _; have h := b0S (w.alloc (.cells #[.slice A n c] 22)) (.cells #[.bool big] 4)
  simpa using h
def y8.num (k : Nat) (l : List Int) (big : Bool) (at_ size : Int) : Option Int := (X4.f k ((l.take (at_ + size).toNat).drop at_.toNat) big).bind fun t => some (t.1 % 4294967296)
theorem y8.next (k : Nat) (A : Option Addr) (l : List Int) (c : Nat) (big : Bool) (at_ size : Int) (r : Int) (base gb ga gg : Nat) (W : World) (hI : y8.Inv W base A l.length c big at_ gb ga gg) (hC : Kd.C (Kd.int .u8) W A l.length l) (hc : l.length ≤ c) (h0 : 0 ≤ at_) (h1 : 0 ≤ size) (h2 : at_ + size ≤ l.length) (h : y8.num k l big at_ size = some r) :
  Calls Tryd.prog 95 #[.int .i64 size, .pointer (some ⟨gb, 0, none⟩), .pointer (some ⟨ga, 0, none⟩), .pointer (some ⟨gg, 0, none⟩)] W fun e w' => e = .returned (.int .u32 r) ∧ y8.Inv w' base A l.length c big (at_ + size) gb ga gg ∧ a05 W w' ga none ∧ (∀ w0 : World, Below w0.heap.size w0 W → w0.heap.size ≤ ga → Below w0.heap.size w0 w') := by
 obtain ⟨⟨t1, t2⟩, hg, hr⟩ := Option.bind_eq_some_iff.1 h
 have hr' : t1 % 4294967296 = r := oj_ hr
 have hm := hC.2.1
 have hc1 : W.cell? ⟨gb, 0, none⟩ = some (.slice A l.length c) := (D6 hI.hb 0).trans rfl
 have hc2 : W.cell? ⟨ga, 0, none⟩ = some (.int .i64 at_) := (D6 hI.ha 0).trans rfl
 have hc3 : W.cell? ⟨gg, 0, none⟩ = some (.bool big) := (D6 hI.hg 0).trans rfl
 have hf2 : W.frozen? ⟨ga, 0, none⟩ = false := l7 hI.ha 0
 obtain ⟨i0, hi0, _, hsz, _⟩ := info_parts info5
 obtain ⟨A8, hcut, hA8, hC8⟩ := a5B (P := Tryd.prog) (Value.int .u8) 0 22 5 .i64 .i64 Tryd.underlying22 hi0 hsz A c l at_ (at_ + size) h0 (by omega) h2 hc
 have HR := a_ (Kd.Y8 (h1 := fun _ => rfl) (hA8 _ (Kd.Y3 hC)))
 have HC := a_ hC8
 have HG := a_ hg
 have HE := a_ hr'
 have HI := a_ hI
 have hlen : ((l.take (at_ + size).toNat).drop at_.toNat).length = (at_ + size).toNat - at_.toNat := by
  rw [List.length_drop, List.length_take]
  omega
 have e2Y : Aside0 (∀ a : Nat, Calls Tryd.prog 83 #[.slice A8 ((at_ + size).toNat - at_.toNat) (c - at_.toNat), .bool big] (W.drewN a) fun e w' => e = .returned (.tuple #[.int .u64 t1, .bool t2]) ∧ ∃ m, w' = W.drewN m) := ⟨fun a => by
  rw [← hlen]; exact Calls.quiet_of ((X4.calls k _ _ ((l.take (at_ + size).toNat).drop at_.toNat) big t1 t2 _ (Kd.a7A HR.out a) HC.out HG.out).mono fun _ _ h => ⟨h.1, h.2.out⟩)⟩
 have hw : IntKind.i64.wrap (at_ + size) = at_ + size := IntWalk.i64_in _ (by omega)
 clear hI hC hc h hr hr' hg hA8 hC8 hi0 hsz hlen
 go_enter Tryd.func95, Tryd.ntmps95
 go_wp2
 go_quiet ((go_at_call 83; exact e2Y.out _))
 go_wp2
 go_ret
 refine ⟨by rw [← HE.out]; rfl, HI.out.go nq⟩
theorem y8.range {k : Nat} {l : List Int} {big : Bool} {at_ size r : Int} (h : y8.num k l big at_ size = some r) : 0 ≤ r ∧ r < 4294967296 := by
 obtain ⟨t, _, hr⟩ := Option.bind_eq_some_iff.1 h
 have := oj_ hr
 omega
def a0G.f (k : Nat) (l0 : List Int) : Option (Bool × Bool × Int × Int × Bool) :=
 (y8.num k l0 false 0 4).bind fun t1 => if t1 = 2712847316 then some (false, false, 0, 0, true) else if t1 = 2712812621 then some (false, true, 0, 0, true) else
  (y8.num k l0 true 0 4).bind fun t2 => if t2 = 2712847316 then some (true, false, 0, 0, true) else if t2 = 2712812621 then some (true, true, 0, 0, true) else some (false, false, 0, 0, false)
def a0G.left (k : Nat) (l0 : List Int) (j : Nat) (r : Bool × Bool × Int × Int × Bool) : Prop :=
 match j with
 | 0 => a0G.f k l0 = some r
 | 1 => ((y8.num k l0 true 0 4).bind fun t2 => if t2 = 2712847316 then some (true, false, 0, 0, true) else if t2 = 2712812621 then some (true, true, 0, 0, true) else some (false, false, 0, 0, false)) = some r
 | _ => (false, false, 0, 0, false) = r
theorem a0G.left_step {k : Nat} {l0 : List Int} {j : Nat} {r : Bool × Bool × Int × Int × Bool} (hj : j < 2) (h : a0G.left k l0 j r) :
  ∃ t, y8.num k l0 (decide (j = 1)) 0 4 = some t ∧ (t = 2712847316 → (decide (j = 1), false, 0, 0, true) = r) ∧ (t ≠ 2712847316 → t = 2712812621 → (decide (j = 1), true, 0, 0, true) = r) ∧ (t ≠ 2712847316 → t ≠ 2712812621 → a0G.left k l0 (j + 1) r) := by
 have hc : j = 0 ∨ j = 1 := by omega
 rcases hc with rfl | rfl
 ·obtain ⟨t, ht, h⟩ := Option.bind_eq_some_iff.1 (show a0G.f k l0 = some r from h); refine ⟨t, ht, fun h1 => ?_, fun h1 h2 => ?_, fun h1 h2 => ?_⟩
  ·rw [if_pos h1] at h; exact oj_ h
  ·rw [if_neg h1, if_pos h2] at h; exact oj_ h
  ·rw [if_neg h1, if_neg h2] at h; exact h
 ·obtain ⟨t, ht, h⟩ := Option.bind_eq_some_iff.1 h; refine ⟨t, ht, fun h1 => ?_, fun h1 h2 => ?_, fun h1 h2 => ?_⟩
  ·rw [if_pos h1] at h; exact oj_ h
  ·rw [if_neg h1, if_pos h2] at h; exact oj_ h
  ·rw [if_neg h1, if_neg h2] at h; exact oj_ h
structure a0G.Round (w W : World) (gq g2 k : Nat) (l0 : List Int) (j : Nat) (r : Bool × Bool × Int × Int × Bool) : Prop where
 hr : W.heap[gq]? = some (.cells #[.bool false, .bool true] 4 (0, 0))
 h2 : W.heap[g2]? = some (.cells #[.bool false, .bool false, .int .u32 0, .int .u32 0] 46 (0, 0))
 hb : Below w.heap.size w W
 hl : a0G.left k l0 j r
theorem a0G.calls (k : Nat) (A0 : Option Addr) (c0 : Nat) (l0 : List Int) (r1 r2 : Bool) (r3 r4 : Int) (r5 : Bool) (w : World) (hr0 : Kd.C (Kd.int .u8) w A0 l0.length l0) (hc0 : l0.length ≤ c0) (h4 : 4 ≤ l0.length) (h : a0G.f k l0 = some (r1, r2, r3, r4, r5)) :
  Calls Tryd.prog 78 #[.slice A0 l0.length c0] w fun e w' => e = .returned (.tuple #[.agg #[.bool r1, .bool r2, .int .u32 r3, .int .u32 r4], .bool r5]) ∧ Below w.heap.size w w' := by
 have huM := Tryd.underlying46
 have HR0 := a_ hr0
 have HC0 := a_ hc0
 have HW := a_ (Below.refl w.heap.size w)
 have HF := a_ (show a0G.left k l0 0 (r1, r2, r3, r4, r5) from h)
 have H4 := a_ h4
 clear hr0 hc0 h h4
 go_enter Tryd.func78, Tryd.ntmps78
 go_wp2_with ((refine be_ 2 #[.bool false, .bool false, .int .u32 0, .int .u32 0] 46 ?_; intro g2 hg w1 hbox hb; have BK2 := a_ hbox; have HB1 := V3 HW hb; have GE2 : Aside0 (w.heap.size ≤ g2) := ⟨by rw [hg]; exact Nat.le_refl _⟩; clear hg hbox hb; have b5u := bc0 BK2; have b5v := l7 BK2.out 0; have b5w := bc1 BK2; have b5x := l7 BK2.out 1; have b5y := bc2 BK2; have b5z := l7 BK2.out 2; have b5A := bc3 BK2; have b5B := l7 BK2.out 3))
 obtain ⟨gq, hgq⟩ : ∃ gq, gq = w1.heap.size := ⟨_, rfl⟩
 have BR := a_ (b0S w1 (Obj.cells #[.bool false, .bool true] 4))
 have a9C := a_ (a95 BK2.out (Obj.cells #[.bool false, .bool true] 4))
 have HB2 := a_ (a0A HB1.out (Obj.cells #[.bool false, .bool true] 4))
 rw [← hgq] at BR ⊢
 generalize w1.alloc (Obj.cells #[.bool false, .bool true] 4) = w2 at BR a9C HB2 ⊢
 clear hgq BK2 HB1 b5u b5w b5y b5A b5v b5x b5z b5B HW
 go_loopg [8] 2 (fun kq v8 w' => ∃ j : Nat, kq + j = 2 ∧ v8 = .int .i64 (j : Int) ∧ Aside0 (a0G.Round w w' gq g2 k l0 j (r1, r2, r3, r4, r5)))
 case atStart => exact ⟨0, rfl, rfl, ⟨⟨BR.out, a9C.out, HB2.out, HF.out⟩⟩⟩
 case round =>
  obtain ⟨j, hj, rfl, HI⟩ := hrel; clear BR a9C HB2 HF; have HK := a_ HI.out.hr; have BK := a_ HI.out.h2; have HB := a_ HI.out.hb; have HL := a_ HI.out.hl; clear HI; obtain ⟨b5u, b5w, b5y, b5A, b5v, b5x, b5z, b5B⟩ := blk4 BK.out
  by_cases hlt : j < 2
  ·obtain ⟨t, ht, e1, e2, e3⟩ := a0G.left_step hlt HL.out; obtain ⟨k1, rfl⟩ : ∃ k1, gk = k1 + 1 := ⟨gk - 1, by omega⟩; have HT := a_ ht; have E1 := a_ e1; have E2 := a_ e2; have E3 := a_ e3; clear ht e1 e2 e3 HL
   rcases (show j = 0 ∨ j = 1 by omega) with rfl | rfl
   ·have hcq := bc0 HK; have hv : ((0 : Nat) : Int) = 0 := rfl
    simp only [hv]
    go_wp2_with (fail)
    refine (y8.calls A0 l0.length c0 false _).mono ?_; rintro e w3 ⟨gb, ga, gg, rfl, hI, hb⟩; have BK3 := X3 BK hb; have HK3 := X3 HK hb; have HB3 := V3 HB hb; have LA := a_ (Nat.le_trans (y5 HB.out) hI.la); have I3 := a_ (hI.lower (y5 HB.out)); have NB2 : Aside0 (g2 ≠ ga) := ⟨a6E BK3.out hI.ha (by decide)⟩; have NBQ : Aside0 (gq ≠ ga) := ⟨a6E HK3.out hI.ha (by decide)⟩; clear hI hb
    go_wp2_with (fail)
    refine (y8.next k A0 l0 c0 false 0 4 t _ gb ga gg _ I3.out (Kd.y9 HR0.out HB3.out) HC0.out (by omega) (by omega) (by have := H4.out; omega) HT.out).mono ?_; rintro e w4 ⟨rfl, hI, hk, hb⟩; have BK4 := a_ (hk.blk BK3.out NB2.out (by simp)); have HK4 := a_ (hk.blk HK3.out NBQ.out (by simp)); have HB4 := a_ (hb w HB3.out LA.out); clear hI hk hb BK3 HK3 HB3 I3; have b9k := bc0 BK4; have b9o := l7 BK4.out 0; have b9l := bc1 BK4; have b9p := l7 BK4.out 1; have b9m := bc2 BK4; have b9q := l7 BK4.out 2; have b9n := bc3 BK4; have b9r := l7 BK4.out 3
    by_cases c1 : t = 2712847316
    ·have c1b : (t == 2712847316) = true := by simpa using c1
     have h : (false, false, (0 : Int), (0 : Int), true) = (r1, r2, r3, r4, r5) := E1.out c1
     simp only [Prod.mk.injEq] at h
     obtain ⟨rfl, rfl, rfl, rfl, rfl⟩ := h; clear E1 E2 E3 c1
     go_wp2_with (fail)
     refine bodyPost_ret (U9 rfl _ _ g2 46 #[.bool false, .bool false, .int .u32 0, .int .u32 0] (0, 0) _ rfl (l9 (l9 (l9 (l9 BK4.out 0 _ rfl) 1 _ rfl) 2 _ rfl) 3 _ rfl) Tryd.underlying46 rfl (by kernel_rfl)) rfl ?_; exact ⟨rfl, by repeat (first | exact HB4.out | refine o7 ?_ GE2.out)⟩
    ·by_cases c2 : t = 2712812621
     ·have c1b : (t == 2712847316) = false := by simpa using c1
      have c2b : (t == 2712812621) = true := by simpa using c2
      have h : (false, true, (0 : Int), (0 : Int), true) = (r1, r2, r3, r4, r5) := E2.out c1 c2
      simp only [Prod.mk.injEq] at h
      obtain ⟨rfl, rfl, rfl, rfl, rfl⟩ := h; clear E1 E2 E3 c1 c2
      go_wp2_with (fail)
      refine bodyPost_ret (U9 rfl _ _ g2 46 #[.bool false, .bool true, .int .u32 0, .int .u32 0] (0, 0) _ rfl (l9 (l9 (l9 (l9 BK4.out 0 _ rfl) 1 _ rfl) 2 _ rfl) 3 _ rfl) Tryd.underlying46 rfl (by kernel_rfl)) rfl ?_; exact ⟨rfl, by repeat (first | exact HB4.out | refine o7 ?_ GE2.out)⟩
     ·have c1b : (t == 2712847316) = false := by simpa using c1
      have c2b : (t == 2712812621) = false := by simpa using c2
      have HL : Aside0 (a0G.left k l0 1 (r1, r2, r3, r4, r5)) := ⟨E3.out c1 c2⟩; clear E1 E2 E3 c1 c2
      go_wp2_with (fail)
      go_roundg k1
      case measure => omega
      case rel => exact ⟨1, by omega, rfl, ⟨⟨HK4.out, BK4.out, HB4.out, HL.out⟩⟩⟩
   ·have hcq := bc1 HK; have hv : ((1 : Nat) : Int) = 1 := rfl
    simp only [hv]
    go_wp2_with (fail)
    refine (y8.calls A0 l0.length c0 true _).mono ?_; rintro e w3 ⟨gb, ga, gg, rfl, hI, hb⟩; have BK3 := X3 BK hb; have HK3 := X3 HK hb; have HB3 := V3 HB hb; have LA := a_ (Nat.le_trans (y5 HB.out) hI.la); have I3 := a_ (hI.lower (y5 HB.out)); have NB2 : Aside0 (g2 ≠ ga) := ⟨a6E BK3.out hI.ha (by decide)⟩; have NBQ : Aside0 (gq ≠ ga) := ⟨a6E HK3.out hI.ha (by decide)⟩; clear hI hb
    go_wp2_with (fail)
    refine (y8.next k A0 l0 c0 true 0 4 t _ gb ga gg _ I3.out (Kd.y9 HR0.out HB3.out) HC0.out (by omega) (by omega) (by have := H4.out; omega) HT.out).mono ?_; rintro e w4 ⟨rfl, hI, hk, hb⟩; have BK4 := a_ (hk.blk BK3.out NB2.out (by simp)); have HK4 := a_ (hk.blk HK3.out NBQ.out (by simp)); have HB4 := a_ (hb w HB3.out LA.out); clear hI hk hb BK3 HK3 HB3 I3; have b9k := bc0 BK4; have b9o := l7 BK4.out 0; have b9l := bc1 BK4; have b9p := l7 BK4.out 1; have b9m := bc2 BK4; have b9q := l7 BK4.out 2; have b9n := bc3 BK4; have b9r := l7 BK4.out 3
    by_cases c1 : t = 2712847316
    ·have c1b : (t == 2712847316) = true := by simpa using c1
     have h : (true, false, (0 : Int), (0 : Int), true) = (r1, r2, r3, r4, r5) := E1.out c1
     simp only [Prod.mk.injEq] at h
     obtain ⟨rfl, rfl, rfl, rfl, rfl⟩ := h; clear E1 E2 E3 c1
     go_wp2_with (fail)
     refine bodyPost_ret (U9 rfl _ _ g2 46 #[.bool true, .bool false, .int .u32 0, .int .u32 0] (0, 0) _ rfl (l9 (l9 (l9 (l9 BK4.out 0 _ rfl) 1 _ rfl) 2 _ rfl) 3 _ rfl) Tryd.underlying46 rfl (by kernel_rfl)) rfl ?_; exact ⟨rfl, by repeat (first | exact HB4.out | refine o7 ?_ GE2.out)⟩
    ·by_cases c2 : t = 2712812621
     ·have c1b : (t == 2712847316) = false := by simpa using c1
      have c2b : (t == 2712812621) = true := by simpa using c2
      have h : (true, true, (0 : Int), (0 : Int), true) = (r1, r2, r3, r4, r5) := E2.out c1 c2
      simp only [Prod.mk.injEq] at h
      obtain ⟨rfl, rfl, rfl, rfl, rfl⟩ := h; clear E1 E2 E3 c1 c2
      go_wp2_with (fail)
      refine bodyPost_ret (U9 rfl _ _ g2 46 #[.bool true, .bool true, .int .u32 0, .int .u32 0] (0, 0) _ rfl (l9 (l9 (l9 (l9 BK4.out 0 _ rfl) 1 _ rfl) 2 _ rfl) 3 _ rfl) Tryd.underlying46 rfl (by kernel_rfl)) rfl ?_; exact ⟨rfl, by repeat (first | exact HB4.out | refine o7 ?_ GE2.out)⟩
     ·have c1b : (t == 2712847316) = false := by simpa using c1
      have c2b : (t == 2712812621) = false := by simpa using c2
      have HL : Aside0 (a0G.left k l0 2 (r1, r2, r3, r4, r5)) := ⟨E3.out c1 c2⟩; clear E1 E2 E3 c1 c2
      go_wp2_with (fail)
      go_roundg k1
      case measure => omega
      case rel => exact ⟨2, by omega, rfl, ⟨⟨HK4.out, BK4.out, HB4.out, HL.out⟩⟩⟩
  ·obtain rfl : j = 2 := by omega
   have h : (false, false, (0 : Int), (0 : Int), false) = (r1, r2, r3, r4, r5) := HL.out
   simp only [Prod.mk.injEq] at h
   obtain ⟨rfl, rfl, rfl, rfl, rfl⟩ := h; have hv : ((2 : Nat) : Int) = 2 := rfl
   simp only [hv]
   clear HL
   go_wp2_with (fail)
   refine bodyPost_ret (U9 rfl _ _ g2 46 #[.bool false, .bool false, .int .u32 0, .int .u32 0] (0, 0) _ rfl (l9 (l9 (l9 (l9 BK.out 0 _ rfl) 1 _ rfl) 2 _ rfl) 3 _ rfl) Tryd.underlying46 rfl (by kernel_rfl)) rfl ?_; exact ⟨rfl, by repeat (first | exact HB.out | refine o7 ?_ GE2.out)⟩
def a6u.f (k : Nat) (l0 : List Int) : Option (Bool × Bool × Int × Int × Int) :=
 if (l0.length : Int) < 4 then some (false, false, 0, 0, 2) else
 (a0G.f k l0).bind fun o => if o.2.2.2.2 = false then some (false, false, 0, 0, 3) else if (l0.length : Int) < 24 then some (false, false, 0, 0, 2) else
  (y8.num k (l0.drop 4) o.1 0 2).bind fun t1 => if t1 ≠ 2 then some (false, false, 0, 0, 3) else
   (y8.num k (l0.drop 4) o.1 2 2).bind fun _ => (y8.num k (l0.drop 4) o.1 4 4).bind fun _ => (y8.num k (l0.drop 4) o.1 8 4).bind fun _ => (y8.num k (l0.drop 4) o.1 12 4).bind fun t5 => (y8.num k (l0.drop 4) o.1 16 4).bind fun t6 => some (o.1, o.2.1, t5, t6, 0)
theorem a6u.calls (k : Nat) (A0 : Option Addr) (c0 : Nat) (l0 : List Int) (r1 r2 : Bool) (r3 r4 : Int) (r5 : Int) (w : World) (hr0 : Kd.C (Kd.int .u8) w A0 l0.length l0) (hc0 : l0.length ≤ c0) (h : a6u.f k l0 = some (r1, r2, r3, r4, r5)) :
  Calls Tryd.prog 61 #[.slice A0 l0.length c0] w fun e w' => e = .returned (.tuple #[.agg #[.bool r1, .bool r2, .int .u32 r3, .int .u32 r4], .int .i64 r5]) ∧ Below w.heap.size w w' := by
 have huM := Tryd.underlying46
 unfold a6u.f at h
 have HR0 := a_ hr0
 have HC0 := a_ hc0
 have HW := a_ (Below.refl w.heap.size w)
 by_cases c1 : (l0.length : Int) < 4
 ·rw [if_pos c1] at h
  simp only [Option.some.injEq, Prod.mk.injEq] at h
  obtain ⟨rfl, rfl, rfl, rfl, rfl⟩ := h; have c1b := dt_ c1; clear c1 hr0 hc0
  go_enter Tryd.func61, Tryd.ntmps61
  go_wp2_with ((refine be_ 2 #[.bool false, .bool false, .int .u32 0, .int .u32 0] 46 ?_; intro g2 hg w1 hbox hb; have BK2 := a_ hbox; have HB1 := V3 HW hb; have GE2 : Aside0 (w.heap.size ≤ g2) := ⟨by rw [hg]; exact Nat.le_refl _⟩; clear hg hbox hb; have b5u := bc0 BK2; have b5v := l7 BK2.out 0; have b5w := bc1 BK2; have b5x := l7 BK2.out 1; have b5y := bc2 BK2; have b5z := l7 BK2.out 2; have b5A := bc3 BK2; have b5B := l7 BK2.out 3))
  refine bodyPost_ret (U9 rfl _ _ g2 46 #[.bool false, .bool false, .int .u32 0, .int .u32 0] (0, 0) _ rfl (l9 (l9 (l9 (l9 BK2.out 0 _ rfl) 1 _ rfl) 2 _ rfl) 3 _ rfl) Tryd.underlying46 rfl (by kernel_rfl)) rfl ?_; exact ⟨rfl, by repeat (first | with_reducible exact HB1.out | with_reducible refine o7 ?_ GE2.out)⟩
 ·rw [if_neg c1] at h; obtain ⟨⟨o1, o2, o3, o4, o5⟩, ho, h⟩ := Option.bind_eq_some_iff.1 h
  dsimp only at h
  have c1b := df_ c1; have h4 : 4 ≤ l0.length := by omega
  have H4 := a_ h4; have HO := a_ ho; have H := a_ h; clear c1 hr0 hc0 h4 ho h
  go_enter Tryd.func61, Tryd.ntmps61
  go_wp2_with ((refine be_ 2 #[.bool false, .bool false, .int .u32 0, .int .u32 0] 46 ?_; intro g2 hg w1 hbox hb; have BK2 := a_ hbox; have HB1 := V3 HW hb; have GE2 : Aside0 (w.heap.size ≤ g2) := ⟨by rw [hg]; exact Nat.le_refl _⟩; clear hg hbox hb; have b5u := bc0 BK2; have b5v := l7 BK2.out 0; have b5w := bc1 BK2; have b5x := l7 BK2.out 1; have b5y := bc2 BK2; have b5z := l7 BK2.out 2; have b5A := bc3 BK2; have b5B := l7 BK2.out 3))
  refine (a0G.calls k A0 c0 l0 o1 o2 o3 o4 o5 _ (Kd.y9 HR0.out HB1.out) HC0.out H4.out HO.out).mono ?_; rintro e w2 ⟨rfl, hb2⟩; have a9C := X3 BK2 hb2; have HB2 := V3 HB1 hb2; clear hb2 BK2 HB1; have h := H.out
  cases o5 with
  | false =>
   rw [if_pos rfl] at h
   simp only [Option.some.injEq, Prod.mk.injEq] at h
   obtain ⟨rfl, rfl, rfl, rfl, rfl⟩ := h; clear H; have g5L := a9C
   go_wp2_with ((refine be_ 4 #[.bool false, .bool false, .int .u32 0, .int .u32 0] 46 ?_; intro g4 hg w3 hbox hb; have BK4 := a_ hbox; have GE4 : Aside0 (w.heap.size ≤ g4) := ⟨by rw [hg]; exact y5 HB2.out⟩; have NB : Aside0 (g2 ≠ g4) := ⟨by rw [hg]; exact Nat.ne_of_lt (a0u a9C.out)⟩; have a3B := X3 a9C hb; have HB3 := V3 HB2 hb; clear hg hbox hb a9C HB2; have b9k := bc0 BK4; have b9o := l7 BK4.out 0; have b9l := bc1 BK4; have b9p := l7 BK4.out 1; have b9m := bc2 BK4; have b9q := l7 BK4.out 2; have b9n := bc3 BK4; have b9r := l7 BK4.out 3; have c8t := bc0 a3B; have c8u := l7 a3B.out 0; have c8v := bc1 a3B; have c8w := l7 a3B.out 1; have c8x := bc2 a3B; have c8y := l7 a3B.out 2; have c8A := bc3 a3B; have c8B := l7 a3B.out 3; have n24 : g2 ≠ g4 := NB.out; have n42 : g4 ≠ g2 := NB.out.symm))
   refine bodyPost_ret (U9 rfl _ _ g2 46 #[.bool false, .bool false, .int .u32 0, .int .u32 0] (0, 0) _ rfl (by refine l9 (cs := #[.bool false, .bool false, .int .u32 0, .int .u32 0]) ?_ 3 _ rfl; refine l9 (cs := #[.bool false, .bool false, .int .u32 0, .int .u32 0]) ?_ 2 _ rfl; refine l9 (cs := #[.bool false, .bool false, .int .u32 0, .int .u32 0]) ?_ 1 _ rfl; refine l9 (cs := #[.bool false, .bool false, .int .u32 0, .int .u32 0]) ?_ 0 _ rfl; repeat (first | with_reducible exact a3B.out | refine o8 ?_ NB.out _)) Tryd.underlying46 rfl (by kernel_rfl)) rfl ?_; exact ⟨rfl, by repeat (first | with_reducible exact HB3.out | with_reducible refine o7 ?_ GE2.out | with_reducible refine o7 ?_ GE4.out)⟩
  | true =>
   simp only [Bool.true_eq_false, if_false] at h
   by_cases c2 : (l0.length : Int) < 24
   ·rw [if_pos c2] at h
    simp only [Option.some.injEq, Prod.mk.injEq] at h
    obtain ⟨rfl, rfl, rfl, rfl, rfl⟩ := h; have c2b := dt_ c2; clear H c2
    go_wp2_with ((refine be_ 4 #[.bool false, .bool false, .int .u32 0, .int .u32 0] 46 ?_; intro g4 hg w3 hbox hb; have BK4 := a_ hbox; have GE4 : Aside0 (w.heap.size ≤ g4) := ⟨by rw [hg]; exact y5 HB2.out⟩; have NB : Aside0 (g2 ≠ g4) := ⟨by rw [hg]; exact Nat.ne_of_lt (a0u a9C.out)⟩; have a3B := X3 a9C hb; have HB3 := V3 HB2 hb; clear hg hbox hb a9C HB2; have b9k := bc0 BK4; have b9o := l7 BK4.out 0; have b9l := bc1 BK4; have b9p := l7 BK4.out 1; have b9m := bc2 BK4; have b9q := l7 BK4.out 2; have b9n := bc3 BK4; have b9r := l7 BK4.out 3; have c8t := bc0 a3B; have c8u := l7 a3B.out 0; have c8v := bc1 a3B; have c8w := l7 a3B.out 1; have c8x := bc2 a3B; have c8y := l7 a3B.out 2; have c8A := bc3 a3B; have c8B := l7 a3B.out 3; have n24 : g2 ≠ g4 := NB.out; have n42 : g4 ≠ g2 := NB.out.symm))
    refine bodyPost_ret (U9 rfl _ _ g2 46 #[.bool false, .bool false, .int .u32 0, .int .u32 0] (0, 0) _ rfl (by refine l9 (cs := #[.bool false, .bool false, .int .u32 0, .int .u32 0]) ?_ 3 _ rfl; refine l9 (cs := #[.bool false, .bool false, .int .u32 0, .int .u32 0]) ?_ 2 _ rfl; refine l9 (cs := #[.bool false, .bool false, .int .u32 0, .int .u32 0]) ?_ 1 _ rfl; refine l9 (cs := #[.bool false, .bool false, .int .u32 0, .int .u32 0]) ?_ 0 _ rfl; repeat (first | with_reducible exact a3B.out | refine o8 ?_ NB.out _)) Tryd.underlying46 rfl (by kernel_rfl)) rfl ?_; exact ⟨rfl, by repeat (first | with_reducible exact HB3.out | with_reducible refine o7 ?_ GE2.out | with_reducible refine o7 ?_ GE4.out)⟩
   ·rw [if_neg c2] at h; have c2b := df_ c2; obtain ⟨t1, q1, h⟩ := Option.bind_eq_some_iff.1 h; obtain ⟨i0, hi0, _, hsz, _⟩ := info_parts info5; obtain ⟨A8, hcut, hA8, hC8⟩ := a0O (P := Tryd.prog) (Value.int .u8) 0 22 5 .i64 Tryd.underlying22 hi0 hsz A0 c0 l0 4 (by omega) (by omega) HC0.out; have HR8 := ci_ (Kd.Y8 (h1 := fun _ => rfl) (hA8 _ (Kd.Y3 HR0.out))); have hl4 : (l0.drop (4 : Int).toNat).length = l0.length - 4 := List.length_drop ..; have HL4 : Aside0 (20 ≤ ((l0.drop (4 : Int).toNat).length : Int)) := ⟨by omega⟩; have HC8 := a_ hC8; have T1 : Aside0 (y8.num k (l0.drop (4 : Int).toNat) o1 0 2 = some t1) := ⟨q1⟩; have H : Aside0 ((if t1 ≠ 2 then some (false, false, 0, 0, 3) else
   (y8.num k (l0.drop (4 : Int).toNat) o1 2 2).bind fun _ => (y8.num k (l0.drop (4 : Int).toNat) o1 4 4).bind fun _ => (y8.num k (l0.drop (4 : Int).toNat) o1 8 4).bind fun _ => (y8.num k (l0.drop (4 : Int).toNat) o1 12 4).bind fun t5 => (y8.num k (l0.drop (4 : Int).toNat) o1 16 4).bind fun t6 => some (o1, o2, t5, t6, 0)) = some (r1, r2, r3, r4, r5)) := ⟨h⟩
    clear h q1 hl4 hA8 hC8 hi0 hsz c2; generalize l0.drop (4 : Int).toNat = l4 at hcut HR8 HL4 HC8 T1 H; generalize c0 - (4 : Int).toNat = c8 at hcut HC8
    go_wp2_with ((refine be_ 4 #[.bool false, .bool false, .int .u32 0, .int .u32 0] 46 ?_; intro g4 hg w3 hbox hb; have BK4 := a_ hbox; have GE4 : Aside0 (w.heap.size ≤ g4) := ⟨by rw [hg]; exact y5 HB2.out⟩; have NB : Aside0 (g2 ≠ g4) := ⟨by rw [hg]; exact Nat.ne_of_lt (a0u a9C.out)⟩; have a3B := X3 a9C hb; have HB3 := V3 HB2 hb; clear hg hbox hb a9C HB2; have b9k := bc0 BK4; have b9o := l7 BK4.out 0; have b9l := bc1 BK4; have b9p := l7 BK4.out 1; have b9m := bc2 BK4; have b9q := l7 BK4.out 2; have b9n := bc3 BK4; have b9r := l7 BK4.out 3; have c8t := bc0 a3B; have c8u := l7 a3B.out 0; have c8v := bc1 a3B; have c8w := l7 a3B.out 1; have c8x := bc2 a3B; have c8y := l7 a3B.out 2; have c8A := bc3 a3B; have c8B := l7 a3B.out 3; have n24 : g2 ≠ g4 := NB.out; have n42 : g4 ≠ g2 := NB.out.symm))
    generalize hW : World.setCell (World.setCell (World.setCell (World.setCell w3 ⟨g4, 0, none⟩ (.bool o1)) ⟨g4, 1, none⟩ (.bool o2)) ⟨g4, 2, none⟩ (.int .u32 o3)) ⟨g4, 3, none⟩ (.int .u32 o4) = w3b; have e9J : Aside0 (w3b.heap[g4]? = some (.cells #[.bool o1, .bool o2, .int .u32 o3, .int .u32 o4] 46 (0, 0))) := ⟨by rw [← hW]; exact (l9 (l9 (l9 (l9 BK4.out 0 _ rfl) 1 _ rfl) 2 _ rfl) 3 _ rfl)⟩; have d3P : Aside0 (w3b.heap[g2]? = some (.cells #[.bool false, .bool false, .int .u32 0, .int .u32 0] 46 (0, 0))) := ⟨by rw [← hW]; repeat (first | with_reducible exact a3B.out | refine o8 ?_ NB.out _)⟩; have e3r : Aside0 (Below w.heap.size w w3b) := ⟨by rw [← hW]; repeat (first | with_reducible exact HB3.out | with_reducible refine o7 ?_ GE4.out)⟩; clear hW BK4 a3B HB3 b9k b9o c8t c8u b9l b9p c8v c8w b9m b9q c8x c8y b9n b9r c8A c8B; have f6h := bc0 e9J
    go_region_held (fun w' => w'.cell? ⟨g4, 0, none⟩ = some (.bool o1)) (first | exact f6i | exact f6h) (with_reducible refine (y8.calls A8 l4.length c8 o1 _).mono ?_;  rintro e w4 ⟨gb, ga, gg, rfl, hI, hb⟩; have b5F := a_ (L6 (G9 e9J.out) hb); have d7E := a_ (L6 (G9 d3P.out) hb); have HB4 := a_ (J6 (Y9 e3r.out) hb); have LA := a_ (Nat.le_trans (y5 (Y9 e3r.out)) hI.la); have I4 := a_ (hI.lower (y5 (Y9 e3r.out))); have N2 : Aside0 (g2 ≠ ga) := ⟨a6E d7E.out hI.ha (by decide)⟩; have N4 : Aside0 (g4 ≠ ga) := ⟨a6E b5F.out hI.ha (by decide)⟩; have Nb : Aside0 (gb ≠ g4) := ⟨a6E hI.hb b5F.out (by decide)⟩; have Na : Aside0 (ga ≠ g4) := ⟨N4.out.symm⟩; have Ng : Aside0 (gg ≠ g4) := ⟨a6E hI.hg b5F.out (by decide)⟩; clear hI hb e9J d3P e3r; have f6i := bc0 b5F)
    go_wp2_with (fail)
    refine (y8.next k A8 l4 c8 o1 0 2 t1 w.heap.size gb ga gg _ I4.out (Kd.y9 HR8.out (by repeat (with_reducible exact HB4.out))) HC8.out (by omega) (by omega) (by have := HL4.out; omega) T1.out).mono ?_; rintro e w5 ⟨rfl, hI, hk, hb⟩; have b0o := a_ (hk.blk b5F.out N4.out (by simp)); have a9A := a_ (hk.blk d7E.out N2.out (by simp)); have HB5 := a_ (hb w (by repeat (with_reducible exact HB4.out)) LA.out); have I5 : Aside0 (y8.Inv w5 w.heap.size A8 l4.length c8 o1 2 gb ga gg) := ⟨hI⟩; clear hI hk hb b5F d7E HB4 I4; have g5N := bc0 b0o; have g5O := l7 b0o.out 0; have g5P := bc1 b0o; have g5Q := l7 b0o.out 1; have g5R := bc2 b0o; have g5S := l7 b0o.out 2; have g5T := bc3 b0o; have g5U := l7 b0o.out 3; have g5V := bc0 a9A; have g5W := l7 a9A.out 0; have g5X := bc1 a9A; have g5Y := l7 a9A.out 1; have g5Z := bc2 a9A; have g50 := l7 a9A.out 2; have g51 := bc3 a9A; have g52 := l7 a9A.out 3; have h := H.out
    by_cases c5 : t1 = 2
    ·rw [if_neg (by simpa using c5)] at h; obtain ⟨t2, q2, h⟩ := Option.bind_eq_some_iff.1 h; obtain ⟨t3, q3, h⟩ := Option.bind_eq_some_iff.1 h; obtain ⟨t4, q4, h⟩ := Option.bind_eq_some_iff.1 h; obtain ⟨t5, q5, h⟩ := Option.bind_eq_some_iff.1 h; obtain ⟨t6, q6, h⟩ := Option.bind_eq_some_iff.1 h
     simp only [Option.some.injEq, Prod.mk.injEq] at h
     obtain ⟨rfl, rfl, rfl, rfl, rfl⟩ := h; have T2 := a_ q2; have T3 := a_ q3; have T4 := a_ q4; have T5 := a_ q5; have T6 := a_ q6; have c5b : (t1 == 2) = true := by simpa using c5
     have c5c : (t1 != 2) = false := by simpa using c5
     clear q2 q3 q4 q5 q6 c5 H
     go_wp2_with (fail)
     refine (y8.next k A8 l4 c8 o1 2 2 t2 w.heap.size gb ga gg _ I5.out (Kd.y9 HR8.out (by repeat (with_reducible exact HB5.out))) HC8.out (by omega) (by omega) (by have := HL4.out; omega) T2.out).mono ?_; rintro e w6 ⟨rfl, hI, hk, hb⟩; have b0p := a_ (hk.blk b0o.out N4.out (by simp)); have b3W := a_ (hk.blk a9A.out N2.out (by simp)); have HB6 := a_ (hb w (by repeat (with_reducible exact HB5.out)) LA.out); have I6 : Aside0 (y8.Inv w6 w.heap.size A8 l4.length c8 o1 4 gb ga gg) := ⟨hI⟩; clear hI hk hb b0o a9A HB5 I5; have g53 := bc0 b0p; have g54 := l7 b0p.out 0; have g55 := bc1 b0p; have g56 := l7 b0p.out 1; have g57 := bc2 b0p; have g58 := l7 b0p.out 2; have g59 := bc3 b0p; have g6a := l7 b0p.out 3; have g6b := bc0 b3W; have g6c := l7 b3W.out 0; have g6d := bc1 b3W; have g6e := l7 b3W.out 1; have g6f := bc2 b3W; have g6g := l7 b3W.out 2; have g6h := bc3 b3W; have g6i := l7 b3W.out 3
     go_wp2_with (fail)
     refine (y8.next k A8 l4 c8 o1 4 4 t3 w.heap.size gb ga gg _ I6.out (Kd.y9 HR8.out (by repeat (with_reducible exact HB6.out))) HC8.out (by omega) (by omega) (by have := HL4.out; omega) T3.out).mono ?_; rintro e w7 ⟨rfl, hI, hk, hb⟩; have a5V := a_ (hk.blk b0p.out N4.out (by simp)); have b1w := a_ (hk.blk b3W.out N2.out (by simp)); have HB7 := a_ (hb w (by repeat (with_reducible exact HB6.out)) LA.out); have I7 : Aside0 (y8.Inv w7 w.heap.size A8 l4.length c8 o1 8 gb ga gg) := ⟨hI⟩; clear hI hk hb b0p b3W HB6 I6; have g6j := bc0 a5V; have g6k := l7 a5V.out 0; have g6l := bc1 a5V; have g6m := l7 a5V.out 1; have g6n := bc2 a5V; have g6o := l7 a5V.out 2; have g6p := bc3 a5V; have g6q := l7 a5V.out 3; have g6r := bc0 b1w; have g6s := l7 b1w.out 0; have g6t := bc1 b1w; have g6u := l7 b1w.out 1; have g6v := bc2 b1w; have g6w := l7 b1w.out 2; have g6x := bc3 b1w; have g6y := l7 b1w.out 3
     go_wp2_with (fail)
     refine (y8.next k A8 l4 c8 o1 8 4 t4 w.heap.size gb ga gg _ I7.out (Kd.y9 HR8.out (by repeat (with_reducible exact HB7.out))) HC8.out (by omega) (by omega) (by have := HL4.out; omega) T4.out).mono ?_; rintro e w8 ⟨rfl, hI, hk, hb⟩; have a3A := a_ (hk.blk a5V.out N4.out (by simp)); have b3X := a_ (hk.blk b1w.out N2.out (by simp)); have HB8 := a_ (hb w (by repeat (with_reducible exact HB7.out)) LA.out); have I8 : Aside0 (y8.Inv w8 w.heap.size A8 l4.length c8 o1 12 gb ga gg) := ⟨hI⟩; clear hI hk hb a5V b1w HB7 I7; have e9v := bc0 a3A; have e9w := l7 a3A.out 0; have e9x := bc1 a3A; have e9y := l7 a3A.out 1; have e9z := bc2 a3A; have e9A := l7 a3A.out 2; have e9B := bc3 a3A; have e9C := l7 a3A.out 3; have e84 := bc0 b3X; have e85 := l7 b3X.out 0; have e86 := bc1 b3X; have e87 := l7 b3X.out 1; have e88 := bc2 b3X; have e89 := l7 b3X.out 2; have e9a := bc3 b3X; have e9b := l7 b3X.out 3
     go_wp2_with (fail)
     refine (y8.next k A8 l4 c8 o1 12 4 t5 w.heap.size gb ga gg _ I8.out (Kd.y9 HR8.out (by repeat (with_reducible exact HB8.out))) HC8.out (by omega) (by omega) (by have := HL4.out; omega) T5.out).mono ?_; rintro e w9 ⟨rfl, hI, hk, hb⟩; have b3Y := a_ (hk.blk a3A.out N4.out (by simp)); have b0n := a_ (hk.blk b3X.out N2.out (by simp)); have HB9 := a_ (hb w (by repeat (with_reducible exact HB8.out)) LA.out); have I9 : Aside0 (y8.Inv w9 w.heap.size A8 l4.length c8 o1 16 gb ga gg) := ⟨hI⟩; clear hI hk hb a3A b3X HB8 I8; have d7r := bc0 b3Y; have d7s := l7 b3Y.out 0; have d7t := bc1 b3Y; have d7u := l7 b3Y.out 1; have d7v := bc2 b3Y; have d7w := l7 b3Y.out 2; have d7x := bc3 b3Y; have d7y := l7 b3Y.out 3; have g6z := bc0 b0n; have g6A := l7 b0n.out 0; have g6B := bc1 b0n; have g6C := l7 b0n.out 1; have g6D := bc2 b0n; have g6E := l7 b0n.out 2; have g6F := bc3 b0n; have g6G := l7 b0n.out 3
     go_wp2_with (fail)
     refine (y8.next k A8 l4 c8 o1 16 4 t6 w.heap.size gb ga gg _ (by repeat (first | exact I9.out | refine y8.Inv.far ?_ Nb.out Na.out Ng.out _)) (Kd.y9 HR8.out (by repeat (first | with_reducible exact HB9.out | with_reducible refine o7 ?_ GE4.out))) HC8.out (by omega) (by omega) (by have := HL4.out; omega) T6.out).mono ?_; rintro e w10 ⟨rfl, hI, hk, hb⟩; have b2A := a_ (hk.blk (o := .cells #[.bool o1, .bool o2, .int .u32 t5, .int .u32 o4] 46 (0, 0)) (g' := g4) (l9 b3Y.out 2 _ rfl) N4.out (by simp)); have a4A := a_ (hk.blk (o := .cells #[.bool false, .bool false, .int .u32 0, .int .u32 0] 46 (0, 0)) (g' := g2) (by exact o8 (p := ⟨g4, 2, none⟩) b0n.out NB.out _) N2.out (by simp)); have a7c := a_ (hb w (by repeat (first | with_reducible exact HB9.out | with_reducible refine o7 ?_ GE4.out)) LA.out); have I10 : Aside0 (y8.Inv w10 w.heap.size A8 l4.length c8 o1 20 gb ga gg) := ⟨hI⟩; clear hI hk hb b3Y b0n HB9 I9; have g6H := bc0 b2A; have g6I := l7 b2A.out 0; have g6J := bc1 b2A; have g6K := l7 b2A.out 1; have g6L := bc2 b2A; have g6M := l7 b2A.out 2; have g6N := bc3 b2A; have g6O := l7 b2A.out 3; have g6P := bc0 a4A; have g6Q := l7 a4A.out 0; have g6R := bc1 a4A; have g6S := l7 a4A.out 1; have g6T := bc2 a4A; have g6U := l7 a4A.out 2; have g6V := bc3 a4A; have g6W := l7 a4A.out 3; have n24 : g2 ≠ g4 := NB.out; have n42 : g4 ≠ g2 := NB.out.symm
     go_wp2_with (fail)
     have E2 := a_ (o8 (p := ⟨g4, 3, none⟩) a4A.out NB.out (.int .u32 t6)); refine bodyPost_ret (U9 rfl _ _ g2 46 #[.bool o1, .bool o2, .int .u32 t5, .int .u32 t6] (0, 0) _ rfl (l9 (l9 (l9 (l9 E2.out 0 _ rfl) 1 _ rfl) 2 _ rfl) 3 _ rfl) Tryd.underlying46 rfl (by kernel_rfl)) rfl ?_; exact ⟨rfl, by repeat (first | with_reducible exact a7c.out | with_reducible refine o7 ?_ GE2.out | with_reducible refine o7 ?_ GE4.out)⟩
    ·rw [if_pos (by simpa using c5)] at h
     simp only [Option.some.injEq, Prod.mk.injEq] at h
     obtain ⟨rfl, rfl, rfl, rfl, rfl⟩ := h; have c5b : (t1 == 2) = false := by simpa using c5
     have c5c : (t1 != 2) = true := by simpa using c5
     clear c5 H; have n24 : g2 ≠ g4 := NB.out; have n42 : g4 ≠ g2 := NB.out.symm
     go_wp2_with (fail)
     refine bodyPost_ret (U9 rfl _ _ g2 46 #[.bool false, .bool false, .int .u32 0, .int .u32 0] (0, 0) _ rfl (l9 (l9 (l9 (l9 a9A.out 0 _ rfl) 1 _ rfl) 2 _ rfl) 3 _ rfl) Tryd.underlying46 rfl (by kernel_rfl)) rfl ?_; exact ⟨rfl, by repeat (first | with_reducible exact HB5.out | with_reducible refine o7 ?_ GE2.out)⟩
def P5.f (l0 : List Int) : Option (List Int) := if l0.length < 140737488355328 then some l0 else none
theorem P5.calls (A0 : Option Addr) (c0 : Nat) (l0 : List Int) (r : List Int) (w : World) (hr0 : Kd.C (Kd.int .u8) w A0 l0.length l0) (hc0 : l0.length ≤ c0) (h : P5.f l0 = some r) :
  Calls Tryd.prog 96 #[.slice A0 l0.length c0] w fun e w' => ∃ v0_ : Value, e = .returned (v0_) ∧ Kd.R (Kd.int .u8) 5 w' w.heap.size (fun _ => True) v0_ r ∧ Below w.heap.size w w' := by
 obtain ⟨hl, rfl⟩ : l0.length < 140737488355328 ∧ l0 = r := by
  unfold P5.f at h
  split at h
  ·exact ⟨by assumption, oj_ h⟩
  ·cases h
 have HR0 := a_ hr0
 have HB := a_ (Below.refl w.heap.size w)
 have HL := a_ hl
 clear h hl
 cases A0 with
 | none =>
  obtain rfl : l0 = [] := by
   rcases Nat.eq_zero_or_pos l0.length with h0 | h0
   ·exact List.eq_nil_of_length_eq_zero h0
   ·obtain ⟨ad, e, _⟩ := hr0.2.2 h0
    cases e
  clear hr0 HL HR0; have hnil := fun W : World => Go.Lib.run_eql_slice_nil (P := Tryd.prog) W 22 5 none 0 c0 0 0 Tryd.underlying22
  simp only [List.length_nil]
  go_enter Tryd.func96, Tryd.ntmps96
  go_wp2
  go_ret
  exact ⟨_, rfl, Kd.Y2 _ _ _ _ _, HB.out⟩
 | some ad0 =>
  clear hr0; have hnil := fun W : World => Go.Lib.run_eql_slice_nil (P := Tryd.prog) W 22 5 (some ad0) l0.length c0 0 0 Tryd.underlying22
  go_enter Tryd.func96, Tryd.ntmps96
  go_wp2_with (first | (refine c5y .u8 5 5 ([] : List Int) ?_; intro g6X w3 ho4 hb; have e6l := rl_ ho4 HB; replace HB := V3 HB hb; clear hb ho4) | ((with_reducible refine E8 (b := .append) (xs := #[.tmp 5, .tmp 6]) rfl ?_); at_builtin; refine Kd.P7 (Kd.int .u8) (w0 := w) w.heap.size rfl (.tmp 5) (.tmp 6) 22 5 (.int .u8 0) 1 rfl Tryd.underlying22 info5 rfl (by decide) (by omega) g6X ([] : List Int) l0 _ _ _ (fun _ => True) (fun _ => False) rfl rfl ?aO ?aR (fun _ _ h => h) (fun _ h => h.elim) ?aF ?aB ?aS ?aL ?_; (case aR => exact (Kd.y9 HR0.out HB.out)); (case aB => exact HB.out); (case aF => exact (fun _ _ => trivial)); (case aO => exact e6l.out); (case aS => exact (y5 HB.out)); (case aL => have := HL.out; simp only [List.length_nil]; omega); intro v117 w5 ho hb hg hat; have f6j := a_ ho; replace HB := a_ hb; clear e6l ho hb hg hat))
  go_ret
  exact ⟨_, rfl, f6j.out, HB.out⟩
def a0z.f (a0 : Int) : Option (Bool) := if a0 ≥ 1 then (if a0 ≤ 65535 then (if (Go.bits .and .i64 a0 1) = 1 then (if (Go.bits .and .i64 a0 256) = 0 then (some (a0 != 255)) else (some false)) else (some false)) else (some false)) else (some false)
theorem a0z.calls (a0 : Int) (r : Bool) (w : World) (h : a0z.f a0 = some r) :
  Calls Tryd.prog 33 #[.int .i64 a0] w fun e w' => e = .returned (.bool r) ∧ G5 w w' := by
 have H := h
 clear h
 unfold a0z.f at H
 by_cases c2 : a0 ≥ 1
 ·rw [if_pos c2] at H; have b2i : decide (1 ≤ a0) = true := dt_ c2; clear c2
  by_cases c3 : a0 ≤ 65535
  ·rw [if_pos c3] at H; have a3T := dt_ c3; clear c3
   by_cases c4 : (Go.bits .and .i64 a0 1) = 1
   ·rw [if_pos c4] at H; obtain ⟨a4i, b2z⟩ := bt_ c4; clear c4
    by_cases c5 : (Go.bits .and .i64 a0 256) = 0
    ·rw [if_pos c5] at H; obtain ⟨a5H, b1f⟩ := bt_ c5; clear c5; obtain rfl := oj_ H
     go_enter Tryd.func33, Tryd.ntmps33
     go_wp2
     go_ret
     exact ⟨by (rfl), by exact G5.refl _⟩
    ·rw [if_neg c5] at H; have a5H := bq_ c5; have b1f := bn_ c5; obtain rfl := oj_ H
     go_enter Tryd.func33, Tryd.ntmps33
     go_wp2
     go_ret
     exact ⟨by (rfl), by exact G5.refl _⟩
   ·rw [if_neg c4] at H; have a4i := bq_ c4; have b2z := bn_ c4; obtain rfl := oj_ H
    go_enter Tryd.func33, Tryd.ntmps33
    go_wp2
    go_ret
    exact ⟨by (rfl), by exact G5.refl _⟩
  ·rw [if_neg c3] at H; have a3T := df_ c3; clear c3; obtain rfl := oj_ H
   go_enter Tryd.func33, Tryd.ntmps33
   go_wp2
   go_ret
   exact ⟨by (rfl), by exact G5.refl _⟩
 ·rw [if_neg c2] at H; have b2i : decide (1 ≤ a0) = false := df_ c2; clear c2; obtain rfl := oj_ H
  go_enter Tryd.func33, Tryd.ntmps33
  go_wp2
  go_ret
  exact ⟨by (rfl), by exact G5.refl _⟩
end Go.Proofs.YtgnonglkibhnhaaDoor.Print
