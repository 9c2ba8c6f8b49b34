-- laid together by this session's own program (wip/tools/merge.py) of texts that its program laid
import Derived.Test.YtgnonglkibhnhaaDoorZ
namespace Go.Proofs.YtgnonglkibhnhaaDoor.Print
open Go.RowKit Go.Proofs.YtgnonglkibhnhaaDoorW.PrintWords Go.Proofs.YtgnonglkibhnhaaDoorW.PrintLast Go.Proofs.YtgnonglkibhnhaaDoorW.PrintMore
attribute [local go_sem] a0n a0o a0P a0Q Y4 Y5 a0p a0q   -- for this text's walks alone
set_option linter.unusedVariables false
set_option linter.unusedSimpArgs false
set_option maxHeartbeats 16000000
set_option maxRecDepth 100000
theorem e2O (d : Nat) (w : World) (x0 y0 : Int) (x1 y1 : Int) :
    (Op.equalIn (d + 2) 30 (.agg #[.int .i64 x0, .int .i64 x1]) (.agg #[.int .i64 y0, .int .i64 y1])).run Tryd.prog w = .ok (x0 == y0 && (x1 == y1)) w := by
  refine d3r Tryd.underlying30 (by kernel_rfl) ?_
  refine c3H (by rfl) (by go_simp; rfl) (by go_simp; rfl) (by go_simp) ?_
  exact c3G (by rfl) (by go_simp; rfl) (by go_simp; rfl) (by go_simp)
theorem D8.b46.calls (w : World) : Calls Tryd.prog 129 #[.agg #[]] w fun e w' => e = .returned (.int .i64 1) ∧ Below w.heap.size w w' := by
 go_enter Tryd.func129, Tryd.ntmps129
 go_wp2
 go_ret
 exact ⟨rfl, a0z (Below.refl w.heap.size w) _⟩
theorem D8.b8N.calls (w : World) : Calls Tryd.prog 130 #[.agg #[]] w fun e w' => e = .returned (.int .i64 2) ∧ Below w.heap.size w w' := by
 go_enter Tryd.func130, Tryd.ntmps130
 go_wp2
 go_ret
 exact ⟨rfl, a0z (Below.refl w.heap.size w) _⟩
def D8.form (j : Nat) : Value := match j with | 0 => .iface 65 (.agg #[]) | 1 => .iface 67 (.agg #[]) | _ => .nilIface
def D8.at (a0 : Int) : Nat := if a0 = 1 then 0 else if a0 = 2 then 1 else 2
structure D8.Round (w W : World) (gq : Nat) (a0 : Int) (j : Nat) : Prop where
 hr : W.heap[gq]? = some (.cells #[.iface 65 (.agg #[]), .iface 67 (.agg #[])] 62 (0, 0))
 hb : Below w.heap.size w W
 hl : j ≤ D8.at a0
theorem D8.calls (a0 : Int) (w : World) :
  Calls Tryd.prog 22 #[.int .i64 a0] w fun e w' => e = .returned (D8.form (D8.at a0)) ∧ Below w.heap.size w w' := by
 have HB0 := a_ (Below.refl w.heap.size w)
 go_enter Tryd.func22, Tryd.ntmps22
 go_wp2
 obtain ⟨gq, hgq⟩ : ∃ gq, gq = w.heap.size := ⟨_, rfl⟩
 have BR := a_ (b0n w (Obj.cells #[.iface 65 (.agg #[]), .iface 67 (.agg #[])] 62))
 have HB2 := a_ (a0z HB0.out (Obj.cells #[.iface 65 (.agg #[]), .iface 67 (.agg #[])] 62))
 rw [← hgq] at BR ⊢
 generalize hw2 : w.alloc (Obj.cells #[.iface 65 (.agg #[]), .iface 67 (.agg #[])] 62) = w2 at BR HB2 ⊢
 clear hw2 HB0 hgq
 go_loopg [11] 2 (fun kq v11 w' => ∃ j : Nat, kq + j = 2 ∧ v11 = .int .i64 (j : Int) ∧ Aside0 (D8.Round w w' gq a0 j))
 case atStart => exact ⟨0, rfl, rfl, ⟨⟨BR.out, HB2.out, Nat.zero_le _⟩⟩⟩
 case round =>
  obtain ⟨j, hj, rfl, HI⟩ := hrel; clear BR HB2; have HK := a_ HI.out.hr; have HB := a_ HI.out.hb; have HL := a_ HI.out.hl; clear HI
  rcases (show j = 0 ∨ j = 1 ∨ j = 2 by omega) with rfl | rfl | rfl
  ·obtain ⟨k1, rfl⟩ : ∃ k1, gk = k1 + 1 := ⟨gk - 1, by omega⟩; have hm0 : ∀ w : World, (method 145 65 (.agg #[]) "umpire/capture.name").run Tryd.prog w = .ok (129, .agg #[]) w := fun _ => by kernel_rfl
   have hcq := bc0 HK; have hv : ((0 : Nat) : Int) = 0 := rfl
   simp only [hv]
   by_cases c1 : a0 = 1
   ·subst c1
    go_wp2_with (fail)
    refine (D8.b46.calls _).mono ?_; rintro e w1 ⟨rfl, hb⟩; have HB1 := U9 HB hb; clear hb
    go_wp2_with (fail)
    go_ret
    exact ⟨rfl, HB1.out⟩
   ·have c1b : ((1 : Int) == a0) = false := by simpa using (fun h => c1 h.symm)
    go_wp2_with (fail)
    refine (D8.b46.calls _).mono ?_; rintro e w1 ⟨rfl, hb⟩; have HB1 := U9 HB hb; have HK1 := X4 HK hb; clear hb HK HB hcq
    go_wp2_with (fail)
    go_roundg k1
    case measure => omega
    case rel => exact ⟨1, by omega, rfl, ⟨⟨HK1.out, HB1.out, by unfold D8.at; rw [if_neg c1]; split <;> omega⟩⟩⟩
  ·obtain ⟨k1, rfl⟩ : ∃ k1, gk = k1 + 1 := ⟨gk - 1, by omega⟩; have hm0 : ∀ w : World, (method 145 67 (.agg #[]) "umpire/capture.name").run Tryd.prog w = .ok (130, .agg #[]) w := fun _ => by kernel_rfl
   have hcq := bc1 HK; have hv : ((1 : Nat) : Int) = 1 := rfl
   simp only [hv]
   have c0 : a0 ≠ 1 := fun h => by have h1 := HL.out; rw [h] at h1; exact absurd h1 (by decide)
   by_cases c1 : a0 = 2
   ·subst c1
    go_wp2_with (fail)
    refine (D8.b8N.calls _).mono ?_; rintro e w1 ⟨rfl, hb⟩; have HB1 := U9 HB hb; clear hb
    go_wp2_with (fail)
    go_ret
    exact ⟨rfl, HB1.out⟩
   ·have c1b : ((2 : Int) == a0) = false := by simpa using (fun h => c1 h.symm)
    go_wp2_with (fail)
    refine (D8.b8N.calls _).mono ?_; rintro e w1 ⟨rfl, hb⟩; have HB1 := U9 HB hb; have HK1 := X4 HK hb; clear hb HK HB hcq
    go_wp2_with (fail)
    go_roundg k1
    case measure => omega
    case rel => exact ⟨2, by omega, rfl, ⟨⟨HK1.out, HB1.out, by unfold D8.at; rw [if_neg c0, if_neg c1]; omega⟩⟩⟩
  ·have hv : ((2 : Nat) : Int) = 2 := rfl
   simp only [hv]
   have EA : Aside0 (D8.at a0 = 2) := ⟨by have h := HL.out; unfold D8.at at h ⊢; revert h; split; (intro h; omega); split <;> omega⟩
   go_wp2_with (fail)
   go_ret
   exact ⟨by rw [EA.out]; rfl, HB.out⟩
theorem b4C (v : Value) (w : World) : (Instr.typeAssert (.iface 65 v) 62 65 true).run Tryd.prog w = .ok (.tuple #[v, .bool true]) w := by
 simp [Instr.typeAssert, run_underlying Tryd.underlying65, go_sem, Result.andThen]
theorem b29 (v : Value) (w : World) : (Instr.typeAssert (.iface 67 v) 62 65 true).run Tryd.prog w = .ok (.tuple #[.agg #[], .bool false]) w := by
 simp [Instr.typeAssert, run_underlying Tryd.underlying65, go_sem, Result.andThen]
theorem b3a (w : World) : (Instr.typeAssert .nilIface 62 65 true).run Tryd.prog w = .ok (.tuple #[.agg #[], .bool false]) w := by
 simp [Instr.typeAssert, run_underlying Tryd.underlying65, go_sem, Result.andThen]
theorem b4D (v : Value) (w : World) : (Instr.typeAssert (.iface 67 v) 62 67 true).run Tryd.prog w = .ok (.tuple #[v, .bool true]) w := by
 simp [Instr.typeAssert, run_underlying Tryd.underlying67, go_sem, Result.andThen]
theorem b3b (v : Value) (w : World) : (Instr.typeAssert (.iface 65 v) 62 67 true).run Tryd.prog w = .ok (.tuple #[.agg #[], .bool false]) w := by
 simp [Instr.typeAssert, run_underlying Tryd.underlying67, go_sem, Result.andThen]
theorem b3c (w : World) : (Instr.typeAssert .nilIface 62 67 true).run Tryd.prog w = .ok (.tuple #[.agg #[], .bool false]) w := by
 simp [Instr.typeAssert, run_underlying Tryd.underlying67, go_sem, Result.andThen]
theorem b9r (v : Value) (w : World) : (Instr.typeAssert (.iface 65 v) 62 65 false).run Tryd.prog w = .ok v w := by
 simp [Instr.typeAssert, run_underlying Tryd.underlying65, go_sem, Result.andThen]
mutual
def X3.j0 : Nat → List Int → Bool → Bool → Option (Int × Bool)
 | 0, _, _, _ => none
 | k + 1, x0, x1, x16 => if x16 = true then (some (0, false)) else (X3.l0 k x0 x1 0 (x0.length : Int) 0)
def X3.l0 : Nat → List Int → Bool → Int → Int → Int → Option (Int × Bool)
 | 0, _, _, _, _, _ => none
 | k + 1, x0, x1, x6, x18, x19 => if x19 < x18 then (if 0 ≤ (wrap64 ((wrap64 ((x0.length : Int) - 1)) - x19)) then (if (wrap64 ((wrap64 ((x0.length : Int) - 1)) - x19)) < (x0.length : Int) then (if x1 = true then (if 0 ≤ x19 then (if x19 < (x0.length : Int) then (X3.l0 k x0 x1 (Go.bits .or .u64 (IntKind.u64.wrap (x6 * 256)) (IntKind.u64.wrap (rd x0 x19))) x18 (wrap64 (x19 + 1))) else (none)) else (none)) else (X3.l0 k x0 x1 (Go.bits .or .u64 (IntKind.u64.wrap (x6 * 256)) (IntKind.u64.wrap (rd x0 (wrap64 ((wrap64 ((x0.length : Int) - 1)) - x19))))) x18 (wrap64 (x19 + 1)))) else (none)) else (none)) else (some (x6, true))
end
def X3.f (k : Nat) (l0 : List Int) (a1 : Bool) : Option (Int × Bool) := if (l0.length : Int) < 1 then (X3.j0 k l0 a1 true) else (X3.j0 k l0 a1 (decide ((l0.length : Int) > 8)))
theorem X3.calls (k : Nat) (A0 : Option Addr) (c0 : Nat) (l0 : List Int) (a1 : Bool) (r1 : Int) (r2 : Bool) (w : World) (hr0 : Kd.C (Kd.int .u8) w A0 l0.length l0) (hc0 : l0.length ≤ c0) (h : X3.f k l0 a1 = some (r1, r2)) :
  Calls Tryd.prog 83 #[.slice A0 l0.length c0, .bool a1] w fun e w' => e = .returned (.tuple #[.int .u64 r1, .bool r2]) ∧ F8 w w' := by
 have HR0 := a_ hr0
 have HC0 := a_ hc0
 clear hr0 hc0
 have H := h
 clear h
 unfold X3.f at H
 have HC3 := a_ H
 clear H
 go_enter Tryd.func83, Tryd.ntmps83
 go_upto_region 1 with (fail)
 go_cut [16] (fun v16 wc => ∃ (kq : Nat) (d0w : Bool), v16 = .bool d0w ∧ Aside0 (X3.j0 kq l0 a1 d0w = some (r1, r2)) ∧ Aside0 (kq ≤ k) ∧ F8 w wc)
 case first =>
  have H := HC3.out; clear HC3
  by_cases c4 : (l0.length : Int) < 1
  ·rw [if_pos c4] at H; have a4d := dt_ c4; have b1R : decide (l0.length < 1) = true := dt_ (by omega); clear c4; have H' := a_ H; clear H
   go_wp2
   go_meet
   case rel => exact ⟨_, (true), (by rfl), H', ⟨by (omega)⟩, by exact F8.refl _⟩
  ·rw [if_neg c4] at H; have a4d := df_ c4; have b1R : decide (l0.length < 1) = false := df_ (by omega); clear c4; have H' := a_ H; clear H
   go_wp2
   go_meet
   case rel => exact ⟨_, (decide ((l0.length : Int) > 8)), (by rfl), H', ⟨by (omega)⟩, by exact F8.refl _⟩
 case rest =>
  clear HC3; obtain ⟨kq, d0w, rfl, HA, HJ2, ⟨mc2, rfl⟩⟩ := hcut
  cases kq with
  | zero => exact absurd HA.out (by simp [X3.j0])
  | succ kj2 =>
   have H := HA.out; clear HA
   simp only [X3.j0] at H
   by_cases c5 : d0w = true
   ·subst c5; rw [if_pos rfl] at H; obtain ⟨rfl, rfl⟩ := s2_ H
    go_wp2
    go_ret2
    exact ⟨by (rfl), by repeat (first | exact F8.refl _ | apply F8.step)⟩
   ·cases nt_ c5
    rw [if_neg a3S] at H; have H' := a_ H; clear H
    go_wp2
    go_loopg [6, 19] kj2 (fun kq v6 v19 w' => ∃ (b3R : Int) (b3l : Int), v6 = .int .u64 b3R ∧ v19 = .int .i64 b3l ∧ Aside0 (X3.l0 kq l0 a1 b3R (l0.length : Int) b3l = some (r1, r2)) ∧ Aside0 (kq ≤ kj2) ∧ F8 w w')
    case atStart => exact ⟨(0), (0), (by rfl), (by rfl), H', ⟨Nat.le_refl _⟩, by repeat (first | exact F8.refl _ | apply F8.step)⟩
    case round =>
     clear H'; obtain ⟨b3R, b3l, rfl, rfl, HA, HK2, ⟨m2, rfl⟩⟩ := hrel
     cases gk with
     | zero => exact absurd HA.out (by simp [X3.l0])
     | succ k2 =>
      have H := HA.out; clear HA
      simp only [X3.l0] at H
      by_cases c6 : b3l < (l0.length : Int)
      ·rw [if_pos c6] at H; have a8h := dt_ c6; clear c6; obtain ⟨ji7, f3K⟩ := si_ ((wrap64 ((wrap64 ((l0.length : Int) - 1)) - b3l))); rw [f3K] at H; have g7H : (IntKind.i64.wrap ((wrap64 ((l0.length : Int) - 1)) - b3l)) = ji7 := (a0I _).trans f3K; have b1u := a2z H; replace H := O5 H; have b1v := a2z H; replace H := O5 H
       by_cases c10 : a1 = true
       ·subst c10; rw [if_pos rfl] at H; have a7B := a2z H; replace H := O5 H; have a9S := a2z H; replace H := O5 H; have H' := a_ H; clear H; obtain ⟨e3X, e7L, e1z, g3D, g3E⟩ := d2l HR0 (ji7) V9 V9
        cases e7L
        obtain ⟨f3L, e152, f9f, h1p, h1q⟩ := d2l HR0 b3l V9 V9; obtain rfl : e3X = f3L := (by injection e152)
        go_wp2
        go_roundg k2
        case measure => have := HJ2.out; have := HK2.out; omega
        case rel => exact ⟨(Go.bits .or .u64 (IntKind.u64.wrap (b3R * 256)) (IntKind.u64.wrap (rd l0 b3l))), (wrap64 (b3l + 1)), (by rfl), (by rfl), H', ⟨by have := HJ2.out; have := HK2.out; omega⟩, by repeat (first | exact F8.refl _ | apply F8.step)⟩
       ·cases nt_ c10
        rw [if_neg a3S] at H; have H' := a_ H; clear H; obtain ⟨e3X, e7L, e1z, g3D, g3E⟩ := d2l HR0 (ji7) V9 V9
        cases e7L
        go_wp2
        go_roundg k2
        case measure => have := HJ2.out; have := HK2.out; omega
        case rel => exact ⟨(Go.bits .or .u64 (IntKind.u64.wrap (b3R * 256)) (IntKind.u64.wrap (rd l0 (ji7)))), (wrap64 (b3l + 1)), (by rfl), (by rfl), H', ⟨by have := HJ2.out; have := HK2.out; omega⟩, by repeat (first | exact F8.refl _ | apply F8.step)⟩
      ·rw [if_neg c6] at H; have a8h := df_ c6; clear c6; obtain ⟨rfl, rfl⟩ := s2_ H
       go_wp2
       go_ret2
       exact ⟨by (rfl), by repeat (first | exact F8.refl _ | apply F8.step)⟩
structure y8.Inv (W : World) (base : Nat) (A : Option Addr) (n c : Nat) (big : Bool) (at_ : Int) (gb ga gg : Nat) : Prop where
 hb : W.heap[gb]? = some (.cells #[.slice A n c] 22 (0, 0))
 ha : W.heap[ga]? = some (.cells #[.int .i64 at_] 3 (0, 0))
 hg : W.heap[gg]? = some (.cells #[.bool big] 4 (0, 0))
 lb : base ≤ gb
 la : base ≤ ga
 lg : base ≤ gg
theorem y8.Inv.keep {W W1 : World} {base : Nat} {A : Option Addr} {n c : Nat} {big : Bool} {at_ : Int} {gb ga gg : Nat} (h : y8.Inv W base A n c big at_ gb ga gg) {g : Nat} (hk : a00 W W1 g none) (h1 : gb ≠ g) (h2 : ga ≠ g) (h3 : gg ≠ g) : y8.Inv W1 base A n c big at_ gb ga gg :=
 ⟨hk.blk h.hb h1 (by simp), hk.blk h.ha h2 (by simp), hk.blk h.hg h3 (by simp), h.lb, h.la, h.lg⟩
theorem y8.Inv.below {W W1 : World} {base : Nat} {A : Option Addr} {n c : Nat} {big : Bool} {at_ : Int} {gb ga gg : Nat} (h : y8.Inv W base A n c big at_ gb ga gg) (hb : Below W.heap.size W W1) : y8.Inv W1 base A n c big at_ gb ga gg :=
 ⟨J7 h.hb hb, J7 h.ha hb, J7 h.hg hb, h.lb, h.la, h.lg⟩
theorem y8.Inv.far {W : World} {base : Nat} {A : Option Addr} {n c : Nat} {big : Bool} {at_ : Int} {gb ga gg : Nat} (h : y8.Inv W base A n c big at_ gb ga gg) {p : Addr} (h1 : gb ≠ p.block) (h2 : ga ≠ p.block) (h3 : gg ≠ p.block) (u : Value) : y8.Inv (W.setCell p u) base A n c big at_ gb ga gg :=
 ⟨o8 h.hb h1 u, o8 h.ha h2 u, o8 h.hg h3 u, h.lb, h.la, h.lg⟩
theorem y8.Inv.lower {W : World} {base base' : Nat} {A : Option Addr} {n c : Nat} {big : Bool} {at_ : Int} {gb ga gg : Nat} (h : y8.Inv W base A n c big at_ gb ga gg) (hb : base' ≤ base) : y8.Inv W base' A n c big at_ gb ga gg :=
 ⟨h.hb, h.ha, h.hg, Nat.le_trans hb h.lb, Nat.le_trans hb h.la, Nat.le_trans hb h.lg⟩
theorem y8.Inv.go {W : World} {base : Nat} {A : Option Addr} {n c : Nat} {big : Bool} {at_ at' : Int} {gb ga gg : Nat} (h : y8.Inv W base A n c big at_ gb ga gg) (nd : Nat) :
  y8.Inv ((W.drewN nd).setCell ⟨ga, 0, none⟩ (.int .i64 at')) base A n c big at' gb ga gg ∧ a00 W ((W.drewN nd).setCell ⟨ga, 0, none⟩ (.int .i64 at')) ga none ∧ (∀ w0 : World, Below w0.heap.size w0 W → w0.heap.size ≤ ga → Below w0.heap.size w0 ((W.drewN nd).setCell ⟨ga, 0, none⟩ (.int .i64 at'))) := by
 have n1 : gb ≠ ga := a6u h.hb h.ha (by decide)
 have n3 : gg ≠ ga := a6u h.hg h.ha (by decide)
 refine ⟨⟨o8 (p := ⟨ga, 0, none⟩) (Y6 h.hb nd) n1 _, l9 (Y6 h.ha nd) 0 _ rfl, o8 (p := ⟨ga, 0, none⟩) (Y6 h.hg nd) n3 _, h.lb, h.la, h.lg⟩, ?_, fun w0 hb hl => o7 (o9 hb nd) hl⟩
 exact (a00.of_below (o9 (Below.refl _ _) nd) ga none).e9s 0 _
theorem y8.calls (A : Option Addr) (n c : Nat) (big : Bool) (w : World) :
  Calls Tryd.prog 79 #[.slice A n c, .bool big] w fun e w' => ∃ gb ga gg, e = .returned (.func (.func 95) #[] #[.pointer (some ⟨gb, 0, none⟩), .pointer (some ⟨ga, 0, none⟩), .pointer (some ⟨gg, 0, none⟩)]) ∧ y8.Inv w' w.heap.size A n c big 0 gb ga gg ∧ Below w.heap.size w w' := by
 go_enter Tryd.func79, Tryd.ntmps79
 go_wp2
 go_ret
 refine ⟨w.heap.size, w.heap.size + 1 + 1, w.heap.size + 1, rfl, ⟨a9H (a9H (b0n w _) _) _, ?_, ?_, by omega, by omega, by omega⟩, a0z (a0z (a0z (Below.refl _ _) _) _) _⟩
 ·have h := b0n ((w.alloc (.cells #[.slice A n c] 22)).alloc (.cells #[.bool big] 4)) (.cells #[.int .i64 0] 3)
  simpa using h
 ·refine a9H ?_ _; have h := b0n (w.alloc (.cells #[.slice A n c] 22)) (.cells #[.bool big] 4)
  simpa using h
def y8.num (k : Nat) (l : List Int) (big : Bool) (at_ size : Int) : Option Int := (X3.f k ((l.take (at_ + size).toNat).drop at_.toNat) big).bind fun t => some (t.1 % 4294967296)
theorem y8.next (k : Nat) (A : Option Addr) (l : List Int) (c : Nat) (big : Bool) (at_ size : Int) (r : Int) (base gb ga gg : Nat) (W : World) (hI : y8.Inv W base A l.length c big at_ gb ga gg) (hC : Kd.C (Kd.int .u8) W A l.length l) (hc : l.length ≤ c) (h0 : 0 ≤ at_) (h1 : 0 ≤ size) (h2 : at_ + size ≤ l.length) (h : y8.num k l big at_ size = some r) :
  Calls Tryd.prog 95 #[.int .i64 size, .pointer (some ⟨gb, 0, none⟩), .pointer (some ⟨ga, 0, none⟩), .pointer (some ⟨gg, 0, none⟩)] W fun e w' => e = .returned (.int .u32 r) ∧ y8.Inv w' base A l.length c big (at_ + size) gb ga gg ∧ a00 W w' ga none ∧ (∀ w0 : World, Below w0.heap.size w0 W → w0.heap.size ≤ ga → Below w0.heap.size w0 w') := by
 obtain ⟨⟨t1, t2⟩, hg, hr⟩ := Option.bind_eq_some_iff.1 h
 have hr' : t1 % 4294967296 = r := oj_ hr
 have hm := hC.2.1
 have hc1 : W.cell? ⟨gb, 0, none⟩ = some (.slice A l.length c) := (D6 hI.hb 0).trans rfl
 have hc2 : W.cell? ⟨ga, 0, none⟩ = some (.int .i64 at_) := (D6 hI.ha 0).trans rfl
 have hc3 : W.cell? ⟨gg, 0, none⟩ = some (.bool big) := (D6 hI.hg 0).trans rfl
 have hf2 : W.frozen? ⟨ga, 0, none⟩ = false := l7 hI.ha 0
 obtain ⟨i0, hi0, _, hsz, _⟩ := info_parts info5
 obtain ⟨A8, hcut, hA8, hC8⟩ := a5t (P := Tryd.prog) (Value.int .u8) 0 22 5 .i64 .i64 Tryd.underlying22 hi0 hsz A c l at_ (at_ + size) h0 (by omega) h2 hc
 have HR := a_ (Kd.Y8 (h1 := fun _ => rfl) (hA8 _ (Kd.Y2 hC)))
 have HC := a_ hC8
 have HG := a_ hg
 have HE := a_ hr'
 have HI := a_ hI
 have hlen : ((l.take (at_ + size).toNat).drop at_.toNat).length = (at_ + size).toNat - at_.toNat := by
  rw [List.length_drop, List.length_take]
  omega
 have e1f : Aside0 (∀ a : Nat, Calls Tryd.prog 83 #[.slice A8 ((at_ + size).toNat - at_.toNat) (c - at_.toNat), .bool big] (W.drewN a) fun e w' => e = .returned (.tuple #[.int .u64 t1, .bool t2]) ∧ ∃ m, w' = W.drewN m) := ⟨fun a => by
  rw [← hlen]; exact Calls.quiet_of ((X3.calls k _ _ ((l.take (at_ + size).toNat).drop at_.toNat) big t1 t2 _ (Kd.a9b HR.out a) HC.out HG.out).mono fun _ _ h => ⟨h.1, h.2.out⟩)⟩
 have hw : IntKind.i64.wrap (at_ + size) = at_ + size := IntWalk.i64_in _ (by omega)
 clear hI hC hc h hr hr' hg hA8 hC8 hi0 hsz hlen
 go_enter Tryd.func95, Tryd.ntmps95
 go_wp2
 go_quiet ((go_at_call 83; exact e1f.out _))
 go_wp2
 go_ret
 refine ⟨by rw [← HE.out]; rfl, HI.out.go nq⟩
theorem y8.range {k : Nat} {l : List Int} {big : Bool} {at_ size r : Int} (h : y8.num k l big at_ size = some r) : 0 ≤ r ∧ r < 4294967296 := by
 obtain ⟨t, _, hr⟩ := Option.bind_eq_some_iff.1 h
 have := oj_ hr
 omega
def a0E.f (k : Nat) (l0 : List Int) : Option (Bool × Bool × Int × Int × Bool) :=
 (y8.num k l0 false 0 4).bind fun t1 => if t1 = 2712847316 then some (false, false, 0, 0, true) else if t1 = 2712812621 then some (false, true, 0, 0, true) else
  (y8.num k l0 true 0 4).bind fun t2 => if t2 = 2712847316 then some (true, false, 0, 0, true) else if t2 = 2712812621 then some (true, true, 0, 0, true) else some (false, false, 0, 0, false)
def a0E.left (k : Nat) (l0 : List Int) (j : Nat) (r : Bool × Bool × Int × Int × Bool) : Prop :=
 match j with
 | 0 => a0E.f k l0 = some r
 | 1 => ((y8.num k l0 true 0 4).bind fun t2 => if t2 = 2712847316 then some (true, false, 0, 0, true) else if t2 = 2712812621 then some (true, true, 0, 0, true) else some (false, false, 0, 0, false)) = some r
 | _ => (false, false, 0, 0, false) = r
theorem a0E.left_step {k : Nat} {l0 : List Int} {j : Nat} {r : Bool × Bool × Int × Int × Bool} (hj : j < 2) (h : a0E.left k l0 j r) :
  ∃ t, y8.num k l0 (decide (j = 1)) 0 4 = some t ∧ (t = 2712847316 → (decide (j = 1), false, 0, 0, true) = r) ∧ (t ≠ 2712847316 → t = 2712812621 → (decide (j = 1), true, 0, 0, true) = r) ∧ (t ≠ 2712847316 → t ≠ 2712812621 → a0E.left k l0 (j + 1) r) := by
 have hc : j = 0 ∨ j = 1 := by omega
 rcases hc with rfl | rfl
 ·obtain ⟨t, ht, h⟩ := Option.bind_eq_some_iff.1 (show a0E.f k l0 = some r from h); refine ⟨t, ht, fun h1 => ?_, fun h1 h2 => ?_, fun h1 h2 => ?_⟩
  ·rw [if_pos h1] at h; exact oj_ h
  ·rw [if_neg h1, if_pos h2] at h; exact oj_ h
  ·rw [if_neg h1, if_neg h2] at h; exact h
 ·obtain ⟨t, ht, h⟩ := Option.bind_eq_some_iff.1 h; refine ⟨t, ht, fun h1 => ?_, fun h1 h2 => ?_, fun h1 h2 => ?_⟩
  ·rw [if_pos h1] at h; exact oj_ h
  ·rw [if_neg h1, if_pos h2] at h; exact oj_ h
  ·rw [if_neg h1, if_neg h2] at h; exact oj_ h
structure a0E.Round (w W : World) (gq g2 k : Nat) (l0 : List Int) (j : Nat) (r : Bool × Bool × Int × Int × Bool) : Prop where
 hr : W.heap[gq]? = some (.cells #[.bool false, .bool true] 4 (0, 0))
 h2 : W.heap[g2]? = some (.cells #[.bool false, .bool false, .int .u32 0, .int .u32 0] 46 (0, 0))
 hb : Below w.heap.size w W
 hl : a0E.left k l0 j r
theorem a0E.calls (k : Nat) (A0 : Option Addr) (c0 : Nat) (l0 : List Int) (r1 r2 : Bool) (r3 r4 : Int) (r5 : Bool) (w : World) (hr0 : Kd.C (Kd.int .u8) w A0 l0.length l0) (hc0 : l0.length ≤ c0) (h4 : 4 ≤ l0.length) (h : a0E.f k l0 = some (r1, r2, r3, r4, r5)) :
  Calls Tryd.prog 78 #[.slice A0 l0.length c0] w fun e w' => e = .returned (.tuple #[.agg #[.bool r1, .bool r2, .int .u32 r3, .int .u32 r4], .bool r5]) ∧ Below w.heap.size w w' := by
 have huM := Tryd.underlying46
 have HR0 := a_ hr0
 have HC0 := a_ hc0
 have HW := a_ (Below.refl w.heap.size w)
 have HF := a_ (show a0E.left k l0 0 (r1, r2, r3, r4, r5) from h)
 have H4 := a_ h4
 clear hr0 hc0 h h4
 go_enter Tryd.func78, Tryd.ntmps78
 go_wp2_with ((refine be_ 2 #[.bool false, .bool false, .int .u32 0, .int .u32 0] 46 ?_; intro g2 hg w1 hbox hb; have BK2 := a_ hbox; have HB1 := U9 HW hb; have GE2 : Aside0 (w.heap.size ≤ g2) := ⟨by rw [hg]; exact Nat.le_refl _⟩; clear hg hbox hb; have b4S := bc0 BK2; have b4T := l7 BK2.out 0; have b4U := bc1 BK2; have b4V := l7 BK2.out 1; have b4W := bc2 BK2; have b4X := l7 BK2.out 2; have b4Y := bc3 BK2; have b4Z := l7 BK2.out 3))
 obtain ⟨gq, hgq⟩ : ∃ gq, gq = w1.heap.size := ⟨_, rfl⟩
 have BR := a_ (b0n w1 (Obj.cells #[.bool false, .bool true] 4))
 have a9k := a_ (a9H BK2.out (Obj.cells #[.bool false, .bool true] 4))
 have HB2 := a_ (a0z HB1.out (Obj.cells #[.bool false, .bool true] 4))
 rw [← hgq] at BR ⊢
 generalize w1.alloc (Obj.cells #[.bool false, .bool true] 4) = w2 at BR a9k HB2 ⊢
 clear hgq BK2 HB1 b4S b4U b4W b4Y b4T b4V b4X b4Z HW
 go_loopg [8] 2 (fun kq v8 w' => ∃ j : Nat, kq + j = 2 ∧ v8 = .int .i64 (j : Int) ∧ Aside0 (a0E.Round w w' gq g2 k l0 j (r1, r2, r3, r4, r5)))
 case atStart => exact ⟨0, rfl, rfl, ⟨⟨BR.out, a9k.out, HB2.out, HF.out⟩⟩⟩
 case round =>
  obtain ⟨j, hj, rfl, HI⟩ := hrel; clear BR a9k HB2 HF; have HK := a_ HI.out.hr; have BK := a_ HI.out.h2; have HB := a_ HI.out.hb; have HL := a_ HI.out.hl; clear HI; obtain ⟨b4S, b4U, b4W, b4Y, b4T, b4V, b4X, b4Z⟩ := blk4 BK.out
  by_cases hlt : j < 2
  ·obtain ⟨t, ht, e1, e2, e3⟩ := a0E.left_step hlt HL.out; obtain ⟨k1, rfl⟩ : ∃ k1, gk = k1 + 1 := ⟨gk - 1, by omega⟩; have HT := a_ ht; have E1 := a_ e1; have E2 := a_ e2; have E3 := a_ e3; clear ht e1 e2 e3 HL
   rcases (show j = 0 ∨ j = 1 by omega) with rfl | rfl
   ·have hcq := bc0 HK; have hv : ((0 : Nat) : Int) = 0 := rfl
    simp only [hv]
    go_wp2_with (fail)
    refine (y8.calls A0 l0.length c0 false _).mono ?_; rintro e w3 ⟨gb, ga, gg, rfl, hI, hb⟩; have BK3 := X4 BK hb; have HK3 := X4 HK hb; have HB3 := U9 HB hb; have LA := a_ (Nat.le_trans (y5 HB.out) hI.la); have I3 := a_ (hI.lower (y5 HB.out)); have NB2 : Aside0 (g2 ≠ ga) := ⟨a6u BK3.out hI.ha (by decide)⟩; have NBQ : Aside0 (gq ≠ ga) := ⟨a6u HK3.out hI.ha (by decide)⟩; clear hI hb
    go_wp2_with (fail)
    refine (y8.next k A0 l0 c0 false 0 4 t _ gb ga gg _ I3.out (Kd.C9 HR0.out HB3.out) HC0.out (by omega) (by omega) (by have := H4.out; omega) HT.out).mono ?_; rintro e w4 ⟨rfl, hI, hk, hb⟩; have BK4 := a_ (hk.blk BK3.out NB2.out (by simp)); have HK4 := a_ (hk.blk HK3.out NBQ.out (by simp)); have HB4 := a_ (hb w HB3.out LA.out); clear hI hk hb BK3 HK3 HB3 I3; have b8F := bc0 BK4; have b8J := l7 BK4.out 0; have b8G := bc1 BK4; have b8K := l7 BK4.out 1; have b8H := bc2 BK4; have b8L := l7 BK4.out 2; have b8I := bc3 BK4; have b8M := l7 BK4.out 3
    by_cases c1 : t = 2712847316
    ·have c1b : (t == 2712847316) = true := by simpa using c1
     have h : (false, false, (0 : Int), (0 : Int), true) = (r1, r2, r3, r4, r5) := E1.out c1
     simp only [Prod.mk.injEq] at h
     obtain ⟨rfl, rfl, rfl, rfl, rfl⟩ := h; clear E1 E2 E3 c1
     go_wp2_with (fail)
     refine bodyPost_ret (U8 rfl _ _ g2 46 #[.bool false, .bool false, .int .u32 0, .int .u32 0] (0, 0) _ rfl (l9 (l9 (l9 (l9 BK4.out 0 _ rfl) 1 _ rfl) 2 _ rfl) 3 _ rfl) Tryd.underlying46 rfl (by kernel_rfl)) rfl ?_; exact ⟨rfl, by repeat (first | exact HB4.out | refine o7 ?_ GE2.out)⟩
    ·by_cases c2 : t = 2712812621
     ·have c1b : (t == 2712847316) = false := by simpa using c1
      have c2b : (t == 2712812621) = true := by simpa using c2
      have h : (false, true, (0 : Int), (0 : Int), true) = (r1, r2, r3, r4, r5) := E2.out c1 c2
      simp only [Prod.mk.injEq] at h
      obtain ⟨rfl, rfl, rfl, rfl, rfl⟩ := h; clear E1 E2 E3 c1 c2
      go_wp2_with (fail)
      refine bodyPost_ret (U8 rfl _ _ g2 46 #[.bool false, .bool true, .int .u32 0, .int .u32 0] (0, 0) _ rfl (l9 (l9 (l9 (l9 BK4.out 0 _ rfl) 1 _ rfl) 2 _ rfl) 3 _ rfl) Tryd.underlying46 rfl (by kernel_rfl)) rfl ?_; exact ⟨rfl, by repeat (first | exact HB4.out | refine o7 ?_ GE2.out)⟩
     ·have c1b : (t == 2712847316) = false := by simpa using c1
      have c2b : (t == 2712812621) = false := by simpa using c2
      have HL : Aside0 (a0E.left k l0 1 (r1, r2, r3, r4, r5)) := ⟨E3.out c1 c2⟩; clear E1 E2 E3 c1 c2
      go_wp2_with (fail)
      go_roundg k1
      case measure => omega
      case rel => exact ⟨1, by omega, rfl, ⟨⟨HK4.out, BK4.out, HB4.out, HL.out⟩⟩⟩
   ·have hcq := bc1 HK; have hv : ((1 : Nat) : Int) = 1 := rfl
    simp only [hv]
    go_wp2_with (fail)
    refine (y8.calls A0 l0.length c0 true _).mono ?_; rintro e w3 ⟨gb, ga, gg, rfl, hI, hb⟩; have BK3 := X4 BK hb; have HK3 := X4 HK hb; have HB3 := U9 HB hb; have LA := a_ (Nat.le_trans (y5 HB.out) hI.la); have I3 := a_ (hI.lower (y5 HB.out)); have NB2 : Aside0 (g2 ≠ ga) := ⟨a6u BK3.out hI.ha (by decide)⟩; have NBQ : Aside0 (gq ≠ ga) := ⟨a6u HK3.out hI.ha (by decide)⟩; clear hI hb
    go_wp2_with (fail)
    refine (y8.next k A0 l0 c0 true 0 4 t _ gb ga gg _ I3.out (Kd.C9 HR0.out HB3.out) HC0.out (by omega) (by omega) (by have := H4.out; omega) HT.out).mono ?_; rintro e w4 ⟨rfl, hI, hk, hb⟩; have BK4 := a_ (hk.blk BK3.out NB2.out (by simp)); have HK4 := a_ (hk.blk HK3.out NBQ.out (by simp)); have HB4 := a_ (hb w HB3.out LA.out); clear hI hk hb BK3 HK3 HB3 I3; have b8F := bc0 BK4; have b8J := l7 BK4.out 0; have b8G := bc1 BK4; have b8K := l7 BK4.out 1; have b8H := bc2 BK4; have b8L := l7 BK4.out 2; have b8I := bc3 BK4; have b8M := l7 BK4.out 3
    by_cases c1 : t = 2712847316
    ·have c1b : (t == 2712847316) = true := by simpa using c1
     have h : (true, false, (0 : Int), (0 : Int), true) = (r1, r2, r3, r4, r5) := E1.out c1
     simp only [Prod.mk.injEq] at h
     obtain ⟨rfl, rfl, rfl, rfl, rfl⟩ := h; clear E1 E2 E3 c1
     go_wp2_with (fail)
     refine bodyPost_ret (U8 rfl _ _ g2 46 #[.bool true, .bool false, .int .u32 0, .int .u32 0] (0, 0) _ rfl (l9 (l9 (l9 (l9 BK4.out 0 _ rfl) 1 _ rfl) 2 _ rfl) 3 _ rfl) Tryd.underlying46 rfl (by kernel_rfl)) rfl ?_; exact ⟨rfl, by repeat (first | exact HB4.out | refine o7 ?_ GE2.out)⟩
    ·by_cases c2 : t = 2712812621
     ·have c1b : (t == 2712847316) = false := by simpa using c1
      have c2b : (t == 2712812621) = true := by simpa using c2
      have h : (true, true, (0 : Int), (0 : Int), true) = (r1, r2, r3, r4, r5) := E2.out c1 c2
      simp only [Prod.mk.injEq] at h
      obtain ⟨rfl, rfl, rfl, rfl, rfl⟩ := h; clear E1 E2 E3 c1 c2
      go_wp2_with (fail)
      refine bodyPost_ret (U8 rfl _ _ g2 46 #[.bool true, .bool true, .int .u32 0, .int .u32 0] (0, 0) _ rfl (l9 (l9 (l9 (l9 BK4.out 0 _ rfl) 1 _ rfl) 2 _ rfl) 3 _ rfl) Tryd.underlying46 rfl (by kernel_rfl)) rfl ?_; exact ⟨rfl, by repeat (first | exact HB4.out | refine o7 ?_ GE2.out)⟩
     ·have c1b : (t == 2712847316) = false := by simpa using c1
      have c2b : (t == 2712812621) = false := by simpa using c2
      have HL : Aside0 (a0E.left k l0 2 (r1, r2, r3, r4, r5)) := ⟨E3.out c1 c2⟩; clear E1 E2 E3 c1 c2
      go_wp2_with (fail)
      go_roundg k1
      case measure => omega
      case rel => exact ⟨2, by omega, rfl, ⟨⟨HK4.out, BK4.out, HB4.out, HL.out⟩⟩⟩
  ·obtain rfl : j = 2 := by omega
   have h : (false, false, (0 : Int), (0 : Int), false) = (r1, r2, r3, r4, r5) := HL.out
   simp only [Prod.mk.injEq] at h
   obtain ⟨rfl, rfl, rfl, rfl, rfl⟩ := h; have hv : ((2 : Nat) : Int) = 2 := rfl
   simp only [hv]
   clear HL
   go_wp2_with (fail)
   refine bodyPost_ret (U8 rfl _ _ g2 46 #[.bool false, .bool false, .int .u32 0, .int .u32 0] (0, 0) _ rfl (l9 (l9 (l9 (l9 BK.out 0 _ rfl) 1 _ rfl) 2 _ rfl) 3 _ rfl) Tryd.underlying46 rfl (by kernel_rfl)) rfl ?_; exact ⟨rfl, by repeat (first | exact HB.out | refine o7 ?_ GE2.out)⟩
def a6l.f (k : Nat) (l0 : List Int) : Option (Bool × Bool × Int × Int × Int) :=
 if (l0.length : Int) < 4 then some (false, false, 0, 0, 2) else
 (a0E.f k l0).bind fun o => if o.2.2.2.2 = false then some (false, false, 0, 0, 3) else if (l0.length : Int) < 24 then some (false, false, 0, 0, 2) else
  (y8.num k (l0.drop 4) o.1 0 2).bind fun t1 => if t1 ≠ 2 then some (false, false, 0, 0, 3) else
   (y8.num k (l0.drop 4) o.1 2 2).bind fun _ => (y8.num k (l0.drop 4) o.1 4 4).bind fun _ => (y8.num k (l0.drop 4) o.1 8 4).bind fun _ => (y8.num k (l0.drop 4) o.1 12 4).bind fun t5 => (y8.num k (l0.drop 4) o.1 16 4).bind fun t6 => some (o.1, o.2.1, t5, t6, 0)
theorem a6l.calls (k : Nat) (A0 : Option Addr) (c0 : Nat) (l0 : List Int) (r1 r2 : Bool) (r3 r4 : Int) (r5 : Int) (w : World) (hr0 : Kd.C (Kd.int .u8) w A0 l0.length l0) (hc0 : l0.length ≤ c0) (h : a6l.f k l0 = some (r1, r2, r3, r4, r5)) :
  Calls Tryd.prog 61 #[.slice A0 l0.length c0] w fun e w' => e = .returned (.tuple #[.agg #[.bool r1, .bool r2, .int .u32 r3, .int .u32 r4], .int .i64 r5]) ∧ Below w.heap.size w w' := by
 have huM := Tryd.underlying46
 unfold a6l.f at h
 have HR0 := a_ hr0
 have HC0 := a_ hc0
 have HW := a_ (Below.refl w.heap.size w)
 by_cases c1 : (l0.length : Int) < 4
 ·rw [if_pos c1] at h
  simp only [Option.some.injEq, Prod.mk.injEq] at h
  obtain ⟨rfl, rfl, rfl, rfl, rfl⟩ := h; have c1b := dt_ c1; clear c1 hr0 hc0
  go_enter Tryd.func61, Tryd.ntmps61
  go_wp2_with ((refine be_ 2 #[.bool false, .bool false, .int .u32 0, .int .u32 0] 46 ?_; intro g2 hg w1 hbox hb; have BK2 := a_ hbox; have HB1 := U9 HW hb; have GE2 : Aside0 (w.heap.size ≤ g2) := ⟨by rw [hg]; exact Nat.le_refl _⟩; clear hg hbox hb; have b4S := bc0 BK2; have b4T := l7 BK2.out 0; have b4U := bc1 BK2; have b4V := l7 BK2.out 1; have b4W := bc2 BK2; have b4X := l7 BK2.out 2; have b4Y := bc3 BK2; have b4Z := l7 BK2.out 3))
  refine bodyPost_ret (U8 rfl _ _ g2 46 #[.bool false, .bool false, .int .u32 0, .int .u32 0] (0, 0) _ rfl (l9 (l9 (l9 (l9 BK2.out 0 _ rfl) 1 _ rfl) 2 _ rfl) 3 _ rfl) Tryd.underlying46 rfl (by kernel_rfl)) rfl ?_; exact ⟨rfl, by repeat (first | with_reducible exact HB1.out | with_reducible refine o7 ?_ GE2.out)⟩
 ·rw [if_neg c1] at h; obtain ⟨⟨o1, o2, o3, o4, o5⟩, ho, h⟩ := Option.bind_eq_some_iff.1 h
  dsimp only at h
  have c1b := df_ c1; have h4 : 4 ≤ l0.length := by omega
  have H4 := a_ h4; have HO := a_ ho; have H := a_ h; clear c1 hr0 hc0 h4 ho h
  go_enter Tryd.func61, Tryd.ntmps61
  go_wp2_with ((refine be_ 2 #[.bool false, .bool false, .int .u32 0, .int .u32 0] 46 ?_; intro g2 hg w1 hbox hb; have BK2 := a_ hbox; have HB1 := U9 HW hb; have GE2 : Aside0 (w.heap.size ≤ g2) := ⟨by rw [hg]; exact Nat.le_refl _⟩; clear hg hbox hb; have b4S := bc0 BK2; have b4T := l7 BK2.out 0; have b4U := bc1 BK2; have b4V := l7 BK2.out 1; have b4W := bc2 BK2; have b4X := l7 BK2.out 2; have b4Y := bc3 BK2; have b4Z := l7 BK2.out 3))
  refine (a0E.calls k A0 c0 l0 o1 o2 o3 o4 o5 _ (Kd.C9 HR0.out HB1.out) HC0.out H4.out HO.out).mono ?_; rintro e w2 ⟨rfl, hb2⟩; have a9k := X4 BK2 hb2; have HB2 := U9 HB1 hb2; clear hb2 BK2 HB1; have h := H.out
  cases o5 with
  | false =>
   rw [if_pos rfl] at h
   simp only [Option.some.injEq, Prod.mk.injEq] at h
   obtain ⟨rfl, rfl, rfl, rfl, rfl⟩ := h; clear H; have g3H := a9k
   go_wp2_with ((refine be_ 4 #[.bool false, .bool false, .int .u32 0, .int .u32 0] 46 ?_; intro g4 hg w3 hbox hb; have BK4 := a_ hbox; have GE4 : Aside0 (w.heap.size ≤ g4) := ⟨by rw [hg]; exact y5 HB2.out⟩; have NB : Aside0 (g2 ≠ g4) := ⟨by rw [hg]; exact Nat.ne_of_lt (a0t a9k.out)⟩; have a3x := X4 a9k hb; have HB3 := U9 HB2 hb; clear hg hbox hb a9k HB2; have b8F := bc0 BK4; have b8J := l7 BK4.out 0; have b8G := bc1 BK4; have b8K := l7 BK4.out 1; have b8H := bc2 BK4; have b8L := l7 BK4.out 2; have b8I := bc3 BK4; have b8M := l7 BK4.out 3; have c7k := bc0 a3x; have c7l := l7 a3x.out 0; have c7m := bc1 a3x; have c7n := l7 a3x.out 1; have c7o := bc2 a3x; have c7p := l7 a3x.out 2; have c7q := bc3 a3x; have c7r := l7 a3x.out 3; have n24 : g2 ≠ g4 := NB.out; have n42 : g4 ≠ g2 := NB.out.symm))
   refine bodyPost_ret (U8 rfl _ _ g2 46 #[.bool false, .bool false, .int .u32 0, .int .u32 0] (0, 0) _ rfl (by refine l9 (cs := #[.bool false, .bool false, .int .u32 0, .int .u32 0]) ?_ 3 _ rfl; refine l9 (cs := #[.bool false, .bool false, .int .u32 0, .int .u32 0]) ?_ 2 _ rfl; refine l9 (cs := #[.bool false, .bool false, .int .u32 0, .int .u32 0]) ?_ 1 _ rfl; refine l9 (cs := #[.bool false, .bool false, .int .u32 0, .int .u32 0]) ?_ 0 _ rfl; repeat (first | with_reducible exact a3x.out | refine o8 ?_ NB.out _)) Tryd.underlying46 rfl (by kernel_rfl)) rfl ?_; exact ⟨rfl, by repeat (first | with_reducible exact HB3.out | with_reducible refine o7 ?_ GE2.out | with_reducible refine o7 ?_ GE4.out)⟩
  | true =>
   simp only [Bool.true_eq_false, if_false] at h
   by_cases c2 : (l0.length : Int) < 24
   ·rw [if_pos c2] at h
    simp only [Option.some.injEq, Prod.mk.injEq] at h
    obtain ⟨rfl, rfl, rfl, rfl, rfl⟩ := h; have c2b := dt_ c2; clear H c2
    go_wp2_with ((refine be_ 4 #[.bool false, .bool false, .int .u32 0, .int .u32 0] 46 ?_; intro g4 hg w3 hbox hb; have BK4 := a_ hbox; have GE4 : Aside0 (w.heap.size ≤ g4) := ⟨by rw [hg]; exact y5 HB2.out⟩; have NB : Aside0 (g2 ≠ g4) := ⟨by rw [hg]; exact Nat.ne_of_lt (a0t a9k.out)⟩; have a3x := X4 a9k hb; have HB3 := U9 HB2 hb; clear hg hbox hb a9k HB2; have b8F := bc0 BK4; have b8J := l7 BK4.out 0; have b8G := bc1 BK4; have b8K := l7 BK4.out 1; have b8H := bc2 BK4; have b8L := l7 BK4.out 2; have b8I := bc3 BK4; have b8M := l7 BK4.out 3; have c7k := bc0 a3x; have c7l := l7 a3x.out 0; have c7m := bc1 a3x; have c7n := l7 a3x.out 1; have c7o := bc2 a3x; have c7p := l7 a3x.out 2; have c7q := bc3 a3x; have c7r := l7 a3x.out 3; have n24 : g2 ≠ g4 := NB.out; have n42 : g4 ≠ g2 := NB.out.symm))
    refine bodyPost_ret (U8 rfl _ _ g2 46 #[.bool false, .bool false, .int .u32 0, .int .u32 0] (0, 0) _ rfl (by refine l9 (cs := #[.bool false, .bool false, .int .u32 0, .int .u32 0]) ?_ 3 _ rfl; refine l9 (cs := #[.bool false, .bool false, .int .u32 0, .int .u32 0]) ?_ 2 _ rfl; refine l9 (cs := #[.bool false, .bool false, .int .u32 0, .int .u32 0]) ?_ 1 _ rfl; refine l9 (cs := #[.bool false, .bool false, .int .u32 0, .int .u32 0]) ?_ 0 _ rfl; repeat (first | with_reducible exact a3x.out | refine o8 ?_ NB.out _)) Tryd.underlying46 rfl (by kernel_rfl)) rfl ?_; exact ⟨rfl, by repeat (first | with_reducible exact HB3.out | with_reducible refine o7 ?_ GE2.out | with_reducible refine o7 ?_ GE4.out)⟩
   ·rw [if_neg c2] at h; have c2b := df_ c2; obtain ⟨t1, q1, h⟩ := Option.bind_eq_some_iff.1 h; obtain ⟨i0, hi0, _, hsz, _⟩ := info_parts info5; obtain ⟨A8, hcut, hA8, hC8⟩ := a0N (P := Tryd.prog) (Value.int .u8) 0 22 5 .i64 Tryd.underlying22 hi0 hsz A0 c0 l0 4 (by omega) (by omega) HC0.out; have HR8 := ci_ (Kd.Y8 (h1 := fun _ => rfl) (hA8 _ (Kd.Y2 HR0.out))); have hl4 : (l0.drop (4 : Int).toNat).length = l0.length - 4 := List.length_drop ..; have HL4 : Aside0 (20 ≤ ((l0.drop (4 : Int).toNat).length : Int)) := ⟨by omega⟩; have HC8 := a_ hC8; have T1 : Aside0 (y8.num k (l0.drop (4 : Int).toNat) o1 0 2 = some t1) := ⟨q1⟩; have H : Aside0 ((if t1 ≠ 2 then some (false, false, 0, 0, 3) else
   (y8.num k (l0.drop (4 : Int).toNat) o1 2 2).bind fun _ => (y8.num k (l0.drop (4 : Int).toNat) o1 4 4).bind fun _ => (y8.num k (l0.drop (4 : Int).toNat) o1 8 4).bind fun _ => (y8.num k (l0.drop (4 : Int).toNat) o1 12 4).bind fun t5 => (y8.num k (l0.drop (4 : Int).toNat) o1 16 4).bind fun t6 => some (o1, o2, t5, t6, 0)) = some (r1, r2, r3, r4, r5)) := ⟨h⟩
    clear h q1 hl4 hA8 hC8 hi0 hsz c2; generalize l0.drop (4 : Int).toNat = l4 at hcut HR8 HL4 HC8 T1 H; generalize c0 - (4 : Int).toNat = c8 at hcut HC8
    go_wp2_with ((refine be_ 4 #[.bool false, .bool false, .int .u32 0, .int .u32 0] 46 ?_; intro g4 hg w3 hbox hb; have BK4 := a_ hbox; have GE4 : Aside0 (w.heap.size ≤ g4) := ⟨by rw [hg]; exact y5 HB2.out⟩; have NB : Aside0 (g2 ≠ g4) := ⟨by rw [hg]; exact Nat.ne_of_lt (a0t a9k.out)⟩; have a3x := X4 a9k hb; have HB3 := U9 HB2 hb; clear hg hbox hb a9k HB2; have b8F := bc0 BK4; have b8J := l7 BK4.out 0; have b8G := bc1 BK4; have b8K := l7 BK4.out 1; have b8H := bc2 BK4; have b8L := l7 BK4.out 2; have b8I := bc3 BK4; have b8M := l7 BK4.out 3; have c7k := bc0 a3x; have c7l := l7 a3x.out 0; have c7m := bc1 a3x; have c7n := l7 a3x.out 1; have c7o := bc2 a3x; have c7p := l7 a3x.out 2; have c7q := bc3 a3x; have c7r := l7 a3x.out 3; have n24 : g2 ≠ g4 := NB.out; have n42 : g4 ≠ g2 := NB.out.symm))
    generalize hW : World.setCell (World.setCell (World.setCell (World.setCell w3 ⟨g4, 0, none⟩ (.bool o1)) ⟨g4, 1, none⟩ (.bool o2)) ⟨g4, 2, none⟩ (.int .u32 o3)) ⟨g4, 3, none⟩ (.int .u32 o4) = w3b; have e7O : Aside0 (w3b.heap[g4]? = some (.cells #[.bool o1, .bool o2, .int .u32 o3, .int .u32 o4] 46 (0, 0))) := ⟨by rw [← hW]; exact (l9 (l9 (l9 (l9 BK4.out 0 _ rfl) 1 _ rfl) 2 _ rfl) 3 _ rfl)⟩; have d2r : Aside0 (w3b.heap[g2]? = some (.cells #[.bool false, .bool false, .int .u32 0, .int .u32 0] 46 (0, 0))) := ⟨by rw [← hW]; repeat (first | with_reducible exact a3x.out | refine o8 ?_ NB.out _)⟩; have e1A : Aside0 (Below w.heap.size w w3b) := ⟨by rw [← hW]; repeat (first | with_reducible exact HB3.out | with_reducible refine o7 ?_ GE4.out)⟩; clear hW BK4 a3x HB3 b8F b8J c7k c7l b8G b8K c7m c7n b8H b8L c7o c7p b8I b8M c7q c7r; have f3M := bc0 e7O
    go_region_held (fun w' => w'.cell? ⟨g4, 0, none⟩ = some (.bool o1)) (first | exact f3N | exact f3M) (with_reducible refine (y8.calls A8 l4.length c8 o1 _).mono ?_;  rintro e w4 ⟨gb, ga, gg, rfl, hI, hb⟩; have b43 := a_ (J7 (G8 e7O.out) hb); have d6a := a_ (J7 (G8 d2r.out) hb); have HB4 := a_ (J4 (Y9 e1A.out) hb); have LA := a_ (Nat.le_trans (y5 (Y9 e1A.out)) hI.la); have I4 := a_ (hI.lower (y5 (Y9 e1A.out))); have N2 : Aside0 (g2 ≠ ga) := ⟨a6u d6a.out hI.ha (by decide)⟩; have N4 : Aside0 (g4 ≠ ga) := ⟨a6u b43.out hI.ha (by decide)⟩; have Nb : Aside0 (gb ≠ g4) := ⟨a6u hI.hb b43.out (by decide)⟩; have Na : Aside0 (ga ≠ g4) := ⟨N4.out.symm⟩; have Ng : Aside0 (gg ≠ g4) := ⟨a6u hI.hg b43.out (by decide)⟩; clear hI hb e7O d2r e1A; have f3N := bc0 b43)
    go_wp2_with (fail)
    refine (y8.next k A8 l4 c8 o1 0 2 t1 w.heap.size gb ga gg _ I4.out (Kd.C9 HR8.out (by repeat (with_reducible exact HB4.out))) HC8.out (by omega) (by omega) (by have := HL4.out; omega) T1.out).mono ?_; rintro e w5 ⟨rfl, hI, hk, hb⟩; have a9Z := a_ (hk.blk b43.out N4.out (by simp)); have a9i := a_ (hk.blk d6a.out N2.out (by simp)); have HB5 := a_ (hb w (by repeat (with_reducible exact HB4.out)) LA.out); have I5 : Aside0 (y8.Inv w5 w.heap.size A8 l4.length c8 o1 2 gb ga gg) := ⟨hI⟩; clear hI hk hb b43 d6a HB4 I4; have g3J := bc0 a9Z; have g3K := l7 a9Z.out 0; have g3L := bc1 a9Z; have g3M := l7 a9Z.out 1; have g3N := bc2 a9Z; have g3O := l7 a9Z.out 2; have g3P := bc3 a9Z; have g3Q := l7 a9Z.out 3; have g3R := bc0 a9i; have g3S := l7 a9i.out 0; have g3T := bc1 a9i; have g3U := l7 a9i.out 1; have g3V := bc2 a9i; have g3W := l7 a9i.out 2; have g3X := bc3 a9i; have g3Y := l7 a9i.out 3; have h := H.out
    by_cases c5 : t1 = 2
    ·rw [if_neg (by simpa using c5)] at h; obtain ⟨t2, q2, h⟩ := Option.bind_eq_some_iff.1 h; obtain ⟨t3, q3, h⟩ := Option.bind_eq_some_iff.1 h; obtain ⟨t4, q4, h⟩ := Option.bind_eq_some_iff.1 h; obtain ⟨t5, q5, h⟩ := Option.bind_eq_some_iff.1 h; obtain ⟨t6, q6, h⟩ := Option.bind_eq_some_iff.1 h
     simp only [Option.some.injEq, Prod.mk.injEq] at h
     obtain ⟨rfl, rfl, rfl, rfl, rfl⟩ := h; have T2 := a_ q2; have T3 := a_ q3; have T4 := a_ q4; have T5 := a_ q5; have T6 := a_ q6; have c5b : (t1 == 2) = true := by simpa using c5
     have c5c : (t1 != 2) = false := by simpa using c5
     clear q2 q3 q4 q5 q6 c5 H
     go_wp2_with (fail)
     refine (y8.next k A8 l4 c8 o1 2 2 t2 w.heap.size gb ga gg _ I5.out (Kd.C9 HR8.out (by repeat (with_reducible exact HB5.out))) HC8.out (by omega) (by omega) (by have := HL4.out; omega) T2.out).mono ?_; rintro e w6 ⟨rfl, hI, hk, hb⟩; have a90 := a_ (hk.blk a9Z.out N4.out (by simp)); have b3m := a_ (hk.blk a9i.out N2.out (by simp)); have HB6 := a_ (hb w (by repeat (with_reducible exact HB5.out)) LA.out); have I6 : Aside0 (y8.Inv w6 w.heap.size A8 l4.length c8 o1 4 gb ga gg) := ⟨hI⟩; clear hI hk hb a9Z a9i HB5 I5; have g3Z := bc0 a90; have g30 := l7 a90.out 0; have g31 := bc1 a90; have g32 := l7 a90.out 1; have g33 := bc2 a90; have g34 := l7 a90.out 2; have g35 := bc3 a90; have g36 := l7 a90.out 3; have g37 := bc0 b3m; have g38 := l7 b3m.out 0; have g39 := bc1 b3m; have g4a := l7 b3m.out 1; have g4b := bc2 b3m; have g4c := l7 b3m.out 2; have g4d := bc3 b3m; have g4e := l7 b3m.out 3
     go_wp2_with (fail)
     refine (y8.next k A8 l4 c8 o1 4 4 t3 w.heap.size gb ga gg _ I6.out (Kd.C9 HR8.out (by repeat (with_reducible exact HB6.out))) HC8.out (by omega) (by omega) (by have := HL4.out; omega) T3.out).mono ?_; rintro e w7 ⟨rfl, hI, hk, hb⟩; have a5K := a_ (hk.blk a90.out N4.out (by simp)); have b0Z := a_ (hk.blk b3m.out N2.out (by simp)); have HB7 := a_ (hb w (by repeat (with_reducible exact HB6.out)) LA.out); have I7 : Aside0 (y8.Inv w7 w.heap.size A8 l4.length c8 o1 8 gb ga gg) := ⟨hI⟩; clear hI hk hb a90 b3m HB6 I6; have g4f := bc0 a5K; have g4g := l7 a5K.out 0; have g4h := bc1 a5K; have g4i := l7 a5K.out 1; have g4j := bc2 a5K; have g4k := l7 a5K.out 2; have g4l := bc3 a5K; have g4m := l7 a5K.out 3; have g4n := bc0 b0Z; have g4o := l7 b0Z.out 0; have g4p := bc1 b0Z; have g4q := l7 b0Z.out 1; have g4r := bc2 b0Z; have g4s := l7 b0Z.out 2; have g4t := bc3 b0Z; have g4u := l7 b0Z.out 3
     go_wp2_with (fail)
     refine (y8.next k A8 l4 c8 o1 8 4 t4 w.heap.size gb ga gg _ I7.out (Kd.C9 HR8.out (by repeat (with_reducible exact HB7.out))) HC8.out (by omega) (by omega) (by have := HL4.out; omega) T4.out).mono ?_; rintro e w8 ⟨rfl, hI, hk, hb⟩; have a3w := a_ (hk.blk a5K.out N4.out (by simp)); have b3n := a_ (hk.blk b0Z.out N2.out (by simp)); have HB8 := a_ (hb w (by repeat (with_reducible exact HB7.out)) LA.out); have I8 : Aside0 (y8.Inv w8 w.heap.size A8 l4.length c8 o1 12 gb ga gg) := ⟨hI⟩; clear hI hk hb a5K b0Z HB7 I7; have e7A := bc0 a3w; have e7B := l7 a3w.out 0; have e7C := bc1 a3w; have e7D := l7 a3w.out 1; have e7E := bc2 a3w; have e7F := l7 a3w.out 2; have e7G := bc3 a3w; have e7H := l7 a3w.out 3; have e7a := bc0 b3n; have e7b := l7 b3n.out 0; have e7c := bc1 b3n; have e7d := l7 b3n.out 1; have e7e := bc2 b3n; have e7f := l7 b3n.out 2; have e7g := bc3 b3n; have e7h := l7 b3n.out 3
     go_wp2_with (fail)
     refine (y8.next k A8 l4 c8 o1 12 4 t5 w.heap.size gb ga gg _ I8.out (Kd.C9 HR8.out (by repeat (with_reducible exact HB8.out))) HC8.out (by omega) (by omega) (by have := HL4.out; omega) T5.out).mono ?_; rintro e w9 ⟨rfl, hI, hk, hb⟩; have b3o := a_ (hk.blk a3w.out N4.out (by simp)); have a9Y := a_ (hk.blk b3n.out N2.out (by simp)); have HB9 := a_ (hb w (by repeat (with_reducible exact HB8.out)) LA.out); have I9 : Aside0 (y8.Inv w9 w.heap.size A8 l4.length c8 o1 16 gb ga gg) := ⟨hI⟩; clear hI hk hb a3w b3n HB8 I8; have d5Y := bc0 b3o; have d5Z := l7 b3o.out 0; have d50 := bc1 b3o; have d51 := l7 b3o.out 1; have d52 := bc2 b3o; have d53 := l7 b3o.out 2; have d54 := bc3 b3o; have d55 := l7 b3o.out 3; have g4v := bc0 a9Y; have g4w := l7 a9Y.out 0; have g4x := bc1 a9Y; have g4y := l7 a9Y.out 1; have g4z := bc2 a9Y; have g4A := l7 a9Y.out 2; have g4B := bc3 a9Y; have g4C := l7 a9Y.out 3
     go_wp2_with (fail)
     refine (y8.next k A8 l4 c8 o1 16 4 t6 w.heap.size gb ga gg _ (by repeat (first | exact I9.out | refine y8.Inv.far ?_ Nb.out Na.out Ng.out _)) (Kd.C9 HR8.out (by repeat (first | with_reducible exact HB9.out | with_reducible refine o7 ?_ GE4.out))) HC8.out (by omega) (by omega) (by have := HL4.out; omega) T6.out).mono ?_; rintro e w10 ⟨rfl, hI, hk, hb⟩; have b1S := a_ (hk.blk (o := .cells #[.bool o1, .bool o2, .int .u32 t5, .int .u32 o4] 46 (0, 0)) (g' := g4) (l9 b3o.out 2 _ rfl) N4.out (by simp)); have a4w := a_ (hk.blk (o := .cells #[.bool false, .bool false, .int .u32 0, .int .u32 0] 46 (0, 0)) (g' := g2) (by exact o8 (p := ⟨g4, 2, none⟩) a9Y.out NB.out _) N2.out (by simp)); have a6Q := a_ (hb w (by repeat (first | with_reducible exact HB9.out | with_reducible refine o7 ?_ GE4.out)) LA.out); have I10 : Aside0 (y8.Inv w10 w.heap.size A8 l4.length c8 o1 20 gb ga gg) := ⟨hI⟩; clear hI hk hb b3o a9Y HB9 I9; have g4D := bc0 b1S; have g4E := l7 b1S.out 0; have g4F := bc1 b1S; have g4G := l7 b1S.out 1; have g4H := bc2 b1S; have g4I := l7 b1S.out 2; have g4J := bc3 b1S; have g4K := l7 b1S.out 3; have g4L := bc0 a4w; have g4M := l7 a4w.out 0; have g4N := bc1 a4w; have g4O := l7 a4w.out 1; have g4P := bc2 a4w; have g4Q := l7 a4w.out 2; have g4R := bc3 a4w; have g4S := l7 a4w.out 3; have n24 : g2 ≠ g4 := NB.out; have n42 : g4 ≠ g2 := NB.out.symm
     go_wp2_with (fail)
     have E2 := a_ (o8 (p := ⟨g4, 3, none⟩) a4w.out NB.out (.int .u32 t6)); refine bodyPost_ret (U8 rfl _ _ g2 46 #[.bool o1, .bool o2, .int .u32 t5, .int .u32 t6] (0, 0) _ rfl (l9 (l9 (l9 (l9 E2.out 0 _ rfl) 1 _ rfl) 2 _ rfl) 3 _ rfl) Tryd.underlying46 rfl (by kernel_rfl)) rfl ?_; exact ⟨rfl, by repeat (first | with_reducible exact a6Q.out | with_reducible refine o7 ?_ GE2.out | with_reducible refine o7 ?_ GE4.out)⟩
    ·rw [if_pos (by simpa using c5)] at h
     simp only [Option.some.injEq, Prod.mk.injEq] at h
     obtain ⟨rfl, rfl, rfl, rfl, rfl⟩ := h; have c5b : (t1 == 2) = false := by simpa using c5
     have c5c : (t1 != 2) = true := by simpa using c5
     clear c5 H; have n24 : g2 ≠ g4 := NB.out; have n42 : g4 ≠ g2 := NB.out.symm
     go_wp2_with (fail)
     refine bodyPost_ret (U8 rfl _ _ g2 46 #[.bool false, .bool false, .int .u32 0, .int .u32 0] (0, 0) _ rfl (l9 (l9 (l9 (l9 a9i.out 0 _ rfl) 1 _ rfl) 2 _ rfl) 3 _ rfl) Tryd.underlying46 rfl (by kernel_rfl)) rfl ?_; exact ⟨rfl, by repeat (first | with_reducible exact HB5.out | with_reducible refine o7 ?_ GE2.out)⟩
def O9.f (l0 : List Int) : Option (List Int) := if l0.length < 140737488355328 then some l0 else none
theorem O9.calls (A0 : Option Addr) (c0 : Nat) (l0 : List Int) (r : List Int) (w : World) (hr0 : Kd.C (Kd.int .u8) w A0 l0.length l0) (hc0 : l0.length ≤ c0) (h : O9.f l0 = some r) :
  Calls Tryd.prog 96 #[.slice A0 l0.length c0] w fun e w' => ∃ v0_ : Value, e = .returned (v0_) ∧ Kd.R (Kd.int .u8) 5 w' w.heap.size (fun _ => True) v0_ r ∧ Below w.heap.size w w' := by
 obtain ⟨hl, rfl⟩ : l0.length < 140737488355328 ∧ l0 = r := by
  unfold O9.f at h
  split at h
  ·exact ⟨by assumption, oj_ h⟩
  ·cases h
 have HR0 := a_ hr0
 have HB := a_ (Below.refl w.heap.size w)
 have HL := a_ hl
 clear h hl
 cases A0 with
 | none =>
  obtain rfl : l0 = [] := by
   rcases Nat.eq_zero_or_pos l0.length with h0 | h0
   ·exact List.eq_nil_of_length_eq_zero h0
   ·obtain ⟨ad, e, _⟩ := hr0.2.2 h0
    cases e
  clear hr0 HL HR0; have hnil := fun W : World => Go.Lib.run_eql_slice_nil (P := Tryd.prog) W 22 5 none 0 c0 0 0 Tryd.underlying22
  simp only [List.length_nil]
  go_enter Tryd.func96, Tryd.ntmps96
  go_wp2
  go_ret
  exact ⟨_, rfl, Kd.Y1 _ _ _ _ _, HB.out⟩
 | some ad0 =>
  clear hr0; have hnil := fun W : World => Go.Lib.run_eql_slice_nil (P := Tryd.prog) W 22 5 (some ad0) l0.length c0 0 0 Tryd.underlying22
  go_enter Tryd.func96, Tryd.ntmps96
  go_wp2_with (first | (refine c6z .u8 5 5 ([] : List Int) ?_; intro g4T w3 ho4 hb; have e3Z := rl_ ho4 HB; replace HB := U9 HB hb; clear hb ho4) | ((with_reducible refine E5 (b := .append) (xs := #[.tmp 5, .tmp 6]) rfl ?_); at_builtin; refine Kd.P8 (Kd.int .u8) (w0 := w) w.heap.size rfl (.tmp 5) (.tmp 6) 22 5 (.int .u8 0) 1 rfl Tryd.underlying22 info5 rfl (by decide) (by omega) g4T ([] : List Int) l0 _ _ _ (fun _ => True) (fun _ => False) rfl rfl ?aO ?aR (fun _ _ h => h) (fun _ h => h.elim) ?aF ?aB ?aS ?aL ?_; (case aR => exact (Kd.C9 HR0.out HB.out)); (case aB => exact HB.out); (case aF => exact (fun _ _ => trivial)); (case aO => exact e3Z.out); (case aS => exact (y5 HB.out)); (case aL => have := HL.out; simp only [List.length_nil]; omega); intro v117 w5 ho hb hg hat; have f3O := a_ ho; replace HB := a_ hb; clear e3Z ho hb hg hat))
  go_ret
  exact ⟨_, rfl, f3O.out, HB.out⟩
def a2M.f (a0 : Bool) : Option (Int) := if a0 = true then (some 4) else (some 2)
theorem a2M.calls (a0 : Bool) (r : Int) (w : World) (h : a2M.f a0 = some r) :
  Calls Tryd.prog 105 #[.bool a0] w fun e w' => e = .returned (.int .i64 r) ∧ F8 w w' := by
 have H := h
 clear h
 unfold a2M.f at H
 by_cases c2 : a0 = true
 ·subst c2; rw [if_pos rfl] at H; obtain rfl := oj_ H
  go_enter Tryd.func105, Tryd.ntmps105
  go_wp2
  go_ret
  exact ⟨by (rfl), by exact F8.refl _⟩
 ·cases nt_ c2
  rw [if_neg a3S] at H; obtain rfl := oj_ H
  go_enter Tryd.func105, Tryd.ntmps105
  go_wp2
  go_ret
  exact ⟨by (rfl), by exact F8.refl _⟩
end Go.Proofs.YtgnonglkibhnhaaDoor.Print
