-- laid together by this session's own program (wip/tools/merge.py) of texts that its program laid
import Derived.Test.YtgnonglkibhnhaaDoorM1
namespace Go.Proofs.YtgnonglkibhnhaaDoor.Print
open Go.RowKit Go.Proofs.YtgnonglkibhnhaaDoorW.PrintWords Go.Proofs.YtgnonglkibhnhaaDoorW.PrintLast Go.Proofs.YtgnonglkibhnhaaDoorW.PrintMore
attribute [local go_sem] a0d a0e a0V a0W X5 X6 a0f a0g
set_option linter.unusedVariables false
set_option linter.unusedSimpArgs false
set_option maxHeartbeats 16000000
set_option maxRecDepth 100000
def Y0.stp (p reg c : Int) : Int := Go.bits .xor .u32 (reg / 256) (G5.a8x p 8 (Go.bits .xor .u8 (reg % 256) c))
def Y0.f (a0 : Int) (l1 : List Int) (a2 : Bool) : Option (Int) := (a2Y.f a2).bind fun m => some (l1.foldl (Y0.stp (G5.by a2)) (Go.bits .and .u32 a0 m))
theorem Y0.at_ {w0 W : World} {B : Nat} {p : Int} (h : G5.Inv w0 W B p 256) (i : Int) (h0 : 0 ≤ i) (h1 : i < 256) : W.cell? ⟨B, i.toNat, none⟩ = some (.int .u32 (G5.a8x p 8 i)) := by
 obtain ⟨cs, g1, g2, g3, g4, g5⟩ := h.out
 obtain ⟨j, rfl⟩ := Int.eq_ofNat_of_zero_le h0
 exact (D8 g1 j).trans (g3 j (by omega))
theorem Y0.snoc (p r0 : Int) (l : List Int) (j : Nat) (h : j < l.length) : (l.take (j + 1)).foldl (Y0.stp p) r0 = Y0.stp p ((l.take j).foldl (Y0.stp p) r0) (rd l (j : Int)) := by
 unfold rd
 rw [List.take_succ_eq_append_getElem h, List.foldl_append]
 simp [h]
theorem Y0.range (a b : Int) : 0 ≤ Go.bits .xor .u8 a b ∧ Go.bits .xor .u8 a b < 256 := by
 unfold Go.bits
 simp only [IntKind.wrap_u8]
 omega
theorem Y0.calls (a0 : Int) (A1 : Option Addr) (c1 : Nat) (l1 : List Int) (a2 : Bool) (r : Int) (w : World) (hr1 : Kd.C (Kd.int .u8) w A1 l1.length l1) (hc1 : l1.length ≤ c1) (h : Y0.f a0 l1 a2 = some r) :
  Calls Tryd.prog 109 #[.int .u32 a0, .slice A1 l1.length c1, .bool a2] w fun e w' => e = .returned (.int .u32 r) ∧ Below w.heap.size w w' := by
 obtain ⟨m, hm, hr⟩ : ∃ m, a2Y.f a2 = some m ∧ l1.foldl (Y0.stp (G5.by a2)) (Go.bits .and .u32 a0 m) = r := by
  unfold Y0.f at h
  cases e : a2Y.f a2 with
  | none => rw [e] at h; cases h
  | some m => rw [e] at h; exact ⟨m, rfl, oj_ h⟩
 have HR := a_ hr
 have HC := a_ hr1
 have HN := a_ hr1.2.1
 clear h hr hr1
 go_enter Tryd.func109, Tryd.ntmps109
 go_wp2_with fail
 refine (a2Y.calls a2 m _ hm).mono ?_
 rintro e w1 ⟨rfl, ⟨nd, rfl⟩⟩
 by_cases hl : l1 = []
 ·subst hl; have hlen : (([] : List Int).length : Int) = 0 := rfl
  go_wp2
  go_ret
  refine ⟨by rw [← HR.out]; rfl, ?_⟩; exact y5 (Below.refl _ _) nd
 ·have hlen : ¬ (l1.length : Int) = 0 := by
   intro h0; exact hl (List.eq_nil_of_length_eq_zero (by omega))
  go_wp2_with fail
  refine (G5.calls a2 _).mono ?_; rintro e w2 ⟨B, rfl, hI⟩; have HI := a_ hI; clear hI
  go_wp2
  go_loopg [22, 0] l1.length (fun kq v22 v0 w' => ∃ j : Nat, Aside0 (kq + j = l1.length) ∧ v22 = .int .i64 (j : Int) ∧ v0 = .int .u32 ((l1.take j).foldl (Y0.stp (G5.by a2)) (Go.bits .and .u32 a0 m)) ∧ Aside0 (G5.Inv (w.drewN nd) w' B (G5.by a2) 256))
  case atStart => exact ⟨0, ⟨rfl⟩, rfl, rfl, HI⟩
  case round =>
   obtain ⟨j, HJ, rfl, rfl, HI⟩ := hrel; have hj := HJ.out; have hn := HN.out
   by_cases hlt : j < l1.length
   ·obtain ⟨k1, rfl⟩ : ∃ k1, gk = k1 + 1 := ⟨gk - 1, by omega⟩; have hB : Below w.heap.size w wr := (y5 (Below.refl _ _) nd).trans HI.out.out.choose_spec.2.2.2.1; have p1 : 0 ≤ (j : Int) := by omega
    have q1 : (j : Int) < (l1.length : Int) := by omega
    obtain ⟨ad, e1, hx⟩ := Kd.a0x HC.out (j : Int) p1 q1
    cases e1
    simp only [Int.toNat_natCast] at hx
    replace hx := (hB.cell (World.block_lt_of_cell? w _ hx)).trans hx; have HS := a_ (Y0.snoc (G5.by a2) (Go.bits .and .u32 a0 m) l1 j hlt); generalize hg : (l1.take j).foldl (Y0.stp (G5.by a2)) (Go.bits .and .u32 a0 m) = g at HS ⊢; have i0 : 0 ≤ Go.bits .xor .u8 (g % 256) (rd l1 (j : Int)) := (Y0.range _ _).1; have i1 : Go.bits .xor .u8 (g % 256) (rd l1 (j : Int)) < 256 := (Y0.range _ _).2; have ht := Y0.at_ HI.out _ i0 i1
    go_wp2
    go_roundg k1
    case measure => omega
    case rel => exact ⟨j + 1, ⟨by omega⟩, by go_num, (by rw [HS.out]; rfl), HI⟩
   ·have q1 : ¬ (j : Int) < (l1.length : Int) := by omega
    go_wp2
    go_ret
    refine ⟨by rw [← HR.out, List.take_of_length_le (by omega)]; rfl, ?_⟩; exact (y5 (Below.refl _ _) nd).trans HI.out.out.choose_spec.2.2.2.1
def b1j.f (l0 : List Int) (a1 : Bool) : Option (Int) := (a2Y.f a1).bind fun d3W => ((Y0.f d3W l0 a1).bind fun t212 => ((a2Y.f a1).bind fun t213 => (some (Go.bits .xor .u32 t212 t213))))
theorem b1j.calls (A0 : Option Addr) (c0 : Nat) (l0 : List Int) (a1 : Bool) (r : Int) (w : World) (hr0 : Kd.C (Kd.int .u8) w A0 l0.length l0) (hc0 : l0.length ≤ c0) (h : b1j.f l0 a1 = some r) :
  Calls Tryd.prog 104 #[.slice A0 l0.length c0, .bool a1] w fun e w' => e = .returned (.int .u32 r) ∧ Below w.heap.size w w' := by
 have HR0 := a_ hr0
 have HC0 := a_ hc0
 clear hr0 hc0
 have HB := a_ (Below.refl w.heap.size w)
 have H := h
 clear h
 unfold b1j.f at H
 obtain ⟨d3W, A3, H⟩ := bd_ H
 try dsimp only at H
 obtain ⟨t212, A4, H⟩ := bd_ H
 try dsimp only at H
 obtain ⟨t213, A5, H⟩ := bd_ H
 try dsimp only at H
 obtain rfl := oj_ H
 go_enter Tryd.func104, Tryd.ntmps104
 go_wp2_with (first | (refine gl_ (some 6) Tryd.func110 #[.bool a1] ?_; (with_reducible refine (a2Y.calls a1 d3W _ A3.out).mono ?_); rintro e w' ⟨rfl, ⟨nd, rfl⟩⟩; refine ⟨_, rfl, ?_⟩) | (refine gl_ (some 9) Tryd.func109 #[.int .u32 d3W, .slice A0 l0.length c0, .bool a1] ?_; (with_reducible refine (Y0.calls d3W _ _ l0 a1 t212 _ ?U1 ?U2 A4.out).mono ?_); (case U1 => exact HR0.out); (case U2 => exact HC0.out); rintro e w6 ⟨rfl, hb⟩; refine ⟨_, rfl, ?_⟩; replace HB := a_ (L8 (by repeat (with_reducible first | exact HB.out | apply y5)) hb); (try clear hb)) | (refine gl_ (some 11) Tryd.func110 #[.bool a1] ?_; (with_reducible refine (a2Y.calls a1 t213 _ A5.out).mono ?_); rintro e w' ⟨rfl, ⟨nd, rfl⟩⟩; refine ⟨_, rfl, ?_⟩))
 go_ret
 exact ⟨by (rfl), by repeat (with_reducible first | exact HB.out | apply y5)⟩
def N8.f (l0 : List Int) : Option (List Int) := if l0.length < 140737488355328 then some l0 else none
theorem N8.calls (A0 : Option Addr) (c0 : Nat) (l0 : List Int) (r : List Int) (w : World) (hr0 : Kd.C (Kd.int .u8) w A0 l0.length l0) (hc0 : l0.length ≤ c0) (h : N8.f l0 = some r) :
  Calls Tryd.prog 96 #[.slice A0 l0.length c0] w fun e w' => ∃ v0_ : Value, e = .returned (v0_) ∧ Kd.R (Kd.int .u8) 5 w' w.heap.size (fun _ => True) v0_ r ∧ Below w.heap.size w w' := by
 obtain ⟨hl, rfl⟩ : l0.length < 140737488355328 ∧ l0 = r := by
  unfold N8.f at h
  split at h
  ·exact ⟨by assumption, oj_ h⟩
  ·cases h
 have HR0 := a_ hr0
 have HB := a_ (Below.refl w.heap.size w)
 have HL := a_ hl
 clear h hl
 cases A0 with
 | none =>
  obtain rfl : l0 = [] := by
   rcases Nat.eq_zero_or_pos l0.length with h0 | h0
   ·exact List.eq_nil_of_length_eq_zero h0
   ·obtain ⟨ad, e, _⟩ := hr0.2.2 h0
    cases e
  clear hr0 HL HR0; have hnil := fun W : World => Go.Lib.run_eql_slice_nil (P := Tryd.prog) W 22 5 none 0 c0 0 0 Tryd.underlying22
  simp only [List.length_nil]
  go_enter Tryd.func96, Tryd.ntmps96
  go_wp2
  go_ret
  exact ⟨_, rfl, Kd.Y4 _ _ _ _ _, HB.out⟩
 | some ad0 =>
  clear hr0; have hnil := fun W : World => Go.Lib.run_eql_slice_nil (P := Tryd.prog) W 22 5 (some ad0) l0.length c0 0 0 Tryd.underlying22
  go_enter Tryd.func96, Tryd.ntmps96
  go_wp2_with (first | (refine b6t .u8 5 5 ([] : List Int) ?_; intro g1B w3 ho4 hb; have e0Y := rl_ ho4 HB; replace HB := Q8 HB hb; clear hb ho4) | ((with_reducible refine D6 (b := .append) (xs := #[.tmp 5, .tmp 6]) rfl ?_); at_builtin; refine Kd.G9 (Kd.int .u8) (w0 := w) w.heap.size rfl (.tmp 5) (.tmp 6) 22 5 (.int .u8 0) 1 rfl Tryd.underlying22 info5 rfl (by decide) (by omega) g1B ([] : List Int) l0 _ _ _ (fun _ => True) (fun _ => False) rfl rfl ?aO ?aR (fun _ _ h => h) (fun _ h => h.elim) ?aF ?aB ?aS ?aL ?_; (case aR => exact (Kd.E8 HR0.out HB.out)); (case aB => exact HB.out); (case aF => exact (fun _ _ => trivial)); (case aO => exact e0Y.out); (case aS => exact (o9 HB.out)); (case aL => have := HL.out; simp only [List.length_nil]; omega); intro v117 w5 ho hb hg hat; have e9y := a_ ho; replace HB := a_ hb; clear e0Y ho hb hg hat))
  go_ret
  exact ⟨_, rfl, e9y.out, HB.out⟩
def a1V.l0 : Nat → List Int → Int → Int → Int → Option (List Int)
 | 0, _, _, _, _ => none
 | k + 1, x5, x6, x13, x14 => if x14 < x13 then (if x5.length < 140737488355328 then (a1V.l0 k (x5 ++ [(x6) % 256]) (x6 / 256) x13 (wrap64 (x14 + 1))) else (none)) else (some x5)
def a1V.f (k : Nat) (l0 : List Int) (a1 : Bool) : Option (List Int) := (N8.f l0).bind fun d8m => ((b1j.f l0 a1).bind fun d8n => ((a2j.f a1).bind fun t218 => (a1V.l0 k d8m d8n t218 0)))
theorem a1V.calls (k : Nat) (A0 : Option Addr) (c0 : Nat) (l0 : List Int) (a1 : Bool) (r : List Int) (w : World) (hr0 : Kd.C (Kd.int .u8) w A0 l0.length l0) (hc0 : l0.length ≤ c0) (h : a1V.f k l0 a1 = some r) :
  Calls Tryd.prog 88 #[.slice A0 l0.length c0, .bool a1] w fun e w' => ∃ v0_ : Value, e = .returned (v0_) ∧ Kd.R (Kd.int .u8) 5 w' w.heap.size (fun _ => True) v0_ r ∧ Below w.heap.size w w' := by
 have HR0 := a_ hr0
 have HC0 := a_ hc0
 clear hr0 hc0
 have HB := a_ (Below.refl w.heap.size w)
 have H := h
 clear h
 unfold a1V.f at H
 obtain ⟨d8m, A3, H⟩ := bd_ H
 try dsimp only at H
 obtain ⟨d8n, A4, H⟩ := bd_ H
 try dsimp only at H
 obtain ⟨t218, A5, H⟩ := bd_ H
 try dsimp only at H
 have H' := a_ H
 clear H
 go_enter Tryd.func88, Tryd.ntmps88
 go_wp2_with (first | (refine gl_ (some 8) Tryd.func96 #[.slice A0 l0.length c0] ?_; (with_reducible refine (N8.calls _ _ l0 d8m _ HR0.out HC0.out A3.out).mono ?_); rintro e w6 ⟨g8Q, rfl, ho0, hb⟩; refine ⟨_, rfl, ?_⟩; have d3X := rl_ ho0 HB; replace HB := Q8 HB hb; (try clear hb); (try clear ho0)) | (refine gl_ (some 11) Tryd.func104 #[.slice A0 l0.length c0, .bool a1] ?_; (with_reducible refine (b1j.calls _ _ l0 a1 d8n _ (Kd.E8 HR0.out HB.out) HC0.out A4.out).mono ?_); rintro e w7 ⟨rfl, hb⟩; refine ⟨_, rfl, ?_⟩; replace d3X := rb_ d3X hb; replace HB := Q8 HB hb; (try clear hb)) | (refine gl_ (some 13) Tryd.func105 #[.bool a1] ?_; (with_reducible refine (a2j.calls a1 t218 _ A5.out).mono ?_); rintro e w' ⟨rfl, ⟨nd, rfl⟩⟩; refine ⟨_, rfl, ?_⟩))
 go_loopg [5, 6, 14] k (fun kq v5 v6 v14 w' => ∃ (J7 : List Int) (a0w : Int) (a1i : Int), v6 = .int .u32 a0w ∧ v14 = .int .i64 a1i ∧ Aside0 (a1V.l0 kq J7 a0w t218 a1i = some r) ∧ Aside0 (kq ≤ k) ∧ Aside0 (Kd.R (Kd.int .u8) 5 w' w.heap.size (fun _ => True) v5 J7) ∧ Aside0 (Below w.heap.size w w'))
 case atStart => exact ⟨(d8m), (d8n), (0), (by rfl), (by rfl), H', ⟨Nat.le_refl _⟩, ⟨by (with_reducible repeat (apply Kd.a1Q)); exact d3X.out⟩, ⟨by repeat (with_reducible first | exact HB.out | apply y5)⟩⟩
 case round =>
  clear H'; obtain ⟨J7, a0w, a1i, rfl, rfl, HA, HK1, b0B, HB⟩ := hrel
  cases gk with
  | zero => exact absurd HA.out (by simp [a1V.l0])
  | succ k1 =>
   have H := HA.out; clear HA
   simp only [a1V.l0] at H
   by_cases c8 : a1i < t218
   ·rw [if_pos c8] at H; have a9G := dt_ c8; clear c8; have c9 := X4 H; replace H := O6 H; have d2r := a_ c9; clear c9; obtain ⟨g1C, d3Y⟩ := is_ ((J7 ++ [(a0w) % 256]) : List Int); rw [← d3Y] at H; have e9z := a_ d3Y; clear d3Y; have H' := a_ H; clear H
    go_wp2_with (first | ((with_reducible refine D6 (b := .append) (xs := #[.tmp 16, .tmp 19]) rfl ?_); at_builtin; refine Kd.a1F (Kd.int .u8) (w0 := w) w.heap.size rfl (.tmp 16) (.tmp 19) 22 5 (.int .u8 0) 1 rfl Tryd.underlying22 info5 rfl (by decide) (by omega) u5 J7 ((a0w) % 256) [.int .u8 ((a0w) % 256)] (fun _ => True) (fun _ => False) rfl rfl ?aP (fun _ hk => hk.elim) ?aF ?aO ?aB ?aS ?aL ?_; (case aP => exact rfl); (case aB => exact HB.out); (case aF => exact (fun _ _ => trivial)); (case aO => exact b0B.out); (case aS => exact (o9 HB.out)); (case aL => have := d2r.out; omega); intro g8R w10 ho hb hg hat; rw [← e9z.out] at ho; have e9A := a_ ho; replace HB := a_ hb; clear b0B ho hb hg hat))
    go_roundg k1
    case measure => have := HK1.out; omega
    case rel => exact ⟨(g1C), (a0w / 256), (wrap64 (a1i + 1)), (by rfl), (by rfl), H', ⟨by have := HK1.out; omega⟩, ⟨by exact e9A.out⟩, ⟨by exact HB.out⟩⟩
   ·rw [if_neg c8] at H; have a9G := df_ c8; clear c8; obtain rfl := oj_ H
    go_wp2
    go_ret
    exact ⟨_, by (rfl), by exact b0B.out, by exact HB.out⟩
def a0M.l0 : Nat → Int → Bool → List Int → List (List Int) → Int → Int → Option (List Int × Int)
 | 0, _, _, _, _, _, _ => none
 | k + 1, x1, x2, x8, x12, x13, x14 => if x14 < x13 then (if 0 ≤ x14 then (if x14 < (x12.length : Int) then (if ((a0X x12 x14).length : Int) < 2 then (some (([] : List Int), 1)) else (if ((a0X x12 x14).length : Int) > 65535 then (some (([] : List Int), 4)) else ((a1V.f k (a0X x12 x14) x2).bind fun t226 => ((D9.f t226 x1).bind fun t229 => ((o7.f ([x8, t229, ([126] : List Int)] : List (List Int))).bind fun d8o => (a0M.l0 k x1 x2 d8o x12 x13 (wrap64 (x14 + 1)))))))) else (none)) else (none)) else (some (x8, 0))
def a0M.f (k : Nat) (l0 : List (List Int)) (a1 : Int) (a2 : Bool) : Option (List Int × Int) := a0M.l0 k a1 a2 ([126] : List Int) l0 (l0.length : Int) 0
theorem a0M.calls (k : Nat) (A0 : Option Addr) (c0 : Nat) (l0 : List (List Int)) (a1 : Int) (a2 : Bool) (r1 : List Int) (r2 : Int) (w : World) (hr0 : Kd.C (Kd.slice 5 (Kd.int .u8)) w A0 l0.length l0) (hc0 : l0.length ≤ c0) (h : a0M.f k l0 a1 a2 = some (r1, r2)) :
  Calls Tryd.prog 68 #[.slice A0 l0.length c0, .int .u32 a1, .bool a2] w fun e w' => ∃ v0_ : Value, e = .returned (.tuple #[v0_, .int .i64 r2]) ∧ Kd.R (Kd.int .u8) 5 w' w.heap.size (fun _ => True) v0_ r1 ∧ Below w.heap.size w w' := by
 have HR0 := a_ hr0
 have HC0 := a_ hc0
 clear hr0 hc0
 have HB := a_ (Below.refl w.heap.size w)
 have H := h
 clear h
 unfold a0M.f at H
 obtain ⟨g1D, d3Z⟩ := is_ ([126] : List Int)
 rw [← d3Z] at H
 have e9B := a_ d3Z
 clear d3Z
 have H' := a_ H
 clear H
 go_enter Tryd.func68, Tryd.ntmps68
 go_wp2_with (first | (refine b6t .u8 5 11 ([126] : List Int) ?_; intro g8S w4 ho5 hb; (rw [← e9B.out] at ho5); have e9C := rl_ ho5 HB; replace HB := Q8 HB hb; clear hb ho5))
 go_loopg [8, 14] k (fun kq v8 v14 w' => ∃ (a1h : List Int) (a1i : Int), v14 = .int .i64 a1i ∧ Aside0 (a0M.l0 kq a1 a2 a1h l0 (l0.length : Int) a1i = some (r1, r2)) ∧ Aside0 (kq ≤ k) ∧ Aside0 (Kd.R (Kd.int .u8) 5 w' w.heap.size (fun _ => True) v8 a1h) ∧ Aside0 (Below w.heap.size w w'))
 case atStart => exact ⟨(g1D), (0), (by rfl), H', ⟨Nat.le_refl _⟩, ⟨by exact e9C.out⟩, ⟨by exact HB.out⟩⟩
 case round =>
  clear H'; obtain ⟨a1h, a1i, rfl, HA, HK1, U4, HB⟩ := hrel
  cases gk with
  | zero => exact absurd HA.out (by simp [a0M.l0])
  | succ k1 =>
   have H := HA.out; clear HA
   simp only [a0M.l0] at H
   by_cases c6 : a1i < (l0.length : Int)
   ·rw [if_pos c6] at H; have a5Y := dt_ c6; clear c6; have a5H := a2Q H; replace H := O6 H; have a9G := a2Q H; replace H := O6 H
    by_cases c9 : ((a0X l0 a1i).length : Int) < 2
    ·rw [if_pos c9] at H; have a6P := dt_ c9; have b1o : decide ((a0X l0 a1i).length < 2) = true := dt_ (by omega); clear c9; obtain ⟨rfl, rfl⟩ := s2_ H; have b63 : 0 ≤ (a1i : Int) := U9; have b65 : a1i < (l0.length : Int) := U9; obtain ⟨e0Z, c39, c4a, d30, a7p, a7q, a7r⟩ := a7N HR0.out a1i b63 b65
     cases d30
     replace a7p := J9 HB a7p; have b9x := a_ a7r; have b9y := a_ a7q; clear a7r a7q; replace b63 := eq_true b63; replace b65 := eq_true b65
     go_wp2
     go_ret2
     exact ⟨_, by (rfl), by (exact Kd.Y4 _ _ _ _ _), by exact HB.out⟩
    ·rw [if_neg c9] at H; have a6P := df_ c9; have b1o : decide ((a0X l0 a1i).length < 2) = false := df_ (by omega); clear c9
     by_cases c10 : ((a0X l0 a1i).length : Int) > 65535
     ·rw [if_pos c10] at H; have b2j : decide (65535 < ((a0X l0 a1i).length : Int)) = true := dt_ c10; have c08 : decide (65535 < (a0X l0 a1i).length) = true := dt_ (by omega); clear c10; obtain ⟨rfl, rfl⟩ := s2_ H; have b63 : 0 ≤ (a1i : Int) := U9; have b65 : a1i < (l0.length : Int) := U9; obtain ⟨e0Z, c39, c4a, d30, a7p, a7q, a7r⟩ := a7N HR0.out a1i b63 b65
      cases d30
      replace a7p := J9 HB a7p; have b9x := a_ a7r; have b9y := a_ a7q; clear a7r a7q; replace b63 := eq_true b63; replace b65 := eq_true b65
      go_wp2
      go_ret2
      exact ⟨_, by (rfl), by (exact Kd.Y4 _ _ _ _ _), by exact HB.out⟩
     ·rw [if_neg c10] at H; have b2j : decide (65535 < ((a0X l0 a1i).length : Int)) = false := df_ c10; have c08 : decide (65535 < (a0X l0 a1i).length) = false := df_ (by omega); clear c10; obtain ⟨t226, A11, H⟩ := bd_ H
      (try dsimp only at H); obtain ⟨t229, A12, H⟩ := bd_ H
      (try dsimp only at H); obtain ⟨d31, d32⟩ := is_ ([126] : List Int); rw [← d32] at H; have e9D := a_ d32; clear d32; obtain ⟨e9E, d33⟩ := is_ ([a1h, t229, d31] : List (List Int)); rw [← d33] at H; have e9F := a_ d33; clear d33; obtain ⟨d8o, A13, H⟩ := bd_ H
      (try dsimp only at H); have H' := a_ H; clear H; have b63 : 0 ≤ (a1i : Int) := U9; have b65 : a1i < (l0.length : Int) := U9; obtain ⟨e0Z, c39, c4a, d30, a7p, a7q, a7r⟩ := a7N HR0.out a1i b63 b65
      cases d30
      replace a7p := J9 HB a7p; have b9x := a_ a7r; have b9y := a_ a7q; clear a7r a7q; replace b63 := eq_true b63; replace b65 := eq_true b65
      go_wp2_with (first | (refine gl_ (some 27) Tryd.func88 #[.slice c39 (a0X l0 a1i).length c4a, .bool a2] ?_; (with_reducible refine (a1V.calls k1 _ _ (a0X l0 a1i) a2 t226 _ (Kd.E8 b9x.out HB.out) b9y.out A11.out).mono ?_); rintro e w14 ⟨v227, rfl, ho0, hb⟩; refine ⟨_, rfl, ?_⟩; have a6X := rn_ ho0 U4 HB; replace U4 := rR_ U4 ho0 hb; replace HB := Q8 HB hb; (try clear hb); (try clear ho0); obtain ⟨a8L, a8M, d2J⟩ := Kd.H6 a6X.out; subst d2J) | (refine gl_ (some 29) Tryd.func87 #[.slice a8L t226.length a8M, .int .u32 a1] ?_; (with_reducible refine (D9.calls _ _ t226 a1 t229 _ ((Kd.F9 a6X.out).2.2) ((Kd.F9 a6X.out).2.1) A12.out).mono ?_); rintro e w16 ⟨g8T, rfl, ho0, hb⟩; refine ⟨_, rfl, ?_⟩; have b66 := a_ (Kd.X3 (Kd.a03 (Kd.a03 ho0 (Kd.U8 U4.out)) (Kd.U8 a6X.out)) (o9 HB.out)); replace U4 := rR_ U4 ho0 hb; replace a6X := rR_ a6X ho0 hb; replace HB := Q8 HB hb; (try clear hb); (try clear ho0)) | (refine b6t .u8 5 30 ([126] : List Int) ?_; intro v233 w17 b7D hb; (rw [← e9D.out] at b7D); have c65 := a_ (Kd.X3 (Kd.a03 (Kd.a03 (Kd.a03 b7D (Kd.U8 U4.out)) (Kd.U8 a6X.out)) (Kd.U8 b66.out)) (o9 HB.out)); replace U4 := rR_ U4 b7D hb; replace a6X := rR_ a6X b7D hb; replace b66 := rR_ b66 b7D hb; replace HB := Q8 HB hb; clear hb b7D; obtain ⟨a9j, a9k, d2T⟩ := Kd.H6 U4.out; subst d2T; obtain ⟨b30, b31, d2v⟩ := Kd.H6 b66.out; subst d2v; obtain ⟨b33, b34, c3B⟩ := Kd.H6 c65.out; subst c3B) | ((with_reducible refine N7 (N := 31) rfl ?_); refine Kd.c47 (Kd.slice 5 (Kd.int .u8)) _ 22 ?hg (N' := 31) ?hd (xs := ([a1h, t229, d31] : List (List Int))) (inner := [.slice a9j a1h.length a9k, .slice b30 t229.length b31, .slice b33 d31.length b34]) (ok := (fun k_ => some k_ ≠ (.slice a8L t226.length a8M : Value).ownBlock)) (okp := (fun k_ => some k_ ≠ (.slice a8L t226.length a8M : Value).ownBlock)) ?hr ?hp (fun _ hk => hk) ((show ∀ k_, w17.heap.size ≤ k_ → (fun k_ => some k_ ≠ (.slice a8L t226.length a8M : Value).ownBlock) k_ from fun k_ hk => Kd.fresh' (Kd.U8 a6X.out) k_ hk) _ (Nat.le_refl _)) (Below.refl _ _) (Nat.le_refl _) (by simp) ?_; (case hd => rfl); (case hg => rfl); (case hr => (go_simp; done)); (case hp => exact (J3.one (show Kd.FK (Kd.slice 5 (Kd.int .u8)) _ _ a1h [.slice a9j a1h.length a9k] from (Kd.a3m (Kd.F9 (Kd.y9 (ok' := (fun k_ => some k_ ≠ (.slice a8L t226.length a8M : Value).ownBlock)) (U4.out) (fun k_ hk => hk.1.1.2))).2.1 (Kd.R_F (Kd.y9 (ok' := (fun k_ => some k_ ≠ (.slice a8L t226.length a8M : Value).ownBlock)) (U4.out) (fun k_ hk => hk.1.1.2))))) (J3.one (show Kd.FK (Kd.slice 5 (Kd.int .u8)) _ _ t229 [.slice b30 t229.length b31] from (Kd.a3m (Kd.F9 (Kd.y9 (ok' := (fun k_ => some k_ ≠ (.slice a8L t226.length a8M : Value).ownBlock)) (b66.out) (fun k_ hk => hk.1.2))).2.1 (Kd.R_F (Kd.y9 (ok' := (fun k_ => some k_ ≠ (.slice a8L t226.length a8M : Value).ownBlock)) (b66.out) (fun k_ hk => hk.1.2))))) (J3.one (show Kd.FK (Kd.slice 5 (Kd.int .u8)) _ _ d31 [.slice b33 d31.length b34] from (Kd.a3m (Kd.F9 (Kd.y9 (ok' := (fun k_ => some k_ ≠ (.slice a8L t226.length a8M : Value).ownBlock)) (c65.out) (fun k_ hk => hk.1.2))).2.1 (Kd.R_F (Kd.y9 (ok' := (fun k_ => some k_ ≠ (.slice a8L t226.length a8M : Value).ownBlock)) (c65.out) (fun k_ hk => hk.1.2))))) (J3.none _ _))))); intro v236 w22 c3l hb hg_ V8; clear hg_ V8; (rw [← e9F.out] at c3l); have c1V := a_ (Kd.a6m c3l (o9 HB.out)); replace a6X := rb_ a6X hb; replace HB := Q8 HB hb; clear b66 c65 U4 hb c3l; obtain ⟨b4y, b4z, b8Q⟩ := Kd.a4c c1V.out; subst b8Q) | (refine gl_ (some 32) Tryd.func73 #[.slice b4y e9E.length b4z] ?_; (with_reducible refine (o7.calls _ _ e9E d8o _ ((Kd.X9 c1V.out).2.2) ((Kd.X9 c1V.out).2.1) A13.out).mono ?_); rintro e w25 ⟨g8U, rfl, ho0, hb⟩; refine ⟨_, rfl, ?_⟩; have e9G := rn_ ho0 a6X HB; replace a6X := rR_ a6X ho0 hb; replace c1V := rN_ c1V ho0 hb; replace HB := Q8 HB hb; (try clear hb); (try clear ho0)))
      go_roundg k1
      case measure => have := HK1.out; omega
      case rel => exact ⟨(d8o), (wrap64 (a1i + 1)), (by rfl), H', ⟨by have := HK1.out; omega⟩, ⟨by exact Kd.y9 e9G.out (fun _ hk => trivial)⟩, ⟨by exact HB.out⟩⟩
   ·rw [if_neg c6] at H; have a5Y := df_ c6; clear c6; obtain ⟨rfl, rfl⟩ := s2_ H
    go_wp2
    go_ret2
    exact ⟨_, by (rfl), by exact U4.out, by exact HB.out⟩
def a4K.f (k : Nat) (l0 : List Int) (a1 : Int) (a2 : Bool) : Option (List Int × Int) := (a0M.f k ([l0] : List (List Int)) a1 a2).bind fun e00 => (some (e00.1, e00.2))
theorem a4K.calls (k : Nat) (P0_ : Nat → Prop) (A0 : Option Addr) (c0 : Nat) (l0 : List Int) (a1 : Int) (a2 : Bool) (r1 : List Int) (r2 : Int) (w : World) (hs0 : Kd.V (Kd.int .u8) 5 w w.heap.size (fun k_ => P0_ k_) (.slice A0 l0.length c0) l0) (h : a4K.f k l0 a1 a2 = some (r1, r2)) :
  Calls Tryd.prog 50 #[.slice A0 l0.length c0, .int .u32 a1, .bool a2] w fun e w' => ∃ v0_ : Value, e = .returned (.tuple #[v0_, .int .i64 r2]) ∧ Kd.R (Kd.int .u8) 5 w' w.heap.size (fun k_ => (w.heap.size ≤ k_)) v0_ r1 ∧ Below w.heap.size w w' := by
 have HO0 := a_ (show Kd.V (Kd.int .u8) 5 w w.heap.size (fun k_ => (P0_ k_ ∨ w.heap.size ≤ k_)) (.slice A0 l0.length c0) l0 from Kd.a6f hs0 (fun k_ hk => .inl hk))
 have HB := a_ (Below.refl w.heap.size w)
 have H := h
 clear h
 unfold a4K.f at H
 obtain ⟨e9H, d34⟩ := is_ ([l0] : List (List Int))
 rw [← d34] at H
 have e9I := a_ d34
 clear d34
 obtain ⟨⟨g1E, g1F⟩, A4, H⟩ := bd_ H
 try dsimp only at H
 obtain ⟨rfl, rfl⟩ := s2_ H
 go_enter Tryd.func50, Tryd.ntmps50
 go_wp2_with (first | ((with_reducible refine N7 (N := 9) rfl ?_); refine Kd.c47 (Kd.slice 5 (Kd.int .u8)) _ 22 ?hg (N' := 9) ?hd (xs := ([l0] : List (List Int))) (inner := [.slice A0 l0.length c0]) (ok := (fun k_ => (P0_ k_ ∨ w.heap.size ≤ k_))) (okp := (fun k_ => (P0_ k_ ∨ w.heap.size ≤ k_))) ?hr ?hp (fun _ hk => hk) ((show ∀ k_, w.heap.size ≤ k_ → (fun k_ => (P0_ k_ ∨ w.heap.size ≤ k_)) k_ from fun k_ hk => (.inr (Nat.le_trans (o9 HB.out) hk))) _ (Nat.le_refl _)) (Below.refl _ _) (Nat.le_refl _) (by simp) ?_; (case hd => rfl); (case hg => rfl); (case hr => (go_simp; done)); (case hp => exact (J3.one (show Kd.FK (Kd.slice 5 (Kd.int .u8)) _ _ l0 [.slice A0 l0.length c0] from (Kd.a3m (Kd.c0E (Kd.a6f (ok' := (fun k_ => (P0_ k_ ∨ w.heap.size ≤ k_))) (HO0.out) (fun k_ hk => hk))).2.1 (Kd.V_F (Kd.a6f (ok' := (fun k_ => (P0_ k_ ∨ w.heap.size ≤ k_))) (HO0.out) (fun k_ hk => hk))))) (J3.none _ _))); intro g8V w5 ho6 hb hg_ V8; clear hg_ V8; (rw [← e9I.out] at ho6); have c1W := a_ (Kd.a6m ho6 (o9 HB.out)); replace HO0 := a_ (Kd.a3T HO0.out (Kd.a3q ho6) hb); replace HB := Q8 HB hb; clear hb ho6; obtain ⟨Ao7, co7, eo7⟩ := Kd.a4c c1W.out; subst eo7) | (refine gl_ (some 12) Tryd.func68 #[.slice Ao7 e9H.length co7, .int .u32 a1, .bool a2] ?_; (with_reducible refine (a0M.calls k _ _ e9H a1 a2 g1E g1F _ ((Kd.X9 c1W.out).2.2) ((Kd.X9 c1W.out).2.1) A4.out).mono ?_); rintro e w8 ⟨g8Z, rfl, ho0, hb⟩; refine ⟨_, rfl, ?_⟩; have e9J := a_ (Kd.X3 (Kd.d0N (M := fun k_ => (w.heap.size ≤ k_)) ho0 (o9 HB.out) (fun k_ h_ => h_)) (o9 HB.out)); replace HO0 := a_ (Kd.a3T HO0.out (Kd.a1d ho0) hb); replace c1W := rN_ c1W ho0 hb; replace HB := Q8 HB hb; (try clear hb); (try clear ho0)))
 go_ret2
 exact ⟨_, by (rfl), by exact Kd.y9 e9J.out (fun _ hk => hk.1), by exact HB.out⟩
def a1N.f (a0 : Int) (a1 : Int) : Option (Bool) := if a1 ≥ 1 then (if a1 ≤ 8 then (if a1 = 8 then (some true) else (if 0 ≤ (wrap64 (8 * a1)) then (some ((shr .u64 a0 (wrap64 (8 * a1))) == 0)) else (none))) else (some false)) else (some false)
theorem a1N.calls (a0 : Int) (a1 : Int) (r : Bool) (w : World) (h : a1N.f a0 a1 = some r) :
  Calls Tryd.prog 89 #[.int .u64 a0, .int .i64 a1] w fun e w' => e = .returned (.bool r) ∧ G6 w w' := by
 have H := h
 clear h
 unfold a1N.f at H
 by_cases c3 : a1 ≥ 1
 ·rw [if_pos c3] at H; have a3w : decide (1 ≤ a1) = true := dt_ c3; clear c3
  by_cases c4 : a1 ≤ 8
  ·rw [if_pos c4] at H; have a3x := dt_ c4; clear c4
   by_cases c5 : a1 = 8
   ·rw [if_pos c5] at H; obtain ⟨a7h, b3X⟩ := bt_ c5; clear c5; obtain rfl := oj_ H
    go_enter Tryd.func89, Tryd.ntmps89
    go_wp2
    go_ret
    exact ⟨by (rfl), by exact G6.refl _⟩
   ·rw [if_neg c5] at H; have a7h := bq_ c5; have b3X := bn_ c5; obtain ⟨ji6, d35⟩ := si_ ((wrap64 (8 * a1))); rw [d35] at H; have e9K : (IntKind.i64.wrap (8 * a1)) = ji6 := (a0D _).trans d35; have c7 := X4 H; replace H := O6 H; have a5H := eq_true c7; have b3Y := dt_ c7; clear c7; obtain ⟨ji8, e4p⟩ := si_ ((shr .u64 a0 (ji6))); rw [e4p] at H; have g5r : (a0 / 2 ^ min (ji6).toNat 64) = ji8 := e4p; have g5s : (ji6) ≤ 64 → (a0 / 2 ^ (ji6).toNat) = ji8 := b3J e4p; obtain rfl := oj_ H
    go_enter Tryd.func89, Tryd.ntmps89
    go_wp2
    go_ret
    exact ⟨by (rfl), by exact G6.refl _⟩
  ·rw [if_neg c4] at H; have a3x := df_ c4; clear c4; obtain rfl := oj_ H
   go_enter Tryd.func89, Tryd.ntmps89
   go_wp2
   go_ret
   exact ⟨by (rfl), by exact G6.refl _⟩
 ·rw [if_neg c3] at H; have a3w : decide (1 ≤ a1) = false := df_ c3; clear c3; obtain rfl := oj_ H
  go_enter Tryd.func89, Tryd.ntmps89
  go_wp2
  go_ret
  exact ⟨by (rfl), by exact G6.refl _⟩
def a1g.j0 : Nat → Bool → Int → Int → List Int → Option (Bool)
 | 0, _, _, _, _ => none
 | k + 1, x11, a8Q, b5e, d8p => if x11 = true then (some false) else (if 0 ≤ a8Q then (if a8Q < 8 then (if ((J4 G7 a8Q).f0 = true) then (if b5e = 0 then (some true) else (if ((J4 G7 a8Q).f1) > 0 then ((a1N.f (IntKind.u64.wrap (b5e)) ((J4 G7 a8Q).f1)).bind fun e4q => (some e4q)) else (some false))) else (if (d8p.length : Int) > 0 then (some false) else (if b5e = 0 then (some true) else (if ((J4 G7 a8Q).f1) > 0 then ((a1N.f (IntKind.u64.wrap (b5e)) ((J4 G7 a8Q).f1)).bind fun e4r => (some e4r)) else (some false))))) else (none)) else (none))
def a1g.f (k : Nat) (G8 : Int) (O9 : Int) (U5 : List Int) : Option (Bool) := if G8 < 1 then (a1g.j0 k true G8 O9 U5) else (a1g.j0 k (decide (G8 > 7)) G8 O9 U5)
theorem a1g.calls (k : Nat) (G8 : Int) (O9 : Int) (a3h : Option Addr) (a3i : Nat) (U5 : List Int) (r : Bool) (w : World) (hG0 : Kd.C b1a w (some ⟨0, 0, none⟩) 8 G7) (a4N : Kd.C (Kd.int .u8) w a3h U5.length U5) (a4O : U5.length ≤ a3i) (h : a1g.f k G8 O9 U5 = some r) :
  Calls Tryd.prog 71 #[.agg #[.int .i64 G8, .int .u32 O9, .slice a3h U5.length a3i]] w fun e w' => e = .returned (.bool r) ∧ Below w.heap.size w w' := by
 have c1h := Tryd.underlying58
 have e02 := Tryd.underlying131
 have b2I := a_ a4N
 have b8e := a_ a4O
 clear a4N a4O
 have a4w := a_ hG0
 clear hG0
 have HB := a_ (Below.refl w.heap.size w)
 have H := h
 clear h
 unfold a1g.f at H
 have HC2 := a_ H
 clear H
 go_enter Tryd.func71, Tryd.ntmps71
 go_upto_region 1 with (first | ((with_reducible refine N7 (N := 1) rfl ?_); (try (refine V3 (by rfl) ?_; dsimp only)); refine be_ 1 #[.int .i64 G8, .int .u32 O9, .slice a3h U5.length a3i] 58 ?_; intro e9L hg w3 hbox hb; have a1o := a_ hbox; have g5t := lb_ HB hg; replace HB := Q8 HB hb; clear hb hbox hg))
 go_cut [11] (fun v11 wc => ∃ (kq : Nat) (c67 : Bool), v11 = .bool c67 ∧ Aside0 (a1g.j0 kq c67 G8 O9 U5 = some r) ∧ Aside0 (kq ≤ k) ∧ Aside0 (wc.heap[e9L]? = some (.cells #[.int .i64 G8, .int .u32 O9, (.slice a3h U5.length a3i)] 58 (0, 0))) ∧ Aside0 (Below w.heap.size w wc))
 case first =>
  have H := HC2.out; clear HC2
  by_cases c4 : G8 < 1
  ·rw [if_pos c4] at H; have a3x := dt_ c4; clear c4; have H' := a_ H; clear H; obtain ⟨b1x, b1y, b1z, b1A, b1B, b1C⟩ := a0u a1o.out
   go_wp2
   go_meet
   case rel => exact ⟨_, (true), (by rfl), H', ⟨by (omega)⟩, ⟨by exact a1o.out⟩, ⟨by exact HB.out⟩⟩
  ·rw [if_neg c4] at H; have a3x := df_ c4; clear c4; have H' := a_ H; clear H; obtain ⟨b9f, b9g, b9h, b9i, b9j, b9k⟩ := a0u a1o.out
   go_wp2
   go_meet
   case rel => exact ⟨_, (decide (G8 > 7)), (by rfl), H', ⟨by (omega)⟩, ⟨by exact a1o.out⟩, ⟨by exact HB.out⟩⟩
 case rest =>
  clear HC2; obtain ⟨kq, c67, rfl, HA, HJ1, a1o, HB⟩ := hcut
  cases kq with
  | zero => exact absurd HA.out (by simp [a1g.j0])
  | succ kj1 =>
   have H := HA.out; clear HA
   simp only [a1g.j0] at H
   by_cases c7 : c67 = true
   ·subst c7; rw [if_pos rfl] at H; obtain rfl := oj_ H
    go_wp2
    go_ret
    exact ⟨by (rfl), by exact HB.out⟩
   ·cases nt_ c7
    rw [if_neg a2O] at H; have a9G := a2Q H; replace H := O6 H; have a6P := a2Q H; replace H := O6 H; obtain ⟨g1G, d36⟩ : ∃ b_ : Bool, b_ = ((J4 G7 G8).f0) := ⟨_, rfl⟩; rw [← d36] at H; have b67 := a_ d36; clear d36
    by_cases c11 : (g1G = true)
    ·subst c11; rw [if_pos rfl] at H
     by_cases c12 : O9 = 0
     ·rw [if_pos c12] at H; obtain ⟨b2r, b4n⟩ := bt_ c12; clear c12; obtain rfl := oj_ H; obtain ⟨b2K, b2L, b45, b2M, b2N, b46⟩ := a0u a1o.out; have a5M : 0 ≤ (G8 : Int) := U9; have a4g : G8 < (G7.length : Int) := of_decide_eq_true (by (assumption)); obtain ⟨a8b, e294, Y8, a0Q⟩ := a5O a4w.out G8 a5M a4g
      (try rw [← b67.out] at Y8)
      obtain rfl : (⟨0, 0, none⟩ : Addr) = a8b := (by injection e294)
      (simp only [add_plain] at Y8)
      (simp only [add_plain] at a0Q)
      replace Y8 := J9 HB Y8; replace a0Q := J9 HB a0Q; replace a5M := eq_true a5M; replace a4g := eq_true a4g; have b8g : (G8 < 8) = True := a4g
      go_wp2_with (first | ((with_reducible refine N7 (N := 3) rfl ?_); (try (refine V3 (by rfl) ?_; dsimp only)); refine be_ 3 #[.bool false, .int .i64 0] 131 ?_; intro b8h hg w14 hbox hb; have a8c := a_ hbox; have a8d := lb_ HB hg; obtain ⟨a2B, a2C⟩ := nn_ a1o hg; replace a1o := X8 a1o hb; replace HB := Q8 HB hb; clear hb hbox hg; have g5u := a2C.out; have g5v := a2B.out; obtain ⟨b9l, b9m, b9n, b9o⟩ := a4e a8c.out; obtain ⟨b47, b48, b49, b5a, b5b, b5c⟩ := a0u a1o.out))
      go_ret
      exact ⟨by (rfl), by repeat (with_reducible first | exact HB.out | refine o8 ?_ a8d.out)⟩
     ·rw [if_neg c12] at H; have b2r := bq_ c12; have b4n := bn_ c12
      by_cases c18 : ((J4 G7 G8).f1) > 0
      ·rw [if_pos c18] at H; have e0m : decide (0 < ((J4 G7 G8).f1)) = true := dt_ c18; clear c18; obtain ⟨e4q, A19, H⟩ := bd_ H
       (try dsimp only at H); obtain rfl := oj_ H; obtain ⟨b9p, b9q, b9r, b9s, b9t, b9u⟩ := a0u a1o.out; have a5M : 0 ≤ (G8 : Int) := U9; have a4g : G8 < (G7.length : Int) := of_decide_eq_true (by (assumption)); obtain ⟨a8b, e294, Y8, a0Q⟩ := a5O a4w.out G8 a5M a4g
       (try rw [← b67.out] at Y8)
       obtain rfl : (⟨0, 0, none⟩ : Addr) = a8b := (by injection e294)
       (simp only [add_plain] at Y8)
       (simp only [add_plain] at a0Q)
       replace Y8 := J9 HB Y8; replace a0Q := J9 HB a0Q; replace a5M := eq_true a5M; replace a4g := eq_true a4g; have b8g : (G8 < 8) = True := a4g
       go_wp2_with (first | ((with_reducible refine N7 (N := 3) rfl ?_); (try (refine V3 (by rfl) ?_; dsimp only)); refine be_ 3 #[.bool false, .int .i64 0] 131 ?_; intro b8h hg w21 hbox hb; have a8c := a_ hbox; have a8d := lb_ HB hg; obtain ⟨a2B, a2C⟩ := nn_ a1o hg; replace a1o := X8 a1o hb; replace HB := Q8 HB hb; clear hb hbox hg; have g5w := a2C.out; have g5x := a2B.out; obtain ⟨d8q, d8r, d8s, d8t⟩ := a4e a8c.out; obtain ⟨b5f, b5g, b9z, b5h, b5i, b9A⟩ := a0u a1o.out) | (go_at_call 89; (with_reducible refine (a1N.calls (IntKind.u64.wrap (O9)) ((J4 G7 G8).f1) e4q _ A19.out).mono ?_); rintro e w' ⟨rfl, ⟨nd, rfl⟩⟩))
       go_ret
       exact ⟨by (rfl), by repeat (with_reducible first | exact HB.out | apply y5 | refine o8 ?_ a8d.out)⟩
      ·rw [if_neg c18] at H; have e0m : decide (0 < ((J4 G7 G8).f1)) = false := df_ c18; clear c18; obtain rfl := oj_ H; obtain ⟨d8u, d8v, f4W, d8w, d8x, f4X⟩ := a0u a1o.out; have a5M : 0 ≤ (G8 : Int) := U9; have a4g : G8 < (G7.length : Int) := of_decide_eq_true (by (assumption)); obtain ⟨a8b, e294, Y8, a0Q⟩ := a5O a4w.out G8 a5M a4g
       (try rw [← b67.out] at Y8)
       obtain rfl : (⟨0, 0, none⟩ : Addr) = a8b := (by injection e294)
       (simp only [add_plain] at Y8)
       (simp only [add_plain] at a0Q)
       replace Y8 := J9 HB Y8; replace a0Q := J9 HB a0Q; replace a5M := eq_true a5M; replace a4g := eq_true a4g; have b8g : (G8 < 8) = True := a4g
       go_wp2_with (first | ((with_reducible refine N7 (N := 3) rfl ?_); (try (refine V3 (by rfl) ?_; dsimp only)); refine be_ 3 #[.bool false, .int .i64 0] 131 ?_; intro b8h hg w26 hbox hb; have a8c := a_ hbox; have a8d := lb_ HB hg; obtain ⟨a2B, a2C⟩ := nn_ a1o hg; replace a1o := X8 a1o hb; replace HB := Q8 HB hb; clear hb hbox hg; have e9M := a2C.out; have e9N := a2B.out; obtain ⟨a8R, a8S, a8T, a8U⟩ := a4e a8c.out; obtain ⟨d8y, d8z, d8A, d8B, d8C, d8D⟩ := a0u a1o.out))
       go_ret
       exact ⟨by (rfl), by repeat (with_reducible first | exact HB.out | refine o8 ?_ a8d.out)⟩
    ·cases nt_ c11
     rw [if_neg a2O] at H
     by_cases c30 : (U5.length : Int) > 0
     ·rw [if_pos c30] at H; have d37 : decide (0 < (U5.length : Int)) = true := dt_ c30; have e9O : decide (0 < U5.length) = true := dt_ (by omega); clear c30; obtain rfl := oj_ H; obtain ⟨c5I, c5J, c5K, c5M, c5N, c5O⟩ := a0u a1o.out; have a5M : 0 ≤ (G8 : Int) := U9; have a4g : G8 < (G7.length : Int) := of_decide_eq_true (by (assumption)); obtain ⟨a8b, e294, Y8, a0Q⟩ := a5O a4w.out G8 a5M a4g
      (try rw [← b67.out] at Y8)
      obtain rfl : (⟨0, 0, none⟩ : Addr) = a8b := (by injection e294)
      (simp only [add_plain] at Y8)
      (simp only [add_plain] at a0Q)
      replace Y8 := J9 HB Y8; replace a0Q := J9 HB a0Q; replace a5M := eq_true a5M; replace a4g := eq_true a4g; have b8g : (G8 < 8) = True := a4g
      go_wp2_with (first | ((with_reducible refine N7 (N := 3) rfl ?_); (try (refine V3 (by rfl) ?_; dsimp only)); refine be_ 3 #[.bool false, .int .i64 0] 131 ?_; intro b8h hg w32 hbox hb; have a8c := a_ hbox; have a8d := lb_ HB hg; obtain ⟨a2B, a2C⟩ := nn_ a1o hg; replace a1o := X8 a1o hb; replace HB := Q8 HB hb; clear hb hbox hg; have g5y := a2C.out; have g5z := a2B.out; obtain ⟨f4Y, f4Z, f5a, f5b⟩ := a4e a8c.out; obtain ⟨f5c, f5d, f5e, f5f, f5g, f5h⟩ := a0u a1o.out))
      go_ret
      exact ⟨by (rfl), by repeat (with_reducible first | exact HB.out | refine o8 ?_ a8d.out)⟩
     ·rw [if_neg c30] at H; have d37 : decide (0 < (U5.length : Int)) = false := df_ c30; have e9O : decide (0 < U5.length) = false := df_ (by omega); clear c30
      by_cases c36 : O9 = 0
      ·rw [if_pos c36] at H; obtain ⟨e9P, e9Q⟩ := bt_ c36; clear c36; obtain rfl := oj_ H; obtain ⟨f5i, f5j, f5k, f5l, f5m, f5n⟩ := a0u a1o.out; have a5M : 0 ≤ (G8 : Int) := U9; have a4g : G8 < (G7.length : Int) := of_decide_eq_true (by (assumption)); obtain ⟨a8b, e294, Y8, a0Q⟩ := a5O a4w.out G8 a5M a4g
       (try rw [← b67.out] at Y8)
       obtain rfl : (⟨0, 0, none⟩ : Addr) = a8b := (by injection e294)
       (simp only [add_plain] at Y8)
       (simp only [add_plain] at a0Q)
       replace Y8 := J9 HB Y8; replace a0Q := J9 HB a0Q; replace a5M := eq_true a5M; replace a4g := eq_true a4g; have b8g : (G8 < 8) = True := a4g
       go_wp2_with (first | ((with_reducible refine N7 (N := 3) rfl ?_); (try (refine V3 (by rfl) ?_; dsimp only)); refine be_ 3 #[.bool false, .int .i64 0] 131 ?_; intro b8h hg w38 hbox hb; have a8c := a_ hbox; have a8d := lb_ HB hg; obtain ⟨a2B, a2C⟩ := nn_ a1o hg; replace a1o := X8 a1o hb; replace HB := Q8 HB hb; clear hb hbox hg; have e9R := a2C.out; have e9S := a2B.out; obtain ⟨d8F, d8G, d8H, d8I⟩ := a4e a8c.out; obtain ⟨c5n, c5o, f5o, c5p, c5q, f5p⟩ := a0u a1o.out))
       go_ret
       exact ⟨by (rfl), by repeat (with_reducible first | exact HB.out | refine o8 ?_ a8d.out)⟩
      ·rw [if_neg c36] at H; have e9P := bq_ c36; have e9Q := bn_ c36
       by_cases c42 : ((J4 G7 G8).f1) > 0
       ·rw [if_pos c42] at H; have d38 : decide (0 < ((J4 G7 G8).f1)) = true := dt_ c42; clear c42; obtain ⟨e4r, A43, H⟩ := bd_ H
        (try dsimp only at H); obtain rfl := oj_ H; obtain ⟨d7Z, d70, d71, d72, d73, d74⟩ := a0u a1o.out; have a5M : 0 ≤ (G8 : Int) := U9; have a4g : G8 < (G7.length : Int) := of_decide_eq_true (by (assumption)); obtain ⟨a8b, e294, Y8, a0Q⟩ := a5O a4w.out G8 a5M a4g
        (try rw [← b67.out] at Y8)
        obtain rfl : (⟨0, 0, none⟩ : Addr) = a8b := (by injection e294)
        (simp only [add_plain] at Y8)
        (simp only [add_plain] at a0Q)
        replace Y8 := J9 HB Y8; replace a0Q := J9 HB a0Q; replace a5M := eq_true a5M; replace a4g := eq_true a4g; have b8g : (G8 < 8) = True := a4g
        go_wp2_with (first | ((with_reducible refine N7 (N := 3) rfl ?_); (try (refine V3 (by rfl) ?_; dsimp only)); refine be_ 3 #[.bool false, .int .i64 0] 131 ?_; intro b8h hg w45 hbox hb; have a8c := a_ hbox; have a8d := lb_ HB hg; obtain ⟨a2B, a2C⟩ := nn_ a1o hg; replace a1o := X8 a1o hb; replace HB := Q8 HB hb; clear hb hbox hg; have g5A := a2C.out; have g5B := a2B.out; obtain ⟨d8J, d8K, d8L, d8M⟩ := a4e a8c.out; obtain ⟨f5q, f5r, f5s, f5t, f5u, f5v⟩ := a0u a1o.out) | (go_at_call 89; (with_reducible refine (a1N.calls (IntKind.u64.wrap (O9)) ((J4 G7 G8).f1) e4r _ A43.out).mono ?_); rintro e w' ⟨rfl, ⟨nd, rfl⟩⟩))
        go_ret
        exact ⟨by (rfl), by repeat (with_reducible first | exact HB.out | apply y5 | refine o8 ?_ a8d.out)⟩
       ·rw [if_neg c42] at H; have d38 : decide (0 < ((J4 G7 G8).f1)) = false := df_ c42; clear c42; obtain rfl := oj_ H; obtain ⟨d7i, d7j, d7k, d7l, d7m, d7n⟩ := a0u a1o.out; have a5M : 0 ≤ (G8 : Int) := U9; have a4g : G8 < (G7.length : Int) := of_decide_eq_true (by (assumption)); obtain ⟨a8b, e294, Y8, a0Q⟩ := a5O a4w.out G8 a5M a4g
        (try rw [← b67.out] at Y8)
        obtain rfl : (⟨0, 0, none⟩ : Addr) = a8b := (by injection e294)
        (simp only [add_plain] at Y8)
        (simp only [add_plain] at a0Q)
        replace Y8 := J9 HB Y8; replace a0Q := J9 HB a0Q; replace a5M := eq_true a5M; replace a4g := eq_true a4g; have b8g : (G8 < 8) = True := a4g
        go_wp2_with (first | ((with_reducible refine N7 (N := 3) rfl ?_); (try (refine V3 (by rfl) ?_; dsimp only)); refine be_ 3 #[.bool false, .int .i64 0] 131 ?_; intro b8h hg w50 hbox hb; have a8c := a_ hbox; have a8d := lb_ HB hg; obtain ⟨a2B, a2C⟩ := nn_ a1o hg; replace a1o := X8 a1o hb; replace HB := Q8 HB hb; clear hb hbox hg; have g5C := a2C.out; have g5D := a2B.out; obtain ⟨d77, d78, d79, d8a⟩ := a4e a8c.out; obtain ⟨f5w, f5x, f5y, f5z, f5A, f5B⟩ := a0u a1o.out))
        go_ret
        exact ⟨by (rfl), by repeat (with_reducible first | exact HB.out | refine o8 ?_ a8d.out)⟩
def D7.l0 : Nat → List Int → Int → Int → Option (List Int)
 | 0, _, _, _ => none
 | k + 1, x0, x2, x3 => if x2 < x3 then (if 0 ≤ x3 then (if x3 < (x0.length : Int) then (if 0 ≤ x2 then (if x2 < (x0.length : Int) then (D7.l0 k ((x0.set (x2 : Int).toNat (rd x0 x3)).set (x3 : Int).toNat (rd x0 x2)) (wrap64 (x2 + 1)) (wrap64 (x3 - 1))) else (none)) else (none)) else (none)) else (none)) else (some x0)
def D7.f (k : Nat) (l0 : List Int) : Option (List Int) := D7.l0 k l0 0 (wrap64 ((l0.length : Int) - 1))
def D7.T3 : Bool × List (List Nat × List Nat) := (true, [([], []), ([], []), ([], []), ([], []), ([], []), ([], []), ([4, 5], [4, 5]), ([6], [6]), ([], []), ([], []), ([8, 9], [8, 9]), ([10], [10]), ([0, 1, 0, 1, 4, 5, 6, 7, 11], [0, 1]), ([12, 7, 0, 1, 4, 5, 6, 7, 11], [7, 12]), ([2, 3, 0, 1, 2, 3, 4, 5, 6, 7, 8, 9, 10, 11, 12, 13], [2, 3]), ([14, 11, 13, 0, 1, 2, 3, 4, 5, 6, 7, 8, 9, 10, 11, 12, 13], [11, 14])])
def D7.B3 : List Nat := [0, 0, 0, 0, 0, 0, 48, 112, 0, 0, 768, 1792, 4083, 8179, 16383, 32767]
theorem D7.g1H : a2l .any (opsOf Tryd.f90 3) = D7.T3 := by kernel_rfl
theorem D7.e9T : a1R D7.T3.2 D7.B3 = true := by kernel_rfl
theorem D7.calls (k : Nat) (P0_ : Nat → Prop) (a8P : Value) (l0 : List Int) (r : List Int) (w0 w : World) (hB : Below w0.heap.size w0 w) (ho0 : Kd.R (Kd.int .u8) 5 w w0.heap.size P0_ a8P l0) (h : D7.f k l0 = some r) :
  Calls Tryd.prog 90 #[a8P] w fun e w' => e = .returned (.tuple #[]) ∧ Kd.R (Kd.int .u8) 5 w' w0.heap.size (fun k_ => (P0_ k_ ∨ w.heap.size ≤ k_)) a8P r ∧ Below w0.heap.size w0 w' ∧ Kept w w' (fun k_ => P0_ k_) := by
 have HO0 := a_ (show Kd.R (Kd.int .u8) 5 w w0.heap.size (fun k_ => (P0_ k_ ∨ w.heap.size ≤ k_)) a8P l0 from Kd.y9 ho0 (fun k_ hk => (.inl hk)))
 have HK := a_ (Kept.refl w (fun k_ => P0_ k_))
 have HW0 := a_ hB.size
 have HB := a_ hB
 clear hB
 have H := h
 clear h
 unfold D7.f at H
 have H' := a_ H
 clear H
 obtain ⟨Ao2, co2, eo2⟩ := Kd.H6 HO0.out
 subst eo2
 go_enter Tryd.func90, Tryd.ntmps90
 go_wp2
 go_loopg [2, 3] k (fun kq v2 v3 w' => ∃ (a4u : List Int) (a9Y : Int) (a5C : Int), v2 = .int .i64 a9Y ∧ v3 = .int .i64 a5C ∧ Aside0 (D7.l0 kq a4u a9Y a5C = some r) ∧ Aside0 (kq ≤ k) ∧ Aside0 (Kd.R (Kd.int .u8) 5 w' w0.heap.size (fun k_ => (P0_ k_ ∨ w.heap.size ≤ k_)) (.slice Ao2 l0.length co2) a4u) ∧ Aside0 (Kept w w' (fun k_ => P0_ k_)) ∧ Aside0 (Below w0.heap.size w0 w'))
 case atStart => exact ⟨(l0), (0), (wrap64 ((l0.length : Int) - 1)), (by rfl), (by rfl), H', ⟨Nat.le_refl _⟩, ⟨by exact HO0.out⟩, ⟨by exact HK.out⟩, ⟨by exact HB.out⟩⟩
 case round =>
  clear H'; obtain ⟨a4u, a9Y, a5C, rfl, rfl, HA, HK1, b4H, HK, HB⟩ := hrel; have c68 := (Kd.F9 b4H.out).1; rw [c68] at b4H
  (try simp only [c68])
  cases gk with
  | zero => exact absurd HA.out (by simp [D7.l0])
  | succ k1 =>
   have H := HA.out; clear HA
   simp only [D7.l0] at H
   by_cases c3 : a9Y < a5C
   ·rw [if_pos c3] at H; have a3w := dt_ c3; clear c3; have a3x := a2Q H; replace H := O6 H; have a7h := a2Q H; replace H := O6 H; have a5Y := a2Q H; replace H := O6 H; have a5H := a2Q H; replace H := O6 H; obtain ⟨g1I, d39⟩ := is_ ((a4u.set (a9Y : Int).toNat (rd a4u a5C)) : List Int); rw [← d39] at H; have e9U := a_ d39; clear d39; obtain ⟨g1J, d4a⟩ := is_ ((g1I.set (a5C : Int).toNat (rd a4u a9Y)) : List Int); rw [← d4a] at H; have e9V := a_ d4a; clear d4a; have H' := a_ H; clear H
    try go_wp2
    replace b4H := a_ (Kd.a8p b4H.out); replace HK := a_ (Kept.drew HK.out); replace HB := a_ (Z8 HB.out); have g84 : (0 ≤ (a5C : Int)) = True := et_; have g85 : (a5C < (a4u.length : Int)) = True := et_; obtain ⟨e9W, e298, b9B⟩ := Kd.a0x (Kd.F9 b4H.out).2.2 a5C U9 U9
    cases e298
    have g86 : (0 ≤ (a9Y : Int)) = True := et_; have g87 : (a9Y < (a4u.length : Int)) = True := et_; obtain ⟨e9X, e299, b9C⟩ := Kd.a0x (Kd.F9 b4H.out).2.2 a9Y U9 U9; obtain rfl : e9W = e9X := (by injection e299); have p8 : 0 ≤ (a9Y : Int) := U9; have q8 : (a9Y : Int) < ((a4u.length : Int) : Int) := U9; obtain ⟨go8, co8, eo8, gb8, gl8, cl8, HG8⟩ := Kd.c2E b4H.out (by omega)
    (cases eo8)
    have GB8 := a_ gb8; have GG8 := a_ HG8; clear gb8 gl8 HG8; have e9Y := a_ (show (P0_ go8 ∨ w.heap.size ≤ go8) from (b4H.out.1 _ rfl))
    (simp only [add_plain] at b9B)
    (simp only [add_plain] at b9C)
    obtain ⟨e9Z, c5B⟩ := Kd.b8z 0 b4H.out (a9Y : Int) p8 q8; replace p8 := eq_true p8; replace q8 := eq_true q8; have e4s := Kd.d0q b4H.out (a9Y : Int) (rd a4u a5C); rw [← e9U.out] at e4s; have e4t := a_ e4s; clear e4s; have p9 : (0 ≤ (a5C : Int)) = True := et_; have q9 : ((a5C : Int) < ((a4u.length : Int) : Int)) = True := et_; obtain ⟨e90, d1H⟩ := Kd.b8z 0 e4t.out (a5C : Int) U9 U9; have e4u := Kd.d0q e4t.out (a5C : Int) (rd a4u a9Y); rw [← e9V.out] at e4u; have e91 := a_ e4u; clear e4u; refine a2U (n := 16) (S := fun w' => w'.cell? ⟨go8, (a5C).toNat, none⟩ = some (.int .u8 (rd a4u a5C)) ∧ w'.cell? ⟨go8, (a9Y).toNat, none⟩ = some (.int .u8 (rd a4u a9Y))) (ds := [13, 15]) (bo_ 16 0) (by kernel_rfl) rfl rfl ⟨b9B, b9C⟩ (fun hHeld => ?_); refine a1Z D7.g1H D7.e9T (fun U6 HW_ => ?_); generalize wr.drew = w10 at b4H HK HB GG8 e4t e91 c5B d1H b9B b9C e9Z e90 hHeld ⊢; refine pu_ 0 (some 14) U6 ?_; refine pu_ 1 (some 15) U6 ?_; refine pu_ 2 (some 16) U6 ?_; refine pu_ 3 (some 17) U6 ?_; refine pu_ 4 (some 18) U6 ?_; refine pu_ 5 (some 19) U6 ?_; refine pu_ 6 (some 20) U6 ?_; refine pu_ 8 (some 22) U6 ?_; refine pu_ 9 (some 23) U6 ?_; refine pu_ 10 (some 24) U6 ?_; refine a0Y (i := 7) (N := some 21) (v := ?_) (a' := ?_) (bo_ 16 2047) rfl rfl (Y9 U6.out HW_.out (by kernel_rfl)) (fun _ _ _ h => h) (Or.inl ⟨by rfl, ?_⟩) hHeld ?_ ?_
    rotate_left
    ·rintro w' ⟨s0, s1⟩
     go_simp
     with_reducible rfl
    rotate_left
    ·simp only [Act.put, List.setIfInBounds_toArray, List.set_cons_zero, List.set_cons_succ, a0D, a1b]
     rfl
    refine a0Y (i := 11) (N := some 25) (v := ?_) (a' := ?_) (bo_ 16 4095) rfl rfl (Y9 U6.out HW_.out (by kernel_rfl)) (fun _ _ _ h => h) (Or.inl ⟨by rfl, ?_⟩) hHeld ?_ ?_
    rotate_left
    ·rintro w' ⟨s0, s1⟩
     go_simp
     with_reducible rfl
    rotate_left
    ·simp only [Act.put, List.setIfInBounds_toArray, List.set_cons_zero, List.set_cons_succ, a0D, a1b]
     rfl
    refine pu_ 12 (some 26) U6 ?_; refine c4W (i := 13) (N := none) (bo_ 16 16383) rfl rfl (a1l U6.out (by kernel_rfl)) (by decide) (fun K hK => ?_); refine b57 (w1 := ?_) (by rfl) rfl ?_ ?_
    rotate_left
    ·go_simp
     rfl
    refine hK.out _ _ ?_; clear hK K; refine pu_ 14 (some 27) U6 ?_; refine c4W (i := 15) (N := none) (bo_ 16 65535) rfl rfl (a1l U6.out (by kernel_rfl)) (by decide) (fun K hK => ?_); refine b57 (w1 := ?_) (by rfl) rfl ?_ ?_
    rotate_left
    ·go_simp
     rfl
    refine hK.out _ _ ?_; clear hK K; refine a4J (a4b U6.out (by kernel_rfl)) ?_
    try go_wp2
    (try simp only [← c68])
    go_roundg k1
    case measure => have := HK1.out; omega
    case rel => exact ⟨(g1J), (wrap64 (a9Y + 1)), (wrap64 (a5C - 1)), (by rfl), (by rfl), H', ⟨by have := HK1.out; omega⟩, ⟨by (try simp only [c68]); exact e91.out⟩, ⟨by repeat (with_reducible first | exact HK.out | refine Kept.setCell ?_ e9Y.out _)⟩, ⟨by repeat (with_reducible first | exact HB.out | refine o8 ?_ GB8.out)⟩⟩
   ·rw [if_neg c3] at H; have a3w := df_ c3; clear c3; obtain rfl := oj_ H
    go_wp2
    (go_end0)
    exact ⟨by (rfl), b4H.out, by exact HB.out, by exact HK.out⟩
end Go.Proofs.YtgnonglkibhnhaaDoor.Print
