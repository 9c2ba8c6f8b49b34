-- laid together by this session's own program (wip/tools/merge.py) of texts that its program laid
import Derived.Test.YtgnonglkibhnhaaDoorF67
import Derived.Test.YtgnonglkibhnhaaDoorF69
import Derived.Test.YtgnonglkibhnhaaDoorM8
namespace Go.Proofs.YtgnonglkibhnhaaDoor.Print
open Go.RowKit Go.Proofs.YtgnonglkibhnhaaDoorW.PrintWords Go.Proofs.YtgnonglkibhnhaaDoorW.PrintLast Go.Proofs.YtgnonglkibhnhaaDoorW.PrintMore
attribute [local go_sem] a0o a0p a0R a0S Y5 Y6 a0q a0r
set_option linter.unusedVariables false
set_option linter.unusedSimpArgs false
set_option maxHeartbeats 16000000
set_option maxRecDepth 100000
def X8.f (k : Nat) (l0 : List Int) (a1 : Int) (a2 : Bool) : Option (List (List Int)) := (umpireref07_All.f k l0 a1 a2).bind fun f2M => (some f2M.1)
theorem X8.calls (k : Nat) (P0_ : Nat → Prop) (A0 : Option Addr) (c0 : Nat) (l0 : List Int) (a1 : Int) (a2 : Bool) (r : List (List Int)) (w : World) (hs0 : Kd.V (Kd.int .u8) 5 w w.heap.size (fun k_ => P0_ k_) (.slice A0 l0.length c0) l0) (h : X8.f k l0 a1 a2 = some r) :
  Calls Tryd.prog 48 #[.slice A0 l0.length c0, .int .u32 a1, .bool a2] w fun e w' => ∃ v0_ : Value, e = .returned (v0_) ∧ Kd.N (Kd.slice 5 (Kd.int .u8)) 22 w' w.heap.size (fun k_ => (P0_ k_ ∨ w.heap.size ≤ k_)) v0_ r ∧ Below w.heap.size w w' := by
 have f2N := Tryd.underlying118
 have HO0 := a_ (show Kd.V (Kd.int .u8) 5 w w.heap.size (fun k_ => (P0_ k_ ∨ w.heap.size ≤ k_)) (.slice A0 l0.length c0) l0 from Kd.a3R hs0 (fun k_ hk => .inl hk))
 have HB := a_ (Below.refl w.heap.size w)
 have H := h
 clear h
 unfold X8.f at H
 obtain ⟨⟨g3k, f2O, f2P, f2Q, f2R, f2S⟩, A4, H⟩ := bd_ H
 try dsimp only at H
 obtain rfl := oj_ H
 go_enter Tryd.func48, Tryd.ntmps48
 go_wp2_with (first | (refine gl_ (some 13) Tryd.func67 #[.slice A0 l0.length c0, .int .u32 a1, .bool a2] ?_; (with_reducible refine (umpireref07_All.calls k (fun k_ => (P0_ k_ ∨ w.heap.size ≤ k_)) _ _ l0 a1 a2 g3k f2O f2P f2Q f2R f2S _ HO0.out A4.out).mono ?_); rintro e w5 ⟨h2R, rfl, ho0, hb⟩; refine ⟨_, rfl, ?_⟩; have d6h := a_ (Kd.a7D (Kd.O9 (ok' := fun k_ => (P0_ k_ ∨ w.heap.size ≤ k_)) ho0 (fun k_ hk_ => Or.elim hk_ (fun hs_ => hs_) (fun hn_ => (.inr (Nat.le_trans (y5 HB.out) hn_))))) (y5 HB.out)); replace HO0 := a_ (Kd.a3H HO0.out (Kd.a4t ho0) hb); replace HB := V3 HB hb; (try clear hb); (try clear ho0)) | (refine be_ 8 #[.int .i64 0, .int .i64 0, .int .i64 0, .int .i64 0, .int .i64 0] 118 ?_; intro b8X hg w6 hbox hb; have f2T := a_ hbox; have f2U := lb_ HB hg; replace HO0 := a_ (Kd.a9v (Kd.a97 HO0.out b8X (Nat.le_of_eq hg.symm)) hb); replace d6h := Ne_ d6h hg hb; replace HB := V3 HB hb; clear hb hbox hg; obtain ⟨d6i, d6j, e7X, g3l, g3m, d6k, d6l, e7Y, g3n, g3o⟩ := c5P f2T.out))
 go_ret
 exact ⟨_, by (rfl), by exact Kd.O9 (Kd.a0K (p := ⟨b8X, 4, none⟩) (Kd.a0K (p := ⟨b8X, 3, none⟩) (Kd.a0K (p := ⟨b8X, 2, none⟩) (Kd.a0K (p := ⟨b8X, 1, none⟩) (Kd.a0K (p := ⟨b8X, 0, none⟩) (Kd.O9 d6h.out (fun k_ hk => (⟨hk, hk.2⟩ : _ ∧ k_ ≠ b8X))) (fun _ hk => hk.2) (.int .i64 f2O)) (fun _ hk => hk.2) (.int .i64 f2P)) (fun _ hk => hk.2) (.int .i64 f2Q)) (fun _ hk => hk.2) (.int .i64 f2R)) (fun _ hk => hk.2) (.int .i64 f2S)) (fun _ hk => hk.1.1), by repeat (with_reducible first | exact HB.out | refine o7 ?_ f2U.out)⟩
def a13.f (V4 : Int) (a01 : Int) (a3Y : List Int) : Option (List Int) := (head_Put.f a01 true false).bind fun e5o => (if e5o.1.length + a3Y.length < 140737488355328 then (some (e5o.1 ++ a3Y)) else (none))
theorem a13.calls (V4 : Int) (a01 : Int) (b3y : Option Addr) (b3z : Nat) (a3Y : List Int) (r : List Int) (w : World) (b6S : Kd.C (Kd.int .u8) w b3y a3Y.length a3Y) (b6T : a3Y.length ≤ b3z) (h : a13.f V4 a01 a3Y = some r) :
  Calls Tryd.prog 51 #[.agg #[.int .i64 V4, .int .i64 a01, .slice b3y a3Y.length b3z]] w fun e w' => ∃ v0_ : Value, e = .returned (v0_) ∧ Kd.R (Kd.int .u8) 5 w' w.heap.size (fun _ => True) v0_ r ∧ Below w.heap.size w w' := by
 have d3A := Tryd.underlying42
 have d6m := a_ b6S
 have e5p := a_ b6T
 clear b6S b6T
 have HB := a_ (Below.refl w.heap.size w)
 have H := h
 clear h
 unfold a13.f at H
 obtain ⟨⟨e7Z, g3p⟩, A2, H⟩ := bd_ H
 try dsimp only at H
 have c3 := Z4 H
 replace H := O5 H
 have e70 := a_ c3
 clear c3
 obtain ⟨h2S, d6n⟩ := is_ ((e7Z ++ a3Y) : List Int)
 rw [← d6n] at H
 have f2V := a_ d6n
 clear d6n
 obtain rfl := oj_ H
 go_enter Tryd.func51, Tryd.ntmps51
 go_wp2_with (first | (refine be_ 1 #[.int .i64 V4, .int .i64 a01, .slice b3y a3Y.length b3z] 42 ?_; intro g85 hg w4 hbox hb; have b8Y := a_ hbox; have g86 := lb_ HB hg; replace HB := V3 HB hb; clear hb hbox hg; obtain ⟨c2P, c2Q, c2R, c2S, c2T, c2V⟩ := a1Z b8Y.out) | (refine gl_ (some 8) Tryd.func69 #[.int .i64 a01, .bool true, .bool false] ?_; (with_reducible refine (head_Put.calls a01 true false e7Z g3p _ A2.out).mono ?_); rintro e w6 ⟨g3q, rfl, ho0, hb⟩; refine ⟨_, rfl, ?_⟩; have d6o := rl_ ho0 HB; replace b8Y := X3 b8Y hb; replace HB := V3 HB hb; (try clear hb); (try clear ho0); obtain ⟨d6i, d6j, e7X, d6k, d6l, e7Y⟩ := a1Z b8Y.out) | ((with_reducible refine E8 (b := .append) (xs := #[.tmp 11, .tmp 13]) rfl ?_); at_builtin; refine Kd.P7 (Kd.int .u8) (w0 := w) w.heap.size rfl (.tmp 11) (.tmp 13) 22 5 (.int .u8 0) 1 rfl Tryd.underlying22 info5 rfl (by decide) (by omega) g3q e7Z a3Y _ _ _ (fun _ => True) (fun _ => False) rfl rfl ?aO ?aR (fun _ _ h => h) (fun _ h => h.elim) ?aF ?aB ?aS ?aL ?_; (case aR => exact (Kd.y9 d6m.out HB.out)); (case aB => exact HB.out); (case aF => exact (fun _ _ => trivial)); (case aO => exact d6o.out); (case aS => exact (y5 HB.out)); (case aL => have := e70.out; omega); intro h2T w8 ho hb hg hat; rw [← f2V.out] at ho; have f2W := a_ ho; replace b8Y := a_ (J7 b8Y.out hg (Kd.a6B d6o.out b8Y.out (by decide))); replace HB := a_ hb; clear d6o ho hb hg hat))
 go_ret
 exact ⟨_, by (rfl), by exact f2W.out, by exact HB.out⟩
def a3L.j0 : Nat → Bool → Int → Int → List Int → Option (Bool)
 | 0, _, _, _, _ => none
 | k + 1, x11, b1d, b7I, e02 => if x11 = true then (some false) else (if 0 ≤ b1d then (if b1d < 8 then (if ((Q5 H7 b1d).f0 = true) then (if b7I = 0 then (some true) else (if ((Q5 H7 b1d).f1) > 0 then ((a2N.f (IntKind.u64.wrap (b7I)) ((Q5 H7 b1d).f1)).bind fun e71 => (some e71)) else (some false))) else (if (e02.length : Int) > 0 then (some false) else (if b7I = 0 then (some true) else (if ((Q5 H7 b1d).f1) > 0 then ((a2N.f (IntKind.u64.wrap (b7I)) ((Q5 H7 b1d).f1)).bind fun e72 => (some e72)) else (some false))))) else (none)) else (none))
def a3L.f (k : Nat) (V4 : Int) (a01 : Int) (a3Y : List Int) : Option (Bool) := if V4 < 1 then (a3L.j0 k true V4 a01 a3Y) else (a3L.j0 k (decide (V4 > 7)) V4 a01 a3Y)
theorem a3L.calls (k : Nat) (V4 : Int) (a01 : Int) (b3y : Option Addr) (b3z : Nat) (a3Y : List Int) (r : Bool) (w : World) (hG0 : Kd.C b35 w (some ⟨0, 0, none⟩) 8 H7) (b6S : Kd.C (Kd.int .u8) w b3y a3Y.length a3Y) (b6T : a3Y.length ≤ b3z) (h : a3L.f k V4 a01 a3Y = some r) :
  Calls Tryd.prog 71 #[.agg #[.int .i64 V4, .int .u32 a01, .slice b3y a3Y.length b3z]] w fun e w' => e = .returned (.bool r) ∧ Below w.heap.size w w' := by
 have c7K := Tryd.underlying58
 have e5l := Tryd.underlying131
 have d6m := a_ b6S
 have e5p := a_ b6T
 clear b6S b6T
 have a5X := a_ hG0
 clear hG0
 have HB := a_ (Below.refl w.heap.size w)
 have H := h
 clear h
 unfold a3L.f at H
 have HC2 := a_ H
 clear H
 go_enter Tryd.func71, Tryd.ntmps71
 go_upto_region 1 with (first | ((with_reducible refine X0 (N := 1) rfl ?_); (try (refine Y1 (by rfl) ?_; dsimp only)); refine be_ 1 #[.int .i64 V4, .int .u32 a01, .slice b3y a3Y.length b3z] 58 ?_; intro f2X hg w3 hbox hb; have a1Y := a_ hbox; have g87 := lb_ HB hg; replace HB := V3 HB hb; clear hb hbox hg))
 go_cut [11] (fun v11 wc => ∃ (kq : Nat) (a5u : Bool), v11 = .bool a5u ∧ Aside0 (a3L.j0 kq a5u V4 a01 a3Y = some r) ∧ Aside0 (kq ≤ k) ∧ Aside0 (wc.heap[f2X]? = some (.cells #[.int .i64 V4, .int .u32 a01, (.slice b3y a3Y.length b3z)] 58 (0, 0))) ∧ Aside0 (Below w.heap.size w wc))
 case first =>
  have H := HC2.out; clear HC2
  by_cases c4 : V4 < 1
  ·rw [if_pos c4] at H; have a4i := dt_ c4; clear c4; have H' := a_ H; clear H; obtain ⟨c2P, c2Q, c2R, c2S, c2T, c2V⟩ := a1Z a1Y.out
   go_wp2
   go_meet
   case rel => exact ⟨_, (true), (by rfl), H', ⟨by (omega)⟩, ⟨by exact a1Y.out⟩, ⟨by exact HB.out⟩⟩
  ·rw [if_neg c4] at H; have a4i := df_ c4; clear c4; have H' := a_ H; clear H; obtain ⟨c7R, c7S, e73, c7T, c7U, e74⟩ := a1Z a1Y.out
   go_wp2
   go_meet
   case rel => exact ⟨_, (decide (V4 > 7)), (by rfl), H', ⟨by (omega)⟩, ⟨by exact a1Y.out⟩, ⟨by exact HB.out⟩⟩
 case rest =>
  clear HC2; obtain ⟨kq, a5u, rfl, HA, HJ1, a1Y, HB⟩ := hcut
  cases kq with
  | zero => exact absurd HA.out (by simp [a3L.j0])
  | succ kj1 =>
   have H := HA.out; clear HA
   simp only [a3L.j0] at H
   by_cases c7 : a5u = true
   ·subst c7; rw [if_pos rfl] at H; obtain rfl := oj_ H
    go_wp2
    go_ret
    exact ⟨by (rfl), by exact HB.out⟩
   ·cases nt_ c7
    rw [if_neg a3X] at H; have b2c := a2x H; replace H := O5 H; have b2d := a2x H; replace H := O5 H; obtain ⟨g3r, d6p⟩ : ∃ b_ : Bool, b_ = ((Q5 H7 V4).f0) := ⟨_, rfl⟩; rw [← d6p] at H; have b8Z := a_ d6p; clear d6p
    by_cases c11 : (g3r = true)
    ·subst c11; rw [if_pos rfl] at H
     by_cases c12 : a01 = 0
     ·rw [if_pos c12] at H; obtain ⟨b0h, b6U⟩ := bt_ c12; clear c12; obtain rfl := oj_ H; obtain ⟨b3e, b3f, b7J, b3g, b3h, b7K⟩ := a1Z a1Y.out; have a7r : 0 ≤ (V4 : Int) := V5; have a5G : V4 < (H7.length : Int) := of_decide_eq_true (by (assumption)); obtain ⟨b0i, e294, a0x, a09⟩ := a7z a5X.out V4 a7r a5G
      (try rw [← b8Z.out] at a0x)
      obtain rfl : (⟨0, 0, none⟩ : Addr) = b0i := (by injection e294)
      (simp only [add_plain] at a0x)
      (simp only [add_plain] at a09)
      replace a0x := cb_ HB a0x; replace a09 := cb_ HB a09; replace a7r := eq_true a7r; replace a5G := eq_true a5G; have c0Q : (V4 < 8) = True := a5G
      go_wp2_with (first | ((with_reducible refine X0 (N := 3) rfl ?_); (try (refine Y1 (by rfl) ?_; dsimp only)); refine be_ 3 #[.bool false, .int .i64 0] 131 ?_; intro c0R hg w14 hbox hb; have b0j := a_ hbox; have b0k := lb_ HB hg; obtain ⟨a3h, a3i⟩ := nn_ a1Y hg; replace a1Y := X3 a1Y hb; replace HB := V3 HB hb; clear hb hbox hg; have g88 := a3i.out; have g89 := a3h.out; obtain ⟨c2W, c2X, c2Y, c2Z⟩ := a1B b0j.out; obtain ⟨d0n, d0o, d0p, d0q, d0r, d0s⟩ := a1Z a1Y.out))
      go_ret
      exact ⟨by (rfl), by repeat (with_reducible first | exact HB.out | refine o7 ?_ b0k.out)⟩
     ·rw [if_neg c12] at H; have b0h := bq_ c12; have b6U := bn_ c12
      by_cases c18 : ((Q5 H7 V4).f1) > 0
      ·rw [if_pos c18] at H; have c9M : decide (0 < ((Q5 H7 V4).f1)) = true := dt_ c18; clear c18; obtain ⟨e71, A19, H⟩ := bd_ H
       (try dsimp only at H); obtain rfl := oj_ H; obtain ⟨d0e, d0f, d0g, d0h, d0i, d0j⟩ := a1Z a1Y.out; have a7r : 0 ≤ (V4 : Int) := V5; have a5G : V4 < (H7.length : Int) := of_decide_eq_true (by (assumption)); obtain ⟨b0i, e294, a0x, a09⟩ := a7z a5X.out V4 a7r a5G
       (try rw [← b8Z.out] at a0x)
       obtain rfl : (⟨0, 0, none⟩ : Addr) = b0i := (by injection e294)
       (simp only [add_plain] at a0x)
       (simp only [add_plain] at a09)
       replace a0x := cb_ HB a0x; replace a09 := cb_ HB a09; replace a7r := eq_true a7r; replace a5G := eq_true a5G; have c0Q : (V4 < 8) = True := a5G
       go_wp2_with (first | ((with_reducible refine X0 (N := 3) rfl ?_); (try (refine Y1 (by rfl) ?_; dsimp only)); refine be_ 3 #[.bool false, .int .i64 0] 131 ?_; intro c0R hg w21 hbox hb; have b0j := a_ hbox; have b0k := lb_ HB hg; obtain ⟨a3h, a3i⟩ := nn_ a1Y hg; replace a1Y := X3 a1Y hb; replace HB := V3 HB hb; clear hb hbox hg; have f2Y := a3i.out; have f2Z := a3h.out; obtain ⟨b7L, b7M, b7N, b7O⟩ := a1B b0j.out; obtain ⟨a8t, a8u, b5n, a8v, a8w, b5o⟩ := a1Z a1Y.out) | (go_at_call 89; (with_reducible refine (a2N.calls (IntKind.u64.wrap (a01)) ((Q5 H7 V4).f1) e71 _ A19.out).mono ?_); rintro e w' ⟨rfl, ⟨nd, rfl⟩⟩))
       go_ret
       exact ⟨by (rfl), by repeat (with_reducible first | exact HB.out | apply o9 | refine o7 ?_ b0k.out)⟩
      ·rw [if_neg c18] at H; have c9M : decide (0 < ((Q5 H7 V4).f1)) = false := df_ c18; clear c18; obtain rfl := oj_ H; obtain ⟨d0t, d0u, f9O, d0v, d0w, f9P⟩ := a1Z a1Y.out; have a7r : 0 ≤ (V4 : Int) := V5; have a5G : V4 < (H7.length : Int) := of_decide_eq_true (by (assumption)); obtain ⟨b0i, e294, a0x, a09⟩ := a7z a5X.out V4 a7r a5G
       (try rw [← b8Z.out] at a0x)
       obtain rfl : (⟨0, 0, none⟩ : Addr) = b0i := (by injection e294)
       (simp only [add_plain] at a0x)
       (simp only [add_plain] at a09)
       replace a0x := cb_ HB a0x; replace a09 := cb_ HB a09; replace a7r := eq_true a7r; replace a5G := eq_true a5G; have c0Q : (V4 < 8) = True := a5G
       go_wp2_with (first | ((with_reducible refine X0 (N := 3) rfl ?_); (try (refine Y1 (by rfl) ?_; dsimp only)); refine be_ 3 #[.bool false, .int .i64 0] 131 ?_; intro c0R hg w26 hbox hb; have b0j := a_ hbox; have b0k := lb_ HB hg; obtain ⟨a3h, a3i⟩ := nn_ a1Y hg; replace a1Y := X3 a1Y hb; replace HB := V3 HB hb; clear hb hbox hg; have f3a := a3i.out; have f3b := a3h.out; obtain ⟨b3a, b3b, b3c, b3d⟩ := a1B b0j.out; obtain ⟨d0x, d0y, e03, d0z, d0A, e04⟩ := a1Z a1Y.out))
       go_ret
       exact ⟨by (rfl), by repeat (with_reducible first | exact HB.out | refine o7 ?_ b0k.out)⟩
    ·cases nt_ c11
     rw [if_neg a3X] at H
     by_cases c30 : (a3Y.length : Int) > 0
     ·rw [if_pos c30] at H; have e5r : decide (0 < (a3Y.length : Int)) = true := dt_ c30; have f3c : decide (0 < a3Y.length) = true := dt_ (by omega); clear c30; obtain rfl := oj_ H; obtain ⟨c3a, c3c, c3d, c3e, c3f, c3g⟩ := a1Z a1Y.out; have a7r : 0 ≤ (V4 : Int) := V5; have a5G : V4 < (H7.length : Int) := of_decide_eq_true (by (assumption)); obtain ⟨b0i, e294, a0x, a09⟩ := a7z a5X.out V4 a7r a5G
      (try rw [← b8Z.out] at a0x)
      obtain rfl : (⟨0, 0, none⟩ : Addr) = b0i := (by injection e294)
      (simp only [add_plain] at a0x)
      (simp only [add_plain] at a09)
      replace a0x := cb_ HB a0x; replace a09 := cb_ HB a09; replace a7r := eq_true a7r; replace a5G := eq_true a5G; have c0Q : (V4 < 8) = True := a5G
      go_wp2_with (first | ((with_reducible refine X0 (N := 3) rfl ?_); (try (refine Y1 (by rfl) ?_; dsimp only)); refine be_ 3 #[.bool false, .int .i64 0] 131 ?_; intro c0R hg w32 hbox hb; have b0j := a_ hbox; have b0k := lb_ HB hg; obtain ⟨a3h, a3i⟩ := nn_ a1Y hg; replace a1Y := X3 a1Y hb; replace HB := V3 HB hb; clear hb hbox hg; have f3d := a3i.out; have f3e := a3h.out; obtain ⟨e06, e07, e08, e09⟩ := a1B b0j.out; obtain ⟨d0B, d0C, e1a, d0D, d0E, e1b⟩ := a1Z a1Y.out))
      go_ret
      exact ⟨by (rfl), by repeat (with_reducible first | exact HB.out | refine o7 ?_ b0k.out)⟩
     ·rw [if_neg c30] at H; have e5r : decide (0 < (a3Y.length : Int)) = false := df_ c30; have f3c : decide (0 < a3Y.length) = false := df_ (by omega); clear c30
      by_cases c36 : a01 = 0
      ·rw [if_pos c36] at H; obtain ⟨e5s, e5t⟩ := bt_ c36; clear c36; obtain rfl := oj_ H; obtain ⟨d0F, d0G, d0H, d0I, d0J, d0K⟩ := a1Z a1Y.out; have a7r : 0 ≤ (V4 : Int) := V5; have a5G : V4 < (H7.length : Int) := of_decide_eq_true (by (assumption)); obtain ⟨b0i, e294, a0x, a09⟩ := a7z a5X.out V4 a7r a5G
       (try rw [← b8Z.out] at a0x)
       obtain rfl : (⟨0, 0, none⟩ : Addr) = b0i := (by injection e294)
       (simp only [add_plain] at a0x)
       (simp only [add_plain] at a09)
       replace a0x := cb_ HB a0x; replace a09 := cb_ HB a09; replace a7r := eq_true a7r; replace a5G := eq_true a5G; have c0Q : (V4 < 8) = True := a5G
       go_wp2_with (first | ((with_reducible refine X0 (N := 3) rfl ?_); (try (refine Y1 (by rfl) ?_; dsimp only)); refine be_ 3 #[.bool false, .int .i64 0] 131 ?_; intro c0R hg w38 hbox hb; have b0j := a_ hbox; have b0k := lb_ HB hg; obtain ⟨a3h, a3i⟩ := nn_ a1Y hg; replace a1Y := X3 a1Y hb; replace HB := V3 HB hb; clear hb hbox hg; have f3f := a3i.out; have f3g := a3h.out; obtain ⟨e0X, e0Y, e0Z, e00⟩ := a1B b0j.out; obtain ⟨c9R, c9S, f9Q, c9T, c9U, f9R⟩ := a1Z a1Y.out))
       go_ret
       exact ⟨by (rfl), by repeat (with_reducible first | exact HB.out | refine o7 ?_ b0k.out)⟩
      ·rw [if_neg c36] at H; have e5s := bq_ c36; have e5t := bn_ c36
       by_cases c42 : ((Q5 H7 V4).f1) > 0
       ·rw [if_pos c42] at H; have f3h : decide (0 < ((Q5 H7 V4).f1)) = true := dt_ c42; clear c42; obtain ⟨e72, A43, H⟩ := bd_ H
        (try dsimp only at H); obtain rfl := oj_ H; obtain ⟨e1c, e1d, e1e, e1f, e1g, e1h⟩ := a1Z a1Y.out; have a7r : 0 ≤ (V4 : Int) := V5; have a5G : V4 < (H7.length : Int) := of_decide_eq_true (by (assumption)); obtain ⟨b0i, e294, a0x, a09⟩ := a7z a5X.out V4 a7r a5G
        (try rw [← b8Z.out] at a0x)
        obtain rfl : (⟨0, 0, none⟩ : Addr) = b0i := (by injection e294)
        (simp only [add_plain] at a0x)
        (simp only [add_plain] at a09)
        replace a0x := cb_ HB a0x; replace a09 := cb_ HB a09; replace a7r := eq_true a7r; replace a5G := eq_true a5G; have c0Q : (V4 < 8) = True := a5G
        go_wp2_with (first | ((with_reducible refine X0 (N := 3) rfl ?_); (try (refine Y1 (by rfl) ?_; dsimp only)); refine be_ 3 #[.bool false, .int .i64 0] 131 ?_; intro c0R hg w45 hbox hb; have b0j := a_ hbox; have b0k := lb_ HB hg; obtain ⟨a3h, a3i⟩ := nn_ a1Y hg; replace a1Y := X3 a1Y hb; replace HB := V3 HB hb; clear hb hbox hg; have f3i := a3i.out; have f3j := a3h.out; obtain ⟨e1i, e1j, e1k, e1l⟩ := a1B b0j.out; obtain ⟨e1m, e1n, f9S, e1o, e1p, f9T⟩ := a1Z a1Y.out) | (go_at_call 89; (with_reducible refine (a2N.calls (IntKind.u64.wrap (a01)) ((Q5 H7 V4).f1) e72 _ A43.out).mono ?_); rintro e w' ⟨rfl, ⟨nd, rfl⟩⟩))
        go_ret
        exact ⟨by (rfl), by repeat (with_reducible first | exact HB.out | apply o9 | refine o7 ?_ b0k.out)⟩
       ·rw [if_neg c42] at H; have f3h : decide (0 < ((Q5 H7 V4).f1)) = false := df_ c42; clear c42; obtain rfl := oj_ H; obtain ⟨d0L, d0M, d0N, d0O, d0P, d0Q⟩ := a1Z a1Y.out; have a7r : 0 ≤ (V4 : Int) := V5; have a5G : V4 < (H7.length : Int) := of_decide_eq_true (by (assumption)); obtain ⟨b0i, e294, a0x, a09⟩ := a7z a5X.out V4 a7r a5G
        (try rw [← b8Z.out] at a0x)
        obtain rfl : (⟨0, 0, none⟩ : Addr) = b0i := (by injection e294)
        (simp only [add_plain] at a0x)
        (simp only [add_plain] at a09)
        replace a0x := cb_ HB a0x; replace a09 := cb_ HB a09; replace a7r := eq_true a7r; replace a5G := eq_true a5G; have c0Q : (V4 < 8) = True := a5G
        go_wp2_with (first | ((with_reducible refine X0 (N := 3) rfl ?_); (try (refine Y1 (by rfl) ?_; dsimp only)); refine be_ 3 #[.bool false, .int .i64 0] 131 ?_; intro c0R hg w50 hbox hb; have b0j := a_ hbox; have b0k := lb_ HB hg; obtain ⟨a3h, a3i⟩ := nn_ a1Y hg; replace a1Y := X3 a1Y hb; replace HB := V3 HB hb; clear hb hbox hg; have f3k := a3i.out; have f3l := a3h.out; obtain ⟨d0R, d0S, d0T, d0U⟩ := a1B b0j.out; obtain ⟨f9U, f9V, f9W, f9X, f9Y, f9Z⟩ := a1Z a1Y.out))
        go_ret
        exact ⟨by (rfl), by repeat (with_reducible first | exact HB.out | refine o7 ?_ b0k.out)⟩
def D8.l0 : Nat → List Int → Int → Int → Option (List Int)
 | 0, _, _, _ => none
 | k + 1, x0, x2, x3 => if x2 < x3 then (if 0 ≤ x3 then (if x3 < (x0.length : Int) then (if 0 ≤ x2 then (if x2 < (x0.length : Int) then (D8.l0 k ((x0.set (x2 : Int).toNat (rd x0 x3)).set (x3 : Int).toNat (rd x0 x2)) (wrap64 (x2 + 1)) (wrap64 (x3 - 1))) else (none)) else (none)) else (none)) else (none)) else (some x0)
def D8.f (k : Nat) (l0 : List Int) : Option (List Int) := D8.l0 k l0 0 (wrap64 ((l0.length : Int) - 1))
def D8.T3 : Bool × List (List Nat × List Nat) := (true, [([], []), ([], []), ([], []), ([], []), ([], []), ([], []), ([4, 5], [4, 5]), ([6], [6]), ([], []), ([], []), ([8, 9], [8, 9]), ([10], [10]), ([0, 1, 0, 1, 4, 5, 6, 7, 11], [0, 1]), ([12, 7, 0, 1, 4, 5, 6, 7, 11], [7, 12]), ([2, 3, 0, 1, 2, 3, 4, 5, 6, 7, 8, 9, 10, 11, 12, 13], [2, 3]), ([14, 11, 13, 0, 1, 2, 3, 4, 5, 6, 7, 8, 9, 10, 11, 12, 13], [11, 14])])
def D8.B3 : List Nat := [0, 0, 0, 0, 0, 0, 48, 112, 0, 0, 768, 1792, 4083, 8179, 16383, 32767]
theorem D8.g3s : a3g .any (opsOf Tryd.f90 3) = D8.T3 := by kernel_rfl
theorem D8.f3m : a2I D8.T3.2 D8.B3 = true := by kernel_rfl
theorem D8.calls (k : Nat) (P0_ : Nat → Prop) (b1e : Value) (l0 : List Int) (r : List Int) (w0 w : World) (hB : Below w0.heap.size w0 w) (ho0 : Kd.R (Kd.int .u8) 5 w w0.heap.size P0_ b1e l0) (h : D8.f k l0 = some r) :
  Calls Tryd.prog 90 #[b1e] w fun e w' => e = .returned (.tuple #[]) ∧ Kd.R (Kd.int .u8) 5 w' w0.heap.size (fun k_ => (P0_ k_ ∨ w.heap.size ≤ k_)) b1e r ∧ Below w0.heap.size w0 w' ∧ Kept w w' (fun k_ => P0_ k_) := by
 have HO0 := a_ (show Kd.R (Kd.int .u8) 5 w w0.heap.size (fun k_ => (P0_ k_ ∨ w.heap.size ≤ k_)) b1e l0 from Kd.D7 ho0 (fun k_ hk => (.inl hk)))
 have HK := a_ (Kept.refl w (fun k_ => P0_ k_))
 have HW0 := a_ hB.size
 have HB := a_ hB
 clear hB
 have H := h
 clear h
 unfold D8.f at H
 have H' := a_ H
 clear H
 obtain ⟨Ao2, co2, eo2⟩ := Kd.G7 HO0.out
 subst eo2
 go_enter Tryd.func90, Tryd.ntmps90
 go_wp2
 go_loopg [2, 3] k (fun kq v2 v3 w' => ∃ (a5Y : List Int) (b2l : Int) (a5j : Int), v2 = .int .i64 b2l ∧ v3 = .int .i64 a5j ∧ Aside0 (D8.l0 kq a5Y b2l a5j = some r) ∧ Aside0 (kq ≤ k) ∧ Aside0 (Kd.R (Kd.int .u8) 5 w' w0.heap.size (fun k_ => (P0_ k_ ∨ w.heap.size ≤ k_)) (.slice Ao2 l0.length co2) a5Y) ∧ Aside0 (Kept w w' (fun k_ => P0_ k_)) ∧ Aside0 (Below w0.heap.size w0 w'))
 case atStart => exact ⟨(l0), (0), (wrap64 ((l0.length : Int) - 1)), (by rfl), (by rfl), H', ⟨Nat.le_refl _⟩, ⟨by exact HO0.out⟩, ⟨by exact HK.out⟩, ⟨by exact HB.out⟩⟩
 case round =>
  clear H'; obtain ⟨a5Y, b2l, a5j, rfl, rfl, HA, HK1, a9k, HK, HB⟩ := hrel; have d0V := (Kd.D9 a9k.out).1; rw [d0V] at a9k
  (try simp only [d0V])
  cases gk with
  | zero => exact absurd HA.out (by simp [D8.l0])
  | succ k1 =>
   have H := HA.out; clear HA
   simp only [D8.l0] at H
   by_cases c3 : b2l < a5j
   ·rw [if_pos c3] at H; have a3T := dt_ c3; clear c3; have a4i := a2x H; replace H := O5 H; have a5H := a2x H; replace H := O5 H; have a8y := a2x H; replace H := O5 H; have a6f := a2x H; replace H := O5 H; obtain ⟨g3t, d6q⟩ := is_ ((a5Y.set (b2l : Int).toNat (rd a5Y a5j)) : List Int); rw [← d6q] at H; have f3n := a_ d6q; clear d6q; obtain ⟨g3u, d6r⟩ := is_ ((g3t.set (a5j : Int).toNat (rd a5Y b2l)) : List Int); rw [← d6r] at H; have f3o := a_ d6r; clear d6r; have H' := a_ H; clear H
    try go_wp2
    replace a9k := a_ (Kd.b76 a9k.out); replace HK := a_ (Kept.drew HK.out); replace HB := a_ (Y4 HB.out); have h2Z : (0 ≤ (a5j : Int)) = True := et_; have h24 : (a5j < (a5Y.length : Int)) = True := et_; obtain ⟨f3p, e298, c3h⟩ := Kd.Q7 (Kd.D9 a9k.out).2.2 a5j V5 V5
    cases e298
    have h25 : (0 ≤ (b2l : Int)) = True := et_; have h26 : (b2l < (a5Y.length : Int)) = True := et_; obtain ⟨f3q, e299, c3i⟩ := Kd.Q7 (Kd.D9 a9k.out).2.2 b2l V5 V5; obtain rfl : f3p = f3q := (by injection e299); have p8 : 0 ≤ (b2l : Int) := V5; have q8 : (b2l : Int) < ((a5Y.length : Int) : Int) := V5; obtain ⟨go8, co8, eo8, gb8, gl8, cl8, HG8⟩ := Kd.b77 a9k.out (by omega)
    (cases eo8)
    have GB8 := a_ gb8; have GG8 := a_ HG8; clear gb8 gl8 HG8; have f3r := a_ (show (P0_ go8 ∨ w.heap.size ≤ go8) from (a9k.out.1 _ rfl))
    (simp only [add_plain] at c3h)
    (simp only [add_plain] at c3i)
    obtain ⟨f3s, c0S⟩ := Kd.b4T 0 a9k.out (b2l : Int) p8 q8; replace p8 := eq_true p8; replace q8 := eq_true q8; have e75 := Kd.d4s a9k.out (b2l : Int) (rd a5Y a5j); rw [← f3n.out] at e75; have e76 := a_ e75; clear e75; have p9 : (0 ≤ (a5j : Int)) = True := et_; have q9 : ((a5j : Int) < ((a5Y.length : Int) : Int)) = True := et_; obtain ⟨f3t, c5W⟩ := Kd.b4T 0 e76.out (a5j : Int) V5 V5; have e77 := Kd.d4s e76.out (a5j : Int) (rd a5Y b2l); rw [← f3o.out] at e77; have f3u := a_ e77; clear e77; refine a2E (n := 16) (S := fun w' => w'.cell? ⟨go8, (a5j).toNat, none⟩ = some (.int .u8 (rd a5Y a5j)) ∧ w'.cell? ⟨go8, (b2l).toNat, none⟩ = some (.int .u8 (rd a5Y b2l))) (ds := [13, 15]) (bo_ 16 0) (by kernel_rfl) rfl rfl ⟨c3h, c3i⟩ (fun hHeld => ?_); refine a2J D8.g3s D8.f3m (fun Z8 HW_ => ?_); generalize wr.drew = w10 at a9k HK HB GG8 e76 f3u c0S c5W c3h c3i f3s f3t hHeld ⊢; refine pu_ 0 (some 14) Z8 ?_; refine pu_ 1 (some 15) Z8 ?_; refine pu_ 2 (some 16) Z8 ?_; refine pu_ 3 (some 17) Z8 ?_; refine pu_ 4 (some 18) Z8 ?_; refine pu_ 5 (some 19) Z8 ?_; refine pu_ 6 (some 20) Z8 ?_; refine pu_ 8 (some 22) Z8 ?_; refine pu_ 9 (some 23) Z8 ?_; refine pu_ 10 (some 24) Z8 ?_; refine a1H (i := 7) (N := some 21) (v := ?_) (a' := ?_) (bo_ 16 2047) rfl rfl (a1I Z8.out HW_.out (by kernel_rfl)) (fun _ _ _ h => h) (Or.inl ⟨by rfl, ?_⟩) hHeld ?_ ?_
    rotate_left
    ·rintro w' ⟨s0, s1⟩
     go_simp
     with_reducible rfl
    rotate_left
    ·simp only [Act.put, List.setIfInBounds_toArray, List.set_cons_zero, List.set_cons_succ, a0J, a2b]
     rfl
    refine a1H (i := 11) (N := some 25) (v := ?_) (a' := ?_) (bo_ 16 4095) rfl rfl (a1I Z8.out HW_.out (by kernel_rfl)) (fun _ _ _ h => h) (Or.inl ⟨by rfl, ?_⟩) hHeld ?_ ?_
    rotate_left
    ·rintro w' ⟨s0, s1⟩
     go_simp
     with_reducible rfl
    rotate_left
    ·simp only [Act.put, List.setIfInBounds_toArray, List.set_cons_zero, List.set_cons_succ, a0J, a2b]
     rfl
    refine pu_ 12 (some 26) Z8 ?_; refine b1Q (i := 13) (N := none) (bo_ 16 16383) rfl rfl (a1U Z8.out (by kernel_rfl)) (by decide) (fun K hK => ?_); refine a7H (w1 := ?_) (by rfl) rfl ?_ ?_
    rotate_left
    ·go_simp
     rfl
    refine hK.out _ _ ?_; clear hK K; refine pu_ 14 (some 27) Z8 ?_; refine b1Q (i := 15) (N := none) (bo_ 16 65535) rfl rfl (a1U Z8.out (by kernel_rfl)) (by decide) (fun K hK => ?_); refine a7H (w1 := ?_) (by rfl) rfl ?_ ?_
    rotate_left
    ·go_simp
     rfl
    refine hK.out _ _ ?_; clear hK K; refine a4D (a5D Z8.out (by kernel_rfl)) ?_
    try go_wp2
    (try simp only [← d0V])
    go_roundg k1
    case measure => have := HK1.out; omega
    case rel => exact ⟨(g3u), (wrap64 (b2l + 1)), (wrap64 (a5j - 1)), (by rfl), (by rfl), H', ⟨by have := HK1.out; omega⟩, ⟨by (try simp only [d0V]); exact f3u.out⟩, ⟨by repeat (with_reducible first | exact HK.out | refine Kept.setCell ?_ f3r.out _)⟩, ⟨by repeat (with_reducible first | exact HB.out | refine o7 ?_ GB8.out)⟩⟩
   ·rw [if_neg c3] at H; have a3T := df_ c3; clear c3; obtain rfl := oj_ H
    go_wp2
    (go_end0)
    exact ⟨by (rfl), a9k.out, by exact HB.out, by exact HK.out⟩
def a08.l0 : Nat → Int → Bool → List Int → Int → Int → Option (List Int × Bool)
 | 0, _, _, _, _, _ => none
 | k + 1, x0, x2, x8, x16, x17 => if x17 < x16 then (if 0 ≤ (wrap64 (8 * x17)) then (if 0 ≤ x17 then (if x17 < (x8.length : Int) then (a08.l0 k x0 x2 (x8.set (x17 : Int).toNat ((shr .u64 x0 (wrap64 (8 * x17))) % 256)) x16 (wrap64 (x17 + 1))) else (none)) else (none)) else (none)) else (if x2 = true then ((D8.f k x8).bind fun e78 => (some (e78, true))) else (some (x8, true)))
def a08.f (k : Nat) (a0 : Int) (a1 : Int) (a2 : Bool) : Option (List Int × Bool) := (a2N.f a0 a1).bind fun e79 => (if e79 = true then (if 0 ≤ a1 then (if (a1 : Int).toNat ≤ 281474976710656 then (a08.l0 k a0 a2 (List.replicate (a1 : Int).toNat 0) a1 0) else (none)) else (none)) else (some (([] : List Int), false)))
theorem a08.calls (k : Nat) (a0 : Int) (a1 : Int) (a2 : Bool) (r1 : List Int) (r2 : Bool) (w : World) (h : a08.f k a0 a1 a2 = some (r1, r2)) :
  Calls Tryd.prog 72 #[.int .u64 a0, .int .i64 a1, .bool a2] w fun e w' => ∃ v0_ : Value, e = .returned (.tuple #[v0_, .bool r2]) ∧ Kd.R (Kd.int .u8) 5 w' w.heap.size (fun _ => True) v0_ r1 ∧ Below w.heap.size w w' := by
 have HB := a_ (Below.refl w.heap.size w)
 have H := h
 clear h
 unfold a08.f at H
 obtain ⟨e79, A4, H⟩ := bd_ H
 try dsimp only at H
 by_cases c5 : e79 = true
 ·subst c5; rw [if_pos rfl] at H; have c6 := Z4 H; replace H := O5 H; have a8y := eq_true c6; have b5p := dt_ c6; clear c6; have c7 := Z4 H; replace H := O5 H; have a6f := eq_true c7; have b0g := dt_ c7; clear c7; obtain ⟨g3w, d6s⟩ := is_ ((List.replicate (a1 : Int).toNat 0) : List Int); rw [← d6s] at H; have f3v := a_ d6s; clear d6s; have H' := a_ H; clear H
  go_enter Tryd.func72, Tryd.ntmps72
  go_wp2_with (first | (refine gl_ (some 12) Tryd.func89 #[.int .u64 a0, .int .i64 a1] ?_; (with_reducible refine (a2N.calls a0 a1 true _ A4.out).mono ?_); rintro e w' ⟨rfl, ⟨nd, rfl⟩⟩; refine ⟨_, rfl, ?_⟩) | ((with_reducible refine X0 (N := 15) rfl ?_); refine Kd.e7f (Kd.int .u8) _ 5 rfl (N := 15) rfl 22 _ _ rfl a1 rfl rfl Tryd.underlying22 (.int .u8 0) 1 info5 rfl (by decide) (by omega) 0 (ok := fun _ => True) (okp := fun _ => True) rfl (fun _ hk => hk) trivial (V5) (Nat.le_trans (Nat.mul_le_mul_right _ (V5 : a1.toNat ≤ 281474976710656)) (by omega)) (Below.refl _ _) (Nat.le_refl _) ?_; intro g3x w8 ho9 hb hg_ a1P; clear hg_ a1P; (rw [← f3v.out] at ho9); have f3w := a_ (Kd.Z9 ho9 (y5 (by repeat (with_reducible first | exact HB.out | apply o9)))); replace HB := a_ (J6 (by repeat (with_reducible first | exact HB.out | apply o9)) hb); clear hb ho9))
  go_loopg [17] k (fun kq v17 w' => ∃ (S9 : List Int) (a7h : Int), v17 = .int .i64 a7h ∧ Aside0 (a08.l0 kq a0 a2 S9 a1 a7h = some (r1, r2)) ∧ Aside0 (kq ≤ k) ∧ Aside0 (Kd.R (Kd.int .u8) 5 w' w.heap.size (fun _ => True) g3x S9) ∧ Aside0 (Below w.heap.size w w'))
  case atStart => exact ⟨(g3w), (0), (by rfl), H', ⟨Nat.le_refl _⟩, ⟨by exact f3w.out⟩, ⟨by exact HB.out⟩⟩
  case round =>
   clear H'
   try clear a8y
   try clear b5p
   try clear a6f
   try clear b0g
   obtain ⟨S9, a7h, rfl, HA, HK1, a0V, HB⟩ := hrel
   cases gk with
   | zero => exact absurd HA.out (by simp [a08.l0])
   | succ k1 =>
    have H := HA.out; clear HA
    simp only [a08.l0] at H
    by_cases c10 : a7h < a1
    ·rw [if_pos c10] at H; have a9w := dt_ c10; clear c10; obtain ⟨a7f, c5X⟩ := si_ ((wrap64 (8 * a7h))); rw [c5X] at H; have e8a : (IntKind.i64.wrap (8 * a7h)) = a7f := (a0J _).trans c5X; have c12 := Z4 H; replace H := O5 H; have b0h := eq_true c12; have b6U := dt_ c12; clear c12; obtain ⟨d6t, d6u⟩ := si_ ((shr .u64 a0 (a7f))); rw [d6u] at H; have g3z : (a0 / 2 ^ min (a7f).toNat 64) = d6t := d6u; have g3A : (a7f) ≤ 64 → (a0 / 2 ^ (a7f).toNat) = d6t := b6g d6u; have b8W := a2x H; replace H := O5 H; have b80 := a2x H; replace H := O5 H; obtain ⟨f3x, d6v⟩ := is_ ((S9.set (a7h : Int).toNat ((d6t) % 256)) : List Int); rw [← d6v] at H; have f3y := a_ d6v; clear d6v; have H' := a_ H; clear H; have p16 : 0 ≤ (a7h : Int) := V5; have q16 : (a7h : Int) < ((S9.length : Int) : Int) := V5; obtain ⟨e8b, g3B, g3C, f3z, g3D, h3e, f3A⟩ := Kd.b77 a0V.out (by omega)
     (cases g3C)
     have g3E := a_ f3z; have h3f := a_ f3A; clear f3z g3D f3A; obtain ⟨g3F, e7P⟩ := Kd.b4T 0 a0V.out (a7h : Int) p16 q16; replace p16 := eq_true p16; replace q16 := eq_true q16; have e8c := Kd.c6U a0V.out (a7h : Int) ((d6t) % 256)
     go_wp2_with (first | ((with_reducible refine a6n (t := 5) (p := 27) rfl ?_); refine a5n (t := 5) (p := 27) (v := ?g3G) (w1 := (wr.setCell ⟨e8b, (a7h : Int).toNat, none⟩ (.int .u8 ((d6t) % 256)))) ?hg ?ho ?hn ?hr ?_; (case ho => rfl); (case hg => rfl); (case hn => rfl); (case hr => (go_simp; done)); intro w18 hw; have hg : wr.grownBy w18 (some e8b) := (by rw [hw]; exact e8c.2); have hp_ : Kd.R (Kd.int .u8) 5 w18 w.heap.size (fun _ => True) (.slice (some ⟨e8b, 0, none⟩) S9.length g3B) f3x := (by rw [hw, f3y.out]; exact e8c.1); clear e8c; replace a0V := a_ hp_; replace HB := a_ (by rw [hw]; exact o7 (HB.out) g3E.out : Below w.heap.size w w18); clear hg hw hp_))
     go_roundg k1
     case measure => have := HK1.out; omega
     case rel => exact ⟨(f3x), (wrap64 (a7h + 1)), (by rfl), H', ⟨by have := HK1.out; omega⟩, ⟨by exact a0V.out⟩, ⟨by exact HB.out⟩⟩
    ·rw [if_neg c10] at H; have a9w := df_ c10; clear c10
     by_cases c19 : a2 = true
     ·subst c19; rw [if_pos rfl] at H; obtain ⟨e78, A20, H⟩ := bd_ H
      (try dsimp only at H); obtain ⟨rfl, rfl⟩ := s2_ H; obtain ⟨b81, b82, c3j⟩ := Kd.G7 a0V.out; subst c3j
      go_wp2_with (first | (refine gl_ (some 31) Tryd.func90 #[.slice b81 S9.length b82] ?_; (with_reducible refine (D8.calls k1 (fun k_ => some k_ = (.slice b81 S9.length b82 : Value).ownBlock) (.slice b81 S9.length b82) S9 e78 w _ HB.out (Kd.a3v rfl a0V.out) A20.out).mono ?_); rintro e w22 ⟨rfl, hy0, hb, hkp⟩; refine ⟨_, rfl, ?_⟩; replace a0V := a_ (Kd.e7s rfl hy0 (fun k_ e_ => a0V.out.1 k_ e_)); replace HB := a_ hb; (try clear hb); (try clear hkp); (try clear hy0)))
      go_ret2
      exact ⟨_, by (rfl), by exact a0V.out, by exact HB.out⟩
     ·cases nt_ c19
      rw [if_neg a3X] at H; obtain ⟨rfl, rfl⟩ := s2_ H
      go_wp2
      go_ret2
      exact ⟨_, by (rfl), by exact a0V.out, by exact HB.out⟩
 ·cases nt_ c5
  rw [if_neg a3X] at H; obtain ⟨rfl, rfl⟩ := s2_ H
  go_enter Tryd.func72, Tryd.ntmps72
  go_wp2_with (first | (refine gl_ (some 12) Tryd.func89 #[.int .u64 a0, .int .i64 a1] ?_; (with_reducible refine (a2N.calls a0 a1 false _ A4.out).mono ?_); rintro e w' ⟨rfl, ⟨nd, rfl⟩⟩; refine ⟨_, rfl, ?_⟩))
  go_ret2
  exact ⟨_, by (rfl), by (exact Kd.Y2 _ _ _ _ _), by repeat (with_reducible first | exact HB.out | apply o9)⟩
def a0Q.l0 : Nat → Bool → Int → List Int → List Int → Int → Int → Option (List Int)
 | 0, _, _, _, _, _, _ => none
 | k + 1, x0, x1, x7, x12, x13, x14 => if x14 < x13 then (if 0 ≤ x14 then (if x14 < (x12.length : Int) then ((a08.f k (IntKind.u64.wrap (rd x12 x14)) x1 x0).bind fun e5v => (if x7.length + e5v.1.length < 140737488355328 then (a0Q.l0 k x0 x1 (x7 ++ e5v.1) x12 x13 (wrap64 (x14 + 1))) else (none))) else (none)) else (none)) else (some x7)
def a0Q.f (k : Nat) (a0 : Bool) (a1 : Int) (l2 : List Int) : Option (List Int) := a0Q.l0 k a0 a1 ([] : List Int) l2 (l2.length : Int) 0
theorem a0Q.calls (k : Nat) (a0 : Bool) (a1 : Int) (A2 : Option Addr) (c2 : Nat) (l2 : List Int) (r : List Int) (w : World) (hr2 : Kd.C (Kd.int .u32) w A2 l2.length l2) (hc2 : l2.length ≤ c2) (h : a0Q.f k a0 a1 l2 = some r) :
  Calls Tryd.prog 74 #[.bool a0, .int .i64 a1, .slice A2 l2.length c2] w fun e w' => ∃ v0_ : Value, e = .returned (v0_) ∧ Kd.R (Kd.int .u8) 5 w' w.heap.size (fun _ => True) v0_ r ∧ Below w.heap.size w w' := by
 have HR2 := a_ hr2
 have HC2 := a_ hc2
 clear hr2 hc2
 have HB := a_ (Below.refl w.heap.size w)
 have H := h
 clear h
 unfold a0Q.f at H
 have H' := a_ H
 clear H
 go_enter Tryd.func74, Tryd.ntmps74
 go_wp2
 go_loopg [7, 14] k (fun kq v7 v14 w' => ∃ (a2y : List Int) (a1Q : Int), v14 = .int .i64 a1Q ∧ Aside0 (a0Q.l0 kq a0 a1 a2y l2 (l2.length : Int) a1Q = some r) ∧ Aside0 (kq ≤ k) ∧ Aside0 (Kd.R (Kd.int .u8) 5 w' w.heap.size (fun _ => True) v7 a2y) ∧ Aside0 (Below w.heap.size w w'))
 case atStart => exact ⟨([] : List Int), (0), (by rfl), H', ⟨Nat.le_refl _⟩, ⟨by (exact Kd.Y2 _ _ _ _ _)⟩, ⟨by exact HB.out⟩⟩
 case round =>
  clear H'; obtain ⟨a2y, a1Q, rfl, HA, HK1, O7, HB⟩ := hrel
  cases gk with
  | zero => exact absurd HA.out (by simp [a0Q.l0])
  | succ k1 =>
   have H := HA.out; clear HA
   simp only [a0Q.l0] at H
   by_cases c4 : a1Q < (l2.length : Int)
   ·rw [if_pos c4] at H; have a4i := dt_ c4; clear c4; have a5H := a2x H; replace H := O5 H; have a8y := a2x H; replace H := O5 H; obtain ⟨⟨e1q, g3H⟩, A7, H⟩ := bd_ H
    (try dsimp only at H); have c8 := Z4 H; replace H := O5 H; have b6u := a_ c8; clear c8; obtain ⟨g3I, d6x⟩ := is_ ((a2y ++ e1q) : List Int); rw [← d6x] at H; have f3B := a_ d6x; clear d6x; have H' := a_ H; clear H; have e8d : 0 ≤ (a1Q : Int) := V5; have e8e : a1Q < (l2.length : Int) := V5; obtain ⟨g9c, e332, d0W⟩ := Kd.Q7 HR2.out a1Q e8d e8e
    cases e332
    replace d0W := cb_ HB d0W; replace e8d := eq_true e8d; replace e8e := eq_true e8e
    go_wp2_with (first | (refine gl_ (some 23) Tryd.func72 #[.int .u64 (IntKind.u64.wrap (rd l2 a1Q)), .int .i64 a1, .bool a0] ?_; (with_reducible refine (a08.calls k1 (IntKind.u64.wrap (rd l2 a1Q)) a1 a0 e1q g3H _ A7.out).mono ?_); rintro e w9 ⟨h3g, rfl, ho0, hb⟩; refine ⟨_, rfl, ?_⟩; have c5Y := rn_ ho0 O7 HB; replace O7 := rR_ O7 ho0 hb; replace HB := V3 HB hb; (try clear hb); (try clear ho0); obtain ⟨g3J, g3K, g3L⟩ := Kd.G7 c5Y.out; subst g3L) | ((with_reducible refine E8 (b := .append) (xs := #[.tmp 26, .tmp 27]) rfl ?_); at_builtin; refine Kd.P7 (Kd.int .u8) (w0 := w) w.heap.size rfl (.tmp 26) (.tmp 27) 22 5 (.int .u8 0) 1 rfl Tryd.underlying22 info5 rfl (by decide) (by omega) u7 a2y e1q _ _ _ (fun k_ => some k_ ≠ (.slice g3J e1q.length g3K : Value).ownBlock) (fun _ => False) rfl rfl ?aO ?aR (fun _ _ h => h) (fun _ h => h.elim) ?aF ?aB ?aS ?aL ?_; (case aR => exact (Kd.D9 c5Y.out).2.2); (case aB => exact HB.out); (case aF => exact (fun k_ hk => Kd.fresh' (Kd.a0i c5Y.out) k_ hk)); (case aO => exact (by exact Kd.D7 O7.out (fun _ hk => hk.2))); (case aS => exact (y5 HB.out)); (case aL => have := b6u.out; omega); intro h3h w10 ho hb hg hat; rw [← f3B.out] at ho; have f3C := a_ ho; replace c5Y := a_ (Kd.a0T (ok := (fun _ => True)) c5Y.out hg hat); replace HB := a_ hb; clear O7 ho hb hg hat))
    go_roundg k1
    case measure => have := HK1.out; omega
    case rel => exact ⟨(g3I), (wrap64 (a1Q + 1)), (by rfl), H', ⟨by have := HK1.out; omega⟩, ⟨by exact Kd.D7 f3C.out (fun _ hk => trivial)⟩, ⟨by exact HB.out⟩⟩
   ·rw [if_neg c4] at H; have a4i := df_ c4; clear c4; obtain rfl := oj_ H
    go_wp2
    go_ret
    exact ⟨_, by (rfl), by exact O7.out, by exact HB.out⟩
def a1C.l0 : Nat → List (S42) → Int → Int → Option (Bool)
 | 0, _, _, _ => none
 | k + 1, x0, x3, x4 => if x4 < (x0.length : Int) then (if x4 < 100 then (if 0 ≤ x4 then (a1C.l0 k x0 (wrap64 (x3 + (mn (((J5 x0 x4).f2).length : Int) 100000))) (wrap64 (x4 + 1))) else (none)) else (if (x0.length : Int) ≤ 60 then (some (decide (x3 ≤ 70000))) else (some false))) else (if (x0.length : Int) ≤ 60 then (some (decide (x3 ≤ 70000))) else (some false))
def a1C.f (k : Nat) (l0 : List (S42)) : Option (Bool) := a1C.l0 k l0 0 0
theorem a1C.calls (k : Nat) (A0 : Option Addr) (c0 : Nat) (l0 : List (S42)) (r : Bool) (w : World) (hr0 : Kd.C k42 w A0 l0.length l0) (hc0 : l0.length ≤ c0) (h : a1C.f k l0 = some r) :
  Calls Tryd.prog 13 #[.slice A0 l0.length c0] w fun e w' => e = .returned (.bool r) ∧ Below w.heap.size w w' := by
 have HR0 := a_ hr0
 have HC0 := a_ hc0
 clear hr0 hc0
 have HB := a_ (Below.refl w.heap.size w)
 have H := h
 clear h
 unfold a1C.f at H
 have H' := a_ H
 clear H
 go_enter Tryd.func13, Tryd.ntmps13
 go_wp2
 go_loopg [3, 4] k (fun kq v3 v4 w' => ∃ (a5j : Int) (a2O : Int), v3 = .int .i64 a5j ∧ v4 = .int .i64 a2O ∧ Aside0 (a1C.l0 kq l0 a5j a2O = some r) ∧ Aside0 (kq ≤ k) ∧ Aside0 (Below w.heap.size w w'))
 case atStart => exact ⟨(0), (0), (by rfl), (by rfl), H', ⟨Nat.le_refl _⟩, ⟨by exact HB.out⟩⟩
 case round =>
  clear H'; obtain ⟨a5j, a2O, rfl, rfl, HA, HK1, HB⟩ := hrel
  cases gk with
  | zero => exact absurd HA.out (by simp [a1C.l0])
  | succ k1 =>
   have H := HA.out; clear HA
   simp only [a1C.l0] at H
   by_cases c2 : a2O < (l0.length : Int)
   ·rw [if_pos c2] at H; have b2i := dt_ c2; clear c2
    by_cases c3 : a2O < 100
    ·rw [if_pos c3] at H; have a3T := dt_ c3; clear c3; have a4i := a2x H; replace H := O5 H; obtain ⟨ji5, c0c⟩ := si_ ((mn (((J5 l0 a2O).f2).length : Int) 100000)); rw [c0c] at H; have f3D : (if 100000 < (((J5 l0 a2O).f2).length : Int) then 100000 else (((J5 l0 a2O).f2).length : Int)) = ji5 := c0c; have H' := a_ H; clear H; have e8f : 0 ≤ (a2O : Int) := V5; have e8g : a2O < (l0.length : Int) := V5; obtain ⟨g9d, g3M, g3N, g3O, d0X, d0Y, d0Z, d00, d01⟩ := a3o HR0.out a2O e8f e8g
     cases g3O
     replace d0X := cb_ HB d0X; replace d0Y := cb_ HB d0Y; replace d0Z := cb_ HB d0Z; have g0a := a_ d01; have g0b := a_ d00; clear d01 d00; replace e8f := eq_true e8f; replace e8g := eq_true e8g
     go_wp2
     go_roundg k1
     case measure => have := HK1.out; omega
     case rel => exact ⟨(wrap64 (a5j + (ji5))), (wrap64 (a2O + 1)), (by rfl), (by rfl), H', ⟨by have := HK1.out; omega⟩, ⟨by exact HB.out⟩⟩
    ·rw [if_neg c3] at H; have a3T := df_ c3; clear c3
     by_cases c6 : (l0.length : Int) ≤ 60
     ·rw [if_pos c6] at H; have a8y := dt_ c6; have b5p : decide (l0.length ≤ 60) = true := dt_ (by omega); clear c6; obtain rfl := oj_ H
      go_wp2
      go_ret
      exact ⟨by (rfl), by exact HB.out⟩
     ·rw [if_neg c6] at H; have a8y := df_ c6; have b5p : decide (l0.length ≤ 60) = false := df_ (by omega); clear c6; obtain rfl := oj_ H
      go_wp2
      go_ret
      exact ⟨by (rfl), by exact HB.out⟩
   ·rw [if_neg c2] at H; have b2i := df_ c2; clear c2
    by_cases c7 : (l0.length : Int) ≤ 60
    ·rw [if_pos c7] at H; have a6f := dt_ c7; have b0g : decide (l0.length ≤ 60) = true := dt_ (by omega); clear c7; obtain rfl := oj_ H
     go_wp2
     go_ret
     exact ⟨by (rfl), by exact HB.out⟩
    ·rw [if_neg c7] at H; have a6f := df_ c7; have b0g : decide (l0.length ≤ 60) = false := df_ (by omega); clear c7; obtain rfl := oj_ H
     go_wp2
     go_ret
     exact ⟨by (rfl), by exact HB.out⟩
end Go.Proofs.YtgnonglkibhnhaaDoor.Print
