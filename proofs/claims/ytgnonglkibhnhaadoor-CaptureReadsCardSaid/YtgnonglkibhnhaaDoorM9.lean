-- laid together by this session's own program (wip/tools/merge.py) of texts that its program laid
import Derived.Test.YtgnonglkibhnhaaDoorF67
import Derived.Test.YtgnonglkibhnhaaDoorF69
import Derived.Test.YtgnonglkibhnhaaDoorM8
namespace Go.Proofs.YtgnonglkibhnhaaDoor.Print
open Go.RowKit Go.Proofs.YtgnonglkibhnhaaDoorW.PrintWords Go.Proofs.YtgnonglkibhnhaaDoorW.PrintLast Go.Proofs.YtgnonglkibhnhaaDoorW.PrintMore
attribute [local go_sem] a0n a0o a0P a0Q Y4 Y5 a0p a0q
set_option linter.unusedVariables false
set_option linter.unusedSimpArgs false
set_option maxHeartbeats 16000000
set_option maxRecDepth 100000
def X8.f (k : Nat) (l0 : List Int) (a1 : Int) (a2 : Bool) : Option (List (List Int)) := (umpireref07_All.f k l0 a1 a2).bind fun f0v => (some f0v.1)
theorem X8.calls (k : Nat) (P0_ : Nat → Prop) (A0 : Option Addr) (c0 : Nat) (l0 : List Int) (a1 : Int) (a2 : Bool) (r : List (List Int)) (w : World) (hs0 : Kd.V (Kd.int .u8) 5 w w.heap.size (fun k_ => P0_ k_) (.slice A0 l0.length c0) l0) (h : X8.f k l0 a1 a2 = some r) :
  Calls Tryd.prog 48 #[.slice A0 l0.length c0, .int .u32 a1, .bool a2] w fun e w' => ∃ v0_ : Value, e = .returned (v0_) ∧ Kd.N (Kd.slice 5 (Kd.int .u8)) 22 w' w.heap.size (fun k_ => (P0_ k_ ∨ w.heap.size ≤ k_)) v0_ r ∧ Below w.heap.size w w' := by
 have f0w := Tryd.underlying118
 have HO0 := a_ (show Kd.V (Kd.int .u8) 5 w w.heap.size (fun k_ => (P0_ k_ ∨ w.heap.size ≤ k_)) (.slice A0 l0.length c0) l0 from Kd.a3N hs0 (fun k_ hk => .inl hk))
 have HB := a_ (Below.refl w.heap.size w)
 have H := h
 clear h
 unfold X8.f at H
 obtain ⟨⟨g00, f0x, f0y, f0z, f0A, f0B⟩, A4, H⟩ := bd_ H
 try dsimp only at H
 obtain rfl := oj_ H
 go_enter Tryd.func48, Tryd.ntmps48
 go_wp2_with (first | (refine gl_ (some 13) Tryd.func67 #[.slice A0 l0.length c0, .int .u32 a1, .bool a2] ?_; (with_reducible refine (umpireref07_All.calls k (fun k_ => (P0_ k_ ∨ w.heap.size ≤ k_)) _ _ l0 a1 a2 g00 f0x f0y f0z f0A f0B _ HO0.out A4.out).mono ?_); rintro e w5 ⟨g9H, rfl, ho0, hb⟩; refine ⟨_, rfl, ?_⟩; have d4M := a_ (Kd.a7s (Kd.O7 (ok' := fun k_ => (P0_ k_ ∨ w.heap.size ≤ k_)) ho0 (fun k_ hk_ => Or.elim hk_ (fun hs_ => hs_) (fun hn_ => (.inr (Nat.le_trans (y5 HB.out) hn_))))) (y5 HB.out)); replace HO0 := a_ (Kd.a3D HO0.out (Kd.a4p ho0) hb); replace HB := U9 HB hb; (try clear hb); (try clear ho0)) | (refine be_ 8 #[.int .i64 0, .int .i64 0, .int .i64 0, .int .i64 0, .int .i64 0] 118 ?_; intro b8j hg w6 hbox hb; have f0C := a_ hbox; have f0D := lb_ HB hg; replace HO0 := a_ (Kd.a9d (Kd.a9J HO0.out b8j (Nat.le_of_eq hg.symm)) hb); replace d4M := Ne_ d4M hg hb; replace HB := U9 HB hb; clear hb hbox hg; obtain ⟨d4N, d4O, e5O, g01, g02, d4P, d4Q, e5P, g03, g04⟩ := c4C f0C.out))
 go_ret
 exact ⟨_, by (rfl), by exact Kd.O7 (Kd.a0J (p := ⟨b8j, 4, none⟩) (Kd.a0J (p := ⟨b8j, 3, none⟩) (Kd.a0J (p := ⟨b8j, 2, none⟩) (Kd.a0J (p := ⟨b8j, 1, none⟩) (Kd.a0J (p := ⟨b8j, 0, none⟩) (Kd.O7 d4M.out (fun k_ hk => (⟨hk, hk.2⟩ : _ ∧ k_ ≠ b8j))) (fun _ hk => hk.2) (.int .i64 f0x)) (fun _ hk => hk.2) (.int .i64 f0y)) (fun _ hk => hk.2) (.int .i64 f0z)) (fun _ hk => hk.2) (.int .i64 f0A)) (fun _ hk => hk.2) (.int .i64 f0B)) (fun _ hk => hk.1.1), by repeat (with_reducible first | exact HB.out | refine o7 ?_ f0D.out)⟩
def a2W.f (V4 : Int) (a0X : Int) (a3T : List Int) : Option (List Int) := (head_Put.f a0X true false).bind fun e3e => (if e3e.1.length + a3T.length < 140737488355328 then (some (e3e.1 ++ a3T)) else (none))
theorem a2W.calls (V4 : Int) (a0X : Int) (b2T : Option Addr) (b2U : Nat) (a3T : List Int) (r : List Int) (w : World) (b6k : Kd.C (Kd.int .u8) w b2T a3T.length a3T) (b6l : a3T.length ≤ b2U) (h : a2W.f V4 a0X a3T = some r) :
  Calls Tryd.prog 51 #[.agg #[.int .i64 V4, .int .i64 a0X, .slice b2T a3T.length b2U]] w fun e w' => ∃ v0_ : Value, e = .returned (v0_) ∧ Kd.R (Kd.int .u8) 5 w' w.heap.size (fun _ => True) v0_ r ∧ Below w.heap.size w w' := by
 have d2d := Tryd.underlying42
 have d4R := a_ b6k
 have e3f := a_ b6l
 clear b6k b6l
 have HB := a_ (Below.refl w.heap.size w)
 have H := h
 clear h
 unfold a2W.f at H
 obtain ⟨⟨e5Q, g05⟩, A2, H⟩ := bd_ H
 try dsimp only at H
 have c3 := Z7 H
 replace H := O5 H
 have e5R := a_ c3
 clear c3
 obtain ⟨g9I, d4S⟩ := is_ ((e5Q ++ a3T) : List Int)
 rw [← d4S] at H
 have f0E := a_ d4S
 clear d4S
 obtain rfl := oj_ H
 go_enter Tryd.func51, Tryd.ntmps51
 go_wp2_with (first | (refine be_ 1 #[.int .i64 V4, .int .i64 a0X, .slice b2T a3T.length b2U] 42 ?_; intro g6I hg w4 hbox hb; have b8k := a_ hbox; have g6J := lb_ HB hg; replace HB := U9 HB hb; clear hb hbox hg; obtain ⟨c1G, c1H, c1I, c1J, c1K, c1M⟩ := a1R b8k.out) | (refine gl_ (some 8) Tryd.func69 #[.int .i64 a0X, .bool true, .bool false] ?_; (with_reducible refine (head_Put.calls a0X true false e5Q g05 _ A2.out).mono ?_); rintro e w6 ⟨g06, rfl, ho0, hb⟩; refine ⟨_, rfl, ?_⟩; have d4T := rl_ ho0 HB; replace b8k := X4 b8k hb; replace HB := U9 HB hb; (try clear hb); (try clear ho0); obtain ⟨d4N, d4O, e5O, d4P, d4Q, e5P⟩ := a1R b8k.out) | ((with_reducible refine E5 (b := .append) (xs := #[.tmp 11, .tmp 13]) rfl ?_); at_builtin; refine Kd.P8 (Kd.int .u8) (w0 := w) w.heap.size rfl (.tmp 11) (.tmp 13) 22 5 (.int .u8 0) 1 rfl Tryd.underlying22 info5 rfl (by decide) (by omega) g06 e5Q a3T _ _ _ (fun _ => True) (fun _ => False) rfl rfl ?aO ?aR (fun _ _ h => h) (fun _ h => h.elim) ?aF ?aB ?aS ?aL ?_; (case aR => exact (Kd.C9 d4R.out HB.out)); (case aB => exact HB.out); (case aF => exact (fun _ _ => trivial)); (case aO => exact d4T.out); (case aS => exact (y5 HB.out)); (case aL => have := e5R.out; omega); intro g9J w8 ho hb hg hat; rw [← f0E.out] at ho; have f0F := a_ ho; replace b8k := a_ (N7 b8k.out hg (Kd.a8b d4T.out b8k.out (by decide))); replace HB := a_ hb; clear d4T ho hb hg hat))
 go_ret
 exact ⟨_, by (rfl), by exact f0F.out, by exact HB.out⟩
def a3H.j0 : Nat → Bool → Int → Int → List Int → Option (Bool)
 | 0, _, _, _, _ => none
 | k + 1, x11, b0F, b61, d9u => if x11 = true then (some false) else (if 0 ≤ b0F then (if b0F < 8 then (if ((P7 H6 b0F).f0 = true) then (if b61 = 0 then (some true) else (if ((P7 H6 b0F).f1) > 0 then ((a3P.f (IntKind.u64.wrap (b61)) ((P7 H6 b0F).f1)).bind fun e5S => (some e5S)) else (some false))) else (if (d9u.length : Int) > 0 then (some false) else (if b61 = 0 then (some true) else (if ((P7 H6 b0F).f1) > 0 then ((a3P.f (IntKind.u64.wrap (b61)) ((P7 H6 b0F).f1)).bind fun e5T => (some e5T)) else (some false))))) else (none)) else (none))
def a3H.f (k : Nat) (V4 : Int) (a0X : Int) (a3T : List Int) : Option (Bool) := if V4 < 1 then (a3H.j0 k true V4 a0X a3T) else (a3H.j0 k (decide (V4 > 7)) V4 a0X a3T)
theorem a3H.calls (k : Nat) (V4 : Int) (a0X : Int) (b2T : Option Addr) (b2U : Nat) (a3T : List Int) (r : Bool) (w : World) (hG0 : Kd.C b3v w (some ⟨0, 0, none⟩) 8 H6) (b6k : Kd.C (Kd.int .u8) w b2T a3T.length a3T) (b6l : a3T.length ≤ b2U) (h : a3H.f k V4 a0X a3T = some r) :
  Calls Tryd.prog 71 #[.agg #[.int .i64 V4, .int .u32 a0X, .slice b2T a3T.length b2U]] w fun e w' => e = .returned (.bool r) ∧ Below w.heap.size w w' := by
 have c6F := Tryd.underlying58
 have e2Y := Tryd.underlying131
 have d4R := a_ b6k
 have e3f := a_ b6l
 clear b6k b6l
 have a5T := a_ hG0
 clear hG0
 have HB := a_ (Below.refl w.heap.size w)
 have H := h
 clear h
 unfold a3H.f at H
 have HC2 := a_ H
 clear H
 go_enter Tryd.func71, Tryd.ntmps71
 go_upto_region 1 with (first | ((with_reducible refine X0 (N := 1) rfl ?_); (try (refine Y7 (by rfl) ?_; dsimp only)); refine be_ 1 #[.int .i64 V4, .int .u32 a0X, .slice b2T a3T.length b2U] 58 ?_; intro f0G hg w3 hbox hb; have a1Q := a_ hbox; have g6K := lb_ HB hg; replace HB := U9 HB hb; clear hb hbox hg))
 go_cut [11] (fun v11 wc => ∃ (kq : Nat) (a5m : Bool), v11 = .bool a5m ∧ Aside0 (a3H.j0 kq a5m V4 a0X a3T = some r) ∧ Aside0 (kq ≤ k) ∧ Aside0 (wc.heap[f0G]? = some (.cells #[.int .i64 V4, .int .u32 a0X, (.slice b2T a3T.length b2U)] 58 (0, 0))) ∧ Aside0 (Below w.heap.size w wc))
 case first =>
  have H := HC2.out; clear HC2
  by_cases c4 : V4 < 1
  ·rw [if_pos c4] at H; have a4d := dt_ c4; clear c4; have H' := a_ H; clear H; obtain ⟨c1G, c1H, c1I, c1J, c1K, c1M⟩ := a1R a1Q.out
   go_wp2
   go_meet
   case rel => exact ⟨_, (true), (by rfl), H', ⟨by (omega)⟩, ⟨by exact a1Q.out⟩, ⟨by exact HB.out⟩⟩
  ·rw [if_neg c4] at H; have a4d := df_ c4; clear c4; have H' := a_ H; clear H; obtain ⟨c6L, c6M, e5U, c6N, c6O, e5V⟩ := a1R a1Q.out
   go_wp2
   go_meet
   case rel => exact ⟨_, (decide (V4 > 7)), (by rfl), H', ⟨by (omega)⟩, ⟨by exact a1Q.out⟩, ⟨by exact HB.out⟩⟩
 case rest =>
  clear HC2; obtain ⟨kq, a5m, rfl, HA, HJ1, a1Q, HB⟩ := hcut
  cases kq with
  | zero => exact absurd HA.out (by simp [a3H.j0])
  | succ kj1 =>
   have H := HA.out; clear HA
   simp only [a3H.j0] at H
   by_cases c7 : a5m = true
   ·subst c7; rw [if_pos rfl] at H; obtain rfl := oj_ H
    go_wp2
    go_ret
    exact ⟨by (rfl), by exact HB.out⟩
   ·cases nt_ c7
    rw [if_neg a3S] at H; have b1u := a2z H; replace H := O5 H; have b1v := a2z H; replace H := O5 H; obtain ⟨g07, d4U⟩ : ∃ b_ : Bool, b_ = ((P7 H6 V4).f0) := ⟨_, rfl⟩; rw [← d4U] at H; have b8l := a_ d4U; clear d4U
    by_cases c11 : (g07 = true)
    ·subst c11; rw [if_pos rfl] at H
     by_cases c12 : a0X = 0
     ·rw [if_pos c12] at H; obtain ⟨a9S, b6m⟩ := bt_ c12; clear c12; obtain rfl := oj_ H; obtain ⟨b2y, b2z, b62, b2A, b2B, b63⟩ := a1R a1Q.out; have a7h : 0 ≤ (V4 : Int) := V9; have a5x : V4 < (H6.length : Int) := of_decide_eq_true (by (assumption)); obtain ⟨a9T, e294, a0v, a03⟩ := a7p a5T.out V4 a7h a5x
      (try rw [← b8l.out] at a0v)
      obtain rfl : (⟨0, 0, none⟩ : Addr) = a9T := (by injection e294)
      (simp only [add_plain] at a0v)
      (simp only [add_plain] at a03)
      replace a0v := cb_ HB a0v; replace a03 := cb_ HB a03; replace a7h := eq_true a7h; replace a5x := eq_true a5x; have b93 : (V4 < 8) = True := a5x
      go_wp2_with (first | ((with_reducible refine X0 (N := 3) rfl ?_); (try (refine Y7 (by rfl) ?_; dsimp only)); refine be_ 3 #[.bool false, .int .i64 0] 131 ?_; intro b94 hg w14 hbox hb; have a9U := a_ hbox; have a9V := lb_ HB hg; obtain ⟨a3d, a3e⟩ := nn_ a1Q hg; replace a1Q := X4 a1Q hb; replace HB := U9 HB hb; clear hb hbox hg; have g6L := a3e.out; have g6M := a3d.out; obtain ⟨c1N, c1O, c1P, c1Q⟩ := a1p a9U.out; obtain ⟨c1R, c1S, c1T, c1V, c1W, c1X⟩ := a1R a1Q.out))
      go_ret
      exact ⟨by (rfl), by repeat (with_reducible first | exact HB.out | refine o7 ?_ a9V.out)⟩
     ·rw [if_neg c12] at H; have a9S := bq_ c12; have b6m := bn_ c12
      by_cases c18 : ((P7 H6 V4).f1) > 0
      ·rw [if_pos c18] at H; have c8t : decide (0 < ((P7 H6 V4).f1)) = true := dt_ c18; clear c18; obtain ⟨e5S, A19, H⟩ := bd_ H
       (try dsimp only at H); obtain rfl := oj_ H; obtain ⟨c8U, c8V, c8W, c8X, c8Y, c8Z⟩ := a1R a1Q.out; have a7h : 0 ≤ (V4 : Int) := V9; have a5x : V4 < (H6.length : Int) := of_decide_eq_true (by (assumption)); obtain ⟨a9T, e294, a0v, a03⟩ := a7p a5T.out V4 a7h a5x
       (try rw [← b8l.out] at a0v)
       obtain rfl : (⟨0, 0, none⟩ : Addr) = a9T := (by injection e294)
       (simp only [add_plain] at a0v)
       (simp only [add_plain] at a03)
       replace a0v := cb_ HB a0v; replace a03 := cb_ HB a03; replace a7h := eq_true a7h; replace a5x := eq_true a5x; have b93 : (V4 < 8) = True := a5x
       go_wp2_with (first | ((with_reducible refine X0 (N := 3) rfl ?_); (try (refine Y7 (by rfl) ?_; dsimp only)); refine be_ 3 #[.bool false, .int .i64 0] 131 ?_; intro b94 hg w21 hbox hb; have a9U := a_ hbox; have a9V := lb_ HB hg; obtain ⟨a3d, a3e⟩ := nn_ a1Q hg; replace a1Q := X4 a1Q hb; replace HB := U9 HB hb; clear hb hbox hg; have f0H := a3e.out; have f0I := a3d.out; obtain ⟨b65, b66, b67, b68⟩ := a1p a9U.out; obtain ⟨b0A, b0B, b4H, b0C, b0D, b4I⟩ := a1R a1Q.out) | (go_at_call 89; (with_reducible refine (a3P.calls (IntKind.u64.wrap (a0X)) ((P7 H6 V4).f1) e5S _ A19.out).mono ?_); rintro e w' ⟨rfl, ⟨nd, rfl⟩⟩))
       go_ret
       exact ⟨by (rfl), by repeat (with_reducible first | exact HB.out | apply o9 | refine o7 ?_ a9V.out)⟩
      ·rw [if_neg c18] at H; have c8t : decide (0 < ((P7 H6 V4).f1)) = false := df_ c18; clear c18; obtain rfl := oj_ H; obtain ⟨c84, c86, f7n, c89, c9a, f7o⟩ := a1R a1Q.out; have a7h : 0 ≤ (V4 : Int) := V9; have a5x : V4 < (H6.length : Int) := of_decide_eq_true (by (assumption)); obtain ⟨a9T, e294, a0v, a03⟩ := a7p a5T.out V4 a7h a5x
       (try rw [← b8l.out] at a0v)
       obtain rfl : (⟨0, 0, none⟩ : Addr) = a9T := (by injection e294)
       (simp only [add_plain] at a0v)
       (simp only [add_plain] at a03)
       replace a0v := cb_ HB a0v; replace a03 := cb_ HB a03; replace a7h := eq_true a7h; replace a5x := eq_true a5x; have b93 : (V4 < 8) = True := a5x
       go_wp2_with (first | ((with_reducible refine X0 (N := 3) rfl ?_); (try (refine Y7 (by rfl) ?_; dsimp only)); refine be_ 3 #[.bool false, .int .i64 0] 131 ?_; intro b94 hg w26 hbox hb; have a9U := a_ hbox; have a9V := lb_ HB hg; obtain ⟨a3d, a3e⟩ := nn_ a1Q hg; replace a1Q := X4 a1Q hb; replace HB := U9 HB hb; clear hb hbox hg; have f0J := a3e.out; have f0K := a3d.out; obtain ⟨b2u, b2v, b2w, b2x⟩ := a1p a9U.out; obtain ⟨c9c, c9d, d9v, c9e, c9f, d9w⟩ := a1R a1Q.out))
       go_ret
       exact ⟨by (rfl), by repeat (with_reducible first | exact HB.out | refine o7 ?_ a9V.out)⟩
    ·cases nt_ c11
     rw [if_neg a3S] at H
     by_cases c30 : (a3T.length : Int) > 0
     ·rw [if_pos c30] at H; have f0L : decide (0 < (a3T.length : Int)) = true := dt_ c30; have f0M : decide (0 < a3T.length) = true := dt_ (by omega); clear c30; obtain rfl := oj_ H; obtain ⟨c1Y, c1Z, c2a, c2c, c2d, c2e⟩ := a1R a1Q.out; have a7h : 0 ≤ (V4 : Int) := V9; have a5x : V4 < (H6.length : Int) := of_decide_eq_true (by (assumption)); obtain ⟨a9T, e294, a0v, a03⟩ := a7p a5T.out V4 a7h a5x
      (try rw [← b8l.out] at a0v)
      obtain rfl : (⟨0, 0, none⟩ : Addr) = a9T := (by injection e294)
      (simp only [add_plain] at a0v)
      (simp only [add_plain] at a03)
      replace a0v := cb_ HB a0v; replace a03 := cb_ HB a03; replace a7h := eq_true a7h; replace a5x := eq_true a5x; have b93 : (V4 < 8) = True := a5x
      go_wp2_with (first | ((with_reducible refine X0 (N := 3) rfl ?_); (try (refine Y7 (by rfl) ?_; dsimp only)); refine be_ 3 #[.bool false, .int .i64 0] 131 ?_; intro b94 hg w32 hbox hb; have a9U := a_ hbox; have a9V := lb_ HB hg; obtain ⟨a3d, a3e⟩ := nn_ a1Q hg; replace a1Q := X4 a1Q hb; replace HB := U9 HB hb; clear hb hbox hg; have f0N := a3e.out; have f0O := a3d.out; obtain ⟨d9y, d9z, d9A, d9B⟩ := a1p a9U.out; obtain ⟨c9g, c9h, d9C, c9i, c9j, d9D⟩ := a1R a1Q.out))
      go_ret
      exact ⟨by (rfl), by repeat (with_reducible first | exact HB.out | refine o7 ?_ a9V.out)⟩
     ·rw [if_neg c30] at H; have f0L : decide (0 < (a3T.length : Int)) = false := df_ c30; have f0M : decide (0 < a3T.length) = false := df_ (by omega); clear c30
      by_cases c36 : a0X = 0
      ·rw [if_pos c36] at H; obtain ⟨e3h, e3i⟩ := bt_ c36; clear c36; obtain rfl := oj_ H; obtain ⟨f7p, f7q, f7r, f7s, f7t, f7u⟩ := a1R a1Q.out; have a7h : 0 ≤ (V4 : Int) := V9; have a5x : V4 < (H6.length : Int) := of_decide_eq_true (by (assumption)); obtain ⟨a9T, e294, a0v, a03⟩ := a7p a5T.out V4 a7h a5x
       (try rw [← b8l.out] at a0v)
       obtain rfl : (⟨0, 0, none⟩ : Addr) = a9T := (by injection e294)
       (simp only [add_plain] at a0v)
       (simp only [add_plain] at a03)
       replace a0v := cb_ HB a0v; replace a03 := cb_ HB a03; replace a7h := eq_true a7h; replace a5x := eq_true a5x; have b93 : (V4 < 8) = True := a5x
       go_wp2_with (first | ((with_reducible refine X0 (N := 3) rfl ?_); (try (refine Y7 (by rfl) ?_; dsimp only)); refine be_ 3 #[.bool false, .int .i64 0] 131 ?_; intro b94 hg w38 hbox hb; have a9U := a_ hbox; have a9V := lb_ HB hg; obtain ⟨a3d, a3e⟩ := nn_ a1Q hg; replace a1Q := X4 a1Q hb; replace HB := U9 HB hb; clear hb hbox hg; have f0P := a3e.out; have f0Q := a3d.out; obtain ⟨d9m, d9n, d9o, d9p⟩ := a1p a9U.out; obtain ⟨c8y, c8A, f7v, c8B, c8C, f7w⟩ := a1R a1Q.out))
       go_ret
       exact ⟨by (rfl), by repeat (with_reducible first | exact HB.out | refine o7 ?_ a9V.out)⟩
      ·rw [if_neg c36] at H; have e3h := bq_ c36; have e3i := bn_ c36
       by_cases c42 : ((P7 H6 V4).f1) > 0
       ·rw [if_pos c42] at H; have f0R : decide (0 < ((P7 H6 V4).f1)) = true := dt_ c42; clear c42; obtain ⟨e5T, A43, H⟩ := bd_ H
        (try dsimp only at H); obtain rfl := oj_ H; obtain ⟨d9E, d9F, d9G, d9H, d9I, d9J⟩ := a1R a1Q.out; have a7h : 0 ≤ (V4 : Int) := V9; have a5x : V4 < (H6.length : Int) := of_decide_eq_true (by (assumption)); obtain ⟨a9T, e294, a0v, a03⟩ := a7p a5T.out V4 a7h a5x
        (try rw [← b8l.out] at a0v)
        obtain rfl : (⟨0, 0, none⟩ : Addr) = a9T := (by injection e294)
        (simp only [add_plain] at a0v)
        (simp only [add_plain] at a03)
        replace a0v := cb_ HB a0v; replace a03 := cb_ HB a03; replace a7h := eq_true a7h; replace a5x := eq_true a5x; have b93 : (V4 < 8) = True := a5x
        go_wp2_with (first | ((with_reducible refine X0 (N := 3) rfl ?_); (try (refine Y7 (by rfl) ?_; dsimp only)); refine be_ 3 #[.bool false, .int .i64 0] 131 ?_; intro b94 hg w45 hbox hb; have a9U := a_ hbox; have a9V := lb_ HB hg; obtain ⟨a3d, a3e⟩ := nn_ a1Q hg; replace a1Q := X4 a1Q hb; replace HB := U9 HB hb; clear hb hbox hg; have f0S := a3e.out; have f0T := a3d.out; obtain ⟨d9K, d9L, d9M, d9N⟩ := a1p a9U.out; obtain ⟨d9O, d9P, f7x, d9Q, d9R, f7y⟩ := a1R a1Q.out) | (go_at_call 89; (with_reducible refine (a3P.calls (IntKind.u64.wrap (a0X)) ((P7 H6 V4).f1) e5T _ A43.out).mono ?_); rintro e w' ⟨rfl, ⟨nd, rfl⟩⟩))
        go_ret
        exact ⟨by (rfl), by repeat (with_reducible first | exact HB.out | apply o9 | refine o7 ?_ a9V.out)⟩
       ·rw [if_neg c42] at H; have f0R : decide (0 < ((P7 H6 V4).f1)) = false := df_ c42; clear c42; obtain rfl := oj_ H; obtain ⟨c9k, c9l, c9m, c9n, c9o, c9p⟩ := a1R a1Q.out; have a7h : 0 ≤ (V4 : Int) := V9; have a5x : V4 < (H6.length : Int) := of_decide_eq_true (by (assumption)); obtain ⟨a9T, e294, a0v, a03⟩ := a7p a5T.out V4 a7h a5x
        (try rw [← b8l.out] at a0v)
        obtain rfl : (⟨0, 0, none⟩ : Addr) = a9T := (by injection e294)
        (simp only [add_plain] at a0v)
        (simp only [add_plain] at a03)
        replace a0v := cb_ HB a0v; replace a03 := cb_ HB a03; replace a7h := eq_true a7h; replace a5x := eq_true a5x; have b93 : (V4 < 8) = True := a5x
        go_wp2_with (first | ((with_reducible refine X0 (N := 3) rfl ?_); (try (refine Y7 (by rfl) ?_; dsimp only)); refine be_ 3 #[.bool false, .int .i64 0] 131 ?_; intro b94 hg w50 hbox hb; have a9U := a_ hbox; have a9V := lb_ HB hg; obtain ⟨a3d, a3e⟩ := nn_ a1Q hg; replace a1Q := X4 a1Q hb; replace HB := U9 HB hb; clear hb hbox hg; have f0U := a3e.out; have f0V := a3d.out; obtain ⟨c9q, c9r, c9s, c9t⟩ := a1p a9U.out; obtain ⟨f7z, f7A, f7B, f7C, f7D, f7E⟩ := a1R a1Q.out))
        go_ret
        exact ⟨by (rfl), by repeat (with_reducible first | exact HB.out | refine o7 ?_ a9V.out)⟩
def F9.l0 : Nat → List Int → Int → Int → Option (List Int)
 | 0, _, _, _ => none
 | k + 1, x0, x2, x3 => if x2 < x3 then (if 0 ≤ x3 then (if x3 < (x0.length : Int) then (if 0 ≤ x2 then (if x2 < (x0.length : Int) then (F9.l0 k ((x0.set (x2 : Int).toNat (rd x0 x3)).set (x3 : Int).toNat (rd x0 x2)) (wrap64 (x2 + 1)) (wrap64 (x3 - 1))) else (none)) else (none)) else (none)) else (none)) else (some x0)
def F9.f (k : Nat) (l0 : List Int) : Option (List Int) := F9.l0 k l0 0 (wrap64 ((l0.length : Int) - 1))
def F9.T3 : Bool × List (List Nat × List Nat) := (true, [([], []), ([], []), ([], []), ([], []), ([], []), ([], []), ([4, 5], [4, 5]), ([6], [6]), ([], []), ([], []), ([8, 9], [8, 9]), ([10], [10]), ([0, 1, 0, 1, 4, 5, 6, 7, 11], [0, 1]), ([12, 7, 0, 1, 4, 5, 6, 7, 11], [7, 12]), ([2, 3, 0, 1, 2, 3, 4, 5, 6, 7, 8, 9, 10, 11, 12, 13], [2, 3]), ([14, 11, 13, 0, 1, 2, 3, 4, 5, 6, 7, 8, 9, 10, 11, 12, 13], [11, 14])])
def F9.B3 : List Nat := [0, 0, 0, 0, 0, 0, 48, 112, 0, 0, 768, 1792, 4083, 8179, 16383, 32767]
theorem F9.g08 : a3b .any (opsOf Tryd.f90 3) = F9.T3 := by kernel_rfl
theorem F9.f0W : a2C F9.T3.2 F9.B3 = true := by kernel_rfl
theorem F9.calls (k : Nat) (P0_ : Nat → Prop) (b0G : Value) (l0 : List Int) (r : List Int) (w0 w : World) (hB : Below w0.heap.size w0 w) (ho0 : Kd.R (Kd.int .u8) 5 w w0.heap.size P0_ b0G l0) (h : F9.f k l0 = some r) :
  Calls Tryd.prog 90 #[b0G] w fun e w' => e = .returned (.tuple #[]) ∧ Kd.R (Kd.int .u8) 5 w' w0.heap.size (fun k_ => (P0_ k_ ∨ w.heap.size ≤ k_)) b0G r ∧ Below w0.heap.size w0 w' ∧ Kept w w' (fun k_ => P0_ k_) := by
 have HO0 := a_ (show Kd.R (Kd.int .u8) 5 w w0.heap.size (fun k_ => (P0_ k_ ∨ w.heap.size ≤ k_)) b0G l0 from Kd.D7 ho0 (fun k_ hk => (.inl hk)))
 have HK := a_ (Kept.refl w (fun k_ => P0_ k_))
 have HW0 := a_ hB.size
 have HB := a_ hB
 clear hB
 have H := h
 clear h
 unfold F9.f at H
 have H' := a_ H
 clear H
 obtain ⟨Ao2, co2, eo2⟩ := Kd.G7 HO0.out
 subst eo2
 go_enter Tryd.func90, Tryd.ntmps90
 go_wp2
 go_loopg [2, 3] k (fun kq v2 v3 w' => ∃ (a5M : List Int) (b1D : Int) (a5c : Int), v2 = .int .i64 b1D ∧ v3 = .int .i64 a5c ∧ Aside0 (F9.l0 kq a5M b1D a5c = some r) ∧ Aside0 (kq ≤ k) ∧ Aside0 (Kd.R (Kd.int .u8) 5 w' w0.heap.size (fun k_ => (P0_ k_ ∨ w.heap.size ≤ k_)) (.slice Ao2 l0.length co2) a5M) ∧ Aside0 (Kept w w' (fun k_ => P0_ k_)) ∧ Aside0 (Below w0.heap.size w0 w'))
 case atStart => exact ⟨(l0), (0), (wrap64 ((l0.length : Int) - 1)), (by rfl), (by rfl), H', ⟨Nat.le_refl _⟩, ⟨by exact HO0.out⟩, ⟨by exact HK.out⟩, ⟨by exact HB.out⟩⟩
 case round =>
  clear H'; obtain ⟨a5M, b1D, a5c, rfl, rfl, HA, HK1, a8V, HK, HB⟩ := hrel; have c9u := (Kd.E8 a8V.out).1; rw [c9u] at a8V
  (try simp only [c9u])
  cases gk with
  | zero => exact absurd HA.out (by simp [F9.l0])
  | succ k1 =>
   have H := HA.out; clear HA
   simp only [F9.l0] at H
   by_cases c3 : b1D < a5c
   ·rw [if_pos c3] at H; have a3O := dt_ c3; clear c3; have a4d := a2z H; replace H := O5 H; have a5y := a2z H; replace H := O5 H; have a8h := a2z H; replace H := O5 H; have a5U := a2z H; replace H := O5 H; obtain ⟨g09, d4V⟩ := is_ ((a5M.set (b1D : Int).toNat (rd a5M a5c)) : List Int); rw [← d4V] at H; have f0X := a_ d4V; clear d4V; obtain ⟨g1a, d4W⟩ := is_ ((g09.set (a5c : Int).toNat (rd a5M b1D)) : List Int); rw [← d4W] at H; have f0Y := a_ d4W; clear d4W; have H' := a_ H; clear H
    try go_wp2
    replace a8V := a_ (Kd.b7u a8V.out); replace HK := a_ (Kept.drew HK.out); replace HB := a_ (Y3 HB.out); have g9O : (0 ≤ (a5c : Int)) = True := et_; have g9P : (a5c < (a5M.length : Int)) = True := et_; obtain ⟨f0Z, e298, c2f⟩ := Kd.Q8 (Kd.E8 a8V.out).2.2 a5c V9 V9
    cases e298
    have g9Q : (0 ≤ (b1D : Int)) = True := et_; have g9R : (b1D < (a5M.length : Int)) = True := et_; obtain ⟨f00, e299, c2g⟩ := Kd.Q8 (Kd.E8 a8V.out).2.2 b1D V9 V9; obtain rfl : f0Z = f00 := (by injection e299); have p8 : 0 ≤ (b1D : Int) := V9; have q8 : (b1D : Int) < ((a5M.length : Int) : Int) := V9; obtain ⟨go8, co8, eo8, gb8, gl8, cl8, HG8⟩ := Kd.c5Q a8V.out (by omega)
    (cases eo8)
    have GB8 := a_ gb8; have GG8 := a_ HG8; clear gb8 gl8 HG8; have f01 := a_ (show (P0_ go8 ∨ w.heap.size ≤ go8) from (a8V.out.1 _ rfl))
    (simp only [add_plain] at c2f)
    (simp only [add_plain] at c2g)
    obtain ⟨f02, b95⟩ := Kd.c0K 0 a8V.out (b1D : Int) p8 q8; replace p8 := eq_true p8; replace q8 := eq_true q8; have e5W := Kd.d28 a8V.out (b1D : Int) (rd a5M a5c); rw [← f0X.out] at e5W; have e5X := a_ e5W; clear e5W; have p9 : (0 ≤ (a5c : Int)) = True := et_; have q9 : ((a5c : Int) < ((a5M.length : Int) : Int)) = True := et_; obtain ⟨f03, c4J⟩ := Kd.c0K 0 e5X.out (a5c : Int) V9 V9; have e5Y := Kd.d28 e5X.out (a5c : Int) (rd a5M b1D); rw [← f0Y.out] at e5Y; have f04 := a_ e5Y; clear e5Y; refine a2x (n := 16) (S := fun w' => w'.cell? ⟨go8, (a5c).toNat, none⟩ = some (.int .u8 (rd a5M a5c)) ∧ w'.cell? ⟨go8, (b1D).toNat, none⟩ = some (.int .u8 (rd a5M b1D))) (ds := [13, 15]) (bo_ 16 0) (by kernel_rfl) rfl rfl ⟨c2f, c2g⟩ (fun hHeld => ?_); refine a2D F9.g08 F9.f0W (fun Z8 HW_ => ?_); generalize wr.drew = w10 at a8V HK HB GG8 e5X f04 b95 c4J c2f c2g f02 f03 hHeld ⊢; refine pu_ 0 (some 14) Z8 ?_; refine pu_ 1 (some 15) Z8 ?_; refine pu_ 2 (some 16) Z8 ?_; refine pu_ 3 (some 17) Z8 ?_; refine pu_ 4 (some 18) Z8 ?_; refine pu_ 5 (some 19) Z8 ?_; refine pu_ 6 (some 20) Z8 ?_; refine pu_ 8 (some 22) Z8 ?_; refine pu_ 9 (some 23) Z8 ?_; refine pu_ 10 (some 24) Z8 ?_; refine a1w (i := 7) (N := some 21) (v := ?_) (a' := ?_) (bo_ 16 2047) rfl rfl (a1x Z8.out HW_.out (by kernel_rfl)) (fun _ _ _ h => h) (Or.inl ⟨by rfl, ?_⟩) hHeld ?_ ?_
    rotate_left
    ·rintro w' ⟨s0, s1⟩
     go_simp
     with_reducible rfl
    rotate_left
    ·simp only [Act.put, List.setIfInBounds_toArray, List.set_cons_zero, List.set_cons_succ, a0I, a1W]
     rfl
    refine a1w (i := 11) (N := some 25) (v := ?_) (a' := ?_) (bo_ 16 4095) rfl rfl (a1x Z8.out HW_.out (by kernel_rfl)) (fun _ _ _ h => h) (Or.inl ⟨by rfl, ?_⟩) hHeld ?_ ?_
    rotate_left
    ·rintro w' ⟨s0, s1⟩
     go_simp
     with_reducible rfl
    rotate_left
    ·simp only [Act.put, List.setIfInBounds_toArray, List.set_cons_zero, List.set_cons_succ, a0I, a1W]
     rfl
    refine pu_ 12 (some 26) Z8 ?_; refine b1k (i := 13) (N := none) (bo_ 16 16383) rfl rfl (a1I Z8.out (by kernel_rfl)) (by decide) (fun K hK => ?_); refine a7x (w1 := ?_) (by rfl) rfl ?_ ?_
    rotate_left
    ·go_simp
     rfl
    refine hK.out _ _ ?_; clear hK K; refine pu_ 14 (some 27) Z8 ?_; refine b1k (i := 15) (N := none) (bo_ 16 65535) rfl rfl (a1I Z8.out (by kernel_rfl)) (by decide) (fun K hK => ?_); refine a7x (w1 := ?_) (by rfl) rfl ?_ ?_
    rotate_left
    ·go_simp
     rfl
    refine hK.out _ _ ?_; clear hK K; refine a4y (a5v Z8.out (by kernel_rfl)) ?_
    try go_wp2
    (try simp only [← c9u])
    go_roundg k1
    case measure => have := HK1.out; omega
    case rel => exact ⟨(g1a), (wrap64 (b1D + 1)), (wrap64 (a5c - 1)), (by rfl), (by rfl), H', ⟨by have := HK1.out; omega⟩, ⟨by (try simp only [c9u]); exact f04.out⟩, ⟨by repeat (with_reducible first | exact HK.out | refine Kept.setCell ?_ f01.out _)⟩, ⟨by repeat (with_reducible first | exact HB.out | refine o7 ?_ GB8.out)⟩⟩
   ·rw [if_neg c3] at H; have a3O := df_ c3; clear c3; obtain rfl := oj_ H
    go_wp2
    (go_end0)
    exact ⟨by (rfl), a8V.out, by exact HB.out, by exact HK.out⟩
def a3c.l0 : Nat → Int → Bool → List Int → Int → Int → Option (List Int × Bool)
 | 0, _, _, _, _, _ => none
 | k + 1, x0, x2, x8, x16, x17 => if x17 < x16 then (if 0 ≤ (wrap64 (8 * x17)) then (if 0 ≤ x17 then (if x17 < (x8.length : Int) then (a3c.l0 k x0 x2 (x8.set (x17 : Int).toNat ((shr .u64 x0 (wrap64 (8 * x17))) % 256)) x16 (wrap64 (x17 + 1))) else (none)) else (none)) else (none)) else (if x2 = true then ((F9.f k x8).bind fun e5Z => (some (e5Z, true))) else (some (x8, true)))
def a3c.f (k : Nat) (a0 : Int) (a1 : Int) (a2 : Bool) : Option (List Int × Bool) := (a3P.f a0 a1).bind fun e6a => (if e6a = true then (if 0 ≤ a1 then (if (a1 : Int).toNat ≤ 281474976710656 then (a3c.l0 k a0 a2 (List.replicate (a1 : Int).toNat 0) a1 0) else (none)) else (none)) else (some (([] : List Int), false)))
theorem a3c.calls (k : Nat) (a0 : Int) (a1 : Int) (a2 : Bool) (r1 : List Int) (r2 : Bool) (w : World) (h : a3c.f k a0 a1 a2 = some (r1, r2)) :
  Calls Tryd.prog 72 #[.int .u64 a0, .int .i64 a1, .bool a2] w fun e w' => ∃ v0_ : Value, e = .returned (.tuple #[v0_, .bool r2]) ∧ Kd.R (Kd.int .u8) 5 w' w.heap.size (fun _ => True) v0_ r1 ∧ Below w.heap.size w w' := by
 have HB := a_ (Below.refl w.heap.size w)
 have H := h
 clear h
 unfold a3c.f at H
 obtain ⟨e6a, A4, H⟩ := bd_ H
 try dsimp only at H
 by_cases c5 : e6a = true
 ·subst c5; rw [if_pos rfl] at H; have c6 := Z7 H; replace H := O5 H; have a8h := eq_true c6; have b4N := dt_ c6; clear c6; have c7 := Z7 H; replace H := O5 H; have a5U := eq_true c7; have a9R := dt_ c7; clear c7; obtain ⟨g1c, d4X⟩ := is_ ((List.replicate (a1 : Int).toNat 0) : List Int); rw [← d4X] at H; have f05 := a_ d4X; clear d4X; have H' := a_ H; clear H
  go_enter Tryd.func72, Tryd.ntmps72
  go_wp2_with (first | (refine gl_ (some 12) Tryd.func89 #[.int .u64 a0, .int .i64 a1] ?_; (with_reducible refine (a3P.calls a0 a1 true _ A4.out).mono ?_); rintro e w' ⟨rfl, ⟨nd, rfl⟩⟩; refine ⟨_, rfl, ?_⟩) | ((with_reducible refine X0 (N := 15) rfl ?_); refine Kd.e4T (Kd.int .u8) _ 5 rfl (N := 15) rfl 22 _ _ rfl a1 rfl rfl Tryd.underlying22 (.int .u8 0) 1 info5 rfl (by decide) (by omega) 0 (ok := fun _ => True) (okp := fun _ => True) rfl (fun _ hk => hk) trivial (V9) (Nat.le_trans (Nat.mul_le_mul_right _ (V9 : a1.toNat ≤ 281474976710656)) (by omega)) (Below.refl _ _) (Nat.le_refl _) ?_; intro g1d w8 ho9 hb hg_ a1B; clear hg_ a1B; (rw [← f05.out] at ho9); have f06 := a_ (Kd.a0e ho9 (y5 (by repeat (with_reducible first | exact HB.out | apply o9)))); replace HB := a_ (J4 (by repeat (with_reducible first | exact HB.out | apply o9)) hb); clear hb ho9))
  go_loopg [17] k (fun kq v17 w' => ∃ (Q7 : List Int) (a6X : Int), v17 = .int .i64 a6X ∧ Aside0 (a3c.l0 kq a0 a2 Q7 a1 a6X = some (r1, r2)) ∧ Aside0 (kq ≤ k) ∧ Aside0 (Kd.R (Kd.int .u8) 5 w' w.heap.size (fun _ => True) g1d Q7) ∧ Aside0 (Below w.heap.size w w'))
  case atStart => exact ⟨(g1c), (0), (by rfl), H', ⟨Nat.le_refl _⟩, ⟨by exact f06.out⟩, ⟨by exact HB.out⟩⟩
  case round =>
   clear H'
   try clear a8h
   try clear b4N
   try clear a5U
   try clear a9R
   obtain ⟨Q7, a6X, rfl, HA, HK1, a2I, HB⟩ := hrel
   cases gk with
   | zero => exact absurd HA.out (by simp [a3c.l0])
   | succ k1 =>
    have H := HA.out; clear HA
    simp only [a3c.l0] at H
    by_cases c10 : a6X < a1
    ·rw [if_pos c10] at H; have a9e := dt_ c10; clear c10; obtain ⟨a6T, c4K⟩ := si_ ((wrap64 (8 * a6X))); rw [c4K] at H; have e6b : (IntKind.i64.wrap (8 * a6X)) = a6T := (a0I _).trans c4K; have c12 := Z7 H; replace H := O5 H; have a9S := eq_true c12; have b6m := dt_ c12; clear c12; obtain ⟨d4Y, d4Z⟩ := si_ ((shr .u64 a0 (a6T))); rw [d4Z] at H; have g1f : (a0 / 2 ^ min (a6T).toNat 64) = d4Y := d4Z; have g1g : (a6T) ≤ 64 → (a0 / 2 ^ (a6T).toNat) = d4Y := b5F d4Z; have b8i := a2z H; replace H := O5 H; have c4M := a2z H; replace H := O5 H; obtain ⟨f07, d40⟩ := is_ ((Q7.set (a6X : Int).toNat ((d4Y) % 256)) : List Int); rw [← d40] at H; have f08 := a_ d40; clear d40; have H' := a_ H; clear H; have p16 : 0 ≤ (a6X : Int) := V9; have q16 : (a6X : Int) < ((Q7.length : Int) : Int) := V9; obtain ⟨e6c, g1h, g1i, f09, g1j, g9V, f1b⟩ := Kd.c5Q a2I.out (by omega)
     (cases g1i)
     have g1l := a_ f09; have g9W := a_ f1b; clear f09 g1j f1b; obtain ⟨g1m, e5H⟩ := Kd.c0K 0 a2I.out (a6X : Int) p16 q16; replace p16 := eq_true p16; replace q16 := eq_true q16; have e6d := Kd.e4W a2I.out (a6X : Int) ((d4Y) % 256)
     go_wp2_with (first | ((with_reducible refine a8E (t := 5) (p := 27) rfl ?_); refine a7w (t := 5) (p := 27) (v := ?g1n) (w1 := (wr.setCell ⟨e6c, (a6X : Int).toNat, none⟩ (.int .u8 ((d4Y) % 256)))) ?hg ?ho ?hn ?hr ?_; (case ho => rfl); (case hg => rfl); (case hn => rfl); (case hr => (go_simp; done)); intro w18 hw; have hg : wr.grownBy w18 (some e6c) := (by rw [hw]; exact e6d.2); have hp_ : Kd.R (Kd.int .u8) 5 w18 w.heap.size (fun _ => True) (.slice (some ⟨e6c, 0, none⟩) Q7.length g1h) f07 := (by rw [hw, f08.out]; exact e6d.1); clear e6d; replace a2I := a_ hp_; replace HB := a_ (by rw [hw]; exact o7 (HB.out) g1l.out : Below w.heap.size w w18); clear hg hw hp_))
     go_roundg k1
     case measure => have := HK1.out; omega
     case rel => exact ⟨(f07), (wrap64 (a6X + 1)), (by rfl), H', ⟨by have := HK1.out; omega⟩, ⟨by exact a2I.out⟩, ⟨by exact HB.out⟩⟩
    ·rw [if_neg c10] at H; have a9e := df_ c10; clear c10
     by_cases c19 : a2 = true
     ·subst c19; rw [if_pos rfl] at H; obtain ⟨e5Z, A20, H⟩ := bd_ H
      (try dsimp only at H); obtain ⟨rfl, rfl⟩ := s2_ H; obtain ⟨b8m, b8n, c2h⟩ := Kd.G7 a2I.out; subst c2h
      go_wp2_with (first | (refine gl_ (some 31) Tryd.func90 #[.slice b8m Q7.length b8n] ?_; (with_reducible refine (F9.calls k1 (fun k_ => some k_ = (.slice b8m Q7.length b8n : Value).ownBlock) (.slice b8m Q7.length b8n) Q7 e5Z w _ HB.out (Kd.a3r rfl a2I.out) A20.out).mono ?_); rintro e w22 ⟨rfl, hy0, hb, hkp⟩; refine ⟨_, rfl, ?_⟩; replace a2I := a_ (Kd.e5i rfl hy0 (fun k_ e_ => a2I.out.1 k_ e_)); replace HB := a_ hb; (try clear hb); (try clear hkp); (try clear hy0)))
      go_ret2
      exact ⟨_, by (rfl), by exact a2I.out, by exact HB.out⟩
     ·cases nt_ c19
      rw [if_neg a3S] at H; obtain ⟨rfl, rfl⟩ := s2_ H
      go_wp2
      go_ret2
      exact ⟨_, by (rfl), by exact a2I.out, by exact HB.out⟩
 ·cases nt_ c5
  rw [if_neg a3S] at H; obtain ⟨rfl, rfl⟩ := s2_ H
  go_enter Tryd.func72, Tryd.ntmps72
  go_wp2_with (first | (refine gl_ (some 12) Tryd.func89 #[.int .u64 a0, .int .i64 a1] ?_; (with_reducible refine (a3P.calls a0 a1 false _ A4.out).mono ?_); rintro e w' ⟨rfl, ⟨nd, rfl⟩⟩; refine ⟨_, rfl, ?_⟩))
  go_ret2
  exact ⟨_, by (rfl), by (exact Kd.Y1 _ _ _ _ _), by repeat (with_reducible first | exact HB.out | apply o9)⟩
def a1C.l0 : Nat → Bool → Int → List Int → List Int → Int → Int → Option (List Int)
 | 0, _, _, _, _, _, _ => none
 | k + 1, x0, x1, x7, x12, x13, x14 => if x14 < x13 then (if 0 ≤ x14 then (if x14 < (x12.length : Int) then ((a3c.f k (IntKind.u64.wrap (rd x12 x14)) x1 x0).bind fun e3j => (if x7.length + e3j.1.length < 140737488355328 then (a1C.l0 k x0 x1 (x7 ++ e3j.1) x12 x13 (wrap64 (x14 + 1))) else (none))) else (none)) else (none)) else (some x7)
def a1C.f (k : Nat) (a0 : Bool) (a1 : Int) (l2 : List Int) : Option (List Int) := a1C.l0 k a0 a1 ([] : List Int) l2 (l2.length : Int) 0
theorem a1C.calls (k : Nat) (a0 : Bool) (a1 : Int) (A2 : Option Addr) (c2 : Nat) (l2 : List Int) (r : List Int) (w : World) (hr2 : Kd.C (Kd.int .u32) w A2 l2.length l2) (hc2 : l2.length ≤ c2) (h : a1C.f k a0 a1 l2 = some r) :
  Calls Tryd.prog 74 #[.bool a0, .int .i64 a1, .slice A2 l2.length c2] w fun e w' => ∃ v0_ : Value, e = .returned (v0_) ∧ Kd.R (Kd.int .u8) 5 w' w.heap.size (fun _ => True) v0_ r ∧ Below w.heap.size w w' := by
 have HR2 := a_ hr2
 have HC2 := a_ hc2
 clear hr2 hc2
 have HB := a_ (Below.refl w.heap.size w)
 have H := h
 clear h
 unfold a1C.f at H
 have H' := a_ H
 clear H
 go_enter Tryd.func74, Tryd.ntmps74
 go_wp2
 go_loopg [7, 14] k (fun kq v7 v14 w' => ∃ (a2s : List Int) (a1D : Int), v14 = .int .i64 a1D ∧ Aside0 (a1C.l0 kq a0 a1 a2s l2 (l2.length : Int) a1D = some r) ∧ Aside0 (kq ≤ k) ∧ Aside0 (Kd.R (Kd.int .u8) 5 w' w.heap.size (fun _ => True) v7 a2s) ∧ Aside0 (Below w.heap.size w w'))
 case atStart => exact ⟨([] : List Int), (0), (by rfl), H', ⟨Nat.le_refl _⟩, ⟨by (exact Kd.Y1 _ _ _ _ _)⟩, ⟨by exact HB.out⟩⟩
 case round =>
  clear H'; obtain ⟨a2s, a1D, rfl, HA, HK1, U4, HB⟩ := hrel
  cases gk with
  | zero => exact absurd HA.out (by simp [a1C.l0])
  | succ k1 =>
   have H := HA.out; clear HA
   simp only [a1C.l0] at H
   by_cases c4 : a1D < (l2.length : Int)
   ·rw [if_pos c4] at H; have a4d := dt_ c4; clear c4; have a5y := a2z H; replace H := O5 H; have a8h := a2z H; replace H := O5 H; obtain ⟨⟨d9S, g1p⟩, A7, H⟩ := bd_ H
    (try dsimp only at H); have c8 := Z7 H; replace H := O5 H; have b5T := a_ c8; clear c8; obtain ⟨g1q, d42⟩ := is_ ((a2s ++ d9S) : List Int); rw [← d42] at H; have f1c := a_ d42; clear d42; have H' := a_ H; clear H; have e6e : 0 ≤ (a1D : Int) := V9; have e6f : a1D < (l2.length : Int) := V9; obtain ⟨g6Q, e332, c9v⟩ := Kd.Q8 HR2.out a1D e6e e6f
    cases e332
    replace c9v := cb_ HB c9v; replace e6e := eq_true e6e; replace e6f := eq_true e6f
    go_wp2_with (first | (refine gl_ (some 23) Tryd.func72 #[.int .u64 (IntKind.u64.wrap (rd l2 a1D)), .int .i64 a1, .bool a0] ?_; (with_reducible refine (a3c.calls k1 (IntKind.u64.wrap (rd l2 a1D)) a1 a0 d9S g1p _ A7.out).mono ?_); rintro e w9 ⟨g9X, rfl, ho0, hb⟩; refine ⟨_, rfl, ?_⟩; have c4N := rn_ ho0 U4 HB; replace U4 := rR_ U4 ho0 hb; replace HB := U9 HB hb; (try clear hb); (try clear ho0); obtain ⟨g1r, g1s, g1t⟩ := Kd.G7 c4N.out; subst g1t) | ((with_reducible refine E5 (b := .append) (xs := #[.tmp 26, .tmp 27]) rfl ?_); at_builtin; refine Kd.P8 (Kd.int .u8) (w0 := w) w.heap.size rfl (.tmp 26) (.tmp 27) 22 5 (.int .u8 0) 1 rfl Tryd.underlying22 info5 rfl (by decide) (by omega) u7 a2s d9S _ _ _ (fun k_ => some k_ ≠ (.slice g1r d9S.length g1s : Value).ownBlock) (fun _ => False) rfl rfl ?aO ?aR (fun _ _ h => h) (fun _ h => h.elim) ?aF ?aB ?aS ?aL ?_; (case aR => exact (Kd.E8 c4N.out).2.2); (case aB => exact HB.out); (case aF => exact (fun k_ hk => Kd.fresh' (Kd.a0m c4N.out) k_ hk)); (case aO => exact (by exact Kd.D7 U4.out (fun _ hk => hk.2))); (case aS => exact (y5 HB.out)); (case aL => have := b5T.out; omega); intro g9Y w10 ho hb hg hat; rw [← f1c.out] at ho; have f1d := a_ ho; replace c4N := a_ (Kd.a0R (ok := (fun _ => True)) c4N.out hg hat); replace HB := a_ hb; clear U4 ho hb hg hat))
    go_roundg k1
    case measure => have := HK1.out; omega
    case rel => exact ⟨(g1q), (wrap64 (a1D + 1)), (by rfl), H', ⟨by have := HK1.out; omega⟩, ⟨by exact Kd.D7 f1d.out (fun _ hk => trivial)⟩, ⟨by exact HB.out⟩⟩
   ·rw [if_neg c4] at H; have a4d := df_ c4; clear c4; obtain rfl := oj_ H
    go_wp2
    go_ret
    exact ⟨_, by (rfl), by exact U4.out, by exact HB.out⟩
def a1s.l0 : Nat → List (S42) → Int → Int → Option (Bool)
 | 0, _, _, _ => none
 | k + 1, x0, x3, x4 => if x4 < (x0.length : Int) then (if x4 < 100 then (if 0 ≤ x4 then (a1s.l0 k x0 (wrap64 (x3 + (mn (((J5 x0 x4).f2).length : Int) 100000))) (wrap64 (x4 + 1))) else (none)) else (if (x0.length : Int) ≤ 60 then (some (decide (x3 ≤ 70000))) else (some false))) else (if (x0.length : Int) ≤ 60 then (some (decide (x3 ≤ 70000))) else (some false))
def a1s.f (k : Nat) (l0 : List (S42)) : Option (Bool) := a1s.l0 k l0 0 0
theorem a1s.calls (k : Nat) (A0 : Option Addr) (c0 : Nat) (l0 : List (S42)) (r : Bool) (w : World) (hr0 : Kd.C k42 w A0 l0.length l0) (hc0 : l0.length ≤ c0) (h : a1s.f k l0 = some r) :
  Calls Tryd.prog 13 #[.slice A0 l0.length c0] w fun e w' => e = .returned (.bool r) ∧ Below w.heap.size w w' := by
 have HR0 := a_ hr0
 have HC0 := a_ hc0
 clear hr0 hc0
 have HB := a_ (Below.refl w.heap.size w)
 have H := h
 clear h
 unfold a1s.f at H
 have H' := a_ H
 clear H
 go_enter Tryd.func13, Tryd.ntmps13
 go_wp2
 go_loopg [3, 4] k (fun kq v3 v4 w' => ∃ (a5c : Int) (a2H : Int), v3 = .int .i64 a5c ∧ v4 = .int .i64 a2H ∧ Aside0 (a1s.l0 kq l0 a5c a2H = some r) ∧ Aside0 (kq ≤ k) ∧ Aside0 (Below w.heap.size w w'))
 case atStart => exact ⟨(0), (0), (by rfl), (by rfl), H', ⟨Nat.le_refl _⟩, ⟨by exact HB.out⟩⟩
 case round =>
  clear H'; obtain ⟨a5c, a2H, rfl, rfl, HA, HK1, HB⟩ := hrel
  cases gk with
  | zero => exact absurd HA.out (by simp [a1s.l0])
  | succ k1 =>
   have H := HA.out; clear HA
   simp only [a1s.l0] at H
   by_cases c2 : a2H < (l0.length : Int)
   ·rw [if_pos c2] at H; have b1A := dt_ c2; clear c2
    by_cases c3 : a2H < 100
    ·rw [if_pos c3] at H; have a3O := dt_ c3; clear c3; have a4d := a2z H; replace H := O5 H; obtain ⟨ji5, b9t⟩ := si_ ((mn (((J5 l0 a2H).f2).length : Int) 100000)); rw [b9t] at H; have f1e : (if 100000 < (((J5 l0 a2H).f2).length : Int) then 100000 else (((J5 l0 a2H).f2).length : Int)) = ji5 := b9t; have H' := a_ H; clear H; have e6g : 0 ≤ (a2H : Int) := V9; have e6h : a2H < (l0.length : Int) := V9; obtain ⟨g6R, g1u, g1v, g1w, c9w, c9x, c9y, c9z, c9A⟩ := a3k HR0.out a2H e6g e6h
     cases g1w
     replace c9w := cb_ HB c9w; replace c9x := cb_ HB c9x; replace c9y := cb_ HB c9y; have f7G := a_ c9A; have f7H := a_ c9z; clear c9A c9z; replace e6g := eq_true e6g; replace e6h := eq_true e6h
     go_wp2
     go_roundg k1
     case measure => have := HK1.out; omega
     case rel => exact ⟨(wrap64 (a5c + (ji5))), (wrap64 (a2H + 1)), (by rfl), (by rfl), H', ⟨by have := HK1.out; omega⟩, ⟨by exact HB.out⟩⟩
    ·rw [if_neg c3] at H; have a3O := df_ c3; clear c3
     by_cases c6 : (l0.length : Int) ≤ 60
     ·rw [if_pos c6] at H; have a8h := dt_ c6; have b4N : decide (l0.length ≤ 60) = true := dt_ (by omega); clear c6; obtain rfl := oj_ H
      go_wp2
      go_ret
      exact ⟨by (rfl), by exact HB.out⟩
     ·rw [if_neg c6] at H; have a8h := df_ c6; have b4N : decide (l0.length ≤ 60) = false := df_ (by omega); clear c6; obtain rfl := oj_ H
      go_wp2
      go_ret
      exact ⟨by (rfl), by exact HB.out⟩
   ·rw [if_neg c2] at H; have b1A := df_ c2; clear c2
    by_cases c7 : (l0.length : Int) ≤ 60
    ·rw [if_pos c7] at H; have a5U := dt_ c7; have a9R : decide (l0.length ≤ 60) = true := dt_ (by omega); clear c7; obtain rfl := oj_ H
     go_wp2
     go_ret
     exact ⟨by (rfl), by exact HB.out⟩
    ·rw [if_neg c7] at H; have a5U := df_ c7; have a9R : decide (l0.length ≤ 60) = false := df_ (by omega); clear c7; obtain rfl := oj_ H
     go_wp2
     go_ret
     exact ⟨by (rfl), by exact HB.out⟩
end Go.Proofs.YtgnonglkibhnhaaDoor.Print
