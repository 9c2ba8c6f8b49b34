-- laid together by this session's own program (wip/tools/merge.py) of texts that its program laid
import Derived.Test.YtgnonglkibhnhaaDoorF69
import Derived.Test.YtgnonglkibhnhaaDoorM2
namespace Go.Proofs.YtgnonglkibhnhaaDoor.Print
open Go.RowKit Go.Proofs.YtgnonglkibhnhaaDoorW.PrintWords Go.Proofs.YtgnonglkibhnhaaDoorW.PrintLast Go.Proofs.YtgnonglkibhnhaaDoorW.PrintMore
attribute [local go_sem] a0d a0e a0V a0W X5 X6 a0f a0g
set_option linter.unusedVariables false
set_option linter.unusedSimpArgs false
set_option maxHeartbeats 16000000
set_option maxRecDepth 100000
def a1q.f (G8 : Int) (O9 : Int) (U5 : List Int) : Option (List Int) := (head_Put.f O9 true false).bind fun e0S => (if e0S.1.length + U5.length < 140737488355328 then (some (e0S.1 ++ U5)) else (none))
theorem a1q.calls (G8 : Int) (O9 : Int) (a3h : Option Addr) (a3i : Nat) (U5 : List Int) (r : List Int) (w : World) (a4N : Kd.C (Kd.int .u8) w a3h U5.length U5) (a4O : U5.length ≤ a3i) (h : a1q.f G8 O9 U5 = some r) :
  Calls Tryd.prog 51 #[.agg #[.int .i64 G8, .int .i64 O9, .slice a3h U5.length a3i]] w fun e w' => ∃ v0_ : Value, e = .returned (v0_) ∧ Kd.R (Kd.int .u8) 5 w' w.heap.size (fun _ => True) v0_ r ∧ Below w.heap.size w w' := by
 have b8P := Tryd.underlying42
 have b2I := a_ a4N
 have b8e := a_ a4O
 clear a4N a4O
 have HB := a_ (Below.refl w.heap.size w)
 have H := h
 clear h
 unfold a1q.f at H
 obtain ⟨⟨e3z, g03⟩, A2, H⟩ := bd_ H
 try dsimp only at H
 have c3 := X4 H
 replace H := O6 H
 have c3E := a_ c3
 clear c3
 obtain ⟨g8e, d25⟩ := is_ ((e3z ++ U5) : List Int)
 rw [← d25] at H
 have e8E := a_ d25
 clear d25
 obtain rfl := oj_ H
 go_enter Tryd.func51, Tryd.ntmps51
 go_wp2_with (first | (refine be_ 1 #[.int .i64 G8, .int .i64 O9, .slice a3h U5.length a3i] 42 ?_; intro g42 hg w4 hbox hb; have b60 := a_ hbox; have g43 := lb_ HB hg; replace HB := Q8 HB hb; clear hb hbox hg; obtain ⟨b1x, b1y, b1z, b1A, b1B, b1C⟩ := a0u b60.out) | (refine gl_ (some 8) Tryd.func69 #[.int .i64 O9, .bool true, .bool false] ?_; (with_reducible refine (head_Put.calls O9 true false e3z g03 _ A2.out).mono ?_); rintro e w6 ⟨g04, rfl, ho0, hb⟩; refine ⟨_, rfl, ?_⟩; have d26 := rl_ ho0 HB; replace b60 := X8 b60 hb; replace HB := Q8 HB hb; (try clear hb); (try clear ho0); obtain ⟨d27, d28, e3A, d29, d3a, e3B⟩ := a0u b60.out) | ((with_reducible refine D6 (b := .append) (xs := #[.tmp 11, .tmp 13]) rfl ?_); at_builtin; refine Kd.G9 (Kd.int .u8) (w0 := w) w.heap.size rfl (.tmp 11) (.tmp 13) 22 5 (.int .u8 0) 1 rfl Tryd.underlying22 info5 rfl (by decide) (by omega) g04 e3z U5 _ _ _ (fun _ => True) (fun _ => False) rfl rfl ?aO ?aR (fun _ _ h => h) (fun _ h => h.elim) ?aF ?aB ?aS ?aL ?_; (case aR => exact (Kd.E8 b2I.out HB.out)); (case aB => exact HB.out); (case aF => exact (fun _ _ => trivial)); (case aO => exact d26.out); (case aS => exact (o9 HB.out)); (case aL => have := c3E.out; omega); intro g8f w8 ho hb hg hat; rw [← e8E.out] at ho; have e8F := a_ ho; replace b60 := a_ (L9 b60.out hg (Kd.a3L d26.out b60.out (by decide))); replace HB := a_ hb; clear d26 ho hb hg hat))
 go_ret
 exact ⟨_, by (rfl), by exact e8F.out, by exact HB.out⟩
def a0z.l0 : Nat → Int → Bool → List Int → Int → Int → Option (List Int × Bool)
 | 0, _, _, _, _, _ => none
 | k + 1, x0, x2, x8, x16, x17 => if x17 < x16 then (if 0 ≤ (wrap64 (8 * x17)) then (if 0 ≤ x17 then (if x17 < (x8.length : Int) then (a0z.l0 k x0 x2 (x8.set (x17 : Int).toNat ((shr .u64 x0 (wrap64 (8 * x17))) % 256)) x16 (wrap64 (x17 + 1))) else (none)) else (none)) else (none)) else (if x2 = true then ((D7.f k x8).bind fun e3C => (some (e3C, true))) else (some (x8, true)))
def a0z.f (k : Nat) (a0 : Int) (a1 : Int) (a2 : Bool) : Option (List Int × Bool) := (a1N.f a0 a1).bind fun e3D => (if e3D = true then (if 0 ≤ a1 then (if (a1 : Int).toNat ≤ 281474976710656 then (a0z.l0 k a0 a2 (List.replicate (a1 : Int).toNat 0) a1 0) else (none)) else (none)) else (some (([] : List Int), false)))
theorem a0z.calls (k : Nat) (a0 : Int) (a1 : Int) (a2 : Bool) (r1 : List Int) (r2 : Bool) (w : World) (h : a0z.f k a0 a1 a2 = some (r1, r2)) :
  Calls Tryd.prog 72 #[.int .u64 a0, .int .i64 a1, .bool a2] w fun e w' => ∃ v0_ : Value, e = .returned (.tuple #[v0_, .bool r2]) ∧ Kd.R (Kd.int .u8) 5 w' w.heap.size (fun _ => True) v0_ r1 ∧ Below w.heap.size w w' := by
 have HB := a_ (Below.refl w.heap.size w)
 have H := h
 clear h
 unfold a0z.f at H
 obtain ⟨e3D, A4, H⟩ := bd_ H
 try dsimp only at H
 by_cases c5 : e3D = true
 ·subst c5; rw [if_pos rfl] at H; have c6 := X4 H; replace H := O6 H; have a5Y := eq_true c6; have b2w := dt_ c6; clear c6; have c7 := X4 H; replace H := O6 H; have a5H := eq_true c7; have b3Y := dt_ c7; clear c7; obtain ⟨g05, d3b⟩ := is_ ((List.replicate (a1 : Int).toNat 0) : List Int); rw [← d3b] at H; have e8G := a_ d3b; clear d3b; have H' := a_ H; clear H
  go_enter Tryd.func72, Tryd.ntmps72
  go_wp2_with (first | (refine gl_ (some 12) Tryd.func89 #[.int .u64 a0, .int .i64 a1] ?_; (with_reducible refine (a1N.calls a0 a1 true _ A4.out).mono ?_); rintro e w' ⟨rfl, ⟨nd, rfl⟩⟩; refine ⟨_, rfl, ?_⟩) | ((with_reducible refine N7 (N := 15) rfl ?_); refine Kd.e1J (Kd.int .u8) _ 5 rfl (N := 15) rfl 22 _ _ rfl a1 rfl rfl Tryd.underlying22 (.int .u8 0) 1 info5 rfl (by decide) (by omega) 0 (ok := fun _ => True) (okp := fun _ => True) rfl (fun _ hk => hk) trivial (U9) (Nat.le_trans (Nat.mul_le_mul_right _ (U9 : a1.toNat ≤ 281474976710656)) (by omega)) (Below.refl _ _) (Nat.le_refl _) ?_; intro g06 w8 ho9 hb hg_ V8; clear hg_ V8; (rw [← e8G.out] at ho9); have e8H := a_ (Kd.X3 ho9 (o9 (by repeat (with_reducible first | exact HB.out | apply y5)))); replace HB := a_ (L8 (by repeat (with_reducible first | exact HB.out | apply y5)) hb); clear hb ho9))
  go_loopg [17] k (fun kq v17 w' => ∃ (a1h : List Int) (a7Z : Int), v17 = .int .i64 a7Z ∧ Aside0 (a0z.l0 kq a0 a2 a1h a1 a7Z = some (r1, r2)) ∧ Aside0 (kq ≤ k) ∧ Aside0 (Kd.R (Kd.int .u8) 5 w' w.heap.size (fun _ => True) g06 a1h) ∧ Aside0 (Below w.heap.size w w'))
  case atStart => exact ⟨(g05), (0), (by rfl), H', ⟨Nat.le_refl _⟩, ⟨by exact e8H.out⟩, ⟨by exact HB.out⟩⟩
  case round =>
   clear H'
   try clear a5Y
   try clear b2w
   try clear a5H
   try clear b3Y
   obtain ⟨a1h, a7Z, rfl, HA, HK1, U4, HB⟩ := hrel
   cases gk with
   | zero => exact absurd HA.out (by simp [a0z.l0])
   | succ k1 =>
    have H := HA.out; clear HA
    simp only [a0z.l0] at H
    by_cases c10 : a7Z < a1
    ·rw [if_pos c10] at H; have b2j := dt_ c10; clear c10; obtain ⟨d3c, e0U⟩ := si_ ((wrap64 (8 * a7Z))); rw [e0U] at H; have g07 : (IntKind.i64.wrap (8 * a7Z)) = d3c := (a0D _).trans e0U; have c12 := X4 H; replace H := O6 H; have b2r := eq_true c12; have b4n := dt_ c12; clear c12; obtain ⟨d3e, d3f⟩ := si_ ((shr .u64 a0 (d3c))); rw [d3f] at H; have g08 : (a0 / 2 ^ min (d3c).toNat 64) = d3e := d3f; have g09 : (d3c) ≤ 64 → (a0 / 2 ^ (d3c).toNat) = d3e := b3J d3f; have d3g := a2Q H; replace H := O6 H; have c5H := a2Q H; replace H := O6 H; obtain ⟨e8I, d3h⟩ := is_ ((a1h.set (a7Z : Int).toNat ((d3e) % 256)) : List Int); rw [← d3h] at H; have e8J := a_ d3h; clear d3h; have H' := a_ H; clear H; have p16 : 0 ≤ (a7Z : Int) := U9; have q16 : (a7Z : Int) < ((a1h.length : Int) : Int) := U9; obtain ⟨e3E, d3i, e3F, e8K, g1a, g8g, e8L⟩ := Kd.c2E U4.out (by omega)
     (cases e3F)
     have g1b := a_ e8K; have g8h := a_ e8L; clear e8K g1a e8L; obtain ⟨g1c, e3G⟩ := Kd.b8z 0 U4.out (a7Z : Int) p16 q16; replace p16 := eq_true p16; replace q16 := eq_true q16; have e3H := Kd.e1O U4.out (a7Z : Int) ((d3e) % 256)
     go_wp2_with (first | ((with_reducible refine b1d (t := 5) (p := 27) rfl ?_); refine a9u (t := 5) (p := 27) (v := ?g1d) (w1 := (wr.setCell ⟨e3E, (a7Z : Int).toNat, none⟩ (.int .u8 ((d3e) % 256)))) ?hg ?ho ?hn ?hr ?_; (case ho => rfl); (case hg => rfl); (case hn => rfl); (case hr => (go_simp; done)); intro w18 hw; have hg : wr.grownBy w18 (some e3E) := (by rw [hw]; exact e3H.2); have hp_ : Kd.R (Kd.int .u8) 5 w18 w.heap.size (fun _ => True) (.slice (some ⟨e3E, 0, none⟩) a1h.length d3i) e8I := (by rw [hw, e8J.out]; exact e3H.1); clear e3H; replace U4 := a_ hp_; replace HB := a_ (by rw [hw]; exact o8 (HB.out) g1b.out : Below w.heap.size w w18); clear hg hw hp_))
     go_roundg k1
     case measure => have := HK1.out; omega
     case rel => exact ⟨(e8I), (wrap64 (a7Z + 1)), (by rfl), H', ⟨by have := HK1.out; omega⟩, ⟨by exact U4.out⟩, ⟨by exact HB.out⟩⟩
    ·rw [if_neg c10] at H; have b2j := df_ c10; clear c10
     by_cases c19 : a2 = true
     ·subst c19; rw [if_pos rfl] at H; obtain ⟨e3C, A20, H⟩ := bd_ H
      (try dsimp only at H); obtain ⟨rfl, rfl⟩ := s2_ H; obtain ⟨b33, b34, c3B⟩ := Kd.H6 U4.out; subst c3B
      go_wp2_with (first | (refine gl_ (some 31) Tryd.func90 #[.slice b33 a1h.length b34] ?_; (with_reducible refine (D7.calls k1 (fun k_ => some k_ = (.slice b33 a1h.length b34 : Value).ownBlock) (.slice b33 a1h.length b34) a1h e3C w _ HB.out (Kd.a2m rfl U4.out) A20.out).mono ?_); rintro e w22 ⟨rfl, hy0, hb, hkp⟩; refine ⟨_, rfl, ?_⟩; replace U4 := a_ (Kd.e2c rfl hy0 (fun k_ e_ => U4.out.1 k_ e_)); replace HB := a_ hb; (try clear hb); (try clear hkp); (try clear hy0)))
      go_ret2
      exact ⟨_, by (rfl), by exact U4.out, by exact HB.out⟩
     ·cases nt_ c19
      rw [if_neg a2O] at H; obtain ⟨rfl, rfl⟩ := s2_ H
      go_wp2
      go_ret2
      exact ⟨_, by (rfl), by exact U4.out, by exact HB.out⟩
 ·cases nt_ c5
  rw [if_neg a2O] at H; obtain ⟨rfl, rfl⟩ := s2_ H
  go_enter Tryd.func72, Tryd.ntmps72
  go_wp2_with (first | (refine gl_ (some 12) Tryd.func89 #[.int .u64 a0, .int .i64 a1] ?_; (with_reducible refine (a1N.calls a0 a1 false _ A4.out).mono ?_); rintro e w' ⟨rfl, ⟨nd, rfl⟩⟩; refine ⟨_, rfl, ?_⟩))
  go_ret2
  exact ⟨_, by (rfl), by (exact Kd.Y4 _ _ _ _ _), by repeat (with_reducible first | exact HB.out | apply y5)⟩
def a0t.l0 : Nat → Bool → Int → List Int → List Int → Int → Int → Option (List Int)
 | 0, _, _, _, _, _, _ => none
 | k + 1, x0, x1, x7, x12, x13, x14 => if x14 < x13 then (if 0 ≤ x14 then (if x14 < (x12.length : Int) then ((a0z.f k (IntKind.u64.wrap (rd x12 x14)) x1 x0).bind fun e0V => (if x7.length + e0V.1.length < 140737488355328 then (a0t.l0 k x0 x1 (x7 ++ e0V.1) x12 x13 (wrap64 (x14 + 1))) else (none))) else (none)) else (none)) else (some x7)
def a0t.f (k : Nat) (a0 : Bool) (a1 : Int) (l2 : List Int) : Option (List Int) := a0t.l0 k a0 a1 ([] : List Int) l2 (l2.length : Int) 0
theorem a0t.calls (k : Nat) (a0 : Bool) (a1 : Int) (A2 : Option Addr) (c2 : Nat) (l2 : List Int) (r : List Int) (w : World) (hr2 : Kd.C (Kd.int .u32) w A2 l2.length l2) (hc2 : l2.length ≤ c2) (h : a0t.f k a0 a1 l2 = some r) :
  Calls Tryd.prog 74 #[.bool a0, .int .i64 a1, .slice A2 l2.length c2] w fun e w' => ∃ v0_ : Value, e = .returned (v0_) ∧ Kd.R (Kd.int .u8) 5 w' w.heap.size (fun _ => True) v0_ r ∧ Below w.heap.size w w' := by
 have HR2 := a_ hr2
 have HC2 := a_ hc2
 clear hr2 hc2
 have HB := a_ (Below.refl w.heap.size w)
 have H := h
 clear h
 unfold a0t.f at H
 have H' := a_ H
 clear H
 go_enter Tryd.func74, Tryd.ntmps74
 go_wp2
 go_loopg [7, 14] k (fun kq v7 v14 w' => ∃ (P9 : List Int) (a1i : Int), v14 = .int .i64 a1i ∧ Aside0 (a0t.l0 kq a0 a1 P9 l2 (l2.length : Int) a1i = some r) ∧ Aside0 (kq ≤ k) ∧ Aside0 (Kd.R (Kd.int .u8) 5 w' w.heap.size (fun _ => True) v7 P9) ∧ Aside0 (Below w.heap.size w w'))
 case atStart => exact ⟨([] : List Int), (0), (by rfl), H', ⟨Nat.le_refl _⟩, ⟨by (exact Kd.Y4 _ _ _ _ _)⟩, ⟨by exact HB.out⟩⟩
 case round =>
  clear H'; obtain ⟨P9, a1i, rfl, HA, HK1, Y5, HB⟩ := hrel
  cases gk with
  | zero => exact absurd HA.out (by simp [a0t.l0])
  | succ k1 =>
   have H := HA.out; clear HA
   simp only [a0t.l0] at H
   by_cases c4 : a1i < (l2.length : Int)
   ·rw [if_pos c4] at H; have a3x := dt_ c4; clear c4; have a7h := a2Q H; replace H := O6 H; have a5Y := a2Q H; replace H := O6 H; obtain ⟨⟨d8b, g1e⟩, A7, H⟩ := bd_ H
    (try dsimp only at H); have c8 := X4 H; replace H := O6 H; have b6V := a_ c8; clear c8; obtain ⟨g1f, d3j⟩ := is_ ((P9 ++ d8b) : List Int); rw [← d3j] at H; have e8M := a_ d3j; clear d3j; have H' := a_ H; clear H; have e3I : 0 ≤ (a1i : Int) := U9; have e3J : a1i < (l2.length : Int) := U9; obtain ⟨g45, e332, c6w⟩ := Kd.a0x HR2.out a1i e3I e3J
    cases e332
    replace c6w := J9 HB c6w; replace e3I := eq_true e3I; replace e3J := eq_true e3J
    go_wp2_with (first | (refine gl_ (some 23) Tryd.func72 #[.int .u64 (IntKind.u64.wrap (rd l2 a1i)), .int .i64 a1, .bool a0] ?_; (with_reducible refine (a0z.calls k1 (IntKind.u64.wrap (rd l2 a1i)) a1 a0 d8b g1e _ A7.out).mono ?_); rintro e w9 ⟨g8i, rfl, ho0, hb⟩; refine ⟨_, rfl, ?_⟩; have c1G := rn_ ho0 Y5 HB; replace Y5 := rR_ Y5 ho0 hb; replace HB := Q8 HB hb; (try clear hb); (try clear ho0); obtain ⟨e3K, e3L, e3M⟩ := Kd.H6 c1G.out; subst e3M) | ((with_reducible refine D6 (b := .append) (xs := #[.tmp 26, .tmp 27]) rfl ?_); at_builtin; refine Kd.G9 (Kd.int .u8) (w0 := w) w.heap.size rfl (.tmp 26) (.tmp 27) 22 5 (.int .u8 0) 1 rfl Tryd.underlying22 info5 rfl (by decide) (by omega) u7 P9 d8b _ _ _ (fun k_ => some k_ ≠ (.slice e3K d8b.length e3L : Value).ownBlock) (fun _ => False) rfl rfl ?aO ?aR (fun _ _ h => h) (fun _ h => h.elim) ?aF ?aB ?aS ?aL ?_; (case aR => exact (Kd.F9 c1G.out).2.2); (case aB => exact HB.out); (case aF => exact (fun k_ hk => Kd.fresh' (Kd.U8 c1G.out) k_ hk)); (case aO => exact (by exact Kd.y9 Y5.out (fun _ hk => hk.2))); (case aS => exact (o9 HB.out)); (case aL => have := b6V.out; omega); intro g8j w10 ho hb hg hat; rw [← e8M.out] at ho; have e8N := a_ ho; replace c1G := a_ (Kd.Q7 (ok := (fun _ => True)) c1G.out hg hat); replace HB := a_ hb; clear Y5 ho hb hg hat))
    go_roundg k1
    case measure => have := HK1.out; omega
    case rel => exact ⟨(g1f), (wrap64 (a1i + 1)), (by rfl), H', ⟨by have := HK1.out; omega⟩, ⟨by exact Kd.y9 e8N.out (fun _ hk => trivial)⟩, ⟨by exact HB.out⟩⟩
   ·rw [if_neg c4] at H; have a3x := df_ c4; clear c4; obtain rfl := oj_ H
    go_wp2
    go_ret
    exact ⟨_, by (rfl), by exact Y5.out, by exact HB.out⟩
def a0k.f (a0 : Int) : Option (Bool) := if a0 > 0 then (if a0 < 65536 then (if (Int.tmod a0 2) = 1 then (if (Int.tmod (wrap64 (Int.tdiv a0 256)) 2) = 0 then (some (a0 != 255)) else (some false)) else (some false)) else (some false)) else (some false)
theorem a0k.calls (a0 : Int) (r : Bool) (w : World) (h : a0k.f a0 = some r) :
  Calls Tryd.prog 34 #[.int .i64 a0] w fun e w' => e = .returned (.bool r) ∧ G6 w w' := by
 have H := h
 clear h
 unfold a0k.f at H
 by_cases c2 : a0 > 0
 ·rw [if_pos c2] at H; have a7Y : decide (0 < a0) = true := dt_ c2; clear c2
  by_cases c3 : a0 < 65536
  ·rw [if_pos c3] at H; have a3w := dt_ c3; clear c3
   by_cases c4 : (Int.tmod a0 2) = 1
   ·rw [if_pos c4] at H; obtain ⟨a3x, a9S⟩ := bt_ c4; clear c4
    by_cases c5 : (Int.tmod (wrap64 (Int.tdiv a0 256)) 2) = 0
    ·rw [if_pos c5] at H; obtain ⟨a7h, b3X⟩ := bt_ c5; clear c5; obtain rfl := oj_ H
     go_enter Tryd.func34, Tryd.ntmps34
     go_wp2
     go_ret
     exact ⟨by (rfl), by exact G6.refl _⟩
    ·rw [if_neg c5] at H; have a7h := bq_ c5; have b3X := bn_ c5; obtain rfl := oj_ H
     go_enter Tryd.func34, Tryd.ntmps34
     go_wp2
     go_ret
     exact ⟨by (rfl), by exact G6.refl _⟩
   ·rw [if_neg c4] at H; have a3x := bq_ c4; have a9S := bn_ c4; obtain rfl := oj_ H
    go_enter Tryd.func34, Tryd.ntmps34
    go_wp2
    go_ret
    exact ⟨by (rfl), by exact G6.refl _⟩
  ·rw [if_neg c3] at H; have a3w := df_ c3; clear c3; obtain rfl := oj_ H
   go_enter Tryd.func34, Tryd.ntmps34
   go_wp2
   go_ret
   exact ⟨by (rfl), by exact G6.refl _⟩
 ·rw [if_neg c2] at H; have a7Y : decide (0 < a0) = false := df_ c2; clear c2; obtain rfl := oj_ H
  go_enter Tryd.func34, Tryd.ntmps34
  go_wp2
  go_ret
  exact ⟨by (rfl), by exact G6.refl _⟩
def a0l.f (G8 : Int) (O9 : Int) (U5 : List Int) : Option (Bool) := if G8 = 1 then ((a0k.f O9).bind fun e3N => (if e3N = true then (some (decide ((U5.length : Int) ≤ 65531))) else (some false))) else (if G8 = 2 then ((a0k.f O9).bind fun e3O => (if e3O = true then (some (decide ((U5.length : Int) ≤ 65531))) else (some false))) else (some false))
theorem a0l.calls (G8 : Int) (O9 : Int) (a3h : Option Addr) (a3i : Nat) (U5 : List Int) (r : Bool) (w : World) (a4N : Kd.C (Kd.int .u8) w a3h U5.length U5) (a4O : U5.length ≤ a3i) (h : a0l.f G8 O9 U5 = some r) :
  Calls Tryd.prog 17 #[.agg #[.int .i64 G8, .int .i64 O9, .slice a3h U5.length a3i]] w fun e w' => e = .returned (.bool r) ∧ Below w.heap.size w w' := by
 have b8P := Tryd.underlying42
 have b2I := a_ a4N
 have b8e := a_ a4O
 clear a4N a4O
 have HB := a_ (Below.refl w.heap.size w)
 have H := h
 clear h
 unfold a0l.f at H
 by_cases c2 : G8 = 1
 ·rw [if_pos c2] at H; obtain ⟨a7Y, c1x⟩ := bt_ c2; clear c2; obtain ⟨e3N, A3, H⟩ := bd_ H
  try dsimp only at H
  by_cases c4 : e3N = true
  ·subst c4; rw [if_pos rfl] at H; obtain rfl := oj_ H
   go_enter Tryd.func17, Tryd.ntmps17
   go_wp2_with (first | ((with_reducible refine N7 (N := 1) rfl ?_); (try (refine V3 (by rfl) ?_; dsimp only)); refine be_ 1 #[.int .i64 G8, .int .i64 O9, .slice a3h U5.length a3i] 42 ?_; intro c6x hg w5 hbox hb; have b2J := a_ hbox; have c6y := lb_ HB hg; replace HB := Q8 HB hb; clear hb hbox hg; obtain ⟨b9f, b9g, b9h, b9i, b9j, b9k⟩ := a0u b2J.out) | (go_at_call 34; (with_reducible refine (a0k.calls O9 true _ A3.out).mono ?_); rintro e w' ⟨rfl, ⟨nd, rfl⟩⟩))
   go_ret
   exact ⟨by (rfl), by repeat (with_reducible first | exact HB.out | apply y5)⟩
  ·cases nt_ c4
   rw [if_neg a2O] at H; obtain rfl := oj_ H
   go_enter Tryd.func17, Tryd.ntmps17
   go_wp2_with (first | ((with_reducible refine N7 (N := 1) rfl ?_); (try (refine V3 (by rfl) ?_; dsimp only)); refine be_ 1 #[.int .i64 G8, .int .i64 O9, .slice a3h U5.length a3i] 42 ?_; intro c6x hg w7 hbox hb; have b2J := a_ hbox; have c6y := lb_ HB hg; replace HB := Q8 HB hb; clear hb hbox hg; obtain ⟨d3k, d3l, d3m, d3n, d3o, d3p⟩ := a0u b2J.out) | (go_at_call 34; (with_reducible refine (a0k.calls O9 false _ A3.out).mono ?_); rintro e w' ⟨rfl, ⟨nd, rfl⟩⟩))
   go_ret
   exact ⟨by (rfl), by repeat (with_reducible first | exact HB.out | apply y5)⟩
 ·rw [if_neg c2] at H; have a7Y := bq_ c2; have c1x := bn_ c2
  by_cases c9 : G8 = 2
  ·rw [if_pos c9] at H; obtain ⟨a6P, b1o⟩ := bt_ c9; clear c9; obtain ⟨e3O, A10, H⟩ := bd_ H
   try dsimp only at H
   by_cases c11 : e3O = true
   ·subst c11; rw [if_pos rfl] at H; obtain rfl := oj_ H
    go_enter Tryd.func17, Tryd.ntmps17
    go_wp2_with (first | ((with_reducible refine N7 (N := 1) rfl ?_); (try (refine V3 (by rfl) ?_; dsimp only)); refine be_ 1 #[.int .i64 G8, .int .i64 O9, .slice a3h U5.length a3i] 42 ?_; intro c6x hg w12 hbox hb; have b2J := a_ hbox; have c6y := lb_ HB hg; replace HB := Q8 HB hb; clear hb hbox hg; obtain ⟨b2K, b2L, b45, b2M, b2N, b46⟩ := a0u b2J.out) | (go_at_call 34; (with_reducible refine (a0k.calls O9 true _ A10.out).mono ?_); rintro e w' ⟨rfl, ⟨nd, rfl⟩⟩))
    go_ret
    exact ⟨by (rfl), by repeat (with_reducible first | exact HB.out | apply y5)⟩
   ·cases nt_ c11
    rw [if_neg a2O] at H; obtain rfl := oj_ H
    go_enter Tryd.func17, Tryd.ntmps17
    go_wp2_with (first | ((with_reducible refine N7 (N := 1) rfl ?_); (try (refine V3 (by rfl) ?_; dsimp only)); refine be_ 1 #[.int .i64 G8, .int .i64 O9, .slice a3h U5.length a3i] 42 ?_; intro c6x hg w14 hbox hb; have b2J := a_ hbox; have c6y := lb_ HB hg; replace HB := Q8 HB hb; clear hb hbox hg; obtain ⟨c6z, c6A, c6B, c6C, c6D, c6E⟩ := a0u b2J.out) | (go_at_call 34; (with_reducible refine (a0k.calls O9 false _ A10.out).mono ?_); rintro e w' ⟨rfl, ⟨nd, rfl⟩⟩))
    go_ret
    exact ⟨by (rfl), by repeat (with_reducible first | exact HB.out | apply y5)⟩
  ·rw [if_neg c9] at H; have a6P := bq_ c9; have b1o := bn_ c9; obtain rfl := oj_ H
   go_enter Tryd.func17, Tryd.ntmps17
   go_wp2_with (first | ((with_reducible refine N7 (N := 1) rfl ?_); (try (refine V3 (by rfl) ?_; dsimp only)); refine be_ 1 #[.int .i64 G8, .int .i64 O9, .slice a3h U5.length a3i] 42 ?_; intro c6x hg w16 hbox hb; have b2J := a_ hbox; have c6y := lb_ HB hg; replace HB := Q8 HB hb; clear hb hbox hg; obtain ⟨b47, b48, b49, b5a, b5b, b5c⟩ := a0u b2J.out))
   go_ret
   exact ⟨by (rfl), by exact HB.out⟩
def J6.l0 : Nat → Int → Int → Bool → List Int → Int → Option (List Int)
 | 0, _, _, _, _, _ => none
 | k + 1, x0, x1, x2, x7, x8 => if x8 < x1 then (if x2 = true then ((some (([(Int.tmod x0 256) % 256] : List Int) : List Int)).bind fun d3q => (if d3q.length + x7.length < 140737488355328 then (J6.l0 k (IntKind.u64.wrap (Int.tdiv x0 256)) x1 x2 (d3q ++ x7) (wrap64 (x8 + 1))) else (none))) else (if x7.length < 140737488355328 then (J6.l0 k (IntKind.u64.wrap (Int.tdiv x0 256)) x1 x2 (x7 ++ [(Int.tmod x0 256) % 256]) (wrap64 (x8 + 1))) else (none))) else (some x7)
def J6.f (k : Nat) (a0 : Int) (a1 : Int) (a2 : Bool) : Option (List Int) := J6.l0 k a0 a1 a2 ([] : List Int) 0
theorem J6.calls (k : Nat) (a0 : Int) (a1 : Int) (a2 : Bool) (r : List Int) (w : World) (h : J6.f k a0 a1 a2 = some r) :
  Calls Tryd.prog 60 #[.int .u64 a0, .int .i64 a1, .bool a2] w fun e w' => ∃ v0_ : Value, e = .returned (v0_) ∧ Kd.R (Kd.int .u8) 5 w' w.heap.size (fun _ => True) v0_ r ∧ Below w.heap.size w w' := by
 have HB := a_ (Below.refl w.heap.size w)
 have H := h
 clear h
 unfold J6.f at H
 have H' := a_ H
 clear H
 go_enter Tryd.func60, Tryd.ntmps60
 go_wp2
 go_loopg [0, 7, 8] k (fun kq v0 v7 v8 w' => ∃ (a4u : Int) (P9 : List Int) (a1h : Int), v0 = .int .u64 a4u ∧ v8 = .int .i64 a1h ∧ Aside0 (J6.l0 kq a4u a1 a2 P9 a1h = some r) ∧ Aside0 (kq ≤ k) ∧ Aside0 (Kd.R (Kd.int .u8) 5 w' w.heap.size (fun _ => True) v7 P9) ∧ Aside0 (Below w.heap.size w w'))
 case atStart => exact ⟨(a0), ([] : List Int), (0), (by rfl), (by rfl), H', ⟨Nat.le_refl _⟩, ⟨by (exact Kd.Y4 _ _ _ _ _)⟩, ⟨by exact HB.out⟩⟩
 case round =>
  clear H'; obtain ⟨a4u, P9, a1h, rfl, rfl, HA, HK1, Y5, HB⟩ := hrel
  cases gk with
  | zero => exact absurd HA.out (by simp [J6.l0])
  | succ k1 =>
   have H := HA.out; clear HA
   simp only [J6.l0] at H
   by_cases c4 : a1h < a1
   ·rw [if_pos c4] at H; have a3x := dt_ c4; clear c4
    by_cases c5 : a2 = true
    ·subst c5; rw [if_pos rfl] at H; obtain ⟨d3q, d3r⟩ := is_ ([(Int.tmod a4u 256) % 256] : List Int); rw [Option.bind_some, ← d3r] at H; have e8O := a_ d3r; clear d3r; have c6 := X4 H; replace H := O6 H; have g1g := a_ c6; clear c6; obtain ⟨g1h, d3s⟩ := is_ ((d3q ++ P9) : List Int); rw [← d3s] at H; have e8P := a_ d3s; clear d3s; have H' := a_ H; clear H
     go_wp2_with (first | ((with_reducible refine N7 (N := 22) rfl ?_); refine Kd.a4l (Kd.int .u8) _ 5 ?hg (N := 22) ?hd (xs := ([(Int.tmod a4u 256) % 256] : List Int)) (inner := [.int .u8 ((Int.tmod a4u 256) % 256)]) (ok := fun _ => True) (okp := fun _ => True) ?hr ?hp (fun _ hk => hk) trivial (Below.refl _ _) (Nat.le_refl _) (by simp) ?_; (case hd => rfl); (case hg => rfl); (case hr => (go_simp; done)); (case hp => exact (J3.one (show Kd.M (Kd.int .u8) _ _ _ ((Int.tmod a4u 256) % 256) [.int .u8 ((Int.tmod a4u 256) % 256)] from rfl) (J3.none _ _))); intro g1i w7 ho8 hb hg_ V8; clear hg_ V8; (rw [← e8O.out] at ho8); have e0X := rn_ ho8 Y5 HB; replace Y5 := rR_ Y5 ho8 hb; replace HB := Q8 HB hb; clear hb ho8; obtain ⟨g1j, g1l, g1m⟩ := Kd.H6 Y5.out; subst g1m) | ((with_reducible refine D6 (b := .append) (xs := #[.tmp 22, .tmp 23]) rfl ?_); at_builtin; refine Kd.G9 (Kd.int .u8) (w0 := w) w.heap.size rfl (.tmp 22) (.tmp 23) 22 5 (.int .u8 0) 1 rfl Tryd.underlying22 info5 rfl (by decide) (by omega) g1i d3q P9 _ _ _ (fun k_ => some k_ ≠ (.slice g1j P9.length g1l : Value).ownBlock) (fun _ => False) rfl rfl ?aO ?aR (fun _ _ h => h) (fun _ h => h.elim) ?aF ?aB ?aS ?aL ?_; (case aR => exact (Kd.F9 Y5.out).2.2); (case aB => exact HB.out); (case aF => exact (fun k_ hk => Kd.fresh' (Kd.U8 Y5.out) k_ hk)); (case aO => exact (by exact Kd.y9 e0X.out (fun _ hk => hk.2))); (case aS => exact (o9 HB.out)); (case aL => have := g1g.out; omega); intro g8k w9 ho hb hg hat; rw [← e8P.out] at ho; have e8Q := a_ ho; replace Y5 := a_ (Kd.Q7 (ok := (fun _ => True)) Y5.out hg hat); replace HB := a_ hb; clear e0X ho hb hg hat))
     go_roundg k1
     case measure => have := HK1.out; omega
     case rel => exact ⟨(IntKind.u64.wrap (Int.tdiv a4u 256)), (g1h), (wrap64 (a1h + 1)), (by rfl), (by rfl), H', ⟨by have := HK1.out; omega⟩, ⟨by exact Kd.y9 e8Q.out (fun _ hk => trivial)⟩, ⟨by exact HB.out⟩⟩
    ·cases nt_ c5
     rw [if_neg a2O] at H; have c11 := X4 H; replace H := O6 H; have d3t := a_ c11; clear c11; obtain ⟨g1n, d3u⟩ := is_ ((P9 ++ [(Int.tmod a4u 256) % 256]) : List Int); rw [← d3u] at H; have e8R := a_ d3u; clear d3u; have H' := a_ H; clear H
     go_wp2_with (first | ((with_reducible refine D6 (b := .append) (xs := #[.tmp 25, .tmp 27]) rfl ?_); at_builtin; refine Kd.a1F (Kd.int .u8) (w0 := w) w.heap.size rfl (.tmp 25) (.tmp 27) 22 5 (.int .u8 0) 1 rfl Tryd.underlying22 info5 rfl (by decide) (by omega) u7 P9 ((Int.tmod a4u 256) % 256) [.int .u8 ((Int.tmod a4u 256) % 256)] (fun _ => True) (fun _ => False) rfl rfl ?aP (fun _ hk => hk.elim) ?aF ?aO ?aB ?aS ?aL ?_; (case aP => exact rfl); (case aB => exact HB.out); (case aF => exact (fun _ _ => trivial)); (case aO => exact Y5.out); (case aS => exact (o9 HB.out)); (case aL => have := d3t.out; omega); intro g8l w12 ho hb hg hat; rw [← e8R.out] at ho; have e8S := a_ ho; replace HB := a_ hb; clear Y5 ho hb hg hat))
     go_roundg k1
     case measure => have := HK1.out; omega
     case rel => exact ⟨(IntKind.u64.wrap (Int.tdiv a4u 256)), (g1n), (wrap64 (a1h + 1)), (by rfl), (by rfl), H', ⟨by have := HK1.out; omega⟩, ⟨by exact e8S.out⟩, ⟨by exact HB.out⟩⟩
   ·rw [if_neg c4] at H; have a3x := df_ c4; clear c4; obtain rfl := oj_ H
    go_wp2
    go_ret
    exact ⟨_, by (rfl), by exact Y5.out, by exact HB.out⟩
def N9.f (k : Nat) (l0 : List Int) (a1 : Int) (a2 : Bool) : Option (List Int) := (J6.f k (IntKind.u64.wrap (a1)) 4 a2).bind fun c3S => (if l0.length + c3S.length < 140737488355328 then (some (l0 ++ c3S)) else (none))
theorem N9.calls (k : Nat) (P0_ : Nat → Prop) (a8P : Value) (l0 : List Int) (a1 : Int) (a2 : Bool) (r : List Int) (w0 w : World) (hB : Below w0.heap.size w0 w) (ho0 : Kd.R (Kd.int .u8) 5 w w0.heap.size P0_ a8P l0) (h : N9.f k l0 a1 a2 = some r) :
  Calls Tryd.prog 38 #[a8P, .int .u32 a1, .bool a2] w fun e w' => ∃ v0_ : Value, e = .returned (v0_) ∧ Kd.R (Kd.int .u8) 5 w' w0.heap.size (fun k_ => (P0_ k_ ∨ w.heap.size ≤ k_)) v0_ r ∧ Below w0.heap.size w0 w' ∧ Kept w w' (fun k_ => P0_ k_) := by
 have HO0 := a_ (show Kd.R (Kd.int .u8) 5 w w0.heap.size (fun k_ => (P0_ k_ ∨ w.heap.size ≤ k_)) a8P l0 from Kd.y9 ho0 (fun k_ hk => (.inl hk)))
 have HK := a_ (Kept.refl w (fun k_ => P0_ k_))
 have HW0 := a_ hB.size
 have HB := a_ hB
 clear hB
 have H := h
 clear h
 unfold N9.f at H
 obtain ⟨c3S, A4, H⟩ := bd_ H
 try dsimp only at H
 have c5 := X4 H
 replace H := O6 H
 have d3v := a_ c5
 clear c5
 obtain ⟨g8m, d3w⟩ := is_ ((l0 ++ c3S) : List Int)
 rw [← d3w] at H
 have e8T := a_ d3w
 clear d3w
 obtain rfl := oj_ H
 go_enter Tryd.func38, Tryd.ntmps38
 go_wp2_with (first | (refine gl_ (some 11) Tryd.func60 #[.int .u64 (IntKind.u64.wrap (a1)), .int .i64 4, .bool a2] ?_; (with_reducible refine (J6.calls k (IntKind.u64.wrap (a1)) 4 a2 c3S _ A4.out).mono ?_); rintro e w6 ⟨g8n, rfl, ho0, hb⟩; refine ⟨_, rfl, ?_⟩; have c1H := a_ (Kd.X3 (Kd.a03 (Kd.d0N (M := fun k_ => (P0_ k_ ∨ w.heap.size ≤ k_)) ho0 HK.out.1 (fun k_ h_ => .inr h_)) (Kd.U8 HO0.out)) (o9 HB.out)); replace HO0 := rR_ HO0 ho0 hb; replace HK := a_ (Kept.below (S := (fun k_ => P0_ k_)) HK.out hb); replace HB := Q8 HB hb; (try clear hb); (try clear ho0); obtain ⟨Ao8, co8, eo8⟩ := Kd.H6 c1H.out; subst eo8) | ((with_reducible refine D6 (b := .append) (xs := #[.tmp 7, .tmp 11]) rfl ?_); at_builtin; refine Kd.G9 (Kd.int .u8) (w0 := w0) w0.heap.size rfl (.tmp 7) (.tmp 11) 22 5 (.int .u8 0) 1 rfl Tryd.underlying22 info5 rfl (by decide) (by omega) a8P l0 c3S _ _ _ (fun k_ => (P0_ k_ ∨ w.heap.size ≤ k_) ∧ some k_ ≠ (.slice Ao8 c3S.length co8 : Value).ownBlock) (fun _ => False) rfl rfl ?aO ?aR (fun _ _ h => h) (fun _ h => h.elim) ?aF ?aB ?aS ?aL ?_; (case aR => exact (Kd.F9 c1H.out).2.2); (case aB => exact HB.out); (case aF => exact (fun k_ hk => ⟨(.inr (Nat.le_trans HK.out.1 hk)), Kd.fresh' (Kd.U8 c1H.out) k_ hk⟩)); (case aO => exact HO0.out); (case aS => exact (o9 HB.out)); (case aL => have := d3v.out; omega); intro g8p w7 ho hb hg hat; rw [← e8T.out] at ho; have e8U := a_ ho; replace c1H := a_ (Kd.Q7 (ok := (fun k_ => (P0_ k_ ∨ w.heap.size ≤ k_))) (by exact Kd.y9 c1H.out (fun _ hk => ⟨hk.1.1, hk.2⟩)) hg hat); replace HB := a_ hb; replace HK := a_ (Kept.b1R (S := (fun k_ => P0_ k_)) hg HK.out (fun k_ e_ => (HO0.out.1 k_ e_).1)); clear HO0 ho hb hg hat))
 go_ret
 exact ⟨_, by (rfl), by exact Kd.y9 e8U.out (fun _ hk => hk.1), by exact HB.out, by exact HK.out⟩
def S9.j0 : Nat → Bool → Int → Int → List Int → Option (Bool)
 | 0, _, _, _, _ => none
 | k + 1, x10, b2O, b5d, d8c => if x10 = true then (some (b5d == 0)) else (if (d8c.length : Int) > 0 then (some false) else (if b2O = 3 then (some (b5d == 0)) else (if b2O = 4 then (some (b5d == 0)) else (if b2O = 5 then (some true) else (if b2O = 7 then (some true) else (if b2O = 6 then (some (decide (b5d < 256))) else (some false)))))))
def S9.f (k : Nat) (G8 : Int) (O9 : Int) (U5 : List Int) : Option (Bool) := if G8 = 1 then (S9.j0 k true G8 O9 U5) else (S9.j0 k (G8 == 2) G8 O9 U5)
theorem S9.calls (k : Nat) (G8 : Int) (O9 : Int) (a3h : Option Addr) (a3i : Nat) (U5 : List Int) (r : Bool) (w : World) (a4N : Kd.C (Kd.int .u8) w a3h U5.length U5) (a4O : U5.length ≤ a3i) (h : S9.f k G8 O9 U5 = some r) :
  Calls Tryd.prog 40 #[.agg #[.int .i64 G8, .int .u32 O9, .slice a3h U5.length a3i]] w fun e w' => e = .returned (.bool r) ∧ Below w.heap.size w w' := by
 have c1h := Tryd.underlying58
 have b2I := a_ a4N
 have b8e := a_ a4O
 clear a4N a4O
 have HB := a_ (Below.refl w.heap.size w)
 have H := h
 clear h
 unfold S9.f at H
 have HC2 := a_ H
 clear H
 go_enter Tryd.func40, Tryd.ntmps40
 go_upto_region 1 with (first | (refine be_ 1 #[.int .i64 G8, .int .u32 O9, .slice a3h U5.length a3i] 58 ?_; intro e8V hg w3 hbox hb; have a8a := a_ hbox; have g49 := lb_ HB hg; replace HB := Q8 HB hb; clear hb hbox hg))
 go_cut [10] (fun v10 wc => ∃ (kq : Nat) (c6F : Bool), v10 = .bool c6F ∧ Aside0 (S9.j0 kq c6F G8 O9 U5 = some r) ∧ Aside0 (kq ≤ k) ∧ Aside0 (wc.heap[e8V]? = some (.cells #[.int .i64 G8, .int .u32 O9, (.slice a3h U5.length a3i)] 58 (0, 0))) ∧ Aside0 (Below w.heap.size w wc))
 case first =>
  have H := HC2.out; clear HC2
  by_cases c4 : G8 = 1
  ·rw [if_pos c4] at H; obtain ⟨a3x, a9S⟩ := bt_ c4; clear c4; have H' := a_ H; clear H; obtain ⟨b1x, b1y, b1z, b1A, b1B, b1C⟩ := a0u a8a.out
   go_wp2
   go_meet
   case rel => exact ⟨_, (true), (by rfl), H', ⟨by (omega)⟩, ⟨by exact a8a.out⟩, ⟨by exact HB.out⟩⟩
  ·rw [if_neg c4] at H; have a3x := bq_ c4; have a9S := bn_ c4; have H' := a_ H; clear H; obtain ⟨b9f, b9g, b9h, b9i, b9j, b9k⟩ := a0u a8a.out
   go_wp2
   go_meet
   case rel => exact ⟨_, (G8 == 2), (by rfl), H', ⟨by (omega)⟩, ⟨by exact a8a.out⟩, ⟨by exact HB.out⟩⟩
 case rest =>
  clear HC2; obtain ⟨kq, c6F, rfl, HA, HJ1, a8a, HB⟩ := hcut
  cases kq with
  | zero => exact absurd HA.out (by simp [S9.j0])
  | succ kj1 =>
   have H := HA.out; clear HA
   simp only [S9.j0] at H
   by_cases c7 : c6F = true
   ·subst c7; rw [if_pos rfl] at H; obtain rfl := oj_ H; obtain ⟨d3k, d3l, d3m, d3n, d3o, d3p⟩ := a0u a8a.out
    go_wp2
    go_ret
    exact ⟨by (rfl), by exact HB.out⟩
   ·cases nt_ c7
    rw [if_neg a2O] at H
    by_cases c9 : (U5.length : Int) > 0
    ·rw [if_pos c9] at H; have a6P : decide (0 < (U5.length : Int)) = true := dt_ c9; have b1o : decide (0 < U5.length) = true := dt_ (by omega); clear c9; obtain rfl := oj_ H; obtain ⟨b4X, b4Y, b4Z, b40, b41, b42⟩ := a0u a8a.out
     go_wp2
     go_ret
     exact ⟨by (rfl), by exact HB.out⟩
    ·rw [if_neg c9] at H; have a6P : decide (0 < (U5.length : Int)) = false := df_ c9; have b1o : decide (0 < U5.length) = false := df_ (by omega); clear c9
     by_cases c11 : G8 = 3
     ·rw [if_pos c11] at H; obtain ⟨b77, e8W⟩ := bt_ c11; clear c11; obtain rfl := oj_ H; obtain ⟨d7y, d7z, d7A, d7B, d7C, d7D⟩ := a0u a8a.out
      go_wp2
      go_ret
      exact ⟨by (rfl), by exact HB.out⟩
     ·rw [if_neg c11] at H; have b77 := bq_ c11; have e8W := bn_ c11
      by_cases c13 : G8 = 4
      ·rw [if_pos c13] at H; obtain ⟨c09, c5l⟩ := bt_ c13; clear c13; obtain rfl := oj_ H; obtain ⟨c6G, c6H, c6I, c6J, c6K, c6L⟩ := a0u a8a.out
       go_wp2
       go_ret
       exact ⟨by (rfl), by exact HB.out⟩
      ·rw [if_neg c13] at H; have c09 := bq_ c13; have c5l := bn_ c13
       by_cases c15 : G8 = 5
       ·rw [if_pos c15] at H; obtain ⟨c5H, d1L⟩ := bt_ c15; clear c15; obtain rfl := oj_ H; obtain ⟨b9l, b9m, c6M, b9n, b9o, c6N⟩ := a0u a8a.out
        go_wp2
        go_ret
        exact ⟨by (rfl), by exact HB.out⟩
       ·rw [if_neg c15] at H; have c5H := bq_ c15; have d1L := bn_ c15
        by_cases c17 : G8 = 7
        ·rw [if_pos c17] at H; obtain ⟨d1o, d1p⟩ := bt_ c17; clear c17; obtain rfl := oj_ H; obtain ⟨c6O, c6P, d8d, c6Q, c6R, d8e⟩ := a0u a8a.out
         go_wp2
         go_ret
         exact ⟨by (rfl), by exact HB.out⟩
        ·rw [if_neg c17] at H; have d1o := bq_ c17; have d1p := bn_ c17
         by_cases c19 : G8 = 6
         ·rw [if_pos c19] at H; obtain ⟨d1q, d1r⟩ := bt_ c19; clear c19; obtain rfl := oj_ H; obtain ⟨b9p, b9q, b9r, b9s, b9t, b9u⟩ := a0u a8a.out
          go_wp2
          go_ret
          exact ⟨by (rfl), by exact HB.out⟩
         ·rw [if_neg c19] at H; have d1q := bq_ c19; have d1r := bn_ c19; obtain rfl := oj_ H; obtain ⟨d8f, d8g, f4O, d8h, d8i, f4P⟩ := a0u a8a.out
          go_wp2
          go_ret
          exact ⟨by (rfl), by exact HB.out⟩
def Q9.l0 : Nat → Int → Int → Int → Option (Bool)
 | 0, _, _, _ => none
 | k + 1, x0, x1, x5 => if x5 < x1 then (Q9.l0 k ((Int.tdiv x0 2) % 4294967296) x1 ((x5 + 1) % 256)) else (some ((Int.tmod x0 2) == 1))
def Q9.f (k : Nat) (a0 : Int) (a1 : Int) : Option (Bool) := if a1 > 31 then (some false) else (Q9.l0 k a0 a1 0)
theorem Q9.calls (k : Nat) (a0 : Int) (a1 : Int) (r : Bool) (w : World) (h : Q9.f k a0 a1 = some r) :
  Calls Tryd.prog 92 #[.int .u32 a0, .int .u8 a1] w fun e w' => e = .returned (.bool r) ∧ G6 w w' := by
 have H := h
 clear h
 unfold Q9.f at H
 by_cases c3 : a1 > 31
 ·rw [if_pos c3] at H; have a3w : decide (31 < a1) = true := dt_ c3; clear c3; obtain rfl := oj_ H
  go_enter Tryd.func92, Tryd.ntmps92
  go_wp2
  go_ret
  exact ⟨by (rfl), by exact G6.refl _⟩
 ·rw [if_neg c3] at H; have a3w : decide (31 < a1) = false := df_ c3; clear c3; have H' := a_ H; clear H
  go_enter Tryd.func92, Tryd.ntmps92
  go_wp2
  go_loopg [0, 5] k (fun kq v0 v5 w' => ∃ (a4u : Int) (J7 : Int), v0 = .int .u32 a4u ∧ v5 = .int .u8 J7 ∧ Aside0 (Q9.l0 kq a4u a1 J7 = some r) ∧ Aside0 (kq ≤ k) ∧ G6 w w')
  case atStart => exact ⟨(a0), (0), (by rfl), (by rfl), H', ⟨Nat.le_refl _⟩, by exact G6.refl _⟩
  case round =>
   clear H'
   try clear a3w
   obtain ⟨a4u, J7, rfl, rfl, HA, HK1, ⟨m1, rfl⟩⟩ := hrel
   cases gk with
   | zero => exact absurd HA.out (by simp [Q9.l0])
   | succ k1 =>
    have H := HA.out; clear HA
    simp only [Q9.l0] at H
    by_cases c4 : J7 < a1
    ·rw [if_pos c4] at H; have a3x := dt_ c4; clear c4; have H' := a_ H; clear H
     go_wp2
     go_roundg k1
     case measure => have := HK1.out; omega
     case rel => exact ⟨((Int.tdiv a4u 2) % 4294967296), ((J7 + 1) % 256), (by rfl), (by rfl), H', ⟨by have := HK1.out; omega⟩, by repeat (first | exact G6.refl _ | apply G6.step)⟩
    ·rw [if_neg c4] at H; have a3x := df_ c4; clear c4; obtain rfl := oj_ H
     go_wp2
     go_ret
     exact ⟨by (rfl), by repeat (first | exact G6.refl _ | apply G6.step)⟩
def a0Z.f (k : Nat) (a0 : Int) (a1 : Int) : Option (Bool) := if a1 = 125 then (some true) else (if a1 = 126 then (some true) else ((Q9.f k a0 a1).bind fun e3Q => (some e3Q)))
theorem a0Z.calls (k : Nat) (a0 : Int) (a1 : Int) (r : Bool) (w : World) (h : a0Z.f k a0 a1 = some r) :
  Calls Tryd.prog 75 #[.int .u32 a0, .int .u8 a1] w fun e w' => e = .returned (.bool r) ∧ G6 w w' := by
 have H := h
 clear h
 unfold a0Z.f at H
 by_cases c3 : a1 = 125
 ·rw [if_pos c3] at H; obtain ⟨a3w, b1t⟩ := bt_ c3; clear c3; obtain rfl := oj_ H
  go_enter Tryd.func75, Tryd.ntmps75
  go_wp2
  go_ret
  exact ⟨by (rfl), by exact G6.refl _⟩
 ·rw [if_neg c3] at H; have a3w := bq_ c3; have b1t := bn_ c3
  by_cases c4 : a1 = 126
  ·rw [if_pos c4] at H; obtain ⟨a3x, a9S⟩ := bt_ c4; clear c4; obtain rfl := oj_ H
   go_enter Tryd.func75, Tryd.ntmps75
   go_wp2
   go_ret
   exact ⟨by (rfl), by exact G6.refl _⟩
  ·rw [if_neg c4] at H; have a3x := bq_ c4; have a9S := bn_ c4; obtain ⟨e3Q, A5, H⟩ := bd_ H
   (try dsimp only at H); obtain rfl := oj_ H
   go_enter Tryd.func75, Tryd.ntmps75
   go_wp2_with (first | (go_at_call 92; (with_reducible refine (Q9.calls k a0 a1 e3Q _ A5.out).mono ?_); rintro e w' ⟨rfl, ⟨nd, rfl⟩⟩))
   go_ret
   exact ⟨by (rfl), by repeat (first | exact G6.refl _ | apply G6.step)⟩
def O8.l0 : Nat → List Int → Int → List Int → Int → Option (List Int)
 | 0, _, _, _, _ => none
 | k + 1, x0, x1, x5, x6 => if x6 < (x0.length : Int) then (if 0 ≤ x6 then ((a0Z.f k x1 (rd x0 x6)).bind fun e3R => (if e3R = true then ((some (([125, Go.bits .xor .u8 (rd x0 x6) 32] : List Int) : List Int)).bind fun c9D => (if x5.length + c9D.length < 140737488355328 then (O8.l0 k x0 x1 (x5 ++ c9D) (wrap64 (x6 + 1))) else (none))) else (if x5.length < 140737488355328 then (O8.l0 k x0 x1 (x5 ++ [rd x0 x6]) (wrap64 (x6 + 1))) else (none)))) else (none)) else (some x5)
def O8.f (k : Nat) (l0 : List Int) (a1 : Int) : Option (List Int) := O8.l0 k l0 a1 ([] : List Int) 0
theorem O8.calls (k : Nat) (A0 : Option Addr) (c0 : Nat) (l0 : List Int) (a1 : Int) (r : List Int) (w : World) (hr0 : Kd.C (Kd.int .u8) w A0 l0.length l0) (hc0 : l0.length ≤ c0) (h : O8.f k l0 a1 = some r) :
  Calls Tryd.prog 56 #[.slice A0 l0.length c0, .int .u32 a1] w fun e w' => ∃ v0_ : Value, e = .returned (v0_) ∧ Kd.R (Kd.int .u8) 5 w' w.heap.size (fun _ => True) v0_ r ∧ Below w.heap.size w w' := by
 have HR0 := a_ hr0
 have HC0 := a_ hc0
 clear hr0 hc0
 have HB := a_ (Below.refl w.heap.size w)
 have H := h
 clear h
 unfold O8.f at H
 have H' := a_ H
 clear H
 go_enter Tryd.func56, Tryd.ntmps56
 go_wp2
 go_loopg [5, 6] k (fun kq v5 v6 w' => ∃ (J7 : List Int) (a0w : Int), v6 = .int .i64 a0w ∧ Aside0 (O8.l0 kq l0 a1 J7 a0w = some r) ∧ Aside0 (kq ≤ k) ∧ Aside0 (Kd.R (Kd.int .u8) 5 w' w.heap.size (fun _ => True) v5 J7) ∧ Aside0 (Below w.heap.size w w'))
 case atStart => exact ⟨([] : List Int), (0), (by rfl), H', ⟨Nat.le_refl _⟩, ⟨by (exact Kd.Y4 _ _ _ _ _)⟩, ⟨by exact HB.out⟩⟩
 case round =>
  clear H'; obtain ⟨J7, a0w, rfl, HA, HK1, b0B, HB⟩ := hrel
  cases gk with
  | zero => exact absurd HA.out (by simp [O8.l0])
  | succ k1 =>
   have H := HA.out; clear HA
   simp only [O8.l0] at H
   by_cases c3 : a0w < (l0.length : Int)
   ·rw [if_pos c3] at H; have a3w := dt_ c3; clear c3; have a3x := a2Q H; replace H := O6 H; obtain ⟨e3R, A5, H⟩ := bd_ H
    try dsimp only at H
    by_cases c6 : e3R = true
    ·subst c6; rw [if_pos rfl] at H; obtain ⟨c9D, d3x⟩ := is_ ([125, Go.bits .xor .u8 (rd l0 a0w) 32] : List Int); rw [Option.bind_some, ← d3x] at H; have e8X := a_ d3x; clear d3x; have c7 := X4 H; replace H := O6 H; have d3y := a_ c7; clear c7; obtain ⟨g1q, d3z⟩ := is_ ((J7 ++ c9D) : List Int); rw [← d3z] at H; have e8Y := a_ d3z; clear d3z; have H' := a_ H; clear H; have c3T : 0 ≤ (a0w : Int) := U9; have c3V : a0w < (l0.length : Int) := U9; obtain ⟨d3A, e3S, b2P⟩ := Kd.a0x HR0.out a0w c3T c3V
     cases e3S
     replace b2P := J9 HB b2P; replace c3T := eq_true c3T; replace c3V := eq_true c3V
     go_wp2_with (first | (refine gl_ (some 18) Tryd.func75 #[.int .u32 a1, .int .u8 (rd l0 a0w)] ?_; (with_reducible refine (a0Z.calls k1 a1 (rd l0 a0w) true _ A5.out).mono ?_); rintro e w' ⟨rfl, ⟨nd, rfl⟩⟩; refine ⟨_, rfl, ?_⟩; have e3T : 0 ≤ (a0w : Int) := U9; have e3U : a0w < (l0.length : Int) := U9; obtain ⟨e8Z, g1r, c6S⟩ := Kd.a0x HR0.out a0w e3T e3U; obtain rfl : d3A = e8Z := (by injection g1r); replace c6S := J9 HB c6S; replace e3T := eq_true e3T; replace e3U := eq_true e3U) | ((with_reducible refine N7 (N := 25) rfl ?_); refine Kd.a4l (Kd.int .u8) _ 5 ?hg (N := 25) ?hd (xs := ([125, Go.bits .xor .u8 (rd l0 a0w) 32] : List Int)) (inner := [.int .u8 125, .int .u8 (Go.bits .xor .u8 (rd l0 a0w) 32)]) (ok := fun _ => True) (okp := fun _ => True) ?hr ?hp (fun _ hk => hk) trivial (Below.refl _ _) (Nat.le_refl _) (by simp) ?_; (case hd => rfl); (case hg => rfl); (case hr => (go_simp; done)); (case hp => exact (J3.one (show Kd.M (Kd.int .u8) _ _ _ 125 [.int .u8 125] from rfl) (J3.one (show Kd.M (Kd.int .u8) _ _ _ (Go.bits .xor .u8 (rd l0 a0w) 32) [.int .u8 (Go.bits .xor .u8 (rd l0 a0w) 32)] from rfl) (J3.none _ _)))); intro g8q w8 ho9 hb hg_ V8; clear hg_ V8; (rw [← e8X.out] at ho9); have c1I := a_ (Kd.X3 (Kd.a03 ho9 (Kd.U8 (by (with_reducible repeat (apply Kd.a1Q)); exact b0B.out))) (o9 (by repeat (with_reducible first | exact HB.out | apply y5)))); replace b0B := a_ (Kd.a3b (by (with_reducible repeat (apply Kd.a1Q)); exact b0B.out) (Kd.a1d ho9) hb); replace HB := a_ (L8 (by repeat (with_reducible first | exact HB.out | apply y5)) hb); clear hb ho9; obtain ⟨e3K, e3L, e3M⟩ := Kd.H6 c1I.out; subst e3M) | ((with_reducible refine D6 (b := .append) (xs := #[.tmp 19, .tmp 25]) rfl ?_); at_builtin; refine Kd.G9 (Kd.int .u8) (w0 := w) w.heap.size rfl (.tmp 19) (.tmp 25) 22 5 (.int .u8 0) 1 rfl Tryd.underlying22 info5 rfl (by decide) (by omega) u5 J7 c9D _ _ _ (fun k_ => some k_ ≠ (.slice e3K c9D.length e3L : Value).ownBlock) (fun _ => False) rfl rfl ?aO ?aR (fun _ _ h => h) (fun _ h => h.elim) ?aF ?aB ?aS ?aL ?_; (case aR => exact (Kd.F9 c1I.out).2.2); (case aB => exact HB.out); (case aF => exact (fun k_ hk => Kd.fresh' (Kd.U8 c1I.out) k_ hk)); (case aO => exact (by exact Kd.y9 b0B.out (fun _ hk => hk.2))); (case aS => exact (o9 HB.out)); (case aL => have := d3y.out; omega); intro g8r w10 ho hb hg hat; rw [← e8Y.out] at ho; have e80 := a_ ho; replace c1I := a_ (Kd.Q7 (ok := (fun _ => True)) c1I.out hg hat); replace HB := a_ hb; clear b0B ho hb hg hat))
     go_roundg k1
     case measure => have := HK1.out; omega
     case rel => exact ⟨(g1q), (wrap64 (a0w + 1)), (by rfl), H', ⟨by have := HK1.out; omega⟩, ⟨by exact Kd.y9 e80.out (fun _ hk => trivial)⟩, ⟨by exact HB.out⟩⟩
    ·cases nt_ c6
     rw [if_neg a2O] at H; have c12 := X4 H; replace H := O6 H; have b8a := a_ c12; clear c12; obtain ⟨g1s, d3B⟩ := is_ ((J7 ++ [rd l0 a0w]) : List Int); rw [← d3B] at H; have e81 := a_ d3B; clear d3B; have H' := a_ H; clear H; have c3T : 0 ≤ (a0w : Int) := U9; have c3V : a0w < (l0.length : Int) := U9; obtain ⟨d3A, e3S, b2P⟩ := Kd.a0x HR0.out a0w c3T c3V
     cases e3S
     replace b2P := J9 HB b2P; replace c3T := eq_true c3T; replace c3V := eq_true c3V
     go_wp2_with (first | (refine gl_ (some 18) Tryd.func75 #[.int .u32 a1, .int .u8 (rd l0 a0w)] ?_; (with_reducible refine (a0Z.calls k1 a1 (rd l0 a0w) false _ A5.out).mono ?_); rintro e w' ⟨rfl, ⟨nd, rfl⟩⟩; refine ⟨_, rfl, ?_⟩; have e3V : 0 ≤ (a0w : Int) := U9; have e3W : a0w < (l0.length : Int) := U9; obtain ⟨e82, g1t, c6T⟩ := Kd.a0x HR0.out a0w e3V e3W; obtain rfl : d3A = e82 := (by injection g1t); replace c6T := J9 HB c6T; replace e3V := eq_true e3V; replace e3W := eq_true e3W) | ((with_reducible refine D6 (b := .append) (xs := #[.tmp 27, .tmp 32]) rfl ?_); at_builtin; refine Kd.a1F (Kd.int .u8) (w0 := w) w.heap.size rfl (.tmp 27) (.tmp 32) 22 5 (.int .u8 0) 1 rfl Tryd.underlying22 info5 rfl (by decide) (by omega) u5 J7 (rd l0 a0w) [.int .u8 (rd l0 a0w)] (fun _ => True) (fun _ => False) rfl rfl ?aP (fun _ hk => hk.elim) ?aF ?aO ?aB ?aS ?aL ?_; (case aP => exact rfl); (case aB => exact (by repeat (with_reducible first | exact HB.out | apply y5))); (case aF => exact (fun _ _ => trivial)); (case aO => exact (by (with_reducible repeat (apply Kd.a1Q)); exact b0B.out)); (case aS => exact (o9 (by repeat (with_reducible first | exact HB.out | apply y5)))); (case aL => have := b8a.out; omega); intro g8s w13 ho hb hg hat; rw [← e81.out] at ho; have e83 := a_ ho; replace HB := a_ hb; clear b0B ho hb hg hat))
     go_roundg k1
     case measure => have := HK1.out; omega
     case rel => exact ⟨(g1s), (wrap64 (a0w + 1)), (by rfl), H', ⟨by have := HK1.out; omega⟩, ⟨by exact e83.out⟩, ⟨by exact HB.out⟩⟩
   ·rw [if_neg c3] at H; have a3w := df_ c3; clear c3; obtain rfl := oj_ H
    go_wp2
    go_ret
    exact ⟨_, by (rfl), by exact b0B.out, by exact HB.out⟩
def a0s.f (a0 : Bool) : Option (Int) := if a0 = true then (some 4294967295) else (some 65535)
theorem a0s.calls (a0 : Bool) (r : Int) (w : World) (h : a0s.f a0 = some r) :
  Calls Tryd.prog 93 #[.bool a0] w fun e w' => e = .returned (.int .u32 r) ∧ G6 w w' := by
 have H := h
 clear h
 unfold a0s.f at H
 by_cases c2 : a0 = true
 ·subst c2; rw [if_pos rfl] at H; obtain rfl := oj_ H
  go_enter Tryd.func93, Tryd.ntmps93
  go_wp2
  go_ret
  exact ⟨by (rfl), by exact G6.refl _⟩
 ·cases nt_ c2
  rw [if_neg a2O] at H; obtain rfl := oj_ H
  go_enter Tryd.func93, Tryd.ntmps93
  go_wp2
  go_ret
  exact ⟨by (rfl), by exact G6.refl _⟩
def a1M.f (a0 : Bool) : Option (Int) := if a0 = true then (some 4) else (some 2)
theorem a1M.calls (a0 : Bool) (r : Int) (w : World) (h : a1M.f a0 = some r) :
  Calls Tryd.prog 77 #[.bool a0] w fun e w' => e = .returned (.int .i64 r) ∧ G6 w w' := by
 have H := h
 clear h
 unfold a1M.f at H
 by_cases c2 : a0 = true
 ·subst c2; rw [if_pos rfl] at H; obtain rfl := oj_ H
  go_enter Tryd.func77, Tryd.ntmps77
  go_wp2
  go_ret
  exact ⟨by (rfl), by exact G6.refl _⟩
 ·cases nt_ c2
  rw [if_neg a2O] at H; obtain rfl := oj_ H
  go_enter Tryd.func77, Tryd.ntmps77
  go_wp2
  go_ret
  exact ⟨by (rfl), by exact G6.refl _⟩
end Go.Proofs.YtgnonglkibhnhaaDoor.Print
