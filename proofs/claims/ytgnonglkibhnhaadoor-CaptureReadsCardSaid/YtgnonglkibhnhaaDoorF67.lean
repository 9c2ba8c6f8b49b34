import Derived.Test.YtgnonglkibhnhaaDoorM7
namespace Go.Proofs.YtgnonglkibhnhaaDoor.Print
open Go.RowKit Go.Proofs.YtgnonglkibhnhaaDoorW.PrintWords Go.Proofs.YtgnonglkibhnhaaDoorW.PrintLast Go.Proofs.YtgnonglkibhnhaaDoorW.PrintMore
attribute [local go_sem] a0n a0o a0P a0Q Y4 Y5 a0p a0q
set_option linter.unusedVariables false
set_option linter.unusedSimpArgs false

/-! ### umpireref07_All: function 67 -/
mutual
def umpireref07_All.l0 : Nat → Int → Bool → List (List Int) → List (List Int) → Int → Int → Int → Int → Int → Int → Option ((List (List Int)) × Int × Int × Int × Int × Int)
 | 0, _, _, _, _, _, _, _, _, _, _ => none
 | k + 1, x1, x2, x8, x10, x11, a4W, a4X, a4Y, a4Z, a5a => if x11 < (x10.length : Int) then (if 0 ≤ x11 then ((a14.f k (a1T x10 x11) x1 x2).bind fun c9B => (if c9B.2 = 1 then (if x8.length < 5864062014805 then (umpireref07_All.j1 k x1 x2 (x8 ++ [c9B.1]) x10 x11 c9B.2 (wrap64 (a4W + 1)) a4X a4Y a4Z a5a) else (none)) else (umpireref07_All.j1 k x1 x2 x8 x10 x11 c9B.2 a4W a4X a4Y a4Z a5a))) else (none)) else (some (x8, a4W, a4X, a4Y, a4Z, a5a))
def umpireref07_All.j1 : Nat → Int → Bool → List (List Int) → List (List Int) → Int → Int → Int → Int → Int → Int → Int → Option ((List (List Int)) × Int × Int × Int × Int × Int)
 | 0, _, _, _, _, _, _, _, _, _, _, _ => none
 | k + 1, x1, x2, x8, x10, x11, x13, a4W, a4X, a4Y, a4Z, a5a => if x13 = 2 then (umpireref07_All.j2 k x1 x2 x8 x10 x11 x13 a4W (wrap64 (a4X + 1)) a4Y a4Z a5a) else (umpireref07_All.j2 k x1 x2 x8 x10 x11 x13 a4W a4X a4Y a4Z a5a)
def umpireref07_All.j2 : Nat → Int → Bool → List (List Int) → List (List Int) → Int → Int → Int → Int → Int → Int → Int → Option ((List (List Int)) × Int × Int × Int × Int × Int)
 | 0, _, _, _, _, _, _, _, _, _, _, _ => none
 | k + 1, x1, x2, x8, x10, x11, x13, a4W, a4X, a4Y, a4Z, a5a => if x13 = 3 then (umpireref07_All.j3 k x1 x2 x8 x10 x11 x13 a4W a4X (wrap64 (a4Y + 1)) a4Z a5a) else (umpireref07_All.j3 k x1 x2 x8 x10 x11 x13 a4W a4X a4Y a4Z a5a)
def umpireref07_All.j3 : Nat → Int → Bool → List (List Int) → List (List Int) → Int → Int → Int → Int → Int → Int → Int → Option ((List (List Int)) × Int × Int × Int × Int × Int)
 | 0, _, _, _, _, _, _, _, _, _, _, _ => none
 | k + 1, x1, x2, x8, x10, x11, x13, a4W, a4X, a4Y, a4Z, a5a => if x13 = 4 then (if x13 = 5 then (umpireref07_All.l0 k x1 x2 x8 x10 (wrap64 (x11 + 1)) a4W a4X a4Y (wrap64 (a4Z + 1)) (wrap64 (a5a + 1))) else (umpireref07_All.l0 k x1 x2 x8 x10 (wrap64 (x11 + 1)) a4W a4X a4Y (wrap64 (a4Z + 1)) a5a)) else (if x13 = 5 then (umpireref07_All.l0 k x1 x2 x8 x10 (wrap64 (x11 + 1)) a4W a4X a4Y a4Z (wrap64 (a5a + 1))) else (umpireref07_All.l0 k x1 x2 x8 x10 (wrap64 (x11 + 1)) a4W a4X a4Y a4Z a5a))
end
def umpireref07_All.f (k : Nat) (l0 : List Int) (a1 : Int) (a2 : Bool) : Option ((List (List Int)) × Int × Int × Int × Int × Int) := (J3.f k l0).bind fun a7i => (umpireref07_All.l0 k a1 a2 ([] : List (List Int)) a7i 0 0 0 0 0 0)
set_option maxHeartbeats 8000000 in
set_option maxRecDepth 100000 in
theorem umpireref07_All.calls (k : Nat) (P0_ : Nat → Prop) (A0 : Option Addr) (c0 : Nat) (l0 : List Int) (a1 : Int) (a2 : Bool) (r1 : List (List Int)) (r2 : Int) (r3 : Int) (r4 : Int) (r5 : Int) (r6 : Int) (w : World) (hs0 : Kd.V (Kd.int .u8) 5 w w.heap.size (fun k_ => P0_ k_) (.slice A0 l0.length c0) l0) (h : umpireref07_All.f k l0 a1 a2 = some (r1, r2, r3, r4, r5, r6)) :
  Calls Tryd.prog 67 #[.slice A0 l0.length c0, .int .u32 a1, .bool a2] w fun e w' => ∃ v0_ : Value, e = .returned (.tuple #[v0_, .agg #[.int .i64 r2, .int .i64 r3, .int .i64 r4, .int .i64 r5, .int .i64 r6]]) ∧ Kd.N (Kd.slice 5 (Kd.int .u8)) 22 w' w.heap.size (fun k_ => (P0_ k_ ∨ w.heap.size ≤ k_)) v0_ r1 ∧ Below w.heap.size w w' := by
 have f0w := Tryd.underlying118
 have HO0 := a_ (show Kd.V (Kd.int .u8) 5 w w.heap.size (fun k_ => (P0_ k_ ∨ w.heap.size ≤ k_)) (.slice A0 l0.length c0) l0 from Kd.a3N hs0 (fun k_ hk => .inl hk))
 have HB := a_ (Below.refl w.heap.size w)
 have H := h
 clear h
 unfold umpireref07_All.f at H
 obtain ⟨a7i, A4, H⟩ := bd_ H
 try dsimp only at H
 have H' := a_ H
 clear H
 go_enter Tryd.func67, Tryd.ntmps67
 go_wp2_with (first | (refine be_ 7 #[.int .i64 0, .int .i64 0, .int .i64 0, .int .i64 0, .int .i64 0] 118 ?_; intro a0C hg w5 hbox hb; have a0Y := a_ hbox; have f1f := lb_ HB hg; replace HO0 := a_ (Kd.a9d (Kd.a9J HO0.out a0C (Nat.le_of_eq hg.symm)) hb); replace HB := U9 HB hb; clear hb hbox hg) | (refine be_ 9 #[.int .i64 0, .int .i64 0, .int .i64 0, .int .i64 0, .int .i64 0] 118 ?_; intro Z9 hg w6 hbox hb; have a1i := a_ hbox; have b8o := lb_ HB hg; obtain ⟨a0w, U7⟩ := nn_ a0Y hg; replace HO0 := a_ (Kd.a9d (Kd.a9J HO0.out Z9 (Nat.le_of_eq hg.symm)) hb); replace a0Y := X4 a0Y hb; replace HB := U9 HB hb; clear hb hbox hg; have g9Z := U7.out; have g90 := a0w.out; obtain ⟨d43, d44, d45, e6i, e6j, d46, d47, d48, e6k, e6l⟩ := c4C a1i.out) | ((with_reducible refine a8E (t := 118) (p := 9) rfl ?_); refine a7w (t := 118) (p := 9) (v := ?g6S) (w1 := (((((w6.setCell ⟨Z9, 0, none⟩ (.int .i64 0)).setCell ⟨Z9, 1, none⟩ (.int .i64 0)).setCell ⟨Z9, 2, none⟩ (.int .i64 0)).setCell ⟨Z9, 3, none⟩ (.int .i64 0)).setCell ⟨Z9, 4, none⟩ (.int .i64 0))) ?hg ?ho ?hn ?hr ?_; (case ho => rfl); (case hg => rfl); (case hn => rfl); (case hr => (go_simp; done)); intro w9 hw; have n0_ : Aside0 (Kd.V (Kd.int .u8) 5 w9 w.heap.size (fun k_ => (P0_ k_ ∨ w.heap.size ≤ k_) ∧ k_ ≠ a0C ∧ k_ ≠ Z9) (.slice A0 l0.length c0) l0) := ⟨(by rw [hw]; exact (by exact Kd.a3N (Kd.b1n (p := ⟨Z9, 4, none⟩) (Kd.b1n (p := ⟨Z9, 3, none⟩) (Kd.b1n (p := ⟨Z9, 2, none⟩) (Kd.b1n (p := ⟨Z9, 1, none⟩) (Kd.b1n (p := ⟨Z9, 0, none⟩) (Kd.a3N HO0.out (fun k_ hk => (⟨hk, hk.2⟩ : _ ∧ k_ ≠ Z9))) (fun _ hk => hk.2) (.int .i64 0)) (fun _ hk => hk.2) (.int .i64 0)) (fun _ hk => hk.2) (.int .i64 0)) (fun _ hk => hk.2) (.int .i64 0)) (fun _ hk => hk.2) (.int .i64 0)) (fun _ hk => ⟨hk.1.1.1, ⟨hk.1.1.2, hk.1.2⟩⟩)))⟩; have n1_ : Aside0 (w9.heap[a0C]? = some (.cells #[.int .i64 0, .int .i64 0, .int .i64 0, .int .i64 0, .int .i64 0] 118 (0, 0))) := ⟨(by rw [hw]; exact (o8 (o8 (o8 (o8 (o8 a0Y.out a0w.out _) a0w.out _) a0w.out _) a0w.out _) a0w.out _))⟩; have n2_ : Aside0 (w9.heap[Z9]? = some (.cells #[.int .i64 0, .int .i64 0, .int .i64 0, .int .i64 0, .int .i64 0] 118 (0, 0))) := ⟨(by rw [hw]; exact (l9 (l9 (l9 (l9 (l9 a1i.out 0 _ rfl) 1 _ rfl) 2 _ rfl) 3 _ rfl) 4 _ rfl))⟩; have n3_ : Aside0 (Below w.heap.size w w9) := ⟨(by rw [hw]; exact (by repeat (with_reducible first | exact HB.out | refine o7 ?_ b8o.out)))⟩; clear hw HO0 a0Y a1i HB; have HO0 := n0_; have a0Y := n1_; have a1i := n2_; have HB := n3_; clear n0_ n1_ n2_ n3_) | (refine gl_ (some 16) Tryd.func85 #[.slice A0 l0.length c0] ?_; (with_reducible refine (J3.calls k (fun k_ => ((P0_ k_ ∨ w.heap.size ≤ k_) ∧ (k_ ≠ a0C ∧ k_ ≠ Z9))) _ _ l0 a7i _ HO0.out A4.out).mono ?_); rintro e w10 ⟨f1g, rfl, ho0, hb⟩; refine ⟨_, rfl, ?_⟩; have f1h := a_ (Kd.a7s (Kd.O7 (ok' := fun k_ => (P0_ k_ ∨ w.heap.size ≤ k_) ∧ k_ ≠ a0C ∧ k_ ≠ Z9) ho0 (fun k_ hk_ => ⟨Or.elim hk_ (fun hs_ => hs_.1) (fun hn_ => (.inr (Nat.le_trans (y5 HB.out) hn_))), Or.elim hk_ (fun hs_ => hs_.2.1) (fun hn_ => (Kd.a6v a0Y.out k_ hn_)), Or.elim hk_ (fun hs_ => hs_.2.2) (fun hn_ => (Kd.a6v a1i.out k_ hn_))⟩)) (y5 HB.out)); replace HO0 := a_ (Kd.a3D HO0.out (Kd.a4p ho0) hb); replace a0Y := X4 a0Y hb; replace a1i := X4 a1i hb; replace HB := U9 HB hb; (try clear hb); (try clear ho0)))
 go_loopg [8, 11] k (fun kq v8 v11 w' => ∃ (Q7 : List (List Int)) (a5m : Int) (a4I : Int) (a3B : Int) (a2F : Int) (a0S : Int) (a0T : Int), v11 = .int .i64 a5m ∧ Aside0 (umpireref07_All.l0 kq a1 a2 Q7 a7i a5m a4I a3B a2F a0S a0T = some (r1, r2, r3, r4, r5, r6)) ∧ Aside0 (kq ≤ k) ∧ Aside0 (Kd.N (Kd.slice 5 (Kd.int .u8)) 22 w' w.heap.size (fun k_ => (P0_ k_ ∨ w.heap.size ≤ k_) ∧ some k_ ≠ (f1g : Value).ownBlock ∧ k_ ≠ a0C ∧ k_ ≠ Z9) v8 Q7) ∧ Aside0 (Kd.N (Kd.slice 5 (Kd.int .u8)) 22 w' w.heap.size (fun k_ => (P0_ k_ ∨ w.heap.size ≤ k_) ∧ some k_ ≠ (v8 : Value).ownBlock ∧ k_ ≠ a0C ∧ k_ ≠ Z9) f1g a7i) ∧ Aside0 (w'.heap[a0C]? = some (.cells #[.int .i64 0, .int .i64 0, .int .i64 0, .int .i64 0, .int .i64 0] 118 (0, 0))) ∧ Aside0 (w'.heap[Z9]? = some (.cells #[.int .i64 a4I, .int .i64 a3B, .int .i64 a2F, .int .i64 a0S, .int .i64 a0T] 118 (0, 0))) ∧ Aside0 (Below w.heap.size w w'))
 case atStart => exact ⟨([] : List (List Int)), (0), (0), (0), (0), (0), (0), (by rfl), H', ⟨Nat.le_refl _⟩, ⟨by (exact Kd.d3o _ _ _ _ _)⟩, ⟨by exact Kd.O7 f1h.out (fun _ hk => ⟨hk.1, ⟨(by simp [Value.ownBlock]), ⟨hk.2.1, hk.2.2⟩⟩⟩)⟩, ⟨by exact a0Y.out⟩, ⟨by exact a1i.out⟩, ⟨by exact HB.out⟩⟩
 case round =>
  clear H'
  try clear d43
  try clear d44
  try clear d45
  try clear e6i
  try clear e6j
  try clear d46
  try clear d47
  try clear d48
  try clear e6k
  try clear e6l
  obtain ⟨Q7, a5m, a4I, a3B, a2F, a0S, a0T, rfl, HA, HK1, a2I, a4e, a0Y, a1i, HB⟩ := hrel
  cases gk with
  | zero => exact absurd HA.out (by simp [umpireref07_All.l0])
  | succ k1 =>
   have H := HA.out; clear HA
   simp only [umpireref07_All.l0] at H
   by_cases c11 : a5m < (a7i.length : Int)
   ·rw [if_pos c11] at H; have a7B := dt_ c11; clear c11; have a9S := a2z H; replace H := O5 H; obtain ⟨⟨d2m, b9u⟩, A13, H⟩ := bd_ H
    (try dsimp only at H); have e6m := a_ H; clear H; obtain ⟨b3J, a7C, c6P⟩ := Kd.a3X a4e.out; subst c6P; have d5a : 0 ≤ (a5m : Int) := V9; have d5b : a5m < (a7i.length : Int) := V9; obtain ⟨b1E, e6n, e6o, g1x, c9C, c9D, c9E⟩ := b2Y (Kd.a0r a4e.out).2.2 a5m d5a d5b
    cases g1x
    obtain ⟨g6T, e6p, e6q, d5c⟩ := Kd.e2N a4e.out [] a5m d5a d5b; obtain ⟨f7I, f7J, rfl, c2i, c2j⟩ := Kd.b9n e6q; have b69 := d5c 0 _ rfl; rw [Nat.add_zero, show (Kd.slice 5 (Kd.int .u8)).sz = 1 from rfl, Nat.mul_one] at b69; replace b69 := oj_ (b69.symm.trans c9C); injection b69 with d4j e5C d4k
    rw [d4j] at c2j; rw [d4k] at c2i; have b7a := a_ (show Kd.V (Kd.int .u8) 5 _ w.heap.size _ _ (a1T a7i a5m) from Kd.d8k c2i c2j); clear d4j e5C d4k c2j c2i d5c e6p; have c2k := a_ c9E; have d9T := a_ c9D; clear c9E c9D; replace d5a := eq_true d5a; replace d5b := eq_true d5b
    go_upto_if 34 with (first | (refine gl_ (some 30) Tryd.func86 #[.slice e6n (a1T a7i a5m).length e6o, .int .u32 a1, .bool a2] ?_; (with_reducible refine (a14.calls k1 _ _ (a1T a7i a5m) a1 a2 d2m b9u _ ?P5 ?P6 A13.out).mono ?_); (case P5 => repeat ((exact (by repeat (with_reducible exact c2k.out))))); (case P6 => exact d9T.out); rintro e w16 ⟨g91, rfl, ho0, hb⟩; refine ⟨_, rfl, ?_⟩; have c9F := a_ (Kd.a0e (Kd.c52 (M := fun k_ => (w.heap.size ≤ k_)) ho0 (y5 HB.out) (fun k_ h_ => h_)) (y5 HB.out)); replace a2I := rN_ a2I ho0 hb; replace a4e := rN_ a4e ho0 hb; replace b7a := a_ (Kd.a3D b7a.out (Kd.a0H ho0) hb); replace a0Y := X4 a0Y hb; replace a1i := X4 a1i hb; replace c2k := a_ (Kd.C9 (by repeat (with_reducible exact c2k.out)) hb); replace HB := U9 HB hb; (try clear hb); (try clear ho0)))
    go_cut [8] (fun v8 wc => ∃ (kq : Nat) (b1F : List (List Int)) (a3q : Int), Aside0 (umpireref07_All.j1 kq a1 a2 b1F a7i a5m b9u a3q a3B a2F a0S a0T = some (r1, r2, r3, r4, r5, r6)) ∧ Aside0 (kq ≤ k1) ∧ Aside0 (Kd.N (Kd.slice 5 (Kd.int .u8)) 22 wc w.heap.size (fun k_ => (P0_ k_ ∨ w.heap.size ≤ k_) ∧ some k_ ≠ ((.slice (some b1E) a7i.length a7C) : Value).ownBlock ∧ k_ ≠ a0C ∧ k_ ≠ Z9) v8 b1F) ∧ Aside0 (Kd.N (Kd.slice 5 (Kd.int .u8)) 22 wc w.heap.size (fun k_ => (P0_ k_ ∨ w.heap.size ≤ k_) ∧ some k_ ≠ (v8 : Value).ownBlock ∧ k_ ≠ a0C ∧ k_ ≠ Z9) (.slice (some b1E) a7i.length a7C) a7i) ∧ Aside0 (wc.heap[a0C]? = some (.cells #[.int .i64 0, .int .i64 0, .int .i64 0, .int .i64 0, .int .i64 0] 118 (0, 0))) ∧ Aside0 (wc.heap[Z9]? = some (.cells #[.int .i64 a3q, .int .i64 a3B, .int .i64 a2F, .int .i64 a0S, .int .i64 a0T] 118 (0, 0))) ∧ Aside0 (Below w.heap.size w wc))
    case first =>
     have H := e6m.out; clear e6m
     by_cases c17 : b9u = 1
     ·rw [if_pos c17] at H; obtain ⟨b4w, c8s⟩ := bt_ c17; clear c17; rw [b4w]; have c18 := Z7 H; replace H := O5 H; have c4G := a_ c18; clear c18; obtain ⟨g1y, d5d⟩ := is_ ((Q7 ++ [d2m]) : List (List Int)); rw [← d5d] at H; have f1i := a_ d5d; clear d5d; have H' := a_ H; clear H; obtain ⟨a6U, a6V, c2l⟩ := Kd.G7 c9F.out; subst c2l
      go_wp2_with (first | ((with_reducible refine E5 (b := .append) (xs := #[.tmp 35, .tmp 37]) rfl ?_); at_builtin; refine Kd.c3K (Kd.slice 5 (Kd.int .u8)) (w0 := w) w.heap.size rfl (.tmp 35) (.tmp 37) 74 22 (.slice none 0 0) 24 rfl Tryd.underlying74 info22 rfl (by decide) (by omega) u8 Q7 d2m [.slice a6U d2m.length a6V] (fun k_ => (P0_ k_ ∨ w.heap.size ≤ k_) ∧ some k_ ≠ (.slice (some b1E) a7i.length a7C : Value).ownBlock ∧ k_ ≠ a0C ∧ k_ ≠ Z9) (fun k_ => ((fun k_ => (P0_ k_ ∨ w.heap.size ≤ k_) ∧ some k_ ≠ (.slice (some b1E) a7i.length a7C : Value).ownBlock ∧ k_ ≠ a0C ∧ k_ ≠ Z9)) k_ ∧ some k_ ≠ (u8 : Value).ownBlock) rfl rfl ?aP (fun _ hk => hk) ?aF ?aO ?aB ?aS ?aL ?_; (case aP => exact (Kd.a3E (Kd.E8 (Kd.D7 (ok' := (fun k_ => ((fun k_ => (P0_ k_ ∨ w.heap.size ≤ k_) ∧ some k_ ≠ (.slice (some b1E) a7i.length a7C : Value).ownBlock ∧ k_ ≠ a0C ∧ k_ ≠ Z9)) k_ ∧ some k_ ≠ (u8 : Value).ownBlock)) (Kd.U2 (Kd.U2 (Kd.X5 (Kd.X5 (c9F.out) (Kd.a8c a4e.out) (by decide)) (Kd.a8c a2I.out) (by decide)) a0Y.out (by decide)) a1i.out (by decide)) (fun k_ hk => ⟨⟨(.inr (hk.1.1.1.1.1)), ⟨hk.1.1.1.2, ⟨hk.1.2, hk.2⟩⟩⟩, hk.1.1.2⟩))).2.1 (Kd.R_F (Kd.D7 (ok' := (fun k_ => ((fun k_ => (P0_ k_ ∨ w.heap.size ≤ k_) ∧ some k_ ≠ (.slice (some b1E) a7i.length a7C : Value).ownBlock ∧ k_ ≠ a0C ∧ k_ ≠ Z9)) k_ ∧ some k_ ≠ (u8 : Value).ownBlock)) (Kd.U2 (Kd.U2 (Kd.X5 (Kd.X5 (c9F.out) (Kd.a8c a4e.out) (by decide)) (Kd.a8c a2I.out) (by decide)) a0Y.out (by decide)) a1i.out (by decide)) (fun k_ hk => ⟨⟨(.inr (hk.1.1.1.1.1)), ⟨hk.1.1.1.2, ⟨hk.1.2, hk.2⟩⟩⟩, hk.1.1.2⟩))))); (case aB => exact HB.out); (case aF => exact (fun k_ hk => ⟨(.inr (Nat.le_trans (y5 HB.out) hk)), Kd.fresh' (Kd.b6w a4e.out) k_ hk, Kd.a6v a0Y.out k_ hk, Kd.a6v a1i.out k_ hk⟩)); (case aO => exact (by exact Kd.O7 a2I.out (fun _ hk => ⟨hk.1.1, ⟨hk.1.2.1, ⟨hk.1.2.2.1, hk.1.2.2.2⟩⟩⟩))); (case aS => exact (y5 HB.out)); (case aL => have := c4G.out; omega); intro g92 w19 ho hb hg hat; rw [← f1i.out] at ho; have f1j := a_ ho; replace a4e := a_ (Kd.d3w (ok := (fun k_ => (P0_ k_ ∨ w.heap.size ≤ k_) ∧ some k_ ≠ (.slice a6U d2m.length a6V : Value).ownBlock ∧ k_ ≠ a0C ∧ k_ ≠ Z9)) (by exact Kd.O7 a4e.out (fun _ hk => ⟨⟨hk.1.1, ⟨hk.2, ⟨hk.1.2.2.1, hk.1.2.2.2⟩⟩⟩, hk.1.2.1⟩)) hg hat); replace a0Y := a_ (N7 a0Y.out hg (Kd.e9D a2I.out a0Y.out (by decide))); replace a1i := a_ (N7 a1i.out hg (Kd.e9D a2I.out a1i.out (by decide))); replace b7a := a_ (Kd.b7K (ok := (fun k_ => (P0_ k_ ∨ w.heap.size ≤ k_) ∧ some k_ ≠ (.slice (some b1E) a7i.length a7C : Value).ownBlock ∧ some k_ ≠ (.slice a6U d2m.length a6V : Value).ownBlock ∧ k_ ≠ a0C ∧ k_ ≠ Z9)) (by exact Kd.a3N b7a.out (fun _ hk => ⟨⟨hk.1.1.1, ⟨hk.1.2, ⟨hk.2, ⟨hk.1.1.2.2.1, hk.1.1.2.2.2⟩⟩⟩⟩, hk.1.1.2.1⟩)) hg hat); replace HB := a_ hb; clear a2I c9F ho hb hg hat; have c9G := U7.out; have c9H := a0w.out; obtain ⟨b2q, b2r, b4F, c9I, d9U, b2s, b2t, b4G, c9J, d9V⟩ := c4C a1i.out))
      go_meet
      case rel => exact ⟨_, (g1y), (wrap64 (a4I + 1)), H', ⟨by have := HK1.out; (omega)⟩, ⟨by exact Kd.O7 (Kd.a0J (p := ⟨Z9, 0, none⟩) (Kd.O7 f1j.out (fun k_ hk => (⟨hk, hk.2.2.2⟩ : _ ∧ k_ ≠ Z9))) (fun _ hk => hk.2) (.int .i64 (wrap64 (a4I + 1)))) (fun _ hk => ⟨hk.1.1, ⟨hk.1.2.1, ⟨hk.1.2.2.1, hk.1.2.2.2⟩⟩⟩)⟩, ⟨by exact Kd.O7 (Kd.a0J (p := ⟨Z9, 0, none⟩) (Kd.O7 a4e.out (fun k_ hk => (⟨hk, hk.1.2.2.2⟩ : _ ∧ k_ ≠ Z9))) (fun _ hk => hk.2) (.int .i64 (wrap64 (a4I + 1)))) (fun _ hk => ⟨hk.1.1.1, ⟨hk.1.2, ⟨hk.1.1.2.2.1, hk.1.1.2.2.2⟩⟩⟩)⟩, ⟨o8 a0Y.out a0w.out _⟩, ⟨l9 a1i.out 0 _ rfl⟩, ⟨by repeat (with_reducible first | exact HB.out | refine o7 ?_ b8o.out)⟩⟩
     ·rw [if_neg c17] at H; have b4w := bq_ c17; have c8s := bn_ c17; rw [b4w]; have H' := a_ H; clear H
      go_wp2
      go_meet
      case rel => exact ⟨_, (Q7), (a4I), H', ⟨by have := HK1.out; (omega)⟩, ⟨by exact Kd.O7 a2I.out (fun _ hk => ⟨hk.1.1, ⟨hk.1.2.1, ⟨hk.1.2.2.1, hk.1.2.2.2⟩⟩⟩)⟩, ⟨by exact Kd.O7 a4e.out (fun _ hk => ⟨hk.1.1, ⟨hk.1.2.1, ⟨hk.1.2.2.1, hk.1.2.2.2⟩⟩⟩)⟩, ⟨by exact a0Y.out⟩, ⟨by exact a1i.out⟩, ⟨by exact HB.out⟩⟩
    case rest =>
     clear e6m
     try clear a7B
     try clear a9S
     try clear c9C
     try clear d5a
     try clear d5b
     obtain ⟨kq, b1F, a3q, HA, b6A, a2I, a4e, a0Y, a1i, HB⟩ := hcut
     cases kq with
     | zero => exact absurd HA.out (by simp [umpireref07_All.j1])
     | succ g1z =>
      have H := HA.out; clear HA
      simp only [umpireref07_All.j1] at H
      have e6r := a_ H; clear H
      go_upto_if 44 with (fail)
      go_cut [] (fun wc => ∃ (kq : Nat) (a4v : Int), Aside0 (umpireref07_All.j2 kq a1 a2 b1F a7i a5m b9u a3q a4v a2F a0S a0T = some (r1, r2, r3, r4, r5, r6)) ∧ Aside0 (kq ≤ g1z) ∧ Aside0 (Kd.N (Kd.slice 5 (Kd.int .u8)) 22 wc w.heap.size (fun k_ => (P0_ k_ ∨ w.heap.size ≤ k_) ∧ some k_ ≠ ((.slice (some b1E) a7i.length a7C) : Value).ownBlock ∧ k_ ≠ a0C ∧ k_ ≠ Z9) u8 b1F) ∧ Aside0 (Kd.N (Kd.slice 5 (Kd.int .u8)) 22 wc w.heap.size (fun k_ => (P0_ k_ ∨ w.heap.size ≤ k_) ∧ some k_ ≠ (u8 : Value).ownBlock ∧ k_ ≠ a0C ∧ k_ ≠ Z9) (.slice (some b1E) a7i.length a7C) a7i) ∧ Aside0 (wc.heap[a0C]? = some (.cells #[.int .i64 0, .int .i64 0, .int .i64 0, .int .i64 0, .int .i64 0] 118 (0, 0))) ∧ Aside0 (wc.heap[Z9]? = some (.cells #[.int .i64 a3q, .int .i64 a4v, .int .i64 a2F, .int .i64 a0S, .int .i64 a0T] 118 (0, 0))) ∧ Aside0 (Below w.heap.size w wc))
      case first =>
       have H := e6r.out; clear e6r
       by_cases c24 : b9u = 2
       ·rw [if_pos c24] at H; obtain ⟨c4O, e3k⟩ := bt_ c24; clear c24; rw [c4O]; have H' := a_ H; clear H; have f1k := U7.out; have f1l := a0w.out; obtain ⟨f7K, f7L, f7M, f7N, f7O, f7P, f7Q, f7R, f7S, f7T⟩ := c4C a1i.out
        go_wp2
        go_meet
        case rel => exact ⟨_, (wrap64 (a3B + 1)), H', ⟨by have := HK1.out; have := b6A.out; (omega)⟩, ⟨by exact Kd.O7 (Kd.a0J (p := ⟨Z9, 1, none⟩) (Kd.O7 a2I.out (fun k_ hk => (⟨hk, hk.2.2.2⟩ : _ ∧ k_ ≠ Z9))) (fun _ hk => hk.2) (.int .i64 (wrap64 (a3B + 1)))) (fun _ hk => ⟨hk.1.1, ⟨hk.1.2.1, ⟨hk.1.2.2.1, hk.1.2.2.2⟩⟩⟩)⟩, ⟨by exact Kd.O7 (Kd.a0J (p := ⟨Z9, 1, none⟩) (Kd.O7 a4e.out (fun k_ hk => (⟨hk, hk.2.2.2⟩ : _ ∧ k_ ≠ Z9))) (fun _ hk => hk.2) (.int .i64 (wrap64 (a3B + 1)))) (fun _ hk => ⟨hk.1.1, ⟨hk.1.2.1, ⟨hk.1.2.2.1, hk.1.2.2.2⟩⟩⟩)⟩, ⟨o8 a0Y.out a0w.out _⟩, ⟨l9 a1i.out 1 _ rfl⟩, ⟨by repeat (with_reducible first | exact HB.out | refine o7 ?_ b8o.out)⟩⟩
       ·rw [if_neg c24] at H; have c4O := bq_ c24; have e3k := bn_ c24; rw [c4O]; have H' := a_ H; clear H
        go_wp2
        go_meet
        case rel => exact ⟨_, (a3B), H', ⟨by have := HK1.out; have := b6A.out; (omega)⟩, ⟨by exact a2I.out⟩, ⟨by exact a4e.out⟩, ⟨by exact a0Y.out⟩, ⟨by exact a1i.out⟩, ⟨by exact HB.out⟩⟩
      case rest =>
       clear e6r; obtain ⟨kq, a4v, HA, b9v, a2I, a4e, a0Y, a1i, HB⟩ := hcut
       cases kq with
       | zero => exact absurd HA.out (by simp [umpireref07_All.j2])
       | succ g1A =>
        have H := HA.out; clear HA
        simp only [umpireref07_All.j2] at H
        have e6s := a_ H; clear H
        go_upto_if 50 with (fail)
        go_cut [] (fun wc => ∃ (kq : Nat) (a6f : Int), Aside0 (umpireref07_All.j3 kq a1 a2 b1F a7i a5m b9u a3q a4v a6f a0S a0T = some (r1, r2, r3, r4, r5, r6)) ∧ Aside0 (kq ≤ g1A) ∧ Aside0 (Kd.N (Kd.slice 5 (Kd.int .u8)) 22 wc w.heap.size (fun k_ => (P0_ k_ ∨ w.heap.size ≤ k_) ∧ some k_ ≠ ((.slice (some b1E) a7i.length a7C) : Value).ownBlock ∧ k_ ≠ a0C ∧ k_ ≠ Z9) u8 b1F) ∧ Aside0 (Kd.N (Kd.slice 5 (Kd.int .u8)) 22 wc w.heap.size (fun k_ => (P0_ k_ ∨ w.heap.size ≤ k_) ∧ some k_ ≠ (u8 : Value).ownBlock ∧ k_ ≠ a0C ∧ k_ ≠ Z9) (.slice (some b1E) a7i.length a7C) a7i) ∧ Aside0 (wc.heap[a0C]? = some (.cells #[.int .i64 0, .int .i64 0, .int .i64 0, .int .i64 0, .int .i64 0] 118 (0, 0))) ∧ Aside0 (wc.heap[Z9]? = some (.cells #[.int .i64 a3q, .int .i64 a4v, .int .i64 a6f, .int .i64 a0S, .int .i64 a0T] 118 (0, 0))) ∧ Aside0 (Below w.heap.size w wc))
        case first =>
         have H := e6s.out; clear e6s
         by_cases c28 : b9u = 3
         ·rw [if_pos c28] at H; obtain ⟨c9K, f1m⟩ := bt_ c28; clear c28; rw [c9K]; have H' := a_ H; clear H; have e3l := U7.out; have e3m := a0w.out; obtain ⟨b7b, b7c, d9W, d9X, f7U, b7d, b7e, d9Y, d9Z, f7V⟩ := c4C a1i.out
          go_wp2
          go_meet
          case rel => exact ⟨_, (wrap64 (a2F + 1)), H', ⟨by have := HK1.out; have := b6A.out; have := b9v.out; (omega)⟩, ⟨by exact Kd.O7 (Kd.a0J (p := ⟨Z9, 2, none⟩) (Kd.O7 a2I.out (fun k_ hk => (⟨hk, hk.2.2.2⟩ : _ ∧ k_ ≠ Z9))) (fun _ hk => hk.2) (.int .i64 (wrap64 (a2F + 1)))) (fun _ hk => ⟨hk.1.1, ⟨hk.1.2.1, ⟨hk.1.2.2.1, hk.1.2.2.2⟩⟩⟩)⟩, ⟨by exact Kd.O7 (Kd.a0J (p := ⟨Z9, 2, none⟩) (Kd.O7 a4e.out (fun k_ hk => (⟨hk, hk.2.2.2⟩ : _ ∧ k_ ≠ Z9))) (fun _ hk => hk.2) (.int .i64 (wrap64 (a2F + 1)))) (fun _ hk => ⟨hk.1.1, ⟨hk.1.2.1, ⟨hk.1.2.2.1, hk.1.2.2.2⟩⟩⟩)⟩, ⟨o8 a0Y.out a0w.out _⟩, ⟨l9 a1i.out 2 _ rfl⟩, ⟨by repeat (with_reducible first | exact HB.out | refine o7 ?_ b8o.out)⟩⟩
         ·rw [if_neg c28] at H; have c9K := bq_ c28; have f1m := bn_ c28; rw [c9K]; have H' := a_ H; clear H
          go_wp2
          go_meet
          case rel => exact ⟨_, (a2F), H', ⟨by have := HK1.out; have := b6A.out; have := b9v.out; (omega)⟩, ⟨by exact a2I.out⟩, ⟨by exact a4e.out⟩, ⟨by exact a0Y.out⟩, ⟨by exact a1i.out⟩, ⟨by exact HB.out⟩⟩
        case rest =>
         clear e6s; obtain ⟨kq, a6f, HA, c4P, a2I, a4e, a0Y, a1i, HB⟩ := hcut
         cases kq with
         | zero => exact absurd HA.out (by simp [umpireref07_All.j3])
         | succ d90 =>
          have H := HA.out; clear HA
          simp only [umpireref07_All.j3] at H
          by_cases c31 : b9u = 4
          ·rw [if_pos c31] at H; obtain ⟨f1n, f1o⟩ := bt_ c31; clear c31
           by_cases c32 : b9u = 5
           ·rw [if_pos c32] at H; obtain ⟨d5e, f1p⟩ := bt_ c32; clear c32; have H' := a_ H; clear H; have f0N := U7.out; have f0O := a0w.out; obtain ⟨d9y, d9z, f7W, f7X, f7Y, d9A, d9B, f7Z, f8a, f8b⟩ := c4C a1i.out
            go_wp2
            go_roundg d90
            case measure => have := HK1.out; have := b6A.out; have := b9v.out; have := c4P.out; omega
            case rel => exact ⟨(b1F), (wrap64 (a5m + 1)), (a3q), (a4v), (a6f), (wrap64 (a0S + 1)), (wrap64 (a0T + 1)), (by rfl), H', ⟨by have := HK1.out; have := b6A.out; have := b9v.out; have := c4P.out; omega⟩, ⟨by exact Kd.O7 (Kd.a0J (p := ⟨Z9, 4, none⟩) (Kd.a0J (p := ⟨Z9, 3, none⟩) (Kd.O7 a2I.out (fun k_ hk => (⟨hk, hk.2.2.2⟩ : _ ∧ k_ ≠ Z9))) (fun _ hk => hk.2) (.int .i64 (wrap64 (a0S + 1)))) (fun _ hk => hk.2) (.int .i64 (wrap64 (a0T + 1)))) (fun _ hk => ⟨hk.1.1, ⟨hk.1.2.1, ⟨hk.1.2.2.1, hk.1.2.2.2⟩⟩⟩)⟩, ⟨by exact Kd.O7 (Kd.a0J (p := ⟨Z9, 4, none⟩) (Kd.a0J (p := ⟨Z9, 3, none⟩) (Kd.O7 a4e.out (fun k_ hk => (⟨hk, hk.2.2.2⟩ : _ ∧ k_ ≠ Z9))) (fun _ hk => hk.2) (.int .i64 (wrap64 (a0S + 1)))) (fun _ hk => hk.2) (.int .i64 (wrap64 (a0T + 1)))) (fun _ hk => ⟨hk.1.1, ⟨hk.1.2.1, ⟨hk.1.2.2.1, hk.1.2.2.2⟩⟩⟩)⟩, ⟨o8 (o8 a0Y.out a0w.out _) a0w.out _⟩, ⟨l9 (l9 a1i.out 3 _ rfl) 4 _ rfl⟩, ⟨by repeat (with_reducible first | exact HB.out | refine o7 ?_ b8o.out)⟩⟩
           ·rw [if_neg c32] at H; have d5e := bq_ c32; have f1p := bn_ c32; have H' := a_ H; clear H; have g6U := U7.out; have g6V := a0w.out; obtain ⟨c8u, c8v, f8c, f8d, f8e, c8w, c8x, f8f, f8g, f8h⟩ := c4C a1i.out
            go_wp2
            go_roundg d90
            case measure => have := HK1.out; have := b6A.out; have := b9v.out; have := c4P.out; omega
            case rel => exact ⟨(b1F), (wrap64 (a5m + 1)), (a3q), (a4v), (a6f), (wrap64 (a0S + 1)), (a0T), (by rfl), H', ⟨by have := HK1.out; have := b6A.out; have := b9v.out; have := c4P.out; omega⟩, ⟨by exact Kd.O7 (Kd.a0J (p := ⟨Z9, 3, none⟩) (Kd.O7 a2I.out (fun k_ hk => (⟨hk, hk.2.2.2⟩ : _ ∧ k_ ≠ Z9))) (fun _ hk => hk.2) (.int .i64 (wrap64 (a0S + 1)))) (fun _ hk => ⟨hk.1.1, ⟨hk.1.2.1, ⟨hk.1.2.2.1, hk.1.2.2.2⟩⟩⟩)⟩, ⟨by exact Kd.O7 (Kd.a0J (p := ⟨Z9, 3, none⟩) (Kd.O7 a4e.out (fun k_ hk => (⟨hk, hk.2.2.2⟩ : _ ∧ k_ ≠ Z9))) (fun _ hk => hk.2) (.int .i64 (wrap64 (a0S + 1)))) (fun _ hk => ⟨hk.1.1, ⟨hk.1.2.1, ⟨hk.1.2.2.1, hk.1.2.2.2⟩⟩⟩)⟩, ⟨o8 a0Y.out a0w.out _⟩, ⟨l9 a1i.out 3 _ rfl⟩, ⟨by repeat (with_reducible first | exact HB.out | refine o7 ?_ b8o.out)⟩⟩
          ·rw [if_neg c31] at H; have f1n := bq_ c31; have f1o := bn_ c31
           by_cases c37 : b9u = 5
           ·rw [if_pos c37] at H; obtain ⟨e3n, e3o⟩ := bt_ c37; clear c37; have H' := a_ H; clear H; have g6W := U7.out; have g6X := a0w.out; obtain ⟨f8i, f8j, f8k, f8l, f8m, f8n, f8o, f8p, f8q, f8r⟩ := c4C a1i.out
            go_wp2
            go_roundg d90
            case measure => have := HK1.out; have := b6A.out; have := b9v.out; have := c4P.out; omega
            case rel => exact ⟨(b1F), (wrap64 (a5m + 1)), (a3q), (a4v), (a6f), (a0S), (wrap64 (a0T + 1)), (by rfl), H', ⟨by have := HK1.out; have := b6A.out; have := b9v.out; have := c4P.out; omega⟩, ⟨by exact Kd.O7 (Kd.a0J (p := ⟨Z9, 4, none⟩) (Kd.O7 a2I.out (fun k_ hk => (⟨hk, hk.2.2.2⟩ : _ ∧ k_ ≠ Z9))) (fun _ hk => hk.2) (.int .i64 (wrap64 (a0T + 1)))) (fun _ hk => ⟨hk.1.1, ⟨hk.1.2.1, ⟨hk.1.2.2.1, hk.1.2.2.2⟩⟩⟩)⟩, ⟨by exact Kd.O7 (Kd.a0J (p := ⟨Z9, 4, none⟩) (Kd.O7 a4e.out (fun k_ hk => (⟨hk, hk.2.2.2⟩ : _ ∧ k_ ≠ Z9))) (fun _ hk => hk.2) (.int .i64 (wrap64 (a0T + 1)))) (fun _ hk => ⟨hk.1.1, ⟨hk.1.2.1, ⟨hk.1.2.2.1, hk.1.2.2.2⟩⟩⟩)⟩, ⟨o8 a0Y.out a0w.out _⟩, ⟨l9 a1i.out 4 _ rfl⟩, ⟨by repeat (with_reducible first | exact HB.out | refine o7 ?_ b8o.out)⟩⟩
           ·rw [if_neg c37] at H; have e3n := bq_ c37; have e3o := bn_ c37; have H' := a_ H; clear H
            go_wp2
            go_roundg d90
            case measure => have := HK1.out; have := b6A.out; have := b9v.out; have := c4P.out; omega
            case rel => exact ⟨(b1F), (wrap64 (a5m + 1)), (a3q), (a4v), (a6f), (a0S), (a0T), (by rfl), H', ⟨by have := HK1.out; have := b6A.out; have := b9v.out; have := c4P.out; omega⟩, ⟨by exact a2I.out⟩, ⟨by exact a4e.out⟩, ⟨by exact a0Y.out⟩, ⟨by exact a1i.out⟩, ⟨by exact HB.out⟩⟩
   ·rw [if_neg c11] at H; have a7B := df_ c11; clear c11; obtain ⟨rfl, rfl, rfl, rfl, rfl, rfl⟩ := s6_ H; obtain ⟨g93, g94, g1B⟩ := Kd.a3X a4e.out; subst g1B
    try go_wp2
    replace a2I := a_ (Kd.d3p a2I.out); replace a4e := a_ (Kd.d3p a4e.out); replace a0Y := a_ (G8 a0Y.out); replace a1i := a_ (G8 a1i.out); replace HB := a_ (Y3 HB.out); refine a2x (n := 4) (S := fun w' => w'.cell? ⟨Z9, 0, none⟩ = some (.int .i64 a4I) ∧ w'.cell? ⟨Z9, 1, none⟩ = some (.int .i64 a3B) ∧ w'.cell? ⟨Z9, 2, none⟩ = some (.int .i64 a2F) ∧ w'.cell? ⟨Z9, 3, none⟩ = some (.int .i64 a0S) ∧ w'.cell? ⟨Z9, 4, none⟩ = some (.int .i64 a0T)) (ds := []) (bo_ 4 0) (by kernel_rfl) rfl rfl ⟨bc0 a1i, bc1 a1i, bc2 a1i, bc3 a1i, bc4 a1i⟩ (fun hHeld => ?_); generalize wr.drew = w41 at a2I a4e a0Y a1i HB hHeld ⊢; refine a2B (i := 0) (N := some 67) (bo_ 4 1) rfl rfl (by kernel_rfl) (fun _ _ _ h => h) (.inl ⟨rfl, by intro w'; go_simp; with_reducible rfl⟩) rfl ?_; refine a2B (i := 2) (N := some 6) (bo_ 4 5) rfl rfl (by kernel_rfl) (fun _ _ _ h => h) (.inl ⟨rfl, by intro w'; go_simp; with_reducible rfl⟩) rfl ?_; refine a1w (i := 1) (N := some 68) (v := ?_) (a' := ?_) (bo_ 4 7) rfl rfl (by kernel_rfl) (fun _ _ _ h => h) (Or.inl ⟨by rfl, ?_⟩) hHeld ?_ ?_
    rotate_left
    ·rintro w' ⟨s0, s1, s2, s3, s4⟩
     go_simp
     with_reducible rfl
    rotate_left
    ·simp only [Act.put, List.setIfInBounds_toArray, List.set_cons_zero, List.set_cons_succ, a0I, a1W]
     rfl
    refine a6e (i := 3) (N := none) (bo_ 4 15) rfl rfl (by kernel_rfl) (by decide) (fun K hK => ?_); have f1q := bc0 a0Y; have e3p := l7 a0Y.out 0; have c9L := U7.out; have c9M := a0w.out; have g1C := bc1 a0Y; have f1r := l7 a0Y.out 1; have f8s := U7.out; have f8t := a0w.out; have g95 := bc2 a0Y; have g6Y := l7 a0Y.out 2; have f8u := U7.out; have f8v := a0w.out; have g96 := bc3 a0Y; have g6Z := l7 a0Y.out 3; have f8w := U7.out; have f8x := a0w.out; have g97 := bc4 a0Y; have g60 := l7 a0Y.out 4; have f8y := U7.out; have f8z := a0w.out; refine a7x (w1 := ?_) (by rfl) rfl ?_ ?_
    rotate_left
    ·go_simp
     rfl
    refine hK.out _ _ ⟨((cell_far (p := ⟨a0C, _, none⟩) U7.out _).trans (((cell_far (p := ⟨a0C, _, none⟩) U7.out _).trans (((cell_far (p := ⟨a0C, _, none⟩) U7.out _).trans (((cell_far (p := ⟨a0C, _, none⟩) U7.out _).trans (((cell_far (p := ⟨a0C, _, none⟩) U7.out _).trans (hHeld.1)))))))))), ((cell_far (p := ⟨a0C, _, none⟩) U7.out _).trans (((cell_far (p := ⟨a0C, _, none⟩) U7.out _).trans (((cell_far (p := ⟨a0C, _, none⟩) U7.out _).trans (((cell_far (p := ⟨a0C, _, none⟩) U7.out _).trans (((cell_far (p := ⟨a0C, _, none⟩) U7.out _).trans (hHeld.2.1)))))))))), ((cell_far (p := ⟨a0C, _, none⟩) U7.out _).trans (((cell_far (p := ⟨a0C, _, none⟩) U7.out _).trans (((cell_far (p := ⟨a0C, _, none⟩) U7.out _).trans (((cell_far (p := ⟨a0C, _, none⟩) U7.out _).trans (((cell_far (p := ⟨a0C, _, none⟩) U7.out _).trans (hHeld.2.2.1)))))))))), ((cell_far (p := ⟨a0C, _, none⟩) U7.out _).trans (((cell_far (p := ⟨a0C, _, none⟩) U7.out _).trans (((cell_far (p := ⟨a0C, _, none⟩) U7.out _).trans (((cell_far (p := ⟨a0C, _, none⟩) U7.out _).trans (((cell_far (p := ⟨a0C, _, none⟩) U7.out _).trans (hHeld.2.2.2.1)))))))))), ((cell_far (p := ⟨a0C, _, none⟩) U7.out _).trans (((cell_far (p := ⟨a0C, _, none⟩) U7.out _).trans (((cell_far (p := ⟨a0C, _, none⟩) U7.out _).trans (((cell_far (p := ⟨a0C, _, none⟩) U7.out _).trans (((cell_far (p := ⟨a0C, _, none⟩) U7.out _).trans (hHeld.2.2.2.2))))))))))⟩ (fun hHeld => ?_); clear hK K; refine a4y (by kernel_rfl) ?_
    try go_wp2
    refine bodyPost_ret (a0u rfl _ _ a0C 118 #[.int .i64 a4I, .int .i64 a3B, .int .i64 a2F, .int .i64 a0S, .int .i64 a0T] (0, 0) _ rfl (l9 (l9 (l9 (l9 (l9 a0Y.out 0 _ rfl) 1 _ rfl) 2 _ rfl) 3 _ rfl) 4 _ rfl) Tryd.underlying118 rfl (by kernel_rfl)) rfl ?_; exact ⟨_, by (rfl), by exact Kd.O7 (Kd.a0J (p := ⟨a0C, 4, none⟩) (Kd.a0J (p := ⟨a0C, 3, none⟩) (Kd.a0J (p := ⟨a0C, 2, none⟩) (Kd.a0J (p := ⟨a0C, 1, none⟩) (Kd.a0J (p := ⟨a0C, 0, none⟩) (Kd.O7 a2I.out (fun k_ hk => (⟨hk, hk.2.2.1⟩ : _ ∧ k_ ≠ a0C))) (fun _ hk => hk.2) (.int .i64 a4I)) (fun _ hk => hk.2) (.int .i64 a3B)) (fun _ hk => hk.2) (.int .i64 a2F)) (fun _ hk => hk.2) (.int .i64 a0S)) (fun _ hk => hk.2) (.int .i64 a0T)) (fun _ hk => hk.1.1), by repeat (with_reducible first | exact HB.out | refine o7 ?_ f1f.out)⟩

end Go.Proofs.YtgnonglkibhnhaaDoor.Print
