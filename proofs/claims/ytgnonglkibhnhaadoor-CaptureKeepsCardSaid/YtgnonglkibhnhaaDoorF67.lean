import Derived.Test.YtgnonglkibhnhaaDoorM7
namespace Go.Proofs.YtgnonglkibhnhaaDoor.Print
open Go.RowKit Go.Proofs.YtgnonglkibhnhaaDoorW.PrintWords Go.Proofs.YtgnonglkibhnhaaDoorW.PrintLast Go.Proofs.YtgnonglkibhnhaaDoorW.PrintMore
attribute [local go_sem] a0o a0p a0R a0S Y5 Y6 a0q a0r
set_option linter.unusedVariables false
set_option linter.unusedSimpArgs false

/-! ### umpireref07_All: function 67 -/
mutual
def umpireref07_All.l0 : Nat → Int → Bool → List (List Int) → List (List Int) → Int → Int → Int → Int → Int → Int → Option ((List (List Int)) × Int × Int × Int × Int × Int)
 | 0, _, _, _, _, _, _, _, _, _, _ => none
 | k + 1, x1, x2, x8, x10, x11, a5d, a5e, a5f, a5g, a5h => if x11 < (x10.length : Int) then (if 0 ≤ x11 then ((a2g.f k (a18 x10 x11) x1 x2).bind fun d02 => (if d02.2 = 1 then (if x8.length < 5864062014805 then (umpireref07_All.j1 k x1 x2 (x8 ++ [d02.1]) x10 x11 d02.2 (wrap64 (a5d + 1)) a5e a5f a5g a5h) else (none)) else (umpireref07_All.j1 k x1 x2 x8 x10 x11 d02.2 a5d a5e a5f a5g a5h))) else (none)) else (some (x8, a5d, a5e, a5f, a5g, a5h))
def umpireref07_All.j1 : Nat → Int → Bool → List (List Int) → List (List Int) → Int → Int → Int → Int → Int → Int → Int → Option ((List (List Int)) × Int × Int × Int × Int × Int)
 | 0, _, _, _, _, _, _, _, _, _, _, _ => none
 | k + 1, x1, x2, x8, x10, x11, x13, a5d, a5e, a5f, a5g, a5h => if x13 = 2 then (umpireref07_All.j2 k x1 x2 x8 x10 x11 x13 a5d (wrap64 (a5e + 1)) a5f a5g a5h) else (umpireref07_All.j2 k x1 x2 x8 x10 x11 x13 a5d a5e a5f a5g a5h)
def umpireref07_All.j2 : Nat → Int → Bool → List (List Int) → List (List Int) → Int → Int → Int → Int → Int → Int → Int → Option ((List (List Int)) × Int × Int × Int × Int × Int)
 | 0, _, _, _, _, _, _, _, _, _, _, _ => none
 | k + 1, x1, x2, x8, x10, x11, x13, a5d, a5e, a5f, a5g, a5h => if x13 = 3 then (umpireref07_All.j3 k x1 x2 x8 x10 x11 x13 a5d a5e (wrap64 (a5f + 1)) a5g a5h) else (umpireref07_All.j3 k x1 x2 x8 x10 x11 x13 a5d a5e a5f a5g a5h)
def umpireref07_All.j3 : Nat → Int → Bool → List (List Int) → List (List Int) → Int → Int → Int → Int → Int → Int → Int → Option ((List (List Int)) × Int × Int × Int × Int × Int)
 | 0, _, _, _, _, _, _, _, _, _, _, _ => none
 | k + 1, x1, x2, x8, x10, x11, x13, a5d, a5e, a5f, a5g, a5h => if x13 = 4 then (if x13 = 5 then (umpireref07_All.l0 k x1 x2 x8 x10 (wrap64 (x11 + 1)) a5d a5e a5f (wrap64 (a5g + 1)) (wrap64 (a5h + 1))) else (umpireref07_All.l0 k x1 x2 x8 x10 (wrap64 (x11 + 1)) a5d a5e a5f (wrap64 (a5g + 1)) a5h)) else (if x13 = 5 then (umpireref07_All.l0 k x1 x2 x8 x10 (wrap64 (x11 + 1)) a5d a5e a5f a5g (wrap64 (a5h + 1))) else (umpireref07_All.l0 k x1 x2 x8 x10 (wrap64 (x11 + 1)) a5d a5e a5f a5g a5h))
end
def umpireref07_All.f (k : Nat) (l0 : List Int) (a1 : Int) (a2 : Bool) : Option ((List (List Int)) × Int × Int × Int × Int × Int) := (J4.f k l0).bind fun a7s => (umpireref07_All.l0 k a1 a2 ([] : List (List Int)) a7s 0 0 0 0 0 0)
set_option maxHeartbeats 8000000 in
set_option maxRecDepth 100000 in
theorem umpireref07_All.calls (k : Nat) (P0_ : Nat → Prop) (A0 : Option Addr) (c0 : Nat) (l0 : List Int) (a1 : Int) (a2 : Bool) (r1 : List (List Int)) (r2 : Int) (r3 : Int) (r4 : Int) (r5 : Int) (r6 : Int) (w : World) (hs0 : Kd.V (Kd.int .u8) 5 w w.heap.size (fun k_ => P0_ k_) (.slice A0 l0.length c0) l0) (h : umpireref07_All.f k l0 a1 a2 = some (r1, r2, r3, r4, r5, r6)) :
  Calls Tryd.prog 67 #[.slice A0 l0.length c0, .int .u32 a1, .bool a2] w fun e w' => ∃ v0_ : Value, e = .returned (.tuple #[v0_, .agg #[.int .i64 r2, .int .i64 r3, .int .i64 r4, .int .i64 r5, .int .i64 r6]]) ∧ Kd.N (Kd.slice 5 (Kd.int .u8)) 22 w' w.heap.size (fun k_ => (P0_ k_ ∨ w.heap.size ≤ k_)) v0_ r1 ∧ Below w.heap.size w w' := by
 have f2N := Tryd.underlying118
 have HO0 := a_ (show Kd.V (Kd.int .u8) 5 w w.heap.size (fun k_ => (P0_ k_ ∨ w.heap.size ≤ k_)) (.slice A0 l0.length c0) l0 from Kd.a3R hs0 (fun k_ hk => .inl hk))
 have HB := a_ (Below.refl w.heap.size w)
 have H := h
 clear h
 unfold umpireref07_All.f at H
 obtain ⟨a7s, A4, H⟩ := bd_ H
 try dsimp only at H
 have H' := a_ H
 clear H
 go_enter Tryd.func67, Tryd.ntmps67
 go_wp2_with (first | (refine be_ 7 #[.int .i64 0, .int .i64 0, .int .i64 0, .int .i64 0, .int .i64 0] 118 ?_; intro a0E hg w5 hbox hb; have a02 := a_ hbox; have f3E := lb_ HB hg; replace HO0 := a_ (Kd.a9v (Kd.a97 HO0.out a0E (Nat.le_of_eq hg.symm)) hb); replace HB := V3 HB hb; clear hb hbox hg) | (refine be_ 9 #[.int .i64 0, .int .i64 0, .int .i64 0, .int .i64 0, .int .i64 0] 118 ?_; intro a0a hg w6 hbox hb; have a1m := a_ hbox; have b83 := lb_ HB hg; obtain ⟨a0y, U8⟩ := nn_ a02 hg; replace HO0 := a_ (Kd.a9v (Kd.a97 HO0.out a0a (Nat.le_of_eq hg.symm)) hb); replace a02 := X3 a02 hb; replace HB := V3 HB hb; clear hb hbox hg; have h3i := U8.out; have h3j := a0y.out; obtain ⟨d6y, d6z, d6A, e8h, e8i, d6B, d6C, d6D, e8j, e8k⟩ := c5P a1m.out) | ((with_reducible refine a6n (t := 118) (p := 9) rfl ?_); refine a5n (t := 118) (p := 9) (v := ?g9e) (w1 := (((((w6.setCell ⟨a0a, 0, none⟩ (.int .i64 0)).setCell ⟨a0a, 1, none⟩ (.int .i64 0)).setCell ⟨a0a, 2, none⟩ (.int .i64 0)).setCell ⟨a0a, 3, none⟩ (.int .i64 0)).setCell ⟨a0a, 4, none⟩ (.int .i64 0))) ?hg ?ho ?hn ?hr ?_; (case ho => rfl); (case hg => rfl); (case hn => rfl); (case hr => (go_simp; done)); intro w9 hw; have n0_ : Aside0 (Kd.V (Kd.int .u8) 5 w9 w.heap.size (fun k_ => (P0_ k_ ∨ w.heap.size ≤ k_) ∧ k_ ≠ a0E ∧ k_ ≠ a0a) (.slice A0 l0.length c0) l0) := ⟨(by rw [hw]; exact (by exact Kd.a3R (Kd.b1T (p := ⟨a0a, 4, none⟩) (Kd.b1T (p := ⟨a0a, 3, none⟩) (Kd.b1T (p := ⟨a0a, 2, none⟩) (Kd.b1T (p := ⟨a0a, 1, none⟩) (Kd.b1T (p := ⟨a0a, 0, none⟩) (Kd.a3R HO0.out (fun k_ hk => (⟨hk, hk.2⟩ : _ ∧ k_ ≠ a0a))) (fun _ hk => hk.2) (.int .i64 0)) (fun _ hk => hk.2) (.int .i64 0)) (fun _ hk => hk.2) (.int .i64 0)) (fun _ hk => hk.2) (.int .i64 0)) (fun _ hk => hk.2) (.int .i64 0)) (fun _ hk => ⟨hk.1.1.1, ⟨hk.1.1.2, hk.1.2⟩⟩)))⟩; have n1_ : Aside0 (w9.heap[a0E]? = some (.cells #[.int .i64 0, .int .i64 0, .int .i64 0, .int .i64 0, .int .i64 0] 118 (0, 0))) := ⟨(by rw [hw]; exact (o8 (o8 (o8 (o8 (o8 a02.out a0y.out _) a0y.out _) a0y.out _) a0y.out _) a0y.out _))⟩; have n2_ : Aside0 (w9.heap[a0a]? = some (.cells #[.int .i64 0, .int .i64 0, .int .i64 0, .int .i64 0, .int .i64 0] 118 (0, 0))) := ⟨(by rw [hw]; exact (l9 (l9 (l9 (l9 (l9 a1m.out 0 _ rfl) 1 _ rfl) 2 _ rfl) 3 _ rfl) 4 _ rfl))⟩; have n3_ : Aside0 (Below w.heap.size w w9) := ⟨(by rw [hw]; exact (by repeat (with_reducible first | exact HB.out | refine o7 ?_ b83.out)))⟩; clear hw HO0 a02 a1m HB; have HO0 := n0_; have a02 := n1_; have a1m := n2_; have HB := n3_; clear n0_ n1_ n2_ n3_) | (refine gl_ (some 16) Tryd.func85 #[.slice A0 l0.length c0] ?_; (with_reducible refine (J4.calls k (fun k_ => ((P0_ k_ ∨ w.heap.size ≤ k_) ∧ (k_ ≠ a0E ∧ k_ ≠ a0a))) _ _ l0 a7s _ HO0.out A4.out).mono ?_); rintro e w10 ⟨f3F, rfl, ho0, hb⟩; refine ⟨_, rfl, ?_⟩; have f3G := a_ (Kd.a7D (Kd.O9 (ok' := fun k_ => (P0_ k_ ∨ w.heap.size ≤ k_) ∧ k_ ≠ a0E ∧ k_ ≠ a0a) ho0 (fun k_ hk_ => ⟨Or.elim hk_ (fun hs_ => hs_.1) (fun hn_ => (.inr (Nat.le_trans (y5 HB.out) hn_))), Or.elim hk_ (fun hs_ => hs_.2.1) (fun hn_ => (Kd.a6F a02.out k_ hn_)), Or.elim hk_ (fun hs_ => hs_.2.2) (fun hn_ => (Kd.a6F a1m.out k_ hn_))⟩)) (y5 HB.out)); replace HO0 := a_ (Kd.a3H HO0.out (Kd.a4t ho0) hb); replace a02 := X3 a02 hb; replace a1m := X3 a1m hb; replace HB := V3 HB hb; (try clear hb); (try clear ho0)))
 go_loopg [8, 11] k (fun kq v8 v11 w' => ∃ (S9 : List (List Int)) (a5u : Int) (a4O : Int) (a3F : Int) (a2L : Int) (a0W : Int) (a0X : Int), v11 = .int .i64 a5u ∧ Aside0 (umpireref07_All.l0 kq a1 a2 S9 a7s a5u a4O a3F a2L a0W a0X = some (r1, r2, r3, r4, r5, r6)) ∧ Aside0 (kq ≤ k) ∧ Aside0 (Kd.N (Kd.slice 5 (Kd.int .u8)) 22 w' w.heap.size (fun k_ => (P0_ k_ ∨ w.heap.size ≤ k_) ∧ some k_ ≠ (f3F : Value).ownBlock ∧ k_ ≠ a0E ∧ k_ ≠ a0a) v8 S9) ∧ Aside0 (Kd.N (Kd.slice 5 (Kd.int .u8)) 22 w' w.heap.size (fun k_ => (P0_ k_ ∨ w.heap.size ≤ k_) ∧ some k_ ≠ (v8 : Value).ownBlock ∧ k_ ≠ a0E ∧ k_ ≠ a0a) f3F a7s) ∧ Aside0 (w'.heap[a0E]? = some (.cells #[.int .i64 0, .int .i64 0, .int .i64 0, .int .i64 0, .int .i64 0] 118 (0, 0))) ∧ Aside0 (w'.heap[a0a]? = some (.cells #[.int .i64 a4O, .int .i64 a3F, .int .i64 a2L, .int .i64 a0W, .int .i64 a0X] 118 (0, 0))) ∧ Aside0 (Below w.heap.size w w'))
 case atStart => exact ⟨([] : List (List Int)), (0), (0), (0), (0), (0), (0), (by rfl), H', ⟨Nat.le_refl _⟩, ⟨by (exact Kd.d4I _ _ _ _ _)⟩, ⟨by exact Kd.O9 f3G.out (fun _ hk => ⟨hk.1, ⟨(by simp [Value.ownBlock]), ⟨hk.2.1, hk.2.2⟩⟩⟩)⟩, ⟨by exact a02.out⟩, ⟨by exact a1m.out⟩, ⟨by exact HB.out⟩⟩
 case round =>
  clear H'
  try clear d6y
  try clear d6z
  try clear d6A
  try clear e8h
  try clear e8i
  try clear d6B
  try clear d6C
  try clear d6D
  try clear e8j
  try clear e8k
  obtain ⟨S9, a5u, a4O, a3F, a2L, a0W, a0X, rfl, HA, HK1, a0V, a4j, a02, a1m, HB⟩ := hrel
  cases gk with
  | zero => exact absurd HA.out (by simp [umpireref07_All.l0])
  | succ k1 =>
   have H := HA.out; clear HA
   simp only [umpireref07_All.l0] at H
   by_cases c11 : a5u < (a7s.length : Int)
   ·rw [if_pos c11] at H; have a7L := dt_ c11; clear c11; have b0h := a2x H; replace H := O5 H; obtain ⟨⟨d3K, c0d⟩, A13, H⟩ := bd_ H
    (try dsimp only at H); have e8l := a_ H; clear H; obtain ⟨b4m, a7M, c7V⟩ := Kd.a4c a4j.out; subst c7V; have d6E : 0 ≤ (a5u : Int) := V5; have d6F : a5u < (a7s.length : Int) := V5; obtain ⟨b2m, e8m, e8n, g3P, d03, d04, d05⟩ := b3D (Kd.a0s a4j.out).2.2 a5u d6E d6F
    cases g3P
    obtain ⟨g9f, e8o, e8p, d6G⟩ := Kd.e5a a4j.out [] a5u d6E d6F; obtain ⟨g0c, g0d, rfl, c3k, c3l⟩ := Kd.b94 e8p; have b7Q := d6G 0 _ rfl; rw [Nat.add_zero, show (Kd.slice 5 (Kd.int .u8)).sz = 1 from rfl, Nat.mul_one] at b7Q; replace b7Q := oj_ (b7Q.symm.trans d03); injection b7Q with d5N e7K d5O
    rw [d5N] at c3l; rw [d5O] at c3k; have b7R := a_ (show Kd.V (Kd.int .u8) 5 _ w.heap.size _ _ (a18 a7s a5u) from Kd.d9S c3k c3l); clear d5N e7K d5O c3l c3k d6G e8o; have c3n := a_ d05; have e1s := a_ d04; clear d05 d04; replace d6E := eq_true d6E; replace d6F := eq_true d6F
    go_upto_if 34 with (first | (refine gl_ (some 30) Tryd.func86 #[.slice e8m (a18 a7s a5u).length e8n, .int .u32 a1, .bool a2] ?_; (with_reducible refine (a2g.calls k1 _ _ (a18 a7s a5u) a1 a2 d3K c0d _ ?P9 ?P6 A13.out).mono ?_); (case P9 => repeat ((exact (by repeat (with_reducible exact c3n.out))))); (case P6 => exact e1s.out); rintro e w16 ⟨h3m, rfl, ho0, hb⟩; refine ⟨_, rfl, ?_⟩; have d06 := a_ (Kd.Z9 (Kd.c65 (M := fun k_ => (w.heap.size ≤ k_)) ho0 (y5 HB.out) (fun k_ h_ => h_)) (y5 HB.out)); replace a0V := rN_ a0V ho0 hb; replace a4j := rN_ a4j ho0 hb; replace b7R := a_ (Kd.a3H b7R.out (Kd.a0C ho0) hb); replace a02 := X3 a02 hb; replace a1m := X3 a1m hb; replace c3n := a_ (Kd.y9 (by repeat (with_reducible exact c3n.out)) hb); replace HB := V3 HB hb; (try clear hb); (try clear ho0)))
    go_cut [8] (fun v8 wc => ∃ (kq : Nat) (b2n : List (List Int)) (a3t : Int), Aside0 (umpireref07_All.j1 kq a1 a2 b2n a7s a5u c0d a3t a3F a2L a0W a0X = some (r1, r2, r3, r4, r5, r6)) ∧ Aside0 (kq ≤ k1) ∧ Aside0 (Kd.N (Kd.slice 5 (Kd.int .u8)) 22 wc w.heap.size (fun k_ => (P0_ k_ ∨ w.heap.size ≤ k_) ∧ some k_ ≠ ((.slice (some b2m) a7s.length a7M) : Value).ownBlock ∧ k_ ≠ a0E ∧ k_ ≠ a0a) v8 b2n) ∧ Aside0 (Kd.N (Kd.slice 5 (Kd.int .u8)) 22 wc w.heap.size (fun k_ => (P0_ k_ ∨ w.heap.size ≤ k_) ∧ some k_ ≠ (v8 : Value).ownBlock ∧ k_ ≠ a0E ∧ k_ ≠ a0a) (.slice (some b2m) a7s.length a7M) a7s) ∧ Aside0 (wc.heap[a0E]? = some (.cells #[.int .i64 0, .int .i64 0, .int .i64 0, .int .i64 0, .int .i64 0] 118 (0, 0))) ∧ Aside0 (wc.heap[a0a]? = some (.cells #[.int .i64 a3t, .int .i64 a3F, .int .i64 a2L, .int .i64 a0W, .int .i64 a0X] 118 (0, 0))) ∧ Aside0 (Below w.heap.size w wc))
    case first =>
     have H := e8l.out; clear e8l
     by_cases c17 : c0d = 1
     ·rw [if_pos c17] at H; obtain ⟨b5a, c9L⟩ := bt_ c17; clear c17; rw [b5a]; have c18 := Z4 H; replace H := O5 H; have c5S := a_ c18; clear c18; obtain ⟨g3Q, d6H⟩ := is_ ((S9 ++ [d3K]) : List (List Int)); rw [← d6H] at H; have f3H := a_ d6H; clear d6H; have H' := a_ H; clear H; obtain ⟨a5I, a4V, b84⟩ := Kd.G7 d06.out; subst b84
      go_wp2_with (first | ((with_reducible refine E8 (b := .append) (xs := #[.tmp 35, .tmp 37]) rfl ?_); at_builtin; refine Kd.c4Q (Kd.slice 5 (Kd.int .u8)) (w0 := w) w.heap.size rfl (.tmp 35) (.tmp 37) 74 22 (.slice none 0 0) 24 rfl Tryd.underlying74 info22 rfl (by decide) (by omega) u8 S9 d3K [.slice a5I d3K.length a4V] (fun k_ => (P0_ k_ ∨ w.heap.size ≤ k_) ∧ some k_ ≠ (.slice (some b2m) a7s.length a7M : Value).ownBlock ∧ k_ ≠ a0E ∧ k_ ≠ a0a) (fun k_ => ((fun k_ => (P0_ k_ ∨ w.heap.size ≤ k_) ∧ some k_ ≠ (.slice (some b2m) a7s.length a7M : Value).ownBlock ∧ k_ ≠ a0E ∧ k_ ≠ a0a)) k_ ∧ some k_ ≠ (u8 : Value).ownBlock) rfl rfl ?aP (fun _ hk => hk) ?aF ?aO ?aB ?aS ?aL ?_; (case aP => exact (Kd.a3I (Kd.D9 (Kd.D7 (ok' := (fun k_ => ((fun k_ => (P0_ k_ ∨ w.heap.size ≤ k_) ∧ some k_ ≠ (.slice (some b2m) a7s.length a7M : Value).ownBlock ∧ k_ ≠ a0E ∧ k_ ≠ a0a)) k_ ∧ some k_ ≠ (u8 : Value).ownBlock)) (Kd.P8 (Kd.P8 (Kd.X5 (Kd.X5 (d06.out) (Kd.a8p a4j.out) (by decide)) (Kd.a8p a0V.out) (by decide)) a02.out (by decide)) a1m.out (by decide)) (fun k_ hk => ⟨⟨(.inr (hk.1.1.1.1.1)), ⟨hk.1.1.1.2, ⟨hk.1.2, hk.2⟩⟩⟩, hk.1.1.2⟩))).2.1 (Kd.R_F (Kd.D7 (ok' := (fun k_ => ((fun k_ => (P0_ k_ ∨ w.heap.size ≤ k_) ∧ some k_ ≠ (.slice (some b2m) a7s.length a7M : Value).ownBlock ∧ k_ ≠ a0E ∧ k_ ≠ a0a)) k_ ∧ some k_ ≠ (u8 : Value).ownBlock)) (Kd.P8 (Kd.P8 (Kd.X5 (Kd.X5 (d06.out) (Kd.a8p a4j.out) (by decide)) (Kd.a8p a0V.out) (by decide)) a02.out (by decide)) a1m.out (by decide)) (fun k_ hk => ⟨⟨(.inr (hk.1.1.1.1.1)), ⟨hk.1.1.1.2, ⟨hk.1.2, hk.2⟩⟩⟩, hk.1.1.2⟩))))); (case aB => exact HB.out); (case aF => exact (fun k_ hk => ⟨(.inr (Nat.le_trans (y5 HB.out) hk)), Kd.fresh' (Kd.b68 a4j.out) k_ hk, Kd.a6F a02.out k_ hk, Kd.a6F a1m.out k_ hk⟩)); (case aO => exact (by exact Kd.O9 a0V.out (fun _ hk => ⟨hk.1.1, ⟨hk.1.2.1, ⟨hk.1.2.2.1, hk.1.2.2.2⟩⟩⟩))); (case aS => exact (y5 HB.out)); (case aL => have := c5S.out; omega); intro h3n w19 ho hb hg hat; rw [← f3H.out] at ho; have f3I := a_ ho; replace a4j := a_ (Kd.d4Q (ok := (fun k_ => (P0_ k_ ∨ w.heap.size ≤ k_) ∧ some k_ ≠ (.slice a5I d3K.length a4V : Value).ownBlock ∧ k_ ≠ a0E ∧ k_ ≠ a0a)) (by exact Kd.O9 a4j.out (fun _ hk => ⟨⟨hk.1.1, ⟨hk.2, ⟨hk.1.2.2.1, hk.1.2.2.2⟩⟩⟩, hk.1.2.1⟩)) hg hat); replace a02 := a_ (J7 a02.out hg (Kd.f1I a0V.out a02.out (by decide))); replace a1m := a_ (J7 a1m.out hg (Kd.f1I a0V.out a1m.out (by decide))); replace b7R := a_ (Kd.b8n (ok := (fun k_ => (P0_ k_ ∨ w.heap.size ≤ k_) ∧ some k_ ≠ (.slice (some b2m) a7s.length a7M : Value).ownBlock ∧ some k_ ≠ (.slice a5I d3K.length a4V : Value).ownBlock ∧ k_ ≠ a0E ∧ k_ ≠ a0a)) (by exact Kd.a3R b7R.out (fun _ hk => ⟨⟨hk.1.1.1, ⟨hk.1.2, ⟨hk.2, ⟨hk.1.1.2.2.1, hk.1.1.2.2.2⟩⟩⟩⟩, hk.1.1.2.1⟩)) hg hat); replace HB := a_ hb; clear a0V d06 ho hb hg hat; have d07 := U8.out; have d08 := a0y.out; obtain ⟨b5j, b5k, b7w, e1t, g0e, b5l, b5m, b7x, e1u, g0f⟩ := c5P a1m.out))
      go_meet
      case rel => exact ⟨_, (g3Q), (wrap64 (a4O + 1)), H', ⟨by have := HK1.out; (omega)⟩, ⟨by exact Kd.O9 (Kd.a0K (p := ⟨a0a, 0, none⟩) (Kd.O9 f3I.out (fun k_ hk => (⟨hk, hk.2.2.2⟩ : _ ∧ k_ ≠ a0a))) (fun _ hk => hk.2) (.int .i64 (wrap64 (a4O + 1)))) (fun _ hk => ⟨hk.1.1, ⟨hk.1.2.1, ⟨hk.1.2.2.1, hk.1.2.2.2⟩⟩⟩)⟩, ⟨by exact Kd.O9 (Kd.a0K (p := ⟨a0a, 0, none⟩) (Kd.O9 a4j.out (fun k_ hk => (⟨hk, hk.1.2.2.2⟩ : _ ∧ k_ ≠ a0a))) (fun _ hk => hk.2) (.int .i64 (wrap64 (a4O + 1)))) (fun _ hk => ⟨hk.1.1.1, ⟨hk.1.2, ⟨hk.1.1.2.2.1, hk.1.1.2.2.2⟩⟩⟩)⟩, ⟨o8 a02.out a0y.out _⟩, ⟨l9 a1m.out 0 _ rfl⟩, ⟨by repeat (with_reducible first | exact HB.out | refine o7 ?_ b83.out)⟩⟩
     ·rw [if_neg c17] at H; have b5a := bq_ c17; have c9L := bn_ c17; rw [b5a]; have H' := a_ H; clear H
      go_wp2
      go_meet
      case rel => exact ⟨_, (S9), (a4O), H', ⟨by have := HK1.out; (omega)⟩, ⟨by exact Kd.O9 a0V.out (fun _ hk => ⟨hk.1.1, ⟨hk.1.2.1, ⟨hk.1.2.2.1, hk.1.2.2.2⟩⟩⟩)⟩, ⟨by exact Kd.O9 a4j.out (fun _ hk => ⟨hk.1.1, ⟨hk.1.2.1, ⟨hk.1.2.2.1, hk.1.2.2.2⟩⟩⟩)⟩, ⟨by exact a02.out⟩, ⟨by exact a1m.out⟩, ⟨by exact HB.out⟩⟩
    case rest =>
     clear e8l
     try clear a7L
     try clear b0h
     try clear d03
     try clear d6E
     try clear d6F
     obtain ⟨kq, b2n, a3t, HA, b7c, a0V, a4j, a02, a1m, HB⟩ := hcut
     cases kq with
     | zero => exact absurd HA.out (by simp [umpireref07_All.j1])
     | succ g3R =>
      have H := HA.out; clear HA
      simp only [umpireref07_All.j1] at H
      have e8q := a_ H; clear H
      go_upto_if 44 with (fail)
      go_cut [] (fun wc => ∃ (kq : Nat) (a4z : Int), Aside0 (umpireref07_All.j2 kq a1 a2 b2n a7s a5u c0d a3t a4z a2L a0W a0X = some (r1, r2, r3, r4, r5, r6)) ∧ Aside0 (kq ≤ g3R) ∧ Aside0 (Kd.N (Kd.slice 5 (Kd.int .u8)) 22 wc w.heap.size (fun k_ => (P0_ k_ ∨ w.heap.size ≤ k_) ∧ some k_ ≠ ((.slice (some b2m) a7s.length a7M) : Value).ownBlock ∧ k_ ≠ a0E ∧ k_ ≠ a0a) u8 b2n) ∧ Aside0 (Kd.N (Kd.slice 5 (Kd.int .u8)) 22 wc w.heap.size (fun k_ => (P0_ k_ ∨ w.heap.size ≤ k_) ∧ some k_ ≠ (u8 : Value).ownBlock ∧ k_ ≠ a0E ∧ k_ ≠ a0a) (.slice (some b2m) a7s.length a7M) a7s) ∧ Aside0 (wc.heap[a0E]? = some (.cells #[.int .i64 0, .int .i64 0, .int .i64 0, .int .i64 0, .int .i64 0] 118 (0, 0))) ∧ Aside0 (wc.heap[a0a]? = some (.cells #[.int .i64 a3t, .int .i64 a4z, .int .i64 a2L, .int .i64 a0W, .int .i64 a0X] 118 (0, 0))) ∧ Aside0 (Below w.heap.size w wc))
      case first =>
       have H := e8q.out; clear e8q
       by_cases c24 : c0d = 2
       ·rw [if_pos c24] at H; obtain ⟨c5Z, e5w⟩ := bt_ c24; clear c24; rw [c5Z]; have H' := a_ H; clear H; have g9g := U8.out; have g9h := a0y.out; obtain ⟨g0g, g0h, g0i, g0j, g0k, g0l, g0m, g0n, g0o, g0p⟩ := c5P a1m.out
        go_wp2
        go_meet
        case rel => exact ⟨_, (wrap64 (a3F + 1)), H', ⟨by have := HK1.out; have := b7c.out; (omega)⟩, ⟨by exact Kd.O9 (Kd.a0K (p := ⟨a0a, 1, none⟩) (Kd.O9 a0V.out (fun k_ hk => (⟨hk, hk.2.2.2⟩ : _ ∧ k_ ≠ a0a))) (fun _ hk => hk.2) (.int .i64 (wrap64 (a3F + 1)))) (fun _ hk => ⟨hk.1.1, ⟨hk.1.2.1, ⟨hk.1.2.2.1, hk.1.2.2.2⟩⟩⟩)⟩, ⟨by exact Kd.O9 (Kd.a0K (p := ⟨a0a, 1, none⟩) (Kd.O9 a4j.out (fun k_ hk => (⟨hk, hk.2.2.2⟩ : _ ∧ k_ ≠ a0a))) (fun _ hk => hk.2) (.int .i64 (wrap64 (a3F + 1)))) (fun _ hk => ⟨hk.1.1, ⟨hk.1.2.1, ⟨hk.1.2.2.1, hk.1.2.2.2⟩⟩⟩)⟩, ⟨o8 a02.out a0y.out _⟩, ⟨l9 a1m.out 1 _ rfl⟩, ⟨by repeat (with_reducible first | exact HB.out | refine o7 ?_ b83.out)⟩⟩
       ·rw [if_neg c24] at H; have c5Z := bq_ c24; have e5w := bn_ c24; rw [c5Z]; have H' := a_ H; clear H
        go_wp2
        go_meet
        case rel => exact ⟨_, (a3F), H', ⟨by have := HK1.out; have := b7c.out; (omega)⟩, ⟨by exact a0V.out⟩, ⟨by exact a4j.out⟩, ⟨by exact a02.out⟩, ⟨by exact a1m.out⟩, ⟨by exact HB.out⟩⟩
      case rest =>
       clear e8q; obtain ⟨kq, a4z, HA, c0e, a0V, a4j, a02, a1m, HB⟩ := hcut
       cases kq with
       | zero => exact absurd HA.out (by simp [umpireref07_All.j2])
       | succ g3S =>
        have H := HA.out; clear HA
        simp only [umpireref07_All.j2] at H
        have e8r := a_ H; clear H
        go_upto_if 50 with (fail)
        go_cut [] (fun wc => ∃ (kq : Nat) (a6p : Int), Aside0 (umpireref07_All.j3 kq a1 a2 b2n a7s a5u c0d a3t a4z a6p a0W a0X = some (r1, r2, r3, r4, r5, r6)) ∧ Aside0 (kq ≤ g3S) ∧ Aside0 (Kd.N (Kd.slice 5 (Kd.int .u8)) 22 wc w.heap.size (fun k_ => (P0_ k_ ∨ w.heap.size ≤ k_) ∧ some k_ ≠ ((.slice (some b2m) a7s.length a7M) : Value).ownBlock ∧ k_ ≠ a0E ∧ k_ ≠ a0a) u8 b2n) ∧ Aside0 (Kd.N (Kd.slice 5 (Kd.int .u8)) 22 wc w.heap.size (fun k_ => (P0_ k_ ∨ w.heap.size ≤ k_) ∧ some k_ ≠ (u8 : Value).ownBlock ∧ k_ ≠ a0E ∧ k_ ≠ a0a) (.slice (some b2m) a7s.length a7M) a7s) ∧ Aside0 (wc.heap[a0E]? = some (.cells #[.int .i64 0, .int .i64 0, .int .i64 0, .int .i64 0, .int .i64 0] 118 (0, 0))) ∧ Aside0 (wc.heap[a0a]? = some (.cells #[.int .i64 a3t, .int .i64 a4z, .int .i64 a6p, .int .i64 a0W, .int .i64 a0X] 118 (0, 0))) ∧ Aside0 (Below w.heap.size w wc))
        case first =>
         have H := e8r.out; clear e8r
         by_cases c28 : c0d = 3
         ·rw [if_pos c28] at H; obtain ⟨d09, f3J⟩ := bt_ c28; clear c28; rw [d09]; have H' := a_ H; clear H; have e5x := U8.out; have e5y := a0y.out; obtain ⟨c3o, c3p, e1v, e1w, g0q, c3q, c3r, e1x, e1y, g0r⟩ := c5P a1m.out
          go_wp2
          go_meet
          case rel => exact ⟨_, (wrap64 (a2L + 1)), H', ⟨by have := HK1.out; have := b7c.out; have := c0e.out; (omega)⟩, ⟨by exact Kd.O9 (Kd.a0K (p := ⟨a0a, 2, none⟩) (Kd.O9 a0V.out (fun k_ hk => (⟨hk, hk.2.2.2⟩ : _ ∧ k_ ≠ a0a))) (fun _ hk => hk.2) (.int .i64 (wrap64 (a2L + 1)))) (fun _ hk => ⟨hk.1.1, ⟨hk.1.2.1, ⟨hk.1.2.2.1, hk.1.2.2.2⟩⟩⟩)⟩, ⟨by exact Kd.O9 (Kd.a0K (p := ⟨a0a, 2, none⟩) (Kd.O9 a4j.out (fun k_ hk => (⟨hk, hk.2.2.2⟩ : _ ∧ k_ ≠ a0a))) (fun _ hk => hk.2) (.int .i64 (wrap64 (a2L + 1)))) (fun _ hk => ⟨hk.1.1, ⟨hk.1.2.1, ⟨hk.1.2.2.1, hk.1.2.2.2⟩⟩⟩)⟩, ⟨o8 a02.out a0y.out _⟩, ⟨l9 a1m.out 2 _ rfl⟩, ⟨by repeat (with_reducible first | exact HB.out | refine o7 ?_ b83.out)⟩⟩
         ·rw [if_neg c28] at H; have d09 := bq_ c28; have f3J := bn_ c28; rw [d09]; have H' := a_ H; clear H
          go_wp2
          go_meet
          case rel => exact ⟨_, (a2L), H', ⟨by have := HK1.out; have := b7c.out; have := c0e.out; (omega)⟩, ⟨by exact a0V.out⟩, ⟨by exact a4j.out⟩, ⟨by exact a02.out⟩, ⟨by exact a1m.out⟩, ⟨by exact HB.out⟩⟩
        case rest =>
         clear e8r; obtain ⟨kq, a6p, HA, c52, a0V, a4j, a02, a1m, HB⟩ := hcut
         cases kq with
         | zero => exact absurd HA.out (by simp [umpireref07_All.j3])
         | succ e1z =>
          have H := HA.out; clear HA
          simp only [umpireref07_All.j3] at H
          by_cases c31 : c0d = 4
          ·rw [if_pos c31] at H; obtain ⟨f3K, f3L⟩ := bt_ c31; clear c31
           by_cases c32 : c0d = 5
           ·rw [if_pos c32] at H; obtain ⟨d6I, f3M⟩ := bt_ c32; clear c32; have H' := a_ H; clear H; have f3d := U8.out; have f3e := a0y.out; obtain ⟨e06, e07, g0s, g0t, g0u, e08, e09, g0v, g0w, g0x⟩ := c5P a1m.out
            go_wp2
            go_roundg e1z
            case measure => have := HK1.out; have := b7c.out; have := c0e.out; have := c52.out; omega
            case rel => exact ⟨(b2n), (wrap64 (a5u + 1)), (a3t), (a4z), (a6p), (wrap64 (a0W + 1)), (wrap64 (a0X + 1)), (by rfl), H', ⟨by have := HK1.out; have := b7c.out; have := c0e.out; have := c52.out; omega⟩, ⟨by exact Kd.O9 (Kd.a0K (p := ⟨a0a, 4, none⟩) (Kd.a0K (p := ⟨a0a, 3, none⟩) (Kd.O9 a0V.out (fun k_ hk => (⟨hk, hk.2.2.2⟩ : _ ∧ k_ ≠ a0a))) (fun _ hk => hk.2) (.int .i64 (wrap64 (a0W + 1)))) (fun _ hk => hk.2) (.int .i64 (wrap64 (a0X + 1)))) (fun _ hk => ⟨hk.1.1, ⟨hk.1.2.1, ⟨hk.1.2.2.1, hk.1.2.2.2⟩⟩⟩)⟩, ⟨by exact Kd.O9 (Kd.a0K (p := ⟨a0a, 4, none⟩) (Kd.a0K (p := ⟨a0a, 3, none⟩) (Kd.O9 a4j.out (fun k_ hk => (⟨hk, hk.2.2.2⟩ : _ ∧ k_ ≠ a0a))) (fun _ hk => hk.2) (.int .i64 (wrap64 (a0W + 1)))) (fun _ hk => hk.2) (.int .i64 (wrap64 (a0X + 1)))) (fun _ hk => ⟨hk.1.1, ⟨hk.1.2.1, ⟨hk.1.2.2.1, hk.1.2.2.2⟩⟩⟩)⟩, ⟨o8 (o8 a02.out a0y.out _) a0y.out _⟩, ⟨l9 (l9 a1m.out 3 _ rfl) 4 _ rfl⟩, ⟨by repeat (with_reducible first | exact HB.out | refine o7 ?_ b83.out)⟩⟩
           ·rw [if_neg c32] at H; have d6I := bq_ c32; have f3M := bn_ c32; have H' := a_ H; clear H; have g9i := U8.out; have g9j := a0y.out; obtain ⟨c9N, c9O, g0y, g0z, g0A, c9P, c9Q, g0B, g0C, g0D⟩ := c5P a1m.out
            go_wp2
            go_roundg e1z
            case measure => have := HK1.out; have := b7c.out; have := c0e.out; have := c52.out; omega
            case rel => exact ⟨(b2n), (wrap64 (a5u + 1)), (a3t), (a4z), (a6p), (wrap64 (a0W + 1)), (a0X), (by rfl), H', ⟨by have := HK1.out; have := b7c.out; have := c0e.out; have := c52.out; omega⟩, ⟨by exact Kd.O9 (Kd.a0K (p := ⟨a0a, 3, none⟩) (Kd.O9 a0V.out (fun k_ hk => (⟨hk, hk.2.2.2⟩ : _ ∧ k_ ≠ a0a))) (fun _ hk => hk.2) (.int .i64 (wrap64 (a0W + 1)))) (fun _ hk => ⟨hk.1.1, ⟨hk.1.2.1, ⟨hk.1.2.2.1, hk.1.2.2.2⟩⟩⟩)⟩, ⟨by exact Kd.O9 (Kd.a0K (p := ⟨a0a, 3, none⟩) (Kd.O9 a4j.out (fun k_ hk => (⟨hk, hk.2.2.2⟩ : _ ∧ k_ ≠ a0a))) (fun _ hk => hk.2) (.int .i64 (wrap64 (a0W + 1)))) (fun _ hk => ⟨hk.1.1, ⟨hk.1.2.1, ⟨hk.1.2.2.1, hk.1.2.2.2⟩⟩⟩)⟩, ⟨o8 a02.out a0y.out _⟩, ⟨l9 a1m.out 3 _ rfl⟩, ⟨by repeat (with_reducible first | exact HB.out | refine o7 ?_ b83.out)⟩⟩
          ·rw [if_neg c31] at H; have f3K := bq_ c31; have f3L := bn_ c31
           by_cases c37 : c0d = 5
           ·rw [if_pos c37] at H; obtain ⟨e5z, e5A⟩ := bt_ c37; clear c37; have H' := a_ H; clear H; have g9k := U8.out; have g9l := a0y.out; obtain ⟨g0E, g0F, g0G, g0H, g0I, g0J, g0K, g0L, g0M, g0N⟩ := c5P a1m.out
            go_wp2
            go_roundg e1z
            case measure => have := HK1.out; have := b7c.out; have := c0e.out; have := c52.out; omega
            case rel => exact ⟨(b2n), (wrap64 (a5u + 1)), (a3t), (a4z), (a6p), (a0W), (wrap64 (a0X + 1)), (by rfl), H', ⟨by have := HK1.out; have := b7c.out; have := c0e.out; have := c52.out; omega⟩, ⟨by exact Kd.O9 (Kd.a0K (p := ⟨a0a, 4, none⟩) (Kd.O9 a0V.out (fun k_ hk => (⟨hk, hk.2.2.2⟩ : _ ∧ k_ ≠ a0a))) (fun _ hk => hk.2) (.int .i64 (wrap64 (a0X + 1)))) (fun _ hk => ⟨hk.1.1, ⟨hk.1.2.1, ⟨hk.1.2.2.1, hk.1.2.2.2⟩⟩⟩)⟩, ⟨by exact Kd.O9 (Kd.a0K (p := ⟨a0a, 4, none⟩) (Kd.O9 a4j.out (fun k_ hk => (⟨hk, hk.2.2.2⟩ : _ ∧ k_ ≠ a0a))) (fun _ hk => hk.2) (.int .i64 (wrap64 (a0X + 1)))) (fun _ hk => ⟨hk.1.1, ⟨hk.1.2.1, ⟨hk.1.2.2.1, hk.1.2.2.2⟩⟩⟩)⟩, ⟨o8 a02.out a0y.out _⟩, ⟨l9 a1m.out 4 _ rfl⟩, ⟨by repeat (with_reducible first | exact HB.out | refine o7 ?_ b83.out)⟩⟩
           ·rw [if_neg c37] at H; have e5z := bq_ c37; have e5A := bn_ c37; have H' := a_ H; clear H
            go_wp2
            go_roundg e1z
            case measure => have := HK1.out; have := b7c.out; have := c0e.out; have := c52.out; omega
            case rel => exact ⟨(b2n), (wrap64 (a5u + 1)), (a3t), (a4z), (a6p), (a0W), (a0X), (by rfl), H', ⟨by have := HK1.out; have := b7c.out; have := c0e.out; have := c52.out; omega⟩, ⟨by exact a0V.out⟩, ⟨by exact a4j.out⟩, ⟨by exact a02.out⟩, ⟨by exact a1m.out⟩, ⟨by exact HB.out⟩⟩
   ·rw [if_neg c11] at H; have a7L := df_ c11; clear c11; obtain ⟨rfl, rfl, rfl, rfl, rfl, rfl⟩ := s6_ H; obtain ⟨h3o, h3p, g3T⟩ := Kd.a4c a4j.out; subst g3T
    try go_wp2
    replace a0V := a_ (Kd.d4J a0V.out); replace a4j := a_ (Kd.d4J a4j.out); replace a02 := a_ (G9 a02.out); replace a1m := a_ (G9 a1m.out); replace HB := a_ (Y4 HB.out); refine a2E (n := 4) (S := fun w' => w'.cell? ⟨a0a, 0, none⟩ = some (.int .i64 a4O) ∧ w'.cell? ⟨a0a, 1, none⟩ = some (.int .i64 a3F) ∧ w'.cell? ⟨a0a, 2, none⟩ = some (.int .i64 a2L) ∧ w'.cell? ⟨a0a, 3, none⟩ = some (.int .i64 a0W) ∧ w'.cell? ⟨a0a, 4, none⟩ = some (.int .i64 a0X)) (ds := []) (bo_ 4 0) (by kernel_rfl) rfl rfl ⟨bc0 a1m, bc1 a1m, bc2 a1m, bc3 a1m, bc4 a1m⟩ (fun hHeld => ?_); generalize wr.drew = w41 at a0V a4j a02 a1m HB hHeld ⊢; refine a2H (i := 0) (N := some 67) (bo_ 4 1) rfl rfl (by kernel_rfl) (fun _ _ _ h => h) (.inl ⟨rfl, by intro w'; go_simp; with_reducible rfl⟩) rfl ?_; refine a2H (i := 2) (N := some 6) (bo_ 4 5) rfl rfl (by kernel_rfl) (fun _ _ _ h => h) (.inl ⟨rfl, by intro w'; go_simp; with_reducible rfl⟩) rfl ?_; refine a1H (i := 1) (N := some 68) (v := ?_) (a' := ?_) (bo_ 4 7) rfl rfl (by kernel_rfl) (fun _ _ _ h => h) (Or.inl ⟨by rfl, ?_⟩) hHeld ?_ ?_
    rotate_left
    ·rintro w' ⟨s0, s1, s2, s3, s4⟩
     go_simp
     with_reducible rfl
    rotate_left
    ·simp only [Act.put, List.setIfInBounds_toArray, List.set_cons_zero, List.set_cons_succ, a0J, a2b]
     rfl
    refine a6o (i := 3) (N := none) (bo_ 4 15) rfl rfl (by kernel_rfl) (by decide) (fun K hK => ?_); have f3N := bc0 a02; have e5B := l7 a02.out 0; have d1a := U8.out; have d1b := a0y.out; have g3U := bc1 a02; have f3O := l7 a02.out 1; have g0O := U8.out; have g0P := a0y.out; have h3q := bc2 a02; have g9m := l7 a02.out 2; have g0Q := U8.out; have g0R := a0y.out; have h3r := bc3 a02; have g9n := l7 a02.out 3; have g0S := U8.out; have g0T := a0y.out; have h3s := bc4 a02; have g9o := l7 a02.out 4; have g0U := U8.out; have g0V := a0y.out; refine a7H (w1 := ?_) (by rfl) rfl ?_ ?_
    rotate_left
    ·go_simp
     rfl
    refine hK.out _ _ ⟨((cell_far (p := ⟨a0E, _, none⟩) U8.out _).trans (((cell_far (p := ⟨a0E, _, none⟩) U8.out _).trans (((cell_far (p := ⟨a0E, _, none⟩) U8.out _).trans (((cell_far (p := ⟨a0E, _, none⟩) U8.out _).trans (((cell_far (p := ⟨a0E, _, none⟩) U8.out _).trans (hHeld.1)))))))))), ((cell_far (p := ⟨a0E, _, none⟩) U8.out _).trans (((cell_far (p := ⟨a0E, _, none⟩) U8.out _).trans (((cell_far (p := ⟨a0E, _, none⟩) U8.out _).trans (((cell_far (p := ⟨a0E, _, none⟩) U8.out _).trans (((cell_far (p := ⟨a0E, _, none⟩) U8.out _).trans (hHeld.2.1)))))))))), ((cell_far (p := ⟨a0E, _, none⟩) U8.out _).trans (((cell_far (p := ⟨a0E, _, none⟩) U8.out _).trans (((cell_far (p := ⟨a0E, _, none⟩) U8.out _).trans (((cell_far (p := ⟨a0E, _, none⟩) U8.out _).trans (((cell_far (p := ⟨a0E, _, none⟩) U8.out _).trans (hHeld.2.2.1)))))))))), ((cell_far (p := ⟨a0E, _, none⟩) U8.out _).trans (((cell_far (p := ⟨a0E, _, none⟩) U8.out _).trans (((cell_far (p := ⟨a0E, _, none⟩) U8.out _).trans (((cell_far (p := ⟨a0E, _, none⟩) U8.out _).trans (((cell_far (p := ⟨a0E, _, none⟩) U8.out _).trans (hHeld.2.2.2.1)))))))))), ((cell_far (p := ⟨a0E, _, none⟩) U8.out _).trans (((cell_far (p := ⟨a0E, _, none⟩) U8.out _).trans (((cell_far (p := ⟨a0E, _, none⟩) U8.out _).trans (((cell_far (p := ⟨a0E, _, none⟩) U8.out _).trans (((cell_far (p := ⟨a0E, _, none⟩) U8.out _).trans (hHeld.2.2.2.2))))))))))⟩ (fun hHeld => ?_); clear hK K; refine a4D (by kernel_rfl) ?_
    try go_wp2
    refine bodyPost_ret (a0v rfl _ _ a0E 118 #[.int .i64 a4O, .int .i64 a3F, .int .i64 a2L, .int .i64 a0W, .int .i64 a0X] (0, 0) _ rfl (l9 (l9 (l9 (l9 (l9 a02.out 0 _ rfl) 1 _ rfl) 2 _ rfl) 3 _ rfl) 4 _ rfl) Tryd.underlying118 rfl (by kernel_rfl)) rfl ?_; exact ⟨_, by (rfl), by exact Kd.O9 (Kd.a0K (p := ⟨a0E, 4, none⟩) (Kd.a0K (p := ⟨a0E, 3, none⟩) (Kd.a0K (p := ⟨a0E, 2, none⟩) (Kd.a0K (p := ⟨a0E, 1, none⟩) (Kd.a0K (p := ⟨a0E, 0, none⟩) (Kd.O9 a0V.out (fun k_ hk => (⟨hk, hk.2.2.1⟩ : _ ∧ k_ ≠ a0E))) (fun _ hk => hk.2) (.int .i64 a4O)) (fun _ hk => hk.2) (.int .i64 a3F)) (fun _ hk => hk.2) (.int .i64 a2L)) (fun _ hk => hk.2) (.int .i64 a0W)) (fun _ hk => hk.2) (.int .i64 a0X)) (fun _ hk => hk.1.1), by repeat (with_reducible first | exact HB.out | refine o7 ?_ f3E.out)⟩

end Go.Proofs.YtgnonglkibhnhaaDoor.Print
