import Derived.Test.YtgnonglkibhnhaaDoorZ
import Derived.Test.YtgnonglkibhnhaaDoorM1
import Derived.Test.YtgnonglkibhnhaaDoorF10
import Derived.Test.YtgnonglkibhnhaaDoorM2
import Derived.Test.YtgnonglkibhnhaaDoorF14
import Derived.Test.YtgnonglkibhnhaaDoorF18
import Derived.Test.YtgnonglkibhnhaaDoorF19
import Derived.Test.YtgnonglkibhnhaaDoorF9
namespace Go.Proofs.YtgnonglkibhnhaaDoor.Print
open Go.RowKit Go.Proofs.YtgnonglkibhnhaaDoorW.PrintWords Go.Proofs.YtgnonglkibhnhaaDoorW.PrintLast Go.Proofs.YtgnonglkibhnhaaDoorW.PrintMore
attribute [local go_sem] a0u a0v a1m a1n Y7 Y8 a0w a0x
set_option linter.unusedVariables false
set_option linter.unusedSimpArgs false

attribute [local go_sem high] e3s
/-! ### umpirelaw11_CaptureOrders: function 6 -/
mutual
def umpirelaw11_CaptureOrders.j0 : Nat → List (S42) → Int → Bool → Bool → Bool → Int → Int → Int → Int → Int → Int → ByteArray → ByteArray → Int → Int → Bool → Option (Bool)
 | 0, _, _, _, _, _, _, _, _, _, _, _, _, _, _, _, _ => none
 | k + 1, x0, x2, x31, a4P, a4Q, a4R, a7z, a4c, a4d, a4e, a4f, a4g, a4h, a3G, a4i, a4j => if x31 = true then ((umpirelaw11_awake.f k).bind fun e5x => (some e5x)) else ((capture_Write.f k x0 1 a4c a4d a4e a4f a4g a4h a3G a4i a4j).bind fun d26 => (if d26.2 = 0 then ((umpireref09_Read.f k d26.1).bind fun c8G => (if c8G.2.2.2.2.2.2 = 0 then (umpirelaw11_CaptureOrders.j1 k x0 x2 c8G.2.2.2.2.1 ((c8G.2.2.2.2.1.length : Int) != (x0.length : Int)) a4P a4Q a4R a7z a4c a4d a4e a4f a4g a4h a3G a4i a4j) else (umpirelaw11_CaptureOrders.j1 k x0 x2 c8G.2.2.2.2.1 true a4P a4Q a4R a7z a4c a4d a4e a4f a4g a4h a3G a4i a4j))) else (some (d26.2 == 1))))
def umpirelaw11_CaptureOrders.j1 : Nat → List (S42) → Int → List (S51) → Bool → Bool → Bool → Int → Int → Int → Int → Int → Int → ByteArray → ByteArray → Int → Int → Bool → Option (Bool)
 | 0, _, _, _, _, _, _, _, _, _, _, _, _, _, _, _, _, _ => none
 | k + 1, x0, x2, x12, x58, a4P, a4Q, a4R, a7z, a4c, a4d, a4e, a4f, a4g, a4h, a3G, a4i, a4j => if x58 = true then (none) else (umpirelaw11_CaptureOrders.l0 k x0 x2 x12 0 a4P a4Q a4R a7z a4c a4d a4e a4f a4g a4h a3G a4i a4j)
def umpirelaw11_CaptureOrders.l0 : Nat → List (S42) → Int → List (S51) → Int → Bool → Bool → Int → Int → Int → Int → Int → Int → ByteArray → ByteArray → Int → Int → Bool → Option (Bool)
 | 0, _, _, _, _, _, _, _, _, _, _, _, _, _, _, _, _, _ => none
 | k + 1, x0, x2, x12, x14, a4P, a4Q, a4R, a7z, a4c, a4d, a4e, a4f, a4g, a4h, a3G, a4i, a4j => if x14 < (x12.length : Int) then (if 0 ≤ x14 then (if (((y9 x12 x14).f3).length : Int) = 0 then (none) else ((some (x12.set (x14 : Int).toNat (⟨x2, (y9 x12 x14).f1, (y9 x12 x14).f2, (y9 x12 x14).f3⟩ : S51) : List (S51))).bind fun a9F => ((some (a9F.set (x14 : Int).toNat (⟨(y9 a9F x14).f0, x2, (y9 a9F x14).f2, (y9 a9F x14).f3⟩ : S51) : List (S51))).bind fun a9G => (umpirelaw11_CaptureOrders.l0 k x0 x2 (a9G.set (x14 : Int).toNat (⟨(y9 a9G x14).f0, (y9 a9G x14).f1, x2, (y9 a9G x14).f3⟩ : S51)) (wrap64 (x14 + 1)) a4P a4Q a4R a7z a4c a4d a4e a4f a4g a4h a3G a4i a4j)))) else (none)) else ((umpireref09_Put.f k a4P a4Q a4R 204 x12).bind fun f0Y => ((capture_Read.f k f0Y.1 1 a4c a4d a4e a4f a4g a4h a3G a4i a4j).bind fun d27 => (if (!(d27.2.1 == 0) || (!(d27.2.2 == 0))) = true then (umpirelaw11_CaptureOrders.j3 k x0 x12 true a4P a4Q a4R 204 a4c a4d a4e a4f a4g a4h a3G a4i a4j) else ((H8.f k d27.1 x0).bind fun d8f => (umpirelaw11_CaptureOrders.j3 k x0 x12 (!d8f) a4P a4Q a4R 204 a4c a4d a4e a4f a4g a4h a3G a4i a4j)))))
def umpirelaw11_CaptureOrders.j3 : Nat → List (S42) → List (S51) → Bool → Bool → Bool → Int → Int → Int → Int → Int → Int → ByteArray → ByteArray → Int → Int → Bool → Option (Bool)
 | 0, _, _, _, _, _, _, _, _, _, _, _, _, _, _, _, _ => none
 | k + 1, x0, x12, g26, a4P, a4Q, a4R, a7z, a4c, a4d, a4e, a4f, a4g, a4h, a3G, a4i, a4j => if g26 = true then (none) else ((some (([] : List (S42)) : List (S42))).bind fun d28 => (if d28.length + x0.length < 3518437208883 then (umpirelaw11_CaptureOrders.l1 k x12 (d28 ++ x0) 0 a4P a4Q a4R a7z a4c a4d a4e a4f a4g a4h a3G a4i a4j) else (none)))
def umpirelaw11_CaptureOrders.l1 : Nat → List (S51) → List (S42) → Int → Bool → Bool → Int → Int → Int → Int → Int → Int → ByteArray → ByteArray → Int → Int → Bool → Option (Bool)
 | 0, _, _, _, _, _, _, _, _, _, _, _, _, _, _, _, _ => none
 | k + 1, x12, x19, x20, a4P, a4Q, a4R, a7z, a4c, a4d, a4e, a4f, a4g, a4h, a3G, a4i, a4j => if x20 < (x12.length : Int) then (if 0 ≤ x20 then (if 1 ≤ (((y9 x12 x20).f3).length : Int) then (if x20 < (x19.length : Int) then (umpirelaw11_CaptureOrders.l1 k (x12.set (x20 : Int).toNat (⟨(y9 x12 x20).f0, (y9 x12 x20).f1, (y9 x12 x20).f2, (((y9 x12 x20).f3).drop 1)⟩ : S51)) (x19.set (x20 : Int).toNat (⟨a3G, (F7 x19 x20).f1, (F7 x19 x20).f2⟩ : S42)) (wrap64 (x20 + 1)) a4P a4Q a4R a7z a4c a4d a4e a4f a4g a4h a3G a4i a4j) else (none)) else (none)) else (none)) else ((umpireref09_Put.f k a4P a4Q a4R 50 x12).bind fun f0Z => ((capture_Read.f k f0Z.1 1 a4c a4d a4e a4f a4g a4h a3G a4i a4j).bind fun d29 => (if (d29.2.1 == 0 && (d29.2.2 == 0)) = true then ((H8.f k d29.1 x19).bind fun d3a => (some d3a)) else (none))))
end
def umpirelaw11_CaptureOrders.f (k : Nat) (l0 : List (S42)) (a8n : Bool) (a8o : Bool) (a8p : Int) (b46 : Int) (a2 : Int) (a7G : Int) (a7H : Int) (a7I : Int) (a7J : Int) (a7K : ByteArray) (a7L : ByteArray) (a6e : Int) (a7M : Int) (a7N : Bool) : Option (Bool) := (umpirelaw11_awake.f k).bind fun e5y => (if e5y = true then ((U6.f k l0).bind fun d8g => (umpirelaw11_CaptureOrders.j0 k l0 a2 (!d8g) a8n a8o a8p b46 a7G a7H a7I a7J a7K a7L a6e a7M a7N)) else (umpirelaw11_CaptureOrders.j0 k l0 a2 true a8n a8o a8p b46 a7G a7H a7I a7J a7K a7L a6e a7M a7N))
set_option maxHeartbeats 8000000 in
set_option maxRecDepth 100000 in
theorem umpirelaw11_CaptureOrders.calls (k : Nat) (A0 : Option Addr) (c0 : Nat) (l0 : List (S42)) (a8n : Bool) (a8o : Bool) (a8p : Int) (b46 : Int) (a2 : Int) (a7G : Int) (a7H : Int) (a7I : Int) (a7J : Int) (a7K : ByteArray) (a7L : ByteArray) (a6e : Int) (a7M : Int) (a7N : Bool) (r : Bool) (w : World) (hG0 : Kd.C b0s w (some ⟨0, 0, none⟩) 8 F8) (hr0 : Kd.C k42 w A0 l0.length l0) (hc0 : l0.length ≤ c0) (h : umpirelaw11_CaptureOrders.f k l0 a8n a8o a8p b46 a2 a7G a7H a7I a7J a7K a7L a6e a7M a7N = some r) :
  Calls Tryd.prog 6 #[.slice A0 l0.length c0, .agg #[.bool a8n, .bool a8o, .int .u32 a8p, .int .u32 b46], .int .u32 a2, .agg #[.int .i64 a7G, .int .i64 a7H, .int .i64 a7I, .int .i64 a7J, .string a7K, .string a7L, .int .i64 a6e, .int .u32 a7M, .bool a7N]] w fun e w' => e = .returned (.bool r) ∧ Below w.heap.size w w' := by
 have c39 := Tryd.underlying46
 have d1K := Tryd.underlying25
 have b2w := Tryd.underlying30
 have HR0 := a_ hr0
 have HC0 := a_ hc0
 clear hr0 hc0
 have a4Z := a_ hG0
 clear hG0
 have HB := a_ (Below.refl w.heap.size w)
 have H := h
 clear h
 unfold umpirelaw11_CaptureOrders.f at H
 have HC5 := a_ H
 clear H
 go_enter Tryd.func6, Tryd.ntmps6
 go_upto_region 1 with (first | ((with_reducible refine P9 (N := 5) rfl ?_); (try (refine U8 (by rfl) ?_; dsimp only)); refine be_ 5 #[.bool a8n, .bool a8o, .int .u32 a8p, .int .u32 b46] 46 ?_; intro Z9 hg w6 hbox hb; have U3 := a_ hbox; have c4a := lb_ HB hg; replace HB := W9 HB hb; clear hb hbox hg) | ((with_reducible refine P9 (N := 7) rfl ?_); (try (refine U8 (by rfl) ?_; dsimp only)); refine be_ 7 #[.int .i64 a7G, .int .i64 a7H, .int .i64 a7I, .int .i64 a7J, .string a7K, .string a7L, .int .i64 a6e, .int .u32 a7M, .bool a7N] 25 ?_; intro a0R hg w7 hbox hb; have U4 := a_ hbox; have f00 := lb_ HB hg; obtain ⟨a9T, a7g⟩ := nn_ U3 hg; replace U3 := U5 U3 hb; replace HB := W9 HB hb; clear hb hbox hg))
 go_cut [31] (fun v31 wc => ∃ (kq : Nat) (c8H : Bool), v31 = .bool c8H ∧ Aside0 (umpirelaw11_CaptureOrders.j0 kq l0 a2 c8H a8n a8o a8p b46 a7G a7H a7I a7J a7K a7L a6e a7M a7N = some r) ∧ Aside0 (kq ≤ k) ∧ Aside0 (wc.heap[Z9]? = some (.cells #[.bool a8n, .bool a8o, .int .u32 a8p, .int .u32 b46] 46 (0, 0))) ∧ Aside0 (wc.heap[a0R]? = some (.cells #[.int .i64 a7G, .int .i64 a7H, .int .i64 a7I, .int .i64 a7J, .string a7K, .string a7L, .int .i64 a6e, .int .u32 a7M, .bool a7N] 25 (0, 0))) ∧ Aside0 (Below w.heap.size w wc))
 case first =>
  have H := HC5.out
  clear HC5
  replace H := Option.bind_eq_some_iff.mp H
  obtain ⟨e5y, A80, H⟩ := H
  try dsimp only at H
  have A8 := a_ A80
  clear A80
  by_cases c9 : e5y = true
  ·subst c9
   rw [if_pos rfl] at H
   replace H := Option.bind_eq_some_iff.mp H
   obtain ⟨d8g, b7N, H⟩ := H
   try dsimp only at H
   have A10 := a_ b7N
   clear b7N
   have H' := a_ H
   clear H
   go_wp2_with (first | (refine gl_ (some 25) Tryd.func9 #[] ?_ (hargs := by (try simp only [List.map_toArray, List.map_cons, List.map_nil]); (done)); (with_reducible refine (umpirelaw11_awake.calls k  true _ (Kd.D6 a4Z.out HB.out) A8.out).mono ?_); rintro e w11 ⟨rfl, hb⟩; refine ⟨_, rfl, ?_⟩; replace U3 := U5 U3 hb; replace U4 := U5 U4 hb; replace HB := W9 HB hb; (try clear hb)) | (go_at_call 13; (with_reducible refine (U6.calls k _ _ l0 d8g _ (Kd.D6 HR0.out HB.out) HC0.out A10.out).mono ?_); rintro e w12 ⟨rfl, hb⟩; replace U3 := U5 U3 hb; replace U4 := U5 U4 hb; replace HB := W9 HB hb; (try clear hb)))
   go_meet
   case rel => exact ⟨_, (!d8g), (by rfl), H', ⟨by (omega)⟩, ⟨by exact U3.out⟩, ⟨by exact U4.out⟩, ⟨by exact HB.out⟩⟩
  ·cases nt_ c9
   rw [if_neg a5a] at H
   have H' := a_ H
   clear H
   go_wp2_with (first | (refine gl_ (some 25) Tryd.func9 #[] ?_ (hargs := by (try simp only [List.map_toArray, List.map_cons, List.map_nil]); (done)); (with_reducible refine (umpirelaw11_awake.calls k  false _ (Kd.D6 a4Z.out HB.out) A8.out).mono ?_); rintro e w13 ⟨rfl, hb⟩; refine ⟨_, rfl, ?_⟩; replace U3 := U5 U3 hb; replace U4 := U5 U4 hb; replace HB := W9 HB hb; (try clear hb)))
   go_meet
   case rel => exact ⟨_, (true), (by rfl), H', ⟨by (omega)⟩, ⟨by exact U3.out⟩, ⟨by exact U4.out⟩, ⟨by exact HB.out⟩⟩
 case rest =>
  clear HC5
  obtain ⟨kq, c8H, rfl, HA, HJ4, U3, U4, HB⟩ := hcut
  cases kq with
  | zero => exact absurd HA.out (by simp [umpirelaw11_CaptureOrders.j0])
  | succ kj4 =>
   have H := HA.out
   clear HA
   simp only [umpirelaw11_CaptureOrders.j0] at H
   by_cases c14 : c8H = true
   ·subst c14
    rw [if_pos rfl] at H
    replace H := Option.bind_eq_some_iff.mp H
    obtain ⟨e5x, c4b, H⟩ := H
    try dsimp only at H
    have A15 := a_ c4b
    clear c4b
    obtain rfl := Option.some.inj H
    go_wp2_with (first | (refine gl_ (some 32) Tryd.func9 #[] ?_ (hargs := by (try simp only [List.map_toArray, List.map_cons, List.map_nil]); (done)); (with_reducible refine (umpirelaw11_awake.calls kj4  e5x _ (Kd.D6 a4Z.out HB.out) A15.out).mono ?_); rintro e w16 ⟨rfl, hb⟩; refine ⟨_, rfl, ?_⟩; replace U3 := U5 U3 hb; replace U4 := U5 U4 hb; replace HB := W9 HB hb; (try clear hb)))
    go_ret
    exact ⟨by (rfl), by exact HB.out⟩
   ·cases nt_ c14
    rw [if_neg a5a] at H
    replace H := Option.bind_eq_some_iff.mp H
    obtain ⟨⟨d3c, e5z⟩, f04, H⟩ := H
    try dsimp only at H
    have A17 := a_ f04
    clear f04
    by_cases c18 : e5z = 0
    ·rw [if_pos c18] at H
     obtain ⟨c4c, d3d⟩ := bt_ c18
     clear c18
     replace H := Option.bind_eq_some_iff.mp H
     obtain ⟨⟨b26, b47, b7O, c07, d3e, b7P, b9R⟩, d3f, H⟩ := H
     try dsimp only at H
     have A19 := a_ d3f
     clear d3f
     have e5A := a_ H
     clear H
     have e3u := a7g.out
     have e3v := a9T.out
     obtain ⟨b6M, b6N, b6O, c8I, d8h, d8i, d8j, d8k, d8l, b6P, b6Q, b6R, c8J, d8m, d8n, d8o, d8p, d8q⟩ := d3g U4.out
     go_upto_region 7 with (first | (refine gl_ (some 36) Tryd.func14 #[.slice A0 l0.length c0, .int .i64 1, .agg #[.int .i64 a7G, .int .i64 a7H, .int .i64 a7I, .int .i64 a7J, .string a7K, .string a7L, .int .i64 a6e, .int .u32 a7M, .bool a7N]] ?_; (with_reducible refine (capture_Write.calls kj4 _ _ l0 1 a7G a7H a7I a7J a7K a7L a6e a7M a7N d3c e5z _ (Kd.D6 a4Z.out HB.out) (Kd.D6 HR0.out HB.out) HC0.out A17.out).mono ?_); rintro e w23 ⟨g28, rfl, ho0, hb⟩; refine ⟨_, rfl, ?_⟩; have b1t := rl_ ho0 HB; replace U3 := U5 U3 hb; replace U4 := U5 U4 hb; replace HB := W9 HB hb; (try clear hb); (try clear ho0); obtain ⟨b6q, b6r, c08⟩ := Kd.J4 b1t.out; subst c08) | (refine gl_ (some 45) Tryd.func18 #[.slice b6q d3c.length b6r] ?_; (with_reducible refine (umpireref09_Read.calls kj4 _ _ d3c b26 b47 b7O c07 d3e b7P b9R _ ((Kd.G5 b1t.out).2.2) ((Kd.G5 b1t.out).2.1) A19.out).mono ?_); rintro e w25 ⟨f05, rfl, ho0, hb⟩; refine ⟨_, rfl, ?_⟩; have b7Q := a_ (Kd.a6b (Kd.N8 (ok' := fun k_ => some k_ ≠ (.slice b6q d3c.length b6r : Value).ownBlock ∧ k_ ≠ Z9 ∧ k_ ≠ a0R) (Kd.S_N (Kd.a0P ho0)) (fun k_ hk_ => ⟨(Kd.fresh' (Kd.a0h b1t.out) k_ hk_.2.1), (Kd.a1z U3.out k_ hk_.2.1), (Kd.a1z U4.out k_ hk_.2.1)⟩)) (y5 HB.out)); replace b1t := rb_ b1t hb; replace U3 := U5 U3 hb; replace U4 := U5 U4 hb; replace HB := W9 HB hb; (try clear hb); (try clear ho0)) | ((with_reducible refine P9 (N := 11) rfl ?_); (try (refine U8 (by rfl) ?_; dsimp only)); refine be_ 11 #[.bool false, .bool false, .int .u32 0, .int .u32 0] 46 ?_; intro a0e hg w26 hbox hb; have a0i := a_ hbox; have d3h := lb_ HB hg; obtain ⟨a3N, a9U⟩ := nn_ U3 hg; obtain ⟨a3f, b1Y⟩ := nn_ U4 hg; replace b1t := rb_ b1t hb; replace b7Q := Ne_ b7Q hg hb; replace U3 := U5 U3 hb; replace U4 := U5 U4 hb; replace HB := W9 HB hb; clear hb hbox hg) | ((with_reducible refine P9 (N := 13) rfl ?_); (try (refine U8 (by rfl) ?_; dsimp only)); refine be_ 13 #[.int .i64 0, .int .i64 0] 30 ?_; intro a0y hg w27 hbox hb; have a0m := a_ hbox; have d3i := lb_ HB hg; obtain ⟨a5n, a7i⟩ := nn_ U3 hg; obtain ⟨a4D, a8x⟩ := nn_ U4 hg; obtain ⟨a7j, a3O⟩ := nn_ a0i hg; replace b1t := rb_ b1t hb; replace b7Q := Ne_ b7Q hg hb; replace U3 := U5 U3 hb; replace U4 := U5 U4 hb; replace a0i := U5 a0i hb; replace HB := W9 HB hb; clear hb hbox hg; have e3w := a9U.out; have e3x := a3N.out; have e3y := b1Y.out; have e3z := a3f.out; have e3A := a7j.out; have e3B := a3O.out; obtain ⟨b6S, b6T, b6U, c09, b6V, b6W, b6X, c1c⟩ := blk4 a0i.out; have g98 := a7i.out; have g99 := a5n.out; have f07 := a8x.out; have f08 := a4D.out; obtain ⟨c8K, c8L, c8M, c8N⟩ := a3n a0m.out))
     go_cut [58] (fun v58 wc => ∃ (kq : Nat) (c1d : Bool), v58 = .bool c1d ∧ Aside0 (umpirelaw11_CaptureOrders.j1 kq l0 a2 d3e c1d a8n a8o a8p b46 a7G a7H a7I a7J a7K a7L a6e a7M a7N = some r) ∧ Aside0 (kq ≤ kj4) ∧ Aside0 (Kd.N k51 51 wc w.heap.size (fun k_ => k_ ≠ Z9 ∧ k_ ≠ a0R ∧ k_ ≠ a0e ∧ k_ ≠ a0y) f05 d3e) ∧ Aside0 (wc.heap[Z9]? = some (.cells #[.bool a8n, .bool a8o, .int .u32 a8p, .int .u32 b46] 46 (0, 0))) ∧ Aside0 (wc.heap[a0R]? = some (.cells #[.int .i64 a7G, .int .i64 a7H, .int .i64 a7I, .int .i64 a7J, .string a7K, .string a7L, .int .i64 a6e, .int .u32 a7M, .bool a7N] 25 (0, 0))) ∧ Aside0 (wc.heap[a0e]? = some (.cells #[.bool b26, .bool b47, .int .u32 b7O, .int .u32 c07] 46 (0, 0))) ∧ Aside0 (wc.heap[a0y]? = some (.cells #[.int .i64 b7P, .int .i64 b9R] 30 (0, 0))) ∧ Aside0 (Below w.heap.size w wc))
     case first =>
      have H := e5A.out
      clear e5A
      by_cases c35 : b9R = 0
      ·rw [if_pos c35] at H
       obtain ⟨c4e, d3j⟩ := bt_ c35
       clear c35
       have H' := a_ H
       clear H
       have h0a := a7i.out
       have h0b := a5n.out
       have f09 := a8x.out
       have f1b := a4D.out
       have h0d := a3O.out
       have h0e := a7j.out
       obtain ⟨f9j, f9k, f9l, f9m⟩ := a3n a0m.out
       obtain ⟨h4C, h4D, g29⟩ := Kd.a3H b7Q.out
       subst g29
       go_wp2
       go_meet
       case rel => exact ⟨_, ((d3e.length : Int) != (l0.length : Int)), (by rfl), H', ⟨by have := HJ4.out; (omega)⟩, ⟨by exact Kd.N8 (Kd.a0j (p := ⟨a0y, 1, none⟩) (Kd.a0j (p := ⟨a0y, 0, none⟩) (Kd.a0j (p := ⟨a0e, 3, none⟩) (Kd.a0j (p := ⟨a0e, 2, none⟩) (Kd.a0j (p := ⟨a0e, 1, none⟩) (Kd.a0j (p := ⟨a0e, 0, none⟩) (Kd.N8 (Kd.N8 b7Q.out (fun k_ hk => (⟨hk, hk.1.2⟩ : _ ∧ k_ ≠ a0e))) (fun k_ hk => (⟨hk, hk.1.2⟩ : _ ∧ k_ ≠ a0y))) (fun _ hk => hk.1.2) (.bool b26)) (fun _ hk => hk.1.2) (.bool b47)) (fun _ hk => hk.1.2) (.int .u32 b7O)) (fun _ hk => hk.1.2) (.int .u32 c07)) (fun _ hk => hk.2) (.int .i64 b7P)) (fun _ hk => hk.2) (.int .i64 b9R)) (fun _ hk => ⟨hk.1.1.1.1.2.1, ⟨hk.1.1.1.1.2.2, ⟨hk.1.1.1.2, hk.1.1.2⟩⟩⟩)⟩, ⟨by refine o9 ?_ a5n.out _; refine o9 ?_ a5n.out _; refine o9 ?_ a3N.out _; refine o9 ?_ a3N.out _; refine o9 ?_ a3N.out _; refine o9 ?_ a3N.out _; exact U3.out⟩, ⟨by refine o9 ?_ a4D.out _; refine o9 ?_ a4D.out _; refine o9 ?_ a3f.out _; refine o9 ?_ a3f.out _; refine o9 ?_ a3f.out _; refine o9 ?_ a3f.out _; exact U4.out⟩, ⟨by refine o9 ?_ a7j.out _; refine o9 ?_ a7j.out _; refine l9 (cs := #[.bool b26, .bool b47, .int .u32 b7O, .int .u32 0]) ?_ 3 _ rfl; refine l9 (cs := #[.bool b26, .bool b47, .int .u32 0, .int .u32 0]) ?_ 2 _ rfl; refine l9 (cs := #[.bool b26, .bool false, .int .u32 0, .int .u32 0]) ?_ 1 _ rfl; refine l9 (cs := #[.bool false, .bool false, .int .u32 0, .int .u32 0]) ?_ 0 _ rfl; exact a0i.out⟩, ⟨by refine l9 (cs := #[.int .i64 b7P, .int .i64 0]) ?_ 1 _ rfl; refine l9 (cs := #[.int .i64 0, .int .i64 0]) ?_ 0 _ rfl; refine o9 ?_ a3O.out _; refine o9 ?_ a3O.out _; refine o9 ?_ a3O.out _; refine o9 ?_ a3O.out _; exact a0m.out⟩, ⟨by repeat (with_reducible first | exact HB.out | refine o8 ?_ d3h.out | refine o8 ?_ d3i.out)⟩⟩
      ·rw [if_neg c35] at H
       have c4e := beq_eq_false_iff_ne.mpr c35
       have d3j := bne_iff_ne.mpr c35
       have H' := a_ H
       clear H
       have h0f := a7i.out
       have h0g := a5n.out
       have h0h := a8x.out
       have h0m := a4D.out
       have d3k := a3O.out
       have d3l := a7j.out
       obtain ⟨c8O, c8P, c8Q, c8R⟩ := a3n a0m.out
       go_wp2
       go_meet
       case rel => exact ⟨_, (true), (by rfl), H', ⟨by have := HJ4.out; (omega)⟩, ⟨by exact Kd.N8 (Kd.a0j (p := ⟨a0y, 1, none⟩) (Kd.a0j (p := ⟨a0y, 0, none⟩) (Kd.a0j (p := ⟨a0e, 3, none⟩) (Kd.a0j (p := ⟨a0e, 2, none⟩) (Kd.a0j (p := ⟨a0e, 1, none⟩) (Kd.a0j (p := ⟨a0e, 0, none⟩) (Kd.N8 (Kd.N8 b7Q.out (fun k_ hk => (⟨hk, hk.1.2⟩ : _ ∧ k_ ≠ a0e))) (fun k_ hk => (⟨hk, hk.1.2⟩ : _ ∧ k_ ≠ a0y))) (fun _ hk => hk.1.2) (.bool b26)) (fun _ hk => hk.1.2) (.bool b47)) (fun _ hk => hk.1.2) (.int .u32 b7O)) (fun _ hk => hk.1.2) (.int .u32 c07)) (fun _ hk => hk.2) (.int .i64 b7P)) (fun _ hk => hk.2) (.int .i64 b9R)) (fun _ hk => ⟨hk.1.1.1.1.2.1, ⟨hk.1.1.1.1.2.2, ⟨hk.1.1.1.2, hk.1.1.2⟩⟩⟩)⟩, ⟨by refine o9 ?_ a5n.out _; refine o9 ?_ a5n.out _; refine o9 ?_ a3N.out _; refine o9 ?_ a3N.out _; refine o9 ?_ a3N.out _; refine o9 ?_ a3N.out _; exact U3.out⟩, ⟨by refine o9 ?_ a4D.out _; refine o9 ?_ a4D.out _; refine o9 ?_ a3f.out _; refine o9 ?_ a3f.out _; refine o9 ?_ a3f.out _; refine o9 ?_ a3f.out _; exact U4.out⟩, ⟨by refine o9 ?_ a7j.out _; refine o9 ?_ a7j.out _; refine l9 (cs := #[.bool b26, .bool b47, .int .u32 b7O, .int .u32 0]) ?_ 3 _ rfl; refine l9 (cs := #[.bool b26, .bool b47, .int .u32 0, .int .u32 0]) ?_ 2 _ rfl; refine l9 (cs := #[.bool b26, .bool false, .int .u32 0, .int .u32 0]) ?_ 1 _ rfl; refine l9 (cs := #[.bool false, .bool false, .int .u32 0, .int .u32 0]) ?_ 0 _ rfl; exact a0i.out⟩, ⟨by refine l9 (cs := #[.int .i64 b7P, .int .i64 0]) ?_ 1 _ rfl; refine l9 (cs := #[.int .i64 0, .int .i64 0]) ?_ 0 _ rfl; refine o9 ?_ a3O.out _; refine o9 ?_ a3O.out _; refine o9 ?_ a3O.out _; refine o9 ?_ a3O.out _; exact a0m.out⟩, ⟨by repeat (with_reducible first | exact HB.out | refine o8 ?_ d3h.out | refine o8 ?_ d3i.out)⟩⟩
     case rest =>
      clear e5A
      try clear c4c
      try clear d3d
      try clear b6M
      try clear b6N
      try clear b6O
      try clear c8I
      try clear d8h
      try clear d8i
      try clear d8j
      try clear d8k
      try clear d8l
      try clear b6S
      try clear b6T
      try clear b6U
      try clear c09
      try clear c8K
      try clear c8L
      try clear b6P
      try clear b6Q
      try clear b6R
      try clear c8J
      try clear d8m
      try clear d8n
      try clear d8o
      try clear d8p
      try clear d8q
      try clear b6V
      try clear b6W
      try clear b6X
      try clear c1c
      try clear c8M
      try clear c8N
      obtain ⟨kq, c1d, rfl, HA, d1L, V4, U3, U4, a0i, a0m, HB⟩ := hcut
      cases kq with
      | zero => exact absurd HA.out (by simp [umpirelaw11_CaptureOrders.j1])
      | succ f1c =>
       have H := HA.out
       clear HA
       simp only [umpirelaw11_CaptureOrders.j1] at H
       by_cases c45 : c1d = true
       ·subst c45
        rw [if_pos rfl] at H
        exact absurd H (by simp)
       ·cases nt_ c45
        rw [if_neg a5a] at H
        have H' := a_ H
        clear H
        go_wp2
        go_loopg [14] f1c (fun kq v14 w' => ∃ (Z4 : List (S51)) (L6 : Int), v14 = .int .i64 L6 ∧ Aside0 (umpirelaw11_CaptureOrders.l0 kq l0 a2 Z4 L6 a8n a8o a8p b46 a7G a7H a7I a7J a7K a7L a6e a7M a7N = some r) ∧ Aside0 (kq ≤ f1c) ∧ Aside0 (Kd.N k51 51 w' w.heap.size (fun k_ => k_ ≠ Z9 ∧ k_ ≠ a0R ∧ k_ ≠ a0e ∧ k_ ≠ a0y) f05 Z4) ∧ Aside0 (w'.heap[Z9]? = some (.cells #[.bool a8n, .bool a8o, .int .u32 a8p, .int .u32 b46] 46 (0, 0))) ∧ Aside0 (w'.heap[a0R]? = some (.cells #[.int .i64 a7G, .int .i64 a7H, .int .i64 a7I, .int .i64 a7J, .string a7K, .string a7L, .int .i64 a6e, .int .u32 a7M, .bool a7N] 25 (0, 0))) ∧ Aside0 (w'.heap[a0e]? = some (.cells #[.bool b26, .bool b47, .int .u32 b7O, .int .u32 c07] 46 (0, 0))) ∧ Aside0 (w'.heap[a0y]? = some (.cells #[.int .i64 b7P, .int .i64 b9R] 30 (0, 0))) ∧ Aside0 (Below w.heap.size w w'))
        case atStart => exact ⟨(d3e), (0), (by rfl), H', ⟨Nat.le_refl _⟩, ⟨by exact V4.out⟩, ⟨by exact U3.out⟩, ⟨by exact U4.out⟩, ⟨by exact a0i.out⟩, ⟨by exact a0m.out⟩, ⟨by exact HB.out⟩⟩
        case round =>
         clear H'
         obtain ⟨Z4, L6, rfl, HA, HK3, V4, U3, U4, a0i, a0m, HB⟩ := hrel
         cases gk with
         | zero => exact absurd HA.out (by simp [umpirelaw11_CaptureOrders.l0])
         | succ k3 =>
          have H := HA.out
          clear HA
          simp only [umpirelaw11_CaptureOrders.l0] at H
          by_cases c46 : L6 < (Z4.length : Int)
          ·rw [if_pos c46] at H
           have e3C := decide_eq_true c46
           clear c46
           have h0p := a4w H
           replace H := U9 H
           by_cases c48 : (((y9 Z4 L6).f3).length : Int) = 0
           ·rw [if_pos c48] at H
            exact absurd H (by simp)
           ·rw [if_neg c48] at H
            have h0q := beq_eq_false_iff_ne.mpr c48
            have h0s := bne_iff_ne.mpr c48
            have h0u : ¬ (((y9 Z4 L6).f3) = []) := fun h_ => c48 (by rw [h_]; rfl)
            obtain ⟨a9F, d3m⟩ := is_ ((Z4.set (L6 : Int).toNat (⟨a2, (y9 Z4 L6).f1, (y9 Z4 L6).f2, (y9 Z4 L6).f3⟩ : S51)) : List (S51))
            rw [Option.bind_some, ← d3m] at H
            have f1e := a_ d3m
            clear d3m
            obtain ⟨a9G, d3n⟩ := is_ ((a9F.set (L6 : Int).toNat (⟨(y9 a9F L6).f0, a2, (y9 a9F L6).f2, (y9 a9F L6).f3⟩ : S51)) : List (S51))
            rw [Option.bind_some, ← d3n] at H
            have f1f := a_ d3n
            clear d3n
            obtain ⟨f1g, d3o⟩ := is_ ((a9G.set (L6 : Int).toNat (⟨(y9 a9G L6).f0, (y9 a9G L6).f1, a2, (y9 a9G L6).f3⟩ : S51)) : List (S51))
            rw [← d3o] at H
            have f1h := a_ d3o
            clear d3o
            have H' := a_ H
            clear H
            obtain ⟨h4E, b6s, g3a⟩ := Kd.a3H V4.out
            subst g3a
            have d8r : 0 ≤ (L6 : Int) := Y9
            have d8s : L6 < (Z4.length : Int) := Y9
            obtain ⟨h0v, g3b, g3c, g3d, d8t, d8u, d8v, c8S, c8T, c8U⟩ := a7Z (Kd.V5 V4.out).2.2 L6 d8r d8s
            cases g3d
            obtain ⟨h0w, e5C, e5D, d3p⟩ := Kd.d3q V4.out z51 L6 d8r d8s
            obtain ⟨f9n, f9o, rfl, c1e, c1f⟩ := a4E e5D
            have b6Y := d3p 3 _ rfl
            rw [a0f _ _ 3 (by omega)] at b6Y
            replace b6Y := Option.some.inj (b6Y.symm.trans c8S)
            injection b6Y with c4g d3r c4h
            rw [c4g] at c1f
            rw [c4h] at c1e
            have b1Z := a_ (show Kd.V (Kd.int .u8) 5 _ w.heap.size _ _ ((y9 Z4 L6).f3) from Kd.d3s c1e c1f)
            clear c4g d3r c4h c1f c1e
            clear d3p e5C
            have f9p := a_ c8U
            have f9q := a_ c8T
            clear c8U c8T
            replace d8r := eq_true d8r
            replace d8s := eq_true d8s
            have p49 : 0 ≤ (L6 : Int) := Y9
            have q49 : (L6 : Int) < ((Z4.length : Int) : Int) := Y9
            obtain ⟨a3A, f1i, e5E, f1j, g3f, h4F, f1k⟩ := Kd.c6D V4.out (by omega)
            (cases e5E)
            have e5F := a_ f1j
            have h4G := a_ f1k
            clear f1j g3f f1k
            (simp only [add_plain] at d8t)
            (simp only [add_plain] at d8u)
            (simp only [add_plain] at d8v)
            (simp only [add_plain] at c8S)
            obtain ⟨h4H, f1l, f1m, c4i, c4j⟩ := Kd.a8E V4.out z51 (L6 : Int) p49 q49
            obtain ⟨e5G, e5H, rfl, g3g, g3h⟩ := a4E f1m
            have g3i : wr.cell? ⟨a3A, (L6 : Int).toNat * 4, none⟩ = some (.int .u32 ((y9 Z4 L6).f0)) := c4i 0 _ rfl
            have g3j : wr.cell? ⟨a3A, (L6 : Int).toNat * 4 + 1, none⟩ = some (.int .u32 ((y9 Z4 L6).f1)) := c4i 1 _ rfl
            have g3k : wr.cell? ⟨a3A, (L6 : Int).toNat * 4 + 2, none⟩ = some (.int .u32 ((y9 Z4 L6).f2)) := c4i 2 _ rfl
            have g3l : wr.cell? ⟨a3A, (L6 : Int).toNat * 4 + 3, none⟩ = some (.slice e5G ((y9 Z4 L6).f3).length e5H) := c4i 3 _ rfl
            have g3m : wr.frozen? ⟨a3A, (L6 : Int).toNat * 4, none⟩ = false := c4j 0
            have g3n : wr.frozen? ⟨a3A, (L6 : Int).toNat * 4 + 1, none⟩ = false := c4j 1
            have g3o : wr.frozen? ⟨a3A, (L6 : Int).toNat * 4 + 2, none⟩ = false := c4j 2
            have g3p : wr.frozen? ⟨a3A, (L6 : Int).toNat * 4 + 3, none⟩ = false := c4j 3
            clear f1l c4i c4j f1m
            replace p49 := eq_true p49
            replace q49 := eq_true q49
            have f1n := a_ (show Kd.N k51 51 wr w.heap.size (fun k_ => k_ ≠ Z9 ∧ k_ ≠ a0R ∧ k_ ≠ a0e ∧ k_ ≠ a0y) (.slice (some ⟨a3A, 0, none⟩) Z4.length b6s) Z4 from V4.out)
            obtain ⟨h4I, e3D, f1o, d3t, e3E⟩ := Kd.a8E f1n.out z51 (L6 : Int) (Y9) (by have h_ : (L6 : Int) < ((Z4.length : Int) : Int) := Y9; (exact h_))
            obtain ⟨g3q, g3r, rfl, e5I, e5J⟩ := a4E f1o
            have e5K := Kd.c4k f1n.out (L6 : Int) (Y9) (by have h_ : (L6 : Int) < ((Z4.length : Int) : Int) := Y9; (exact h_)) (seg := [.int .u32 a2]) (j := 0) e3D d3t (show 1 ≤ 4 from by decide) (x' := (⟨a2, (y9 Z4 L6).f1, (y9 Z4 L6).f2, (y9 Z4 L6).f3⟩ : S51)) (b6Z _ _ (⟨a2, (y9 Z4 L6).f1, (y9 Z4 L6).f2, (y9 Z4 L6).f3⟩ : S51) e5I e5J) (fun _ hk => hk)
            have e5L := d3t 0 _ rfl
            (try simp only [show (k51).sz = 4 from rfl, Nat.mul_one, Nat.add_zero] at e5L)
            have e5M := e3E 0
            (try simp only [show (k51).sz = 4 from rfl, Nat.mul_one, Nat.add_zero] at e5M)
            clear e3D d3t e3E f1o
            go_wp2_with (first | ((with_reducible refine a5b (t := 23) (p := 76) rfl ?_); refine a3V (t := 23) (p := 76) (v := ?g3s) (w1 := (wr.setCell ⟨a3A, (L6 : Int).toNat * 4, none⟩ (.int .u32 a2))) ?hg ?ho ?hn ?hr ?_; (case ho => rfl); (case hg => rfl); (case hn => rfl); (case hr => (go_simp; done)); intro w54 hw; have hg : wr.grownBy w54 (some a3A) := (by rw [hw]; exact e5K.2); have hp_ : Kd.N k51 51 w54 w.heap.size (fun k_ => k_ ≠ Z9 ∧ k_ ≠ a0R ∧ k_ ≠ a0e ∧ k_ ≠ a0y) (.slice (some ⟨a3A, 0, none⟩) Z4.length b6s) a9F := (by rw [hw, f1e.out]; exact e5K.1); clear e5K; replace U3 := a_ (F9 U3.out hg (Kd.a7k V4.out U3.out (by decide))); replace U4 := a_ (F9 U4.out hg (Kd.a7k V4.out U4.out (by decide))); replace a0i := a_ (F9 a0i.out hg (Kd.a7k V4.out a0i.out (by decide))); replace a0m := a_ (F9 a0m.out hg (Kd.a7k V4.out a0m.out (by decide))); replace V4 := a_ hp_; replace b1Z := a_ (Kd.a8F (v := (.slice (some ⟨a3A, 0, none⟩) Z4.length b6s)) (v1 := (.slice (some ⟨a3A, 0, none⟩) Z4.length b6s)) (ok := (fun k_ => k_ ≠ Z9 ∧ k_ ≠ a0R ∧ k_ ≠ a0e ∧ k_ ≠ a0y)) b1Z.out hg (.inl rfl)); replace HB := a_ (by rw [hw]; exact o8 (HB.out) e5F.out : Below w.heap.size w w54); clear hg hw hp_; have p50 : 0 ≤ (L6 : Int) := Y9; have q50 : (L6 : Int) < ((Z4.length : Int) : Int) := Y9; obtain ⟨h4J, f1p, f1q, c4m, c4n⟩ := Kd.a8E V4.out z51 (L6 : Int) p50 q50; obtain ⟨e5N, e5O, rfl, g3u, g3v⟩ := a4E f1q; have g3w : w54.cell? ⟨a3A, (L6 : Int).toNat * 4, none⟩ = some (.int .u32 ((y9 a9F L6).f0)) := c4m 0 _ rfl; have g3x : w54.cell? ⟨a3A, (L6 : Int).toNat * 4 + 1, none⟩ = some (.int .u32 ((y9 a9F L6).f1)) := c4m 1 _ rfl; have g3y : w54.cell? ⟨a3A, (L6 : Int).toNat * 4 + 2, none⟩ = some (.int .u32 ((y9 a9F L6).f2)) := c4m 2 _ rfl; have g3z : w54.cell? ⟨a3A, (L6 : Int).toNat * 4 + 3, none⟩ = some (.slice e5N ((y9 a9F L6).f3).length e5O) := c4m 3 _ rfl; have g3A : w54.frozen? ⟨a3A, (L6 : Int).toNat * 4, none⟩ = false := c4n 0; have g3B : w54.frozen? ⟨a3A, (L6 : Int).toNat * 4 + 1, none⟩ = false := c4n 1; have g3C : w54.frozen? ⟨a3A, (L6 : Int).toNat * 4 + 2, none⟩ = false := c4n 2; have g3D : w54.frozen? ⟨a3A, (L6 : Int).toNat * 4 + 3, none⟩ = false := c4n 3; clear f1p c4m c4n f1q; replace p50 := eq_true p50; replace q50 := eq_true q50; have f1r := a_ (show Kd.N k51 51 w54 w.heap.size (fun k_ => k_ ≠ Z9 ∧ k_ ≠ a0R ∧ k_ ≠ a0e ∧ k_ ≠ a0y) (.slice (some ⟨a3A, 0, none⟩) Z4.length b6s) a9F from V4.out); obtain ⟨h4K, e3F, f1s, d3u, e3G⟩ := Kd.a8E f1r.out z51 (L6 : Int) (Y9) (by have h_ : (L6 : Int) < ((Z4.length : Int) : Int) := Y9; (exact h_)); obtain ⟨g3E, g3F, rfl, e5P, e5Q⟩ := a4E f1s; have e5R := Kd.c4k f1r.out (L6 : Int) (Y9) (by have h_ : (L6 : Int) < ((Z4.length : Int) : Int) := Y9; (exact h_)) (seg := [.int .u32 a2]) (j := 1) e3F d3u (show 2 ≤ 4 from by decide) (x' := (⟨(y9 a9F L6).f0, a2, (y9 a9F L6).f2, (y9 a9F L6).f3⟩ : S51)) (b6Z _ _ (⟨(y9 a9F L6).f0, a2, (y9 a9F L6).f2, (y9 a9F L6).f3⟩ : S51) e5P e5Q) (fun _ hk => hk); have e5S := d3u 1 _ rfl; (try simp only [show (k51).sz = 4 from rfl, Nat.mul_one, Nat.add_zero] at e5S); have e5T := e3G 1; (try simp only [show (k51).sz = 4 from rfl, Nat.mul_one, Nat.add_zero] at e5T); clear e3F d3u e3G f1s) | ((with_reducible refine a5b (t := 23) (p := 81) rfl ?_); refine a3V (t := 23) (p := 81) (v := ?g3G) (w1 := (w54.setCell ⟨a3A, (L6 : Int).toNat * 4 + 1, none⟩ (.int .u32 a2))) ?hg ?ho ?hn ?hr ?_; (case ho => rfl); (case hg => rfl); (case hn => rfl); (case hr => (go_simp; done)); intro w56 hw; have hg : w54.grownBy w56 (some a3A) := (by rw [hw]; exact e5R.2); have hp_ : Kd.N k51 51 w56 w.heap.size (fun k_ => k_ ≠ Z9 ∧ k_ ≠ a0R ∧ k_ ≠ a0e ∧ k_ ≠ a0y) (.slice (some ⟨a3A, 0, none⟩) Z4.length b6s) a9G := (by rw [hw, f1f.out]; exact e5R.1); clear e5R; replace U3 := a_ (F9 U3.out hg (Kd.a7k V4.out U3.out (by decide))); replace U4 := a_ (F9 U4.out hg (Kd.a7k V4.out U4.out (by decide))); replace a0i := a_ (F9 a0i.out hg (Kd.a7k V4.out a0i.out (by decide))); replace a0m := a_ (F9 a0m.out hg (Kd.a7k V4.out a0m.out (by decide))); replace V4 := a_ hp_; replace b1Z := a_ (Kd.a8F (v := (.slice (some ⟨a3A, 0, none⟩) Z4.length b6s)) (v1 := (.slice (some ⟨a3A, 0, none⟩) Z4.length b6s)) (ok := (fun k_ => k_ ≠ Z9 ∧ k_ ≠ a0R ∧ k_ ≠ a0e ∧ k_ ≠ a0y)) b1Z.out hg (.inl rfl)); replace HB := a_ (by rw [hw]; exact o8 (HB.out) e5F.out : Below w.heap.size w w56); clear hg hw hp_; have p51 : 0 ≤ (L6 : Int) := Y9; have q51 : (L6 : Int) < ((Z4.length : Int) : Int) := Y9; obtain ⟨h4L, f1t, f1u, c4o, c4p⟩ := Kd.a8E V4.out z51 (L6 : Int) p51 q51; obtain ⟨e5U, e5V, rfl, g3I, g3J⟩ := a4E f1u; have g3K : w56.cell? ⟨a3A, (L6 : Int).toNat * 4, none⟩ = some (.int .u32 ((y9 a9G L6).f0)) := c4o 0 _ rfl; have g3L : w56.cell? ⟨a3A, (L6 : Int).toNat * 4 + 1, none⟩ = some (.int .u32 ((y9 a9G L6).f1)) := c4o 1 _ rfl; have g3M : w56.cell? ⟨a3A, (L6 : Int).toNat * 4 + 2, none⟩ = some (.int .u32 ((y9 a9G L6).f2)) := c4o 2 _ rfl; have g3N : w56.cell? ⟨a3A, (L6 : Int).toNat * 4 + 3, none⟩ = some (.slice e5U ((y9 a9G L6).f3).length e5V) := c4o 3 _ rfl; have g3O : w56.frozen? ⟨a3A, (L6 : Int).toNat * 4, none⟩ = false := c4p 0; have g3P : w56.frozen? ⟨a3A, (L6 : Int).toNat * 4 + 1, none⟩ = false := c4p 1; have g3Q : w56.frozen? ⟨a3A, (L6 : Int).toNat * 4 + 2, none⟩ = false := c4p 2; have g3R : w56.frozen? ⟨a3A, (L6 : Int).toNat * 4 + 3, none⟩ = false := c4p 3; clear f1t c4o c4p f1u; replace p51 := eq_true p51; replace q51 := eq_true q51; have f1v := a_ (show Kd.N k51 51 w56 w.heap.size (fun k_ => k_ ≠ Z9 ∧ k_ ≠ a0R ∧ k_ ≠ a0e ∧ k_ ≠ a0y) (.slice (some ⟨a3A, 0, none⟩) Z4.length b6s) a9G from V4.out); obtain ⟨h4M, e3H, f1w, d3v, e3I⟩ := Kd.a8E f1v.out z51 (L6 : Int) (Y9) (by have h_ : (L6 : Int) < ((Z4.length : Int) : Int) := Y9; (exact h_)); obtain ⟨g3S, g3T, rfl, e5W, e5X⟩ := a4E f1w; have e5Y := Kd.c4k f1v.out (L6 : Int) (Y9) (by have h_ : (L6 : Int) < ((Z4.length : Int) : Int) := Y9; (exact h_)) (seg := [.int .u32 a2]) (j := 2) e3H d3v (show 3 ≤ 4 from by decide) (x' := (⟨(y9 a9G L6).f0, (y9 a9G L6).f1, a2, (y9 a9G L6).f3⟩ : S51)) (b6Z _ _ (⟨(y9 a9G L6).f0, (y9 a9G L6).f1, a2, (y9 a9G L6).f3⟩ : S51) e5W e5X) (fun _ hk => hk); have e5Z := d3v 2 _ rfl; (try simp only [show (k51).sz = 4 from rfl, Nat.mul_one, Nat.add_zero] at e5Z); have e6a := e3I 2; (try simp only [show (k51).sz = 4 from rfl, Nat.mul_one, Nat.add_zero] at e6a); clear e3H d3v e3I f1w) | ((with_reducible refine a5b (t := 23) (p := 86) rfl ?_); refine a3V (t := 23) (p := 86) (v := ?g3U) (w1 := (w56.setCell ⟨a3A, (L6 : Int).toNat * 4 + 2, none⟩ (.int .u32 a2))) ?hg ?ho ?hn ?hr ?_; (case ho => rfl); (case hg => rfl); (case hn => rfl); (case hr => (go_simp; done)); intro w58 hw; have hg : w56.grownBy w58 (some a3A) := (by rw [hw]; exact e5Y.2); have hp_ : Kd.N k51 51 w58 w.heap.size (fun k_ => k_ ≠ Z9 ∧ k_ ≠ a0R ∧ k_ ≠ a0e ∧ k_ ≠ a0y) (.slice (some ⟨a3A, 0, none⟩) Z4.length b6s) f1g := (by rw [hw, f1h.out]; exact e5Y.1); clear e5Y; replace U3 := a_ (F9 U3.out hg (Kd.a7k V4.out U3.out (by decide))); replace U4 := a_ (F9 U4.out hg (Kd.a7k V4.out U4.out (by decide))); replace a0i := a_ (F9 a0i.out hg (Kd.a7k V4.out a0i.out (by decide))); replace a0m := a_ (F9 a0m.out hg (Kd.a7k V4.out a0m.out (by decide))); replace V4 := a_ hp_; replace b1Z := a_ (Kd.a8F (v := (.slice (some ⟨a3A, 0, none⟩) Z4.length b6s)) (v1 := (.slice (some ⟨a3A, 0, none⟩) Z4.length b6s)) (ok := (fun k_ => k_ ≠ Z9 ∧ k_ ≠ a0R ∧ k_ ≠ a0e ∧ k_ ≠ a0y)) b1Z.out hg (.inl rfl)); replace HB := a_ (by rw [hw]; exact o8 (HB.out) e5F.out : Below w.heap.size w w58); clear hg hw hp_))
            go_roundg k3
            case measure => have := HJ4.out; have := d1L.out; have := HK3.out; omega
            case rel => exact ⟨(f1g), (wrap64 (L6 + 1)), (by rfl), H', ⟨by have := HJ4.out; have := d1L.out; have := HK3.out; omega⟩, ⟨by exact V4.out⟩, ⟨by exact U3.out⟩, ⟨by exact U4.out⟩, ⟨by exact a0i.out⟩, ⟨by exact a0m.out⟩, ⟨by exact HB.out⟩⟩
          ·rw [if_neg c46] at H
           have e3C := decide_eq_false c46
           clear c46
           replace H := Option.bind_eq_some_iff.mp H
           obtain ⟨⟨d3w, g3V⟩, f1x, H⟩ := H
           try dsimp only at H
           have A59 := a_ f1x
           clear f1x
           replace H := Option.bind_eq_some_iff.mp H
           obtain ⟨⟨e6b, b6t, b9S⟩, f1y, H⟩ := H
           try dsimp only at H
           have A60 := a_ f1y
           clear f1y
           have e6c := a_ H
           clear H
           obtain ⟨b3G, a6u, g3W⟩ := Kd.a3H V4.out
           subst g3W
           have e3J := a9T.out
           have e3K := a7g.out
           have h0x := a3N.out
           have h0y := a9U.out
           have e3L := a5n.out
           have e3M := a7i.out
           obtain ⟨c1g, c1h, c1i, c1j, c1k, c1l, c1m, c1o⟩ := blk4 U3.out
           go_upto_region 20 with (first | (refine gl_ (some 91) Tryd.func19 #[.agg #[.bool a8n, .bool a8o, .int .u32 a8p, .int .u32 204], .slice b3G Z4.length a6u] ?_; (with_reducible refine (umpireref09_Put.calls k3 a8n a8o a8p 204 _ _ Z4 d3w g3V _ ?Q5 ?Q7 A59.out).mono ?_); (case Q5 => refine (Kd.V5 (e := 51) (base := w.heap.size) (ok := fun k_ => (k_ ≠ Z9 ∧ (k_ ≠ a0R ∧ (k_ ≠ a0e ∧ k_ ≠ a0y)))) (n := Z4.length) (c := a6u) ?_).2.2; exact (by exact (Kd.N8 (Kd.a0j (p := ⟨Z9, 3, none⟩) (Kd.N8 V4.out (fun k_ hk => (⟨hk, hk.1⟩ : _ ∧ k_ ≠ Z9))) (fun _ hk => hk.2) (.int .u32 204)) (fun _ h_ => h_.1)))); (case Q7 => exact (Kd.V5 V4.out).2.1); rintro e w67 ⟨h4O, rfl, ho0, hb⟩; refine ⟨_, rfl, ?_⟩; have b5V := a_ (Kd.X4 ho0 (y5 (by repeat (with_reducible first | exact HB.out | refine o8 ?_ c4a.out)))); replace V4 := a_ (Kd.a07 (by exact (Kd.N8 (Kd.a0j (p := ⟨Z9, 3, none⟩) (Kd.N8 V4.out (fun k_ hk => (⟨hk, hk.1⟩ : _ ∧ k_ ≠ Z9))) (fun _ hk => hk.2) (.int .u32 204)) (fun _ h_ => h_.1))) (Kd.a0n ho0) hb); replace U3 := a_ (J3 (g := Z9) (o := .cells #[.bool a8n, .bool a8o, .int .u32 a8p, .int .u32 204] 46 (0, 0)) (by refine l9 (cs := #[.bool a8n, .bool a8o, .int .u32 a8p, .int .u32 b46]) ?_ 3 _ rfl; exact U3.out) hb); replace U4 := a_ (J3 (g := a0R) (o := .cells #[.int .i64 a7G, .int .i64 a7H, .int .i64 a7I, .int .i64 a7J, .string a7K, .string a7L, .int .i64 a6e, .int .u32 a7M, .bool a7N] 25 (0, 0)) (by refine o9 ?_ a7g.out _; exact U4.out) hb); replace a0i := a_ (J3 (g := a0e) (o := .cells #[.bool b26, .bool b47, .int .u32 b7O, .int .u32 c07] 46 (0, 0)) (by refine o9 ?_ a9U.out _; exact a0i.out) hb); replace a0m := a_ (J3 (g := a0y) (o := .cells #[.int .i64 b7P, .int .i64 b9R] 30 (0, 0)) (by refine o9 ?_ a7i.out _; exact a0m.out) hb); replace HB := a_ (G9 (by repeat (with_reducible first | exact HB.out | refine o8 ?_ c4a.out)) hb); (try clear hb); (try clear ho0); have h0A := a3f.out; have h0C := b1Y.out; have h0D := a4D.out; have h0E := a8x.out; obtain ⟨d8w, d8x, d8y, d8z, d8A, d8B, d8C, d8D, d8E, d8F, d8G, d8H, d8I, d8J, d8K, d8L, d8M, d8N⟩ := d3g U4.out; obtain ⟨e6d, e6e, g3X⟩ := Kd.J4 b5V.out; subst g3X) | (refine gl_ (some 97) Tryd.func10 #[.slice e6d d3w.length e6e, .int .i64 1, .agg #[.int .i64 a7G, .int .i64 a7H, .int .i64 a7I, .int .i64 a7J, .string a7K, .string a7L, .int .i64 a6e, .int .u32 a7M, .bool a7N]] ?_; (with_reducible refine (capture_Read.calls k3 _ _ d3w 1 a7G a7H a7I a7J a7K a7L a6e a7M a7N e6b b6t b9S _ (Kd.D6 a4Z.out HB.out) ((Kd.G5 b5V.out).2.2) ((Kd.G5 b5V.out).2.1) A60.out).mono ?_); rintro e w72 ⟨h4P, rfl, ho0, hb⟩; refine ⟨_, rfl, ?_⟩; have c4q := a_ (Kd.a6b (Kd.N8 (ok' := fun k_ => some k_ ≠ (.slice b3G Z4.length a6u : Value).ownBlock ∧ some k_ ≠ (.slice e6d d3w.length e6e : Value).ownBlock ∧ k_ ≠ Z9 ∧ k_ ≠ a0R ∧ k_ ≠ a0e ∧ k_ ≠ a0y) (Kd.S_N (Kd.a0P ho0)) (fun k_ hk_ => ⟨(Kd.fresh' (Kd.b2x V4.out) k_ hk_.2.1), (Kd.fresh' (Kd.a0h b5V.out) k_ hk_.2.1), (Kd.a1z U3.out k_ hk_.2.1), (Kd.a1z U4.out k_ hk_.2.1), (Kd.a1z a0i.out k_ hk_.2.1), (Kd.a1z a0m.out k_ hk_.2.1)⟩)) (y5 HB.out)); replace V4 := a_ (Kd.a07 V4.out (by (exact Kd.a14 (Kd.S_N (Kd.a0P ho0)))) hb); replace b5V := rb_ b5V hb; replace U3 := U5 U3 hb; replace U4 := U5 U4 hb; replace a0i := U5 a0i hb; replace a0m := U5 a0m hb; replace HB := W9 HB hb; (try clear hb); (try clear ho0)) | ((with_reducible refine P9 (N := 18) rfl ?_); (try (refine U8 (by rfl) ?_; dsimp only)); refine be_ 18 #[.int .i64 0, .int .i64 0] 30 ?_; intro a1X hg w73 hbox hb; have a2Y := a_ hbox; have c8X := lb_ HB hg; obtain ⟨a6j, a9V⟩ := nn_ U3 hg; obtain ⟨a5o, a9W⟩ := nn_ U4 hg; obtain ⟨a7l, b48⟩ := nn_ a0i hg; obtain ⟨a7m, b49⟩ := nn_ a0m hg; replace V4 := Ne_ V4 hg hb; replace b5V := rb_ b5V hb; replace c4q := Ne_ c4q hg hb; replace U3 := U5 U3 hb; replace U4 := U5 U4 hb; replace a0i := U5 a0i hb; replace a0m := U5 a0m hb; replace HB := W9 HB hb; clear hb hbox hg; have h0F := a9V.out; have h0G := a6j.out; have h0H := a9W.out; have h0I := a5o.out; have h0J := b48.out; have h0K := a7l.out; have h0L := b49.out; have h0M := a7m.out; obtain ⟨d8O, d8P, d8Q, d8R⟩ := a3n a2Y.out))
           go_cut [108] (fun g3Y wc => ∃ (kq : Nat) (b60 : Bool), g3Y = .bool b60 ∧ Aside0 (umpirelaw11_CaptureOrders.j3 kq l0 Z4 b60 a8n a8o a8p 204 a7G a7H a7I a7J a7K a7L a6e a7M a7N = some r) ∧ Aside0 (kq ≤ k3) ∧ Aside0 (Kd.N k51 51 wc w.heap.size (fun k_ => k_ ≠ Z9 ∧ k_ ≠ a0R ∧ k_ ≠ a0e ∧ k_ ≠ a0y ∧ k_ ≠ a1X) (.slice b3G Z4.length a6u) Z4) ∧ Aside0 (wc.heap[Z9]? = some (.cells #[.bool a8n, .bool a8o, .int .u32 a8p, .int .u32 204] 46 (0, 0))) ∧ Aside0 (wc.heap[a0R]? = some (.cells #[.int .i64 a7G, .int .i64 a7H, .int .i64 a7I, .int .i64 a7J, .string a7K, .string a7L, .int .i64 a6e, .int .u32 a7M, .bool a7N] 25 (0, 0))) ∧ Aside0 (wc.heap[a0e]? = some (.cells #[.bool b26, .bool b47, .int .u32 b7O, .int .u32 c07] 46 (0, 0))) ∧ Aside0 (wc.heap[a0y]? = some (.cells #[.int .i64 b7P, .int .i64 b9R] 30 (0, 0))) ∧ Aside0 (wc.heap[a1X]? = some (.cells #[.int .i64 b6t, .int .i64 b9S] 30 (0, 0))) ∧ Aside0 (Below w.heap.size w wc))
           case first =>
            have H := e6c.out
            clear e6c
            by_cases c79 : (!(b6t == 0) || (!(b9S == 0))) = true
            ·rw [if_pos c79] at H
             have f1z : (!(b6t == 0) || (!(b9S == 0))) = true := c79
             clear c79
             have H' := a_ H
             clear H
             have h0N := a9V.out
             have h0O := a6j.out
             have h0P := a9W.out
             have h0Q := a5o.out
             have h0R := b48.out
             have h0S := a7l.out
             have h0T := b49.out
             have h0U := a7m.out
             obtain ⟨f9r, f9s, f9t, f9u⟩ := a3n a2Y.out
             go_wp2
             go_meet
             case rel => exact ⟨_, (true), (by rfl), H', ⟨by have := HJ4.out; have := d1L.out; have := HK3.out; (omega)⟩, ⟨by exact Kd.N8 (Kd.a0j (p := ⟨a1X, 1, none⟩) (Kd.a0j (p := ⟨a1X, 0, none⟩) (Kd.N8 V4.out (fun k_ hk => (⟨hk, hk.2⟩ : _ ∧ k_ ≠ a1X))) (fun _ hk => hk.2) (.int .i64 b6t)) (fun _ hk => hk.2) (.int .i64 b9S)) (fun _ hk => ⟨hk.1.1.1.1.1, ⟨hk.1.1.1.1.2.1, ⟨hk.1.1.1.1.2.2.1, ⟨hk.1.1.1.1.2.2.2, hk.1.2⟩⟩⟩⟩)⟩, ⟨by refine o9 ?_ a6j.out _; refine o9 ?_ a6j.out _; exact U3.out⟩, ⟨by refine o9 ?_ a5o.out _; refine o9 ?_ a5o.out _; exact U4.out⟩, ⟨by refine o9 ?_ a7l.out _; refine o9 ?_ a7l.out _; exact a0i.out⟩, ⟨by refine o9 ?_ a7m.out _; refine o9 ?_ a7m.out _; exact a0m.out⟩, ⟨by refine l9 (cs := #[.int .i64 b6t, .int .i64 0]) ?_ 1 _ rfl; refine l9 (cs := #[.int .i64 0, .int .i64 0]) ?_ 0 _ rfl; exact a2Y.out⟩, ⟨by repeat (with_reducible first | exact HB.out | refine o8 ?_ c8X.out)⟩⟩
            ·rw [if_neg c79] at H
             have f1z : (!(b6t == 0) || (!(b9S == 0))) = false := by simpa using c79
             clear c79
             replace H := Option.bind_eq_some_iff.mp H
             obtain ⟨d8f, f1A, H⟩ := H
             try dsimp only at H
             have A85 := a_ f1A
             clear f1A
             have H' := a_ H
             clear H
             have h0V := a9V.out
             have h0W := a6j.out
             have h0X := a9W.out
             have h0Y := a5o.out
             have h0Z := b48.out
             have h08 := a7l.out
             have h1e := b49.out
             have h1g := a7m.out
             obtain ⟨f9v, f9w, f9x, f9y⟩ := a3n a2Y.out
             obtain ⟨h4R, g3Z, g30⟩ := Kd.a3H c4q.out
             subst g30
             go_wp2_with (first | (go_at_call 12; (with_reducible refine (H8.calls k3 _ _ e6b _ _ l0 d8f _ ?Q5 ?Q7 ?a5U ?b7S A85.out).mono ?_); (case Q5 => refine (Kd.V5 (e := 42) (base := w.heap.size) (ok := fun k_ => ((some k_ ≠ (.slice b3G Z4.length a6u : Value).ownBlock ∧ (some k_ ≠ (.slice e6d d3w.length e6e : Value).ownBlock ∧ (k_ ≠ Z9 ∧ (k_ ≠ a0R ∧ (k_ ≠ a0e ∧ k_ ≠ a0y))))) ∧ k_ ≠ a1X)) (n := e6b.length) (c := g3Z) ?_).2.2; exact (by exact (Kd.N8 (Kd.a0j (p := ⟨a1X, 1, none⟩) (Kd.a0j (p := ⟨a1X, 0, none⟩) (Kd.N8 c4q.out (fun k_ hk => (⟨hk, hk.2⟩ : _ ∧ k_ ≠ a1X))) (fun _ hk => hk.2) (.int .i64 b6t)) (fun _ hk => hk.2) (.int .i64 b9S)) (fun _ h_ => h_.1)))); (case Q7 => exact (Kd.V5 c4q.out).2.1); (case a5U => exact Kd.D6 HR0.out (by repeat (with_reducible first | exact HB.out | refine o8 ?_ c8X.out))); (case b7S => exact HC0.out); rintro e w' ⟨rfl, ⟨nd, rfl⟩⟩))
             go_meet
             case rel => exact ⟨_, (!d8f), (by rfl), H', ⟨by have := HJ4.out; have := d1L.out; have := HK3.out; (omega)⟩, ⟨by (with_reducible repeat (apply Kd.b0t)); exact Kd.N8 (Kd.a0j (p := ⟨a1X, 1, none⟩) (Kd.a0j (p := ⟨a1X, 0, none⟩) (Kd.N8 V4.out (fun k_ hk => (⟨hk, hk.2⟩ : _ ∧ k_ ≠ a1X))) (fun _ hk => hk.2) (.int .i64 b6t)) (fun _ hk => hk.2) (.int .i64 b9S)) (fun _ hk => ⟨hk.1.1.1.1.1, ⟨hk.1.1.1.1.2.1, ⟨hk.1.1.1.1.2.2.1, ⟨hk.1.1.1.1.2.2.2, hk.1.2⟩⟩⟩⟩)⟩, ⟨by (with_reducible repeat (refine Q9 ?_ _)); refine o9 ?_ a6j.out _; refine o9 ?_ a6j.out _; exact U3.out⟩, ⟨by (with_reducible repeat (refine Q9 ?_ _)); refine o9 ?_ a5o.out _; refine o9 ?_ a5o.out _; exact U4.out⟩, ⟨by (with_reducible repeat (refine Q9 ?_ _)); refine o9 ?_ a7l.out _; refine o9 ?_ a7l.out _; exact a0i.out⟩, ⟨by (with_reducible repeat (refine Q9 ?_ _)); refine o9 ?_ a7m.out _; refine o9 ?_ a7m.out _; exact a0m.out⟩, ⟨by (with_reducible repeat (refine Q9 ?_ _)); refine l9 (cs := #[.int .i64 b6t, .int .i64 0]) ?_ 1 _ rfl; refine l9 (cs := #[.int .i64 0, .int .i64 0]) ?_ 0 _ rfl; exact a2Y.out⟩, ⟨by repeat (with_reducible first | exact HB.out | apply o7 | refine o8 ?_ c8X.out)⟩⟩
           case rest =>
            clear e6c
            try clear e3C
            try clear c1g
            try clear c1h
            try clear c1i
            try clear c1j
            try clear d8w
            try clear d8x
            try clear d8y
            try clear d8z
            try clear d8A
            try clear d8B
            try clear d8C
            try clear d8D
            try clear d8E
            try clear d8O
            try clear d8P
            try clear c1k
            try clear c1l
            try clear c1m
            try clear c1o
            try clear d8F
            try clear d8G
            try clear d8H
            try clear d8I
            try clear d8J
            try clear d8K
            try clear d8L
            try clear d8M
            try clear d8N
            try clear d8Q
            try clear d8R
            obtain ⟨kq, b60, rfl, HA, f1B, V4, U3, U4, a0i, a0m, a2Y, HB⟩ := hcut
            cases kq with
            | zero => exact absurd HA.out (by simp [umpirelaw11_CaptureOrders.j3])
            | succ f1C =>
             have H := HA.out
             clear HA
             simp only [umpirelaw11_CaptureOrders.j3] at H
             by_cases c92 : b60 = true
             ·subst c92
              rw [if_pos rfl] at H
              exact absurd H (by simp)
             ·cases nt_ c92
              rw [if_neg a5a] at H
              obtain ⟨d28, d3x⟩ := is_ ([] : List (S42))
              rw [Option.bind_some, ← d3x] at H
              have f1D := a_ d3x
              clear d3x
              have c93 := a0o H
              replace H := U9 H
              have f1E := a_ c93
              clear c93
              obtain ⟨g31, d3y⟩ := is_ ((d28 ++ l0) : List (S42))
              rw [← d3y] at H
              have f1F := a_ d3y
              clear d3y
              have H' := a_ H
              clear H
              go_wp2_with (first | ((with_reducible refine P9 (N := 109) rfl ?_); (try (refine U8 (by rfl) ?_; dsimp only)); refine Kd.c4r k42 _ 42 ?hg (N' := 109) ?hd (xs := ([] : List (S42))) (inner := []) (ok := (fun k_ => some k_ ≠ (.slice b3G Z4.length a6u : Value).ownBlock ∧ k_ ≠ Z9 ∧ k_ ≠ a0R ∧ k_ ≠ a0e ∧ k_ ≠ a0y ∧ k_ ≠ a1X)) (okp := (fun k_ => some k_ ≠ (.slice b3G Z4.length a6u : Value).ownBlock ∧ k_ ≠ Z9 ∧ k_ ≠ a0R ∧ k_ ≠ a0e ∧ k_ ≠ a0y ∧ k_ ≠ a1X)) ?hr ?hp (fun _ hk => hk) ((show ∀ k_, wc.heap.size ≤ k_ → (fun k_ => some k_ ≠ (.slice b3G Z4.length a6u : Value).ownBlock ∧ k_ ≠ Z9 ∧ k_ ≠ a0R ∧ k_ ≠ a0e ∧ k_ ≠ a0y ∧ k_ ≠ a1X) k_ from fun k_ hk => ⟨Kd.fresh' (Kd.b2x V4.out) k_ hk, Kd.a1z U3.out k_ hk, Kd.a1z U4.out k_ hk, Kd.a1z a0i.out k_ hk, Kd.a1z a0m.out k_ hk, Kd.a1z a2Y.out k_ hk⟩) _ (Nat.le_refl _)) (Below.refl _ _) (Nat.le_refl _) (by simp) ?_; (case hd => rfl); (case hg => rfl); (case hr => (go_simp; done)); (case hp => exact (N9.none _ _)); intro g32 w94 d8S hb hg_ a1q; clear hg_ a1q; (rw [← f1D.out] at d8S); have b5W := a_ (Kd.a6b d8S (y5 HB.out)); replace V4 := a_ (Kd.a07 V4.out (Kd.a14 d8S) hb); replace U3 := U5 U3 hb; replace U4 := U5 U4 hb; replace a0i := U5 a0i hb; replace a0m := U5 a0m hb; replace a2Y := U5 a2Y hb; replace HB := W9 HB hb; clear hb d8S) | ((with_reducible refine G7 (b := .append) (xs := #[.tmp 109, .tmp 110]) rfl ?_); (try (refine U8 (by rfl) ?_; dsimp only)); at_builtin; refine Kd.b9T k42 (w0 := w) w.heap.size rfl (.tmp 109) (.tmp 110) 27 42 (.agg #[(.int .i64 0), (.int .i64 0), (.slice none 0 0)]) 40 rfl Tryd.underlying27 info42 rfl (by decide) (by omega) g32 d28 l0 _ _ _ (fun k_ => some k_ ≠ (.slice b3G Z4.length a6u : Value).ownBlock ∧ k_ ≠ Z9 ∧ k_ ≠ a0R ∧ k_ ≠ a0e ∧ k_ ≠ a0y ∧ k_ ≠ a1X) (fun k_ => k_ < w.heap.size) rfl rfl ?aO ?aR (fun k_ hk => ⟨⟨(fun e_ => Nat.not_lt.2 (Kd.a14 V4.out k_ e_.symm) hk), (fun e_ => by have h_ := c4a.out; omega), (fun e_ => by have h_ := f00.out; omega), (fun e_ => by have h_ := d3h.out; omega), (fun e_ => by have h_ := d3i.out; omega), (fun e_ => by have h_ := c8X.out; omega)⟩, (fun e_ => Nat.not_lt.2 (Kd.a14 b5W.out k_ e_.symm) hk)⟩) ?aF ?aB ?aS ?aL ?_; (case aR => exact (Kd.b0u (Kd.C_F d3z HR0.out) HB.out)); (case aB => exact HB.out); (case aF => exact (fun k_ hk => ⟨Kd.fresh' (Kd.b2x V4.out) k_ hk, Kd.a1z U3.out k_ hk, Kd.a1z U4.out k_ hk, Kd.a1z a0i.out k_ hk, Kd.a1z a0m.out k_ hk, Kd.a1z a2Y.out k_ hk⟩)); (case aO => exact b5W.out); (case aS => exact (y5 HB.out)); (case aL => have := f1E.out; omega); intro b9U w96 ho hb hg hat; rw [← f1F.out] at ho; have f1G := a_ ho; replace V4 := a_ (Kd.b7T (ok := (fun k_ => k_ ≠ Z9 ∧ k_ ≠ a0R ∧ k_ ≠ a0e ∧ k_ ≠ a0y ∧ k_ ≠ a1X)) V4.out hg hat); replace U3 := a_ (F9 U3.out hg (Kd.a7k b5W.out U3.out (by decide))); replace U4 := a_ (F9 U4.out hg (Kd.a7k b5W.out U4.out (by decide))); replace a0i := a_ (F9 a0i.out hg (Kd.a7k b5W.out a0i.out (by decide))); replace a0m := a_ (F9 a0m.out hg (Kd.a7k b5W.out a0m.out (by decide))); replace a2Y := a_ (F9 a2Y.out hg (Kd.a7k b5W.out a2Y.out (by decide))); replace HB := a_ hb; clear b5W; clear ho hb hg hat))
              go_loopg [20] f1C (fun kq v20 w' => ∃ (a0z : List (S51)) (a3x : List (S42)) (V8 : Int), v20 = .int .i64 V8 ∧ Aside0 (umpirelaw11_CaptureOrders.l1 kq a0z a3x V8 a8n a8o a8p 204 a7G a7H a7I a7J a7K a7L a6e a7M a7N = some r) ∧ Aside0 (kq ≤ f1C) ∧ Aside0 (Kd.N k51 51 w' w.heap.size (fun k_ => some k_ ≠ (b9U : Value).ownBlock ∧ k_ ≠ Z9 ∧ k_ ≠ a0R ∧ k_ ≠ a0e ∧ k_ ≠ a0y ∧ k_ ≠ a1X) (.slice b3G Z4.length a6u) a0z) ∧ Aside0 (Kd.N k42 42 w' w.heap.size (fun k_ => some k_ ≠ ((.slice b3G Z4.length a6u) : Value).ownBlock ∧ k_ ≠ Z9 ∧ k_ ≠ a0R ∧ k_ ≠ a0e ∧ k_ ≠ a0y ∧ k_ ≠ a1X) b9U a3x) ∧ Aside0 (w'.heap[Z9]? = some (.cells #[.bool a8n, .bool a8o, .int .u32 a8p, .int .u32 204] 46 (0, 0))) ∧ Aside0 (w'.heap[a0R]? = some (.cells #[.int .i64 a7G, .int .i64 a7H, .int .i64 a7I, .int .i64 a7J, .string a7K, .string a7L, .int .i64 a6e, .int .u32 a7M, .bool a7N] 25 (0, 0))) ∧ Aside0 (w'.heap[a0e]? = some (.cells #[.bool b26, .bool b47, .int .u32 b7O, .int .u32 c07] 46 (0, 0))) ∧ Aside0 (w'.heap[a0y]? = some (.cells #[.int .i64 b7P, .int .i64 b9R] 30 (0, 0))) ∧ Aside0 (w'.heap[a1X]? = some (.cells #[.int .i64 b6t, .int .i64 b9S] 30 (0, 0))) ∧ Aside0 (Below w.heap.size w w'))
              case atStart => exact ⟨(Z4), (g31), (0), (by rfl), H', ⟨Nat.le_refl _⟩, ⟨by exact Kd.N8 V4.out (fun _ hk => ⟨hk.2, ⟨hk.1.1, ⟨hk.1.2.1, ⟨hk.1.2.2.1, ⟨hk.1.2.2.2.1, hk.1.2.2.2.2⟩⟩⟩⟩⟩)⟩, ⟨by exact f1G.out⟩, ⟨by exact U3.out⟩, ⟨by exact U4.out⟩, ⟨by exact a0i.out⟩, ⟨by exact a0m.out⟩, ⟨by exact a2Y.out⟩, ⟨by exact HB.out⟩⟩
              case round =>
               clear H'
               obtain ⟨a0z, a3x, V8, rfl, HA, HK5, V4, a3W, U3, U4, a0i, a0m, a2Y, HB⟩ := hrel
               have b5a := (Kd.V5 V4.out).1
               rw [b5a] at V4
               (try simp only [b5a])
               (try simp only [b5a] at a3W)
               cases gk with
               | zero => exact absurd HA.out (by simp [umpirelaw11_CaptureOrders.l1])
               | succ k5 =>
                have H := HA.out
                clear HA
                simp only [umpirelaw11_CaptureOrders.l1] at H
                by_cases c97 : V8 < (a0z.length : Int)
                ·rw [if_pos c97] at H
                 have f1H := decide_eq_true c97
                 clear c97
                 have h1m := a4w H
                 replace H := U9 H
                 have c99 := a0o H
                 replace H := U9 H
                 have h1o := eq_true c99
                 have h1p := decide_eq_true c99
                 clear c99
                 obtain ⟨b6u, d3A⟩ := is_ ((((y9 a0z V8).f3).drop 1) : List Int)
                 rw [← d3A] at H
                 have e3N := a_ d3A
                 clear d3A
                 obtain ⟨f1I, d3B⟩ := is_ ((a0z.set (V8 : Int).toNat (⟨(y9 a0z V8).f0, (y9 a0z V8).f1, (y9 a0z V8).f2, b6u⟩ : S51)) : List (S51))
                 rw [← d3B] at H
                 have f1J := a_ d3B
                 clear d3B
                 have g34 := a4w H
                 replace H := U9 H
                 obtain ⟨f1K, d3C⟩ := is_ ((a3x.set (V8 : Int).toNat (⟨a6e, (F7 a3x V8).f1, (F7 a3x V8).f2⟩ : S42)) : List (S42))
                 rw [← d3C] at H
                 have f1L := a_ d3C
                 clear d3C
                 have H' := a_ H
                 clear H
                 have d8T : 0 ≤ (V8 : Int) := Y9
                 have d8U : V8 < (a0z.length : Int) := Y9
                 obtain ⟨h1q, c1p, b7U, g35, d8V, d8W, d8X, c8Y, c8Z, c81⟩ := a7Z (Kd.V5 V4.out).2.2 V8 d8T d8U
                 cases g35
                 obtain ⟨h1s, e6f, e6g, d3D⟩ := Kd.d3q V4.out z51 V8 d8T d8U
                 obtain ⟨f9z, f9A, rfl, c1q, c1r⟩ := a4E e6g
                 have b61 := d3D 3 _ rfl
                 rw [a0f _ _ 3 (by omega)] at b61
                 replace b61 := Option.some.inj (b61.symm.trans c8Y)
                 injection b61 with c4g d3r c4h
                 rw [c4g] at c1r
                 rw [c4h] at c1q
                 have b3H := a_ (show Kd.V (Kd.int .u8) 5 _ w.heap.size _ _ ((y9 a0z V8).f3) from Kd.d3s c1q c1r)
                 clear c4g d3r c4h c1r c1q
                 clear d3D e6f
                 have f9B := a_ c81
                 have d8Y := a_ c8Z
                 clear c81 c8Z
                 replace d8T := eq_true d8T
                 replace d8U := eq_true d8U
                 have e6h : (1 : Int) ≤ ((((y9 a0z V8).f3).length : Int) : Int) := Y9
                 obtain ⟨h1u, d3E, _, d3F, _⟩ := info_parts info5
                 have b3I : ((y9 a0z V8).f3).length ≤ b7U := d8Y.out
                 have e3O : Kd.F (Kd.int .u8) _ _ c1p ((y9 a0z V8).f3).length ((y9 a0z V8).f3) := (Kd.d3G (base := w.heap.size) b3H.out).2.2
                 have d8Z := b7V (P := Tryd.prog) 22 5 .i64 Tryd.underlying22 d3E 1 d3F c1p ((y9 a0z V8).f3).length b7U 1 (by omega) e6h
                 have c4s := Kd.e3P (m := (1 : Int).toNat) (c := b7U) e3O (by omega) b3I
                 obtain ⟨d80, c82⟩ : ∃ A1, A1 = (if b7U = (1 : Int).toNat then c1p else (c1p : Option Addr).map (·.add ((1 : Int).toNat * 1))) := ⟨_, rfl⟩
                 obtain ⟨d81, c83⟩ : ∃ c1, c1 = b7U - (1 : Int).toNat := ⟨_, rfl⟩
                 have c4t : b6u.length = ((y9 a0z V8).f3).length - (1 : Int).toNat := (by rw [e3N.out, List.length_drop] <;> omega)
                 rw [show ((y9 a0z V8).f3).drop (1 : Int).toNat = b6u from e3N.out.symm] at c4s
                 replace c4s : Kd.F (Kd.int .u8) _ _ d80 b6u.length b6u := (by rw [c82]; exact c4s)
                 rw [← c4t, ← c82, ← c83] at d8Z
                 have b98 := a_ (show Kd.V (Kd.int .u8) 5 _ w.heap.size _ (.slice d80 b6u.length d81) b6u from Kd.d3s (by rw [c4t, c83]; exact Nat.sub_le_sub_right b3I _) c4s)
                 have h1w := a_ (show b6u.length ≤ d81 from by rw [c4t, c83]; exact Nat.sub_le_sub_right b3I _)
                 clear c4s e3O b3I d3E d3F c83
                 have h1y := a_ c4t
                 have h1A := a_ c82
                 clear c4t c82
                 replace e6h := eq_true e6h
                 have e6i : 0 ≤ (V8 : Int) := Y9
                 have e6j : (V8 : Int) < ((a0z.length : Int) : Int) := Y9
                 obtain ⟨a4x, h1B, f1M, e3Q, f1N, h1C, e3R⟩ := Kd.c6D V4.out (by omega)
                 (cases f1M)
                 have f1O := a_ e3Q
                 have h1D := a_ e3R
                 clear e3Q f1N e3R
                 (simp only [add_plain] at d8V)
                 (simp only [add_plain] at d8W)
                 (simp only [add_plain] at d8X)
                 (simp only [add_plain] at c8Y)
                 obtain ⟨h1E, e6k, e3S, b7W, b7X⟩ := Kd.a8E V4.out z51 (V8 : Int) e6i e6j
                 obtain ⟨d82, d83, rfl, f9C, f9D⟩ := a4E e3S
                 have f9E : wr.cell? ⟨a4x, (V8 : Int).toNat * 4, none⟩ = some (.int .u32 ((y9 a0z V8).f0)) := b7W 0 _ rfl
                 have f9F : wr.cell? ⟨a4x, (V8 : Int).toNat * 4 + 1, none⟩ = some (.int .u32 ((y9 a0z V8).f1)) := b7W 1 _ rfl
                 have f9G : wr.cell? ⟨a4x, (V8 : Int).toNat * 4 + 2, none⟩ = some (.int .u32 ((y9 a0z V8).f2)) := b7W 2 _ rfl
                 have f9H : wr.cell? ⟨a4x, (V8 : Int).toNat * 4 + 3, none⟩ = some (.slice d82 ((y9 a0z V8).f3).length d83) := b7W 3 _ rfl
                 have f9I : wr.frozen? ⟨a4x, (V8 : Int).toNat * 4, none⟩ = false := b7X 0
                 have f9J : wr.frozen? ⟨a4x, (V8 : Int).toNat * 4 + 1, none⟩ = false := b7X 1
                 have f9K : wr.frozen? ⟨a4x, (V8 : Int).toNat * 4 + 2, none⟩ = false := b7X 2
                 have f9L : wr.frozen? ⟨a4x, (V8 : Int).toNat * 4 + 3, none⟩ = false := b7X 3
                 clear e6k b7W b7X e3S
                 replace e6i := eq_true e6i
                 replace e6j := eq_true e6j
                 have e3T := a_ (show Kd.N k51 51 wr w.heap.size (fun k_ => some k_ ≠ (b9U : Value).ownBlock ∧ k_ ≠ Z9 ∧ k_ ≠ a0R ∧ k_ ≠ a0e ∧ k_ ≠ a0y ∧ k_ ≠ a1X) (.slice (some ⟨a4x, 0, none⟩) a0z.length a6u) a0z from V4.out)
                 obtain ⟨h1F, d3H, e3U, c6E, d3I⟩ := Kd.a8E e3T.out z51 (V8 : Int) (Y9) (by have h_ : (V8 : Int) < ((a0z.length : Int) : Int) := Y9; (exact h_))
                 obtain ⟨f9M, f9N, rfl, f9O, f9P⟩ := a4E e3U
                 have d3J := Kd.c4k e3T.out (V8 : Int) (Y9) (by have h_ : (V8 : Int) < ((a0z.length : Int) : Int) := Y9; (exact h_)) (seg := [.slice d80 b6u.length d81]) (j := 3) d3H c6E (show 4 ≤ 4 from by decide) (x' := (⟨(y9 a0z V8).f0, (y9 a0z V8).f1, (y9 a0z V8).f2, b6u⟩ : S51)) (b6Z _ _ (⟨(y9 a0z V8).f0, (y9 a0z V8).f1, (y9 a0z V8).f2, b6u⟩ : S51) (Kd.b7Y (Kd.a5N (ok' := (fun k_ => (fun k_ => some k_ ≠ (b9U : Value).ownBlock ∧ k_ ≠ Z9 ∧ k_ ≠ a0R ∧ k_ ≠ a0e ∧ k_ ≠ a0y ∧ k_ ≠ a1X) k_ ∧ k_ ≠ a4x)) (b98.out) (fun k_ hk => ⟨⟨hk.1.1, ⟨hk.1.2.1, ⟨hk.1.2.2.1, ⟨hk.1.2.2.2.1, ⟨hk.1.2.2.2.2.1, hk.1.2.2.2.2.2⟩⟩⟩⟩⟩, fun e_ => (hk.2) (by rw [e_]; rfl)⟩))).2.1 (Kd.V_F (Kd.a5N (ok' := (fun k_ => (fun k_ => some k_ ≠ (b9U : Value).ownBlock ∧ k_ ≠ Z9 ∧ k_ ≠ a0R ∧ k_ ≠ a0e ∧ k_ ≠ a0y ∧ k_ ≠ a1X) k_ ∧ k_ ≠ a4x)) (b98.out) (fun k_ hk => ⟨⟨hk.1.1, ⟨hk.1.2.1, ⟨hk.1.2.2.1, ⟨hk.1.2.2.2.1, ⟨hk.1.2.2.2.2.1, hk.1.2.2.2.2.2⟩⟩⟩⟩⟩, fun e_ => (hk.2) (by rw [e_]; rfl)⟩)))) (fun _ hk => hk)
                 have d84 := c6E 3 _ rfl
                 (try simp only [show (k51).sz = 4 from rfl, Nat.mul_one, Nat.add_zero] at d84)
                 have d85 := d3I 3
                 (try simp only [show (k51).sz = 4 from rfl, Nat.mul_one, Nat.add_zero] at d85)
                 clear d3H c6E d3I e3U
                 go_wp2_with (first | ((with_reducible refine a5b (t := 22) (p := 127) rfl ?_); refine a3V (t := 22) (p := 127) (v := ?f9Q) (w1 := (wr.setCell ⟨a4x, (V8 : Int).toNat * 4 + 3, none⟩ (.slice d80 b6u.length d81))) ?hg ?ho ?hn ?hr ?_; (case ho => rfl); (case hg => rfl); (case hn => rfl); (case hr => (go_simp; done)); intro b6v hw; have hg : wr.grownBy b6v (some a4x) := (by rw [hw]; exact d3J.2); have hp_ : Kd.N k51 51 b6v w.heap.size (fun k_ => some k_ ≠ (b9U : Value).ownBlock ∧ k_ ≠ Z9 ∧ k_ ≠ a0R ∧ k_ ≠ a0e ∧ k_ ≠ a0y ∧ k_ ≠ a1X) (.slice (some ⟨a4x, 0, none⟩) a0z.length a6u) f1I := (by rw [hw, f1J.out]; exact d3J.1); clear d3J; replace a3W := a_ (Kd.b7T (v := (.slice (some ⟨a4x, 0, none⟩) a0z.length a6u)) (v1 := (.slice (some ⟨a4x, 0, none⟩) a0z.length a6u)) (ok := (fun k_ => k_ ≠ Z9 ∧ k_ ≠ a0R ∧ k_ ≠ a0e ∧ k_ ≠ a0y ∧ k_ ≠ a1X)) (by exact Kd.N8 a3W.out (fun _ hk => ⟨⟨hk.2.1, ⟨hk.2.2.1, ⟨hk.2.2.2.1, ⟨hk.2.2.2.2.1, hk.2.2.2.2.2⟩⟩⟩⟩, hk.1⟩)) hg (.inl rfl)); replace U3 := a_ (F9 U3.out hg (Kd.a7k V4.out U3.out (by decide))); replace U4 := a_ (F9 U4.out hg (Kd.a7k V4.out U4.out (by decide))); replace a0i := a_ (F9 a0i.out hg (Kd.a7k V4.out a0i.out (by decide))); replace a0m := a_ (F9 a0m.out hg (Kd.a7k V4.out a0m.out (by decide))); replace a2Y := a_ (F9 a2Y.out hg (Kd.a7k V4.out a2Y.out (by decide))); replace V4 := a_ hp_; replace b3H := a_ (Kd.a8F (v := (.slice (some ⟨a4x, 0, none⟩) a0z.length a6u)) (v1 := (.slice (some ⟨a4x, 0, none⟩) a0z.length a6u)) (ok := (fun k_ => some k_ ≠ (b9U : Value).ownBlock ∧ k_ ≠ Z9 ∧ k_ ≠ a0R ∧ k_ ≠ a0e ∧ k_ ≠ a0y ∧ k_ ≠ a1X)) b3H.out hg (.inl rfl)); replace b98 := a_ (Kd.a8F (v := (.slice (some ⟨a4x, 0, none⟩) a0z.length a6u)) (v1 := (.slice (some ⟨a4x, 0, none⟩) a0z.length a6u)) (ok := (fun k_ => some k_ ≠ (b9U : Value).ownBlock ∧ k_ ≠ Z9 ∧ k_ ≠ a0R ∧ k_ ≠ a0e ∧ k_ ≠ a0y ∧ k_ ≠ a1X)) b98.out hg (.inl rfl)); replace HB := a_ (by rw [hw]; exact o8 (HB.out) f1O.out : Below w.heap.size w b6v); clear hg hw hp_; have g37 := a7g.out; have g38 := a9T.out; have g39 := a3f.out; have g4a := b1Y.out; have g4b := a4D.out; have g4c := a8x.out; have g4d := a5o.out; have g4e := a9W.out; obtain ⟨f1P, f1Q, f1R, f1S, f1T, f1U, f1V, f1W, f1X, f1Y, f1Z, f2a, f2b, f2c, f2d, f2e, f2f, f2g⟩ := d3g U4.out; have e6l : 0 ≤ (V8 : Int) := Y9; have e6m : (V8 : Int) < ((a3x.length : Int) : Int) := Y9; obtain ⟨a8h, b5X, f2h, e3V, f2i, h1G, e3W⟩ := Kd.c6D a3W.out (by omega); (cases f2h); have f2j := a_ e3V; have h1H := a_ e3W; clear e3V f2i e3W; obtain ⟨h1I, e6n, e3X, c1s, c1t⟩ := Kd.a8E a3W.out z42 (V8 : Int) e6l e6m; obtain ⟨d86, d87, rfl, f9R, f9S⟩ := b5b e3X; have f9T : b6v.cell? ⟨a8h, (V8 : Int).toNat * 3, none⟩ = some (.int .i64 ((F7 a3x V8).f0)) := c1s 0 _ rfl; have f9U : b6v.cell? ⟨a8h, (V8 : Int).toNat * 3 + 1, none⟩ = some (.int .i64 ((F7 a3x V8).f1)) := c1s 1 _ rfl; have f9V : b6v.cell? ⟨a8h, (V8 : Int).toNat * 3 + 2, none⟩ = some (.slice d86 ((F7 a3x V8).f2).length d87) := c1s 2 _ rfl; have f9W : b6v.frozen? ⟨a8h, (V8 : Int).toNat * 3, none⟩ = false := c1t 0; have f9X : b6v.frozen? ⟨a8h, (V8 : Int).toNat * 3 + 1, none⟩ = false := c1t 1; have f9Y : b6v.frozen? ⟨a8h, (V8 : Int).toNat * 3 + 2, none⟩ = false := c1t 2; clear e6n c1s c1t e3X; replace e6l := eq_true e6l; replace e6m := eq_true e6m; have n_ := a_ (Kd.N8 (ok' := (fun k_ => some k_ ≠ (.slice (some ⟨a4x, 0, none⟩) a0z.length a6u : Value).ownBlock ∧ k_ ≠ Z9 ∧ k_ ≠ a0R ∧ k_ ≠ a0e ∧ k_ ≠ a0y ∧ k_ ≠ a1X)) a3W.out (fun k_ hk => ⟨hk.2, ⟨hk.1.1, ⟨hk.1.2.1, ⟨hk.1.2.2.1, ⟨hk.1.2.2.2.1, hk.1.2.2.2.2⟩⟩⟩⟩⟩)); clear a3W; have a3W := n_; clear n_; have e3Y := a_ (show Kd.N k42 42 b6v w.heap.size (fun k_ => some k_ ≠ (.slice (some ⟨a4x, 0, none⟩) a0z.length a6u : Value).ownBlock ∧ k_ ≠ Z9 ∧ k_ ≠ a0R ∧ k_ ≠ a0e ∧ k_ ≠ a0y ∧ k_ ≠ a1X) (.slice (some ⟨a8h, 0, none⟩) a3x.length b5X) a3x from a3W.out); obtain ⟨h1J, d3K, e3Z, c6F, d3L⟩ := Kd.a8E e3Y.out z42 (V8 : Int) (Y9) (by have h_ : (V8 : Int) < ((a3x.length : Int) : Int) := Y9; (exact h_)); obtain ⟨f9Z, f98, rfl, d88, d89⟩ := b5b e3Z; have d3M := Kd.c4k e3Y.out (V8 : Int) (Y9) (by have h_ : (V8 : Int) < ((a3x.length : Int) : Int) := Y9; (exact h_)) (seg := [.int .i64 a6e]) (j := 0) d3K c6F (show 1 ≤ 3 from by decide) (x' := (⟨a6e, (F7 a3x V8).f1, (F7 a3x V8).f2⟩ : S42)) (b62 _ _ (⟨a6e, (F7 a3x V8).f1, (F7 a3x V8).f2⟩ : S42) d88 d89) (fun _ hk => hk); have d9a := c6F 0 _ rfl; (try simp only [show (k42).sz = 3 from rfl, Nat.mul_one, Nat.add_zero] at d9a); have d9b := d3L 0; (try simp only [show (k42).sz = 3 from rfl, Nat.mul_one, Nat.add_zero] at d9b); clear d3K c6F d3L e3Z) | ((with_reducible refine a5b (t := 3) (p := 133) rfl ?_); refine a3V (t := 3) (p := 133) (v := ?g0a) (w1 := (b6v.setCell ⟨a8h, (V8 : Int).toNat * 3, none⟩ (.int .i64 a6e))) ?hg ?ho ?hn ?hr ?_; (case ho => rfl); (case hg => rfl); (case hn => rfl); (case hr => (go_simp; done)); intro e6o hw; have hg : b6v.grownBy e6o (some a8h) := (by rw [hw]; exact d3M.2); have hp_ : Kd.N k42 42 e6o w.heap.size (fun k_ => some k_ ≠ (.slice (some ⟨a4x, 0, none⟩) a0z.length a6u : Value).ownBlock ∧ k_ ≠ Z9 ∧ k_ ≠ a0R ∧ k_ ≠ a0e ∧ k_ ≠ a0y ∧ k_ ≠ a1X) (.slice (some ⟨a8h, 0, none⟩) a3x.length b5X) f1K := (by rw [hw, f1L.out]; exact d3M.1); clear d3M; replace V4 := a_ (Kd.b7T (v := (.slice (some ⟨a8h, 0, none⟩) a3x.length b5X)) (v1 := (.slice (some ⟨a8h, 0, none⟩) a3x.length b5X)) (ok := (fun k_ => k_ ≠ Z9 ∧ k_ ≠ a0R ∧ k_ ≠ a0e ∧ k_ ≠ a0y ∧ k_ ≠ a1X)) (by exact Kd.N8 V4.out (fun _ hk => ⟨⟨hk.2.1, ⟨hk.2.2.1, ⟨hk.2.2.2.1, ⟨hk.2.2.2.2.1, hk.2.2.2.2.2⟩⟩⟩⟩, hk.1⟩)) hg (.inl rfl)); replace U3 := a_ (F9 U3.out hg (Kd.a7k a3W.out U3.out (by decide))); replace U4 := a_ (F9 U4.out hg (Kd.a7k a3W.out U4.out (by decide))); replace a0i := a_ (F9 a0i.out hg (Kd.a7k a3W.out a0i.out (by decide))); replace a0m := a_ (F9 a0m.out hg (Kd.a7k a3W.out a0m.out (by decide))); replace a2Y := a_ (F9 a2Y.out hg (Kd.a7k a3W.out a2Y.out (by decide))); replace a3W := a_ hp_; replace b3H := a_ (Kd.a8F (v := (.slice (some ⟨a8h, 0, none⟩) a3x.length b5X)) (v1 := (.slice (some ⟨a8h, 0, none⟩) a3x.length b5X)) (ok := (fun k_ => some k_ ≠ (.slice (some ⟨a4x, 0, none⟩) a0z.length a6u : Value).ownBlock ∧ k_ ≠ Z9 ∧ k_ ≠ a0R ∧ k_ ≠ a0e ∧ k_ ≠ a0y ∧ k_ ≠ a1X)) (by exact Kd.a5N b3H.out (fun _ hk => ⟨⟨hk.2, ⟨hk.1.2.1, ⟨hk.1.2.2.1, ⟨hk.1.2.2.2.1, ⟨hk.1.2.2.2.2.1, hk.1.2.2.2.2.2⟩⟩⟩⟩⟩, hk.1.1⟩)) hg (.inl rfl)); replace b98 := a_ (Kd.a8F (v := (.slice (some ⟨a8h, 0, none⟩) a3x.length b5X)) (v1 := (.slice (some ⟨a8h, 0, none⟩) a3x.length b5X)) (ok := (fun k_ => some k_ ≠ (.slice (some ⟨a4x, 0, none⟩) a0z.length a6u : Value).ownBlock ∧ k_ ≠ Z9 ∧ k_ ≠ a0R ∧ k_ ≠ a0e ∧ k_ ≠ a0y ∧ k_ ≠ a1X)) (by exact Kd.a5N b98.out (fun _ hk => ⟨⟨hk.2, ⟨hk.1.2.1, ⟨hk.1.2.2.1, ⟨hk.1.2.2.2.1, ⟨hk.1.2.2.2.2.1, hk.1.2.2.2.2.2⟩⟩⟩⟩⟩, hk.1.1⟩)) hg (.inl rfl)); replace HB := a_ (by rw [hw]; exact o8 (HB.out) f2j.out : Below w.heap.size w e6o); clear hg hw hp_))
                 (try simp only [← b5a])
                 go_roundg k5
                 case measure => have := HJ4.out; have := d1L.out; have := HK3.out; have := f1B.out; have := HK5.out; omega
                 case rel => exact ⟨(f1I), (f1K), (wrap64 (V8 + 1)), (by rfl), H', ⟨by have := HJ4.out; have := d1L.out; have := HK3.out; have := f1B.out; have := HK5.out; omega⟩, ⟨by (try simp only [b5a]); exact Kd.N8 V4.out (fun _ hk => ⟨hk.2, ⟨hk.1.1, ⟨hk.1.2.1, ⟨hk.1.2.2.1, ⟨hk.1.2.2.2.1, hk.1.2.2.2.2⟩⟩⟩⟩⟩)⟩, ⟨by (try simp only [b5a]); exact a3W.out⟩, ⟨by exact U3.out⟩, ⟨by exact U4.out⟩, ⟨by exact a0i.out⟩, ⟨by exact a0m.out⟩, ⟨by exact a2Y.out⟩, ⟨by exact HB.out⟩⟩
                ·rw [if_neg c97] at H
                 have f1H := decide_eq_false c97
                 clear c97
                 replace H := Option.bind_eq_some_iff.mp H
                 obtain ⟨⟨d1M, g4f⟩, e4a, H⟩ := H
                 try dsimp only at H
                 have g4g := a_ e4a
                 clear e4a
                 replace H := Option.bind_eq_some_iff.mp H
                 obtain ⟨⟨d9c, b99, c0c⟩, e4c, H⟩ := H
                 try dsimp only at H
                 have g4h := a_ e4c
                 clear e4c
                 have d9d := a0o H
                 replace H := U9 H
                 have g4i : (b99 == 0 && (c0c == 0)) = true := d9d
                 (try (have g4j : decide (b99 = 0 && (c0c == 0)) = true := by simpa using d9d))
                 (try (have g4k : (b99 == 0 && (c0c == 0)) = true := by simpa using d9d))
                 clear d9d
                 replace H := Option.bind_eq_some_iff.mp H
                 obtain ⟨d3a, e4d, H⟩ := H
                 try dsimp only at H
                 have g4l := a_ e4d
                 clear e4d
                 obtain rfl := Option.some.inj H
                 have g4m := a9T.out
                 have g4n := a7g.out
                 have g4o := a3N.out
                 have g4p := a9U.out
                 have g4q := a5n.out
                 have g4r := a7i.out
                 have g4s := a6j.out
                 have g4t := a9V.out
                 obtain ⟨f2k, f2l, f2m, f2n, f2o, f2p, f2r, f2s⟩ := blk4 U3.out
                 go_wp2_with (first | (refine gl_ (some 138) Tryd.func19 #[.agg #[.bool a8n, .bool a8o, .int .u32 a8p, .int .u32 50], .slice b3G a0z.length a6u] ?_; (with_reducible refine (umpireref09_Put.calls k5 a8n a8o a8p 50 _ _ a0z d1M g4f _ ?Q5 ?Q7 g4g.out).mono ?_); (case Q5 => refine (Kd.V5 (e := 51) (base := w.heap.size) (ok := fun k_ => (some k_ ≠ (b9U : Value).ownBlock ∧ (k_ ≠ Z9 ∧ (k_ ≠ a0R ∧ (k_ ≠ a0e ∧ (k_ ≠ a0y ∧ k_ ≠ a1X)))))) (n := a0z.length) (c := a6u) ?_).2.2; exact (by exact (Kd.N8 (Kd.a0j (p := ⟨Z9, 3, none⟩) (Kd.N8 V4.out (fun k_ hk => (⟨hk, hk.2.1⟩ : _ ∧ k_ ≠ Z9))) (fun _ hk => hk.2) (.int .u32 50)) (fun _ h_ => h_.1)))); (case Q7 => exact (Kd.V5 V4.out).2.1); rintro e h4S ⟨h4T, rfl, ho0, hb⟩; refine ⟨_, rfl, ?_⟩; have b5Y := a_ (Kd.X4 ho0 (y5 (by repeat (with_reducible first | exact HB.out | refine o8 ?_ c4a.out)))); replace V4 := a_ (Kd.a07 (by exact (Kd.N8 (Kd.a0j (p := ⟨Z9, 3, none⟩) (Kd.N8 V4.out (fun k_ hk => (⟨hk, hk.2.1⟩ : _ ∧ k_ ≠ Z9))) (fun _ hk => hk.2) (.int .u32 50)) (fun _ h_ => h_.1))) (Kd.a0n ho0) hb); replace a3W := a_ (Kd.a07 (by exact (Kd.N8 (Kd.a0j (p := ⟨Z9, 3, none⟩) (Kd.N8 a3W.out (fun k_ hk => (⟨hk, hk.2.1⟩ : _ ∧ k_ ≠ Z9))) (fun _ hk => hk.2) (.int .u32 50)) (fun _ h_ => h_.1))) (Kd.a0n ho0) hb); replace U3 := a_ (J3 (g := Z9) (o := .cells #[.bool a8n, .bool a8o, .int .u32 a8p, .int .u32 50] 46 (0, 0)) (by refine l9 (cs := #[.bool a8n, .bool a8o, .int .u32 a8p, .int .u32 204]) ?_ 3 _ rfl; exact U3.out) hb); replace U4 := a_ (J3 (g := a0R) (o := .cells #[.int .i64 a7G, .int .i64 a7H, .int .i64 a7I, .int .i64 a7J, .string a7K, .string a7L, .int .i64 a6e, .int .u32 a7M, .bool a7N] 25 (0, 0)) (by refine o9 ?_ a7g.out _; exact U4.out) hb); replace a0i := a_ (J3 (g := a0e) (o := .cells #[.bool b26, .bool b47, .int .u32 b7O, .int .u32 c07] 46 (0, 0)) (by refine o9 ?_ a9U.out _; exact a0i.out) hb); replace a0m := a_ (J3 (g := a0y) (o := .cells #[.int .i64 b7P, .int .i64 b9R] 30 (0, 0)) (by refine o9 ?_ a7i.out _; exact a0m.out) hb); replace a2Y := a_ (J3 (g := a1X) (o := .cells #[.int .i64 b6t, .int .i64 b9S] 30 (0, 0)) (by refine o9 ?_ a9V.out _; exact a2Y.out) hb); replace HB := a_ (G9 (by repeat (with_reducible first | exact HB.out | refine o8 ?_ c4a.out)) hb); (try clear hb); (try clear ho0); have g4u := a3f.out; have g4v := b1Y.out; have g4w := a4D.out; have g4x := a8x.out; have g4y := a5o.out; have g4z := a9W.out; obtain ⟨f2t, f2u, f2v, f2w, f2x, f2y, f2z, f2A, f2B, f2C, f2D, f2E, f2F, f2G, f2H, f2I, f2J, f2K⟩ := d3g U4.out; obtain ⟨c84, c86, f2L⟩ := Kd.J4 b5Y.out; subst f2L) | (refine gl_ (some 144) Tryd.func10 #[.slice c84 d1M.length c86, .int .i64 1, .agg #[.int .i64 a7G, .int .i64 a7H, .int .i64 a7I, .int .i64 a7J, .string a7K, .string a7L, .int .i64 a6e, .int .u32 a7M, .bool a7N]] ?_; (with_reducible refine (capture_Read.calls k5 _ _ d1M 1 a7G a7H a7I a7J a7K a7L a6e a7M a7N d9c b99 c0c _ (Kd.D6 a4Z.out HB.out) ((Kd.G5 b5Y.out).2.2) ((Kd.G5 b5Y.out).2.1) g4h.out).mono ?_); rintro e h4U ⟨h4V, rfl, ho0, hb⟩; refine ⟨_, rfl, ?_⟩; have c4u := a_ (Kd.a6b (Kd.N8 (ok' := fun k_ => some k_ ≠ (.slice b3G a0z.length a6u : Value).ownBlock ∧ some k_ ≠ (b9U : Value).ownBlock ∧ some k_ ≠ (.slice c84 d1M.length c86 : Value).ownBlock ∧ k_ ≠ Z9 ∧ k_ ≠ a0R ∧ k_ ≠ a0e ∧ k_ ≠ a0y ∧ k_ ≠ a1X) (Kd.S_N (Kd.a0P ho0)) (fun k_ hk_ => ⟨(Kd.fresh' (Kd.b2x V4.out) k_ hk_.2.1), (Kd.fresh' (Kd.b2x a3W.out) k_ hk_.2.1), (Kd.fresh' (Kd.a0h b5Y.out) k_ hk_.2.1), (Kd.a1z U3.out k_ hk_.2.1), (Kd.a1z U4.out k_ hk_.2.1), (Kd.a1z a0i.out k_ hk_.2.1), (Kd.a1z a0m.out k_ hk_.2.1), (Kd.a1z a2Y.out k_ hk_.2.1)⟩)) (y5 HB.out)); replace V4 := a_ (Kd.a07 V4.out (by (exact Kd.a14 (Kd.S_N (Kd.a0P ho0)))) hb); replace a3W := a_ (Kd.a07 a3W.out (by (exact Kd.a14 (Kd.S_N (Kd.a0P ho0)))) hb); replace b5Y := rb_ b5Y hb; replace U3 := U5 U3 hb; replace U4 := U5 U4 hb; replace a0i := U5 a0i hb; replace a0m := U5 a0m hb; replace a2Y := U5 a2Y hb; replace HB := W9 HB hb; (try clear hb); (try clear ho0)) | ((with_reducible refine P9 (N := 24) rfl ?_); (try (refine U8 (by rfl) ?_; dsimp only)); refine be_ 24 #[.int .i64 0, .int .i64 0] 30 ?_; intro b1u hg h4W hbox hb; have e6p := a_ hbox; have e6q := lb_ HB hg; obtain ⟨c6G, c6H⟩ := nn_ U3 hg; obtain ⟨c6I, c6J⟩ := nn_ U4 hg; obtain ⟨c6K, c6L⟩ := nn_ a0i hg; obtain ⟨c6M, c6N⟩ := nn_ a0m hg; obtain ⟨c6O, c6P⟩ := nn_ a2Y hg; replace V4 := Ne_ V4 hg hb; replace a3W := Ne_ a3W hg hb; replace b5Y := rb_ b5Y hb; replace c4u := Ne_ c4u hg hb; replace U3 := U5 U3 hb; replace U4 := U5 U4 hb; replace a0i := U5 a0i hb; replace a0m := U5 a0m hb; replace a2Y := U5 a2Y hb; replace HB := W9 HB hb; clear hb hbox hg; have g4A := c6H.out; have g4B := c6G.out; have g4C := c6J.out; have g4D := c6I.out; have g4E := c6L.out; have g4F := c6K.out; have g4G := c6N.out; have g4H := c6M.out; have g4I := c6P.out; have g4J := c6O.out; obtain ⟨f2M, f2N, f2O, f2P⟩ := a3n e6p.out; obtain ⟨f2Q, e4e, f2R⟩ := Kd.a3H c4u.out; subst f2R; obtain ⟨f2S, e4f, f2T⟩ := Kd.a3H a3W.out; subst f2T) | (go_at_call 12; (with_reducible refine (H8.calls k5 _ _ d9c _ _ a3x d3a _ ?Q5 ?Q7 ?a5U ?b7S g4l.out).mono ?_); (case Q5 => refine (Kd.V5 (e := 42) (base := w.heap.size) (ok := fun k_ => ((some k_ ≠ (.slice b3G a0z.length a6u : Value).ownBlock ∧ (some k_ ≠ (.slice f2S a3x.length e4f : Value).ownBlock ∧ (some k_ ≠ (.slice c84 d1M.length c86 : Value).ownBlock ∧ (k_ ≠ Z9 ∧ (k_ ≠ a0R ∧ (k_ ≠ a0e ∧ (k_ ≠ a0y ∧ k_ ≠ a1X))))))) ∧ k_ ≠ b1u)) (n := d9c.length) (c := e4e) ?_).2.2; exact (by exact (Kd.N8 (Kd.a0j (p := ⟨b1u, 1, none⟩) (Kd.a0j (p := ⟨b1u, 0, none⟩) (Kd.N8 c4u.out (fun k_ hk => (⟨hk, hk.2⟩ : _ ∧ k_ ≠ b1u))) (fun _ hk => hk.2) (.int .i64 b99)) (fun _ hk => hk.2) (.int .i64 c0c)) (fun _ h_ => h_.1)))); (case Q7 => exact (Kd.V5 c4u.out).2.1); (case a5U => refine (Kd.V5 (e := 42) (base := w.heap.size) (ok := fun k_ => ((((some k_ ≠ (.slice b3G a0z.length a6u : Value).ownBlock ∧ (k_ ≠ Z9 ∧ (k_ ≠ a0R ∧ (k_ ≠ a0e ∧ (k_ ≠ a0y ∧ k_ ≠ a1X))))) ∧ some k_ ≠ (.slice c84 d1M.length c86 : Value).ownBlock) ∧ some k_ ≠ (.slice f2Q d9c.length e4e : Value).ownBlock) ∧ k_ ≠ b1u)) (n := a3x.length) (c := e4f) ?_).2.2; exact (by exact (Kd.N8 (Kd.a0j (p := ⟨b1u, 1, none⟩) (Kd.a0j (p := ⟨b1u, 0, none⟩) (Kd.N8 a3W.out (fun k_ hk => (⟨hk, hk.2⟩ : _ ∧ k_ ≠ b1u))) (fun _ hk => hk.2) (.int .i64 b99)) (fun _ hk => hk.2) (.int .i64 c0c)) (fun _ h_ => h_.1)))); (case b7S => exact (Kd.V5 a3W.out).2.1); rintro e w' ⟨rfl, ⟨nd, rfl⟩⟩))
                 go_ret
                 exact ⟨by (rfl), by repeat (with_reducible first | exact HB.out | apply o7 | refine o8 ?_ e6q.out)⟩
    ·rw [if_neg c18] at H
     have c4c := beq_eq_false_iff_ne.mpr c18
     have d3d := bne_iff_ne.mpr c18
     obtain rfl := Option.some.inj H
     have g4K := a7g.out
     have g4L := a9T.out
     obtain ⟨f2U, f2V, f2W, f2X, f2Y, f2Z, f3a, f3b, f3c, f3d, f3e, f3f, f3g, f3h, f3i, f3j, f3k, f3l⟩ := d3g U4.out
     go_wp2_with (first | (refine gl_ (some 36) Tryd.func14 #[.slice A0 l0.length c0, .int .i64 1, .agg #[.int .i64 a7G, .int .i64 a7H, .int .i64 a7I, .int .i64 a7J, .string a7K, .string a7L, .int .i64 a6e, .int .u32 a7M, .bool a7N]] ?_; (with_reducible refine (capture_Write.calls kj4 _ _ l0 1 a7G a7H a7I a7J a7K a7L a6e a7M a7N d3c e5z _ (Kd.D6 a4Z.out HB.out) (Kd.D6 HR0.out HB.out) HC0.out A17.out).mono ?_); rintro e h4X ⟨g28, rfl, ho0, hb⟩; refine ⟨_, rfl, ?_⟩; have b1t := rl_ ho0 HB; replace U3 := U5 U3 hb; replace U4 := U5 U4 hb; replace HB := W9 HB hb; (try clear hb); (try clear ho0)))
     go_ret
     exact ⟨by (rfl), by exact HB.out⟩

end Go.Proofs.YtgnonglkibhnhaaDoor.Print
