import Derived.Test.YtgnonglkibhnhaaDoorF9
namespace Go.Proofs.YtgnonglkibhnhaaDoor.Print
open Go.RowKit Go.Proofs.YtgnonglkibhnhaaDoorW.PrintWords Go.Proofs.YtgnonglkibhnhaaDoorW.PrintLast Go.Proofs.YtgnonglkibhnhaaDoorW.PrintMore
attribute [local go_sem] a0n a0o a0P a0Q Y4 Y5 a0p a0q
set_option linter.unusedVariables false
set_option linter.unusedSimpArgs false

attribute [local go_sem high] e2O
/-! ### umpirelaw11_CaptureReads: function 3 -/
def umpirelaw11_CaptureReads.j0 : Nat → List Int → Int → Bool → Int → Int → Int → Int → ByteArray → ByteArray → Int → Int → Bool → Option (Bool)
 | 0, _, _, _, _, _, _, _, _, _, _, _, _ => none
 | k + 1, x0, x1, x17, d1c, d1d, d1e, d1f, d1g, d1h, d1i, d1j, d1k => if x17 = true then ((umpirelaw11_awake.f k).bind fun e87 => (some e87)) else ((a0F.f k x0 x1 d1c d1d d1e d1f d1g d1h d1i d1j d1k).bind fun d70 => ((a2r.f k x0 x1 d1c d1d d1e d1f d1g d1h d1i d1j d1k).bind fun d71 => ((L6.f k d70.1 d71.1).bind fun f6C => (if f6C = true then (some (d70.2.1 == d71.2.1 && (d70.2.2 == d71.2.2))) else (none)))))
def umpirelaw11_CaptureReads.f (k : Nat) (l0 : List Int) (a1 : Int) (a1J : Int) (a1K : Int) (a1L : Int) (a1M : Int) (a1N : ByteArray) (a1O : ByteArray) (a02 : Int) (a0D : Int) (a0y : Bool) : Option (Bool) := (umpirelaw11_awake.f k).bind fun e88 => (if e88 = true then (umpirelaw11_CaptureReads.j0 k l0 a1 (decide ((l0.length : Int) > 4000)) a1J a1K a1L a1M a1N a1O a02 a0D a0y) else (umpirelaw11_CaptureReads.j0 k l0 a1 true a1J a1K a1L a1M a1N a1O a02 a0D a0y))
set_option maxHeartbeats 8000000 in
set_option maxRecDepth 100000 in
theorem umpirelaw11_CaptureReads.calls (k : Nat) (A0 : Option Addr) (c0 : Nat) (l0 : List Int) (a1 : Int) (a1J : Int) (a1K : Int) (a1L : Int) (a1M : Int) (a1N : ByteArray) (a1O : ByteArray) (a02 : Int) (a0D : Int) (a0y : Bool) (r : Bool) (w : World) (hG0 : Kd.C b3v w (some ⟨0, 0, none⟩) 8 H6) (hr0 : Kd.C (Kd.int .u8) w A0 l0.length l0) (hc0 : l0.length ≤ c0) (h : umpirelaw11_CaptureReads.f k l0 a1 a1J a1K a1L a1M a1N a1O a02 a0D a0y = some r) :
  Calls Tryd.prog 3 #[.slice A0 l0.length c0, .int .i64 a1, .agg #[.int .i64 a1J, .int .i64 a1K, .int .i64 a1L, .int .i64 a1M, .string a1N, .string a1O, .int .i64 a02, .int .u32 a0D, .bool a0y]] w fun e w' => e = .returned (.bool r) ∧ Below w.heap.size w w' := by
 have c1j := Tryd.underlying25
 have a7R := Tryd.underlying30
 have HR0 := a_ hr0
 have HC0 := a_ hc0
 clear hr0 hc0
 have a5T := a_ hG0
 clear hG0
 have HB := a_ (Below.refl w.heap.size w)
 have H := h
 clear h
 unfold umpirelaw11_CaptureReads.f at H
 have HC4 := a_ H
 clear H
 go_enter Tryd.func3, Tryd.ntmps3
 go_upto_region 1 with (first | ((with_reducible refine X0 (N := 5) rfl ?_); (try (refine Y7 (by rfl) ?_; dsimp only)); refine be_ 5 #[.int .i64 a1J, .int .i64 a1K, .int .i64 a1L, .int .i64 a1M, .string a1N, .string a1O, .int .i64 a02, .int .u32 a0D, .bool a0y] 25 ?_; intro e4J hg w5 hbox hb; have a6a := a_ hbox; have g8M := lb_ HB hg; replace HB := U9 HB hb; clear hb hbox hg))
 go_cut [17] (fun v17 wc => ∃ (kq : Nat) (d1l : Bool), v17 = .bool d1l ∧ Aside0 (umpirelaw11_CaptureReads.j0 kq l0 a1 d1l a1J a1K a1L a1M a1N a1O a02 a0D a0y = some r) ∧ Aside0 (kq ≤ k) ∧ Aside0 (wc.heap[e4J]? = some (.cells #[.int .i64 a1J, .int .i64 a1K, .int .i64 a1L, .int .i64 a1M, .string a1N, .string a1O, .int .i64 a02, .int .u32 a0D, .bool a0y] 25 (0, 0))) ∧ Aside0 (Below w.heap.size w wc))
 case first =>
  have H := HC4.out; clear HC4; obtain ⟨e88, A6, H⟩ := bd_ H
  try dsimp only at H
  by_cases c7 : e88 = true
  ·subst c7; rw [if_pos rfl] at H; have H' := a_ H; clear H
   go_wp2_with (first | (refine gl_ (some 11) Tryd.func9 #[] ?_ (hargs := by (try simp only [List.map_toArray, List.map_cons, List.map_nil]); (done)); (with_reducible refine (umpirelaw11_awake.calls k  true _ (Kd.C9 a5T.out HB.out) A6.out).mono ?_); rintro e w8 ⟨rfl, hb⟩; refine ⟨_, rfl, ?_⟩; replace a6a := X4 a6a hb; replace HB := U9 HB hb; (try clear hb)))
   go_meet
   case rel => exact ⟨_, (decide ((l0.length : Int) > 4000)), (by rfl), H', ⟨by (omega)⟩, ⟨by exact a6a.out⟩, ⟨by exact HB.out⟩⟩
  ·cases nt_ c7
   rw [if_neg a3S] at H; have H' := a_ H; clear H
   go_wp2_with (first | (refine gl_ (some 11) Tryd.func9 #[] ?_ (hargs := by (try simp only [List.map_toArray, List.map_cons, List.map_nil]); (done)); (with_reducible refine (umpirelaw11_awake.calls k  false _ (Kd.C9 a5T.out HB.out) A6.out).mono ?_); rintro e w9 ⟨rfl, hb⟩; refine ⟨_, rfl, ?_⟩; replace a6a := X4 a6a hb; replace HB := U9 HB hb; (try clear hb)))
   go_meet
   case rel => exact ⟨_, (true), (by rfl), H', ⟨by (omega)⟩, ⟨by exact a6a.out⟩, ⟨by exact HB.out⟩⟩
 case rest =>
  clear HC4; obtain ⟨kq, d1l, rfl, HA, HJ3, a6a, HB⟩ := hcut
  cases kq with
  | zero => exact absurd HA.out (by simp [umpirelaw11_CaptureReads.j0])
  | succ kj3 =>
   have H := HA.out; clear HA
   simp only [umpirelaw11_CaptureReads.j0] at H
   by_cases c10 : d1l = true
   ·subst c10; rw [if_pos rfl] at H; obtain ⟨e87, A11, H⟩ := bd_ H
    (try dsimp only at H); obtain rfl := oj_ H
    go_wp2_with (first | (refine gl_ (some 18) Tryd.func9 #[] ?_ (hargs := by (try simp only [List.map_toArray, List.map_cons, List.map_nil]); (done)); (with_reducible refine (umpirelaw11_awake.calls kj3  e87 _ (Kd.C9 a5T.out HB.out) A11.out).mono ?_); rintro e w12 ⟨rfl, hb⟩; refine ⟨_, rfl, ?_⟩; replace a6a := X4 a6a hb; replace HB := U9 HB hb; (try clear hb)))
    go_ret
    exact ⟨by (rfl), by exact HB.out⟩
   ·cases nt_ c10
    rw [if_neg a3S] at H; obtain ⟨⟨d72, e2G, e2H⟩, A13, H⟩ := bd_ H
    (try dsimp only at H); obtain ⟨⟨d73, e89, e9a⟩, A14, H⟩ := bd_ H
    (try dsimp only at H); obtain ⟨f6C, A15, H⟩ := bd_ H
    (try dsimp only at H); obtain rfl := Z7 H; replace H := O5 H; obtain rfl := oj_ H; obtain ⟨c1R, c1S, c1T, e2n, e2o, e2p, e2q, e2r, e2s, c1V, c1W, c1X, e2t, e2u, e2v, e2w, e2x, e2y⟩ := d87 a6a.out
    go_wp2_with (first | (refine gl_ (some 23) Tryd.func10 #[.slice A0 l0.length c0, .int .i64 a1, .agg #[.int .i64 a1J, .int .i64 a1K, .int .i64 a1L, .int .i64 a1M, .string a1N, .string a1O, .int .i64 a02, .int .u32 a0D, .bool a0y]] ?_; (with_reducible refine (a0F.calls kj3 _ _ l0 a1 a1J a1K a1L a1M a1N a1O a02 a0D a0y d72 e2G e2H _ (Kd.C9 a5T.out HB.out) (Kd.C9 HR0.out HB.out) HC0.out A13.out).mono ?_); rintro e w18 ⟨h2U, rfl, ho0, hb⟩; refine ⟨_, rfl, ?_⟩; have b3u := a_ (Kd.a7r ho0 (y5 HB.out)); replace a6a := X4 a6a hb; replace HB := U9 HB hb; (try clear hb); (try clear ho0)) | ((with_reducible refine X0 (N := 8) rfl ?_); (try (refine Y7 (by rfl) ?_; dsimp only)); refine be_ 8 #[.int .i64 0, .int .i64 0] 30 ?_; intro c5I hg w19 hbox hb; have b5x := a_ hbox; have d74 := lb_ HB hg; obtain ⟨b55, d2H⟩ := nn_ a6a hg; replace b3u := sb_ b3u hb; replace a6a := X4 a6a hb; replace HB := U9 HB hb; clear hb hbox hg; have g8N := d2H.out; have g8O := b55.out; obtain ⟨e1F, e1G, e1H, e1I⟩ := a1p b5x.out; obtain ⟨b2q, b2r, b4F, c9I, d9U, g0b, g0c, g0d, g0e, b2s, b2t, b4G, c9J, d9V, g0f, g0g, g0h, g0i⟩ := d87 a6a.out) | (refine gl_ (some 30) Tryd.func11 #[.slice A0 l0.length c0, .int .i64 a1, .agg #[.int .i64 a1J, .int .i64 a1K, .int .i64 a1L, .int .i64 a1M, .string a1N, .string a1O, .int .i64 a02, .int .u32 a0D, .bool a0y]] ?_; (with_reducible refine (a2r.calls kj3 _ _ l0 a1 a1J a1K a1L a1M a1N a1O a02 a0D a0y d73 e89 e9a _ (Kd.C9 HR0.out (by repeat (with_reducible first | exact HB.out | refine o7 ?_ d74.out))) HC0.out A14.out).mono ?_); rintro e w23 ⟨h2V, rfl, ho0, hb⟩; refine ⟨_, rfl, ?_⟩; have c5J := a_ (Kd.a7r (Kd.e5d ho0 (Kd.b9m (by exact (Kd.N8 (Kd.V8 (p := ⟨c5I, 1, none⟩) (Kd.V8 (p := ⟨c5I, 0, none⟩) (Kd.a1F b3u.out b5x.out (by decide)) (fun _ hk => hk.2) (.int .i64 e2G)) (fun _ hk => hk.2) (.int .i64 e2H)) (fun _ h_ => h_.1))))) (y5 (by repeat (with_reducible first | exact HB.out | refine o7 ?_ d74.out)))); replace b3u := a_ (Kd.c3E (by exact (Kd.N8 (Kd.V8 (p := ⟨c5I, 1, none⟩) (Kd.V8 (p := ⟨c5I, 0, none⟩) (Kd.a1F b3u.out b5x.out (by decide)) (fun _ hk => hk.2) (.int .i64 e2G)) (fun _ hk => hk.2) (.int .i64 e2H)) (fun _ h_ => h_.1))) (Kd.d3d ho0) hb); replace a6a := a_ (J7 (g := e4J) (o := .cells #[.int .i64 a1J, .int .i64 a1K, .int .i64 a1L, .int .i64 a1M, .string a1N, .string a1O, .int .i64 a02, .int .u32 a0D, .bool a0y] 25 (0, 0)) (o8 (o8 a6a.out b55.out _) b55.out _) hb); replace b5x := a_ (J7 (g := c5I) (o := .cells #[.int .i64 e2G, .int .i64 e2H] 30 (0, 0)) (l9 (l9 b5x.out 0 _ rfl) 1 _ rfl) hb); replace HB := a_ (J4 (by repeat (with_reducible first | exact HB.out | refine o7 ?_ d74.out)) hb); (try clear hb); (try clear ho0)) | ((with_reducible refine X0 (N := 10) rfl ?_); (try (refine Y7 (by rfl) ?_; dsimp only)); refine be_ 10 #[.int .i64 0, .int .i64 0] 30 ?_; intro d1m hg w24 hbox hb; have d75 := a_ hbox; have f6D := lb_ HB hg; obtain ⟨d2I, d2J⟩ := nn_ a6a hg; obtain ⟨d2K, d2L⟩ := nn_ b5x hg; replace b3u := sb_ b3u hb; replace c5J := sb_ c5J hb; replace a6a := X4 a6a hb; replace b5x := X4 b5x hb; replace HB := U9 HB hb; clear hb hbox hg; have f1k := d2J.out; have f1l := d2I.out; have e3c := d2L.out; have e3d := d2K.out; obtain ⟨b4J, b4K, b4L, b4M⟩ := a1p d75.out; obtain ⟨f6E, e9b, g6c⟩ := Kd.a6c b3u.out; subst g6c; obtain ⟨b8E, b6B, d5O⟩ := Kd.a6c c5J.out; subst d5O) | (refine gl_ (some 35) Tryd.func12 #[.slice f6E d72.length e9b, .slice b8E d73.length b6B] ?_; (with_reducible refine (L6.calls kj3 _ _ d72 _ _ d73 true _ ?P5 ?P6 ?a6x ?c4s A15.out).mono ?_); (case P5 => refine (Kd.a2j (e := 42) (base := w.heap.size) (ok := fun k_ => (True ∧ some k_ ≠ (.slice b8E d73.length b6B : Value).ownBlock)) (n := d72.length) (c := e9b) ?_).2.2; exact (by exact (Kd.N8 (Kd.V8 (p := ⟨d1m, 1, none⟩) (Kd.V8 (p := ⟨d1m, 0, none⟩) (Kd.a1F b3u.out d75.out (by decide)) (fun _ hk => hk.2) (.int .i64 e89)) (fun _ hk => hk.2) (.int .i64 e9a)) (fun _ h_ => h_.1)))); (case P6 => exact (Kd.a2j b3u.out).2.1); (case a6x => refine (Kd.a2j (e := 42) (base := w.heap.size) (ok := fun k_ => (True ∧ some k_ ≠ (.slice f6E d72.length e9b : Value).ownBlock)) (n := d73.length) (c := b6B) ?_).2.2; exact (by exact (Kd.N8 (Kd.V8 (p := ⟨d1m, 1, none⟩) (Kd.V8 (p := ⟨d1m, 0, none⟩) (Kd.a1F c5J.out d75.out (by decide)) (fun _ hk => hk.2) (.int .i64 e89)) (fun _ hk => hk.2) (.int .i64 e9a)) (fun _ h_ => h_.1)))); (case c4s => exact (Kd.a2j c5J.out).2.1); rintro e w' ⟨rfl, ⟨nd, rfl⟩⟩; refine ⟨_, rfl, ?_⟩; obtain ⟨b7b, b7c, b7d, b7e⟩ := a1p b5x.out))
    go_ret
    exact ⟨by (rfl), by repeat (with_reducible first | exact HB.out | apply o9 | refine o7 ?_ f6D.out)⟩

end Go.Proofs.YtgnonglkibhnhaaDoor.Print
