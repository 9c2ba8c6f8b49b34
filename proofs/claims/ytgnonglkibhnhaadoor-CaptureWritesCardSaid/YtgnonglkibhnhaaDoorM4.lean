-- laid together by this session's own program (wip/tools/merge.py) of texts that its program laid
import Derived.Test.YtgnonglkibhnhaaDoorM3
namespace Go.Proofs.YtgnonglkibhnhaaDoor.Print
open Go.RowKit Go.Proofs.YtgnonglkibhnhaaDoorW.PrintWords Go.Proofs.YtgnonglkibhnhaaDoorW.PrintLast Go.Proofs.YtgnonglkibhnhaaDoorW.PrintMore
attribute [local go_sem] a0d a0e a0V a0W X5 X6 a0f a0g
set_option linter.unusedVariables false
set_option linter.unusedSimpArgs false
set_option maxHeartbeats 16000000
set_option maxRecDepth 100000
def a2c.f (k : Nat) (G8 : Int) (O9 : Int) (U5 : List Int) : Option (List Int) := (some (([(G8) % 256] : List Int) : List Int)).bind fun a9n => (if G8 ≤ 2 then ((some (([(wrap64 ((U5.length : Int) / 256)) % 256, (U5.length : Int) % 256] : List Int) : List Int)).bind fun c4b => (if a9n.length + c4b.length < 140737488355328 then ((some (a9n ++ c4b : List Int)).bind fun d4b => (if d4b.length + U5.length < 140737488355328 then (some (d4b ++ U5)) else (none))) else (none))) else (if G8 = 6 then (if a9n.length < 140737488355328 then (some (a9n ++ [(O9) % 256])) else (none)) else (if G8 = 5 then ((J6.f k (IntKind.u64.wrap (O9)) 4 true).bind fun c4c => (if a9n.length + c4c.length < 140737488355328 then (some (a9n ++ c4c)) else (none))) else (if G8 = 7 then ((J6.f k (IntKind.u64.wrap (O9)) 4 true).bind fun c4d => (if a9n.length + c4d.length < 140737488355328 then (some (a9n ++ c4d)) else (none))) else (some a9n)))))
theorem a2c.calls (k : Nat) (G8 : Int) (O9 : Int) (a3h : Option Addr) (a3i : Nat) (U5 : List Int) (r : List Int) (w : World) (a4N : Kd.C (Kd.int .u8) w a3h U5.length U5) (a4O : U5.length ≤ a3i) (h : a2c.f k G8 O9 U5 = some r) :
  Calls Tryd.prog 41 #[.agg #[.int .i64 G8, .int .u32 O9, .slice a3h U5.length a3i]] w fun e w' => ∃ v0_ : Value, e = .returned (v0_) ∧ Kd.R (Kd.int .u8) 5 w' w.heap.size (fun _ => True) v0_ r ∧ Below w.heap.size w w' := by
 have c1h := Tryd.underlying58
 have b2I := a_ a4N
 have b8e := a_ a4O
 clear a4N a4O
 have HB := a_ (Below.refl w.heap.size w)
 have H := h
 clear h
 unfold a2c.f at H
 obtain ⟨a9n, d4c⟩ := is_ ([(G8) % 256] : List Int)
 rw [Option.bind_some, ← d4c] at H
 have c1X := a_ d4c
 clear d4c
 by_cases c2 : G8 ≤ 2
 ·rw [if_pos c2] at H; have a7Y := dt_ c2; clear c2; obtain ⟨c4b, d4d⟩ := is_ ((([(wrap64 ((U5.length : Int) / 256)) % 256, (U5.length : Int) % 256] : List Int)) : List Int); rw [Option.bind_some, ← d4d] at H; have e92 := a_ d4d; clear d4d; have c3 := X4 H; replace H := O6 H; have c3E := a_ c3; clear c3; obtain ⟨d4b, d4e⟩ := is_ ((a9n ++ c4b) : List Int); rw [Option.bind_some, ← d4e] at H; have e93 := a_ d4e; clear d4e; have c4 := X4 H; replace H := O6 H; have g1K := a_ c4; clear c4; obtain ⟨g9b, d4f⟩ := is_ ((d4b ++ U5) : List Int); rw [← d4f] at H; have e94 := a_ d4f; clear d4f; obtain rfl := oj_ H
  go_enter Tryd.func41, Tryd.ntmps41
  go_wp2_with (first | (refine be_ 1 #[.int .i64 G8, .int .u32 O9, .slice a3h U5.length a3i] 58 ?_; intro c69 hg w5 hbox hb; have a0H := a_ hbox; have c7a := lb_ HB hg; replace HB := Q8 HB hb; clear hb hbox hg; obtain ⟨b9f, b9g, b9h, b9i, b9j, b9k⟩ := a0u a0H.out) | ((with_reducible refine N7 (N := 7) rfl ?_); refine Kd.a4l (Kd.int .u8) _ 5 ?hg (N := 7) ?hd (xs := ([(G8) % 256] : List Int)) (inner := [.int .u8 ((G8) % 256)]) (ok := fun _ => True) (okp := fun _ => True) ?hr ?hp (fun _ hk => hk) trivial (Below.refl _ _) (Nat.le_refl _) (by simp) ?_; (case hd => rfl); (case hg => rfl); (case hr => (go_simp; done)); (case hp => exact (J3.one (show Kd.M (Kd.int .u8) _ _ _ ((G8) % 256) [.int .u8 ((G8) % 256)] from rfl) (J3.none _ _))); intro c1Y w7 ho8 hb hg_ V8; clear hg_ V8; (rw [← c1X.out] at ho8); have a3o := rl_ ho8 HB; replace a0H := X8 a0H hb; replace HB := Q8 HB hb; clear hb ho8; obtain ⟨d4g, d4h, e4v, d4i, d4j, e4w⟩ := a0u a0H.out) | ((with_reducible refine N7 (N := 22) rfl ?_); refine Kd.a4l (Kd.int .u8) _ 5 ?hg (N := 22) ?hd (xs := ([(wrap64 ((U5.length : Int) / 256)) % 256, (U5.length : Int) % 256] : List Int)) (inner := [.int .u8 ((wrap64 ((U5.length : Int) / 256)) % 256), .int .u8 ((U5.length : Int) % 256)]) (ok := fun _ => True) (okp := fun _ => True) ?hr ?hp (fun _ hk => hk) trivial (Below.refl _ _) (Nat.le_refl _) (by simp) ?_; (case hd => rfl); (case hg => rfl); (case hr => (go_simp; done)); (case hp => exact (J3.one (show Kd.M (Kd.int .u8) _ _ _ ((wrap64 ((U5.length : Int) / 256)) % 256) [.int .u8 ((wrap64 ((U5.length : Int) / 256)) % 256)] from rfl) (J3.one (show Kd.M (Kd.int .u8) _ _ _ ((U5.length : Int) % 256) [.int .u8 ((U5.length : Int) % 256)] from rfl) (J3.none _ _)))); intro g9c w10 d8N hb hg_ V8; clear hg_ V8; (rw [← e92.out] at d8N); have b4q := rn_ d8N a3o HB; replace a3o := rR_ a3o d8N hb; replace a0H := X8 a0H hb; replace HB := Q8 HB hb; clear hb d8N; obtain ⟨d8O, d8P, e4x⟩ := Kd.H6 b4q.out; subst e4x) | ((with_reducible refine D6 (b := .append) (xs := #[.tmp 11, .tmp 22]) rfl ?_); at_builtin; refine Kd.G9 (Kd.int .u8) (w0 := w) w.heap.size rfl (.tmp 11) (.tmp 22) 22 5 (.int .u8 0) 1 rfl Tryd.underlying22 info5 rfl (by decide) (by omega) c1Y a9n c4b _ _ _ (fun k_ => some k_ ≠ (.slice d8O c4b.length d8P : Value).ownBlock) (fun _ => False) rfl rfl ?aO ?aR (fun _ _ h => h) (fun _ h => h.elim) ?aF ?aB ?aS ?aL ?_; (case aR => exact (Kd.F9 b4q.out).2.2); (case aB => exact HB.out); (case aF => exact (fun k_ hk => Kd.fresh' (Kd.U8 b4q.out) k_ hk)); (case aO => exact (by exact Kd.y9 a3o.out (fun _ hk => hk.2))); (case aS => exact (o9 HB.out)); (case aL => have := c3E.out; omega); intro g1L w12 ho hb hg hat; rw [← e93.out] at ho; have d4k := a_ ho; replace a0H := a_ (L9 a0H.out hg (Kd.a3L a3o.out a0H.out (by decide))); replace b4q := a_ (Kd.Q7 (ok := (fun _ => True)) b4q.out hg hat); replace HB := a_ hb; clear a3o ho hb hg hat; obtain ⟨c6G, c6H, c6I, c6J, c6K, c6L⟩ := a0u a0H.out) | ((with_reducible refine D6 (b := .append) (xs := #[.tmp 24, .tmp 26]) rfl ?_); at_builtin; refine Kd.G9 (Kd.int .u8) (w0 := w) w.heap.size rfl (.tmp 24) (.tmp 26) 22 5 (.int .u8 0) 1 rfl Tryd.underlying22 info5 rfl (by decide) (by omega) g1L d4b U5 _ _ _ (fun k_ => some k_ ≠ (.slice d8O c4b.length d8P : Value).ownBlock) (fun _ => False) rfl rfl ?aO ?aR (fun _ _ h => h) (fun _ h => h.elim) ?aF ?aB ?aS ?aL ?_; (case aR => exact (Kd.E8 b2I.out HB.out)); (case aB => exact HB.out); (case aF => exact (fun k_ hk => Kd.fresh' (Kd.U8 b4q.out) k_ hk)); (case aO => exact d4k.out); (case aS => exact (o9 HB.out)); (case aL => have := g1K.out; omega); intro g9d w15 ho hb hg hat; rw [← e94.out] at ho; have e95 := a_ ho; replace a0H := a_ (L9 a0H.out hg (Kd.a3L d4k.out a0H.out (by decide))); replace b4q := a_ (Kd.Q7 (ok := (fun _ => True)) b4q.out hg hat); replace HB := a_ hb; clear d4k ho hb hg hat))
  go_ret
  exact ⟨_, by (rfl), by exact Kd.y9 e95.out (fun _ hk => trivial), by exact HB.out⟩
 ·rw [if_neg c2] at H; have a7Y := df_ c2; clear c2
  by_cases c16 : G8 = 6
  ·rw [if_pos c16] at H; obtain ⟨e0k, e0l⟩ := bt_ c16; clear c16; have c17 := X4 H; replace H := O6 H; have d4l := a_ c17; clear c17; obtain ⟨g9e, d4m⟩ := is_ ((a9n ++ [(O9) % 256]) : List Int); rw [← d4m] at H; have e96 := a_ d4m; clear d4m; obtain rfl := oj_ H
   go_enter Tryd.func41, Tryd.ntmps41
   go_wp2_with (first | (refine be_ 1 #[.int .i64 G8, .int .u32 O9, .slice a3h U5.length a3i] 58 ?_; intro c69 hg w18 hbox hb; have a0H := a_ hbox; have c7a := lb_ HB hg; replace HB := Q8 HB hb; clear hb hbox hg; obtain ⟨c7b, c7c, c7d, c7e, c7f, c7g⟩ := a0u a0H.out) | ((with_reducible refine N7 (N := 7) rfl ?_); refine Kd.a4l (Kd.int .u8) _ 5 ?hg (N := 7) ?hd (xs := ([(G8) % 256] : List Int)) (inner := [.int .u8 ((G8) % 256)]) (ok := fun _ => True) (okp := fun _ => True) ?hr ?hp (fun _ hk => hk) trivial (Below.refl _ _) (Nat.le_refl _) (by simp) ?_; (case hd => rfl); (case hg => rfl); (case hr => (go_simp; done)); (case hp => exact (J3.one (show Kd.M (Kd.int .u8) _ _ _ ((G8) % 256) [.int .u8 ((G8) % 256)] from rfl) (J3.none _ _))); intro c1Y w20 e4y hb hg_ V8; clear hg_ V8; (rw [← c1X.out] at e4y); have a3o := rl_ e4y HB; replace a0H := X8 a0H hb; replace HB := Q8 HB hb; clear hb e4y; obtain ⟨c7h, c7i, c7j, c7k, c7l, c7m⟩ := a0u a0H.out) | ((with_reducible refine D6 (b := .append) (xs := #[.tmp 31, .tmp 35]) rfl ?_); at_builtin; refine Kd.a1F (Kd.int .u8) (w0 := w) w.heap.size rfl (.tmp 31) (.tmp 35) 22 5 (.int .u8 0) 1 rfl Tryd.underlying22 info5 rfl (by decide) (by omega) c1Y a9n ((O9) % 256) [.int .u8 ((O9) % 256)] (fun _ => True) (fun _ => False) rfl rfl ?aP (fun _ hk => hk.elim) ?aF ?aO ?aB ?aS ?aL ?_; (case aP => exact rfl); (case aB => exact HB.out); (case aF => exact (fun _ _ => trivial)); (case aO => exact a3o.out); (case aS => exact (o9 HB.out)); (case aL => have := d4l.out; omega); intro g9f w23 ho hb hg hat; rw [← e96.out] at ho; have e97 := a_ ho; replace a0H := a_ (L9 a0H.out hg (Kd.a3L a3o.out a0H.out (by decide))); replace HB := a_ hb; clear a3o ho hb hg hat))
   go_ret
   exact ⟨_, by (rfl), by exact e97.out, by exact HB.out⟩
  ·rw [if_neg c16] at H; have e0k := bq_ c16; have e0l := bn_ c16
   by_cases c24 : G8 = 5
   ·rw [if_pos c24] at H; obtain ⟨e03, e04⟩ := bt_ c24; clear c24; obtain ⟨c4c, A25, H⟩ := bd_ H
    (try dsimp only at H); have c26 := X4 H; replace H := O6 H; have f0b := a_ c26; clear c26; obtain ⟨g9g, d4n⟩ := is_ ((a9n ++ c4c) : List Int); rw [← d4n] at H; have f0c := a_ d4n; clear d4n; obtain rfl := oj_ H
    go_enter Tryd.func41, Tryd.ntmps41
    go_wp2_with (first | (refine be_ 1 #[.int .i64 G8, .int .u32 O9, .slice a3h U5.length a3i] 58 ?_; intro c69 hg w27 hbox hb; have a0H := a_ hbox; have c7a := lb_ HB hg; replace HB := Q8 HB hb; clear hb hbox hg; obtain ⟨a8R, a8S, d8Q, a8T, a8U, d8R⟩ := a0u a0H.out) | ((with_reducible refine N7 (N := 7) rfl ?_); refine Kd.a4l (Kd.int .u8) _ 5 ?hg (N := 7) ?hd (xs := ([(G8) % 256] : List Int)) (inner := [.int .u8 ((G8) % 256)]) (ok := fun _ => True) (okp := fun _ => True) ?hr ?hp (fun _ hk => hk) trivial (Below.refl _ _) (Nat.le_refl _) (by simp) ?_; (case hd => rfl); (case hg => rfl); (case hr => (go_simp; done)); (case hp => exact (J3.one (show Kd.M (Kd.int .u8) _ _ _ ((G8) % 256) [.int .u8 ((G8) % 256)] from rfl) (J3.none _ _))); intro c1Y w29 c1Z hb hg_ V8; clear hg_ V8; (rw [← c1X.out] at c1Z); have a3o := rl_ c1Z HB; replace a0H := X8 a0H hb; replace HB := Q8 HB hb; clear hb c1Z; obtain ⟨c5I, c5J, c5K, c5M, c5N, c5O⟩ := a0u a0H.out) | (refine gl_ (some 49) Tryd.func60 #[.int .u64 (IntKind.u64.wrap (O9)), .int .i64 4, .bool true] ?_; (with_reducible refine (J6.calls k (IntKind.u64.wrap (O9)) 4 true c4c _ A25.out).mono ?_); rintro e w32 ⟨g9h, rfl, ho0, hb⟩; refine ⟨_, rfl, ?_⟩; have c2a := rn_ ho0 a3o HB; replace a3o := rR_ a3o ho0 hb; replace a0H := X8 a0H hb; replace HB := Q8 HB hb; (try clear hb); (try clear ho0); obtain ⟨g1M, g1N, g1O⟩ := Kd.H6 c2a.out; subst g1O) | ((with_reducible refine D6 (b := .append) (xs := #[.tmp 45, .tmp 49]) rfl ?_); at_builtin; refine Kd.G9 (Kd.int .u8) (w0 := w) w.heap.size rfl (.tmp 45) (.tmp 49) 22 5 (.int .u8 0) 1 rfl Tryd.underlying22 info5 rfl (by decide) (by omega) c1Y a9n c4c _ _ _ (fun k_ => some k_ ≠ (.slice g1M c4c.length g1N : Value).ownBlock) (fun _ => False) rfl rfl ?aO ?aR (fun _ _ h => h) (fun _ h => h.elim) ?aF ?aB ?aS ?aL ?_; (case aR => exact (Kd.F9 c2a.out).2.2); (case aB => exact HB.out); (case aF => exact (fun k_ hk => Kd.fresh' (Kd.U8 c2a.out) k_ hk)); (case aO => exact (by exact Kd.y9 a3o.out (fun _ hk => hk.2))); (case aS => exact (o9 HB.out)); (case aL => have := f0b.out; omega); intro g9i w33 ho hb hg hat; rw [← f0c.out] at ho; have f0d := a_ ho; replace a0H := a_ (L9 a0H.out hg (Kd.a3L a3o.out a0H.out (by decide))); replace c2a := a_ (Kd.Q7 (ok := (fun _ => True)) c2a.out hg hat); replace HB := a_ hb; clear a3o ho hb hg hat))
    go_ret
    exact ⟨_, by (rfl), by exact Kd.y9 f0d.out (fun _ hk => trivial), by exact HB.out⟩
   ·rw [if_neg c24] at H; have e03 := bq_ c24; have e04 := bn_ c24
    by_cases c35 : G8 = 7
    ·rw [if_pos c35] at H; obtain ⟨c1E, d2Z⟩ := bt_ c35; clear c35; obtain ⟨c4d, A36, H⟩ := bd_ H
     (try dsimp only at H); have c37 := X4 H; replace H := O6 H; have f0e := a_ c37; clear c37; obtain ⟨g9k, d4o⟩ := is_ ((a9n ++ c4d) : List Int); rw [← d4o] at H; have f0f := a_ d4o; clear d4o; obtain rfl := oj_ H
     go_enter Tryd.func41, Tryd.ntmps41
     go_wp2_with (first | (refine be_ 1 #[.int .i64 G8, .int .u32 O9, .slice a3h U5.length a3i] 58 ?_; intro c69 hg w38 hbox hb; have a0H := a_ hbox; have c7a := lb_ HB hg; replace HB := Q8 HB hb; clear hb hbox hg; obtain ⟨f5D, f5E, f5F, f5G, f5H, f5I⟩ := a0u a0H.out) | ((with_reducible refine N7 (N := 7) rfl ?_); refine Kd.a4l (Kd.int .u8) _ 5 ?hg (N := 7) ?hd (xs := ([(G8) % 256] : List Int)) (inner := [.int .u8 ((G8) % 256)]) (ok := fun _ => True) (okp := fun _ => True) ?hr ?hp (fun _ hk => hk) trivial (Below.refl _ _) (Nat.le_refl _) (by simp) ?_; (case hd => rfl); (case hg => rfl); (case hr => (go_simp; done)); (case hp => exact (J3.one (show Kd.M (Kd.int .u8) _ _ _ ((G8) % 256) [.int .u8 ((G8) % 256)] from rfl) (J3.none _ _))); intro c1Y w40 e4z hb hg_ V8; clear hg_ V8; (rw [← c1X.out] at e4z); have a3o := rl_ e4z HB; replace a0H := X8 a0H hb; replace HB := Q8 HB hb; clear hb e4z; obtain ⟨d8S, d8T, d8U, d8V, d8W, d8X⟩ := a0u a0H.out) | (refine gl_ (some 49) Tryd.func60 #[.int .u64 (IntKind.u64.wrap (O9)), .int .i64 4, .bool true] ?_; (with_reducible refine (J6.calls k (IntKind.u64.wrap (O9)) 4 true c4d _ A36.out).mono ?_); rintro e w43 ⟨g9m, rfl, ho0, hb⟩; refine ⟨_, rfl, ?_⟩; have c2c := rn_ ho0 a3o HB; replace a3o := rR_ a3o ho0 hb; replace a0H := X8 a0H hb; replace HB := Q8 HB hb; (try clear hb); (try clear ho0); obtain ⟨b3P, b3Q, d1v⟩ := Kd.H6 c2c.out; subst d1v) | ((with_reducible refine D6 (b := .append) (xs := #[.tmp 45, .tmp 49]) rfl ?_); at_builtin; refine Kd.G9 (Kd.int .u8) (w0 := w) w.heap.size rfl (.tmp 45) (.tmp 49) 22 5 (.int .u8 0) 1 rfl Tryd.underlying22 info5 rfl (by decide) (by omega) c1Y a9n c4d _ _ _ (fun k_ => some k_ ≠ (.slice b3P c4d.length b3Q : Value).ownBlock) (fun _ => False) rfl rfl ?aO ?aR (fun _ _ h => h) (fun _ h => h.elim) ?aF ?aB ?aS ?aL ?_; (case aR => exact (Kd.F9 c2c.out).2.2); (case aB => exact HB.out); (case aF => exact (fun k_ hk => Kd.fresh' (Kd.U8 c2c.out) k_ hk)); (case aO => exact (by exact Kd.y9 a3o.out (fun _ hk => hk.2))); (case aS => exact (o9 HB.out)); (case aL => have := f0e.out; omega); intro g9n w44 ho hb hg hat; rw [← f0f.out] at ho; have f0g := a_ ho; replace a0H := a_ (L9 a0H.out hg (Kd.a3L a3o.out a0H.out (by decide))); replace c2c := a_ (Kd.Q7 (ok := (fun _ => True)) c2c.out hg hat); replace HB := a_ hb; clear a3o ho hb hg hat))
     go_ret
     exact ⟨_, by (rfl), by exact Kd.y9 f0g.out (fun _ hk => trivial), by exact HB.out⟩
    ·rw [if_neg c35] at H; have c1E := bq_ c35; have d2Z := bn_ c35; obtain rfl := oj_ H
     go_enter Tryd.func41, Tryd.ntmps41
     go_wp2_with (first | (refine be_ 1 #[.int .i64 G8, .int .u32 O9, .slice a3h U5.length a3i] 58 ?_; intro c69 hg w46 hbox hb; have a0H := a_ hbox; have c7a := lb_ HB hg; replace HB := Q8 HB hb; clear hb hbox hg; obtain ⟨d8J, d8K, f5J, d8L, d8M, f5K⟩ := a0u a0H.out) | ((with_reducible refine N7 (N := 7) rfl ?_); refine Kd.a4l (Kd.int .u8) _ 5 ?hg (N := 7) ?hd (xs := ([(G8) % 256] : List Int)) (inner := [.int .u8 ((G8) % 256)]) (ok := fun _ => True) (okp := fun _ => True) ?hr ?hp (fun _ hk => hk) trivial (Below.refl _ _) (Nat.le_refl _) (by simp) ?_; (case hd => rfl); (case hg => rfl); (case hr => (go_simp; done)); (case hp => exact (J3.one (show Kd.M (Kd.int .u8) _ _ _ ((G8) % 256) [.int .u8 ((G8) % 256)] from rfl) (J3.none _ _))); intro c1Y w48 e4A hb hg_ V8; clear hg_ V8; (rw [← c1X.out] at e4A); have a3o := rl_ e4A HB; replace a0H := X8 a0H hb; replace HB := Q8 HB hb; clear hb e4A; obtain ⟨f5L, f5M, f5N, f5O, f5P, f5Q⟩ := a0u a0H.out))
     go_ret
     exact ⟨_, by (rfl), by exact a3o.out, by exact HB.out⟩
def U0.l0 : Nat → List (S58) → List Int → Int → Option (List Int × Int)
 | 0, _, _, _ => none
 | k + 1, x0, x4, x5 => if x5 < (x0.length : Int) then (if 0 ≤ x5 then ((S9.f k ((D5 x0 x5).f0) ((D5 x0 x5).f1) ((D5 x0 x5).f2)).bind fun e4B => (if e4B = true then (if (((D5 x0 x5).f2).length : Int) > 65535 then (some (([] : List Int), 4)) else ((a2c.f k ((D5 x0 x5).f0) ((D5 x0 x5).f1) ((D5 x0 x5).f2)).bind fun c4e => (if x4.length + c4e.length < 140737488355328 then (U0.l0 k x0 (x4 ++ c4e) (wrap64 (x5 + 1))) else (none)))) else (some (([] : List Int), 1)))) else (none)) else (some (x4, 0))
def U0.f (k : Nat) (l0 : List (S58)) : Option (List Int × Int) := U0.l0 k l0 ([] : List Int) 0
theorem U0.calls (k : Nat) (A0 : Option Addr) (c0 : Nat) (l0 : List (S58)) (r1 : List Int) (r2 : Int) (w : World) (hr0 : Kd.C k58 w A0 l0.length l0) (hc0 : l0.length ≤ c0) (h : U0.f k l0 = some (r1, r2)) :
  Calls Tryd.prog 21 #[.slice A0 l0.length c0] w fun e w' => ∃ v0_ : Value, e = .returned (.tuple #[v0_, .int .i64 r2]) ∧ Kd.R (Kd.int .u8) 5 w' w.heap.size (fun _ => True) v0_ r1 ∧ Below w.heap.size w w' := by
 have c1h := Tryd.underlying58
 have HR0 := a_ hr0
 have HC0 := a_ hc0
 clear hr0 hc0
 have HB := a_ (Below.refl w.heap.size w)
 have H := h
 clear h
 unfold U0.f at H
 have H' := a_ H
 clear H
 go_enter Tryd.func21, Tryd.ntmps21
 go_wp2
 go_loopg [4, 5] k (fun kq v4 v5 w' => ∃ (a4z : List Int) (J7 : Int), v5 = .int .i64 J7 ∧ Aside0 (U0.l0 kq l0 a4z J7 = some (r1, r2)) ∧ Aside0 (kq ≤ k) ∧ Aside0 (Kd.R (Kd.int .u8) 5 w' w.heap.size (fun _ => True) v4 a4z) ∧ Aside0 (Below w.heap.size w w'))
 case atStart => exact ⟨([] : List Int), (0), (by rfl), H', ⟨Nat.le_refl _⟩, ⟨by (exact Kd.Y4 _ _ _ _ _)⟩, ⟨by exact HB.out⟩⟩
 case round =>
  clear H'; obtain ⟨a4z, J7, rfl, HA, HK1, a1I, HB⟩ := hrel
  cases gk with
  | zero => exact absurd HA.out (by simp [U0.l0])
  | succ k1 =>
   have H := HA.out; clear HA
   simp only [U0.l0] at H
   by_cases c2 : J7 < (l0.length : Int)
   ·rw [if_pos c2] at H; have a7Y := dt_ c2; clear c2; have a3w := a2Q H; replace H := O6 H; obtain ⟨e4B, A4, H⟩ := bd_ H
    try dsimp only at H
    by_cases c5 : e4B = true
    ·subst c5; rw [if_pos rfl] at H
     by_cases c6 : (((D5 l0 J7).f2).length : Int) > 65535
     ·rw [if_pos c6] at H; have a5Y : decide (65535 < (((D5 l0 J7).f2).length : Int)) = true := dt_ c6; have b2w : decide (65535 < ((D5 l0 J7).f2).length) = true := dt_ (by omega); clear c6; obtain ⟨rfl, rfl⟩ := s2_ H; have b68 : 0 ≤ (J7 : Int) := U9; have b69 : J7 < (l0.length : Int) := U9; obtain ⟨c2d, b7a, b7b, d4p, a7s, a7t, a7u, a7v, a7w⟩ := a6H HR0.out J7 b68 b69
      cases d4p
      replace a7s := J9 HB a7s; replace a7t := J9 HB a7t; replace a7u := J9 HB a7u; have b2T := a_ a7w; have b2U := a_ a7v; clear a7w a7v; replace b68 := eq_true b68; replace b69 := eq_true b69
      go_wp2_with (first | (refine gl_ (some 16) Tryd.func40 #[.agg #[.int .i64 ((D5 l0 J7).f0), .int .u32 ((D5 l0 J7).f1), .slice b7a ((D5 l0 J7).f2).length b7b]] ?_; (with_reducible refine (S9.calls k1 ((D5 l0 J7).f0) ((D5 l0 J7).f1) _ _ ((D5 l0 J7).f2) true _ (Kd.E8 b2T.out HB.out) b2U.out A4.out).mono ?_); rintro e w7 ⟨rfl, hb⟩; refine ⟨_, rfl, ?_⟩; replace a1I := rb_ a1I hb; replace HB := Q8 HB hb; (try clear hb); have c4f : 0 ≤ (J7 : Int) := U9; have c4g : J7 < (l0.length : Int) := U9; obtain ⟨d4q, d4r, d4s, e4C, b2V, b2W, b0l, b2X, b2Y⟩ := a6H HR0.out J7 c4f c4g; obtain rfl : c2d = d4q := (by injection e4C); replace b2V := J9 HB b2V; replace b2W := J9 HB b2W; replace b0l := J9 HB b0l; have d8Y := a_ b2Y; have d8Z := a_ b2X; clear b2Y b2X; replace c4f := eq_true c4f; replace c4g := eq_true c4g))
      go_ret2
      exact ⟨_, by (rfl), by (exact Kd.Y4 _ _ _ _ _), by exact HB.out⟩
     ·rw [if_neg c6] at H; have a5Y : decide (65535 < (((D5 l0 J7).f2).length : Int)) = false := df_ c6; have b2w : decide (65535 < ((D5 l0 J7).f2).length) = false := df_ (by omega); clear c6; obtain ⟨c4e, A8, H⟩ := bd_ H
      (try dsimp only at H); have c9 := X4 H; replace H := O6 H; have d2r := a_ c9; clear c9; obtain ⟨g1P, d4t⟩ := is_ ((a4z ++ c4e) : List Int); rw [← d4t] at H; have f0h := a_ d4t; clear d4t; have H' := a_ H; clear H; have b68 : 0 ≤ (J7 : Int) := U9; have b69 : J7 < (l0.length : Int) := U9; obtain ⟨c2d, b7a, b7b, d4p, a7s, a7t, a7u, a7v, a7w⟩ := a6H HR0.out J7 b68 b69
      cases d4p
      replace a7s := J9 HB a7s; replace a7t := J9 HB a7t; replace a7u := J9 HB a7u; have b2T := a_ a7w; have b2U := a_ a7v; clear a7w a7v; replace b68 := eq_true b68; replace b69 := eq_true b69
      go_wp2_with (first | (refine gl_ (some 16) Tryd.func40 #[.agg #[.int .i64 ((D5 l0 J7).f0), .int .u32 ((D5 l0 J7).f1), .slice b7a ((D5 l0 J7).f2).length b7b]] ?_; (with_reducible refine (S9.calls k1 ((D5 l0 J7).f0) ((D5 l0 J7).f1) _ _ ((D5 l0 J7).f2) true _ (Kd.E8 b2T.out HB.out) b2U.out A4.out).mono ?_); rintro e w10 ⟨rfl, hb⟩; refine ⟨_, rfl, ?_⟩; replace a1I := rb_ a1I hb; replace HB := Q8 HB hb; (try clear hb); have c4f : 0 ≤ (J7 : Int) := U9; have c4g : J7 < (l0.length : Int) := U9; obtain ⟨d4q, d4r, d4s, e4C, b2V, b2W, b0l, b2X, b2Y⟩ := a6H HR0.out J7 c4f c4g; obtain rfl : c2d = d4q := (by injection e4C); replace b2V := J9 HB b2V; replace b2W := J9 HB b2W; replace b0l := J9 HB b0l; have d8Y := a_ b2Y; have d8Z := a_ b2X; clear b2Y b2X; replace c4f := eq_true c4f; replace c4g := eq_true c4g; have e4D : 0 ≤ (J7 : Int) := U9; have e4E : J7 < (l0.length : Int) := U9; obtain ⟨f0i, g1Q, g1R, g1S, c7n, c7o, b9D, c7p, c7q⟩ := a6H HR0.out J7 e4D e4E; obtain rfl : c2d = f0i := (by injection g1S); replace c7n := J9 HB c7n; replace c7o := J9 HB c7o; replace b9D := J9 HB b9D; have d80 := a_ c7q; have d81 := a_ c7p; clear c7q c7p; replace e4D := eq_true e4D; replace e4E := eq_true e4E; have ea_ := oj_ (b0l.symm.trans b9D); injection ea_ with ea_ en_ ec_; subst ea_; subst ec_; clear en_) | (refine gl_ (some 30) Tryd.func41 #[.agg #[.int .i64 ((D5 l0 J7).f0), .int .u32 ((D5 l0 J7).f1), .slice d4r ((D5 l0 J7).f2).length d4s]] ?_; (with_reducible refine (a2c.calls k1 ((D5 l0 J7).f0) ((D5 l0 J7).f1) _ _ ((D5 l0 J7).f2) c4e _ (Kd.E8 d80.out HB.out) d81.out A8.out).mono ?_); rintro e w11 ⟨g9o, rfl, ho0, hb⟩; refine ⟨_, rfl, ?_⟩; have c2e := rn_ ho0 a1I HB; replace a1I := rR_ a1I ho0 hb; replace HB := Q8 HB hb; (try clear hb); (try clear ho0); obtain ⟨d8O, d8P, e4x⟩ := Kd.H6 c2e.out; subst e4x) | ((with_reducible refine D6 (b := .append) (xs := #[.tmp 25, .tmp 30]) rfl ?_); at_builtin; refine Kd.G9 (Kd.int .u8) (w0 := w) w.heap.size rfl (.tmp 25) (.tmp 30) 22 5 (.int .u8 0) 1 rfl Tryd.underlying22 info5 rfl (by decide) (by omega) u4 a4z c4e _ _ _ (fun k_ => some k_ ≠ (.slice d8O c4e.length d8P : Value).ownBlock) (fun _ => False) rfl rfl ?aO ?aR (fun _ _ h => h) (fun _ h => h.elim) ?aF ?aB ?aS ?aL ?_; (case aR => exact (Kd.F9 c2e.out).2.2); (case aB => exact HB.out); (case aF => exact (fun k_ hk => Kd.fresh' (Kd.U8 c2e.out) k_ hk)); (case aO => exact (by exact Kd.y9 a1I.out (fun _ hk => hk.2))); (case aS => exact (o9 HB.out)); (case aL => have := d2r.out; omega); intro g9p w12 ho hb hg hat; rw [← f0h.out] at ho; have f0j := a_ ho; replace c2e := a_ (Kd.Q7 (ok := (fun _ => True)) c2e.out hg hat); replace HB := a_ hb; clear a1I ho hb hg hat))
      go_roundg k1
      case measure => have := HK1.out; omega
      case rel => exact ⟨(g1P), (wrap64 (J7 + 1)), (by rfl), H', ⟨by have := HK1.out; omega⟩, ⟨by exact Kd.y9 f0j.out (fun _ hk => trivial)⟩, ⟨by exact HB.out⟩⟩
    ·cases nt_ c5
     rw [if_neg a2O] at H; obtain ⟨rfl, rfl⟩ := s2_ H; have b68 : 0 ≤ (J7 : Int) := U9; have b69 : J7 < (l0.length : Int) := U9; obtain ⟨c2d, b7a, b7b, d4p, a7s, a7t, a7u, a7v, a7w⟩ := a6H HR0.out J7 b68 b69
     cases d4p
     replace a7s := J9 HB a7s; replace a7t := J9 HB a7t; replace a7u := J9 HB a7u; have b2T := a_ a7w; have b2U := a_ a7v; clear a7w a7v; replace b68 := eq_true b68; replace b69 := eq_true b69
     go_wp2_with (first | (refine gl_ (some 16) Tryd.func40 #[.agg #[.int .i64 ((D5 l0 J7).f0), .int .u32 ((D5 l0 J7).f1), .slice b7a ((D5 l0 J7).f2).length b7b]] ?_; (with_reducible refine (S9.calls k1 ((D5 l0 J7).f0) ((D5 l0 J7).f1) _ _ ((D5 l0 J7).f2) false _ (Kd.E8 b2T.out HB.out) b2U.out A4.out).mono ?_); rintro e w14 ⟨rfl, hb⟩; refine ⟨_, rfl, ?_⟩; replace a1I := rb_ a1I hb; replace HB := Q8 HB hb; (try clear hb)))
     go_ret2
     exact ⟨_, by (rfl), by (exact Kd.Y4 _ _ _ _ _), by exact HB.out⟩
   ·rw [if_neg c2] at H; have a7Y := df_ c2; clear c2; obtain ⟨rfl, rfl⟩ := s2_ H
    go_wp2
    go_ret2
    exact ⟨_, by (rfl), by exact a1I.out, by exact HB.out⟩
def a2d.f (a0 : Int) (a1 : Bool) (a2 : Bool) : Option (List Int) := if a1 = true then ((some (([255, 3] : List Int) : List Int)).bind fun a9o => (if ([] : List Int).length + a9o.length < 140737488355328 then ((some (([] : List Int) ++ a9o : List Int)).bind fun b4a => (if a2 = true then (if a0 < 256 then (if b4a.length < 140737488355328 then (some (b4a ++ [(a0) % 256])) else (none)) else ((some (([(wrap64 (Int.tdiv a0 256)) % 256, (Int.tmod a0 256) % 256] : List Int) : List Int)).bind fun c4h => (if b4a.length + c4h.length < 140737488355328 then (some (b4a ++ c4h)) else (none)))) else ((some (([(wrap64 (Int.tdiv a0 256)) % 256, (Int.tmod a0 256) % 256] : List Int) : List Int)).bind fun c4i => (if b4a.length + c4i.length < 140737488355328 then (some (b4a ++ c4i)) else (none))))) else (none))) else (if a2 = true then (if a0 < 256 then (if ([] : List Int).length < 140737488355328 then (some (([] : List Int) ++ [(a0) % 256])) else (none)) else ((some (([(wrap64 (Int.tdiv a0 256)) % 256, (Int.tmod a0 256) % 256] : List Int) : List Int)).bind fun c4j => (if ([] : List Int).length + c4j.length < 140737488355328 then (some (([] : List Int) ++ c4j)) else (none)))) else ((some (([(wrap64 (Int.tdiv a0 256)) % 256, (Int.tmod a0 256) % 256] : List Int) : List Int)).bind fun c4k => (if ([] : List Int).length + c4k.length < 140737488355328 then (some (([] : List Int) ++ c4k)) else (none))))
theorem a2d.calls (a0 : Int) (a1 : Bool) (a2 : Bool) (r : List Int) (w : World) (h : a2d.f a0 a1 a2 = some r) :
  Calls Tryd.prog 55 #[.int .i64 a0, .bool a1, .bool a2] w fun e w' => ∃ v0_ : Value, e = .returned (v0_) ∧ Kd.R (Kd.int .u8) 5 w' w.heap.size (fun _ => True) v0_ r ∧ Below w.heap.size w w' := by
 have HB := a_ (Below.refl w.heap.size w)
 have H := h
 clear h
 unfold a2d.f at H
 by_cases c4 : a1 = true
 ·subst c4; rw [if_pos rfl] at H; obtain ⟨a9o, d4u⟩ := is_ ([255, 3] : List Int); rw [Option.bind_some, ← d4u] at H; have d4v := a_ d4u; clear d4u; have c5 := X4 H; replace H := O6 H; have d3v := a_ c5; clear c5; obtain ⟨b4a, d4w⟩ := is_ ((([] : List Int) ++ a9o) : List Int); rw [Option.bind_some, ← d4w] at H; have d4x := a_ d4w; clear d4w
  by_cases c6 : a2 = true
  ·subst c6; rw [if_pos rfl] at H
   by_cases c7 : a0 < 256
   ·rw [if_pos c7] at H; have a5H := dt_ c7; clear c7; have c8 := X4 H; replace H := O6 H; have b6V := a_ c8; clear c8; obtain ⟨g9q, d4y⟩ := is_ ((b4a ++ [(a0) % 256]) : List Int); rw [← d4y] at H; have f0k := a_ d4y; clear d4y; obtain rfl := oj_ H
    go_enter Tryd.func55, Tryd.ntmps55
    go_wp2_with (first | (refine b6t .u8 5 10 ([255, 3] : List Int) ?_; intro f0l w9 e4F hb; (rw [← d4v.out] at e4F); have a2x := rl_ e4F HB; replace HB := Q8 HB hb; clear hb e4F; obtain ⟨e4G, e4H, g1T⟩ := Kd.H6 a2x.out; subst g1T) | ((with_reducible refine D6 (b := .append) (xs := #[.tmp 9, .tmp 10]) rfl ?_); at_builtin; refine Kd.G9 (Kd.int .u8) (w0 := w) w.heap.size rfl (.tmp 9) (.tmp 10) 22 5 (.int .u8 0) 1 rfl Tryd.underlying22 info5 rfl (by decide) (by omega) (.slice none 0 0) ([] : List Int) a9o _ _ _ (fun k_ => some k_ ≠ (.slice e4G a9o.length e4H : Value).ownBlock) (fun _ => False) rfl rfl ?aO ?aR (fun _ _ h => h) (fun _ h => h.elim) ?aF ?aB ?aS ?aL ?_; (case aR => exact (Kd.F9 a2x.out).2.2); (case aB => exact HB.out); (case aF => exact (fun k_ hk => Kd.fresh' (Kd.U8 a2x.out) k_ hk)); (case aO => exact ((Kd.Y4 _ _ _ _ (fun k_ => some k_ ≠ (.slice e4G a9o.length e4H : Value).ownBlock)))); (case aS => exact (o9 HB.out)); (case aL => have := d3v.out; omega); intro d4z w11 ho hb hg hat; rw [← d4x.out] at ho; have a7x := a_ ho; replace a2x := a_ (Kd.Q7 (Kd.a2r a2x.out) hg hat); replace HB := a_ hb; clear ho hb hg hat) | ((with_reducible refine D6 (b := .append) (xs := #[.tmp 17, .tmp 20]) rfl ?_); at_builtin; refine Kd.a1F (Kd.int .u8) (w0 := w) w.heap.size rfl (.tmp 17) (.tmp 20) 22 5 (.int .u8 0) 1 rfl Tryd.underlying22 info5 rfl (by decide) (by omega) d4z b4a ((a0) % 256) [.int .u8 ((a0) % 256)] (fun k_ => some k_ ≠ (.slice e4G a9o.length e4H : Value).ownBlock) (fun _ => False) rfl rfl ?aP (fun _ hk => hk.elim) ?aF ?aO ?aB ?aS ?aL ?_; (case aP => exact rfl); (case aB => exact HB.out); (case aF => exact (fun k_ hk => Kd.fresh' (Kd.U8 a2x.out) k_ hk)); (case aO => exact a7x.out); (case aS => exact (o9 HB.out)); (case aL => have := b6V.out; omega); intro g9r w13 ho hb hg hat; rw [← f0k.out] at ho; have f0m := a_ ho; replace a2x := a_ (Kd.Q7 (ok := (fun _ => True)) a2x.out hg hat); replace HB := a_ hb; clear a7x ho hb hg hat))
    go_ret
    exact ⟨_, by (rfl), by exact Kd.y9 f0m.out (fun _ hk => trivial), by exact HB.out⟩
   ·rw [if_neg c7] at H; have a5H := df_ c7; clear c7; obtain ⟨c4h, d4A⟩ := is_ ((([(wrap64 (Int.tdiv a0 256)) % 256, (Int.tmod a0 256) % 256] : List Int)) : List Int); rw [Option.bind_some, ← d4A] at H; have f0n := a_ d4A; clear d4A; have c14 := X4 H; replace H := O6 H; have c2f := a_ c14; clear c14; obtain ⟨g9s, d4B⟩ := is_ ((b4a ++ c4h) : List Int); rw [← d4B] at H; have f0o := a_ d4B; clear d4B; obtain rfl := oj_ H
    go_enter Tryd.func55, Tryd.ntmps55
    go_wp2_with (first | (refine b6t .u8 5 10 ([255, 3] : List Int) ?_; intro f0l w15 c1z hb; (rw [← d4v.out] at c1z); have a2x := rl_ c1z HB; replace HB := Q8 HB hb; clear hb c1z; obtain ⟨b35, b36, d2K⟩ := Kd.H6 a2x.out; subst d2K) | ((with_reducible refine D6 (b := .append) (xs := #[.tmp 9, .tmp 10]) rfl ?_); at_builtin; refine Kd.G9 (Kd.int .u8) (w0 := w) w.heap.size rfl (.tmp 9) (.tmp 10) 22 5 (.int .u8 0) 1 rfl Tryd.underlying22 info5 rfl (by decide) (by omega) (.slice none 0 0) ([] : List Int) a9o _ _ _ (fun k_ => some k_ ≠ (.slice b35 a9o.length b36 : Value).ownBlock) (fun _ => False) rfl rfl ?aO ?aR (fun _ _ h => h) (fun _ h => h.elim) ?aF ?aB ?aS ?aL ?_; (case aR => exact (Kd.F9 a2x.out).2.2); (case aB => exact HB.out); (case aF => exact (fun k_ hk => Kd.fresh' (Kd.U8 a2x.out) k_ hk)); (case aO => exact ((Kd.Y4 _ _ _ _ (fun k_ => some k_ ≠ (.slice b35 a9o.length b36 : Value).ownBlock)))); (case aS => exact (o9 HB.out)); (case aL => have := d3v.out; omega); intro d4z w17 ho hb hg hat; rw [← d4x.out] at ho; have a7x := a_ ho; replace a2x := a_ (Kd.Q7 (Kd.a2r a2x.out) hg hat); replace HB := a_ hb; clear ho hb hg hat) | ((with_reducible refine N7 (N := 29) rfl ?_); refine Kd.a4l (Kd.int .u8) _ 5 ?hg (N := 29) ?hd (xs := ([(wrap64 (Int.tdiv a0 256)) % 256, (Int.tmod a0 256) % 256] : List Int)) (inner := [.int .u8 ((wrap64 (Int.tdiv a0 256)) % 256), .int .u8 ((Int.tmod a0 256) % 256)]) (ok := fun _ => True) (okp := fun _ => True) ?hr ?hp (fun _ hk => hk) trivial (Below.refl _ _) (Nat.le_refl _) (by simp) ?_; (case hd => rfl); (case hg => rfl); (case hr => (go_simp; done)); (case hp => exact (J3.one (show Kd.M (Kd.int .u8) _ _ _ ((wrap64 (Int.tdiv a0 256)) % 256) [.int .u8 ((wrap64 (Int.tdiv a0 256)) % 256)] from rfl) (J3.one (show Kd.M (Kd.int .u8) _ _ _ ((Int.tmod a0 256) % 256) [.int .u8 ((Int.tmod a0 256) % 256)] from rfl) (J3.none _ _)))); intro g9t w19 b4I hb hg_ V8; clear hg_ V8; (rw [← f0n.out] at b4I); have c2g := a_ (Kd.X3 (Kd.a03 (Kd.a03 b4I (Kd.U8 a2x.out)) (Kd.U8 a7x.out)) (o9 HB.out)); replace a2x := rR_ a2x b4I hb; replace a7x := rR_ a7x b4I hb; replace HB := Q8 HB hb; clear hb b4I; obtain ⟨f0p, f0q, g1U⟩ := Kd.H6 c2g.out; subst g1U) | ((with_reducible refine D6 (b := .append) (xs := #[.tmp 22, .tmp 29]) rfl ?_); at_builtin; refine Kd.G9 (Kd.int .u8) (w0 := w) w.heap.size rfl (.tmp 22) (.tmp 29) 22 5 (.int .u8 0) 1 rfl Tryd.underlying22 info5 rfl (by decide) (by omega) d4z b4a c4h _ _ _ (fun k_ => some k_ ≠ (.slice b35 a9o.length b36 : Value).ownBlock ∧ some k_ ≠ (.slice f0p c4h.length f0q : Value).ownBlock) (fun _ => False) rfl rfl ?aO ?aR (fun _ _ h => h) (fun _ h => h.elim) ?aF ?aB ?aS ?aL ?_; (case aR => exact (Kd.F9 c2g.out).2.2); (case aB => exact HB.out); (case aF => exact (fun k_ hk => ⟨Kd.fresh' (Kd.U8 a2x.out) k_ hk, Kd.fresh' (Kd.U8 c2g.out) k_ hk⟩)); (case aO => exact a7x.out); (case aS => exact (o9 HB.out)); (case aL => have := c2f.out; omega); intro g9u w21 ho hb hg hat; rw [← f0o.out] at ho; have f0r := a_ ho; replace a2x := a_ (Kd.Q7 (ok := (fun k_ => some k_ ≠ (.slice f0p c4h.length f0q : Value).ownBlock)) (by exact Kd.y9 a2x.out (fun _ hk => ⟨hk.2, hk.1.2⟩)) hg hat); replace c2g := a_ (Kd.Q7 (ok := (fun k_ => some k_ ≠ (.slice b35 a9o.length b36 : Value).ownBlock)) (by exact Kd.y9 c2g.out (fun _ hk => ⟨hk.1.2, hk.2⟩)) hg hat); replace HB := a_ hb; clear a7x ho hb hg hat))
    go_ret
    exact ⟨_, by (rfl), by exact Kd.y9 f0r.out (fun _ hk => trivial), by exact HB.out⟩
  ·cases nt_ c6
   rw [if_neg a2O] at H; obtain ⟨c4i, d4C⟩ := is_ ((([(wrap64 (Int.tdiv a0 256)) % 256, (Int.tmod a0 256) % 256] : List Int)) : List Int); rw [Option.bind_some, ← d4C] at H; have f0s := a_ d4C; clear d4C; have c23 := X4 H; replace H := O6 H; have f0t := a_ c23; clear c23; obtain ⟨g9v, d4D⟩ := is_ ((b4a ++ c4i) : List Int); rw [← d4D] at H; have f0u := a_ d4D; clear d4D; obtain rfl := oj_ H
   go_enter Tryd.func55, Tryd.ntmps55
   go_wp2_with (first | (refine b6t .u8 5 10 ([255, 3] : List Int) ?_; intro f0l w24 b7F hb; (rw [← d4v.out] at b7F); have a2x := rl_ b7F HB; replace HB := Q8 HB hb; clear hb b7F; obtain ⟨a7e, a7f, c3n⟩ := Kd.H6 a2x.out; subst c3n) | ((with_reducible refine D6 (b := .append) (xs := #[.tmp 9, .tmp 10]) rfl ?_); at_builtin; refine Kd.G9 (Kd.int .u8) (w0 := w) w.heap.size rfl (.tmp 9) (.tmp 10) 22 5 (.int .u8 0) 1 rfl Tryd.underlying22 info5 rfl (by decide) (by omega) (.slice none 0 0) ([] : List Int) a9o _ _ _ (fun k_ => some k_ ≠ (.slice a7e a9o.length a7f : Value).ownBlock) (fun _ => False) rfl rfl ?aO ?aR (fun _ _ h => h) (fun _ h => h.elim) ?aF ?aB ?aS ?aL ?_; (case aR => exact (Kd.F9 a2x.out).2.2); (case aB => exact HB.out); (case aF => exact (fun k_ hk => Kd.fresh' (Kd.U8 a2x.out) k_ hk)); (case aO => exact ((Kd.Y4 _ _ _ _ (fun k_ => some k_ ≠ (.slice a7e a9o.length a7f : Value).ownBlock)))); (case aS => exact (o9 HB.out)); (case aL => have := d3v.out; omega); intro d4z w26 ho hb hg hat; rw [← d4x.out] at ho; have a7x := a_ ho; replace a2x := a_ (Kd.Q7 (Kd.a2r a2x.out) hg hat); replace HB := a_ hb; clear ho hb hg hat) | ((with_reducible refine N7 (N := 29) rfl ?_); refine Kd.a4l (Kd.int .u8) _ 5 ?hg (N := 29) ?hd (xs := ([(wrap64 (Int.tdiv a0 256)) % 256, (Int.tmod a0 256) % 256] : List Int)) (inner := [.int .u8 ((wrap64 (Int.tdiv a0 256)) % 256), .int .u8 ((Int.tmod a0 256) % 256)]) (ok := fun _ => True) (okp := fun _ => True) ?hr ?hp (fun _ hk => hk) trivial (Below.refl _ _) (Nat.le_refl _) (by simp) ?_; (case hd => rfl); (case hg => rfl); (case hr => (go_simp; done)); (case hp => exact (J3.one (show Kd.M (Kd.int .u8) _ _ _ ((wrap64 (Int.tdiv a0 256)) % 256) [.int .u8 ((wrap64 (Int.tdiv a0 256)) % 256)] from rfl) (J3.one (show Kd.M (Kd.int .u8) _ _ _ ((Int.tmod a0 256) % 256) [.int .u8 ((Int.tmod a0 256) % 256)] from rfl) (J3.none _ _)))); intro g9w w28 b2k hb hg_ V8; clear hg_ V8; (rw [← f0s.out] at b2k); have c2h := a_ (Kd.X3 (Kd.a03 (Kd.a03 b2k (Kd.U8 a2x.out)) (Kd.U8 a7x.out)) (o9 HB.out)); replace a2x := rR_ a2x b2k hb; replace a7x := rR_ a7x b2k hb; replace HB := Q8 HB hb; clear hb b2k; obtain ⟨c9J, c9K, e4I⟩ := Kd.H6 c2h.out; subst e4I) | ((with_reducible refine D6 (b := .append) (xs := #[.tmp 22, .tmp 29]) rfl ?_); at_builtin; refine Kd.G9 (Kd.int .u8) (w0 := w) w.heap.size rfl (.tmp 22) (.tmp 29) 22 5 (.int .u8 0) 1 rfl Tryd.underlying22 info5 rfl (by decide) (by omega) d4z b4a c4i _ _ _ (fun k_ => some k_ ≠ (.slice a7e a9o.length a7f : Value).ownBlock ∧ some k_ ≠ (.slice c9J c4i.length c9K : Value).ownBlock) (fun _ => False) rfl rfl ?aO ?aR (fun _ _ h => h) (fun _ h => h.elim) ?aF ?aB ?aS ?aL ?_; (case aR => exact (Kd.F9 c2h.out).2.2); (case aB => exact HB.out); (case aF => exact (fun k_ hk => ⟨Kd.fresh' (Kd.U8 a2x.out) k_ hk, Kd.fresh' (Kd.U8 c2h.out) k_ hk⟩)); (case aO => exact a7x.out); (case aS => exact (o9 HB.out)); (case aL => have := f0t.out; omega); intro g9x w30 ho hb hg hat; rw [← f0u.out] at ho; have f0v := a_ ho; replace a2x := a_ (Kd.Q7 (ok := (fun k_ => some k_ ≠ (.slice c9J c4i.length c9K : Value).ownBlock)) (by exact Kd.y9 a2x.out (fun _ hk => ⟨hk.2, hk.1.2⟩)) hg hat); replace c2h := a_ (Kd.Q7 (ok := (fun k_ => some k_ ≠ (.slice a7e a9o.length a7f : Value).ownBlock)) (by exact Kd.y9 c2h.out (fun _ hk => ⟨hk.1.2, hk.2⟩)) hg hat); replace HB := a_ hb; clear a7x ho hb hg hat))
   go_ret
   exact ⟨_, by (rfl), by exact Kd.y9 f0v.out (fun _ hk => trivial), by exact HB.out⟩
 ·cases nt_ c4
  rw [if_neg a2O] at H
  by_cases c32 : a2 = true
  ·subst c32; rw [if_pos rfl] at H
   by_cases c33 : a0 < 256
   ·rw [if_pos c33] at H; have e0Q := dt_ c33; clear c33; have c34 := X4 H; replace H := O6 H; have f0w := a_ c34; clear c34; obtain ⟨g9y, d4E⟩ := is_ ((([] : List Int) ++ [(a0) % 256]) : List Int); rw [← d4E] at H; have f0x := a_ d4E; clear d4E; obtain rfl := oj_ H
    go_enter Tryd.func55, Tryd.ntmps55
    go_wp2_with (first | ((with_reducible refine D6 (b := .append) (xs := #[.tmp 17, .tmp 20]) rfl ?_); at_builtin; refine Kd.a1F (Kd.int .u8) (w0 := w) w.heap.size rfl (.tmp 17) (.tmp 20) 22 5 (.int .u8 0) 1 rfl Tryd.underlying22 info5 rfl (by decide) (by omega) (.slice none 0 0) ([] : List Int) ((a0) % 256) [.int .u8 ((a0) % 256)] (fun _ => True) (fun _ => False) rfl rfl ?aP (fun _ hk => hk.elim) ?aF ?aO ?aB ?aS ?aL ?_; (case aP => exact rfl); (case aB => exact HB.out); (case aF => exact (fun _ _ => trivial)); (case aO => exact (Kd.Y4 _ _ _ _ (fun _ => True))); (case aS => exact (o9 HB.out)); (case aL => have := f0w.out; omega); intro g9z w35 ho hb hg hat; rw [← f0x.out] at ho; have f0y := a_ ho; replace HB := a_ hb; clear ho hb hg hat))
    go_ret
    exact ⟨_, by (rfl), by exact f0y.out, by exact HB.out⟩
   ·rw [if_neg c33] at H; have e0Q := df_ c33; clear c33; obtain ⟨c4j, d4F⟩ := is_ ((([(wrap64 (Int.tdiv a0 256)) % 256, (Int.tmod a0 256) % 256] : List Int)) : List Int); rw [Option.bind_some, ← d4F] at H; have f0z := a_ d4F; clear d4F; have c36 := X4 H; replace H := O6 H; have c1P := a_ c36; clear c36; obtain ⟨g9A, d4G⟩ := is_ ((([] : List Int) ++ c4j) : List Int); rw [← d4G] at H; have f0A := a_ d4G; clear d4G; obtain rfl := oj_ H
    go_enter Tryd.func55, Tryd.ntmps55
    go_wp2_with (first | ((with_reducible refine N7 (N := 29) rfl ?_); refine Kd.a4l (Kd.int .u8) _ 5 ?hg (N := 29) ?hd (xs := ([(wrap64 (Int.tdiv a0 256)) % 256, (Int.tmod a0 256) % 256] : List Int)) (inner := [.int .u8 ((wrap64 (Int.tdiv a0 256)) % 256), .int .u8 ((Int.tmod a0 256) % 256)]) (ok := fun _ => True) (okp := fun _ => True) ?hr ?hp (fun _ hk => hk) trivial (Below.refl _ _) (Nat.le_refl _) (by simp) ?_; (case hd => rfl); (case hg => rfl); (case hr => (go_simp; done)); (case hp => exact (J3.one (show Kd.M (Kd.int .u8) _ _ _ ((wrap64 (Int.tdiv a0 256)) % 256) [.int .u8 ((wrap64 (Int.tdiv a0 256)) % 256)] from rfl) (J3.one (show Kd.M (Kd.int .u8) _ _ _ ((Int.tmod a0 256) % 256) [.int .u8 ((Int.tmod a0 256) % 256)] from rfl) (J3.none _ _)))); intro g9B w37 b9E hb hg_ V8; clear hg_ V8; (rw [← f0z.out] at b9E); have c2i := rl_ b9E HB; replace HB := Q8 HB hb; clear hb b9E; obtain ⟨f0B, f0C, g1V⟩ := Kd.H6 c2i.out; subst g1V) | ((with_reducible refine D6 (b := .append) (xs := #[.tmp 22, .tmp 29]) rfl ?_); at_builtin; refine Kd.G9 (Kd.int .u8) (w0 := w) w.heap.size rfl (.tmp 22) (.tmp 29) 22 5 (.int .u8 0) 1 rfl Tryd.underlying22 info5 rfl (by decide) (by omega) (.slice none 0 0) ([] : List Int) c4j _ _ _ (fun k_ => some k_ ≠ (.slice f0B c4j.length f0C : Value).ownBlock) (fun _ => False) rfl rfl ?aO ?aR (fun _ _ h => h) (fun _ h => h.elim) ?aF ?aB ?aS ?aL ?_; (case aR => exact (Kd.F9 c2i.out).2.2); (case aB => exact HB.out); (case aF => exact (fun k_ hk => Kd.fresh' (Kd.U8 c2i.out) k_ hk)); (case aO => exact ((Kd.Y4 _ _ _ _ (fun k_ => some k_ ≠ (.slice f0B c4j.length f0C : Value).ownBlock)))); (case aS => exact (o9 HB.out)); (case aL => have := c1P.out; omega); intro g9C w39 ho hb hg hat; rw [← f0A.out] at ho; have f0D := a_ ho; replace c2i := a_ (Kd.Q7 (Kd.a2r c2i.out) hg hat); replace HB := a_ hb; clear ho hb hg hat))
    go_ret
    exact ⟨_, by (rfl), by exact Kd.y9 f0D.out (fun _ hk => trivial), by exact HB.out⟩
  ·cases nt_ c32
   rw [if_neg a2O] at H; obtain ⟨c4k, d4H⟩ := is_ ((([(wrap64 (Int.tdiv a0 256)) % 256, (Int.tmod a0 256) % 256] : List Int)) : List Int); rw [Option.bind_some, ← d4H] at H; have f0E := a_ d4H; clear d4H; have c41 := X4 H; replace H := O6 H; have d22 := a_ c41; clear c41; obtain ⟨g9D, d4I⟩ := is_ ((([] : List Int) ++ c4k) : List Int); rw [← d4I] at H; have f0F := a_ d4I; clear d4I; obtain rfl := oj_ H
   go_enter Tryd.func55, Tryd.ntmps55
   go_wp2_with (first | ((with_reducible refine N7 (N := 29) rfl ?_); refine Kd.a4l (Kd.int .u8) _ 5 ?hg (N := 29) ?hd (xs := ([(wrap64 (Int.tdiv a0 256)) % 256, (Int.tmod a0 256) % 256] : List Int)) (inner := [.int .u8 ((wrap64 (Int.tdiv a0 256)) % 256), .int .u8 ((Int.tmod a0 256) % 256)]) (ok := fun _ => True) (okp := fun _ => True) ?hr ?hp (fun _ hk => hk) trivial (Below.refl _ _) (Nat.le_refl _) (by simp) ?_; (case hd => rfl); (case hg => rfl); (case hr => (go_simp; done)); (case hp => exact (J3.one (show Kd.M (Kd.int .u8) _ _ _ ((wrap64 (Int.tdiv a0 256)) % 256) [.int .u8 ((wrap64 (Int.tdiv a0 256)) % 256)] from rfl) (J3.one (show Kd.M (Kd.int .u8) _ _ _ ((Int.tmod a0 256) % 256) [.int .u8 ((Int.tmod a0 256) % 256)] from rfl) (J3.none _ _)))); intro g9E w42 e4J hb hg_ V8; clear hg_ V8; (rw [← f0E.out] at e4J); have c2j := rl_ e4J HB; replace HB := Q8 HB hb; clear hb e4J; obtain ⟨b3P, b3Q, d1v⟩ := Kd.H6 c2j.out; subst d1v) | ((with_reducible refine D6 (b := .append) (xs := #[.tmp 22, .tmp 29]) rfl ?_); at_builtin; refine Kd.G9 (Kd.int .u8) (w0 := w) w.heap.size rfl (.tmp 22) (.tmp 29) 22 5 (.int .u8 0) 1 rfl Tryd.underlying22 info5 rfl (by decide) (by omega) (.slice none 0 0) ([] : List Int) c4k _ _ _ (fun k_ => some k_ ≠ (.slice b3P c4k.length b3Q : Value).ownBlock) (fun _ => False) rfl rfl ?aO ?aR (fun _ _ h => h) (fun _ h => h.elim) ?aF ?aB ?aS ?aL ?_; (case aR => exact (Kd.F9 c2j.out).2.2); (case aB => exact HB.out); (case aF => exact (fun k_ hk => Kd.fresh' (Kd.U8 c2j.out) k_ hk)); (case aO => exact ((Kd.Y4 _ _ _ _ (fun k_ => some k_ ≠ (.slice b3P c4k.length b3Q : Value).ownBlock)))); (case aS => exact (o9 HB.out)); (case aL => have := d22.out; omega); intro g9F w44 ho hb hg hat; rw [← f0F.out] at ho; have f0G := a_ ho; replace c2j := a_ (Kd.Q7 (Kd.a2r c2j.out) hg hat); replace HB := a_ hb; clear ho hb hg hat))
   go_ret
   exact ⟨_, by (rfl), by exact Kd.y9 f0G.out (fun _ hk => trivial), by exact HB.out⟩
def a0b.f (G8 : Int) (O9 : Int) (U5 : List Int) : Option (List Int) := (a2d.f O9 true false).bind fun c9L => (if c9L.length + U5.length < 140737488355328 then (some (c9L ++ U5)) else (none))
theorem a0b.calls (G8 : Int) (O9 : Int) (a3h : Option Addr) (a3i : Nat) (U5 : List Int) (r : List Int) (w : World) (a4N : Kd.C (Kd.int .u8) w a3h U5.length U5) (a4O : U5.length ≤ a3i) (h : a0b.f G8 O9 U5 = some r) :
  Calls Tryd.prog 31 #[.agg #[.int .i64 G8, .int .i64 O9, .slice a3h U5.length a3i]] w fun e w' => ∃ v0_ : Value, e = .returned (v0_) ∧ Kd.R (Kd.int .u8) 5 w' w.heap.size (fun _ => True) v0_ r ∧ Below w.heap.size w w' := by
 have b8P := Tryd.underlying42
 have b2I := a_ a4N
 have b8e := a_ a4O
 clear a4N a4O
 have HB := a_ (Below.refl w.heap.size w)
 have H := h
 clear h
 unfold a0b.f at H
 obtain ⟨c9L, A2, H⟩ := bd_ H
 try dsimp only at H
 have c3 := X4 H
 replace H := O6 H
 have c3E := a_ c3
 clear c3
 obtain ⟨g9G, d4J⟩ := is_ ((c9L ++ U5) : List Int)
 rw [← d4J] at H
 have f0H := a_ d4J
 clear d4J
 obtain rfl := oj_ H
 go_enter Tryd.func31, Tryd.ntmps31
 go_wp2_with (first | (refine be_ 1 #[.int .i64 G8, .int .i64 O9, .slice a3h U5.length a3i] 42 ?_; intro g5G hg w4 hbox hb; have b7c := a_ hbox; have g5H := lb_ HB hg; replace HB := Q8 HB hb; clear hb hbox hg; obtain ⟨b1x, b1y, b1z, b1A, b1B, b1C⟩ := a0u b7c.out) | (refine gl_ (some 6) Tryd.func55 #[.int .i64 O9, .bool true, .bool false] ?_; (with_reducible refine (a2d.calls O9 true false c9L _ A2.out).mono ?_); rintro e w6 ⟨g1W, rfl, ho0, hb⟩; refine ⟨_, rfl, ?_⟩; have d4K := rl_ ho0 HB; replace b7c := X8 b7c hb; replace HB := Q8 HB hb; (try clear hb); (try clear ho0); obtain ⟨d27, d28, e3A, d29, d3a, e3B⟩ := a0u b7c.out) | ((with_reducible refine D6 (b := .append) (xs := #[.tmp 7, .tmp 9]) rfl ?_); at_builtin; refine Kd.G9 (Kd.int .u8) (w0 := w) w.heap.size rfl (.tmp 7) (.tmp 9) 22 5 (.int .u8 0) 1 rfl Tryd.underlying22 info5 rfl (by decide) (by omega) g1W c9L U5 _ _ _ (fun _ => True) (fun _ => False) rfl rfl ?aO ?aR (fun _ _ h => h) (fun _ h => h.elim) ?aF ?aB ?aS ?aL ?_; (case aR => exact (Kd.E8 b2I.out HB.out)); (case aB => exact HB.out); (case aF => exact (fun _ _ => trivial)); (case aO => exact d4K.out); (case aS => exact (o9 HB.out)); (case aL => have := c3E.out; omega); intro g9H w8 ho hb hg hat; rw [← f0H.out] at ho; have f0I := a_ ho; replace b7c := a_ (L9 b7c.out hg (Kd.a3L d4K.out b7c.out (by decide))); replace HB := a_ hb; clear d4K ho hb hg hat))
 go_ret
 exact ⟨_, by (rfl), by exact f0I.out, by exact HB.out⟩
mutual
def a0i.j0 : Nat → List Int → Bool → Bool → Option (Int × Bool)
 | 0, _, _, _ => none
 | k + 1, x0, x1, x16 => if x16 = true then (some (0, false)) else (a0i.l0 k x0 x1 0 (x0.length : Int) 0)
def a0i.l0 : Nat → List Int → Bool → Int → Int → Int → Option (Int × Bool)
 | 0, _, _, _, _, _ => none
 | k + 1, x0, x1, x6, x18, x19 => if x19 < x18 then (if 0 ≤ (wrap64 ((wrap64 ((x0.length : Int) - 1)) - x19)) then (if (wrap64 ((wrap64 ((x0.length : Int) - 1)) - x19)) < (x0.length : Int) then (if x1 = true then (if 0 ≤ x19 then (if x19 < (x0.length : Int) then (a0i.l0 k x0 x1 (Go.bits .or .u64 (IntKind.u64.wrap (x6 * 256)) (IntKind.u64.wrap (rd x0 x19))) x18 (wrap64 (x19 + 1))) else (none)) else (none)) else (a0i.l0 k x0 x1 (Go.bits .or .u64 (IntKind.u64.wrap (x6 * 256)) (IntKind.u64.wrap (rd x0 (wrap64 ((wrap64 ((x0.length : Int) - 1)) - x19))))) x18 (wrap64 (x19 + 1)))) else (none)) else (none)) else (some (x6, true))
end
def a0i.f (k : Nat) (l0 : List Int) (a1 : Bool) : Option (Int × Bool) := if (l0.length : Int) < 1 then (a0i.j0 k l0 a1 true) else (a0i.j0 k l0 a1 (decide ((l0.length : Int) > 8)))
theorem a0i.calls (k : Nat) (A0 : Option Addr) (c0 : Nat) (l0 : List Int) (a1 : Bool) (r1 : Int) (r2 : Bool) (w : World) (hr0 : Kd.C (Kd.int .u8) w A0 l0.length l0) (hc0 : l0.length ≤ c0) (h : a0i.f k l0 a1 = some (r1, r2)) :
  Calls Tryd.prog 83 #[.slice A0 l0.length c0, .bool a1] w fun e w' => e = .returned (.tuple #[.int .u64 r1, .bool r2]) ∧ G6 w w' := by
 have HR0 := a_ hr0
 have HC0 := a_ hc0
 clear hr0 hc0
 have H := h
 clear h
 unfold a0i.f at H
 have HC3 := a_ H
 clear H
 go_enter Tryd.func83, Tryd.ntmps83
 go_upto_region 1 with (fail)
 go_cut [16] (fun v16 wc => ∃ (kq : Nat) (c7r : Bool), v16 = .bool c7r ∧ Aside0 (a0i.j0 kq l0 a1 c7r = some (r1, r2)) ∧ Aside0 (kq ≤ k) ∧ G6 w wc)
 case first =>
  have H := HC3.out; clear HC3
  by_cases c4 : (l0.length : Int) < 1
  ·rw [if_pos c4] at H; have a3x := dt_ c4; have a9S : decide (l0.length < 1) = true := dt_ (by omega); clear c4; have H' := a_ H; clear H
   go_wp2
   go_meet
   case rel => exact ⟨_, (true), (by rfl), H', ⟨by (omega)⟩, by exact G6.refl _⟩
  ·rw [if_neg c4] at H; have a3x := df_ c4; have a9S : decide (l0.length < 1) = false := df_ (by omega); clear c4; have H' := a_ H; clear H
   go_wp2
   go_meet
   case rel => exact ⟨_, (decide ((l0.length : Int) > 8)), (by rfl), H', ⟨by (omega)⟩, by exact G6.refl _⟩
 case rest =>
  clear HC3; obtain ⟨kq, c7r, rfl, HA, HJ2, ⟨mc2, rfl⟩⟩ := hcut
  cases kq with
  | zero => exact absurd HA.out (by simp [a0i.j0])
  | succ kj2 =>
   have H := HA.out; clear HA
   simp only [a0i.j0] at H
   by_cases c5 : c7r = true
   ·subst c5; rw [if_pos rfl] at H; obtain ⟨rfl, rfl⟩ := s2_ H
    go_wp2
    go_ret2
    exact ⟨by (rfl), by repeat (first | exact G6.refl _ | apply G6.step)⟩
   ·cases nt_ c5
    rw [if_neg a2O] at H; have H' := a_ H; clear H
    go_wp2
    go_loopg [6, 19] kj2 (fun kq v6 v19 w' => ∃ (b1D : Int) (b03 : Int), v6 = .int .u64 b1D ∧ v19 = .int .i64 b03 ∧ Aside0 (a0i.l0 kq l0 a1 b1D (l0.length : Int) b03 = some (r1, r2)) ∧ Aside0 (kq ≤ kj2) ∧ G6 w w')
    case atStart => exact ⟨(0), (0), (by rfl), (by rfl), H', ⟨Nat.le_refl _⟩, by repeat (first | exact G6.refl _ | apply G6.step)⟩
    case round =>
     clear H'; obtain ⟨b1D, b03, rfl, rfl, HA, HK2, ⟨m2, rfl⟩⟩ := hrel
     cases gk with
     | zero => exact absurd HA.out (by simp [a0i.l0])
     | succ k2 =>
      have H := HA.out; clear HA
      simp only [a0i.l0] at H
      by_cases c6 : b03 < (l0.length : Int)
      ·rw [if_pos c6] at H; have a5Y := dt_ c6; clear c6; obtain ⟨ji7, f0J⟩ := si_ ((wrap64 ((wrap64 ((l0.length : Int) - 1)) - b03))); rw [f0J] at H; have g5I : (IntKind.i64.wrap ((wrap64 ((l0.length : Int) - 1)) - b03)) = ji7 := (a0D _).trans f0J; have a9G := a2Q H; replace H := O6 H; have a6P := a2Q H; replace H := O6 H
       by_cases c10 : a1 = true
       ·subst c10; rw [if_pos rfl] at H; have b77 := a2Q H; replace H := O6 H; have b2r := a2Q H; replace H := O6 H; have H' := a_ H; clear H; obtain ⟨e06, e4K, d82, g1X, g1Y⟩ := d7H HR0 (ji7) U9 U9
        cases e4K
        obtain ⟨f0K, e152, f5S, g9I, g9J⟩ := d7H HR0 b03 U9 U9; obtain rfl : e06 = f0K := (by injection e152)
        go_wp2
        go_roundg k2
        case measure => have := HJ2.out; have := HK2.out; omega
        case rel => exact ⟨(Go.bits .or .u64 (IntKind.u64.wrap (b1D * 256)) (IntKind.u64.wrap (rd l0 b03))), (wrap64 (b03 + 1)), (by rfl), (by rfl), H', ⟨by have := HJ2.out; have := HK2.out; omega⟩, by repeat (first | exact G6.refl _ | apply G6.step)⟩
       ·cases nt_ c10
        rw [if_neg a2O] at H; have H' := a_ H; clear H; obtain ⟨e06, e4K, d82, g1X, g1Y⟩ := d7H HR0 (ji7) U9 U9
        cases e4K
        go_wp2
        go_roundg k2
        case measure => have := HJ2.out; have := HK2.out; omega
        case rel => exact ⟨(Go.bits .or .u64 (IntKind.u64.wrap (b1D * 256)) (IntKind.u64.wrap (rd l0 (ji7)))), (wrap64 (b03 + 1)), (by rfl), (by rfl), H', ⟨by have := HJ2.out; have := HK2.out; omega⟩, by repeat (first | exact G6.refl _ | apply G6.step)⟩
      ·rw [if_neg c6] at H; have a5Y := df_ c6; clear c6; obtain ⟨rfl, rfl⟩ := s2_ H
       go_wp2
       go_ret2
       exact ⟨by (rfl), by repeat (first | exact G6.refl _ | apply G6.step)⟩
end Go.Proofs.YtgnonglkibhnhaaDoor.Print
