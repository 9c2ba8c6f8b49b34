import Derived.Test.YtgnonglkibhnhaaDoorF9
namespace Go.Proofs.YtgnonglkibhnhaaDoor.Print
open Go.RowKit Go.Proofs.YtgnonglkibhnhaaDoorW.PrintWords Go.Proofs.YtgnonglkibhnhaaDoorW.PrintLast Go.Proofs.YtgnonglkibhnhaaDoorW.PrintMore
attribute [local go_sem] a0o a0p a0R a0S Y5 Y6 a0q a0r
set_option linter.unusedVariables false
set_option linter.unusedSimpArgs false

/-! ### umpirelaw11_CaptureKeeps: function 8 -/
mutual
def umpirelaw11_CaptureKeeps.j0 : Nat → List Int → Int → Bool → Int → Int → Int → Int → ByteArray → ByteArray → Int → Int → Bool → Option (Bool)
 | 0, _, _, _, _, _, _, _, _, _, _, _, _ => none
 | k + 1, x0, x1, x22, b0D, b0E, b0F, b0G, b0H, b0I, b0J, b0K, b0L => if x22 = true then ((umpirelaw11_awake.f k).bind fun d9v => (some d9v)) else ((some (([] : List Int) : List Int)).bind fun c6L => (if c6L.length + x0.length < 140737488355328 then ((some (c6L ++ x0 : List Int)).bind fun b2J => ((a0H.f k b2J x1 b0D b0E b0F b0G b0H b0I b0J b0K b0L).bind fun f02 => (if (strOfNums b2J).toList = (strOfNums x0).toList then (umpirelaw11_CaptureKeeps.l0 k x0 x1 b2J f02.1 0 b0D b0E b0F b0G b0H b0I b0J b0K b0L) else (none)))) else (none)))
def umpirelaw11_CaptureKeeps.l0 : Nat → List Int → Int → List Int → List (S42) → Int → Int → Int → Int → Int → ByteArray → ByteArray → Int → Int → Bool → Option (Bool)
 | 0, _, _, _, _, _, _, _, _, _, _, _, _, _, _ => none
 | k + 1, x0, x1, x7, x8, x10, b0D, b0E, b0F, b0G, b0H, b0I, b0J, b0K, b0L => if x10 < (x7.length : Int) then (if 0 ≤ x10 then (umpirelaw11_CaptureKeeps.l0 k x0 x1 (x7.set (x10 : Int).toNat (((rd x7 x10) + 1) % 256)) x8 (wrap64 (x10 + 1)) b0D b0E b0F b0G b0H b0I b0J b0K b0L) else (none)) else ((a1K.f k x0 x1 b0D b0E b0F b0G b0H b0I b0J b0K b0L).bind fun f03 => ((capture_Write.f k x8 1 b0D b0E b0F b0G b0H b0I b0J b0K b0L).bind fun f04 => (umpirelaw11_CaptureKeeps.l1 k x8 f03.1 f04.1 0)))
def umpirelaw11_CaptureKeeps.l1 : Nat → List (S42) → List (S42) → List Int → Int → Option (Bool)
 | 0, _, _, _, _ => none
 | k + 1, x8, x11, x13, x15 => if x15 < (x13.length : Int) then (if 0 ≤ x15 then (umpirelaw11_CaptureKeeps.l1 k x8 x11 (x13.set (x15 : Int).toNat (((rd x13 x15) + 1) % 256)) (wrap64 (x15 + 1))) else (none)) else ((J8.f k x8 x11).bind fun d9w => (some d9w))
end
def umpirelaw11_CaptureKeeps.f (k : Nat) (l0 : List Int) (a1 : Int) (a1o : Int) (a1p : Int) (a1q : Int) (a1r : Int) (a1s : ByteArray) (a1t : ByteArray) (a0U : Int) (a0w : Int) (a0m : Bool) : Option (Bool) := (umpirelaw11_awake.f k).bind fun d9x => (if d9x = true then (umpirelaw11_CaptureKeeps.j0 k l0 a1 (decide ((l0.length : Int) > 4000)) a1o a1p a1q a1r a1s a1t a0U a0w a0m) else (umpirelaw11_CaptureKeeps.j0 k l0 a1 true a1o a1p a1q a1r a1s a1t a0U a0w a0m))
set_option maxHeartbeats 8000000 in
set_option maxRecDepth 100000 in
theorem umpirelaw11_CaptureKeeps.calls (k : Nat) (A0 : Option Addr) (c0 : Nat) (l0 : List Int) (a1 : Int) (a1o : Int) (a1p : Int) (a1q : Int) (a1r : Int) (a1s : ByteArray) (a1t : ByteArray) (a0U : Int) (a0w : Int) (a0m : Bool) (r : Bool) (w : World) (hG0 : Kd.C b35 w (some ⟨0, 0, none⟩) 8 H7) (hr0 : Kd.C (Kd.int .u8) w A0 l0.length l0) (hc0 : l0.length ≤ c0) (h : umpirelaw11_CaptureKeeps.f k l0 a1 a1o a1p a1q a1r a1s a1t a0U a0w a0m = some r) :
  Calls Tryd.prog 8 #[.slice A0 l0.length c0, .int .i64 a1, .agg #[.int .i64 a1o, .int .i64 a1p, .int .i64 a1q, .int .i64 a1r, .string a1s, .string a1t, .int .i64 a0U, .int .u32 a0w, .bool a0m]] w fun e w' => e = .returned (.bool r) ∧ Below w.heap.size w w' := by
 have c2n := Tryd.underlying25
 have a8e := Tryd.underlying30
 have HR0 := a_ hr0
 have HC0 := a_ hc0
 clear hr0 hc0
 have a5X := a_ hG0
 clear hG0
 have HB := a_ (Below.refl w.heap.size w)
 have H := h
 clear h
 unfold umpirelaw11_CaptureKeeps.f at H
 have HC4 := a_ H
 clear H
 go_enter Tryd.func8, Tryd.ntmps8
 go_upto_region 1 with (first | ((with_reducible refine X0 (N := 5) rfl ?_); (try (refine Y1 (by rfl) ?_; dsimp only)); refine be_ 5 #[.int .i64 a1o, .int .i64 a1p, .int .i64 a1q, .int .i64 a1r, .string a1s, .string a1t, .int .i64 a0U, .int .u32 a0w, .bool a0m] 25 ?_; intro c4y hg w5 hbox hb; have a0F := a_ hbox; have g8f := lb_ HB hg; replace HB := V3 HB hb; clear hb hbox hg))
 go_cut [22] (fun v22 wc => ∃ (kq : Nat) (d2I : Bool), v22 = .bool d2I ∧ Aside0 (umpirelaw11_CaptureKeeps.j0 kq l0 a1 d2I a1o a1p a1q a1r a1s a1t a0U a0w a0m = some r) ∧ Aside0 (kq ≤ k) ∧ Aside0 (wc.heap[c4y]? = some (.cells #[.int .i64 a1o, .int .i64 a1p, .int .i64 a1q, .int .i64 a1r, .string a1s, .string a1t, .int .i64 a0U, .int .u32 a0w, .bool a0m] 25 (0, 0))) ∧ Aside0 (Below w.heap.size w wc))
 case first =>
  have H := HC4.out; clear HC4; obtain ⟨d9x, A6, H⟩ := bd_ H
  try dsimp only at H
  by_cases c7 : d9x = true
  ·subst c7; rw [if_pos rfl] at H; have H' := a_ H; clear H
   go_wp2_with (first | (refine gl_ (some 16) Tryd.func9 #[] ?_ (hargs := by (try simp only [List.map_toArray, List.map_cons, List.map_nil]); (done)); (with_reducible refine (umpirelaw11_awake.calls k  true _ (Kd.y9 a5X.out HB.out) A6.out).mono ?_); rintro e w8 ⟨rfl, hb⟩; refine ⟨_, rfl, ?_⟩; replace a0F := X3 a0F hb; replace HB := V3 HB hb; (try clear hb)))
   go_meet
   case rel => exact ⟨_, (decide ((l0.length : Int) > 4000)), (by rfl), H', ⟨by (omega)⟩, ⟨by exact a0F.out⟩, ⟨by exact HB.out⟩⟩
  ·cases nt_ c7
   rw [if_neg a3X] at H; have H' := a_ H; clear H
   go_wp2_with (first | (refine gl_ (some 16) Tryd.func9 #[] ?_ (hargs := by (try simp only [List.map_toArray, List.map_cons, List.map_nil]); (done)); (with_reducible refine (umpirelaw11_awake.calls k  false _ (Kd.y9 a5X.out HB.out) A6.out).mono ?_); rintro e w9 ⟨rfl, hb⟩; refine ⟨_, rfl, ?_⟩; replace a0F := X3 a0F hb; replace HB := V3 HB hb; (try clear hb)))
   go_meet
   case rel => exact ⟨_, (true), (by rfl), H', ⟨by (omega)⟩, ⟨by exact a0F.out⟩, ⟨by exact HB.out⟩⟩
 case rest =>
  clear HC4; obtain ⟨kq, d2I, rfl, HA, HJ3, a0F, HB⟩ := hcut
  cases kq with
  | zero => exact absurd HA.out (by simp [umpirelaw11_CaptureKeeps.j0])
  | succ kj3 =>
   have H := HA.out; clear HA
   simp only [umpirelaw11_CaptureKeeps.j0] at H
   by_cases c10 : d2I = true
   ·subst c10; rw [if_pos rfl] at H; obtain ⟨d9v, A11, H⟩ := bd_ H
    (try dsimp only at H); obtain rfl := oj_ H
    go_wp2_with (first | (refine gl_ (some 23) Tryd.func9 #[] ?_ (hargs := by (try simp only [List.map_toArray, List.map_cons, List.map_nil]); (done)); (with_reducible refine (umpirelaw11_awake.calls kj3  d9v _ (Kd.y9 a5X.out HB.out) A11.out).mono ?_); rintro e w12 ⟨rfl, hb⟩; refine ⟨_, rfl, ?_⟩; replace a0F := X3 a0F hb; replace HB := V3 HB hb; (try clear hb)))
    go_ret
    exact ⟨by (rfl), by exact HB.out⟩
   ·cases nt_ c10
    rw [if_neg a3X] at H; obtain ⟨c6L, c9c⟩ := is_ ([] : List Int); rw [Option.bind_some, ← c9c] at H; have f05 := a_ c9c; clear c9c; have c13 := Z4 H; replace H := O5 H; have d7C := a_ c13; clear c13; obtain ⟨b2J, c9d⟩ := is_ ((c6L ++ l0) : List Int); rw [Option.bind_some, ← c9d] at H; have f06 := a_ c9d; clear c9d; obtain ⟨⟨b0M, b2K, b2L⟩, A14, H⟩ := bd_ H
    (try dsimp only at H); have c15 := Z4 H; replace H := O5 H; obtain ⟨b80, c0Z⟩ := bt_ c15; clear c15; have H' := a_ H; clear H
    go_wp2_with (first | (refine c5y .u8 5 24 ([] : List Int) ?_; intro f8T w16 c4u hb; (rw [← f05.out] at c4u); have c9e := rl_ c4u HB; replace a0F := X3 a0F hb; replace HB := V3 HB hb; clear hb c4u) | ((with_reducible refine E8 (b := .append) (xs := #[.tmp 24, .tmp 25]) rfl ?_); (try (refine Y1 (by rfl) ?_; dsimp only)); at_builtin; refine Kd.P7 (Kd.int .u8) (w0 := w) w.heap.size rfl (.tmp 24) (.tmp 25) 22 5 (.int .u8 0) 1 rfl Tryd.underlying22 info5 rfl (by decide) (by omega) f8T c6L l0 _ _ _ (fun _ => True) (fun _ => False) rfl rfl ?aO ?aR (fun _ _ h => h) (fun _ h => h.elim) ?aF ?aB ?aS ?aL ?_; (case aR => exact (Kd.y9 HR0.out HB.out)); (case aB => exact HB.out); (case aF => exact (fun _ _ => trivial)); (case aO => exact c9e.out); (case aS => exact (y5 HB.out)); (case aL => have := d7C.out; omega); intro h1D w18 ho hb hg hat; rw [← f06.out] at ho; have a9Y := a_ ho; replace a0F := a_ (J7 a0F.out hg (Kd.a6B c9e.out a0F.out (by decide))); replace HB := a_ hb; clear c9e ho hb hg hat; obtain ⟨c3O, c3P, e4g, e4h, e4i, e4j, e4k, e4l, e4m, c3Q, c3R, e4n, e4o, e4p, e4q, e4r, e4s, e4t⟩ := d53 a0F.out; obtain ⟨a5I, a4V, b84⟩ := Kd.G7 a9Y.out; subst b84) | (refine gl_ (some 31) Tryd.func10 #[.slice a5I b2J.length a4V, .int .i64 a1, .agg #[.int .i64 a1o, .int .i64 a1p, .int .i64 a1q, .int .i64 a1r, .string a1s, .string a1t, .int .i64 a0U, .int .u32 a0w, .bool a0m]] ?_; (with_reducible refine (a0H.calls kj3 _ _ b2J a1 a1o a1p a1q a1r a1s a1t a0U a0w a0m b0M b2K b2L _ (Kd.y9 a5X.out HB.out) ((Kd.D9 a9Y.out).2.2) ((Kd.D9 a9Y.out).2.1) A14.out).mono ?_); rintro e w21 ⟨f8U, rfl, ho0, hb⟩; refine ⟨_, rfl, ?_⟩; have c9f := a_ (Kd.a7C (Kd.c6Y ho0 (Kd.a0i a9Y.out)) (y5 HB.out)); replace a9Y := rb_ a9Y hb; replace a0F := X3 a0F hb; replace HB := V3 HB hb; (try clear hb); (try clear ho0)) | ((with_reducible refine X0 (N := 9) rfl ?_); (try (refine Y1 (by rfl) ?_; dsimp only)); refine be_ 9 #[.int .i64 0, .int .i64 0] 30 ?_; intro a5z hg w22 hbox hb; have a3u := a_ hbox; have d9y := lb_ HB hg; obtain ⟨a9P, b61⟩ := nn_ a0F hg; replace a9Y := rb_ a9Y hb; replace c9f := sb_ c9f hb; replace a0F := X3 a0F hb; replace HB := V3 HB hb; clear hb hbox hg; have e6z := b61.out; have e6A := a9P.out; obtain ⟨a8t, a8u, a8v, a8w⟩ := a1B a3u.out; have e6W : ∀ m_ : Nat, (convert 22 9 (.slice a5I b2J.length a4V)).run Tryd.prog (World.drewN ((w22.setCell ⟨a5z, 0, none⟩ (.int .i64 b2K)).setCell ⟨a5z, 1, none⟩ (.int .i64 b2L)) m_) = .ok (.string (strOfNums b2J)) (World.drewN ((w22.setCell ⟨a5z, 0, none⟩ (.int .i64 b2K)).setCell ⟨a5z, 1, none⟩ (.int .i64 b2L)) m_) := fun m_ => b36 (P := Tryd.prog) Tryd.underlying22 Tryd.underlying5 Tryd.underlying9 (Kd.b1O (Kd.a06 (by exact (Kd.D7 (Kd.U0 (p := ⟨a5z, 1, none⟩) (Kd.U0 (p := ⟨a5z, 0, none⟩) (Kd.P8 a9Y.out a3u.out (by decide)) (fun _ hk => hk.2) (.int .i64 b2K)) (fun _ hk => hk.2) (.int .i64 b2L)) (fun _ h_ => h_.1))) m_)); have f07 := e6W 0; (try simp only [World.drewN_zero] at f07); have f08 : ∀ m_ : Nat, (convert 22 9 (.slice A0 l0.length c0)).run Tryd.prog (World.drewN ((w22.setCell ⟨a5z, 0, none⟩ (.int .i64 b2K)).setCell ⟨a5z, 1, none⟩ (.int .i64 b2L)) m_) = .ok (.string (strOfNums l0)) (World.drewN ((w22.setCell ⟨a5z, 0, none⟩ (.int .i64 b2K)).setCell ⟨a5z, 1, none⟩ (.int .i64 b2L)) m_) := fun m_ => Kd.a2r (P := Tryd.prog) (A := A0) (c := c0) Tryd.underlying22 Tryd.underlying5 Tryd.underlying9 (Kd.a7A (Kd.y9 HR0.out (by repeat (with_reducible first | exact HB.out | refine o7 ?_ d9y.out))) m_); have e4u := f08 0; (try simp only [World.drewN_zero] at e4u); have f8V := fun m_ : Nat => Kd.a2r (P := Tryd.prog) (A := A0) (c := c0) Tryd.underlying22 Tryd.underlying5 Tryd.underlying9 (Kd.a7A (Kd.y9 HR0.out HB.out) m_); have f8W := Kd.a2r (P := Tryd.prog) (A := A0) (c := c0) Tryd.underlying22 Tryd.underlying5 Tryd.underlying9 (Kd.y9 HR0.out HB.out)))
    go_loopg [10] kj3 (fun kq v10 w' => ∃ (b0C : List Int) (a7X : Int), v10 = .int .i64 a7X ∧ Aside0 (umpirelaw11_CaptureKeeps.l0 kq l0 a1 b0C b0M a7X a1o a1p a1q a1r a1s a1t a0U a0w a0m = some r) ∧ Aside0 (kq ≤ kj3) ∧ Aside0 (Kd.R (Kd.int .u8) 5 w' w.heap.size (fun _ => True) (.slice a5I b2J.length a4V) b0C) ∧ Aside0 (Kd.S k42 42 w' w.heap.size (fun k_ => some k_ ≠ ((.slice a5I b2J.length a4V) : Value).ownBlock) f8U b0M) ∧ Aside0 (w'.heap[c4y]? = some (.cells #[.int .i64 a1o, .int .i64 a1p, .int .i64 a1q, .int .i64 a1r, .string a1s, .string a1t, .int .i64 a0U, .int .u32 a0w, .bool a0m] 25 (0, 0))) ∧ Aside0 (w'.heap[a5z]? = some (.cells #[.int .i64 b2K, .int .i64 b2L] 30 (0, 0))) ∧ Aside0 (Below w.heap.size w w'))
    case atStart => exact ⟨(b2J), (0), (by rfl), H', ⟨Nat.le_refl _⟩, ⟨by exact Kd.D7 (Kd.U0 (p := ⟨a5z, 1, none⟩) (Kd.U0 (p := ⟨a5z, 0, none⟩) (Kd.P8 a9Y.out a3u.out (by decide)) (fun _ hk => hk.2) (.int .i64 b2K)) (fun _ hk => hk.2) (.int .i64 b2L)) (fun _ hk => trivial)⟩, ⟨by exact Kd.N7 (Kd.V9 (p := ⟨a5z, 1, none⟩) (Kd.V9 (p := ⟨a5z, 0, none⟩) (Kd.a1S c9f.out a3u.out (by decide)) (fun _ hk => hk.2) (.int .i64 b2K)) (fun _ hk => hk.2) (.int .i64 b2L)) (fun _ hk => hk.1.2)⟩, ⟨o8 (o8 a0F.out a9P.out _) a9P.out _⟩, ⟨l9 (l9 a3u.out 0 _ rfl) 1 _ rfl⟩, ⟨by repeat (with_reducible first | exact HB.out | refine o7 ?_ d9y.out)⟩⟩
    case round =>
     clear H'
     try clear b80
     try clear c0Z
     try clear e6W
     try clear f8V
     try clear f8W
     try clear c3O
     try clear c3P
     try clear e4g
     try clear e4h
     try clear e4i
     try clear e4j
     try clear e4k
     try clear e4l
     try clear e4m
     try clear a8t
     try clear a8u
     try clear c3Q
     try clear c3R
     try clear e4n
     try clear e4o
     try clear e4p
     try clear e4q
     try clear e4r
     try clear e4s
     try clear e4t
     try clear a8v
     try clear a8w
     obtain ⟨b0C, a7X, rfl, HA, HK2, O7, a0V, a0F, a3u, HB⟩ := hrel; have c1s := (Kd.D9 O7.out).1; rw [c1s] at O7
     (try simp only [c1s])
     (try simp only [c1s] at a0V)
     cases gk with
     | zero => exact absurd HA.out (by simp [umpirelaw11_CaptureKeeps.l0])
     | succ k2 =>
      have H := HA.out; clear HA
      simp only [umpirelaw11_CaptureKeeps.l0] at H
      by_cases c29 : a7X < (b0C.length : Int)
      ·rw [if_pos c29] at H; have d2m := dt_ c29; clear c29; have e5r := a2x H; replace H := O5 H; obtain ⟨e6X, c9g⟩ := is_ ((b0C.set (a7X : Int).toNat (((rd b0C a7X) + 1) % 256)) : List Int); rw [← c9g] at H; have f09 := a_ c9g; clear c9g; have H' := a_ H; clear H; have h1E : (0 ≤ (a7X : Int)) = True := et_; have h1F : (a7X < (b0C.length : Int)) = True := et_; obtain ⟨g8g, f8X, d9z⟩ := Kd.Q7 (Kd.D9 O7.out).2.2 a7X V5 V5
       cases f8X
       have p31 : 0 ≤ (a7X : Int) := V5; have q31 : (a7X : Int) < ((b0C.length : Int) : Int) := V5; obtain ⟨d9A, e3m, e9n, f8Y, g8i, h5L, f8Z⟩ := Kd.b77 O7.out (by omega)
       (cases e9n)
       have g8j := a_ f8Y; have h5M := a_ f8Z; clear f8Y g8i f8Z
       (simp only [add_plain] at d9z)
       obtain ⟨g8k, g8l⟩ := Kd.b4T 0 O7.out (a7X : Int) p31 q31; replace p31 := eq_true p31; replace q31 := eq_true q31; have f1b := Kd.c6U O7.out (a7X : Int) (((rd b0C a7X) + 1) % 256)
       go_wp2_with (first | ((with_reducible refine a6n (t := 5) (p := 52) rfl ?_); refine a5n (t := 5) (p := 52) (v := ?g8m) (w1 := (wr.setCell ⟨d9A, (a7X : Int).toNat, none⟩ (.int .u8 (((rd b0C a7X) + 1) % 256)))) ?hg ?ho ?hn ?hr ?_; (case ho => rfl); (case hg => rfl); (case hn => rfl); (case hr => (go_simp; done)); intro w33 hw; have hg : wr.grownBy w33 (some d9A) := (by rw [hw]; exact f1b.2); have hp_ : Kd.R (Kd.int .u8) 5 w33 w.heap.size (fun _ => True) (.slice (some ⟨d9A, 0, none⟩) b0C.length a4V) e6X := (by rw [hw, f09.out]; exact f1b.1); clear f1b; replace a0V := a_ (Kd.b0V (v := (.slice (some ⟨d9A, 0, none⟩) b0C.length a4V)) (v1 := (.slice (some ⟨d9A, 0, none⟩) b0C.length a4V)) (ok := (fun _ => True)) (by exact Kd.N7 a0V.out (fun _ hk => ⟨trivial, hk⟩)) hg (.inl rfl)); replace a0F := a_ (J7 a0F.out hg (Kd.a6B O7.out a0F.out (by decide))); replace a3u := a_ (J7 a3u.out hg (Kd.a6B O7.out a3u.out (by decide))); replace O7 := a_ hp_; replace HB := a_ (by rw [hw]; exact o7 (HB.out) g8j.out : Below w.heap.size w w33); clear hg hw hp_))
       (try simp only [← c1s])
       go_roundg k2
       case measure => have := HJ3.out; have := HK2.out; omega
       case rel => exact ⟨(e6X), (wrap64 (a7X + 1)), (by rfl), H', ⟨by have := HJ3.out; have := HK2.out; omega⟩, ⟨by (try simp only [c1s]); exact O7.out⟩, ⟨by (try simp only [c1s]); exact Kd.N7 a0V.out (fun _ hk => hk.2)⟩, ⟨by exact a0F.out⟩, ⟨by exact a3u.out⟩, ⟨by exact HB.out⟩⟩
      ·rw [if_neg c29] at H; have d2m := df_ c29; clear c29; obtain ⟨⟨c6M, b62, b63⟩, A34, H⟩ := bd_ H
       (try dsimp only at H); obtain ⟨⟨e6Y, f9a⟩, A35, H⟩ := bd_ H
       (try dsimp only at H); have H' := a_ H; clear H; have h1G := a9P.out; have h1H := b61.out; obtain ⟨d0F, d0G, d0H, e4v, e4w, e4x, e4y, e4z, e4A, d0I, d0J, d0K, e4B, e4C, e4D, e4E, e4F, e4G⟩ := d53 a0F.out
       go_wp2_with (first | (refine gl_ (some 57) Tryd.func11 #[.slice A0 l0.length c0, .int .i64 a1, .agg #[.int .i64 a1o, .int .i64 a1p, .int .i64 a1q, .int .i64 a1r, .string a1s, .string a1t, .int .i64 a0U, .int .u32 a0w, .bool a0m]] ?_; (with_reducible refine (a1K.calls k2 _ _ l0 a1 a1o a1p a1q a1r a1s a1t a0U a0w a0m c6M b62 b63 _ (Kd.y9 HR0.out HB.out) HC0.out A34.out).mono ?_); rintro e w38 ⟨d2J, rfl, ho0, hb⟩; refine ⟨_, rfl, ?_⟩; have b9W := a_ (Kd.a7C (Kd.c6Y (Kd.c6Y ho0 (Kd.a0i O7.out)) (Kd.b93 a0V.out)) (y5 HB.out)); replace O7 := rb_ O7 hb; replace a0V := a_ (Kd.b4W a0V.out (Kd.d4x ho0) hb); replace a0F := X3 a0F hb; replace a3u := X3 a3u hb; replace HB := V3 HB hb; (try clear hb); (try clear ho0)) | ((with_reducible refine X0 (N := 12) rfl ?_); (try (refine Y1 (by rfl) ?_; dsimp only)); refine be_ 12 #[.int .i64 0, .int .i64 0] 30 ?_; intro a8h hg w39 hbox hb; have a6X := a_ hbox; have c9h := lb_ HB hg; obtain ⟨b2M, c6N⟩ := nn_ a0F hg; obtain ⟨b2N, c6O⟩ := nn_ a3u hg; replace O7 := rb_ O7 hb; replace a0V := sb_ a0V hb; replace b9W := sb_ b9W hb; replace a0F := X3 a0F hb; replace a3u := X3 a3u hb; replace HB := V3 HB hb; clear hb hbox hg; have e5g := c6N.out; have e5h := b2M.out; have f5k := c6O.out; have f5l := b2N.out; obtain ⟨c2G, c2H, c2I, c2J⟩ := a1B a6X.out; obtain ⟨d1H, d1I, e4H, e4I, e4J, e4K, e4L, e4M, e4N, d1J, d1K, e4O, e4P, e4Q, e4R, e4S, e4T, e4U⟩ := d53 a0F.out; obtain ⟨d9B, d35, g8n⟩ := Kd.a6m a0V.out; subst g8n) | (refine gl_ (some 63) Tryd.func14 #[.slice d9B b0M.length d35, .int .i64 1, .agg #[.int .i64 a1o, .int .i64 a1p, .int .i64 a1q, .int .i64 a1r, .string a1s, .string a1t, .int .i64 a0U, .int .u32 a0w, .bool a0m]] ?_; (with_reducible refine (capture_Write.calls k2 _ _ b0M 1 a1o a1p a1q a1r a1s a1t a0U a0w a0m e6Y f9a _ (Kd.y9 a5X.out (by repeat (with_reducible first | exact HB.out | refine o7 ?_ c9h.out))) ?P6 ?a6J A35.out).mono ?_); (case P6 => refine (Kd.a1J (e := 42) (base := w.heap.size) (ok := fun k_ => (some k_ ≠ (.slice a5I b0C.length a4V : Value).ownBlock ∧ some k_ ≠ (d2J : Value).ownBlock)) (n := b0M.length) (c := d35) ?_).2.2; exact (by exact (Kd.N7 (Kd.V9 (p := ⟨a8h, 1, none⟩) (Kd.V9 (p := ⟨a8h, 0, none⟩) (Kd.a1S a0V.out a6X.out (by decide)) (fun _ hk => hk.2) (.int .i64 b62)) (fun _ hk => hk.2) (.int .i64 b63)) (fun _ h_ => h_.1)))); (case a6J => exact (Kd.a1J a0V.out).2.1); rintro e w45 ⟨d9C, rfl, ho0, hb⟩; refine ⟨_, rfl, ?_⟩; have f1c := a_ (Kd.Z9 (Kd.a1D ho0 (Kd.a0i (by exact (Kd.D7 (Kd.U0 (p := ⟨a8h, 1, none⟩) (Kd.U0 (p := ⟨a8h, 0, none⟩) (Kd.P8 O7.out a6X.out (by decide)) (fun _ hk => hk.2) (.int .i64 b62)) (fun _ hk => hk.2) (.int .i64 b63)) (fun _ h_ => h_.1))))) (y5 (by repeat (with_reducible first | exact HB.out | refine o7 ?_ c9h.out)))); replace O7 := a_ (Kd.a2D (by exact (Kd.D7 (Kd.U0 (p := ⟨a8h, 1, none⟩) (Kd.U0 (p := ⟨a8h, 0, none⟩) (Kd.P8 O7.out a6X.out (by decide)) (fun _ hk => hk.2) (.int .i64 b62)) (fun _ hk => hk.2) (.int .i64 b63)) (fun _ h_ => h_.1))) (Kd.a0C ho0) hb); replace a0V := a_ (Kd.b4W (by exact (Kd.N7 (Kd.V9 (p := ⟨a8h, 1, none⟩) (Kd.V9 (p := ⟨a8h, 0, none⟩) (Kd.a1S a0V.out a6X.out (by decide)) (fun _ hk => hk.2) (.int .i64 b62)) (fun _ hk => hk.2) (.int .i64 b63)) (fun _ h_ => h_.1))) (Kd.a0C ho0) hb); replace b9W := a_ (Kd.b4W (by exact (Kd.N7 (Kd.V9 (p := ⟨a8h, 1, none⟩) (Kd.V9 (p := ⟨a8h, 0, none⟩) (Kd.a1S b9W.out a6X.out (by decide)) (fun _ hk => hk.2) (.int .i64 b62)) (fun _ hk => hk.2) (.int .i64 b63)) (fun _ h_ => h_.1))) (Kd.a0C ho0) hb); replace a0F := a_ (L6 (g := c4y) (o := .cells #[.int .i64 a1o, .int .i64 a1p, .int .i64 a1q, .int .i64 a1r, .string a1s, .string a1t, .int .i64 a0U, .int .u32 a0w, .bool a0m] 25 (0, 0)) (o8 (o8 a0F.out b2M.out _) b2M.out _) hb); replace a3u := a_ (L6 (g := a5z) (o := .cells #[.int .i64 b2K, .int .i64 b2L] 30 (0, 0)) (o8 (o8 a3u.out b2N.out _) b2N.out _) hb); replace a6X := a_ (L6 (g := a8h) (o := .cells #[.int .i64 b62, .int .i64 b63] 30 (0, 0)) (l9 (l9 a6X.out 0 _ rfl) 1 _ rfl) hb); replace HB := a_ (J6 (by repeat (with_reducible first | exact HB.out | refine o7 ?_ c9h.out)) hb); (try clear hb); (try clear ho0)))
       go_loopg [15] k2 (fun kq v15 w' => ∃ (a9s : List Int) (a7Y : Int), v15 = .int .i64 a7Y ∧ Aside0 (umpirelaw11_CaptureKeeps.l1 kq b0M c6M a9s a7Y = some r) ∧ Aside0 (kq ≤ k2) ∧ Aside0 (Kd.S k42 42 w' w.heap.size (fun k_ => some k_ ≠ (d2J : Value).ownBlock ∧ some k_ ≠ (d9C : Value).ownBlock) (.slice d9B b0M.length d35) b0M) ∧ Aside0 (Kd.S k42 42 w' w.heap.size (fun k_ => some k_ ≠ ((.slice d9B b0M.length d35) : Value).ownBlock ∧ some k_ ≠ (d9C : Value).ownBlock) d2J c6M) ∧ Aside0 (Kd.R (Kd.int .u8) 5 w' w.heap.size (fun _ => True) d9C a9s) ∧ Aside0 (w'.heap[c4y]? = some (.cells #[.int .i64 a1o, .int .i64 a1p, .int .i64 a1q, .int .i64 a1r, .string a1s, .string a1t, .int .i64 a0U, .int .u32 a0w, .bool a0m] 25 (0, 0))) ∧ Aside0 (w'.heap[a5z]? = some (.cells #[.int .i64 b2K, .int .i64 b2L] 30 (0, 0))) ∧ Aside0 (w'.heap[a8h]? = some (.cells #[.int .i64 b62, .int .i64 b63] 30 (0, 0))) ∧ Aside0 (Below w.heap.size w w'))
       case atStart => exact ⟨(e6Y), (0), (by rfl), H', ⟨Nat.le_refl _⟩, ⟨by exact Kd.N7 a0V.out (fun _ hk => ⟨hk.1.2, hk.2⟩)⟩, ⟨by exact Kd.N7 b9W.out (fun _ hk => ⟨hk.1.2, hk.2⟩)⟩, ⟨by exact Kd.D7 f1c.out (fun _ hk => trivial)⟩, ⟨by exact a0F.out⟩, ⟨by exact a3u.out⟩, ⟨by exact a6X.out⟩, ⟨by exact HB.out⟩⟩
       case round =>
        clear H'
        try clear d2m
        try clear d0F
        try clear d0G
        try clear d0H
        try clear e4v
        try clear e4w
        try clear e4x
        try clear e4y
        try clear e4z
        try clear e4A
        try clear c2G
        try clear c2H
        try clear d1H
        try clear d1I
        try clear e4H
        try clear e4I
        try clear e4J
        try clear e4K
        try clear e4L
        try clear e4M
        try clear e4N
        try clear d0I
        try clear d0J
        try clear d0K
        try clear e4B
        try clear e4C
        try clear e4D
        try clear e4E
        try clear e4F
        try clear e4G
        try clear c2I
        try clear c2J
        try clear d1J
        try clear d1K
        try clear e4O
        try clear e4P
        try clear e4Q
        try clear e4R
        try clear e4S
        try clear e4T
        try clear e4U
        obtain ⟨a9s, a7Y, rfl, HA, HK3, a0V, c1t, b2O, a0F, a3u, a6X, HB⟩ := hrel
        cases gk with
        | zero => exact absurd HA.out (by simp [umpirelaw11_CaptureKeeps.l1])
        | succ k3 =>
         have H := HA.out; clear HA
         simp only [umpirelaw11_CaptureKeeps.l1] at H
         by_cases c46 : a7Y < (a9s.length : Int)
         ·rw [if_pos c46] at H; have f9b := dt_ c46; clear c46; have h1I := a2x H; replace H := O5 H; obtain ⟨e6Z, c9i⟩ := is_ ((a9s.set (a7Y : Int).toNat (((rd a9s a7Y) + 1) % 256)) : List Int); rw [← c9i] at H; have f1d := a_ c9i; clear c9i; have H' := a_ H; clear H; obtain ⟨f2K, c7Q, e7W⟩ := Kd.G7 b2O.out; subst e7W; have h1J : (0 ≤ (a7Y : Int)) = True := et_; have h1K : (a7Y < (a9s.length : Int)) = True := et_; obtain ⟨g8o, f9c, d9D⟩ := Kd.Q7 (Kd.D9 b2O.out).2.2 a7Y V5 V5
          cases f9c
          have p48 : 0 ≤ (a7Y : Int) := V5; have q48 : (a7Y : Int) < ((a9s.length : Int) : Int) := V5; obtain ⟨c9j, d74, d75, f9d, g8q, h5N, f9e⟩ := Kd.b77 b2O.out (by omega)
          (cases d75)
          have g8r := a_ f9d; have h5O := a_ f9e; clear f9d g8q f9e
          (simp only [add_plain] at d9D)
          obtain ⟨g8s, g8t⟩ := Kd.b4T 0 b2O.out (a7Y : Int) p48 q48; replace p48 := eq_true p48; replace q48 := eq_true q48; have f1e := Kd.c6U b2O.out (a7Y : Int) (((rd a9s a7Y) + 1) % 256)
          go_wp2_with (first | ((with_reducible refine a6n (t := 5) (p := 79) rfl ?_); refine a5n (t := 5) (p := 79) (v := ?g8u) (w1 := (wr.setCell ⟨c9j, (a7Y : Int).toNat, none⟩ (.int .u8 (((rd a9s a7Y) + 1) % 256)))) ?hg ?ho ?hn ?hr ?_; (case ho => rfl); (case hg => rfl); (case hn => rfl); (case hr => (go_simp; done)); intro w51 hw; have hg : wr.grownBy w51 (some c9j) := (by rw [hw]; exact f1e.2); have hp_ : Kd.R (Kd.int .u8) 5 w51 w.heap.size (fun _ => True) (.slice (some ⟨c9j, 0, none⟩) a9s.length c7Q) e6Z := (by rw [hw, f1d.out]; exact f1e.1); clear f1e; replace a0V := a_ (Kd.b0V (v := (.slice (some ⟨c9j, 0, none⟩) a9s.length c7Q)) (v1 := (.slice (some ⟨c9j, 0, none⟩) a9s.length c7Q)) (ok := (fun k_ => some k_ ≠ (d2J : Value).ownBlock)) a0V.out hg (.inl rfl)); replace c1t := a_ (Kd.b0V (v := (.slice (some ⟨c9j, 0, none⟩) a9s.length c7Q)) (v1 := (.slice (some ⟨c9j, 0, none⟩) a9s.length c7Q)) (ok := (fun k_ => some k_ ≠ (.slice d9B b0M.length d35 : Value).ownBlock)) c1t.out hg (.inl rfl)); replace a0F := a_ (J7 a0F.out hg (Kd.a6B b2O.out a0F.out (by decide))); replace a3u := a_ (J7 a3u.out hg (Kd.a6B b2O.out a3u.out (by decide))); replace a6X := a_ (J7 a6X.out hg (Kd.a6B b2O.out a6X.out (by decide))); replace b2O := a_ hp_; replace HB := a_ (by rw [hw]; exact o7 (HB.out) g8r.out : Below w.heap.size w w51); clear hg hw hp_))
          go_roundg k3
          case measure => have := HJ3.out; have := HK2.out; have := HK3.out; omega
          case rel => exact ⟨(e6Z), (wrap64 (a7Y + 1)), (by rfl), H', ⟨by have := HJ3.out; have := HK2.out; have := HK3.out; omega⟩, ⟨by exact a0V.out⟩, ⟨by exact c1t.out⟩, ⟨by exact b2O.out⟩, ⟨by exact a0F.out⟩, ⟨by exact a3u.out⟩, ⟨by exact a6X.out⟩, ⟨by exact HB.out⟩⟩
         ·rw [if_neg c46] at H; have f9b := df_ c46; clear c46; obtain ⟨d9w, A52, H⟩ := bd_ H
          (try dsimp only at H); obtain rfl := oj_ H; obtain ⟨f2m, f2n, d5K⟩ := Kd.G7 b2O.out; subst d5K; obtain ⟨g8w, g8x, g8y⟩ := Kd.a6m c1t.out; subst g8y
          go_wp2_with (first | (refine gl_ (some 82) Tryd.func12 #[.slice d9B b0M.length d35, .slice g8w c6M.length g8x] ?_; (with_reducible refine (J8.calls k3 _ _ b0M _ _ c6M d9w _ ((Kd.a1J a0V.out).2.2) ((Kd.a1J a0V.out).2.1) ((Kd.a1J c1t.out).2.2) ((Kd.a1J c1t.out).2.1) A52.out).mono ?_); rintro e w' ⟨rfl, ⟨nd, rfl⟩⟩; refine ⟨_, rfl, ?_⟩))
          go_ret
          exact ⟨by (rfl), by repeat (with_reducible first | exact HB.out | apply o9)⟩

end Go.Proofs.YtgnonglkibhnhaaDoor.Print
