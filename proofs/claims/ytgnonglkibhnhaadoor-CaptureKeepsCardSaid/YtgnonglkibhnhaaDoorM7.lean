-- laid together by this session's own program (wip/tools/merge.py) of texts that its program laid
import Derived.Test.YtgnonglkibhnhaaDoorF18
import Derived.Test.YtgnonglkibhnhaaDoorM6
namespace Go.Proofs.YtgnonglkibhnhaaDoor.Print
open Go.RowKit Go.Proofs.YtgnonglkibhnhaaDoorW.PrintWords Go.Proofs.YtgnonglkibhnhaaDoorW.PrintLast Go.Proofs.YtgnonglkibhnhaaDoorW.PrintMore
attribute [local go_sem] a0o a0p a0R a0S Y5 Y6 a0q a0r
set_option linter.unusedVariables false
set_option linter.unusedSimpArgs false
set_option maxHeartbeats 16000000
set_option maxRecDepth 100000
def H6.go (k : Nat) (dir link : Int) : List (S51) → List (S42) → Option (List (S42))
 | [], out => some out
 | x :: m, out => if link = 204 then (if 0 < x.f3.length then (J9.f k out (if rd x.f3 0 = 0 then 1 else 2) (x.f3.drop 1)).bind fun o => H6.go k dir link m o else H6.go k dir link m out) else (J9.f k out dir x.f3).bind fun o => H6.go k dir link m o
def H6.f (k : Nat) (l0 : List Int) (c3s : Int) (c3t : Int) (c3u : Int) (c3v : Int) (c3w : ByteArray) (c3x : ByteArray) (b5q : Int) (b4n : Int) (b2o : Bool) : Option (List (S42) × Int × Int) := (umpireref09_Read.f k l0).bind fun t => if t.2.2.2.2.2.2 = 0 then (if capture_records_read.odd t.2.2.2.1 = true then some ([], 20, 7) else (H6.go k b5q t.2.2.2.1 t.2.2.2.2.1 []).bind fun o => some (o, t.2.2.2.2.2.1, t.2.2.2.2.2.2)) else some ([], t.2.2.2.2.2.1, t.2.2.2.2.2.2)
theorem H6.calls (k : Nat) (A0 : Option Addr) (c0 : Nat) (l0 : List Int) (c3s : Int) (c3t : Int) (c3u : Int) (c3v : Int) (c3w : ByteArray) (c3x : ByteArray) (b5q : Int) (b4n : Int) (b2o : Bool) (r1 : List (S42)) (r2 r3 : Int) (w : World) (hr0 : Kd.C (Kd.int .u8) w A0 l0.length l0) (hc0 : l0.length ≤ c0) (h : H6.f k l0 c3s c3t c3u c3v c3w c3x b5q b4n b2o = some (r1, r2, r3)) :
  Calls Tryd.prog 25 #[.slice A0 l0.length c0, .agg #[.int .i64 c3s, .int .i64 c3t, .int .i64 c3u, .int .i64 c3v, .string c3w, .string c3x, .int .i64 b5q, .int .u32 b4n, .bool b2o]] w fun e w' => ∃ v0_ : Value, e = .returned (.tuple #[v0_, .agg #[.int .i64 r2, .int .i64 r3]]) ∧ Kd.S k42 42 w' w.heap.size (fun _ => True) v0_ r1 ∧ Below w.heap.size w w' := by
 have a8e := Tryd.underlying30
 have c2n := Tryd.underlying25
 have c7W := Tryd.underlying46
 have d3L := Tryd.underlying51
 obtain ⟨⟨m1, m2, m3, link, l, f1, f2⟩, ht, h⟩ := Option.bind_eq_some_iff.1 h
 replace h : (if f2 = 0 then (if capture_records_read.odd link = true then some (([] : List (S42)), 20, 7) else (H6.go k b5q link l []).bind fun o => some (o, f1, f2)) else some (([] : List (S42)), f1, f2)) = some (r1, r2, r3) := h
 have HT := a_ ht
 have HR0 := a_ hr0
 have HC0 := a_ hc0
 have HB := a_ (Below.refl w.heap.size w)
 have HH := a_ h
 clear hr0 hc0 ht h
 go_enter Tryd.func25, Tryd.ntmps25
 go_upto_region 2 with (first | (refine be_ 3 #[.int .i64 c3s, .int .i64 c3t, .int .i64 c3u, .int .i64 c3v, .string c3w, .string c3x, .int .i64 b5q, .int .u32 b4n, .bool b2o] 25 ?_; intro g3 hg w3 hbox hb; have HB3 := V3 HB hb; have BK3 := a_ hbox; clear hg hbox hb) | (refine be_ 5 #[.int .i64 0, .int .i64 0] 30 ?_; intro g5 hg w5 hbox hb; have HB5 := V3 HB3 hb; have d6J := X3 BK3 hb; have BK5 := a_ hbox; have GE5 : Aside0 (w.heap.size ≤ g5) := ⟨by rw [hg]; exact HB3.out.size⟩; clear hg hbox hb) | (go_at_call 18; refine (umpireref09_Read.calls k A0 c0 l0 m1 m2 m3 link l f1 f2 _ (Kd.y9 HR0.out HB5.out) HC0.out HT.out).mono ?_; rintro e w8 ⟨vl, rfl, hl, hb⟩; have HB8 := V3 HB5 hb; have d6K := X3 d6J hb; have b0f := X3 BK5 hb; have HL := a_ hl; obtain ⟨Al, cl, el⟩ := Kd.a6m HL.out; subst el; clear hl hb) | (refine be_ 6 #[.bool false, .bool false, .int .u32 0, .int .u32 0] 46 ?_; intro g6 hg w9 hbox hb; have BK6 := a_ hbox; have HB9 := a_ hb; have GE6 : Aside0 (w8.heap.size ≤ g6) := ⟨by rw [hg]; exact Nat.le_refl _⟩; have LT6 := a_ (a0u hbox); clear hg hbox hb) | (refine be_ 8 #[.int .i64 0, .int .i64 0] 30 ?_; intro g8 hg w10 hbox hb; have c0f := X3 BK6 hb; have BK8 := a_ hbox; have a7c := V3 HB9 hb; have GE8 : Aside0 (w8.heap.size ≤ g8) := ⟨by rw [hg]; exact HB9.out.size⟩; have ne1 : g6 ≠ g8 := (by have := LT6.out; omega); have ne2 : g8 ≠ g6 := fun e_ => ne1 e_.symm; have f3Q := bc0 c0f; have f3R := l7 c0f.out 0; have f3S := bc1 c0f; have f3T := l7 c0f.out 1; have f3U := bc2 c0f; have f3V := l7 c0f.out 2; have d6M := bc3 c0f; have f3W := l7 c0f.out 3; have c0T := bc0 BK8; have c0S := l7 BK8.out 0; have c0U := bc1 BK8; have d1c := l7 BK8.out 1; clear hg hbox hb))
 have f3X := a_ (show ((((((w10.setCell ⟨g6, 0, none⟩ (.bool m1)).setCell ⟨g6, 1, none⟩ (.bool m2)).setCell ⟨g6, 2, none⟩ (.int .u32 m3)).setCell ⟨g6, 3, none⟩ (.int .u32 link)).setCell ⟨g8, 0, none⟩ (.int .i64 f1)).setCell ⟨g8, 1, none⟩ (.int .i64 f2)).heap[g6]? = some (.cells #[.bool m1, .bool m2, .int .u32 m3, .int .u32 link] 46 (0, 0)) from by refine (Below.heap_setCell _ ⟨g8, 1, none⟩ _ g6 ne1).trans ((Below.heap_setCell _ ⟨g8, 0, none⟩ _ g6 ne1).trans ?_); refine l9 (cs := #[.bool m1, .bool m2, .int .u32 m3, .int .u32 0]) ?_ 3 _ rfl; refine l9 (cs := #[.bool m1, .bool m2, .int .u32 0, .int .u32 0]) ?_ 2 _ rfl; refine l9 (cs := #[.bool m1, .bool false, .int .u32 0, .int .u32 0]) ?_ 1 _ rfl; refine l9 (cs := #[.bool false, .bool false, .int .u32 0, .int .u32 0]) ?_ 0 _ rfl; exact c0f.out)
 have b85 := a_ (show ((((((w10.setCell ⟨g6, 0, none⟩ (.bool m1)).setCell ⟨g6, 1, none⟩ (.bool m2)).setCell ⟨g6, 2, none⟩ (.int .u32 m3)).setCell ⟨g6, 3, none⟩ (.int .u32 link)).setCell ⟨g8, 0, none⟩ (.int .i64 f1)).setCell ⟨g8, 1, none⟩ (.int .i64 f2)).heap[g8]? = some (.cells #[.int .i64 f1, .int .i64 f2] 30 (0, 0)) from by refine l9 (cs := #[.int .i64 f1, .int .i64 0]) ?_ 1 _ rfl; refine l9 (cs := #[.int .i64 0, .int .i64 0]) ?_ 0 _ rfl; exact (Below.heap_setCell _ ⟨g6, 3, none⟩ _ g8 ne2).trans ((Below.heap_setCell _ ⟨g6, 2, none⟩ _ g8 ne2).trans ((Below.heap_setCell _ ⟨g6, 1, none⟩ _ g8 ne2).trans ((Below.heap_setCell _ ⟨g6, 0, none⟩ _ g8 ne2).trans (BK8.out)))))
 have HBr := a_ (o7 (j := 1) (v := .int .i64 f2) (o7 (j := 0) (v := .int .i64 f1) (o7 (j := 3) (v := .int .u32 link) (o7 (j := 2) (v := .int .u32 m3) (o7 (j := 1) (v := .bool m2) (o7 (j := 0) (v := .bool m1) a7c.out GE6.out) GE6.out) GE6.out) GE6.out) GE8.out) GE8.out)
 generalize (((((w10.setCell ⟨g6, 0, none⟩ (.bool m1)).setCell ⟨g6, 1, none⟩ (.bool m2)).setCell ⟨g6, 2, none⟩ (.int .u32 m3)).setCell ⟨g6, 3, none⟩ (.int .u32 link)).setCell ⟨g8, 0, none⟩ (.int .i64 f1)).setCell ⟨g8, 1, none⟩ (.int .i64 f2) = w11 at f3X b85 HBr ⊢
 clear BK6 c0f BK8 HB9 a7c f3Q f3R f3S f3T f3U f3V d6M f3W c0T c0S c0U d1c HB HB3 HB5 BK3 d6J BK5
 have d6N := a_ (L6 d6K.out HBr.out)
 have a4U := a_ (L6 b0f.out HBr.out)
 have d6O := a_ (Kd.a4s HL.out HBr.out)
 have b6r := a_ (J6 HB8.out HBr.out)
 clear HL d6K b0f HB8 HBr GE6 GE8 LT6 ne1 ne2
 obtain ⟨c0T, c0U⟩ := e0I b85.out
 have d6M := bc3 f3X
 by_cases hf : f2 = 0
 ·have h := HH.out; rw [if_pos hf] at h; have HH := a_ h; subst hf; clear h
  go_upto_region 4 with (fail)
  clear c0T c0U
  go_cut [34] (fun v34 wc => v34 = .bool (capture_records_read.odd link) ∧ wc = w11)
  case first =>
   by_cases e1 : link = 9
   ·subst e1
    go_wp2
    go_meet
    case rel => exact ⟨by simp [capture_records_read.odd], rfl⟩
   ·have b1 : (link == 9) = false := by simpa using e1
    have d1 : decide (link = 9) = false := by simpa using e1
    by_cases e2 : link = 50
    ·subst e2
     go_wp2
     go_meet
     case rel => exact ⟨by simp [capture_records_read.odd], rfl⟩
    ·have b2 : (link == 50) = false := by simpa using e2
     have d2 : decide (link = 50) = false := by simpa using e2
     by_cases e3 : link = 204
     ·subst e3
      go_wp2
      go_meet
      case rel => exact ⟨by simp [capture_records_read.odd], rfl⟩
     ·have b3 : (link == 204) = false := by simpa using e3
      have d3 : decide (link = 204) = false := by simpa using e3
      go_wp2
      go_meet
      case rel => exact ⟨by simp only [capture_records_read.odd, bne, b1, b2, b3]; rfl, rfl⟩
  case rest =>
   obtain ⟨rfl, rfl⟩ := hcut
   by_cases ho : capture_records_read.odd link = true
   ·have h := HH.out; rw [if_pos ho] at h
    simp only [Option.some.injEq, Prod.mk.injEq] at h
    obtain ⟨rfl, rfl, rfl⟩ := h; clear HH; rw [ho]; have d1d := bc0 a4U; have c3y := l7 a4U.out 0; have d1e := bc1 a4U; have c3z := l7 a4U.out 1
    go_wp2
    refine bodyPost_ret (a0v rfl _ _ g5 30 #[.int .i64 20, .int .i64 7] (0, 0) _ rfl (l9 (l9 a4U.out 0 _ rfl) 1 _ rfl) a8e rfl (by kernel_rfl)) rfl ?_; exact ⟨_, rfl, Kd.a5p _ _ _ _ _, o7 (o7 b6r.out GE5.out) GE5.out⟩
   ·have h := HH.out; rw [if_neg ho] at h; obtain ⟨o, hgo, h⟩ := Option.bind_eq_some_iff.1 h
    simp only [Option.some.injEq, Prod.mk.injEq] at h
    obtain ⟨rfl, rfl, rfl⟩ := h; clear HH; have HGO : Aside0 (H6.go k b5q link (l.drop 0) [] = some o) := ⟨by rw [List.drop_zero]; exact hgo⟩; clear hgo; rw [show capture_records_read.odd link = false from by simpa using ho]; have HI0 : Aside0 (RR wc wc (.slice none 0 0) []) := ⟨⟨Kd.a5p _ _ _ _ _, Below.refl _ _⟩⟩; have hml := Kd.b3E (Kd.a1J d6O.out).2.2; have g3V := bc6 d6N
    go_wp2
    go_loopg [9, 10] l.length (fun kq v9 v10 w' => ∃ (j : Nat) (out : List (S42)), kq + j = l.length ∧ v10 = .int .i64 (j : Int) ∧ Aside0 (RR wc w' v9 out) ∧ Aside0 (H6.go k b5q link (l.drop j) out = some o))
    case atStart => exact ⟨0, _, rfl, rfl, HI0, HGO⟩
    case round =>
     obtain ⟨j, out, hj, rfl, HI, HGJ⟩ := hrel; clear HI0 HGO; have hcell : ∀ {a : Addr} {v : Value}, wc.cell? a = some v → wr.cell? a = some v := fun {a v} hc => (HI.out.bel.cell (World.block_lt_of_cell? wc _ hc)).trans hc
     by_cases hlt : j < l.length
     ·obtain ⟨k1, rfl⟩ : ∃ k1, gk = k1 + 1 := ⟨gk - 1, by omega⟩; have c1_ : decide ((j : Int) < (l.length : Int)) = true := dt_ (by omega); have p1_ : (0 : Int) ≤ (j : Int) := by omega
      have q1_ : (j : Int) < (l.length : Int) := by omega
      obtain ⟨ad, Ax, cx, e0, hx0, hx1, hx2, hx3, hlx, hix⟩ := c1w (Kd.a1J d6O.out).2.2 (j : Int) p1_ q1_; have hgo := HGJ.out; rw [capture_records_read.d1f l j hlt, H6.go] at hgo; generalize X9 l (j : Int) = x at hx0 hx1 hx2 hx3 hlx hix hgo
      cases e0
      rw [Int.toNat_natCast] at hx0 hx1 hx2 hx3; replace hx3 := hcell hx3; have g9r := hcell d6M; have g9s := hcell g3V; have HIX := a_ (Kd.y9 hix HI.out.bel); have HLX := a_ hlx; clear hlx hix HGJ hx0 hx1 hx2 hcell
      by_cases hl4 : link = 204
      ·subst hl4; rw [if_pos rfl] at hgo
       by_cases hp : 0 < x.f3.length
       ·rw [if_pos hp] at hgo; obtain ⟨o1, ho1, hgo⟩ := Option.bind_eq_some_iff.1 hgo; have HGN := a_ hgo; clear hgo; have g1 : decide ((x.f3.length : Int) > 0) = true := dt_ (by omega); have g2 : decide (0 < (x.f3.length : Int)) = true := dt_ (by omega); have p2_ : (0 : Int) ≤ 0 := by omega
        have q2_ : (0 : Int) < (x.f3.length : Int) := by omega
        obtain ⟨adx, ex, hb0⟩ := Kd.Q7 HIX.out 0 p2_ q2_
        cases ex
        rw [show (0 : Int).toNat = 0 from rfl, Addr.add_zero'] at hb0; have qi_ : (0 < x.f3.length) = True := eq_true hp; have q88 : (1 : Int) ≤ (x.f3.length : Int) := by omega
        obtain ⟨i0, hi0, _, hsz, _⟩ := info_parts info5; have d6P := b78 (P := Tryd.prog) 22 5 .i64 Tryd.underlying22 hi0 1 hsz (some adx) x.f3.length cx 1 (by omega) q88; have hd1 := Kd.c1C (m := (1 : Int).toNat) (c := cx) HIX.out (by omega) HLX.out; obtain ⟨A88, c71⟩ : ∃ A_, A_ = (if cx = (1 : Int).toNat then (some adx) else ((some adx) : Option Addr).map (·.add ((1 : Int).toNat * 1))) := ⟨_, rfl⟩; obtain ⟨c88, c73⟩ : ∃ c_, c_ = cx - (1 : Int).toNat := ⟨_, rfl⟩; obtain ⟨y, hy⟩ : ∃ y_, y_ = x.f3.drop 1 := ⟨_, rfl⟩; have hyl : y.length = x.f3.length - (1 : Int).toNat := by rw [hy, List.length_drop]; rfl
        rw [show x.f3.drop (1 : Int).toNat = y from hy.symm] at hd1; replace hd1 : Kd.C (Kd.int .u8) wr A88 y.length y := by rw [c71]; exact hd1
        rw [← hyl, ← c71, ← c73] at d6P; have HD1 := a_ hd1; have HDC := a_ (show y.length ≤ c88 from by rw [hyl, c73]; exact Nat.sub_le_sub_right HLX.out _); rw [← hy] at ho1; clear hd1 hi0 hsz c73 c71 hyl hy; replace p2_ := eq_true p2_; replace q2_ := eq_true q2_; replace q88 := eq_true q88
        by_cases hb : rd x.f3 0 = 0
        ·rw [if_pos hb] at ho1; rw [hb] at hb0; have HO1 := a_ ho1; clear ho1
         go_wp2_with (go_at_call 47; refine (J9.calls k wc.heap.size (fun _ => True) _ out 1 A88 c88 y o1 _ HI.out.row (fun _ _ => trivial) HI.out.bel.size HD1.out HDC.out HO1.out).mono ?_; rintro e w17 ⟨v', rfl, ⟨hl⟩, ⟨hb_⟩⟩; have a7o := a_ (HI.out.item hl hb_); clear hl hb_)
         go_roundg k1
         case measure => omega
         case rel => exact ⟨j + 1, o1, by omega, by go_num, a7o, HGN⟩
        ·rw [if_neg hb] at ho1; have bb : (rd x.f3 0 == 0) = false := by simpa using hb
         have bd : decide (rd x.f3 0 = 0) = false := by simpa using hb
         have HO1 := a_ ho1; clear ho1
         go_wp2_with (go_at_call 47; refine (J9.calls k wc.heap.size (fun _ => True) _ out 2 A88 c88 y o1 _ HI.out.row (fun _ _ => trivial) HI.out.bel.size HD1.out HDC.out HO1.out).mono ?_; rintro e w17 ⟨v', rfl, ⟨hl⟩, ⟨hb_⟩⟩; have a7o := a_ (HI.out.item hl hb_); clear hl hb_)
         go_roundg k1
         case measure => omega
         case rel => exact ⟨j + 1, o1, by omega, by go_num, a7o, HGN⟩
       ·rw [if_neg hp] at hgo; have HGN := a_ hgo; clear hgo; have hz : x.f3.length = 0 := by omega
        have g1 : decide ((x.f3.length : Int) > 0) = false := df_ (by omega); have g2 : decide (0 < (x.f3.length : Int)) = false := df_ (by omega); clear hz
        go_wp2
        go_roundg k1
        case measure => omega
        case rel => exact ⟨j + 1, out, by omega, by go_num, HI, HGN⟩
      ·rw [if_neg hl4] at hgo; obtain ⟨o1, ho1, hgo⟩ := Option.bind_eq_some_iff.1 hgo; have HO1 := a_ ho1; have HGN := a_ hgo; clear hgo ho1; have b3 : (link == 204) = false := by simpa using hl4
       have d3 : decide (link = 204) = false := by simpa using hl4
       go_wp2_with (go_at_call 47; refine (J9.calls k wc.heap.size (fun _ => True) _ out b5q Ax cx x.f3 o1 _ HI.out.row (fun _ _ => trivial) HI.out.bel.size HIX.out HLX.out HO1.out).mono ?_; rintro e w17 ⟨v', rfl, ⟨hl⟩, ⟨hb_⟩⟩; have a7o := a_ (HI.out.item hl hb_); clear hl hb_)
       go_roundg k1
       case measure => omega
       case rel => exact ⟨j + 1, o1, by omega, by go_num, a7o, HGN⟩
     ·have c1_ : decide ((j : Int) < (l.length : Int)) = false := df_ (by omega); have hgo := HGJ.out; rw [List.drop_of_length_le (by omega), H6.go] at hgo; obtain rfl := oj_ hgo; have b4o := a_ ((HI.out.bel.block g5 (a0u a4U.out)).trans a4U.out); have f3Z := a_ ((HI.out.bel.block g8 (a0u b85.out)).trans b85.out); have HBW := a_ (J6 b6r.out HI.out.bel); clear hcell
      go_wp2
      refine a2E (n := 4) (S := fun w' => w'.cell? ⟨g8, 0, none⟩ = some (.int .i64 f1) ∧ w'.cell? ⟨g8, 1, none⟩ = some (.int .i64 0)) (ds := [3]) (bo_ 4 0) (by kernel_rfl) rfl rfl ⟨((D6 (G9 f3Z.out) 0).trans rfl), ((D6 (G9 f3Z.out) 1).trans rfl)⟩ (fun hHeld => ?_); refine a2H (i := 0) (N := some 75) (bo_ 4 1) rfl rfl (by kernel_rfl) (fun _ _ _ h => h) (.inl ⟨rfl, by intro w'; go_simp; with_reducible rfl⟩) rfl ?_; refine a2H (i := 2) (N := some 4) (bo_ 4 5) rfl rfl (by kernel_rfl) (fun _ _ _ h => h) (.inl ⟨rfl, by intro w'; go_simp; with_reducible rfl⟩) rfl ?_; refine a1H (i := 1) (N := some 76) (v := ?_) (a' := ?_) (bo_ 4 7) rfl rfl (by kernel_rfl) (fun _ _ _ h => h) (Or.inl ⟨by rfl, ?_⟩) hHeld ?_ ?_
      rotate_left
      ·rintro w' ⟨s0, s1⟩
       go_simp
       with_reducible rfl
      rotate_left
      ·simp only [Act.put, List.setIfInBounds_toArray, List.set_cons_zero, List.set_cons_succ, a0J, a2b]
       rfl
      refine b1Q (i := 3) (N := none) (bo_ 4 15) rfl rfl (by kernel_rfl) (by decide) (fun K hK => ?_); have d1d := bc0 b4o; have c3y := l7 b4o.out 0; have d1e := bc1 b4o; have c3z := l7 b4o.out 1; refine a7H (w1 := ?_) (by rfl) rfl ?_ ?_
      rotate_left
      ·go_simp
       rfl
      refine hK.out _ _ ?_; clear hK K; refine a4D (by kernel_rfl) ?_

      try go_wp2
      refine bodyPost_ret (a0v rfl _ _ g5 30 #[.int .i64 f1, .int .i64 0] (0, 0) _ rfl (l9 (l9 (G9 b4o.out) 0 _ rfl) 1 _ rfl) a8e rfl (by kernel_rfl)) rfl ?_; exact ⟨_, rfl, Kd.N7 (ok' := fun _ => True) (Kd.a7C (Kd.b1r (Kd.b1r (Kd.b39 HI.out.row) (G9 b4o.out) (by decide) 0 _) (a3Z (G9 b4o.out) 0 _) (by decide) 1 _) b6r.out.size) (fun _ _ => trivial), o7 (o7 (Y4 HBW.out) GE5.out) GE5.out⟩
 ·have h := HH.out; rw [if_neg hf] at h
  simp only [Option.some.injEq, Prod.mk.injEq] at h
  obtain ⟨rfl, rfl, rfl⟩ := h; clear HH; have hf2 : (f2 != 0) = true := by simpa using hf
  have hf3 : (f2 == 0) = false := by simpa using hf
  go_wp2
  refine a2E (n := 3) (S := fun w' => w'.cell? ⟨g8, 0, none⟩ = some (.int .i64 f1) ∧ w'.cell? ⟨g8, 1, none⟩ = some (.int .i64 f2)) (ds := [2]) #[false, false, false] (by kernel_rfl) rfl rfl ⟨((D6 (G9 b85.out) 0).trans rfl), ((D6 (G9 b85.out) 1).trans rfl)⟩ (fun hHeld => ?_); refine a2H (i := 1) (N := some 4) #[false, true, false] rfl rfl (by kernel_rfl) (fun _ _ _ h => h) (.inl ⟨rfl, by intro w'; go_simp; with_reducible rfl⟩) rfl ?_; refine a1H (i := 0) (N := some 21) (v := ?_) (a' := ?_) #[true, true, false] rfl rfl (by kernel_rfl) (fun _ _ _ h => h) (Or.inl ⟨by rfl, ?_⟩) hHeld ?_ ?_
  rotate_left
  ·rintro w' ⟨s0, s1⟩
   go_simp
   with_reducible rfl
  rotate_left
  ·simp only [Act.put, List.setIfInBounds_toArray, List.set_cons_zero, List.set_cons_succ, a0J, a2b]
   rfl
  refine b1Q (i := 2) (N := none) #[true, true, true] rfl rfl (by kernel_rfl) (by decide) (fun K hK => ?_); have d1d := bc0 a4U; have c3y := l7 a4U.out 0; have d1e := bc1 a4U; have c3z := l7 a4U.out 1; refine a7H (w1 := ?_) (by rfl) rfl ?_ ?_
  rotate_left
  ·go_simp
   rfl
  refine hK.out _ _ ?_; clear hK K; refine a4D (by kernel_rfl) ?_

  try go_wp2
  refine bodyPost_ret (a0v rfl _ _ g5 30 #[.int .i64 f1, .int .i64 f2] (0, 0) _ rfl (l9 (l9 (G9 a4U.out) 0 _ rfl) 1 _ rfl) a8e rfl (by kernel_rfl)) rfl ?_; exact ⟨_, rfl, Kd.a5p _ _ _ _ _, o7 (o7 (Y4 b6r.out) GE5.out) GE5.out⟩
def U1.f (k : Nat) (l0 : List Int) (a1 : Bool) : Option (List Int × Bool) := (O6.f a1).bind fun b6w => (if (wrap64 ((l0.length : Int) - b6w)) < 0 then (some (([] : List Int), false)) else (if 0 ≤ (wrap64 ((l0.length : Int) - b6w)) then (if (wrap64 ((l0.length : Int) - b6w)) ≤ (l0.length : Int) then ((V7.f k (l0.take ((wrap64 ((l0.length : Int) - b6w)) : Int).toNat) a1).bind fun d6Q => (if (strOfNums d6Q).toList = (strOfNums l0).toList then (if ([] : List Int).length + (l0.take ((wrap64 ((l0.length : Int) - b6w)) : Int).toNat).length < 140737488355328 then (some ((([] : List Int) ++ (l0.take ((wrap64 ((l0.length : Int) - b6w)) : Int).toNat)), true)) else (none)) else (some (([] : List Int), false)))) else (none)) else (none)))
def U1.T4 : Bool × List (List Nat × List Nat) := (true, [([], []), ([], []), ([0, 1], [0, 1]), ([], []), ([2, 3], [2, 3]), ([4], [4]), ([], []), ([6], [6]), ([5, 7], [5, 7])])
def U1.B4 : List Nat := [0, 0, 3, 0, 15, 31, 0, 64, 255]
theorem U1.d3M : a3g .any (opsOf Tryd.f101 4) = U1.T4 := by kernel_rfl
theorem U1.c0W : a2I U1.T4.2 U1.B4 = true := by kernel_rfl
theorem U1.calls (k : Nat) (A0 : Option Addr) (c0 : Nat) (l0 : List Int) (a1 : Bool) (r1 : List Int) (r2 : Bool) (w : World) (hr0 : Kd.C (Kd.int .u8) w A0 l0.length l0) (hc0 : l0.length ≤ c0) (h : U1.f k l0 a1 = some (r1, r2)) :
  Calls Tryd.prog 101 #[.slice A0 l0.length c0, .bool a1] w fun e w' => ∃ v0_ : Value, e = .returned (.tuple #[v0_, .bool r2]) ∧ Kd.R (Kd.int .u8) 5 w' w.heap.size (fun _ => True) v0_ r1 ∧ Below w.heap.size w w' := by
 have HR0 := a_ hr0
 have HC0 := a_ hc0
 clear hr0 hc0
 have HB := a_ (Below.refl w.heap.size w)
 have H := h
 clear h
 unfold U1.f at H
 obtain ⟨b6w, A3, H⟩ := bd_ H
 try dsimp only at H
 by_cases c4 : (wrap64 ((l0.length : Int) - b6w)) < 0
 ·rw [if_pos c4] at H; have a4i := dt_ c4; clear c4; obtain ⟨rfl, rfl⟩ := s2_ H
  go_enter Tryd.func101, Tryd.ntmps101
  go_wp2_with (first | (refine gl_ (some 11) Tryd.func77 #[.bool a1] ?_; (with_reducible refine (O6.calls a1 b6w _ A3.out).mono ?_); rintro e w' ⟨rfl, ⟨nd, rfl⟩⟩; refine ⟨_, rfl, ?_⟩))
  go_ret2
  exact ⟨_, by (rfl), by (exact Kd.Y2 _ _ _ _ _), by repeat (with_reducible first | exact HB.out | apply o9)⟩
 ·rw [if_neg c4] at H; have a4i := df_ c4; clear c4; obtain ⟨ji5, c0c⟩ := si_ ((wrap64 ((l0.length : Int) - b6w))); rw [c0c] at H
  (try rw [c0c] at a4i)
  have g9t : (IntKind.i64.wrap ((l0.length : Int) - b6w)) = ji5 := (a0J _).trans c0c; have c6 := Z4 H; replace H := O5 H; have a8y := eq_true c6; have b5p := dt_ c6; clear c6; have c7 := Z4 H; replace H := O5 H; have a6f := eq_true c7; have b0g := dt_ c7; clear c7; obtain ⟨d6Q, A8, H⟩ := bd_ H
  try dsimp only at H
  by_cases c9 : (strOfNums d6Q).toList = (strOfNums l0).toList
  ·rw [if_pos c9] at H; obtain ⟨b2d, b8F⟩ := bt_ c9; clear c9; have a9w := eq_true (V5 : 0 ≤ (ji5)); have a7L := eq_true (V5 : (ji5) ≤ (l0.length : Int)); have c12 := Z4 H; replace H := O5 H; have d0d := a_ c12; clear c12; obtain ⟨h3u, d6R⟩ := is_ ((([] : List Int) ++ (l0.take ((ji5) : Int).toNat)) : List Int); rw [← d6R] at H; have f4a := a_ d6R; clear d6R; obtain ⟨rfl, rfl⟩ := s2_ H
   go_enter Tryd.func101, Tryd.ntmps101
   try go_wp2_with (first | (refine gl_ (some 11) Tryd.func77 #[.bool a1] ?_; (with_reducible refine (O6.calls a1 b6w _ A3.out).mono ?_); rintro e w' ⟨rfl, ⟨nd, rfl⟩⟩; refine ⟨_, rfl, ?_⟩))
   replace HB := a_ (Y4 (o9 HB.out nd)); obtain ⟨h3v, e5C, _, e5D, _⟩ := info_parts info5; obtain ⟨g3W, f4b, f4c⟩ := a6c (P := Tryd.prog) (Value.int .u8) 0 22 5 .i64 Tryd.underlying22 e5C e5D A0 c0 l0 (ji5) (V5) (V5) HC0.out; have c54 := ci_ (Kd.Y8 (h1 := fun _ => rfl) (f4b _ (Kd.Y3 HR0.out))); have d6S := a_ f4c; clear f4b f4c e5C e5D; refine a2E (n := 9) (S := fun w' => (convert 22 9 (.slice A0 l0.length c0)).run Tryd.prog w' = .ok (.string (strOfNums l0)) w') (ds := []) (bo_ 9 0) (by kernel_rfl) rfl rfl ((Kd.a2r (P := Tryd.prog) (A := A0) (c := c0) Tryd.underlying22 Tryd.underlying5 Tryd.underlying9 HR0.out)) (fun hHeld => ?_); refine a2J U1.d3M U1.c0W (fun Z8 HW_ => ?_); generalize (w.drewN nd).drew = w13 at HB c54 hHeld ⊢; refine pu_ 0 (some 15) Z8 ?_; refine pu_ 1 (some 16) Z8 ?_; refine pu_ 2 (some 17) Z8 ?_; refine pu_ 3 (some 18) Z8 ?_; refine pu_ 6 (some 21) Z8 ?_; refine a1H (i := 7) (N := some 22) (v := ?_) (a' := ?_) (bo_ 9 207) rfl rfl (a1I Z8.out HW_.out (by kernel_rfl)) (fun _ _ _ h => h) (Or.inl ⟨by rfl, ?_⟩) hHeld ?_ ?_
   rotate_left
   ·intro w' s0
    go_simp
    with_reducible rfl
   rotate_left
   ·simp only [Act.put, List.setIfInBounds_toArray, List.set_cons_zero, List.set_cons_succ, a0J, a2b]
    rfl
   refine a6o (i := 4) (N := some 19) (bo_ 9 223) rfl rfl (a1U Z8.out (by kernel_rfl)) (by decide) (fun K hK => ?_); refine a5o Tryd.func57 (by kernel_rfl) rfl #[.slice A0 (l0.take ((ji5) : Int).toNat).length c0, .bool a1] (by rfl) rfl rfl (by (try simp only [List.map_toArray, List.map_cons, List.map_nil]); (rw [show (l0.take ((ji5) : Int).toNat).length = (ji5).toNat from (by rw [List.length_take]; have h_ : ((ji5) : Int) ≤ (l0.length : Int) := V5; omega)] <;> rfl)) ?_
   with_reducible refine (V7.calls k _ _ (l0.take ((ji5) : Int).toNat) a1 d6Q _ ?P9 ?P6 A8.out).mono ?_
   (case P9 => exact (Kd.y9 c54.out HB.out))
   (case P6 => exact d6S.out)
   rintro e w15 ⟨e8w, rfl, ho0, hb⟩; refine ⟨_, rfl, ?_⟩; have c0X := rl_ ho0 HB; replace HB := V3 HB hb
   (try clear hb)
   (try clear ho0)
   refine hK.out _ _ ((Kd.a2r (P := Tryd.prog) (A := A0) (c := c0) Tryd.underlying22 Tryd.underlying5 Tryd.underlying9 (by (exact (Kd.y9 HR0.out HB.out))))) (fun hHeld => ?_); clear hK K; refine nm_ (some 19) ?_; refine a6o (i := 5) (N := some 20) (bo_ 9 255) rfl rfl (a1U Z8.out (by kernel_rfl)) (by decide) (fun K hK => ?_); have e5E := b36 (P := Tryd.prog) Tryd.underlying22 Tryd.underlying5 Tryd.underlying9 (Kd.b1O c0X.out); refine b1R (w1 := ?_) (v := ?_) (by rfl) rfl ?_ ?_
   rotate_left 2
   ·go_simp
    constructor
    ·rfl
    ·rfl
   clear e5E; refine hK.out _ _ ((Kd.a2r (P := Tryd.prog) (A := A0) (c := c0) Tryd.underlying22 Tryd.underlying5 Tryd.underlying9 (by (exact (Kd.y9 HR0.out HB.out))))) (fun hHeld => ?_); clear hK K; refine nm_ (some 20) ?_; refine pu_ 8 (some 23) Z8 ?_; refine a4D (a5D Z8.out (by kernel_rfl)) ?_; obtain ⟨d6T, a7N, _, a7O, _⟩ := info_parts info5; obtain ⟨b86, b2p, b2q⟩ := a6c (P := Tryd.prog) (Value.int .u8) 0 22 5 .i64 Tryd.underlying22 a7N a7O A0 c0 l0 (ji5) (V5) (V5) HC0.out; have f4d := ci_ (Kd.Y8 (h1 := fun _ => rfl) (b2p _ (Kd.Y3 HR0.out))); have g9u := a_ b2q; clear b2p b2q a7N a7O
   try go_wp2_with (first | ((with_reducible refine E8 (b := .append) (xs := #[.tmp 24, .tmp 27]) rfl ?_); at_builtin; refine Kd.P7 (Kd.int .u8) (w0 := w) w.heap.size rfl (.tmp 24) (.tmp 27) 22 5 (.int .u8 0) 1 rfl Tryd.underlying22 info5 rfl (by decide) (by omega) (.slice none 0 0) ([] : List Int) (l0.take ((ji5) : Int).toNat) _ _ _ (fun k_ => some k_ ≠ (e8w : Value).ownBlock) (fun _ => False) rfl rfl ?aO ?aR (fun _ _ h => h) (fun _ h => h.elim) ?aF ?aB ?aS ?aL ?_; (case aR => (have c_ := (Kd.y9 f4d.out HB.out); rw [show (l0.take ((ji5) : Int).toNat).length = (ji5).toNat from (by rw [List.length_take]; have h_ : ((ji5) : Int) ≤ (l0.length : Int) := V5; omega)] at c_; exact c_)); (case aB => exact HB.out); (case aF => exact (fun k_ hk => Kd.fresh' (Kd.a0i c0X.out) k_ hk)); (case aO => exact ((Kd.Y2 _ _ _ _ (fun k_ => some k_ ≠ (e8w : Value).ownBlock)))); (case aS => exact (y5 HB.out)); (case aL => have := d0d.out; have e8x := (show (l0.take ((ji5) : Int).toNat).length = (ji5).toNat from (by rw [List.length_take]; have h_ : ((ji5) : Int) ≤ (l0.length : Int) := V5; omega)); omega); intro h3w w19 ho hb hg hat; rw [← f4a.out] at ho; have f4e := a_ ho; replace c0X := a_ (Kd.a0T (Kd.a6r c0X.out) hg hat); replace HB := a_ hb; clear ho hb hg hat))
   go_ret2
   exact ⟨_, by (rfl), by exact Kd.D7 f4e.out (fun _ hk => trivial), by exact HB.out⟩
  ·rw [if_neg c9] at H; have b2d := bq_ c9; have b8F := bn_ c9; obtain ⟨rfl, rfl⟩ := s2_ H
   go_enter Tryd.func101, Tryd.ntmps101
   try go_wp2_with (first | (refine gl_ (some 11) Tryd.func77 #[.bool a1] ?_; (with_reducible refine (O6.calls a1 b6w _ A3.out).mono ?_); rintro e w' ⟨rfl, ⟨nd, rfl⟩⟩; refine ⟨_, rfl, ?_⟩))
   replace HB := a_ (Y4 (o9 HB.out nd)); obtain ⟨h3y, e5F, _, e5G, _⟩ := info_parts info5; obtain ⟨g3X, f4f, f4g⟩ := a6c (P := Tryd.prog) (Value.int .u8) 0 22 5 .i64 Tryd.underlying22 e5F e5G A0 c0 l0 (ji5) (V5) (V5) HC0.out; have c54 := ci_ (Kd.Y8 (h1 := fun _ => rfl) (f4f _ (Kd.Y3 HR0.out))); have d6S := a_ f4g; clear f4f f4g e5F e5G; refine a2E (n := 9) (S := fun w' => (convert 22 9 (.slice A0 l0.length c0)).run Tryd.prog w' = .ok (.string (strOfNums l0)) w') (ds := []) (bo_ 9 0) (by kernel_rfl) rfl rfl ((Kd.a2r (P := Tryd.prog) (A := A0) (c := c0) Tryd.underlying22 Tryd.underlying5 Tryd.underlying9 HR0.out)) (fun hHeld => ?_); refine a2J U1.d3M U1.c0W (fun Z8 HW_ => ?_); generalize (w.drewN nd).drew = w20 at HB c54 hHeld ⊢; refine pu_ 0 (some 15) Z8 ?_; refine pu_ 1 (some 16) Z8 ?_; refine pu_ 2 (some 17) Z8 ?_; refine pu_ 3 (some 18) Z8 ?_; refine pu_ 6 (some 21) Z8 ?_; refine a1H (i := 7) (N := some 22) (v := ?_) (a' := ?_) (bo_ 9 207) rfl rfl (a1I Z8.out HW_.out (by kernel_rfl)) (fun _ _ _ h => h) (Or.inl ⟨by rfl, ?_⟩) hHeld ?_ ?_
   rotate_left
   ·intro w' s0
    go_simp
    with_reducible rfl
   rotate_left
   ·simp only [Act.put, List.setIfInBounds_toArray, List.set_cons_zero, List.set_cons_succ, a0J, a2b]
    rfl
   refine a6o (i := 4) (N := some 19) (bo_ 9 223) rfl rfl (a1U Z8.out (by kernel_rfl)) (by decide) (fun K hK => ?_); refine a5o Tryd.func57 (by kernel_rfl) rfl #[.slice A0 (l0.take ((ji5) : Int).toNat).length c0, .bool a1] (by rfl) rfl rfl (by (try simp only [List.map_toArray, List.map_cons, List.map_nil]); (rw [show (l0.take ((ji5) : Int).toNat).length = (ji5).toNat from (by rw [List.length_take]; have h_ : ((ji5) : Int) ≤ (l0.length : Int) := V5; omega)] <;> rfl)) ?_
   with_reducible refine (V7.calls k _ _ (l0.take ((ji5) : Int).toNat) a1 d6Q _ ?P9 ?P6 A8.out).mono ?_
   (case P9 => exact (Kd.y9 c54.out HB.out))
   (case P6 => exact d6S.out)
   rintro e w22 ⟨e8w, rfl, ho0, hb⟩; refine ⟨_, rfl, ?_⟩; have c0X := rl_ ho0 HB; replace HB := V3 HB hb
   (try clear hb)
   (try clear ho0)
   refine hK.out _ _ ((Kd.a2r (P := Tryd.prog) (A := A0) (c := c0) Tryd.underlying22 Tryd.underlying5 Tryd.underlying9 (by (exact (Kd.y9 HR0.out HB.out))))) (fun hHeld => ?_); clear hK K; refine nm_ (some 19) ?_; refine a6o (i := 5) (N := some 20) (bo_ 9 255) rfl rfl (a1U Z8.out (by kernel_rfl)) (by decide) (fun K hK => ?_); have f4h := b36 (P := Tryd.prog) Tryd.underlying22 Tryd.underlying5 Tryd.underlying9 (Kd.b1O c0X.out); refine b1R (w1 := ?_) (v := ?_) (by rfl) rfl ?_ ?_
   rotate_left 2
   ·go_simp
    constructor
    ·rfl
    ·rfl
   clear f4h; refine hK.out _ _ ((Kd.a2r (P := Tryd.prog) (A := A0) (c := c0) Tryd.underlying22 Tryd.underlying5 Tryd.underlying9 (by (exact (Kd.y9 HR0.out HB.out))))) (fun hHeld => ?_); clear hK K; refine nm_ (some 20) ?_; refine pu_ 8 (some 23) Z8 ?_; refine a4D (a5D Z8.out (by kernel_rfl)) ?_
   try go_wp2
   go_ret2
   exact ⟨_, by (rfl), by (exact Kd.Y2 _ _ _ _ _), by exact HB.out⟩
def a2g.f (k : Nat) (l0 : List Int) (a1 : Int) (a2 : Bool) : Option (List Int × Int) := (L8.f k l0 a1).bind fun c0g => (if (c0g.length : Int) = 0 then (some (([] : List Int), 0)) else ((C9.f k l0 a1).bind fun d1g => (if d1g.2 = true then ((O6.f a2).bind fun c77 => (if (d1g.1.length : Int) < (wrap64 (c77 + 2)) then (some (([] : List Int), 3)) else ((O6.f a2).bind fun c55 => (if (d1g.1.length : Int) > (wrap64 (c55 + 65535)) then (some (([] : List Int), 4)) else ((U1.f k d1g.1 a2).bind fun e5H => (if e5H.2 = true then (some (e5H.1, 1)) else (some (([] : List Int), 5)))))))) else (some (([] : List Int), 2)))))
theorem a2g.calls (k : Nat) (A0 : Option Addr) (c0 : Nat) (l0 : List Int) (a1 : Int) (a2 : Bool) (r1 : List Int) (r2 : Int) (w : World) (hr0 : Kd.C (Kd.int .u8) w A0 l0.length l0) (hc0 : l0.length ≤ c0) (h : a2g.f k l0 a1 a2 = some (r1, r2)) :
  Calls Tryd.prog 86 #[.slice A0 l0.length c0, .int .u32 a1, .bool a2] w fun e w' => ∃ v0_ : Value, e = .returned (.tuple #[v0_, .int .i64 r2]) ∧ Kd.R (Kd.int .u8) 5 w' w.heap.size (fun _ => True) v0_ r1 ∧ Below w.heap.size w w' := by
 have HR0 := a_ hr0
 have HC0 := a_ hc0
 clear hr0 hc0
 have HB := a_ (Below.refl w.heap.size w)
 have H := h
 clear h
 unfold a2g.f at H
 obtain ⟨c0g, A4, H⟩ := bd_ H
 try dsimp only at H
 by_cases c5 : (c0g.length : Int) = 0
 ·rw [if_pos c5] at H; obtain ⟨a5H, b1f⟩ := bt_ c5; clear c5; obtain ⟨rfl, rfl⟩ := s2_ H
  go_enter Tryd.func86, Tryd.ntmps86
  go_wp2_with (first | (refine gl_ (some 14) Tryd.func99 #[.slice A0 l0.length c0, .int .u32 a1] ?_; (with_reducible refine (L8.calls k _ _ l0 a1 c0g _ ?P9 ?P6 A4.out).mono ?_); (case P9 => exact HR0.out); (case P6 => exact HC0.out); rintro e w6 ⟨d6U, rfl, ho0, hb⟩; refine ⟨_, rfl, ?_⟩; have a3c := rl_ ho0 HB; replace HB := V3 HB hb; (try clear hb); (try clear ho0); obtain ⟨Ao7, co7, eo7⟩ := Kd.G7 a3c.out; subst eo7))
  go_ret2
  exact ⟨_, by (rfl), by (exact Kd.Y2 _ _ _ _ _), by exact HB.out⟩
 ·rw [if_neg c5] at H; have a5H := bq_ c5; have b1f := bn_ c5; have h3z : ¬ (c0g = []) := fun h_ => c5 (by rw [h_]; rfl)
  obtain ⟨⟨b6x, g3Y⟩, A8, H⟩ := bd_ H
  try dsimp only at H
  by_cases c9 : g3Y = true
  ·subst c9; rw [if_pos rfl] at H; obtain ⟨c77, A10, H⟩ := bd_ H
   try dsimp only at H
   by_cases c11 : (b6x.length : Int) < (wrap64 (c77 + 2))
   ·rw [if_pos c11] at H; have a7L := dt_ c11; clear c11; obtain ⟨rfl, rfl⟩ := s2_ H
    go_enter Tryd.func86, Tryd.ntmps86
    go_wp2_with (first | (refine gl_ (some 14) Tryd.func99 #[.slice A0 l0.length c0, .int .u32 a1] ?_; (with_reducible refine (L8.calls k _ _ l0 a1 c0g _ ?P9 ?P6 A4.out).mono ?_); (case P9 => exact HR0.out); (case P6 => exact HC0.out); rintro e w12 ⟨d6U, rfl, ho0, hb⟩; refine ⟨_, rfl, ?_⟩; have a3c := rl_ ho0 HB; replace HB := V3 HB hb; (try clear hb); (try clear ho0); obtain ⟨h3A, h3B, g3Z⟩ := Kd.G7 a3c.out; subst g3Z) | (refine gl_ (some 20) Tryd.func100 #[.slice A0 l0.length c0, .int .u32 a1] ?_; (with_reducible refine (C9.calls k _ _ l0 a1 b6x true _ ?P9 ?P6 A8.out).mono ?_); (case P9 => exact (Kd.y9 HR0.out HB.out)); (case P6 => exact HC0.out); rintro e w14 ⟨e1A, rfl, ho0, hb⟩; refine ⟨_, rfl, ?_⟩; have a7i := rn_ ho0 a3c HB; replace a3c := rR_ a3c ho0 hb; replace HB := V3 HB hb; (try clear hb); (try clear ho0); obtain ⟨b4m, a7M, c7V⟩ := Kd.G7 a7i.out; subst c7V) | (refine gl_ (some 28) Tryd.func77 #[.bool a2] ?_; (with_reducible refine (O6.calls a2 c77 _ A10.out).mono ?_); rintro e w' ⟨rfl, ⟨nd, rfl⟩⟩; refine ⟨_, rfl, ?_⟩))
    go_ret2
    exact ⟨_, by (rfl), by (exact Kd.Y2 _ _ _ _ _), by repeat (with_reducible first | exact HB.out | apply o9)⟩
   ·rw [if_neg c11] at H; have a7L := df_ c11; clear c11; obtain ⟨c55, A16, H⟩ := bd_ H
    try dsimp only at H
    by_cases c17 : (b6x.length : Int) > (wrap64 (c55 + 65535))
    ·rw [if_pos c17] at H; have b5a : decide ((wrap64 (c55 + 65535)) < (b6x.length : Int)) = true := dt_ c17; clear c17; obtain ⟨rfl, rfl⟩ := s2_ H
     go_enter Tryd.func86, Tryd.ntmps86
     go_wp2_with (first | (refine gl_ (some 14) Tryd.func99 #[.slice A0 l0.length c0, .int .u32 a1] ?_; (with_reducible refine (L8.calls k _ _ l0 a1 c0g _ ?P9 ?P6 A4.out).mono ?_); (case P9 => exact HR0.out); (case P6 => exact HC0.out); rintro e w18 ⟨d6U, rfl, ho0, hb⟩; refine ⟨_, rfl, ?_⟩; have a3c := rl_ ho0 HB; replace HB := V3 HB hb; (try clear hb); (try clear ho0); obtain ⟨b1g, b1h, c78⟩ := Kd.G7 a3c.out; subst c78) | (refine gl_ (some 20) Tryd.func100 #[.slice A0 l0.length c0, .int .u32 a1] ?_; (with_reducible refine (C9.calls k _ _ l0 a1 b6x true _ ?P9 ?P6 A8.out).mono ?_); (case P9 => exact (Kd.y9 HR0.out HB.out)); (case P6 => exact HC0.out); rintro e w20 ⟨e1A, rfl, ho0, hb⟩; refine ⟨_, rfl, ?_⟩; have a7i := rn_ ho0 a3c HB; replace a3c := rR_ a3c ho0 hb; replace HB := V3 HB hb; (try clear hb); (try clear ho0); obtain ⟨b81, b82, c3j⟩ := Kd.G7 a7i.out; subst c3j) | (refine gl_ (some 28) Tryd.func77 #[.bool a2] ?_; (with_reducible refine (O6.calls a2 c77 _ A10.out).mono ?_); rintro e w' ⟨rfl, ⟨nd, rfl⟩⟩; refine ⟨_, rfl, ?_⟩) | (refine gl_ (some 34) Tryd.func77 #[.bool a2] ?_; (with_reducible refine (O6.calls a2 c55 _ A16.out).mono ?_); rintro e w' ⟨rfl, ⟨nd, rfl⟩⟩; refine ⟨_, rfl, ?_⟩))
     go_ret2
     exact ⟨_, by (rfl), by (exact Kd.Y2 _ _ _ _ _), by repeat (with_reducible first | exact HB.out | apply o9)⟩
    ·rw [if_neg c17] at H; have b5a : decide ((wrap64 (c55 + 65535)) < (b6x.length : Int)) = false := df_ c17; clear c17; obtain ⟨⟨f4k, g31⟩, A22, H⟩ := bd_ H
     try dsimp only at H
     by_cases c23 : g31 = true
     ·subst c23; rw [if_pos rfl] at H; obtain ⟨rfl, rfl⟩ := s2_ H
      go_enter Tryd.func86, Tryd.ntmps86
      go_wp2_with (first | (refine gl_ (some 14) Tryd.func99 #[.slice A0 l0.length c0, .int .u32 a1] ?_; (with_reducible refine (L8.calls k _ _ l0 a1 c0g _ ?P9 ?P6 A4.out).mono ?_); (case P9 => exact HR0.out); (case P6 => exact HC0.out); rintro e w24 ⟨d6U, rfl, ho0, hb⟩; refine ⟨_, rfl, ?_⟩; have a3c := rl_ ho0 HB; replace HB := V3 HB hb; (try clear hb); (try clear ho0); obtain ⟨a5k, a5l, c79⟩ := Kd.G7 a3c.out; subst c79) | (refine gl_ (some 20) Tryd.func100 #[.slice A0 l0.length c0, .int .u32 a1] ?_; (with_reducible refine (C9.calls k _ _ l0 a1 b6x true _ ?P9 ?P6 A8.out).mono ?_); (case P9 => exact (Kd.y9 HR0.out HB.out)); (case P6 => exact HC0.out); rintro e w26 ⟨e1A, rfl, ho0, hb⟩; refine ⟨_, rfl, ?_⟩; have a7i := rn_ ho0 a3c HB; replace a3c := rR_ a3c ho0 hb; replace HB := V3 HB hb; (try clear hb); (try clear ho0); obtain ⟨a9e, a9f, c2r⟩ := Kd.G7 a7i.out; subst c2r) | (refine gl_ (some 28) Tryd.func77 #[.bool a2] ?_; (with_reducible refine (O6.calls a2 c77 _ A10.out).mono ?_); rintro e w' ⟨rfl, ⟨nd, rfl⟩⟩; refine ⟨_, rfl, ?_⟩) | (refine gl_ (some 34) Tryd.func77 #[.bool a2] ?_; (with_reducible refine (O6.calls a2 c55 _ A16.out).mono ?_); rintro e w' ⟨rfl, ⟨nd, rfl⟩⟩; refine ⟨_, rfl, ?_⟩) | (refine gl_ (some 40) Tryd.func101 #[.slice a9e b6x.length a9f, .bool a2] ?_; (with_reducible refine (U1.calls k _ _ b6x a2 f4k true _ ?P9 ?P6 A22.out).mono ?_); (case P9 => exact (Kd.D9 a7i.out).2.2); (case P6 => exact (Kd.D9 a7i.out).2.1); rintro e w28 ⟨g32, rfl, ho0, hb⟩; refine ⟨_, rfl, ?_⟩; have e5I := a_ (Kd.Z9 (Kd.a1D (Kd.a1D ho0 (Kd.a0i (by (with_reducible repeat (apply Kd.a06)); exact a3c.out))) (Kd.a0i (by (with_reducible repeat (apply Kd.a06)); exact a7i.out))) (y5 (by repeat (with_reducible first | exact HB.out | apply o9)))); replace a3c := a_ (Kd.a2D (by (with_reducible repeat (apply Kd.a06)); exact a3c.out) (Kd.a0C ho0) hb); replace a7i := a_ (Kd.a2D (by (with_reducible repeat (apply Kd.a06)); exact a7i.out) (Kd.a0C ho0) hb); replace HB := a_ (J6 (by repeat (with_reducible first | exact HB.out | apply o9)) hb); (try clear hb); (try clear ho0)))
      go_ret2
      exact ⟨_, by (rfl), by exact Kd.D7 e5I.out (fun _ hk => trivial), by exact HB.out⟩
     ·cases nt_ c23
      rw [if_neg a3X] at H; obtain ⟨rfl, rfl⟩ := s2_ H
      go_enter Tryd.func86, Tryd.ntmps86
      go_wp2_with (first | (refine gl_ (some 14) Tryd.func99 #[.slice A0 l0.length c0, .int .u32 a1] ?_; (with_reducible refine (L8.calls k _ _ l0 a1 c0g _ ?P9 ?P6 A4.out).mono ?_); (case P9 => exact HR0.out); (case P6 => exact HC0.out); rintro e w29 ⟨d6U, rfl, ho0, hb⟩; refine ⟨_, rfl, ?_⟩; have a3c := rl_ ho0 HB; replace HB := V3 HB hb; (try clear hb); (try clear ho0); obtain ⟨b09, b0c, d5D⟩ := Kd.G7 a3c.out; subst d5D) | (refine gl_ (some 20) Tryd.func100 #[.slice A0 l0.length c0, .int .u32 a1] ?_; (with_reducible refine (C9.calls k _ _ l0 a1 b6x true _ ?P9 ?P6 A8.out).mono ?_); (case P9 => exact (Kd.y9 HR0.out HB.out)); (case P6 => exact HC0.out); rintro e w31 ⟨e1A, rfl, ho0, hb⟩; refine ⟨_, rfl, ?_⟩; have a7i := rn_ ho0 a3c HB; replace a3c := rR_ a3c ho0 hb; replace HB := V3 HB hb; (try clear hb); (try clear ho0); obtain ⟨e0O, e0P, e7V⟩ := Kd.G7 a7i.out; subst e7V) | (refine gl_ (some 28) Tryd.func77 #[.bool a2] ?_; (with_reducible refine (O6.calls a2 c77 _ A10.out).mono ?_); rintro e w' ⟨rfl, ⟨nd, rfl⟩⟩; refine ⟨_, rfl, ?_⟩) | (refine gl_ (some 34) Tryd.func77 #[.bool a2] ?_; (with_reducible refine (O6.calls a2 c55 _ A16.out).mono ?_); rintro e w' ⟨rfl, ⟨nd, rfl⟩⟩; refine ⟨_, rfl, ?_⟩) | (refine gl_ (some 40) Tryd.func101 #[.slice e0O b6x.length e0P, .bool a2] ?_; (with_reducible refine (U1.calls k _ _ b6x a2 f4k false _ ?P9 ?P6 A22.out).mono ?_); (case P9 => exact (Kd.D9 a7i.out).2.2); (case P6 => exact (Kd.D9 a7i.out).2.1); rintro e w33 ⟨g32, rfl, ho0, hb⟩; refine ⟨_, rfl, ?_⟩; have e5I := a_ (Kd.Z9 (Kd.a1D (Kd.a1D ho0 (Kd.a0i (by (with_reducible repeat (apply Kd.a06)); exact a3c.out))) (Kd.a0i (by (with_reducible repeat (apply Kd.a06)); exact a7i.out))) (y5 (by repeat (with_reducible first | exact HB.out | apply o9)))); replace a3c := a_ (Kd.a2D (by (with_reducible repeat (apply Kd.a06)); exact a3c.out) (Kd.a0C ho0) hb); replace a7i := a_ (Kd.a2D (by (with_reducible repeat (apply Kd.a06)); exact a7i.out) (Kd.a0C ho0) hb); replace HB := a_ (J6 (by repeat (with_reducible first | exact HB.out | apply o9)) hb); (try clear hb); (try clear ho0)))
      go_ret2
      exact ⟨_, by (rfl), by (exact Kd.Y2 _ _ _ _ _), by exact HB.out⟩
  ·cases nt_ c9
   rw [if_neg a3X] at H; obtain ⟨rfl, rfl⟩ := s2_ H
   go_enter Tryd.func86, Tryd.ntmps86
   go_wp2_with (first | (refine gl_ (some 14) Tryd.func99 #[.slice A0 l0.length c0, .int .u32 a1] ?_; (with_reducible refine (L8.calls k _ _ l0 a1 c0g _ ?P9 ?P6 A4.out).mono ?_); (case P9 => exact HR0.out); (case P6 => exact HC0.out); rintro e w34 ⟨d6U, rfl, ho0, hb⟩; refine ⟨_, rfl, ?_⟩; have a3c := rl_ ho0 HB; replace HB := V3 HB hb; (try clear hb); (try clear ho0); obtain ⟨h3C, h3D, g33⟩ := Kd.G7 a3c.out; subst g33) | (refine gl_ (some 20) Tryd.func100 #[.slice A0 l0.length c0, .int .u32 a1] ?_; (with_reducible refine (C9.calls k _ _ l0 a1 b6x false _ ?P9 ?P6 A8.out).mono ?_); (case P9 => exact (Kd.y9 HR0.out HB.out)); (case P6 => exact HC0.out); rintro e w36 ⟨e1A, rfl, ho0, hb⟩; refine ⟨_, rfl, ?_⟩; have a7i := rn_ ho0 a3c HB; replace a3c := rR_ a3c ho0 hb; replace HB := V3 HB hb; (try clear hb); (try clear ho0)))
   go_ret2
   exact ⟨_, by (rfl), by (exact Kd.Y2 _ _ _ _ _), by exact HB.out⟩
def a2Z.f (V4 : Int) (a01 : Int) (a3Y : List Int) : Option (Bool) := if V4 = 1 then ((a0z.f a01).bind fun t208 => (if t208 = true then (some (decide ((a3Y.length : Int) ≤ 65531))) else (some false))) else (if V4 = 2 then ((a0z.f a01).bind fun e8z => (if e8z = true then (some (decide ((a3Y.length : Int) ≤ 65531))) else (some false))) else (some false))
theorem a2Z.calls (V4 : Int) (a01 : Int) (b3y : Option Addr) (b3z : Nat) (a3Y : List Int) (r : Bool) (w : World) (b6S : Kd.C (Kd.int .u8) w b3y a3Y.length a3Y) (b6T : a3Y.length ≤ b3z) (h : a2Z.f V4 a01 a3Y = some r) :
  Calls Tryd.prog 16 #[.agg #[.int .i64 V4, .int .i64 a01, .slice b3y a3Y.length b3z]] w fun e w' => e = .returned (.bool r) ∧ Below w.heap.size w w' := by
 have d3A := Tryd.underlying42
 have d6m := a_ b6S
 have e5p := a_ b6T
 clear b6S b6T
 have HB := a_ (Below.refl w.heap.size w)
 have H := h
 clear h
 unfold a2Z.f at H
 by_cases c2 : V4 = 1
 ·rw [if_pos c2] at H; obtain ⟨b2i, c3A⟩ := bt_ c2; clear c2; obtain ⟨t208, A3, H⟩ := bd_ H
  try dsimp only at H
  by_cases c4 : t208 = true
  ·subst c4; rw [if_pos rfl] at H; obtain rfl := oj_ H
   go_enter Tryd.func16, Tryd.ntmps16
   go_wp2_with (first | ((with_reducible refine X0 (N := 1) rfl ?_); (try (refine Y1 (by rfl) ?_; dsimp only)); refine be_ 1 #[.int .i64 V4, .int .i64 a01, .slice b3y a3Y.length b3z] 42 ?_; intro d1h hg w5 hbox hb; have b5s := a_ hbox; have d1i := lb_ HB hg; replace HB := V3 HB hb; clear hb hbox hg; obtain ⟨c7R, c7S, e73, c7T, c7U, e74⟩ := a1Z b5s.out) | (go_at_call 33; (with_reducible refine (a0z.calls a01 true _ A3.out).mono ?_); rintro e w' ⟨rfl, ⟨nd, rfl⟩⟩))
   go_ret
   exact ⟨by (rfl), by repeat (with_reducible first | exact HB.out | apply o9)⟩
  ·cases nt_ c4
   rw [if_neg a3X] at H; obtain rfl := oj_ H
   go_enter Tryd.func16, Tryd.ntmps16
   go_wp2_with (first | ((with_reducible refine X0 (N := 1) rfl ?_); (try (refine Y1 (by rfl) ?_; dsimp only)); refine be_ 1 #[.int .i64 V4, .int .i64 a01, .slice b3y a3Y.length b3z] 42 ?_; intro d1h hg w7 hbox hb; have b5s := a_ hbox; have d1i := lb_ HB hg; replace HB := V3 HB hb; clear hb hbox hg; obtain ⟨d6y, d6z, d6A, d6B, d6C, d6D⟩ := a1Z b5s.out) | (go_at_call 33; (with_reducible refine (a0z.calls a01 false _ A3.out).mono ?_); rintro e w' ⟨rfl, ⟨nd, rfl⟩⟩))
   go_ret
   exact ⟨by (rfl), by repeat (with_reducible first | exact HB.out | apply o9)⟩
 ·rw [if_neg c2] at H; have b2i := bq_ c2; have c3A := bn_ c2
  by_cases c9 : V4 = 2
  ·rw [if_pos c9] at H; obtain ⟨b2d, b8F⟩ := bt_ c9; clear c9; obtain ⟨e8z, A10, H⟩ := bd_ H
   try dsimp only at H
   by_cases c11 : e8z = true
   ·subst c11; rw [if_pos rfl] at H; obtain rfl := oj_ H
    go_enter Tryd.func16, Tryd.ntmps16
    go_wp2_with (first | ((with_reducible refine X0 (N := 1) rfl ?_); (try (refine Y1 (by rfl) ?_; dsimp only)); refine be_ 1 #[.int .i64 V4, .int .i64 a01, .slice b3y a3Y.length b3z] 42 ?_; intro d1h hg w12 hbox hb; have b5s := a_ hbox; have d1i := lb_ HB hg; replace HB := V3 HB hb; clear hb hbox hg; obtain ⟨b3e, b3f, b7J, b3g, b3h, b7K⟩ := a1Z b5s.out) | (go_at_call 33; (with_reducible refine (a0z.calls a01 true _ A10.out).mono ?_); rintro e w' ⟨rfl, ⟨nd, rfl⟩⟩))
    go_ret
    exact ⟨by (rfl), by repeat (with_reducible first | exact HB.out | apply o9)⟩
   ·cases nt_ c11
    rw [if_neg a3X] at H; obtain rfl := oj_ H
    go_enter Tryd.func16, Tryd.ntmps16
    go_wp2_with (first | ((with_reducible refine X0 (N := 1) rfl ?_); (try (refine Y1 (by rfl) ?_; dsimp only)); refine be_ 1 #[.int .i64 V4, .int .i64 a01, .slice b3y a3Y.length b3z] 42 ?_; intro d1h hg w14 hbox hb; have b5s := a_ hbox; have d1i := lb_ HB hg; replace HB := V3 HB hb; clear hb hbox hg; obtain ⟨d1j, d1k, d1l, d1m, d1n, d1o⟩ := a1Z b5s.out) | (go_at_call 33; (with_reducible refine (a0z.calls a01 false _ A10.out).mono ?_); rintro e w' ⟨rfl, ⟨nd, rfl⟩⟩))
    go_ret
    exact ⟨by (rfl), by repeat (with_reducible first | exact HB.out | apply o9)⟩
  ·rw [if_neg c9] at H; have b2d := bq_ c9; have b8F := bn_ c9; obtain rfl := oj_ H
   go_enter Tryd.func16, Tryd.ntmps16
   go_wp2_with (first | ((with_reducible refine X0 (N := 1) rfl ?_); (try (refine Y1 (by rfl) ?_; dsimp only)); refine be_ 1 #[.int .i64 V4, .int .i64 a01, .slice b3y a3Y.length b3z] 42 ?_; intro d1h hg w16 hbox hb; have b5s := a_ hbox; have d1i := lb_ HB hg; replace HB := V3 HB hb; clear hb hbox hg; obtain ⟨d0n, d0o, d0p, d0q, d0r, d0s⟩ := a1Z b5s.out))
   go_ret
   exact ⟨by (rfl), by exact HB.out⟩
theorem H8.bad (x : S42) (A : Option Addr) (c : Nat) (t : Bool) (w : World) (hr : Kd.C (Kd.int .u8) w A x.f2.length x.f2) (hc : x.f2.length ≤ c) (h : a2Z.f x.f0 x.f1 x.f2 = some t) :
  Calls Tryd.prog 28 #[.agg #[.int .i64 x.f0, .int .i64 x.f1, .slice A x.f2.length c]] w fun e w' => e = .returned (.bool (!t)) ∧ Below w.heap.size w w' := by
 have d3A := Tryd.underlying42
 have HR := a_ hr
 have HC := a_ hc
 have HT := a_ h
 have HB := a_ (Below.refl w.heap.size w)
 clear hr hc h
 go_enter Tryd.func28, Tryd.ntmps28
 go_wp2_with (first | (refine be_ 1 #[.int .i64 x.f0, .int .i64 x.f1, .slice A x.f2.length c] 42 ?_; intro g1 hg w3 hbox hb; have HB3 := V3 HB hb; have BK3 := a_ hbox; obtain ⟨g9w, g9x, g9y⟩ := g3e BK3.out; clear hg hbox hb) | (go_at_call 16; refine (a2Z.calls x.f0 x.f1 A c x.f2 t _ (Kd.y9 HR.out HB3.out) HC.out HT.out).mono ?_; rintro e w4 ⟨rfl, hb⟩; have HB4 := V3 HB3 hb; clear hb))
 go_ret
 exact ⟨rfl, HB4.out⟩
def H8.go : List (S42) → Nat → Option Int
 | [], _ => some (-1)
 | x :: m, j => (a2Z.f x.f0 x.f1 x.f2).bind fun t => if t = true then H8.go m (j + 1) else some (j : Int)
theorem H8.b8M (l : List (S42)) (j : Nat) (h : j < l.length) : l.drop j = J5 l (j : Int) :: l.drop (j + 1) := by
 rw [List.drop_eq_getElem_cons h]
 unfold J5
 rw [Int.toNat_natCast, List.getD_eq_getElem?_getD, List.getElem?_eq_getElem h]
 rfl
theorem H8.calls (A0 : Option Addr) (c0 : Nat) (l0 : List (S42)) (r : Int) (w : World) (hr0 : Kd.C k42 w A0 l0.length l0) (hc0 : l0.length ≤ c0) (h : H8.go l0 0 = some r) :
  Calls Tryd.prog 49 #[.slice A0 l0.length c0, .func (.func 28) #[] #[]] w fun e w' => e = .returned (.int .i64 r) ∧ Below w.heap.size w w' := by
 have hml := Kd.b3E hr0
 have HR := a_ hr0
 have HG : Aside0 (H8.go (l0.drop 0) 0 = some r) := ⟨by rw [List.drop_zero]; exact h⟩
 have HB := a_ (Below.refl w.heap.size w)
 clear hr0 hc0 h
 go_enter Tryd.func49, Tryd.ntmps49
 go_wp2
 go_loopg [8] l0.length (fun kq v8 w' => ∃ j : Nat, kq + j = l0.length ∧ v8 = .int .i64 (j : Int) ∧ Aside0 (Below w.heap.size w w') ∧ Aside0 (H8.go (l0.drop j) j = some r))
 case atStart => exact ⟨0, rfl, rfl, HB, HG⟩
 case round =>
  obtain ⟨j, hj, rfl, HI, HGJ⟩ := hrel; clear HB HG
  by_cases hlt : j < l0.length
  ·obtain ⟨k1, rfl⟩ : ∃ k1, gk = k1 + 1 := ⟨gk - 1, by omega⟩; have c1_ : decide ((j : Int) < (l0.length : Int)) = true := dt_ (by omega); have p1_ : (0 : Int) ≤ (j : Int) := by omega
   have q1_ : (j : Int) < (l0.length : Int) := by omega
   obtain ⟨ad, Ax, cx, e0, hx0, hx1, hx2, hlx, hix⟩ := a3o HR.out (j : Int) p1_ q1_; have hgo := HGJ.out; rw [H8.b8M l0 j hlt, H8.go] at hgo; generalize J5 l0 (j : Int) = x at hx0 hx1 hx2 hlx hix hgo
   cases e0
   rw [Int.toNat_natCast] at hx0 hx1 hx2; replace hx0 := cb_ HI hx0; replace hx1 := cb_ HI hx1; replace hx2 := cb_ HI hx2; have HIX := a_ (Kd.y9 hix HI.out); have HLX := a_ hlx; obtain ⟨t, ht, hgo⟩ := Option.bind_eq_some_iff.1 hgo; have HT := a_ ht; have HGN := a_ hgo; clear hlx hix HGJ hgo ht
   go_wp2_with (fail)
   refine (H8.bad x Ax cx t _ HIX.out HLX.out HT.out).mono ?_; rintro e w2 ⟨rfl, hb⟩; have HB2 := V3 HI hb; clear hb hx0 hx1 hx2
   cases t with
   | true =>
    have hgo := HGN.out; rw [if_pos rfl] at hgo; have HGO := a_ hgo; clear HGN hgo
    go_wp2
    go_roundg k1
    case measure => omega
    case rel => exact ⟨j + 1, by omega, by go_num, HB2, HGO⟩
   | false =>
    have hgo := HGN.out; rw [if_neg (by decide)] at hgo; obtain rfl := oj_ hgo
    go_wp2
    go_ret
    exact ⟨rfl, HB2.out⟩
  ·have c1_ : decide ((j : Int) < (l0.length : Int)) = false := df_ (by omega); have hgo := HGJ.out; rw [List.drop_of_length_le (by omega), H8.go] at hgo; obtain rfl := oj_ hgo
   go_wp2
   go_ret
   exact ⟨rfl, HI.out⟩
theorem a2B.calls (A0 : Option Addr) (c0 : Nat) (l0 : List (S42)) (r : Int) (w : World) (hr0 : Kd.C k42 w A0 l0.length l0) (hc0 : l0.length ≤ c0) (h : H8.go l0 0 = some r) :
  Calls Tryd.prog 27 #[.slice A0 l0.length c0, .func (.func 28) #[] #[]] w fun e w' => e = .returned (.bool (decide (0 ≤ r))) ∧ Below w.heap.size w w' := by
 have HR := a_ hr0
 have HC := a_ hc0
 have HT := a_ h
 clear hr0 hc0 h
 go_enter Tryd.func27, Tryd.ntmps27
 go_wp2_with (go_at_call 49; refine (H8.calls A0 c0 l0 r _ HR.out HC.out HT.out).mono ?_; rintro e w4 ⟨rfl, hb⟩; have HB4 := a_ hb; clear hb)
 go_ret
 exact ⟨by first | rfl | simp [ge_iff_le], HB4.out⟩
end Go.Proofs.YtgnonglkibhnhaaDoor.Print
