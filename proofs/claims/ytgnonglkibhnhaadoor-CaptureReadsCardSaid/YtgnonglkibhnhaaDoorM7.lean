-- laid together by this session's own program (wip/tools/merge.py) of texts that its program laid
import Derived.Test.YtgnonglkibhnhaaDoorF18
import Derived.Test.YtgnonglkibhnhaaDoorM6
namespace Go.Proofs.YtgnonglkibhnhaaDoor.Print
open Go.RowKit Go.Proofs.YtgnonglkibhnhaaDoorW.PrintWords Go.Proofs.YtgnonglkibhnhaaDoorW.PrintLast Go.Proofs.YtgnonglkibhnhaaDoorW.PrintMore
attribute [local go_sem] a0n a0o a0P a0Q Y4 Y5 a0p a0q
set_option linter.unusedVariables false
set_option linter.unusedSimpArgs false
set_option maxHeartbeats 16000000
set_option maxRecDepth 100000
def G9.go (k : Nat) (dir link : Int) : List (S51) → List (S42) → Option (List (S42))
 | [], out => some out
 | x :: m, out => if link = 204 then (if 0 < x.f3.length then (J6.f k out (if rd x.f3 0 = 0 then 1 else 2) (x.f3.drop 1)).bind fun o => G9.go k dir link m o else G9.go k dir link m out) else (J6.f k out dir x.f3).bind fun o => G9.go k dir link m o
def G9.f (k : Nat) (l0 : List Int) (c2n : Int) (c2o : Int) (c2p : Int) (c2r : Int) (c2s : ByteArray) (c2t : ByteArray) (b4O : Int) (b3K : Int) (b1G : Bool) : Option (List (S42) × Int × Int) := (umpireref09_Read.f k l0).bind fun t => if t.2.2.2.2.2.2 = 0 then (if capture_records_read.odd t.2.2.2.1 = true then some ([], 20, 7) else (G9.go k b4O t.2.2.2.1 t.2.2.2.2.1 []).bind fun o => some (o, t.2.2.2.2.2.1, t.2.2.2.2.2.2)) else some ([], t.2.2.2.2.2.1, t.2.2.2.2.2.2)
theorem G9.calls (k : Nat) (A0 : Option Addr) (c0 : Nat) (l0 : List Int) (c2n : Int) (c2o : Int) (c2p : Int) (c2r : Int) (c2s : ByteArray) (c2t : ByteArray) (b4O : Int) (b3K : Int) (b1G : Bool) (r1 : List (S42)) (r2 r3 : Int) (w : World) (hr0 : Kd.C (Kd.int .u8) w A0 l0.length l0) (hc0 : l0.length ≤ c0) (h : G9.f k l0 c2n c2o c2p c2r c2s c2t b4O b3K b1G = some (r1, r2, r3)) :
  Calls Tryd.prog 25 #[.slice A0 l0.length c0, .agg #[.int .i64 c2n, .int .i64 c2o, .int .i64 c2p, .int .i64 c2r, .string c2s, .string c2t, .int .i64 b4O, .int .u32 b3K, .bool b1G]] w fun e w' => ∃ v0_ : Value, e = .returned (.tuple #[v0_, .agg #[.int .i64 r2, .int .i64 r3]]) ∧ Kd.S k42 42 w' w.heap.size (fun _ => True) v0_ r1 ∧ Below w.heap.size w w' := by
 have a7R := Tryd.underlying30
 have c1j := Tryd.underlying25
 have c6Q := Tryd.underlying46
 have d2n := Tryd.underlying51
 obtain ⟨⟨m1, m2, m3, link, l, f1, f2⟩, ht, h⟩ := Option.bind_eq_some_iff.1 h
 replace h : (if f2 = 0 then (if capture_records_read.odd link = true then some (([] : List (S42)), 20, 7) else (G9.go k b4O link l []).bind fun o => some (o, f1, f2)) else some (([] : List (S42)), f1, f2)) = some (r1, r2, r3) := h
 have HT := a_ ht
 have HR0 := a_ hr0
 have HC0 := a_ hc0
 have HB := a_ (Below.refl w.heap.size w)
 have HH := a_ h
 clear hr0 hc0 ht h
 go_enter Tryd.func25, Tryd.ntmps25
 go_upto_region 2 with (first | (refine be_ 3 #[.int .i64 c2n, .int .i64 c2o, .int .i64 c2p, .int .i64 c2r, .string c2s, .string c2t, .int .i64 b4O, .int .u32 b3K, .bool b1G] 25 ?_; intro g3 hg w3 hbox hb; have HB3 := U9 HB hb; have BK3 := a_ hbox; clear hg hbox hb) | (refine be_ 5 #[.int .i64 0, .int .i64 0] 30 ?_; intro g5 hg w5 hbox hb; have HB5 := U9 HB3 hb; have d5f := X4 BK3 hb; have BK5 := a_ hbox; have GE5 : Aside0 (w.heap.size ≤ g5) := ⟨by rw [hg]; exact HB3.out.size⟩; clear hg hbox hb) | (go_at_call 18; refine (umpireref09_Read.calls k A0 c0 l0 m1 m2 m3 link l f1 f2 _ (Kd.C9 HR0.out HB5.out) HC0.out HT.out).mono ?_; rintro e w8 ⟨vl, rfl, hl, hb⟩; have HB8 := U9 HB5 hb; have d5g := X4 d5f hb; have a9Q := X4 BK5 hb; have HL := a_ hl; obtain ⟨Al, cl, el⟩ := Kd.a6c HL.out; subst el; clear hl hb) | (refine be_ 6 #[.bool false, .bool false, .int .u32 0, .int .u32 0] 46 ?_; intro g6 hg w9 hbox hb; have BK6 := a_ hbox; have HB9 := a_ hb; have GE6 : Aside0 (w8.heap.size ≤ g6) := ⟨by rw [hg]; exact Nat.le_refl _⟩; have LT6 := a_ (a0t hbox); clear hg hbox hb) | (refine be_ 8 #[.int .i64 0, .int .i64 0] 30 ?_; intro g8 hg w10 hbox hb; have b9w := X4 BK6 hb; have BK8 := a_ hbox; have a6Q := U9 HB9 hb; have GE8 : Aside0 (w8.heap.size ≤ g8) := ⟨by rw [hg]; exact HB9.out.size⟩; have ne1 : g6 ≠ g8 := (by have := LT6.out; omega); have ne2 : g8 ≠ g6 := fun e_ => ne1 e_.symm; have f1t := bc0 b9w; have f1u := l7 b9w.out 0; have f1v := bc1 b9w; have f1w := l7 b9w.out 1; have f1x := bc2 b9w; have f1y := l7 b9w.out 2; have d5i := bc3 b9w; have f1z := l7 b9w.out 3; have b97 := bc0 BK8; have b95 := l7 BK8.out 0; have b98 := bc1 BK8; have c9N := l7 BK8.out 1; clear hg hbox hb))
 have f1A := a_ (show ((((((w10.setCell ⟨g6, 0, none⟩ (.bool m1)).setCell ⟨g6, 1, none⟩ (.bool m2)).setCell ⟨g6, 2, none⟩ (.int .u32 m3)).setCell ⟨g6, 3, none⟩ (.int .u32 link)).setCell ⟨g8, 0, none⟩ (.int .i64 f1)).setCell ⟨g8, 1, none⟩ (.int .i64 f2)).heap[g6]? = some (.cells #[.bool m1, .bool m2, .int .u32 m3, .int .u32 link] 46 (0, 0)) from by refine (Below.heap_setCell _ ⟨g8, 1, none⟩ _ g6 ne1).trans ((Below.heap_setCell _ ⟨g8, 0, none⟩ _ g6 ne1).trans ?_); refine l9 (cs := #[.bool m1, .bool m2, .int .u32 m3, .int .u32 0]) ?_ 3 _ rfl; refine l9 (cs := #[.bool m1, .bool m2, .int .u32 0, .int .u32 0]) ?_ 2 _ rfl; refine l9 (cs := #[.bool m1, .bool false, .int .u32 0, .int .u32 0]) ?_ 1 _ rfl; refine l9 (cs := #[.bool false, .bool false, .int .u32 0, .int .u32 0]) ?_ 0 _ rfl; exact b9w.out)
 have b8p := a_ (show ((((((w10.setCell ⟨g6, 0, none⟩ (.bool m1)).setCell ⟨g6, 1, none⟩ (.bool m2)).setCell ⟨g6, 2, none⟩ (.int .u32 m3)).setCell ⟨g6, 3, none⟩ (.int .u32 link)).setCell ⟨g8, 0, none⟩ (.int .i64 f1)).setCell ⟨g8, 1, none⟩ (.int .i64 f2)).heap[g8]? = some (.cells #[.int .i64 f1, .int .i64 f2] 30 (0, 0)) from by refine l9 (cs := #[.int .i64 f1, .int .i64 0]) ?_ 1 _ rfl; refine l9 (cs := #[.int .i64 0, .int .i64 0]) ?_ 0 _ rfl; exact (Below.heap_setCell _ ⟨g6, 3, none⟩ _ g8 ne2).trans ((Below.heap_setCell _ ⟨g6, 2, none⟩ _ g8 ne2).trans ((Below.heap_setCell _ ⟨g6, 1, none⟩ _ g8 ne2).trans ((Below.heap_setCell _ ⟨g6, 0, none⟩ _ g8 ne2).trans (BK8.out)))))
 have HBr := a_ (o7 (j := 1) (v := .int .i64 f2) (o7 (j := 0) (v := .int .i64 f1) (o7 (j := 3) (v := .int .u32 link) (o7 (j := 2) (v := .int .u32 m3) (o7 (j := 1) (v := .bool m2) (o7 (j := 0) (v := .bool m1) a6Q.out GE6.out) GE6.out) GE6.out) GE6.out) GE8.out) GE8.out)
 generalize (((((w10.setCell ⟨g6, 0, none⟩ (.bool m1)).setCell ⟨g6, 1, none⟩ (.bool m2)).setCell ⟨g6, 2, none⟩ (.int .u32 m3)).setCell ⟨g6, 3, none⟩ (.int .u32 link)).setCell ⟨g8, 0, none⟩ (.int .i64 f1)).setCell ⟨g8, 1, none⟩ (.int .i64 f2) = w11 at f1A b8p HBr ⊢
 clear BK6 b9w BK8 HB9 a6Q f1t f1u f1v f1w f1x f1y d5i f1z b97 b95 b98 c9N HB HB3 HB5 BK3 d5f BK5
 have d5j := a_ (J7 d5g.out HBr.out)
 have a4O := a_ (J7 a9Q.out HBr.out)
 have d5k := a_ (Kd.a4o HL.out HBr.out)
 have b5Q := a_ (J4 HB8.out HBr.out)
 clear HL d5g a9Q HB8 HBr GE6 GE8 LT6 ne1 ne2
 obtain ⟨b97, b98⟩ := d86 b8p.out
 have d5i := bc3 f1A
 by_cases hf : f2 = 0
 ·have h := HH.out; rw [if_pos hf] at h; have HH := a_ h; subst hf; clear h
  go_upto_region 4 with (fail)
  clear b97 b98
  go_cut [34] (fun v34 wc => v34 = .bool (capture_records_read.odd link) ∧ wc = w11)
  case first =>
   by_cases e1 : link = 9
   ·subst e1
    go_wp2
    go_meet
    case rel => exact ⟨by simp [capture_records_read.odd], rfl⟩
   ·have b1 : (link == 9) = false := by simpa using e1
    have d1 : decide (link = 9) = false := by simpa using e1
    by_cases e2 : link = 50
    ·subst e2
     go_wp2
     go_meet
     case rel => exact ⟨by simp [capture_records_read.odd], rfl⟩
    ·have b2 : (link == 50) = false := by simpa using e2
     have d2 : decide (link = 50) = false := by simpa using e2
     by_cases e3 : link = 204
     ·subst e3
      go_wp2
      go_meet
      case rel => exact ⟨by simp [capture_records_read.odd], rfl⟩
     ·have b3 : (link == 204) = false := by simpa using e3
      have d3 : decide (link = 204) = false := by simpa using e3
      go_wp2
      go_meet
      case rel => exact ⟨by simp only [capture_records_read.odd, bne, b1, b2, b3]; rfl, rfl⟩
  case rest =>
   obtain ⟨rfl, rfl⟩ := hcut
   by_cases ho : capture_records_read.odd link = true
   ·have h := HH.out; rw [if_pos ho] at h
    simp only [Option.some.injEq, Prod.mk.injEq] at h
    obtain ⟨rfl, rfl, rfl⟩ := h; clear HH; rw [ho]; have c9O := bc0 a4O; have c2u := l7 a4O.out 0; have c9P := bc1 a4O; have c2w := l7 a4O.out 1
    go_wp2
    refine bodyPost_ret (a0u rfl _ _ g5 30 #[.int .i64 20, .int .i64 7] (0, 0) _ rfl (l9 (l9 a4O.out 0 _ rfl) 1 _ rfl) a7R rfl (by kernel_rfl)) rfl ?_; exact ⟨_, rfl, Kd.a5h _ _ _ _ _, o7 (o7 b5Q.out GE5.out) GE5.out⟩
   ·have h := HH.out; rw [if_neg ho] at h; obtain ⟨o, hgo, h⟩ := Option.bind_eq_some_iff.1 h
    simp only [Option.some.injEq, Prod.mk.injEq] at h
    obtain ⟨rfl, rfl, rfl⟩ := h; clear HH; have HGO : Aside0 (G9.go k b4O link (l.drop 0) [] = some o) := ⟨by rw [List.drop_zero]; exact hgo⟩; clear hgo; rw [show capture_records_read.odd link = false from by simpa using ho]; have HI0 : Aside0 (RR wc wc (.slice none 0 0) []) := ⟨⟨Kd.a5h _ _ _ _ _, Below.refl _ _⟩⟩; have hml := Kd.b2Z (Kd.a2j d5k.out).2.2; have g1D := bc6 d5j
    go_wp2
    go_loopg [9, 10] l.length (fun kq v9 v10 w' => ∃ (j : Nat) (out : List (S42)), kq + j = l.length ∧ v10 = .int .i64 (j : Int) ∧ Aside0 (RR wc w' v9 out) ∧ Aside0 (G9.go k b4O link (l.drop j) out = some o))
    case atStart => exact ⟨0, _, rfl, rfl, HI0, HGO⟩
    case round =>
     obtain ⟨j, out, hj, rfl, HI, HGJ⟩ := hrel; clear HI0 HGO; have hcell : ∀ {a : Addr} {v : Value}, wc.cell? a = some v → wr.cell? a = some v := fun {a v} hc => (HI.out.bel.cell (World.block_lt_of_cell? wc _ hc)).trans hc
     by_cases hlt : j < l.length
     ·obtain ⟨k1, rfl⟩ : ∃ k1, gk = k1 + 1 := ⟨gk - 1, by omega⟩; have c1_ : decide ((j : Int) < (l.length : Int)) = true := dt_ (by omega); have p1_ : (0 : Int) ≤ (j : Int) := by omega
      have q1_ : (j : Int) < (l.length : Int) := by omega
      obtain ⟨ad, Ax, cx, e0, hx0, hx1, hx2, hx3, hlx, hix⟩ := c0D (Kd.a2j d5k.out).2.2 (j : Int) p1_ q1_; have hgo := HGJ.out; rw [capture_records_read.c9Q l j hlt, G9.go] at hgo; generalize Y0 l (j : Int) = x at hx0 hx1 hx2 hx3 hlx hix hgo
      cases e0
      rw [Int.toNat_natCast] at hx0 hx1 hx2 hx3; replace hx3 := hcell hx3; have g63 := hcell d5i; have g64 := hcell g1D; have HIX := a_ (Kd.C9 hix HI.out.bel); have HLX := a_ hlx; clear hlx hix HGJ hx0 hx1 hx2 hcell
      by_cases hl4 : link = 204
      ·subst hl4; rw [if_pos rfl] at hgo
       by_cases hp : 0 < x.f3.length
       ·rw [if_pos hp] at hgo; obtain ⟨o1, ho1, hgo⟩ := Option.bind_eq_some_iff.1 hgo; have HGN := a_ hgo; clear hgo; have g1 : decide ((x.f3.length : Int) > 0) = true := dt_ (by omega); have g2 : decide (0 < (x.f3.length : Int)) = true := dt_ (by omega); have p2_ : (0 : Int) ≤ 0 := by omega
        have q2_ : (0 : Int) < (x.f3.length : Int) := by omega
        obtain ⟨adx, ex, hb0⟩ := Kd.Q8 HIX.out 0 p2_ q2_
        cases ex
        rw [show (0 : Int).toNat = 0 from rfl, Addr.add_zero'] at hb0; have qi_ : (0 < x.f3.length) = True := eq_true hp; have q88 : (1 : Int) ≤ (x.f3.length : Int) := by omega
        obtain ⟨i0, hi0, _, hsz, _⟩ := info_parts info5; have d5l := b7v (P := Tryd.prog) 22 5 .i64 Tryd.underlying22 hi0 1 hsz (some adx) x.f3.length cx 1 (by omega) q88; have hd1 := Kd.c0J (m := (1 : Int).toNat) (c := cx) HIX.out (by omega) HLX.out; obtain ⟨A88, c6U⟩ : ∃ A_, A_ = (if cx = (1 : Int).toNat then (some adx) else ((some adx) : Option Addr).map (·.add ((1 : Int).toNat * 1))) := ⟨_, rfl⟩; obtain ⟨c88, c6V⟩ : ∃ c_, c_ = cx - (1 : Int).toNat := ⟨_, rfl⟩; obtain ⟨y, hy⟩ : ∃ y_, y_ = x.f3.drop 1 := ⟨_, rfl⟩; have hyl : y.length = x.f3.length - (1 : Int).toNat := by rw [hy, List.length_drop]; rfl
        rw [show x.f3.drop (1 : Int).toNat = y from hy.symm] at hd1; replace hd1 : Kd.C (Kd.int .u8) wr A88 y.length y := by rw [c6U]; exact hd1
        rw [← hyl, ← c6U, ← c6V] at d5l; have HD1 := a_ hd1; have HDC := a_ (show y.length ≤ c88 from by rw [hyl, c6V]; exact Nat.sub_le_sub_right HLX.out _); rw [← hy] at ho1; clear hd1 hi0 hsz c6V c6U hyl hy; replace p2_ := eq_true p2_; replace q2_ := eq_true q2_; replace q88 := eq_true q88
        by_cases hb : rd x.f3 0 = 0
        ·rw [if_pos hb] at ho1; rw [hb] at hb0; have HO1 := a_ ho1; clear ho1
         go_wp2_with (go_at_call 47; refine (J6.calls k wc.heap.size (fun _ => True) _ out 1 A88 c88 y o1 _ HI.out.row (fun _ _ => trivial) HI.out.bel.size HD1.out HDC.out HO1.out).mono ?_; rintro e w17 ⟨v', rfl, ⟨hl⟩, ⟨hb_⟩⟩; have a7e := a_ (HI.out.item hl hb_); clear hl hb_)
         go_roundg k1
         case measure => omega
         case rel => exact ⟨j + 1, o1, by omega, by go_num, a7e, HGN⟩
        ·rw [if_neg hb] at ho1; have bb : (rd x.f3 0 == 0) = false := by simpa using hb
         have bd : decide (rd x.f3 0 = 0) = false := by simpa using hb
         have HO1 := a_ ho1; clear ho1
         go_wp2_with (go_at_call 47; refine (J6.calls k wc.heap.size (fun _ => True) _ out 2 A88 c88 y o1 _ HI.out.row (fun _ _ => trivial) HI.out.bel.size HD1.out HDC.out HO1.out).mono ?_; rintro e w17 ⟨v', rfl, ⟨hl⟩, ⟨hb_⟩⟩; have a7e := a_ (HI.out.item hl hb_); clear hl hb_)
         go_roundg k1
         case measure => omega
         case rel => exact ⟨j + 1, o1, by omega, by go_num, a7e, HGN⟩
       ·rw [if_neg hp] at hgo; have HGN := a_ hgo; clear hgo; have hz : x.f3.length = 0 := by omega
        have g1 : decide ((x.f3.length : Int) > 0) = false := df_ (by omega); have g2 : decide (0 < (x.f3.length : Int)) = false := df_ (by omega); clear hz
        go_wp2
        go_roundg k1
        case measure => omega
        case rel => exact ⟨j + 1, out, by omega, by go_num, HI, HGN⟩
      ·rw [if_neg hl4] at hgo; obtain ⟨o1, ho1, hgo⟩ := Option.bind_eq_some_iff.1 hgo; have HO1 := a_ ho1; have HGN := a_ hgo; clear hgo ho1; have b3 : (link == 204) = false := by simpa using hl4
       have d3 : decide (link = 204) = false := by simpa using hl4
       go_wp2_with (go_at_call 47; refine (J6.calls k wc.heap.size (fun _ => True) _ out b4O Ax cx x.f3 o1 _ HI.out.row (fun _ _ => trivial) HI.out.bel.size HIX.out HLX.out HO1.out).mono ?_; rintro e w17 ⟨v', rfl, ⟨hl⟩, ⟨hb_⟩⟩; have a7e := a_ (HI.out.item hl hb_); clear hl hb_)
       go_roundg k1
       case measure => omega
       case rel => exact ⟨j + 1, o1, by omega, by go_num, a7e, HGN⟩
     ·have c1_ : decide ((j : Int) < (l.length : Int)) = false := df_ (by omega); have hgo := HGJ.out; rw [List.drop_of_length_le (by omega), G9.go] at hgo; obtain rfl := oj_ hgo; have b3L := a_ ((HI.out.bel.block g5 (a0t a4O.out)).trans a4O.out); have f1C := a_ ((HI.out.bel.block g8 (a0t b8p.out)).trans b8p.out); have HBW := a_ (J4 b5Q.out HI.out.bel); clear hcell
      go_wp2
      refine a2x (n := 4) (S := fun w' => w'.cell? ⟨g8, 0, none⟩ = some (.int .i64 f1) ∧ w'.cell? ⟨g8, 1, none⟩ = some (.int .i64 0)) (ds := [3]) (bo_ 4 0) (by kernel_rfl) rfl rfl ⟨((D6 (G8 f1C.out) 0).trans rfl), ((D6 (G8 f1C.out) 1).trans rfl)⟩ (fun hHeld => ?_); refine a2B (i := 0) (N := some 75) (bo_ 4 1) rfl rfl (by kernel_rfl) (fun _ _ _ h => h) (.inl ⟨rfl, by intro w'; go_simp; with_reducible rfl⟩) rfl ?_; refine a2B (i := 2) (N := some 4) (bo_ 4 5) rfl rfl (by kernel_rfl) (fun _ _ _ h => h) (.inl ⟨rfl, by intro w'; go_simp; with_reducible rfl⟩) rfl ?_; refine a1w (i := 1) (N := some 76) (v := ?_) (a' := ?_) (bo_ 4 7) rfl rfl (by kernel_rfl) (fun _ _ _ h => h) (Or.inl ⟨by rfl, ?_⟩) hHeld ?_ ?_
      rotate_left
      ·rintro w' ⟨s0, s1⟩
       go_simp
       with_reducible rfl
      rotate_left
      ·simp only [Act.put, List.setIfInBounds_toArray, List.set_cons_zero, List.set_cons_succ, a0I, a1W]
       rfl
      refine b1k (i := 3) (N := none) (bo_ 4 15) rfl rfl (by kernel_rfl) (by decide) (fun K hK => ?_); have c9O := bc0 b3L; have c2u := l7 b3L.out 0; have c9P := bc1 b3L; have c2w := l7 b3L.out 1; refine a7x (w1 := ?_) (by rfl) rfl ?_ ?_
      rotate_left
      ·go_simp
       rfl
      refine hK.out _ _ ?_; clear hK K; refine a4y (by kernel_rfl) ?_

      try go_wp2
      refine bodyPost_ret (a0u rfl _ _ g5 30 #[.int .i64 f1, .int .i64 0] (0, 0) _ rfl (l9 (l9 (G8 b3L.out) 0 _ rfl) 1 _ rfl) a7R rfl (by kernel_rfl)) rfl ?_; exact ⟨_, rfl, Kd.N8 (ok' := fun _ => True) (Kd.a7r (Kd.b0U (Kd.b0U (Kd.b3y HI.out.row) (G8 b3L.out) (by decide) 0 _) (a3U (G8 b3L.out) 0 _) (by decide) 1 _) b5Q.out.size) (fun _ _ => trivial), o7 (o7 (Y3 HBW.out) GE5.out) GE5.out⟩
 ·have h := HH.out; rw [if_neg hf] at h
  simp only [Option.some.injEq, Prod.mk.injEq] at h
  obtain ⟨rfl, rfl, rfl⟩ := h; clear HH; have hf2 : (f2 != 0) = true := by simpa using hf
  have hf3 : (f2 == 0) = false := by simpa using hf
  go_wp2
  refine a2x (n := 3) (S := fun w' => w'.cell? ⟨g8, 0, none⟩ = some (.int .i64 f1) ∧ w'.cell? ⟨g8, 1, none⟩ = some (.int .i64 f2)) (ds := [2]) #[false, false, false] (by kernel_rfl) rfl rfl ⟨((D6 (G8 b8p.out) 0).trans rfl), ((D6 (G8 b8p.out) 1).trans rfl)⟩ (fun hHeld => ?_); refine a2B (i := 1) (N := some 4) #[false, true, false] rfl rfl (by kernel_rfl) (fun _ _ _ h => h) (.inl ⟨rfl, by intro w'; go_simp; with_reducible rfl⟩) rfl ?_; refine a1w (i := 0) (N := some 21) (v := ?_) (a' := ?_) #[true, true, false] rfl rfl (by kernel_rfl) (fun _ _ _ h => h) (Or.inl ⟨by rfl, ?_⟩) hHeld ?_ ?_
  rotate_left
  ·rintro w' ⟨s0, s1⟩
   go_simp
   with_reducible rfl
  rotate_left
  ·simp only [Act.put, List.setIfInBounds_toArray, List.set_cons_zero, List.set_cons_succ, a0I, a1W]
   rfl
  refine b1k (i := 2) (N := none) #[true, true, true] rfl rfl (by kernel_rfl) (by decide) (fun K hK => ?_); have c9O := bc0 a4O; have c2u := l7 a4O.out 0; have c9P := bc1 a4O; have c2w := l7 a4O.out 1; refine a7x (w1 := ?_) (by rfl) rfl ?_ ?_
  rotate_left
  ·go_simp
   rfl
  refine hK.out _ _ ?_; clear hK K; refine a4y (by kernel_rfl) ?_

  try go_wp2
  refine bodyPost_ret (a0u rfl _ _ g5 30 #[.int .i64 f1, .int .i64 f2] (0, 0) _ rfl (l9 (l9 (G8 a4O.out) 0 _ rfl) 1 _ rfl) a7R rfl (by kernel_rfl)) rfl ?_; exact ⟨_, rfl, Kd.a5h _ _ _ _ _, o7 (o7 (Y3 b5Q.out) GE5.out) GE5.out⟩
def Q9.f (k : Nat) (l0 : List Int) (a1 : Bool) : Option (List Int × Bool) := (N9.f a1).bind fun b5V => (if (wrap64 ((l0.length : Int) - b5V)) < 0 then (some (([] : List Int), false)) else (if 0 ≤ (wrap64 ((l0.length : Int) - b5V)) then (if (wrap64 ((l0.length : Int) - b5V)) ≤ (l0.length : Int) then ((V6.f k (l0.take ((wrap64 ((l0.length : Int) - b5V)) : Int).toNat) a1).bind fun d5m => (if (strOfNums d5m).toList = (strOfNums l0).toList then (if ([] : List Int).length + (l0.take ((wrap64 ((l0.length : Int) - b5V)) : Int).toNat).length < 140737488355328 then (some ((([] : List Int) ++ (l0.take ((wrap64 ((l0.length : Int) - b5V)) : Int).toNat)), true)) else (none)) else (some (([] : List Int), false)))) else (none)) else (none)))
def Q9.T4 : Bool × List (List Nat × List Nat) := (true, [([], []), ([], []), ([0, 1], [0, 1]), ([], []), ([2, 3], [2, 3]), ([4], [4]), ([], []), ([6], [6]), ([5, 7], [5, 7])])
def Q9.B4 : List Nat := [0, 0, 3, 0, 15, 31, 0, 64, 255]
theorem Q9.d2o : a3b .any (opsOf Tryd.f101 4) = Q9.T4 := by kernel_rfl
theorem Q9.c0c : a2C Q9.T4.2 Q9.B4 = true := by kernel_rfl
theorem Q9.calls (k : Nat) (A0 : Option Addr) (c0 : Nat) (l0 : List Int) (a1 : Bool) (r1 : List Int) (r2 : Bool) (w : World) (hr0 : Kd.C (Kd.int .u8) w A0 l0.length l0) (hc0 : l0.length ≤ c0) (h : Q9.f k l0 a1 = some (r1, r2)) :
  Calls Tryd.prog 101 #[.slice A0 l0.length c0, .bool a1] w fun e w' => ∃ v0_ : Value, e = .returned (.tuple #[v0_, .bool r2]) ∧ Kd.R (Kd.int .u8) 5 w' w.heap.size (fun _ => True) v0_ r1 ∧ Below w.heap.size w w' := by
 have HR0 := a_ hr0
 have HC0 := a_ hc0
 clear hr0 hc0
 have HB := a_ (Below.refl w.heap.size w)
 have H := h
 clear h
 unfold Q9.f at H
 obtain ⟨b5V, A3, H⟩ := bd_ H
 try dsimp only at H
 by_cases c4 : (wrap64 ((l0.length : Int) - b5V)) < 0
 ·rw [if_pos c4] at H; have a4d := dt_ c4; clear c4; obtain ⟨rfl, rfl⟩ := s2_ H
  go_enter Tryd.func101, Tryd.ntmps101
  go_wp2_with (first | (refine gl_ (some 11) Tryd.func77 #[.bool a1] ?_; (with_reducible refine (N9.calls a1 b5V _ A3.out).mono ?_); rintro e w' ⟨rfl, ⟨nd, rfl⟩⟩; refine ⟨_, rfl, ?_⟩))
  go_ret2
  exact ⟨_, by (rfl), by (exact Kd.Y1 _ _ _ _ _), by repeat (with_reducible first | exact HB.out | apply o9)⟩
 ·rw [if_neg c4] at H; have a4d := df_ c4; clear c4; obtain ⟨ji5, b9t⟩ := si_ ((wrap64 ((l0.length : Int) - b5V))); rw [b9t] at H
  (try rw [b9t] at a4d)
  have g65 : (IntKind.i64.wrap ((l0.length : Int) - b5V)) = ji5 := (a0I _).trans b9t; have c6 := Z7 H; replace H := O5 H; have a8h := eq_true c6; have b4N := dt_ c6; clear c6; have c7 := Z7 H; replace H := O5 H; have a5U := eq_true c7; have a9R := dt_ c7; clear c7; obtain ⟨d5m, A8, H⟩ := bd_ H
  try dsimp only at H
  by_cases c9 : (strOfNums d5m).toList = (strOfNums l0).toList
  ·rw [if_pos c9] at H; obtain ⟨b1v, b71⟩ := bt_ c9; clear c9; have a9e := eq_true (V9 : 0 ≤ (ji5)); have a7B := eq_true (V9 : (ji5) ≤ (l0.length : Int)); have c12 := Z7 H; replace H := O5 H; have c8T := a_ c12; clear c12; obtain ⟨g99, d5n⟩ := is_ ((([] : List Int) ++ (l0.take ((ji5) : Int).toNat)) : List Int); rw [← d5n] at H; have f1D := a_ d5n; clear d5n; obtain ⟨rfl, rfl⟩ := s2_ H
   go_enter Tryd.func101, Tryd.ntmps101
   try go_wp2_with (first | (refine gl_ (some 11) Tryd.func77 #[.bool a1] ?_; (with_reducible refine (N9.calls a1 b5V _ A3.out).mono ?_); rintro e w' ⟨rfl, ⟨nd, rfl⟩⟩; refine ⟨_, rfl, ?_⟩))
   replace HB := a_ (Y3 (o9 HB.out nd)); obtain ⟨h0a, e3q, _, e3r, _⟩ := info_parts info5; obtain ⟨g1E, f1E, f1F⟩ := a5Q (P := Tryd.prog) (Value.int .u8) 0 22 5 .i64 Tryd.underlying22 e3q e3r A0 c0 l0 (ji5) (V9) (V9) HC0.out; have c4Q := ci_ (Kd.Y8 (h1 := fun _ => rfl) (f1E _ (Kd.Y2 HR0.out))); have d5o := a_ f1F; clear f1E f1F e3q e3r; refine a2x (n := 9) (S := fun w' => (convert 22 9 (.slice A0 l0.length c0)).run Tryd.prog w' = .ok (.string (strOfNums l0)) w') (ds := []) (bo_ 9 0) (by kernel_rfl) rfl rfl ((Kd.a3l (P := Tryd.prog) (A := A0) (c := c0) Tryd.underlying22 Tryd.underlying5 Tryd.underlying9 HR0.out)) (fun hHeld => ?_); refine a2D Q9.d2o Q9.c0c (fun Z8 HW_ => ?_); generalize (w.drewN nd).drew = w13 at HB c4Q hHeld ⊢; refine pu_ 0 (some 15) Z8 ?_; refine pu_ 1 (some 16) Z8 ?_; refine pu_ 2 (some 17) Z8 ?_; refine pu_ 3 (some 18) Z8 ?_; refine pu_ 6 (some 21) Z8 ?_; refine a1w (i := 7) (N := some 22) (v := ?_) (a' := ?_) (bo_ 9 207) rfl rfl (a1x Z8.out HW_.out (by kernel_rfl)) (fun _ _ _ h => h) (Or.inl ⟨by rfl, ?_⟩) hHeld ?_ ?_
   rotate_left
   ·intro w' s0
    go_simp
    with_reducible rfl
   rotate_left
   ·simp only [Act.put, List.setIfInBounds_toArray, List.set_cons_zero, List.set_cons_succ, a0I, a1W]
    rfl
   refine a6e (i := 4) (N := some 19) (bo_ 9 223) rfl rfl (a1I Z8.out (by kernel_rfl)) (by decide) (fun K hK => ?_); refine a5g Tryd.func57 (by kernel_rfl) rfl #[.slice A0 (l0.take ((ji5) : Int).toNat).length c0, .bool a1] (by rfl) rfl rfl (by (try simp only [List.map_toArray, List.map_cons, List.map_nil]); (rw [show (l0.take ((ji5) : Int).toNat).length = (ji5).toNat from (by rw [List.length_take]; have h_ : ((ji5) : Int) ≤ (l0.length : Int) := V9; omega)] <;> rfl)) ?_
   with_reducible refine (V6.calls k _ _ (l0.take ((ji5) : Int).toNat) a1 d5m _ ?P5 ?P6 A8.out).mono ?_
   (case P5 => exact (Kd.C9 c4Q.out HB.out))
   (case P6 => exact d5o.out)
   rintro e w15 ⟨e6x, rfl, ho0, hb⟩; refine ⟨_, rfl, ?_⟩; have c0d := rl_ ho0 HB; replace HB := U9 HB hb
   (try clear hb)
   (try clear ho0)
   refine hK.out _ _ ((Kd.a3l (P := Tryd.prog) (A := A0) (c := c0) Tryd.underlying22 Tryd.underlying5 Tryd.underlying9 (by (exact (Kd.C9 HR0.out HB.out))))) (fun hHeld => ?_); clear hK K; refine nm_ (some 19) ?_; refine a6e (i := 5) (N := some 20) (bo_ 9 255) rfl rfl (a1I Z8.out (by kernel_rfl)) (by decide) (fun K hK => ?_); have e3s := b7r (P := Tryd.prog) Tryd.underlying22 Tryd.underlying5 Tryd.underlying9 (Kd.b4f c0d.out); refine b1l (w1 := ?_) (v := ?_) (by rfl) rfl ?_ ?_
   rotate_left 2
   ·go_simp
    constructor
    ·rfl
    ·rfl
   clear e3s; refine hK.out _ _ ((Kd.a3l (P := Tryd.prog) (A := A0) (c := c0) Tryd.underlying22 Tryd.underlying5 Tryd.underlying9 (by (exact (Kd.C9 HR0.out HB.out))))) (fun hHeld => ?_); clear hK K; refine nm_ (some 20) ?_; refine pu_ 8 (some 23) Z8 ?_; refine a4y (a5v Z8.out (by kernel_rfl)) ?_; obtain ⟨d5p, a7D, _, a7E, _⟩ := info_parts info5; obtain ⟨b8q, b1H, b1I⟩ := a5Q (P := Tryd.prog) (Value.int .u8) 0 22 5 .i64 Tryd.underlying22 a7D a7E A0 c0 l0 (ji5) (V9) (V9) HC0.out; have f1G := ci_ (Kd.Y8 (h1 := fun _ => rfl) (b1H _ (Kd.Y2 HR0.out))); have g66 := a_ b1I; clear b1H b1I a7D a7E
   try go_wp2_with (first | ((with_reducible refine E5 (b := .append) (xs := #[.tmp 24, .tmp 27]) rfl ?_); at_builtin; refine Kd.P8 (Kd.int .u8) (w0 := w) w.heap.size rfl (.tmp 24) (.tmp 27) 22 5 (.int .u8 0) 1 rfl Tryd.underlying22 info5 rfl (by decide) (by omega) (.slice none 0 0) ([] : List Int) (l0.take ((ji5) : Int).toNat) _ _ _ (fun k_ => some k_ ≠ (e6x : Value).ownBlock) (fun _ => False) rfl rfl ?aO ?aR (fun _ _ h => h) (fun _ h => h.elim) ?aF ?aB ?aS ?aL ?_; (case aR => (have c_ := (Kd.C9 f1G.out HB.out); rw [show (l0.take ((ji5) : Int).toNat).length = (ji5).toNat from (by rw [List.length_take]; have h_ : ((ji5) : Int) ≤ (l0.length : Int) := V9; omega)] at c_; exact c_)); (case aB => exact HB.out); (case aF => exact (fun k_ hk => Kd.fresh' (Kd.a0m c0d.out) k_ hk)); (case aO => exact ((Kd.Y1 _ _ _ _ (fun k_ => some k_ ≠ (e6x : Value).ownBlock)))); (case aS => exact (y5 HB.out)); (case aL => have := c8T.out; have e6y := (show (l0.take ((ji5) : Int).toNat).length = (ji5).toNat from (by rw [List.length_take]; have h_ : ((ji5) : Int) ≤ (l0.length : Int) := V9; omega)); omega); intro h0b w19 ho hb hg hat; rw [← f1D.out] at ho; have f1H := a_ ho; replace c0d := a_ (Kd.a0R (Kd.a6i c0d.out) hg hat); replace HB := a_ hb; clear ho hb hg hat))
   go_ret2
   exact ⟨_, by (rfl), by exact Kd.D7 f1H.out (fun _ hk => trivial), by exact HB.out⟩
  ·rw [if_neg c9] at H; have b1v := bq_ c9; have b71 := bn_ c9; obtain ⟨rfl, rfl⟩ := s2_ H
   go_enter Tryd.func101, Tryd.ntmps101
   try go_wp2_with (first | (refine gl_ (some 11) Tryd.func77 #[.bool a1] ?_; (with_reducible refine (N9.calls a1 b5V _ A3.out).mono ?_); rintro e w' ⟨rfl, ⟨nd, rfl⟩⟩; refine ⟨_, rfl, ?_⟩))
   replace HB := a_ (Y3 (o9 HB.out nd)); obtain ⟨h0d, e3t, _, e3u, _⟩ := info_parts info5; obtain ⟨g1F, f1I, f1J⟩ := a5Q (P := Tryd.prog) (Value.int .u8) 0 22 5 .i64 Tryd.underlying22 e3t e3u A0 c0 l0 (ji5) (V9) (V9) HC0.out; have c4Q := ci_ (Kd.Y8 (h1 := fun _ => rfl) (f1I _ (Kd.Y2 HR0.out))); have d5o := a_ f1J; clear f1I f1J e3t e3u; refine a2x (n := 9) (S := fun w' => (convert 22 9 (.slice A0 l0.length c0)).run Tryd.prog w' = .ok (.string (strOfNums l0)) w') (ds := []) (bo_ 9 0) (by kernel_rfl) rfl rfl ((Kd.a3l (P := Tryd.prog) (A := A0) (c := c0) Tryd.underlying22 Tryd.underlying5 Tryd.underlying9 HR0.out)) (fun hHeld => ?_); refine a2D Q9.d2o Q9.c0c (fun Z8 HW_ => ?_); generalize (w.drewN nd).drew = w20 at HB c4Q hHeld ⊢; refine pu_ 0 (some 15) Z8 ?_; refine pu_ 1 (some 16) Z8 ?_; refine pu_ 2 (some 17) Z8 ?_; refine pu_ 3 (some 18) Z8 ?_; refine pu_ 6 (some 21) Z8 ?_; refine a1w (i := 7) (N := some 22) (v := ?_) (a' := ?_) (bo_ 9 207) rfl rfl (a1x Z8.out HW_.out (by kernel_rfl)) (fun _ _ _ h => h) (Or.inl ⟨by rfl, ?_⟩) hHeld ?_ ?_
   rotate_left
   ·intro w' s0
    go_simp
    with_reducible rfl
   rotate_left
   ·simp only [Act.put, List.setIfInBounds_toArray, List.set_cons_zero, List.set_cons_succ, a0I, a1W]
    rfl
   refine a6e (i := 4) (N := some 19) (bo_ 9 223) rfl rfl (a1I Z8.out (by kernel_rfl)) (by decide) (fun K hK => ?_); refine a5g Tryd.func57 (by kernel_rfl) rfl #[.slice A0 (l0.take ((ji5) : Int).toNat).length c0, .bool a1] (by rfl) rfl rfl (by (try simp only [List.map_toArray, List.map_cons, List.map_nil]); (rw [show (l0.take ((ji5) : Int).toNat).length = (ji5).toNat from (by rw [List.length_take]; have h_ : ((ji5) : Int) ≤ (l0.length : Int) := V9; omega)] <;> rfl)) ?_
   with_reducible refine (V6.calls k _ _ (l0.take ((ji5) : Int).toNat) a1 d5m _ ?P5 ?P6 A8.out).mono ?_
   (case P5 => exact (Kd.C9 c4Q.out HB.out))
   (case P6 => exact d5o.out)
   rintro e w22 ⟨e6x, rfl, ho0, hb⟩; refine ⟨_, rfl, ?_⟩; have c0d := rl_ ho0 HB; replace HB := U9 HB hb
   (try clear hb)
   (try clear ho0)
   refine hK.out _ _ ((Kd.a3l (P := Tryd.prog) (A := A0) (c := c0) Tryd.underlying22 Tryd.underlying5 Tryd.underlying9 (by (exact (Kd.C9 HR0.out HB.out))))) (fun hHeld => ?_); clear hK K; refine nm_ (some 19) ?_; refine a6e (i := 5) (N := some 20) (bo_ 9 255) rfl rfl (a1I Z8.out (by kernel_rfl)) (by decide) (fun K hK => ?_); have f1K := b7r (P := Tryd.prog) Tryd.underlying22 Tryd.underlying5 Tryd.underlying9 (Kd.b4f c0d.out); refine b1l (w1 := ?_) (v := ?_) (by rfl) rfl ?_ ?_
   rotate_left 2
   ·go_simp
    constructor
    ·rfl
    ·rfl
   clear f1K; refine hK.out _ _ ((Kd.a3l (P := Tryd.prog) (A := A0) (c := c0) Tryd.underlying22 Tryd.underlying5 Tryd.underlying9 (by (exact (Kd.C9 HR0.out HB.out))))) (fun hHeld => ?_); clear hK K; refine nm_ (some 20) ?_; refine pu_ 8 (some 23) Z8 ?_; refine a4y (a5v Z8.out (by kernel_rfl)) ?_
   try go_wp2
   go_ret2
   exact ⟨_, by (rfl), by (exact Kd.Y1 _ _ _ _ _), by exact HB.out⟩
def a14.f (k : Nat) (l0 : List Int) (a1 : Int) (a2 : Bool) : Option (List Int × Int) := (J8.f k l0 a1).bind fun b9x => (if (b9x.length : Int) = 0 then (some (([] : List Int), 0)) else ((y9.f k l0 a1).bind fun c9R => (if c9R.2 = true then ((N9.f a2).bind fun c6X => (if (c9R.1.length : Int) < (wrap64 (c6X + 2)) then (some (([] : List Int), 3)) else ((N9.f a2).bind fun c4R => (if (c9R.1.length : Int) > (wrap64 (c4R + 65535)) then (some (([] : List Int), 4)) else ((Q9.f k c9R.1 a2).bind fun e3v => (if e3v.2 = true then (some (e3v.1, 1)) else (some (([] : List Int), 5)))))))) else (some (([] : List Int), 2)))))
theorem a14.calls (k : Nat) (A0 : Option Addr) (c0 : Nat) (l0 : List Int) (a1 : Int) (a2 : Bool) (r1 : List Int) (r2 : Int) (w : World) (hr0 : Kd.C (Kd.int .u8) w A0 l0.length l0) (hc0 : l0.length ≤ c0) (h : a14.f k l0 a1 a2 = some (r1, r2)) :
  Calls Tryd.prog 86 #[.slice A0 l0.length c0, .int .u32 a1, .bool a2] w fun e w' => ∃ v0_ : Value, e = .returned (.tuple #[v0_, .int .i64 r2]) ∧ Kd.R (Kd.int .u8) 5 w' w.heap.size (fun _ => True) v0_ r1 ∧ Below w.heap.size w w' := by
 have HR0 := a_ hr0
 have HC0 := a_ hc0
 clear hr0 hc0
 have HB := a_ (Below.refl w.heap.size w)
 have H := h
 clear h
 unfold a14.f at H
 obtain ⟨b9x, A4, H⟩ := bd_ H
 try dsimp only at H
 by_cases c5 : (b9x.length : Int) = 0
 ·rw [if_pos c5] at H; obtain ⟨a5y, b0H⟩ := bt_ c5; clear c5; obtain ⟨rfl, rfl⟩ := s2_ H
  go_enter Tryd.func86, Tryd.ntmps86
  go_wp2_with (first | (refine gl_ (some 14) Tryd.func99 #[.slice A0 l0.length c0, .int .u32 a1] ?_; (with_reducible refine (J8.calls k _ _ l0 a1 b9x _ ?P5 ?P6 A4.out).mono ?_); (case P5 => exact HR0.out); (case P6 => exact HC0.out); rintro e w6 ⟨d5q, rfl, ho0, hb⟩; refine ⟨_, rfl, ?_⟩; have a2X := rl_ ho0 HB; replace HB := U9 HB hb; (try clear hb); (try clear ho0); obtain ⟨Ao7, co7, eo7⟩ := Kd.G7 a2X.out; subst eo7))
  go_ret2
  exact ⟨_, by (rfl), by (exact Kd.Y1 _ _ _ _ _), by exact HB.out⟩
 ·rw [if_neg c5] at H; have a5y := bq_ c5; have b0H := bn_ c5; have h0e : ¬ (b9x = []) := fun h_ => c5 (by rw [h_]; rfl)
  obtain ⟨⟨b5W, g1G⟩, A8, H⟩ := bd_ H
  try dsimp only at H
  by_cases c9 : g1G = true
  ·subst c9; rw [if_pos rfl] at H; obtain ⟨c6X, A10, H⟩ := bd_ H
   try dsimp only at H
   by_cases c11 : (b5W.length : Int) < (wrap64 (c6X + 2))
   ·rw [if_pos c11] at H; have a7B := dt_ c11; clear c11; obtain ⟨rfl, rfl⟩ := s2_ H
    go_enter Tryd.func86, Tryd.ntmps86
    go_wp2_with (first | (refine gl_ (some 14) Tryd.func99 #[.slice A0 l0.length c0, .int .u32 a1] ?_; (with_reducible refine (J8.calls k _ _ l0 a1 b9x _ ?P5 ?P6 A4.out).mono ?_); (case P5 => exact HR0.out); (case P6 => exact HC0.out); rintro e w12 ⟨d5q, rfl, ho0, hb⟩; refine ⟨_, rfl, ?_⟩; have a2X := rl_ ho0 HB; replace HB := U9 HB hb; (try clear hb); (try clear ho0); obtain ⟨h0f, h0g, g1H⟩ := Kd.G7 a2X.out; subst g1H) | (refine gl_ (some 20) Tryd.func100 #[.slice A0 l0.length c0, .int .u32 a1] ?_; (with_reducible refine (y9.calls k _ _ l0 a1 b5W true _ ?P5 ?P6 A8.out).mono ?_); (case P5 => exact (Kd.C9 HR0.out HB.out)); (case P6 => exact HC0.out); rintro e w14 ⟨d91, rfl, ho0, hb⟩; refine ⟨_, rfl, ?_⟩; have a6Y := rn_ ho0 a2X HB; replace a2X := rR_ a2X ho0 hb; replace HB := U9 HB hb; (try clear hb); (try clear ho0); obtain ⟨b3J, a7C, c6P⟩ := Kd.G7 a6Y.out; subst c6P) | (refine gl_ (some 28) Tryd.func77 #[.bool a2] ?_; (with_reducible refine (N9.calls a2 c6X _ A10.out).mono ?_); rintro e w' ⟨rfl, ⟨nd, rfl⟩⟩; refine ⟨_, rfl, ?_⟩))
    go_ret2
    exact ⟨_, by (rfl), by (exact Kd.Y1 _ _ _ _ _), by repeat (with_reducible first | exact HB.out | apply o9)⟩
   ·rw [if_neg c11] at H; have a7B := df_ c11; clear c11; obtain ⟨c4R, A16, H⟩ := bd_ H
    try dsimp only at H
    by_cases c17 : (b5W.length : Int) > (wrap64 (c4R + 65535))
    ·rw [if_pos c17] at H; have b4w : decide ((wrap64 (c4R + 65535)) < (b5W.length : Int)) = true := dt_ c17; clear c17; obtain ⟨rfl, rfl⟩ := s2_ H
     go_enter Tryd.func86, Tryd.ntmps86
     go_wp2_with (first | (refine gl_ (some 14) Tryd.func99 #[.slice A0 l0.length c0, .int .u32 a1] ?_; (with_reducible refine (J8.calls k _ _ l0 a1 b9x _ ?P5 ?P6 A4.out).mono ?_); (case P5 => exact HR0.out); (case P6 => exact HC0.out); rintro e w18 ⟨d5q, rfl, ho0, hb⟩; refine ⟨_, rfl, ?_⟩; have a2X := rl_ ho0 HB; replace HB := U9 HB hb; (try clear hb); (try clear ho0); obtain ⟨b0I, b0J, c6Y⟩ := Kd.G7 a2X.out; subst c6Y) | (refine gl_ (some 20) Tryd.func100 #[.slice A0 l0.length c0, .int .u32 a1] ?_; (with_reducible refine (y9.calls k _ _ l0 a1 b5W true _ ?P5 ?P6 A8.out).mono ?_); (case P5 => exact (Kd.C9 HR0.out HB.out)); (case P6 => exact HC0.out); rintro e w20 ⟨d91, rfl, ho0, hb⟩; refine ⟨_, rfl, ?_⟩; have a6Y := rn_ ho0 a2X HB; replace a2X := rR_ a2X ho0 hb; replace HB := U9 HB hb; (try clear hb); (try clear ho0); obtain ⟨b8m, b8n, c2h⟩ := Kd.G7 a6Y.out; subst c2h) | (refine gl_ (some 28) Tryd.func77 #[.bool a2] ?_; (with_reducible refine (N9.calls a2 c6X _ A10.out).mono ?_); rintro e w' ⟨rfl, ⟨nd, rfl⟩⟩; refine ⟨_, rfl, ?_⟩) | (refine gl_ (some 34) Tryd.func77 #[.bool a2] ?_; (with_reducible refine (N9.calls a2 c4R _ A16.out).mono ?_); rintro e w' ⟨rfl, ⟨nd, rfl⟩⟩; refine ⟨_, rfl, ?_⟩))
     go_ret2
     exact ⟨_, by (rfl), by (exact Kd.Y1 _ _ _ _ _), by repeat (with_reducible first | exact HB.out | apply o9)⟩
    ·rw [if_neg c17] at H; have b4w : decide ((wrap64 (c4R + 65535)) < (b5W.length : Int)) = false := df_ c17; clear c17; obtain ⟨⟨f1N, g1J⟩, A22, H⟩ := bd_ H
     try dsimp only at H
     by_cases c23 : g1J = true
     ·subst c23; rw [if_pos rfl] at H; obtain ⟨rfl, rfl⟩ := s2_ H
      go_enter Tryd.func86, Tryd.ntmps86
      go_wp2_with (first | (refine gl_ (some 14) Tryd.func99 #[.slice A0 l0.length c0, .int .u32 a1] ?_; (with_reducible refine (J8.calls k _ _ l0 a1 b9x _ ?P5 ?P6 A4.out).mono ?_); (case P5 => exact HR0.out); (case P6 => exact HC0.out); rintro e w24 ⟨d5q, rfl, ho0, hb⟩; refine ⟨_, rfl, ?_⟩; have a2X := rl_ ho0 HB; replace HB := U9 HB hb; (try clear hb); (try clear ho0); obtain ⟨a5d, a5e, c6Z⟩ := Kd.G7 a2X.out; subst c6Z) | (refine gl_ (some 20) Tryd.func100 #[.slice A0 l0.length c0, .int .u32 a1] ?_; (with_reducible refine (y9.calls k _ _ l0 a1 b5W true _ ?P5 ?P6 A8.out).mono ?_); (case P5 => exact (Kd.C9 HR0.out HB.out)); (case P6 => exact HC0.out); rintro e w26 ⟨d91, rfl, ho0, hb⟩; refine ⟨_, rfl, ?_⟩; have a6Y := rn_ ho0 a2X HB; replace a2X := rR_ a2X ho0 hb; replace HB := U9 HB hb; (try clear hb); (try clear ho0); obtain ⟨a8P, a8Q, c1m⟩ := Kd.G7 a6Y.out; subst c1m) | (refine gl_ (some 28) Tryd.func77 #[.bool a2] ?_; (with_reducible refine (N9.calls a2 c6X _ A10.out).mono ?_); rintro e w' ⟨rfl, ⟨nd, rfl⟩⟩; refine ⟨_, rfl, ?_⟩) | (refine gl_ (some 34) Tryd.func77 #[.bool a2] ?_; (with_reducible refine (N9.calls a2 c4R _ A16.out).mono ?_); rintro e w' ⟨rfl, ⟨nd, rfl⟩⟩; refine ⟨_, rfl, ?_⟩) | (refine gl_ (some 40) Tryd.func101 #[.slice a8P b5W.length a8Q, .bool a2] ?_; (with_reducible refine (Q9.calls k _ _ b5W a2 f1N true _ ?P5 ?P6 A22.out).mono ?_); (case P5 => exact (Kd.E8 a6Y.out).2.2); (case P6 => exact (Kd.E8 a6Y.out).2.1); rintro e w28 ⟨g1K, rfl, ho0, hb⟩; refine ⟨_, rfl, ?_⟩; have e3w := a_ (Kd.a0e (Kd.a1H (Kd.a1H ho0 (Kd.a0m (by (with_reducible repeat (apply Kd.a1g)); exact a2X.out))) (Kd.a0m (by (with_reducible repeat (apply Kd.a1g)); exact a6Y.out))) (y5 (by repeat (with_reducible first | exact HB.out | apply o9)))); replace a2X := a_ (Kd.a2L (by (with_reducible repeat (apply Kd.a1g)); exact a2X.out) (Kd.a0H ho0) hb); replace a6Y := a_ (Kd.a2L (by (with_reducible repeat (apply Kd.a1g)); exact a6Y.out) (Kd.a0H ho0) hb); replace HB := a_ (J4 (by repeat (with_reducible first | exact HB.out | apply o9)) hb); (try clear hb); (try clear ho0)))
      go_ret2
      exact ⟨_, by (rfl), by exact Kd.D7 e3w.out (fun _ hk => trivial), by exact HB.out⟩
     ·cases nt_ c23
      rw [if_neg a3S] at H; obtain ⟨rfl, rfl⟩ := s2_ H
      go_enter Tryd.func86, Tryd.ntmps86
      go_wp2_with (first | (refine gl_ (some 14) Tryd.func99 #[.slice A0 l0.length c0, .int .u32 a1] ?_; (with_reducible refine (J8.calls k _ _ l0 a1 b9x _ ?P5 ?P6 A4.out).mono ?_); (case P5 => exact HR0.out); (case P6 => exact HC0.out); rintro e w29 ⟨d5q, rfl, ho0, hb⟩; refine ⟨_, rfl, ?_⟩; have a2X := rl_ ho0 HB; replace HB := U9 HB hb; (try clear hb); (try clear ho0); obtain ⟨b0y, a9N, d4b⟩ := Kd.G7 a2X.out; subst d4b) | (refine gl_ (some 20) Tryd.func100 #[.slice A0 l0.length c0, .int .u32 a1] ?_; (with_reducible refine (y9.calls k _ _ l0 a1 b5W true _ ?P5 ?P6 A8.out).mono ?_); (case P5 => exact (Kd.C9 HR0.out HB.out)); (case P6 => exact HC0.out); rintro e w31 ⟨d91, rfl, ho0, hb⟩; refine ⟨_, rfl, ?_⟩; have a6Y := rn_ ho0 a2X HB; replace a2X := rR_ a2X ho0 hb; replace HB := U9 HB hb; (try clear hb); (try clear ho0); obtain ⟨d9d, d9e, e5N⟩ := Kd.G7 a6Y.out; subst e5N) | (refine gl_ (some 28) Tryd.func77 #[.bool a2] ?_; (with_reducible refine (N9.calls a2 c6X _ A10.out).mono ?_); rintro e w' ⟨rfl, ⟨nd, rfl⟩⟩; refine ⟨_, rfl, ?_⟩) | (refine gl_ (some 34) Tryd.func77 #[.bool a2] ?_; (with_reducible refine (N9.calls a2 c4R _ A16.out).mono ?_); rintro e w' ⟨rfl, ⟨nd, rfl⟩⟩; refine ⟨_, rfl, ?_⟩) | (refine gl_ (some 40) Tryd.func101 #[.slice d9d b5W.length d9e, .bool a2] ?_; (with_reducible refine (Q9.calls k _ _ b5W a2 f1N false _ ?P5 ?P6 A22.out).mono ?_); (case P5 => exact (Kd.E8 a6Y.out).2.2); (case P6 => exact (Kd.E8 a6Y.out).2.1); rintro e w33 ⟨g1K, rfl, ho0, hb⟩; refine ⟨_, rfl, ?_⟩; have e3w := a_ (Kd.a0e (Kd.a1H (Kd.a1H ho0 (Kd.a0m (by (with_reducible repeat (apply Kd.a1g)); exact a2X.out))) (Kd.a0m (by (with_reducible repeat (apply Kd.a1g)); exact a6Y.out))) (y5 (by repeat (with_reducible first | exact HB.out | apply o9)))); replace a2X := a_ (Kd.a2L (by (with_reducible repeat (apply Kd.a1g)); exact a2X.out) (Kd.a0H ho0) hb); replace a6Y := a_ (Kd.a2L (by (with_reducible repeat (apply Kd.a1g)); exact a6Y.out) (Kd.a0H ho0) hb); replace HB := a_ (J4 (by repeat (with_reducible first | exact HB.out | apply o9)) hb); (try clear hb); (try clear ho0)))
      go_ret2
      exact ⟨_, by (rfl), by (exact Kd.Y1 _ _ _ _ _), by exact HB.out⟩
  ·cases nt_ c9
   rw [if_neg a3S] at H; obtain ⟨rfl, rfl⟩ := s2_ H
   go_enter Tryd.func86, Tryd.ntmps86
   go_wp2_with (first | (refine gl_ (some 14) Tryd.func99 #[.slice A0 l0.length c0, .int .u32 a1] ?_; (with_reducible refine (J8.calls k _ _ l0 a1 b9x _ ?P5 ?P6 A4.out).mono ?_); (case P5 => exact HR0.out); (case P6 => exact HC0.out); rintro e w34 ⟨d5q, rfl, ho0, hb⟩; refine ⟨_, rfl, ?_⟩; have a2X := rl_ ho0 HB; replace HB := U9 HB hb; (try clear hb); (try clear ho0); obtain ⟨h0h, h0m, g1L⟩ := Kd.G7 a2X.out; subst g1L) | (refine gl_ (some 20) Tryd.func100 #[.slice A0 l0.length c0, .int .u32 a1] ?_; (with_reducible refine (y9.calls k _ _ l0 a1 b5W false _ ?P5 ?P6 A8.out).mono ?_); (case P5 => exact (Kd.C9 HR0.out HB.out)); (case P6 => exact HC0.out); rintro e w36 ⟨d91, rfl, ho0, hb⟩; refine ⟨_, rfl, ?_⟩; have a6Y := rn_ ho0 a2X HB; replace a2X := rR_ a2X ho0 hb; replace HB := U9 HB hb; (try clear hb); (try clear ho0)))
   go_ret2
   exact ⟨_, by (rfl), by (exact Kd.Y1 _ _ _ _ _), by exact HB.out⟩
def a4k.f (V4 : Int) (a0X : Int) (a3T : List Int) : Option (Bool) := if V4 = 1 then ((a0x.f a0X).bind fun t208 => (if t208 = true then (some (decide ((a3T.length : Int) ≤ 65531))) else (some false))) else (if V4 = 2 then ((a0x.f a0X).bind fun e6A => (if e6A = true then (some (decide ((a3T.length : Int) ≤ 65531))) else (some false))) else (some false))
theorem a4k.calls (V4 : Int) (a0X : Int) (b2T : Option Addr) (b2U : Nat) (a3T : List Int) (r : Bool) (w : World) (b6k : Kd.C (Kd.int .u8) w b2T a3T.length a3T) (b6l : a3T.length ≤ b2U) (h : a4k.f V4 a0X a3T = some r) :
  Calls Tryd.prog 16 #[.agg #[.int .i64 V4, .int .i64 a0X, .slice b2T a3T.length b2U]] w fun e w' => e = .returned (.bool r) ∧ Below w.heap.size w w' := by
 have d2d := Tryd.underlying42
 have d4R := a_ b6k
 have e3f := a_ b6l
 clear b6k b6l
 have HB := a_ (Below.refl w.heap.size w)
 have H := h
 clear h
 unfold a4k.f at H
 by_cases c2 : V4 = 1
 ·rw [if_pos c2] at H; obtain ⟨b1A, c2x⟩ := bt_ c2; clear c2; obtain ⟨t208, A3, H⟩ := bd_ H
  try dsimp only at H
  by_cases c4 : t208 = true
  ·subst c4; rw [if_pos rfl] at H; obtain rfl := oj_ H
   go_enter Tryd.func16, Tryd.ntmps16
   go_wp2_with (first | ((with_reducible refine X0 (N := 1) rfl ?_); (try (refine Y7 (by rfl) ?_; dsimp only)); refine be_ 1 #[.int .i64 V4, .int .i64 a0X, .slice b2T a3T.length b2U] 42 ?_; intro c9S hg w5 hbox hb; have b4Q := a_ hbox; have c9T := lb_ HB hg; replace HB := U9 HB hb; clear hb hbox hg; obtain ⟨c6L, c6M, e5U, c6N, c6O, e5V⟩ := a1R b4Q.out) | (go_at_call 33; (with_reducible refine (a0x.calls a0X true _ A3.out).mono ?_); rintro e w' ⟨rfl, ⟨nd, rfl⟩⟩))
   go_ret
   exact ⟨by (rfl), by repeat (with_reducible first | exact HB.out | apply o9)⟩
  ·cases nt_ c4
   rw [if_neg a3S] at H; obtain rfl := oj_ H
   go_enter Tryd.func16, Tryd.ntmps16
   go_wp2_with (first | ((with_reducible refine X0 (N := 1) rfl ?_); (try (refine Y7 (by rfl) ?_; dsimp only)); refine be_ 1 #[.int .i64 V4, .int .i64 a0X, .slice b2T a3T.length b2U] 42 ?_; intro c9S hg w7 hbox hb; have b4Q := a_ hbox; have c9T := lb_ HB hg; replace HB := U9 HB hb; clear hb hbox hg; obtain ⟨d43, d44, d45, d46, d47, d48⟩ := a1R b4Q.out) | (go_at_call 33; (with_reducible refine (a0x.calls a0X false _ A3.out).mono ?_); rintro e w' ⟨rfl, ⟨nd, rfl⟩⟩))
   go_ret
   exact ⟨by (rfl), by repeat (with_reducible first | exact HB.out | apply o9)⟩
 ·rw [if_neg c2] at H; have b1A := bq_ c2; have c2x := bn_ c2
  by_cases c9 : V4 = 2
  ·rw [if_pos c9] at H; obtain ⟨b1v, b71⟩ := bt_ c9; clear c9; obtain ⟨e6A, A10, H⟩ := bd_ H
   try dsimp only at H
   by_cases c11 : e6A = true
   ·subst c11; rw [if_pos rfl] at H; obtain rfl := oj_ H
    go_enter Tryd.func16, Tryd.ntmps16
    go_wp2_with (first | ((with_reducible refine X0 (N := 1) rfl ?_); (try (refine Y7 (by rfl) ?_; dsimp only)); refine be_ 1 #[.int .i64 V4, .int .i64 a0X, .slice b2T a3T.length b2U] 42 ?_; intro c9S hg w12 hbox hb; have b4Q := a_ hbox; have c9T := lb_ HB hg; replace HB := U9 HB hb; clear hb hbox hg; obtain ⟨b2y, b2z, b62, b2A, b2B, b63⟩ := a1R b4Q.out) | (go_at_call 33; (with_reducible refine (a0x.calls a0X true _ A10.out).mono ?_); rintro e w' ⟨rfl, ⟨nd, rfl⟩⟩))
    go_ret
    exact ⟨by (rfl), by repeat (with_reducible first | exact HB.out | apply o9)⟩
   ·cases nt_ c11
    rw [if_neg a3S] at H; obtain rfl := oj_ H
    go_enter Tryd.func16, Tryd.ntmps16
    go_wp2_with (first | ((with_reducible refine X0 (N := 1) rfl ?_); (try (refine Y7 (by rfl) ?_; dsimp only)); refine be_ 1 #[.int .i64 V4, .int .i64 a0X, .slice b2T a3T.length b2U] 42 ?_; intro c9S hg w14 hbox hb; have b4Q := a_ hbox; have c9T := lb_ HB hg; replace HB := U9 HB hb; clear hb hbox hg; obtain ⟨c9U, c9V, c9W, c9X, c9Y, c9Z⟩ := a1R b4Q.out) | (go_at_call 33; (with_reducible refine (a0x.calls a0X false _ A10.out).mono ?_); rintro e w' ⟨rfl, ⟨nd, rfl⟩⟩))
    go_ret
    exact ⟨by (rfl), by repeat (with_reducible first | exact HB.out | apply o9)⟩
  ·rw [if_neg c9] at H; have b1v := bq_ c9; have b71 := bn_ c9; obtain rfl := oj_ H
   go_enter Tryd.func16, Tryd.ntmps16
   go_wp2_with (first | ((with_reducible refine X0 (N := 1) rfl ?_); (try (refine Y7 (by rfl) ?_; dsimp only)); refine be_ 1 #[.int .i64 V4, .int .i64 a0X, .slice b2T a3T.length b2U] 42 ?_; intro c9S hg w16 hbox hb; have b4Q := a_ hbox; have c9T := lb_ HB hg; replace HB := U9 HB hb; clear hb hbox hg; obtain ⟨c1R, c1S, c1T, c1V, c1W, c1X⟩ := a1R b4Q.out))
   go_ret
   exact ⟨by (rfl), by exact HB.out⟩
theorem O8.bad (x : S42) (A : Option Addr) (c : Nat) (t : Bool) (w : World) (hr : Kd.C (Kd.int .u8) w A x.f2.length x.f2) (hc : x.f2.length ≤ c) (h : a4k.f x.f0 x.f1 x.f2 = some t) :
  Calls Tryd.prog 28 #[.agg #[.int .i64 x.f0, .int .i64 x.f1, .slice A x.f2.length c]] w fun e w' => e = .returned (.bool (!t)) ∧ Below w.heap.size w w' := by
 have d2d := Tryd.underlying42
 have HR := a_ hr
 have HC := a_ hc
 have HT := a_ h
 have HB := a_ (Below.refl w.heap.size w)
 clear hr hc h
 go_enter Tryd.func28, Tryd.ntmps28
 go_wp2_with (first | (refine be_ 1 #[.int .i64 x.f0, .int .i64 x.f1, .slice A x.f2.length c] 42 ?_; intro g1 hg w3 hbox hb; have HB3 := U9 HB hb; have BK3 := a_ hbox; obtain ⟨g69, g7a, g7b⟩ := g0R BK3.out; clear hg hbox hb) | (go_at_call 16; refine (a4k.calls x.f0 x.f1 A c x.f2 t _ (Kd.C9 HR.out HB3.out) HC.out HT.out).mono ?_; rintro e w4 ⟨rfl, hb⟩; have HB4 := U9 HB3 hb; clear hb))
 go_ret
 exact ⟨rfl, HB4.out⟩
def O8.go : List (S42) → Nat → Option Int
 | [], _ => some (-1)
 | x :: m, j => (a4k.f x.f0 x.f1 x.f2).bind fun t => if t = true then O8.go m (j + 1) else some (j : Int)
theorem O8.b78 (l : List (S42)) (j : Nat) (h : j < l.length) : l.drop j = J5 l (j : Int) :: l.drop (j + 1) := by
 rw [List.drop_eq_getElem_cons h]
 unfold J5
 rw [Int.toNat_natCast, List.getD_eq_getElem?_getD, List.getElem?_eq_getElem h]
 rfl
theorem O8.calls (A0 : Option Addr) (c0 : Nat) (l0 : List (S42)) (r : Int) (w : World) (hr0 : Kd.C k42 w A0 l0.length l0) (hc0 : l0.length ≤ c0) (h : O8.go l0 0 = some r) :
  Calls Tryd.prog 49 #[.slice A0 l0.length c0, .func (.func 28) #[] #[]] w fun e w' => e = .returned (.int .i64 r) ∧ Below w.heap.size w w' := by
 have hml := Kd.b2Z hr0
 have HR := a_ hr0
 have HG : Aside0 (O8.go (l0.drop 0) 0 = some r) := ⟨by rw [List.drop_zero]; exact h⟩
 have HB := a_ (Below.refl w.heap.size w)
 clear hr0 hc0 h
 go_enter Tryd.func49, Tryd.ntmps49
 go_wp2
 go_loopg [8] l0.length (fun kq v8 w' => ∃ j : Nat, kq + j = l0.length ∧ v8 = .int .i64 (j : Int) ∧ Aside0 (Below w.heap.size w w') ∧ Aside0 (O8.go (l0.drop j) j = some r))
 case atStart => exact ⟨0, rfl, rfl, HB, HG⟩
 case round =>
  obtain ⟨j, hj, rfl, HI, HGJ⟩ := hrel; clear HB HG
  by_cases hlt : j < l0.length
  ·obtain ⟨k1, rfl⟩ : ∃ k1, gk = k1 + 1 := ⟨gk - 1, by omega⟩; have c1_ : decide ((j : Int) < (l0.length : Int)) = true := dt_ (by omega); have p1_ : (0 : Int) ≤ (j : Int) := by omega
   have q1_ : (j : Int) < (l0.length : Int) := by omega
   obtain ⟨ad, Ax, cx, e0, hx0, hx1, hx2, hlx, hix⟩ := a3k HR.out (j : Int) p1_ q1_; have hgo := HGJ.out; rw [O8.b78 l0 j hlt, O8.go] at hgo; generalize J5 l0 (j : Int) = x at hx0 hx1 hx2 hlx hix hgo
   cases e0
   rw [Int.toNat_natCast] at hx0 hx1 hx2; replace hx0 := cb_ HI hx0; replace hx1 := cb_ HI hx1; replace hx2 := cb_ HI hx2; have HIX := a_ (Kd.C9 hix HI.out); have HLX := a_ hlx; obtain ⟨t, ht, hgo⟩ := Option.bind_eq_some_iff.1 hgo; have HT := a_ ht; have HGN := a_ hgo; clear hlx hix HGJ hgo ht
   go_wp2_with (fail)
   refine (O8.bad x Ax cx t _ HIX.out HLX.out HT.out).mono ?_; rintro e w2 ⟨rfl, hb⟩; have HB2 := U9 HI hb; clear hb hx0 hx1 hx2
   cases t with
   | true =>
    have hgo := HGN.out; rw [if_pos rfl] at hgo; have HGO := a_ hgo; clear HGN hgo
    go_wp2
    go_roundg k1
    case measure => omega
    case rel => exact ⟨j + 1, by omega, by go_num, HB2, HGO⟩
   | false =>
    have hgo := HGN.out; rw [if_neg (by decide)] at hgo; obtain rfl := oj_ hgo
    go_wp2
    go_ret
    exact ⟨rfl, HB2.out⟩
  ·have c1_ : decide ((j : Int) < (l0.length : Int)) = false := df_ (by omega); have hgo := HGJ.out; rw [List.drop_of_length_le (by omega), O8.go] at hgo; obtain rfl := oj_ hgo
   go_wp2
   go_ret
   exact ⟨rfl, HI.out⟩
theorem a2v.calls (A0 : Option Addr) (c0 : Nat) (l0 : List (S42)) (r : Int) (w : World) (hr0 : Kd.C k42 w A0 l0.length l0) (hc0 : l0.length ≤ c0) (h : O8.go l0 0 = some r) :
  Calls Tryd.prog 27 #[.slice A0 l0.length c0, .func (.func 28) #[] #[]] w fun e w' => e = .returned (.bool (decide (0 ≤ r))) ∧ Below w.heap.size w w' := by
 have HR := a_ hr0
 have HC := a_ hc0
 have HT := a_ h
 clear hr0 hc0 h
 go_enter Tryd.func27, Tryd.ntmps27
 go_wp2_with (go_at_call 49; refine (O8.calls A0 c0 l0 r _ HR.out HC.out HT.out).mono ?_; rintro e w4 ⟨rfl, hb⟩; have HB4 := a_ hb; clear hb)
 go_ret
 exact ⟨by first | rfl | simp [ge_iff_le], HB4.out⟩
end Go.Proofs.YtgnonglkibhnhaaDoor.Print
