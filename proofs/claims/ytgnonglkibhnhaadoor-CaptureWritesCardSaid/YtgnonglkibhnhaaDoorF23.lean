import Derived.Test.YtgnonglkibhnhaaDoorF42
import Derived.Test.YtgnonglkibhnhaaDoorM8
namespace Go.Proofs.YtgnonglkibhnhaaDoor.Print
open Go.RowKit Go.Proofs.YtgnonglkibhnhaaDoorW.PrintWords Go.Proofs.YtgnonglkibhnhaaDoorW.PrintLast Go.Proofs.YtgnonglkibhnhaaDoorW.PrintMore
attribute [local go_sem] a0d a0e a0V a0W X5 X6 a0f a0g
set_option linter.unusedVariables false
set_option linter.unusedSimpArgs false

/-! ### capture_records_read: function 23 -/
theorem b2q (d : Nat) (w : World) (x0 y0 : Int) (x1 y1 : Int) :
  (Op.equalIn (d + 2) 30 (.agg #[.int .i64 x0, .int .i64 x1]) (.agg #[.int .i64 y0, .int .i64 y1])).run Tryd.prog w = .ok (x0 == y0 && (x1 == y1)) w := by
 refine d0H Tryd.underlying30 (by kernel_rfl) ?_
 refine c0B (by rfl) (by go_simp; rfl) (by go_simp; rfl) (by go_simp) ?_
 exact c0A (by rfl) (by go_simp; rfl) (by go_simp; rfl) (by go_simp)
attribute [local go_sem high] b2q
def capture_records_read.odd (link : Int) : Bool := !(link == 9) && (!(link == 50) && !(link == 204))
def capture_records_read.of (dir link : Int) (d : List Int) : Int × List Int := if link = 204 ∧ 0 < d.length then (if rd d 0 = 0 then 1 else 2, d.drop 1) else (dir, d)
def capture_records_read.go (k : Nat) (dir link : Int) : List (S51) → List (S42) → Option (List (S42))
 | [], out => some out
 | x :: m, out => (a1S.f k out (capture_records_read.of dir link x.f3).1 (capture_records_read.of dir link x.f3).2).bind fun o => capture_records_read.go k dir link m o
def capture_records_read.f (k : Nat) (l1 : List Int) (dir : Int) : Option (List (S42) × Int × Int) := (pcap_Read.f k l1).bind fun t => if (!(t.2.2.2.2.2.1 == 0) || (!(t.2.2.2.2.2.2 == 0))) = true then some ([], t.2.2.2.2.2.1, t.2.2.2.2.2.2) else if capture_records_read.odd t.2.2.2.1 = true then some ([], 20, 7) else (capture_records_read.go k dir t.2.2.2.1 t.2.2.2.2.1 []).bind fun o => some (o, 0, 0)
theorem capture_records_read.d7a (l : List (S51)) (j : Nat) (h : j < l.length) : l.drop j = H9 l (j : Int) :: l.drop (j + 1) := by
 rw [List.drop_eq_getElem_cons h]
 unfold H9
 rw [Int.toNat_natCast, List.getD_eq_getElem?_getD, List.getElem?_eq_getElem h]
 rfl
structure RR (w1 W : World) (v : Value) (out : List (S42)) : Prop where
 row : Kd.S k42 42 W w1.heap.size (fun _ => True) v out
 bel : Below w1.heap.size w1 W
theorem RR.below {w1 W W' : World} {v : Value} {out : List (S42)} (h : RR w1 W v out) (hb : Below W.heap.size W W') : RR w1 W' v out := ⟨Kd.a4W h.row hb, L8 h.bel hb⟩
theorem RR.item {w1 W W' : World} {v v' : Value} {out out' : List (S42)} (h : RR w1 W v out) (hl : Longer W W' w1.heap.size (fun _ => True) v v' out') (hb : Below w1.heap.size W W') : RR w1 W' v' out' := ⟨hl.row, h.bel.trans hb⟩
set_option maxHeartbeats 16000000 in
set_option maxRecDepth 100000 in
theorem capture_records_read.calls (k : Nat) (A1 : Option Addr) (c1 : Nat) (l1 : List Int) (a05 : Int) (a06 : Int) (a07 : Int) (a08 : Int) (a09 : ByteArray) (a1a : ByteArray) (a0y : Int) (Y7 : Int) (Y1 : Bool) (r1 : List (S42)) (r2 r3 : Int) (w : World) (hr1 : Kd.C (Kd.int .u8) w A1 l1.length l1) (hc1 : l1.length ≤ c1) (h : capture_records_read.f k l1 a0y = some (r1, r2, r3)) :
  Calls Tryd.prog 23 #[.agg #[], .slice A1 l1.length c1, .agg #[.int .i64 a05, .int .i64 a06, .int .i64 a07, .int .i64 a08, .string a09, .string a1a, .int .i64 a0y, .int .u32 Y7, .bool Y1]] w fun e w' => ∃ v0_ : Value, e = .returned (.tuple #[v0_, .agg #[.int .i64 r2, .int .i64 r3]]) ∧ Kd.S k42 42 w' w.heap.size (fun _ => True) v0_ r1 ∧ Below w.heap.size w w' := by
 have b2i := Tryd.underlying30
 have c3k := Tryd.underlying25
 have e2w := Tryd.underlying65
 have c3q := Tryd.underlying46
 have d7b := Tryd.underlying51
 obtain ⟨⟨m1, m2, m3, link, l, f1, f2⟩, ht, h⟩ := Option.bind_eq_some_iff.1 h
 replace h : (if (!(f1 == 0) || (!(f2 == 0))) = true then some (([] : List (S42)), f1, f2) else if capture_records_read.odd link = true then some (([] : List (S42)), 20, 7) else (capture_records_read.go k a0y link l []).bind fun o => some (o, 0, 0)) = some (r1, r2, r3) := h
 have HT := a_ ht
 have HR1 := a_ hr1
 have HC1 := a_ hc1
 have HB := a_ (Below.refl w.heap.size w)
 have HH := a_ h
 clear hr1 hc1 ht h
 go_enter Tryd.func23, Tryd.ntmps23
 go_upto_region 2 with (first | (refine be_ 3 #[] 65 ?_; intro g3 hg w3 hbox hb; have HB3 := Q8 HB hb; clear hg hbox hb) | (refine be_ 5 #[.int .i64 a05, .int .i64 a06, .int .i64 a07, .int .i64 a08, .string a09, .string a1a, .int .i64 a0y, .int .u32 Y7, .bool Y1] 25 ?_; intro g5 hg w5 hbox hb; have HB5 := Q8 HB3 hb; have BK5 := a_ hbox; clear hg hbox hb) | (refine be_ 7 #[.int .i64 0, .int .i64 0] 30 ?_; intro g7 hg w7 hbox hb; have HB7 := Q8 HB5 hb; have b2o := X8 BK5 hb; have BK7 := a_ hbox; have GE7 : Aside0 (w.heap.size ≤ g7) := ⟨by rw [hg]; exact HB5.out.size⟩; clear hg hbox hb) | (go_at_call 42; refine (pcap_Read.calls k A1 c1 l1 m1 m2 m3 link l f1 f2 _ (Kd.E8 HR1.out HB7.out) HC1.out HT.out).mono ?_; rintro e w8 ⟨vl, rfl, hl, hb⟩; have HB8 := Q8 HB7 hb; have a7T := X8 b2o hb; have b0z := X8 BK7 hb; have HL := a_ hl; obtain ⟨Al, cl, el⟩ := Kd.a8t HL.out; subst el; clear hl hb) | (refine be_ 8 #[.bool false, .bool false, .int .u32 0, .int .u32 0] 46 ?_; intro g8 hg w9 hbox hb; have BK8 := a_ hbox; have HB9 := a_ hb; have GE8 : Aside0 (w8.heap.size ≤ g8) := ⟨by rw [hg]; exact Nat.le_refl _⟩; have LT8 := a_ (a0B hbox); clear hg hbox hb) | (refine be_ 10 #[.int .i64 0, .int .i64 0] 30 ?_; intro g10 hg w10 hbox hb; have b7z := X8 BK8 hb; have b6z := a_ hbox; have a8F := Q8 HB9 hb; have e2G : Aside0 (w8.heap.size ≤ g10) := ⟨by rw [hg]; exact HB9.out.size⟩; have ne1 : g8 ≠ g10 := (by have := LT8.out; omega); have ne2 : g10 ≠ g8 := fun e_ => ne1 e_.symm; have e0w := bc0 b7z; have c5B := l7 b7z.out 0; have e0x := bc1 b7z; have e0y := l7 b7z.out 1; have e0z := bc2 b7z; have e0A := l7 b7z.out 2; have b75 := bc3 b7z; have e0B := l7 b7z.out 3; have b6A := bc0 b6z; have e2H := l7 b6z.out 0; have b6B := bc1 b6z; have e2I := l7 b6z.out 1; clear hg hbox hb))
 have d7c := a_ (show ((((((w10.setCell ⟨g8, 0, none⟩ (.bool m1)).setCell ⟨g8, 1, none⟩ (.bool m2)).setCell ⟨g8, 2, none⟩ (.int .u32 m3)).setCell ⟨g8, 3, none⟩ (.int .u32 link)).setCell ⟨g10, 0, none⟩ (.int .i64 f1)).setCell ⟨g10, 1, none⟩ (.int .i64 f2)).heap[g8]? = some (.cells #[.bool m1, .bool m2, .int .u32 m3, .int .u32 link] 46 (0, 0)) from by refine (Below.heap_setCell _ ⟨g10, 1, none⟩ _ g8 ne1).trans ((Below.heap_setCell _ ⟨g10, 0, none⟩ _ g8 ne1).trans ?_); refine l9 (cs := #[.bool m1, .bool m2, .int .u32 m3, .int .u32 0]) ?_ 3 _ rfl; refine l9 (cs := #[.bool m1, .bool m2, .int .u32 0, .int .u32 0]) ?_ 2 _ rfl; refine l9 (cs := #[.bool m1, .bool false, .int .u32 0, .int .u32 0]) ?_ 1 _ rfl; refine l9 (cs := #[.bool false, .bool false, .int .u32 0, .int .u32 0]) ?_ 0 _ rfl; exact b7z.out)
 have c5C := a_ (show ((((((w10.setCell ⟨g8, 0, none⟩ (.bool m1)).setCell ⟨g8, 1, none⟩ (.bool m2)).setCell ⟨g8, 2, none⟩ (.int .u32 m3)).setCell ⟨g8, 3, none⟩ (.int .u32 link)).setCell ⟨g10, 0, none⟩ (.int .i64 f1)).setCell ⟨g10, 1, none⟩ (.int .i64 f2)).heap[g10]? = some (.cells #[.int .i64 f1, .int .i64 f2] 30 (0, 0)) from by refine l9 (cs := #[.int .i64 f1, .int .i64 0]) ?_ 1 _ rfl; refine l9 (cs := #[.int .i64 0, .int .i64 0]) ?_ 0 _ rfl; exact (Below.heap_setCell _ ⟨g8, 3, none⟩ _ g10 ne2).trans ((Below.heap_setCell _ ⟨g8, 2, none⟩ _ g10 ne2).trans ((Below.heap_setCell _ ⟨g8, 1, none⟩ _ g10 ne2).trans ((Below.heap_setCell _ ⟨g8, 0, none⟩ _ g10 ne2).trans (b6z.out)))))
 have HBr := a_ (o8 (j := 1) (v := .int .i64 f2) (o8 (j := 0) (v := .int .i64 f1) (o8 (j := 3) (v := .int .u32 link) (o8 (j := 2) (v := .int .u32 m3) (o8 (j := 1) (v := .bool m2) (o8 (j := 0) (v := .bool m1) a8F.out GE8.out) GE8.out) GE8.out) GE8.out) e2G.out) e2G.out)
 generalize (((((w10.setCell ⟨g8, 0, none⟩ (.bool m1)).setCell ⟨g8, 1, none⟩ (.bool m2)).setCell ⟨g8, 2, none⟩ (.int .u32 m3)).setCell ⟨g8, 3, none⟩ (.int .u32 link)).setCell ⟨g10, 0, none⟩ (.int .i64 f1)).setCell ⟨g10, 1, none⟩ (.int .i64 f2) = w11 at d7c c5C HBr ⊢
 clear BK8 b7z b6z HB9 a8F e0w c5B e0x e0y e0z e0A b75 e0B b6A e2H b6B e2I HB HB3 HB5 HB7 BK5 b2o BK7
 have b0A := a_ (Q5 a7T.out HBr.out)
 have a9h := a_ (Q5 b0z.out HBr.out)
 have e7E := a_ (Kd.a4W HL.out HBr.out)
 have c1m := a_ (L8 HB8.out HBr.out)
 clear HL a7T b0z HB8 HBr GE8 e2G LT8 ne1 ne2
 obtain ⟨b6A, b6B⟩ := e7A c5C.out
 have b75 := bc3 d7c
 have b6x := bc0 a9h
 have b1q := l7 a9h.out 0
 have b6y := bc1 a9h
 have b1r := l7 a9h.out 1
 by_cases hf : (!(f1 == 0) || (!(f2 == 0))) = true
 ·have h := HH.out; rw [if_pos hf] at h
  simp only [Option.some.injEq, Prod.mk.injEq] at h
  obtain ⟨rfl, rfl, rfl⟩ := h; clear HH
  go_wp2
  refine a2U (n := 3) (S := fun w' => w'.cell? ⟨g10, 0, none⟩ = some (.int .i64 f1) ∧ w'.cell? ⟨g10, 1, none⟩ = some (.int .i64 f2)) (ds := [2]) #[false, false, false] (by kernel_rfl) rfl rfl ⟨((D8 (P6 c5C.out) 0).trans rfl), ((D8 (P6 c5C.out) 1).trans rfl)⟩ (fun hHeld => ?_); refine a3l (i := 1) (N := some 6) #[false, true, false] rfl rfl (by kernel_rfl) (fun _ _ _ h => h) (.inl ⟨rfl, by intro w'; go_simp; with_reducible rfl⟩) rfl ?_; refine a0Y (i := 0) (N := some 25) (v := ?_) (a' := ?_) #[true, true, false] rfl rfl (by kernel_rfl) (fun _ _ _ h => h) (Or.inl ⟨by rfl, ?_⟩) hHeld ?_ ?_
  rotate_left
  ·rintro w' ⟨s0, s1⟩
   go_simp
   with_reducible rfl
  rotate_left
  ·simp only [Act.put, List.setIfInBounds_toArray, List.set_cons_zero, List.set_cons_succ, a0D, a1b]
   rfl
  refine c4W (i := 2) (N := none) #[true, true, true] rfl rfl (by kernel_rfl) (by decide) (fun K hK => ?_); refine b57 (w1 := ?_) (by rfl) rfl ?_ ?_
  rotate_left
  ·go_simp
   rfl
  refine hK.out _ _ ?_; clear hK K; refine a4J (by kernel_rfl) ?_

  try go_wp2
  refine bodyPost_ret (a2T rfl _ _ g7 30 #[.int .i64 f1, .int .i64 f2] (0, 0) _ rfl (l9 (l9 (P6 a9h.out) 0 _ rfl) 1 _ rfl) b2i rfl (by kernel_rfl)) rfl ?_; exact ⟨_, rfl, Kd.a7k _ _ _ _ _, o8 (o8 (Z8 c1m.out) GE7.out) GE7.out⟩
 ·have h := HH.out; rw [if_neg hf] at h; have hf2 : (!(f1 == 0) || (!(f2 == 0))) = false := by simpa using hf
  have HH := a_ h; clear h hf
  go_upto_region 4 with (fail)
  clear hf2 b6A b6B
  go_cut [38] (fun v38 wc => v38 = .bool (capture_records_read.odd link) ∧ wc = w11)
  case first =>
   by_cases e1 : link = 9
   ·subst e1
    go_wp2
    go_meet
    case rel => exact ⟨by simp [capture_records_read.odd], rfl⟩
   ·have b1 : (link == 9) = false := by simpa using e1
    have d1 : decide (link = 9) = false := by simpa using e1
    by_cases e2 : link = 50
    ·subst e2
     go_wp2
     go_meet
     case rel => exact ⟨by simp [capture_records_read.odd], rfl⟩
    ·have b2 : (link == 50) = false := by simpa using e2
     have d2 : decide (link = 50) = false := by simpa using e2
     by_cases e3 : link = 204
     ·subst e3
      go_wp2
      go_meet
      case rel => exact ⟨by simp [capture_records_read.odd], rfl⟩
     ·have b3 : (link == 204) = false := by simpa using e3
      have d3 : decide (link = 204) = false := by simpa using e3
      go_wp2
      go_meet
      case rel => exact ⟨by simp only [capture_records_read.odd, bne, b1, b2, b3]; rfl, rfl⟩
  case rest =>
   obtain ⟨rfl, rfl⟩ := hcut
   by_cases ho : capture_records_read.odd link = true
   ·have h := HH.out; rw [if_pos ho] at h
    simp only [Option.some.injEq, Prod.mk.injEq] at h
    obtain ⟨rfl, rfl, rfl⟩ := h; clear HH; rw [ho]
    go_wp2
    refine bodyPost_ret (a2T rfl _ _ g7 30 #[.int .i64 20, .int .i64 7] (0, 0) _ rfl (l9 (l9 a9h.out 0 _ rfl) 1 _ rfl) b2i rfl (by kernel_rfl)) rfl ?_; exact ⟨_, rfl, Kd.a7k _ _ _ _ _, o8 (o8 c1m.out GE7.out) GE7.out⟩
   ·have h := HH.out; rw [if_neg ho] at h; obtain ⟨o, hgo, h⟩ := Option.bind_eq_some_iff.1 h
    simp only [Option.some.injEq, Prod.mk.injEq] at h
    obtain ⟨rfl, rfl, rfl⟩ := h; clear HH; have HGO : Aside0 (capture_records_read.go k a0y link (l.drop 0) [] = some o) := ⟨by rw [List.drop_zero]; exact hgo⟩; clear hgo b6x b1q b6y b1r; rw [show capture_records_read.odd link = false from by simpa using ho]; have HI0 : Aside0 (RR wc wc (.slice none 0 0) []) := ⟨⟨Kd.a7k _ _ _ _ _, Below.refl _ _⟩⟩; have hml := Kd.b7K (Kd.a4v e7E.out).2.2; clear b75
    go_wp2
    go_loopg [11, 42] l.length (fun kq v11 v42 w' => ∃ (j : Nat) (out : List (S42)), kq + j = l.length ∧ v42 = .int .i64 (j : Int) ∧ Aside0 (RR wc w' v11 out) ∧ Aside0 (capture_records_read.go k a0y link (l.drop j) out = some o))
    case atStart => exact ⟨0, _, rfl, rfl, HI0, HGO⟩
    case round =>
     obtain ⟨j, out, hj, rfl, HI, HGJ⟩ := hrel; clear HI0 HGO
     by_cases hlt : j < l.length
     ·obtain ⟨k1, rfl⟩ : ∃ k1, gk = k1 + 1 := ⟨gk - 1, by omega⟩; have c1_ : decide ((j : Int) < (l.length : Int)) = true := dt_ (by omega); have p1_ : (0 : Int) ≤ (j : Int) := by omega
      have q1_ : (j : Int) < (l.length : Int) := by omega
      obtain ⟨ad, Ax, cx, e0, hx0, hx1, hx2, hx3, hlx, hix⟩ := a7H (Kd.a4v e7E.out).2.2 (j : Int) p1_ q1_; have hgo := HGJ.out; rw [capture_records_read.d7a l j hlt, capture_records_read.go] at hgo; generalize H9 l (j : Int) = x at hx0 hx1 hx2 hx3 hlx hix hgo
      cases e0
      rw [Int.toNat_natCast] at hx0 hx1 hx2 hx3; replace hx0 := (HI.out.bel.cell (World.block_lt_of_cell? wc _ hx0)).trans hx0; replace hx1 := (HI.out.bel.cell (World.block_lt_of_cell? wc _ hx1)).trans hx1; replace hx2 := (HI.out.bel.cell (World.block_lt_of_cell? wc _ hx2)).trans hx2; replace hx3 := (HI.out.bel.cell (World.block_lt_of_cell? wc _ hx3)).trans hx3; have HIX := a_ hix; have HLX := a_ hlx; obtain ⟨o1, ho1, hgo⟩ := Option.bind_eq_some_iff.1 hgo; have HO1 := a_ ho1; have HGN := a_ hgo; clear hlx hix HGJ hgo ho1
      go_upto_region 10 with ((refine be_ 13 #[.int .u32 0, .int .u32 0, .int .u32 0, .slice none 0 0] 51 ?_; intro g13 hg w14 hbox hb; have a5A := a_ hbox; have c1k := a_ hb; have b4C : Aside0 (wr.heap.size ≤ g13) := ⟨by rw [hg]; exact Nat.le_refl _⟩; replace hx0 := J9 ⟨hb⟩ hx0; replace hx1 := J9 ⟨hb⟩ hx1; replace hx2 := J9 ⟨hb⟩ hx2; replace hx3 := J9 ⟨hb⟩ hx3; have b6C := bc0 a5A; have b6D := l7 a5A.out 0; have b6E := bc1 a5A; have b6F := l7 a5A.out 1; have b6G := bc2 a5A; have b6H := l7 a5A.out 2; have e2J := bc3 a5A; have e2K := l7 a5A.out 3; clear hg hbox hb))
      have b6I := a_ (show ((((w14.setCell ⟨g13, 0, none⟩ (.int .u32 x.f0)).setCell ⟨g13, 1, none⟩ (.int .u32 x.f1)).setCell ⟨g13, 2, none⟩ (.int .u32 x.f2)).setCell ⟨g13, 3, none⟩ (.slice Ax x.f3.length cx)).heap[g13]? = some (.cells #[.int .u32 x.f0, .int .u32 x.f1, .int .u32 x.f2, .slice Ax x.f3.length cx] 51 (0, 0)) from by refine l9 (cs := #[.int .u32 x.f0, .int .u32 x.f1, .int .u32 x.f2, .slice none 0 0]) ?_ 3 _ rfl; refine l9 (cs := #[.int .u32 x.f0, .int .u32 x.f1, .int .u32 0, .slice none 0 0]) ?_ 2 _ rfl; refine l9 (cs := #[.int .u32 x.f0, .int .u32 0, .int .u32 0, .slice none 0 0]) ?_ 1 _ rfl; refine l9 (cs := #[.int .u32 0, .int .u32 0, .int .u32 0, .slice none 0 0]) ?_ 0 _ rfl; exact a5A.out); have HBx := a_ (o8 (j := 3) (v := .slice Ax x.f3.length cx) (o8 (j := 2) (v := .int .u32 x.f2) (o8 (j := 1) (v := .int .u32 x.f1) (o8 (j := 0) (v := .int .u32 x.f0) c1k.out b4C.out) b4C.out) b4C.out) b4C.out); generalize (((w14.setCell ⟨g13, 0, none⟩ (.int .u32 x.f0)).setCell ⟨g13, 1, none⟩ (.int .u32 x.f1)).setCell ⟨g13, 2, none⟩ (.int .u32 x.f2)).setCell ⟨g13, 3, none⟩ (.slice Ax x.f3.length cx) = w15 at b6I HBx ⊢; clear a5A c1k hx0 hx1 hx2 hx3 b6C b6D b6E b6F b6G b6H e2J e2K; have a5B := a_ (HI.out.below HBx.out); have d1I := a_ ((a5B.out.bel.block g5 (a0B b0A.out)).trans b0A.out); have e7F := a_ ((a5B.out.bel.block g8 (a0B d7c.out)).trans d7c.out); clear HI; refine a2U (n := 6) (S := fun w' => w'.cell? ⟨g5, 6, none⟩ = some (.int .i64 a0y) ∧ w'.cell? ⟨g13, 3, none⟩ = some (.slice Ax x.f3.length cx)) (ds := []) (bo_ 6 0) (by kernel_rfl) rfl rfl ⟨((D8 (P6 d1I.out) 6).trans rfl), ((D8 (P6 b6I.out) 3).trans rfl)⟩ (fun hHeld => ?_); refine a3l (i := 0) (N := some 46) (bo_ 6 1) rfl rfl (by kernel_rfl) (fun _ _ _ h => h) (.inl ⟨rfl, by intro w'; go_simp; with_reducible rfl⟩) rfl ?_; refine a3l (i := 2) (N := some 48) (bo_ 6 5) rfl rfl (by kernel_rfl) (fun _ _ _ h => h) (.inl ⟨rfl, by intro w'; go_simp; with_reducible rfl⟩) rfl ?_; refine a0Y (i := 1) (N := some 47) (v := ?_) (a' := ?_) (bo_ 6 7) rfl rfl (by kernel_rfl) (fun _ _ _ h => h) (Or.inl ⟨by rfl, ?_⟩) hHeld ?_ ?_
      rotate_left
      ·rintro w' ⟨s0, s1⟩
       go_simp
       with_reducible rfl
      rotate_left
      ·simp only [Act.put, List.setIfInBounds_toArray, List.set_cons_zero, List.set_cons_succ, a0D, a1b]
       rfl
      refine a3l (i := 4) (N := some 14) (bo_ 6 23) rfl rfl (by kernel_rfl) (fun _ _ _ h => h) (.inl ⟨rfl, by intro w'; go_simp; with_reducible rfl⟩) rfl ?_; refine a0Y (i := 3) (N := some 49) (v := ?_) (a' := ?_) (bo_ 6 31) rfl rfl (by kernel_rfl) (fun _ _ _ h => h) (Or.inl ⟨by rfl, ?_⟩) hHeld ?_ ?_
      rotate_left
      ·rintro w' ⟨s0, s1⟩
       go_simp
       with_reducible rfl
      rotate_left
      ·simp only [Act.put, List.setIfInBounds_toArray, List.set_cons_zero, List.set_cons_succ, a0D, a1b]
       rfl
      refine a3l (i := 5) (N := some 15) (bo_ 6 63) rfl rfl (by kernel_rfl) (fun _ _ _ h => h) (.inl ⟨rfl, by intro w'; go_simp; with_reducible rfl⟩) rfl ?_; refine a4J (by kernel_rfl) ?_

      have a6U := a_ (a5B.out.below (a1K (Below.refl _ _))); have c1o := a_ (Kd.E8 HIX.out (Z8 a5B.out.bel)); have b75 : w15.drew.cell? ⟨g8, 3, none⟩ = some (.int .u32 link) := (D8 (P6 e7F.out) 3).trans rfl; generalize w15.drew = w16 at a6U c1o b75 ⊢; clear a5B d1I e7F b6I HBx
      by_cases hk : link = 204 ∧ 0 < x.f3.length
      ·obtain ⟨rfl, hp⟩ := hk; have ho1 := HO1.out; rw [capture_records_read.of, if_pos ⟨rfl, hp⟩] at ho1; have g1 : decide ((x.f3.length : Int) > 0) = true := dt_ (by omega); have g2 : decide (0 < (x.f3.length : Int)) = true := dt_ (by omega); have p2_ : (0 : Int) ≤ 0 := by omega
       have q2_ : (0 : Int) < (x.f3.length : Int) := by omega
       obtain ⟨adx, ex, hb0⟩ := Kd.a0x c1o.out 0 p2_ q2_
       cases ex
       rw [show (0 : Int).toNat = 0 from rfl, Addr.add_zero'] at hb0; have qi_ : (0 < x.f3.length) = True := eq_true hp; have q88 : (1 : Int) ≤ (x.f3.length : Int) := by omega
       obtain ⟨i0, hi0, _, hsz, _⟩ := info_parts info5; have e7G := b1V (P := Tryd.prog) 22 5 .i64 Tryd.underlying22 hi0 1 hsz (some adx) x.f3.length cx 1 (by omega) q88; have hd1 := Kd.d0p (m := (1 : Int).toNat) (c := cx) c1o.out (by omega) HLX.out; obtain ⟨A88, e2L⟩ : ∃ A_, A_ = (if cx = (1 : Int).toNat then (some adx) else ((some adx) : Option Addr).map (·.add ((1 : Int).toNat * 1))) := ⟨_, rfl⟩; obtain ⟨c88, e2M⟩ : ∃ c_, c_ = cx - (1 : Int).toNat := ⟨_, rfl⟩; obtain ⟨y, hy⟩ : ∃ y_, y_ = x.f3.drop 1 := ⟨_, rfl⟩; have hyl : y.length = x.f3.length - (1 : Int).toNat := by rw [hy, List.length_drop]; rfl
       rw [show x.f3.drop (1 : Int).toNat = y from hy.symm] at hd1; replace hd1 : Kd.C (Kd.int .u8) w16 A88 y.length y := by rw [e2L]; exact hd1
       rw [← hyl, ← e2L, ← e2M] at e7G; have HD1 := a_ hd1; have HDC := a_ (show y.length ≤ c88 from by rw [hyl, e2M]; exact Nat.sub_le_sub_right HLX.out _); rw [← hy] at ho1; clear hd1 hi0 hsz e2M e2L hyl hy HO1; replace p2_ := eq_true p2_; replace q2_ := eq_true q2_; replace q88 := eq_true q88
       by_cases hb : rd x.f3 0 = 0
       ·rw [if_pos hb] at ho1; rw [hb] at hb0; have HO1 := a_ ho1; clear ho1
        go_wp2_with (go_at_call 43; refine (a1S.calls k wc.heap.size (fun _ => True) _ out 1 A88 c88 y o1 _ a6U.out.row (fun _ _ => trivial) a6U.out.bel.size HD1.out HDC.out HO1.out).mono ?_; rintro e w17 ⟨v', rfl, ⟨hl⟩, ⟨hb_⟩⟩; have a9J := a_ (a6U.out.item hl hb_); clear hl hb_)
        go_roundg k1
        case measure => omega
        case rel => exact ⟨j + 1, o1, by omega, by go_num, a9J, HGN⟩
       ·rw [if_neg hb] at ho1; have bb : (rd x.f3 0 == 0) = false := by simpa using hb
        have bd : decide (rd x.f3 0 = 0) = false := by simpa using hb
        have HO1 := a_ ho1; clear ho1
        go_wp2_with (go_at_call 43; refine (a1S.calls k wc.heap.size (fun _ => True) _ out 2 A88 c88 y o1 _ a6U.out.row (fun _ _ => trivial) a6U.out.bel.size HD1.out HDC.out HO1.out).mono ?_; rintro e w17 ⟨v', rfl, ⟨hl⟩, ⟨hb_⟩⟩; have a9J := a_ (a6U.out.item hl hb_); clear hl hb_)
        go_roundg k1
        case measure => omega
        case rel => exact ⟨j + 1, o1, by omega, by go_num, a9J, HGN⟩
      ·have ho1 := HO1.out; rw [capture_records_read.of, if_neg hk] at ho1; clear HO1; have HO1 := a_ ho1; clear ho1
       by_cases hl4 : link = 204
       ·subst hl4; have hz : x.f3.length = 0 := by omega
        have g1 : decide ((x.f3.length : Int) > 0) = false := df_ (by omega); have g2 : decide (0 < (x.f3.length : Int)) = false := df_ (by omega); clear hz
        go_wp2_with (go_at_call 43; refine (a1S.calls k wc.heap.size (fun _ => True) _ out a0y Ax cx x.f3 o1 _ a6U.out.row (fun _ _ => trivial) a6U.out.bel.size c1o.out HLX.out HO1.out).mono ?_; rintro e w17 ⟨v', rfl, ⟨hl⟩, ⟨hb_⟩⟩; have a9J := a_ (a6U.out.item hl hb_); clear hl hb_)
        go_roundg k1
        case measure => omega
        case rel => exact ⟨j + 1, o1, by omega, by go_num, a9J, HGN⟩
       ·have b3 : (link == 204) = false := by simpa using hl4
        have d3 : decide (link = 204) = false := by simpa using hl4
        go_wp2_with (go_at_call 43; refine (a1S.calls k wc.heap.size (fun _ => True) _ out a0y Ax cx x.f3 o1 _ a6U.out.row (fun _ _ => trivial) a6U.out.bel.size c1o.out HLX.out HO1.out).mono ?_; rintro e w17 ⟨v', rfl, ⟨hl⟩, ⟨hb_⟩⟩; have a9J := a_ (a6U.out.item hl hb_); clear hl hb_)
        go_roundg k1
        case measure => omega
        case rel => exact ⟨j + 1, o1, by omega, by go_num, a9J, HGN⟩
     ·have c1_ : decide ((j : Int) < (l.length : Int)) = false := df_ (by omega); have hgo := HGJ.out; rw [List.drop_of_length_le (by omega), capture_records_read.go] at hgo; obtain rfl := oj_ hgo; have b1s := a_ ((HI.out.bel.block g7 (a0B a9h.out)).trans a9h.out); have b6x := bc0 b1s; have b1q := l7 b1s.out 0; have b6y := bc1 b1s; have b1r := l7 b1s.out 1; have HBW := a_ (L8 c1m.out HI.out.bel)
      go_wp2
      refine bodyPost_ret (a2T rfl _ _ g7 30 #[.int .i64 0, .int .i64 0] (0, 0) _ rfl (l9 (l9 b1s.out 0 _ rfl) 1 _ rfl) b2i rfl (by kernel_rfl)) rfl ?_; exact ⟨_, rfl, Kd.Y3 (ok' := fun _ => True) (Kd.b4P (Kd.b4h (Kd.b4h HI.out.row b1s.out (by decide) 0 _) (a3F b1s.out 0 _) (by decide) 1 _) c1m.out.size) (fun _ _ => trivial), o8 (o8 HBW.out GE7.out) GE7.out⟩

end Go.Proofs.YtgnonglkibhnhaaDoor.Print
