import Derived.Test.YtgnonglkibhnhaaDoorZ
import Derived.Test.YtgnonglkibhnhaaDoorF42
import Derived.Test.YtgnonglkibhnhaaDoorM3
namespace Go.Proofs.YtgnonglkibhnhaaDoor.Print
open Go.RowKit Go.Proofs.YtgnonglkibhnhaaDoorW.PrintWords Go.Proofs.YtgnonglkibhnhaaDoorW.PrintLast Go.Proofs.YtgnonglkibhnhaaDoorW.PrintMore
attribute [local go_sem] max2_int min2_int max_two min_two max_three min_three max_four min_four
set_option linter.unusedVariables false
set_option linter.unusedSimpArgs false

/-! ### capture_records_read: function 23 -/
theorem capture_eq30 (d : Nat) (w : World) (x0 y0 : Int) (x1 y1 : Int) :
  (Op.equalIn (d + 2) 30 (.agg #[.int .i64 x0, .int .i64 x1]) (.agg #[.int .i64 y0, .int .i64 y1])).run Tryd.prog w = .ok (x0 == y0 && (x1 == y1)) w := by
 refine eqA_of Tryd.underlying30 (by kernel_rfl) ?_
 refine eqf_cons (by rfl) (by go_simp; rfl) (by go_simp; rfl) (by go_simp) ?_
 exact eqf_last (by rfl) (by go_simp; rfl) (by go_simp; rfl) (by go_simp)
attribute [local go_sem high] capture_eq30
def capture_records_read.odd (link : Int) : Bool := !(link == 9) && (!(link == 50) && !(link == 204))
def capture_records_read.of (dir link : Int) (d : List Int) : Int × List Int := if link = 204 ∧ 0 < d.length then (if rd d 0 = 0 then 1 else 2, d.drop 1) else (dir, d)
def capture_records_read.go (k : Nat) (dir link : Int) : List (S51) → List (S42) → Option (List (S42))
 | [], out => some out
 | x :: m, out => (capture_item.f k out (capture_records_read.of dir link x.f3).1 (capture_records_read.of dir link x.f3).2).bind fun o => capture_records_read.go k dir link m o
def capture_records_read.f (k : Nat) (l1 : List Int) (dir : Int) : Option (List (S42) × Int × Int) := (pcap_Read.f k l1).bind fun t => if (!(t.2.2.2.2.2.1 == 0) || (!(t.2.2.2.2.2.2 == 0))) = true then some ([], t.2.2.2.2.2.1, t.2.2.2.2.2.2) else if capture_records_read.odd t.2.2.2.1 = true then some ([], 20, 7) else (capture_records_read.go k dir t.2.2.2.1 t.2.2.2.2.1 []).bind fun o => some (o, 0, 0)
theorem capture_records_read.recs_at (l : List (S51)) (j : Nat) (h : j < l.length) : l.drop j = rd_T51 l (j : Int) :: l.drop (j + 1) := by
 rw [List.drop_eq_getElem_cons h]
 unfold rd_T51
 rw [Int.toNat_natCast, List.getD_eq_getElem?_getD, List.getElem?_eq_getElem h]
 rfl
structure RR (w1 W : World) (v : Value) (out : List (S42)) : Prop where
 row : Kd.S k42 42 W w1.heap.size (fun _ => True) v out
 bel : Below w1.heap.size w1 W
theorem RR.below {w1 W W' : World} {v : Value} {out : List (S42)} (h : RR w1 W v out) (hb : Below W.heap.size W W') : RR w1 W' v out := ⟨Kd.S_below h.row hb, below_step h.bel hb⟩
theorem RR.item {w1 W W' : World} {v v' : Value} {out out' : List (S42)} (h : RR w1 W v out) (hl : Longer W W' w1.heap.size (fun _ => True) v v' out') (hb : Below w1.heap.size W W') : RR w1 W' v' out' := ⟨hl.row, h.bel.trans hb⟩
set_option maxHeartbeats 16000000 in
set_option maxRecDepth 100000 in
theorem capture_records_read.calls (k : Nat) (A1 : Option Addr) (c1 : Nat) (l1 : List Int) (a2_0 : Int) (a2_1 : Int) (a2_2 : Int) (a2_3 : Int) (a2_4 : ByteArray) (a2_5 : ByteArray) (a2_6 : Int) (a2_7 : Int) (a2_8 : Bool) (r1 : List (S42)) (r2 r3 : Int) (w : World) (hr1 : Kd.C (Kd.int .u8) w A1 l1.length l1) (hc1 : l1.length ≤ c1) (h : capture_records_read.f k l1 a2_6 = some (r1, r2, r3)) :
  Calls Tryd.prog 23 #[.agg #[], .slice A1 l1.length c1, .agg #[.int .i64 a2_0, .int .i64 a2_1, .int .i64 a2_2, .int .i64 a2_3, .string a2_4, .string a2_5, .int .i64 a2_6, .int .u32 a2_7, .bool a2_8]] w fun e w' => ∃ v0_ : Value, e = .returned (.tuple #[v0_, .agg #[.int .i64 r2, .int .i64 r3]]) ∧ Kd.S k42 42 w' w.heap.size (fun _ => True) v0_ r1 ∧ Below w.heap.size w w' := by
 have hu30 := Tryd.underlying30
 have hu25 := Tryd.underlying25
 have hu65 := Tryd.underlying65
 have hu46 := Tryd.underlying46
 have hu51 := Tryd.underlying51
 obtain ⟨⟨m1, m2, m3, link, l, f1, f2⟩, ht, h⟩ := Option.bind_eq_some_iff.1 h
 replace h : (if (!(f1 == 0) || (!(f2 == 0))) = true then some (([] : List (S42)), f1, f2) else if capture_records_read.odd link = true then some (([] : List (S42)), 20, 7) else (capture_records_read.go k a2_6 link l []).bind fun o => some (o, 0, 0)) = some (r1, r2, r3) := h
 have HT := a_ ht
 have HR1 := a_ hr1
 have HC1 := a_ hc1
 have HB := a_ (Below.refl w.heap.size w)
 have HH := a_ h
 clear hr1 hc1 ht h
 go_enter Tryd.func23, Tryd.ntmps23
 go_upto_region 2 with (first | (refine be_ 3 #[] 65 ?_; intro g3 hg w3 hbox hb; have HB3 := bs_ HB hb; clear hg hbox hb) | (refine be_ 5 #[.int .i64 a2_0, .int .i64 a2_1, .int .i64 a2_2, .int .i64 a2_3, .string a2_4, .string a2_5, .int .i64 a2_6, .int .u32 a2_7, .bool a2_8] 25 ?_; intro g5 hg w5 hbox hb; have HB5 := bs_ HB3 hb; have BK5 := a_ hbox; clear hg hbox hb) | (refine be_ 7 #[.int .i64 0, .int .i64 0] 30 ?_; intro g7 hg w7 hbox hb; have HB7 := bs_ HB5 hb; have BK5b := bb_ BK5 hb; have BK7 := a_ hbox; have GE7 : Aside0 (w.heap.size ≤ g7) := ⟨by rw [hg]; exact HB5.out.size⟩; clear hg hbox hb) | (go_at_call 42; refine (pcap_Read.calls k A1 c1 l1 m1 m2 m3 link l f1 f2 _ (Kd.C_below HR1.out HB7.out) HC1.out HT.out).mono ?_; rintro e w8 ⟨vl, rfl, hl, hb⟩; have HB8 := bs_ HB7 hb; have BK5c := bb_ BK5b hb; have BK7b := bb_ BK7 hb; have HL := a_ hl; obtain ⟨Al, cl, el⟩ := Kd.S_slice HL.out; subst el; clear hl hb) | (refine be_ 8 #[.bool false, .bool false, .int .u32 0, .int .u32 0] 46 ?_; intro g8 hg w9 hbox hb; have BK8 := a_ hbox; have HB9 := a_ hb; have GE8 : Aside0 (w8.heap.size ≤ g8) := ⟨by rw [hg]; exact Nat.le_refl _⟩; have LT8 := a_ (blk_lt hbox); clear hg hbox hb) | (refine be_ 10 #[.int .i64 0, .int .i64 0] 30 ?_; intro g10 hg w10 hbox hb; have BK8b := bb_ BK8 hb; have BK10 := a_ hbox; have HB10 := bs_ HB9 hb; have GE10 : Aside0 (w8.heap.size ≤ g10) := ⟨by rw [hg]; exact HB9.out.size⟩; have ne1 : g8 ≠ g10 := (by have := LT8.out; omega); have ne2 : g10 ≠ g8 := fun e_ => ne1 e_.symm; have hc8_0 := bc0 BK8b; have hf8_0 := blk_frozen BK8b.out 0; have hc8_1 := bc1 BK8b; have hf8_1 := blk_frozen BK8b.out 1; have hc8_2 := bc2 BK8b; have hf8_2 := blk_frozen BK8b.out 2; have hc8_3 := bc3 BK8b; have hf8_3 := blk_frozen BK8b.out 3; have hc10_0 := bc0 BK10; have hf10_0 := blk_frozen BK10.out 0; have hc10_1 := bc1 BK10; have hf10_1 := blk_frozen BK10.out 1; clear hg hbox hb))
 have BK8c := a_ (show ((((((w10.setCell ⟨g8, 0, none⟩ (.bool m1)).setCell ⟨g8, 1, none⟩ (.bool m2)).setCell ⟨g8, 2, none⟩ (.int .u32 m3)).setCell ⟨g8, 3, none⟩ (.int .u32 link)).setCell ⟨g10, 0, none⟩ (.int .i64 f1)).setCell ⟨g10, 1, none⟩ (.int .i64 f2)).heap[g8]? = some (.cells #[.bool m1, .bool m2, .int .u32 m3, .int .u32 link] 46 (0, 0)) from by refine (Below.heap_setCell _ ⟨g10, 1, none⟩ _ g8 ne1).trans ((Below.heap_setCell _ ⟨g10, 0, none⟩ _ g8 ne1).trans ?_); refine blk_put (cs := #[.bool m1, .bool m2, .int .u32 m3, .int .u32 0]) ?_ 3 _ rfl; refine blk_put (cs := #[.bool m1, .bool m2, .int .u32 0, .int .u32 0]) ?_ 2 _ rfl; refine blk_put (cs := #[.bool m1, .bool false, .int .u32 0, .int .u32 0]) ?_ 1 _ rfl; refine blk_put (cs := #[.bool false, .bool false, .int .u32 0, .int .u32 0]) ?_ 0 _ rfl; exact BK8b.out)
 have BK10c := a_ (show ((((((w10.setCell ⟨g8, 0, none⟩ (.bool m1)).setCell ⟨g8, 1, none⟩ (.bool m2)).setCell ⟨g8, 2, none⟩ (.int .u32 m3)).setCell ⟨g8, 3, none⟩ (.int .u32 link)).setCell ⟨g10, 0, none⟩ (.int .i64 f1)).setCell ⟨g10, 1, none⟩ (.int .i64 f2)).heap[g10]? = some (.cells #[.int .i64 f1, .int .i64 f2] 30 (0, 0)) from by refine blk_put (cs := #[.int .i64 f1, .int .i64 0]) ?_ 1 _ rfl; refine blk_put (cs := #[.int .i64 0, .int .i64 0]) ?_ 0 _ rfl; exact (Below.heap_setCell _ ⟨g8, 3, none⟩ _ g10 ne2).trans ((Below.heap_setCell _ ⟨g8, 2, none⟩ _ g10 ne2).trans ((Below.heap_setCell _ ⟨g8, 1, none⟩ _ g10 ne2).trans ((Below.heap_setCell _ ⟨g8, 0, none⟩ _ g10 ne2).trans (BK10.out)))))
 have HBr := a_ (below_set (j := 1) (v := .int .i64 f2) (below_set (j := 0) (v := .int .i64 f1) (below_set (j := 3) (v := .int .u32 link) (below_set (j := 2) (v := .int .u32 m3) (below_set (j := 1) (v := .bool m2) (below_set (j := 0) (v := .bool m1) HB10.out GE8.out) GE8.out) GE8.out) GE8.out) GE10.out) GE10.out)
 generalize (((((w10.setCell ⟨g8, 0, none⟩ (.bool m1)).setCell ⟨g8, 1, none⟩ (.bool m2)).setCell ⟨g8, 2, none⟩ (.int .u32 m3)).setCell ⟨g8, 3, none⟩ (.int .u32 link)).setCell ⟨g10, 0, none⟩ (.int .i64 f1)).setCell ⟨g10, 1, none⟩ (.int .i64 f2) = w11 at BK8c BK10c HBr ⊢
 clear BK8 BK8b BK10 HB9 HB10 hc8_0 hf8_0 hc8_1 hf8_1 hc8_2 hf8_2 hc8_3 hf8_3 hc10_0 hf10_0 hc10_1 hf10_1 HB HB3 HB5 HB7 BK5 BK5b BK7
 have BK5d := a_ (blk_below BK5c.out HBr.out)
 have BK7d := a_ (blk_below BK7b.out HBr.out)
 have HL11 := a_ (Kd.S_below HL.out HBr.out)
 have HB11 := a_ (below_step HB8.out HBr.out)
 clear HL BK5c BK7b HB8 HBr GE8 GE10 LT8 ne1 ne2
 obtain ⟨hc10_0, hc10_1⟩ := blc2 BK10c.out
 have hc8_3 := bc3 BK8c
 have hs7_0 := bc0 BK7d
 have hfs7_0 := blk_frozen BK7d.out 0
 have hs7_1 := bc1 BK7d
 have hfs7_1 := blk_frozen BK7d.out 1
 by_cases hf : (!(f1 == 0) || (!(f2 == 0))) = true
 ·have h := HH.out
  rw [if_pos hf] at h
  simp only [Option.some.injEq, Prod.mk.injEq] at h
  obtain ⟨rfl, rfl, rfl⟩ := h
  clear HH
  go_wp2
  refine start_ (n := 3) (S := fun w' => w'.cell? ⟨g10, 0, none⟩ = some (.int .i64 f1) ∧ w'.cell? ⟨g10, 1, none⟩ = some (.int .i64 f2)) (ds := [2]) #[false, false, false] (by kernel_rfl) rfl rfl ⟨((blk_cell (blk_drew BK10c.out) 0).trans rfl), ((blk_cell (blk_drew BK10c.out) 1).trans rfl)⟩ (fun hHeld => ?_)
  refine pure_ (i := 1) (N := some 6) #[false, true, false] rfl rfl (by kernel_rfl) (fun _ _ _ h => h) (.inl ⟨rfl, by intro w'; go_simp; with_reducible rfl⟩) rfl ?_
  refine take_ (i := 0) (N := some 25) (v := ?_) (a' := ?_) #[true, true, false] rfl rfl (by kernel_rfl) (fun _ _ _ h => h) (Or.inl ⟨by rfl, ?_⟩) hHeld ?_ ?_
  rotate_left
  ·rintro w' ⟨s0, s1⟩
   go_simp
   with_reducible rfl
  rotate_left
  ·go_simp
   rfl
  refine last_ (i := 2) (N := none) #[true, true, true] rfl rfl (by kernel_rfl) (by decide) (fun K hK => ?_)
  refine skip_ (w1 := ?_) (by rfl) rfl ?_ ?_
  rotate_left
  ·go_simp
   rfl
  refine hK.out _ _ ?_
  clear hK K
  refine done_ (by kernel_rfl) ?_

  try go_wp2
  refine bodyPost_ret (results_tc rfl _ _ g7 30 #[.int .i64 f1, .int .i64 f2] (0, 0) _ rfl (by refine blk_put (cs := #[.int .i64 f1, .int .i64 0]) ?_ 1 _ rfl; refine blk_put (cs := #[.int .i64 0, .int .i64 0]) ?_ 0 _ rfl; exact blk_drew BK7d.out) hu30 rfl (by kernel_rfl)) rfl ?_
  exact ⟨_, rfl, Kd.S_nil _ _ _ _ _, below_set (below_set (below_drew1 HB11.out) GE7.out) GE7.out⟩
 ·have h := HH.out
  rw [if_neg hf] at h
  have hf2 : (!(f1 == 0) || (!(f2 == 0))) = false := by simpa using hf
  have HH := a_ h
  clear h hf
  go_upto_region 4 with (fail)
  clear hf2 hc10_0 hc10_1
  go_cut [38] (fun v38 wc => v38 = .bool (capture_records_read.odd link) ∧ wc = w11)
  case first =>
   by_cases e1 : link = 9
   ·subst e1
    go_wp2
    go_meet
    case rel => exact ⟨by simp [capture_records_read.odd], rfl⟩
   ·have b1 : (link == 9) = false := by simpa using e1
    have d1 : decide (link = 9) = false := by simpa using e1
    by_cases e2 : link = 50
    ·subst e2
     go_wp2
     go_meet
     case rel => exact ⟨by simp [capture_records_read.odd], rfl⟩
    ·have b2 : (link == 50) = false := by simpa using e2
     have d2 : decide (link = 50) = false := by simpa using e2
     by_cases e3 : link = 204
     ·subst e3
      go_wp2
      go_meet
      case rel => exact ⟨by simp [capture_records_read.odd], rfl⟩
     ·have b3 : (link == 204) = false := by simpa using e3
      have d3 : decide (link = 204) = false := by simpa using e3
      go_wp2
      go_meet
      case rel => exact ⟨by simp only [capture_records_read.odd, bne, b1, b2, b3]; rfl, rfl⟩
  case rest =>
   obtain ⟨rfl, rfl⟩ := hcut
   by_cases ho : capture_records_read.odd link = true
   ·have h := HH.out
    rw [if_pos ho] at h
    simp only [Option.some.injEq, Prod.mk.injEq] at h
    obtain ⟨rfl, rfl, rfl⟩ := h
    clear HH
    rw [ho]
    go_wp2
    refine bodyPost_ret (results_tc rfl _ _ g7 30 #[.int .i64 20, .int .i64 7] (0, 0) _ rfl (by refine blk_put (cs := #[.int .i64 20, .int .i64 0]) ?_ 1 _ rfl; refine blk_put (cs := #[.int .i64 0, .int .i64 0]) ?_ 0 _ rfl; exact BK7d.out) hu30 rfl (by kernel_rfl)) rfl ?_
    exact ⟨_, rfl, Kd.S_nil _ _ _ _ _, below_set (below_set HB11.out GE7.out) GE7.out⟩
   ·have h := HH.out
    rw [if_neg ho] at h
    obtain ⟨o, hgo, h⟩ := Option.bind_eq_some_iff.1 h
    simp only [Option.some.injEq, Prod.mk.injEq] at h
    obtain ⟨rfl, rfl, rfl⟩ := h
    clear HH
    have HGO : Aside0 (capture_records_read.go k a2_6 link (l.drop 0) [] = some o) := ⟨by rw [List.drop_zero]; exact hgo⟩
    clear hgo hs7_0 hfs7_0 hs7_1 hfs7_1
    rw [show capture_records_read.odd link = false from by simpa using ho]
    have HI0 : Aside0 (RR wc wc (.slice none 0 0) []) := ⟨⟨Kd.S_nil _ _ _ _ _, Below.refl _ _⟩⟩
    have hml := Kd.C_max (Kd.S_reads' HL11.out).2.2
    clear hc8_3
    go_wp2
    go_loopg [11, 42] l.length (fun kq v11 v42 w' => ∃ (j : Nat) (out : List (S42)), kq + j = l.length ∧ v42 = .int .i64 (j : Int) ∧ Aside0 (RR wc w' v11 out) ∧ Aside0 (capture_records_read.go k a2_6 link (l.drop j) out = some o))
    case atStart => exact ⟨0, _, rfl, rfl, HI0, HGO⟩
    case round =>
     obtain ⟨j, out, hj, rfl, HI, HGJ⟩ := hrel
     clear HI0 HGO
     by_cases hlt : j < l.length
     ·obtain ⟨k1, rfl⟩ : ∃ k1, gk = k1 + 1 := ⟨gk - 1, by omega⟩
      have c1_ : decide ((j : Int) < (l.length : Int)) = true := decide_eq_true (by omega)
      have p1_ : (0 : Int) ≤ (j : Int) := by omega
      have q1_ : (j : Int) < (l.length : Int) := by omega
      obtain ⟨ad, Ax, cx, e0, hx0, hx1, hx2, hx3, hlx, hix⟩ := at_T51 (Kd.S_reads' HL11.out).2.2 (j : Int) p1_ q1_
      have hgo := HGJ.out
      rw [capture_records_read.recs_at l j hlt, capture_records_read.go] at hgo
      generalize rd_T51 l (j : Int) = x at hx0 hx1 hx2 hx3 hlx hix hgo
      cases e0
      rw [Int.toNat_natCast] at hx0 hx1 hx2 hx3
      replace hx0 := (HI.out.bel.cell (World.block_lt_of_cell? wc _ hx0)).trans hx0
      replace hx1 := (HI.out.bel.cell (World.block_lt_of_cell? wc _ hx1)).trans hx1
      replace hx2 := (HI.out.bel.cell (World.block_lt_of_cell? wc _ hx2)).trans hx2
      replace hx3 := (HI.out.bel.cell (World.block_lt_of_cell? wc _ hx3)).trans hx3
      have HIX := a_ hix
      have HLX := a_ hlx
      obtain ⟨o1, ho1, hgo⟩ := Option.bind_eq_some_iff.1 hgo
      have HO1 := a_ ho1
      have HGN := a_ hgo
      clear hlx hix HGJ hgo ho1
      go_upto_region 10 with ((refine be_ 13 #[.int .u32 0, .int .u32 0, .int .u32 0, .slice none 0 0] 51 ?_; intro g13 hg w14 hbox hb; have BK14 := a_ hbox; have HB14 := a_ hb; have GE14 : Aside0 (wr.heap.size ≤ g13) := ⟨by rw [hg]; exact Nat.le_refl _⟩; replace hx0 := cb_ ⟨hb⟩ hx0; replace hx1 := cb_ ⟨hb⟩ hx1; replace hx2 := cb_ ⟨hb⟩ hx2; replace hx3 := cb_ ⟨hb⟩ hx3; have hc14_0 := bc0 BK14; have hf14_0 := blk_frozen BK14.out 0; have hc14_1 := bc1 BK14; have hf14_1 := blk_frozen BK14.out 1; have hc14_2 := bc2 BK14; have hf14_2 := blk_frozen BK14.out 2; have hc14_3 := bc3 BK14; have hf14_3 := blk_frozen BK14.out 3; clear hg hbox hb))
      have BK15 := a_ (show ((((w14.setCell ⟨g13, 0, none⟩ (.int .u32 x.f0)).setCell ⟨g13, 1, none⟩ (.int .u32 x.f1)).setCell ⟨g13, 2, none⟩ (.int .u32 x.f2)).setCell ⟨g13, 3, none⟩ (.slice Ax x.f3.length cx)).heap[g13]? = some (.cells #[.int .u32 x.f0, .int .u32 x.f1, .int .u32 x.f2, .slice Ax x.f3.length cx] 51 (0, 0)) from by refine blk_put (cs := #[.int .u32 x.f0, .int .u32 x.f1, .int .u32 x.f2, .slice none 0 0]) ?_ 3 _ rfl; refine blk_put (cs := #[.int .u32 x.f0, .int .u32 x.f1, .int .u32 0, .slice none 0 0]) ?_ 2 _ rfl; refine blk_put (cs := #[.int .u32 x.f0, .int .u32 0, .int .u32 0, .slice none 0 0]) ?_ 1 _ rfl; refine blk_put (cs := #[.int .u32 0, .int .u32 0, .int .u32 0, .slice none 0 0]) ?_ 0 _ rfl; exact BK14.out)
      have HBx := a_ (below_set (j := 3) (v := .slice Ax x.f3.length cx) (below_set (j := 2) (v := .int .u32 x.f2) (below_set (j := 1) (v := .int .u32 x.f1) (below_set (j := 0) (v := .int .u32 x.f0) HB14.out GE14.out) GE14.out) GE14.out) GE14.out)
      generalize (((w14.setCell ⟨g13, 0, none⟩ (.int .u32 x.f0)).setCell ⟨g13, 1, none⟩ (.int .u32 x.f1)).setCell ⟨g13, 2, none⟩ (.int .u32 x.f2)).setCell ⟨g13, 3, none⟩ (.slice Ax x.f3.length cx) = w15 at BK15 HBx ⊢
      clear BK14 HB14 hx0 hx1 hx2 hx3 hc14_0 hf14_0 hc14_1 hf14_1 hc14_2 hf14_2 hc14_3 hf14_3
      have HI15 := a_ (HI.out.below HBx.out)
      have BK5w := a_ ((HI15.out.bel.block g5 (blk_lt BK5d.out)).trans BK5d.out)
      have BK8w := a_ ((HI15.out.bel.block g8 (blk_lt BK8c.out)).trans BK8c.out)
      clear HI
      refine start_ (n := 6) (S := fun w' => w'.cell? ⟨g5, 6, none⟩ = some (.int .i64 a2_6) ∧ w'.cell? ⟨g13, 3, none⟩ = some (.slice Ax x.f3.length cx)) (ds := []) (bo_ 6 0) (by kernel_rfl) rfl rfl ⟨((blk_cell (blk_drew BK5w.out) 6).trans rfl), ((blk_cell (blk_drew BK15.out) 3).trans rfl)⟩ (fun hHeld => ?_)
      refine pure_ (i := 0) (N := some 46) (bo_ 6 1) rfl rfl (by kernel_rfl) (fun _ _ _ h => h) (.inl ⟨rfl, by intro w'; go_simp; with_reducible rfl⟩) rfl ?_
      refine pure_ (i := 2) (N := some 48) (bo_ 6 5) rfl rfl (by kernel_rfl) (fun _ _ _ h => h) (.inl ⟨rfl, by intro w'; go_simp; with_reducible rfl⟩) rfl ?_
      refine take_ (i := 1) (N := some 47) (v := ?_) (a' := ?_) (bo_ 6 7) rfl rfl (by kernel_rfl) (fun _ _ _ h => h) (Or.inl ⟨by rfl, ?_⟩) hHeld ?_ ?_
      rotate_left
      ·rintro w' ⟨s0, s1⟩
       go_simp
       with_reducible rfl
      rotate_left
      ·go_simp
       rfl
      refine pure_ (i := 4) (N := some 14) (bo_ 6 23) rfl rfl (by kernel_rfl) (fun _ _ _ h => h) (.inl ⟨rfl, by intro w'; go_simp; with_reducible rfl⟩) rfl ?_
      refine take_ (i := 3) (N := some 49) (v := ?_) (a' := ?_) (bo_ 6 31) rfl rfl (by kernel_rfl) (fun _ _ _ h => h) (Or.inl ⟨by rfl, ?_⟩) hHeld ?_ ?_
      rotate_left
      ·rintro w' ⟨s0, s1⟩
       go_simp
       with_reducible rfl
      rotate_left
      ·go_simp
       rfl
      refine pure_ (i := 5) (N := some 15) (bo_ 6 63) rfl rfl (by kernel_rfl) (fun _ _ _ h => h) (.inl ⟨rfl, by intro w'; go_simp; with_reducible rfl⟩) rfl ?_
      refine done_ (by kernel_rfl) ?_

      have HI16 := a_ (HI15.out.below (below_drew (Below.refl _ _)))
      have HIX16 := a_ (Kd.C_below HIX.out (below_drew1 HI15.out.bel))
      have hc8_3 : w15.drew.cell? ⟨g8, 3, none⟩ = some (.int .u32 link) := (blk_cell (blk_drew BK8w.out) 3).trans rfl
      generalize w15.drew = w16 at HI16 HIX16 hc8_3 ⊢
      clear HI15 BK5w BK8w BK15 HBx
      by_cases hk : link = 204 ∧ 0 < x.f3.length
      ·obtain ⟨rfl, hp⟩ := hk
       have ho1 := HO1.out
       rw [capture_records_read.of, if_pos ⟨rfl, hp⟩] at ho1
       have g1 : decide ((x.f3.length : Int) > 0) = true := decide_eq_true (by omega)
       have g2 : decide (0 < (x.f3.length : Int)) = true := decide_eq_true (by omega)
       have p2_ : (0 : Int) ≤ 0 := by omega
       have q2_ : (0 : Int) < (x.f3.length : Int) := by omega
       obtain ⟨adx, ex, hb0⟩ := Kd.at_int HIX16.out 0 p2_ q2_
       cases ex
       rw [show (0 : Int).toNat = 0 from rfl, Addr.add_zero'] at hb0
       have qi_ : (0 < x.f3.length) = True := eq_true hp
       have q88 : (1 : Int) ≤ (x.f3.length : Int) := by omega
       obtain ⟨i0, hi0, _, hsz, _⟩ := info_parts info5
       have hcut1 := cut_from (P := Tryd.prog) 22 5 .i64 Tryd.underlying22 hi0 1 hsz (some adx) x.f3.length cx 1 (by omega) q88
       have hd1 := Kd.C_drop (m := (1 : Int).toNat) (c := cx) HIX16.out (by omega) HLX.out
       obtain ⟨A88, hA88⟩ : ∃ A_, A_ = (if cx = (1 : Int).toNat then (some adx) else ((some adx) : Option Addr).map (·.add ((1 : Int).toNat * 1))) := ⟨_, rfl⟩
       obtain ⟨c88, hc88⟩ : ∃ c_, c_ = cx - (1 : Int).toNat := ⟨_, rfl⟩
       obtain ⟨y, hy⟩ : ∃ y_, y_ = x.f3.drop 1 := ⟨_, rfl⟩
       have hyl : y.length = x.f3.length - (1 : Int).toNat := by rw [hy, List.length_drop]; rfl
       rw [show x.f3.drop (1 : Int).toNat = y from hy.symm] at hd1
       replace hd1 : Kd.C (Kd.int .u8) w16 A88 y.length y := by rw [hA88]; exact hd1
       rw [← hyl, ← hA88, ← hc88] at hcut1
       have HD1 := a_ hd1
       have HDC := a_ (show y.length ≤ c88 from by rw [hyl, hc88]; exact Nat.sub_le_sub_right HLX.out _)
       rw [← hy] at ho1
       clear hd1 hi0 hsz hc88 hA88 hyl hy HO1
       replace p2_ := eq_true p2_
       replace q2_ := eq_true q2_
       replace q88 := eq_true q88
       by_cases hb : rd x.f3 0 = 0
       ·rw [if_pos hb] at ho1
        rw [hb] at hb0
        have HO1 := a_ ho1
        clear ho1
        go_wp2_with (go_at_call 43; refine (capture_item.calls k wc.heap.size (fun _ => True) _ out 1 A88 c88 y o1 _ HI16.out.row (fun _ _ => trivial) HI16.out.bel.size HD1.out HDC.out HO1.out).mono ?_; rintro e w17 ⟨v', rfl, ⟨hl⟩, ⟨hb_⟩⟩; have HI17 := a_ (HI16.out.item hl hb_); clear hl hb_)
        go_roundg k1
        case measure => omega
        case rel => exact ⟨j + 1, o1, by omega, by go_num, HI17, HGN⟩
       ·rw [if_neg hb] at ho1
        have bb : (rd x.f3 0 == 0) = false := by simpa using hb
        have bd : decide (rd x.f3 0 = 0) = false := by simpa using hb
        have HO1 := a_ ho1
        clear ho1
        go_wp2_with (go_at_call 43; refine (capture_item.calls k wc.heap.size (fun _ => True) _ out 2 A88 c88 y o1 _ HI16.out.row (fun _ _ => trivial) HI16.out.bel.size HD1.out HDC.out HO1.out).mono ?_; rintro e w17 ⟨v', rfl, ⟨hl⟩, ⟨hb_⟩⟩; have HI17 := a_ (HI16.out.item hl hb_); clear hl hb_)
        go_roundg k1
        case measure => omega
        case rel => exact ⟨j + 1, o1, by omega, by go_num, HI17, HGN⟩
      ·have ho1 := HO1.out
       rw [capture_records_read.of, if_neg hk] at ho1
       clear HO1
       have HO1 := a_ ho1
       clear ho1
       by_cases hl4 : link = 204
       ·subst hl4
        have hz : x.f3.length = 0 := by omega
        have g1 : decide ((x.f3.length : Int) > 0) = false := decide_eq_false (by omega)
        have g2 : decide (0 < (x.f3.length : Int)) = false := decide_eq_false (by omega)
        clear hz
        go_wp2_with (go_at_call 43; refine (capture_item.calls k wc.heap.size (fun _ => True) _ out a2_6 Ax cx x.f3 o1 _ HI16.out.row (fun _ _ => trivial) HI16.out.bel.size HIX16.out HLX.out HO1.out).mono ?_; rintro e w17 ⟨v', rfl, ⟨hl⟩, ⟨hb_⟩⟩; have HI17 := a_ (HI16.out.item hl hb_); clear hl hb_)
        go_roundg k1
        case measure => omega
        case rel => exact ⟨j + 1, o1, by omega, by go_num, HI17, HGN⟩
       ·have b3 : (link == 204) = false := by simpa using hl4
        have d3 : decide (link = 204) = false := by simpa using hl4
        go_wp2_with (go_at_call 43; refine (capture_item.calls k wc.heap.size (fun _ => True) _ out a2_6 Ax cx x.f3 o1 _ HI16.out.row (fun _ _ => trivial) HI16.out.bel.size HIX16.out HLX.out HO1.out).mono ?_; rintro e w17 ⟨v', rfl, ⟨hl⟩, ⟨hb_⟩⟩; have HI17 := a_ (HI16.out.item hl hb_); clear hl hb_)
        go_roundg k1
        case measure => omega
        case rel => exact ⟨j + 1, o1, by omega, by go_num, HI17, HGN⟩
     ·have c1_ : decide ((j : Int) < (l.length : Int)) = false := decide_eq_false (by omega)
      have hgo := HGJ.out
      rw [List.drop_of_length_le (by omega), capture_records_read.go] at hgo
      obtain rfl := Option.some.inj hgo
      have BK7w := a_ ((HI.out.bel.block g7 (blk_lt BK7d.out)).trans BK7d.out)
      have hs7_0 := bc0 BK7w
      have hfs7_0 := blk_frozen BK7w.out 0
      have hs7_1 := bc1 BK7w
      have hfs7_1 := blk_frozen BK7w.out 1
      have HBW := a_ (below_step HB11.out HI.out.bel)
      go_wp2
      refine bodyPost_ret (results_tc rfl _ _ g7 30 #[.int .i64 0, .int .i64 0] (0, 0) _ rfl (by refine blk_put (cs := #[.int .i64 0, .int .i64 0]) ?_ 1 _ rfl; refine blk_put (cs := #[.int .i64 0, .int .i64 0]) ?_ 0 _ rfl; exact BK7w.out) hu30 rfl (by kernel_rfl)) rfl ?_
      exact ⟨_, rfl, Kd.S_mono (ok' := fun _ => True) (Kd.S_lower (Kd.S_set (Kd.S_set HI.out.row BK7w.out (by decide) 0 _) (blk_set BK7w.out 0 _) (by decide) 1 _) HB11.out.size) (fun _ _ => trivial), below_set (below_set HBW.out GE7.out) GE7.out⟩

end Go.Proofs.YtgnonglkibhnhaaDoor.Print
