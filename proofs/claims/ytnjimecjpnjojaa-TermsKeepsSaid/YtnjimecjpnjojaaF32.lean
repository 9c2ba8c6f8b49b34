-- laid by this session's own program (wip/mkprint.sh) for this claim
import Derived.Test.Ytnjimecjpnjojaa0
import Derived.Test.YtnjimecjpnjojaaF53
import Derived.Test.YtnjimecjpnjojaaF54
namespace Go.Proofs.Ytnjimecjpnjojaa.Print
open Go.RowKit Go.Proofs.YtnjimecjpnjojaaW.PrintWords Go.Proofs.YtnjimecjpnjojaaW.PrintLast Go.Proofs.YtnjimecjpnjojaaW.PrintMore
attribute [local go_sem] max2_int min2_int max_two min_two max_three min_three max_four min_four   -- for this text's walks alone
set_option linter.unusedVariables false
set_option linter.unusedSimpArgs false

/-! ### terms_Read: function 32 -/
def terms_Read.go (k : Nat) (t : terms_readers.T) : List S55 → Option (terms_readers.T × Bool)
  | [] => some (t, true)
  | x :: m => if terms_readers.fn x.f0 = -1 then some (terms_readers.T.zero, false) else (terms_readers.step k x.f0 t x.f1).bind fun r => if r.2 = true then terms_Read.go k r.1 m else some (terms_readers.T.zero, false)
def terms_Read.fin (l0 : List S55) (r : terms_readers.T × Bool) : Option (Bool × Int × Bool × Int × Int × Bool × Bool × Int × Bool × Bool × Bool) :=
  if r.2 = true then (option_Twice.f l0).bind fun tw => if tw = true then some (terms_readers.T.zero.f0, terms_readers.T.zero.f1, terms_readers.T.zero.f2, terms_readers.T.zero.f3, terms_readers.T.zero.f4, terms_readers.T.zero.f5, terms_readers.T.zero.f6, terms_readers.T.zero.f7, terms_readers.T.zero.f8, terms_readers.T.zero.f9, false) else some (r.1.f0, r.1.f1, r.1.f2, r.1.f3, r.1.f4, r.1.f5, r.1.f6, r.1.f7, r.1.f8, r.1.f9, true) else some (terms_readers.T.zero.f0, terms_readers.T.zero.f1, terms_readers.T.zero.f2, terms_readers.T.zero.f3, terms_readers.T.zero.f4, terms_readers.T.zero.f5, terms_readers.T.zero.f6, terms_readers.T.zero.f7, terms_readers.T.zero.f8, terms_readers.T.zero.f9, false)
def terms_Read.f (k : Nat) (l0 : List S55) : Option (Bool × Int × Bool × Int × Int × Bool × Bool × Int × Bool × Bool × Bool) :=
  if (l0.all fun x => (Lit.int .i64 x.f0).wf) = true ∧ l0.length < 1000000 then (terms_Read.go k terms_readers.T.zero l0).bind (terms_Read.fin l0) else none
theorem terms_Read.mono_go (k : Nat) : ∀ (l : List S55) (t : terms_readers.T), LeO (terms_Read.go k t l) (terms_Read.go (k + 1) t l)
  | [], _ => LeO.refl _
  | x :: m, t => LeO.ite (LeO.refl _) (LeO.bind (terms_readers.mono_step _ _ _ k) fun r => LeO.ite (terms_Read.mono_go k m r.1) (LeO.refl _))
theorem terms_Read.mono (l0 : List S55) (k : Nat) : LeO (terms_Read.f k l0) (terms_Read.f (k + 1) l0) := by
  unfold terms_Read.f
  exact LeO.ite (LeO.bind (terms_Read.mono_go k l0 _) fun _ => LeO.refl _) (LeO.refl _)
structure terms_Read.Round (w W : World) (g2 g4 b k : Nat) (l : List S55) (j : Nat) (t : terms_readers.T) (r : Bool × Int × Bool × Int × Int × Bool × Bool × Int × Bool × Bool × Bool) : Prop where
  ht : terms_readers.Tab W b
  h2 : W.heap[g2]? = some (.cells #[.bool false, .int .i64 0, .bool false, .int .u32 0, .int .i64 0, .bool false, .bool false, .int .u32 0, .bool false, .bool false] 61 (0, 0))
  h4 : W.heap[g4]? = some (.cells t.cells 61 (0, 0))
  hb : Below w.heap.size w W
  hl : (terms_Read.go k t (l.drop j)).bind (terms_Read.fin l) = some r
set_option maxHeartbeats 16000000 in
set_option maxRecDepth 100000 in
theorem terms_Read.calls (k : Nat) (A0 : Option Addr) (c0 : Nat) (l0 : List S55) (r1 : Bool) (r2 : Int) (r3 : Bool) (r4 : Int) (r5 : Int) (r6 : Bool) (r7 : Bool) (r8 : Int) (r9 : Bool) (r10 : Bool) (r11 : Bool) (w : World) (hr0 : Kd.C k55 w A0 l0.length l0) (hc0 : l0.length ≤ c0) (h : terms_Read.f k l0 = some (r1, r2, r3, r4, r5, r6, r7, r8, r9, r10, r11)) :
    Calls Try.prog 32 #[.slice A0 l0.length c0] w fun e w' => e = .returned (.tuple #[.agg #[.bool r1, .int .i64 r2, .bool r3, .int .u32 r4, .int .i64 r5, .bool r6, .bool r7, .int .u32 r8, .bool r9, .bool r10], .bool r11]) ∧ Below w.heap.size w w' := by
  have huO := Try.underlying55
  have huT := Try.underlying61
  unfold terms_Read.f at h
  by_cases hw : (l0.all fun x => (Lit.int .i64 x.f0).wf) = true ∧ l0.length < 1000000
  · rw [if_pos hw] at h
    have HWF := Aside0.mk (List.all_eq_true.1 hw.1)
    have HLN := Aside0.mk hw.2
    have HG : Aside0 ((terms_Read.go k terms_readers.T.zero (l0.drop 0)).bind (terms_Read.fin l0) = some (r1, r2, r3, r4, r5, r6, r7, r8, r9, r10, r11)) := ⟨by rw [List.drop_zero]; exact h⟩
    have HR0 := Aside0.mk hr0
    have HC0 := Aside0.mk hc0
    have HW := Aside0.mk (Below.refl w.heap.size w)
    clear h hw hr0 hc0
    go_enter Try.func32, Try.ntmps32
    go_wp2_with (first | ((with_reducible refine gate_dst (N := 2) rfl ?_); refine box_event ?hg (N := 2) ?hd (cs := #[.bool false, .int .i64 0, .bool false, .int .u32 0, .int .i64 0, .bool false, .bool false, .int .u32 0, .bool false, .bool false]) (t := 61) ?hr ?_; (case hd => rfl); (case hg => rfl); (case hr => first | (go_simp; done) | (go_simp; rfl)); intro g2 hg w1 hbox hb; have BK2 := Aside0.mk hbox; have HB1 := Aside0.mk (below_step HW.out hb); have GE2 : Aside0 (w.heap.size ≤ g2) := ⟨by rw [hg]; exact Nat.le_refl _⟩; clear hg hbox hb HW) | ((with_reducible refine gate_dst (N := 4) rfl ?_); refine box_event ?hg (N := 4) ?hd (cs := #[.bool false, .int .i64 0, .bool false, .int .u32 0, .int .i64 0, .bool false, .bool false, .int .u32 0, .bool false, .bool false]) (t := 61) ?hr ?_; (case hd => rfl); (case hg => rfl); (case hr => first | (go_simp; done) | (go_simp; rfl)); intro g4 hg w2 hbox hb; have BK4 := Aside0.mk hbox; have GE4 : Aside0 (w.heap.size ≤ g4) := ⟨by rw [hg]; exact below_size HB1.out⟩; have N24 : Aside0 (g2 ≠ g4) := ⟨by rw [hg]; exact Nat.ne_of_lt (blk_lt BK2.out)⟩; have BK2_2 := Aside0.mk (blk_below BK2.out hb); have HB2 := Aside0.mk (below_step HB1.out hb); clear hg hbox hb BK2 HB1))
    refine (terms_readers.calls _).mono ?_
    rintro e w3 ⟨b, rfl, hT, hb0, hb⟩
    have HT := Aside0.mk hT
    have LB := Aside0.mk (Nat.le_trans (below_size HB2.out) hb0)
    have BK2 := Aside0.mk (blk_below BK2_2.out hb)
    have BK4 : Aside0 (w3.heap[g4]? = some (.cells terms_readers.T.zero.cells 61 (0, 0))) := ⟨blk_below BK4.out hb⟩
    have HB := Aside0.mk (below_step HB2.out hb)
    have NB4 : Aside0 (b ≠ g4) := ⟨MapIs.ne HT.out BK4.out⟩
    have NB2 : Aside0 (b ≠ g2) := ⟨MapIs.ne HT.out BK2.out⟩
    clear hT hb0 hb BK2_2 HB2
    go_wp2_with (fail)
    go_loopg [12] l0.length (fun kq v12 w' => ∃ (j : Nat) (t : terms_readers.T), kq + j = l0.length ∧ v12 = .int .i64 (j : Int) ∧ Aside0 (terms_Read.Round w w' g2 g4 b k l0 j t (r1, r2, r3, r4, r5, r6, r7, r8, r9, r10, r11)))
    case atStart => exact ⟨0, terms_readers.T.zero, rfl, rfl, ⟨⟨HT.out, BK2.out, BK4.out, HB.out, HG.out⟩⟩⟩
    case round =>
      obtain ⟨j, t, hj, rfl, HI⟩ := hrel
      clear HT BK2 BK4 HB HG
      have HT := Aside0.mk HI.out.ht
      have BK2 := Aside0.mk HI.out.h2
      have BK4 := Aside0.mk HI.out.h4
      have HB := Aside0.mk HI.out.hb
      have hl := HI.out.hl
      clear HI
      by_cases hlt : j < l0.length
      · have c1 : decide ((j : Int) < (l0.length : Int)) = true := decide_eq_true (by omega)
        obtain ⟨hdr, hmem⟩ := option_at l0 j hlt
        have hwf := HWF.out _ hmem
        have p1 : (0 : Int) ≤ (j : Int) := by omega
        have q1 : (j : Int) < (l0.length : Int) := by omega
        obtain ⟨ad, Ax, cx, e0, hx0, hx1, hlx, hix⟩ := at_T55 HR0.out (j : Int) p1 q1
        rw [hdr, terms_Read.go] at hl
        generalize rd_T55 l0 (j : Int) = x at hx0 hx1 hlx hix hwf hl
        cases e0
        rw [Int.toNat_natCast] at hx0 hx1
        replace hx0 := (HB.out.cell (World.block_lt_of_cell? w _ hx0)).trans hx0
        replace hx1 := (HB.out.cell (World.block_lt_of_cell? w _ hx1)).trans hx1
        have HWX := Aside0.mk hwf
        have HL := Aside0.mk hl
        have HJ := Aside0.mk hj
        have HLX := Aside0.mk hlx
        have HIX := Aside0.mk hix
        clear hdr hmem hl hlx hix hwf hj
        go_upto_region 6 with (((with_reducible refine gate_dst (N := 7) rfl ?_); refine box_event ?hg (N := 7) ?hd (cs := #[.int .i64 0, .slice none 0 0]) (t := 55) ?hr ?_; (case hd => rfl); (case hg => rfl); (case hr => first | (go_simp; done) | (go_simp; rfl)); intro g7 hg w5 hbox hb; have BK7 := Aside0.mk hbox; have GE7 : Aside0 (w.heap.size ≤ g7) := ⟨by rw [hg]; exact below_size HB.out⟩; have N27 : Aside0 (g2 ≠ g7) := ⟨by rw [hg]; exact Nat.ne_of_lt (blk_lt BK2.out)⟩; have N47 : Aside0 (g4 ≠ g7) := ⟨by rw [hg]; exact Nat.ne_of_lt (blk_lt BK4.out)⟩; have T5 : Aside0 (terms_readers.Tab w5 b) := ⟨MapIs.below HT.out hb⟩; have BK2_5 := Aside0.mk (blk_below BK2.out hb); have BK4_5 := Aside0.mk (blk_below BK4.out hb); have HB5 := Aside0.mk (below_step HB.out hb); replace hx0 := (hb.cell (World.block_lt_of_cell? _ _ hx0)).trans hx0; replace hx1 := (hb.cell (World.block_lt_of_cell? _ _ hx1)).trans hx1; clear hg hbox hb HT BK2 BK4 HB; have hc7_0 : w5.cell? ⟨g7, 0, none⟩ = some (.int .i64 0) := (blk_cell BK7.out 0).trans rfl; have hf7_0 := blk_frozen BK7.out 0; have hc7_1 : w5.cell? ⟨g7, 1, none⟩ = some (.slice none 0 0) := (blk_cell BK7.out 1).trans rfl; have hf7_1 := blk_frozen BK7.out 1))
        have BK7_6 := Aside0.mk (show ((w5.setCell ⟨g7, 0, none⟩ (.int .i64 x.f0)).setCell ⟨g7, 1, none⟩ (.slice Ax x.f1.length cx)).heap[g7]? = some (.cells #[.int .i64 x.f0, .slice Ax x.f1.length cx] 55 (0, 0)) from by refine blk_put (cs := #[.int .i64 x.f0, .slice none 0 0]) ?_ 1 _ rfl; refine blk_put (cs := #[.int .i64 0, .slice none 0 0]) ?_ 0 _ rfl; exact BK7.out)
        have T6 : Aside0 (terms_readers.Tab ((w5.setCell ⟨g7, 0, none⟩ (.int .i64 x.f0)).setCell ⟨g7, 1, none⟩ (.slice Ax x.f1.length cx)) b) := ⟨MapIs.set (MapIs.set T5.out (MapIs.ne T5.out BK7.out) _) (MapIs.ne T5.out BK7.out) _⟩
        have HB6 := Aside0.mk (below_set (j := 1) (v := .slice Ax x.f1.length cx) (below_set (j := 0) (v := .int .i64 x.f0) HB5.out GE7.out) GE7.out)
        have BK2_6 := Aside0.mk (blk_far (p := ⟨g7, 1, none⟩) (blk_far (p := ⟨g7, 0, none⟩) BK2_5.out N27.out (.int .i64 x.f0)) N27.out (.slice Ax x.f1.length cx))
        have BK4_6 := Aside0.mk (blk_far (p := ⟨g7, 1, none⟩) (blk_far (p := ⟨g7, 0, none⟩) BK4_5.out N47.out (.int .i64 x.f0)) N47.out (.slice Ax x.f1.length cx))
        generalize (w5.setCell ⟨g7, 0, none⟩ (.int .i64 x.f0)).setCell ⟨g7, 1, none⟩ (.slice Ax x.f1.length cx) = w6 at BK7_6 T6 HB6 BK2_6 BK4_6 ⊢
        clear BK7 T5 HB5 BK2_5 BK4_5 hx0 hx1 hc7_0 hf7_0 hc7_1 hf7_1
        have hc6_0 : w6.cell? ⟨g7, 0, none⟩ = some (.int .i64 x.f0) := (blk_cell BK7_6.out 0).trans rfl
        have hf6_0 := blk_frozen BK7_6.out 0
        have hc6_1 : w6.cell? ⟨g7, 1, none⟩ = some (.slice Ax x.f1.length cx) := (blk_cell BK7_6.out 1).trans rfl
        have hf6_1 := blk_frozen BK7_6.out 1
        have n1 := terms_readers.eql_nil
        have n2 := terms_readers.eql_fn
        by_cases hfn : terms_readers.fn x.f0 = -1
        · have h := HL.out
          rw [if_pos hfn] at h
          simp only [Option.bind_some, terms_Read.fin, Bool.false_eq_true, if_false, Option.some.injEq, Prod.mk.injEq] at h
          obtain ⟨rfl, rfl, rfl, rfl, rfl, rfl, rfl, rfl, rfl, rfl, rfl⟩ := h
          have hlk := T6.out.look_nil x.f0 HWX.out hfn
          clear HL hfn T6
          have hc2a_0 : w6.cell? ⟨g2, 0, none⟩ = some (.bool false) := (blk_cell BK2_6.out 0).trans rfl
          have hf2a_0 := blk_frozen BK2_6.out 0
          have hc2a_1 : w6.cell? ⟨g2, 1, none⟩ = some (.int .i64 0) := (blk_cell BK2_6.out 1).trans rfl
          have hf2a_1 := blk_frozen BK2_6.out 1
          have hc2a_2 : w6.cell? ⟨g2, 2, none⟩ = some (.bool false) := (blk_cell BK2_6.out 2).trans rfl
          have hf2a_2 := blk_frozen BK2_6.out 2
          have hc2a_3 : w6.cell? ⟨g2, 3, none⟩ = some (.int .u32 0) := (blk_cell BK2_6.out 3).trans rfl
          have hf2a_3 := blk_frozen BK2_6.out 3
          have hc2a_4 : w6.cell? ⟨g2, 4, none⟩ = some (.int .i64 0) := (blk_cell BK2_6.out 4).trans rfl
          have hf2a_4 := blk_frozen BK2_6.out 4
          have hc2a_5 : w6.cell? ⟨g2, 5, none⟩ = some (.bool false) := (blk_cell BK2_6.out 5).trans rfl
          have hf2a_5 := blk_frozen BK2_6.out 5
          have hc2a_6 : w6.cell? ⟨g2, 6, none⟩ = some (.bool false) := (blk_cell BK2_6.out 6).trans rfl
          have hf2a_6 := blk_frozen BK2_6.out 6
          have hc2a_7 : w6.cell? ⟨g2, 7, none⟩ = some (.int .u32 0) := (blk_cell BK2_6.out 7).trans rfl
          have hf2a_7 := blk_frozen BK2_6.out 7
          have hc2a_8 : w6.cell? ⟨g2, 8, none⟩ = some (.bool false) := (blk_cell BK2_6.out 8).trans rfl
          have hf2a_8 := blk_frozen BK2_6.out 8
          have hc2a_9 : w6.cell? ⟨g2, 9, none⟩ = some (.bool false) := (blk_cell BK2_6.out 9).trans rfl
          have hf2a_9 := blk_frozen BK2_6.out 9
          go_wp2_with (fail)
          refine bodyPost_ret (results_ct rfl _ _ g2 61 #[.bool false, .int .i64 0, .bool false, .int .u32 0, .int .i64 0, .bool false, .bool false, .int .u32 0, .bool false, .bool false] (0, 0) _ rfl (by refine blk_put (cs := #[.bool false, .int .i64 0, .bool false, .int .u32 0, .int .i64 0, .bool false, .bool false, .int .u32 0, .bool false, .bool false]) ?_ 9 _ rfl; refine blk_put (cs := #[.bool false, .int .i64 0, .bool false, .int .u32 0, .int .i64 0, .bool false, .bool false, .int .u32 0, .bool false, .bool false]) ?_ 8 _ rfl; refine blk_put (cs := #[.bool false, .int .i64 0, .bool false, .int .u32 0, .int .i64 0, .bool false, .bool false, .int .u32 0, .bool false, .bool false]) ?_ 7 _ rfl; refine blk_put (cs := #[.bool false, .int .i64 0, .bool false, .int .u32 0, .int .i64 0, .bool false, .bool false, .int .u32 0, .bool false, .bool false]) ?_ 6 _ rfl; refine blk_put (cs := #[.bool false, .int .i64 0, .bool false, .int .u32 0, .int .i64 0, .bool false, .bool false, .int .u32 0, .bool false, .bool false]) ?_ 5 _ rfl; refine blk_put (cs := #[.bool false, .int .i64 0, .bool false, .int .u32 0, .int .i64 0, .bool false, .bool false, .int .u32 0, .bool false, .bool false]) ?_ 4 _ rfl; refine blk_put (cs := #[.bool false, .int .i64 0, .bool false, .int .u32 0, .int .i64 0, .bool false, .bool false, .int .u32 0, .bool false, .bool false]) ?_ 3 _ rfl; refine blk_put (cs := #[.bool false, .int .i64 0, .bool false, .int .u32 0, .int .i64 0, .bool false, .bool false, .int .u32 0, .bool false, .bool false]) ?_ 2 _ rfl; refine blk_put (cs := #[.bool false, .int .i64 0, .bool false, .int .u32 0, .int .i64 0, .bool false, .bool false, .int .u32 0, .bool false, .bool false]) ?_ 1 _ rfl; refine blk_put (cs := #[.bool false, .int .i64 0, .bool false, .int .u32 0, .int .i64 0, .bool false, .bool false, .int .u32 0, .bool false, .bool false]) ?_ 0 _ rfl; exact BK2_6.out) Try.underlying61 rfl (by kernel_rfl)) rfl ?_
          exact ⟨rfl, by repeat (first | with_reducible exact HB6.out | with_reducible refine below_set ?_ GE2.out)⟩
        · have h := HL.out
          rw [if_neg hfn] at h
          obtain ⟨rr, hrr, h⟩ := Option.bind_eq_some_iff.1 h
          obtain ⟨⟨t', ok⟩, hs, h2⟩ := Option.bind_eq_some_iff.1 hrr
          have hlk := T6.out.look_fn x.f0 HWX.out hfn
          have n3 := terms_readers.enters x.f0 hfn
          have HS := Aside0.mk hs
          have H2 := Aside0.mk h2
          have HH := Aside0.mk h
          clear HL hfn hrr hs h2 h
          go_wp2_with (fail)
          refine (terms_readers.read k x.f0 t Ax cx x.f1 t' ok g4 _ BK4_6.out (Kd.C_below HIX.out HB6.out) HLX.out HS.out).mono ?_
          rintro e w7 ⟨rfl, h4', ht'⟩
          have BK4_7 := Aside0.mk h4'
          have T7 : Aside0 (terms_readers.Tab w7 b) := ⟨MapIs.kept T6.out (ht'.keep.2 b (MapIs.lt T6.out) NB4.out (by simp))⟩
          have BK2_7 := Aside0.mk (ht'.keep.blk BK2_6.out N24.out (by simp))
          have HB7 := Aside0.mk (ht'.below w HB6.out GE4.out)
          clear h4' ht' T6 BK4_6 BK2_6 HB6 BK7_6 hlk hc6_0 hf6_0 hc6_1 hf6_1
          cases ok with
          | true =>
            have HE : Aside0 ((terms_Read.go k t' (l0.drop (j + 1))).bind (terms_Read.fin l0) = some (r1, r2, r3, r4, r5, r6, r7, r8, r9, r10, r11)) := ⟨by
              have e2 := H2.out
              simp only [if_true] at e2
              rw [e2, Option.bind_some]
              exact HH.out⟩
            clear H2 HH HS
            have hjw : IntKind.i64.wrap ((j : Int) + 1) = ((j + 1 : Nat) : Int) := by rw [IntWalk.i64_in _ (by have := HLN.out; omega)]; omega
            obtain ⟨gk2, rfl⟩ : ∃ q, gk = q + 1 := ⟨gk - 1, by have := HJ.out; omega⟩
            go_wp2_with (fail)
            go_roundg gk2
            case measure => omega
            case rel => exact ⟨j + 1, t', by have := HJ.out; omega, rfl, ⟨⟨T7.out, BK2_7.out, BK4_7.out, HB7.out, HE.out⟩⟩⟩
          | false =>
            have e2 := H2.out
            simp only [Bool.false_eq_true, if_false, Option.some.injEq] at e2
            have h := HH.out
            rw [← e2] at h
            simp only [terms_Read.fin, Bool.false_eq_true, if_false, Option.some.injEq, Prod.mk.injEq] at h
            obtain ⟨rfl, rfl, rfl, rfl, rfl, rfl, rfl, rfl, rfl, rfl, rfl⟩ := h
            clear e2 H2 HH HS T7
            have hc2b_0 : w7.cell? ⟨g2, 0, none⟩ = some (.bool false) := (blk_cell BK2_7.out 0).trans rfl
            have hf2b_0 := blk_frozen BK2_7.out 0
            have hc2b_1 : w7.cell? ⟨g2, 1, none⟩ = some (.int .i64 0) := (blk_cell BK2_7.out 1).trans rfl
            have hf2b_1 := blk_frozen BK2_7.out 1
            have hc2b_2 : w7.cell? ⟨g2, 2, none⟩ = some (.bool false) := (blk_cell BK2_7.out 2).trans rfl
            have hf2b_2 := blk_frozen BK2_7.out 2
            have hc2b_3 : w7.cell? ⟨g2, 3, none⟩ = some (.int .u32 0) := (blk_cell BK2_7.out 3).trans rfl
            have hf2b_3 := blk_frozen BK2_7.out 3
            have hc2b_4 : w7.cell? ⟨g2, 4, none⟩ = some (.int .i64 0) := (blk_cell BK2_7.out 4).trans rfl
            have hf2b_4 := blk_frozen BK2_7.out 4
            have hc2b_5 : w7.cell? ⟨g2, 5, none⟩ = some (.bool false) := (blk_cell BK2_7.out 5).trans rfl
            have hf2b_5 := blk_frozen BK2_7.out 5
            have hc2b_6 : w7.cell? ⟨g2, 6, none⟩ = some (.bool false) := (blk_cell BK2_7.out 6).trans rfl
            have hf2b_6 := blk_frozen BK2_7.out 6
            have hc2b_7 : w7.cell? ⟨g2, 7, none⟩ = some (.int .u32 0) := (blk_cell BK2_7.out 7).trans rfl
            have hf2b_7 := blk_frozen BK2_7.out 7
            have hc2b_8 : w7.cell? ⟨g2, 8, none⟩ = some (.bool false) := (blk_cell BK2_7.out 8).trans rfl
            have hf2b_8 := blk_frozen BK2_7.out 8
            have hc2b_9 : w7.cell? ⟨g2, 9, none⟩ = some (.bool false) := (blk_cell BK2_7.out 9).trans rfl
            have hf2b_9 := blk_frozen BK2_7.out 9
            go_wp2_with (fail)
            refine bodyPost_ret (results_ct rfl _ _ g2 61 #[.bool false, .int .i64 0, .bool false, .int .u32 0, .int .i64 0, .bool false, .bool false, .int .u32 0, .bool false, .bool false] (0, 0) _ rfl (by refine blk_put (cs := #[.bool false, .int .i64 0, .bool false, .int .u32 0, .int .i64 0, .bool false, .bool false, .int .u32 0, .bool false, .bool false]) ?_ 9 _ rfl; refine blk_put (cs := #[.bool false, .int .i64 0, .bool false, .int .u32 0, .int .i64 0, .bool false, .bool false, .int .u32 0, .bool false, .bool false]) ?_ 8 _ rfl; refine blk_put (cs := #[.bool false, .int .i64 0, .bool false, .int .u32 0, .int .i64 0, .bool false, .bool false, .int .u32 0, .bool false, .bool false]) ?_ 7 _ rfl; refine blk_put (cs := #[.bool false, .int .i64 0, .bool false, .int .u32 0, .int .i64 0, .bool false, .bool false, .int .u32 0, .bool false, .bool false]) ?_ 6 _ rfl; refine blk_put (cs := #[.bool false, .int .i64 0, .bool false, .int .u32 0, .int .i64 0, .bool false, .bool false, .int .u32 0, .bool false, .bool false]) ?_ 5 _ rfl; refine blk_put (cs := #[.bool false, .int .i64 0, .bool false, .int .u32 0, .int .i64 0, .bool false, .bool false, .int .u32 0, .bool false, .bool false]) ?_ 4 _ rfl; refine blk_put (cs := #[.bool false, .int .i64 0, .bool false, .int .u32 0, .int .i64 0, .bool false, .bool false, .int .u32 0, .bool false, .bool false]) ?_ 3 _ rfl; refine blk_put (cs := #[.bool false, .int .i64 0, .bool false, .int .u32 0, .int .i64 0, .bool false, .bool false, .int .u32 0, .bool false, .bool false]) ?_ 2 _ rfl; refine blk_put (cs := #[.bool false, .int .i64 0, .bool false, .int .u32 0, .int .i64 0, .bool false, .bool false, .int .u32 0, .bool false, .bool false]) ?_ 1 _ rfl; refine blk_put (cs := #[.bool false, .int .i64 0, .bool false, .int .u32 0, .int .i64 0, .bool false, .bool false, .int .u32 0, .bool false, .bool false]) ?_ 0 _ rfl; exact BK2_7.out) Try.underlying61 rfl (by kernel_rfl)) rfl ?_
            exact ⟨rfl, by repeat (first | with_reducible exact HB7.out | with_reducible refine below_set ?_ GE2.out)⟩
      · have c1 : decide ((j : Int) < (l0.length : Int)) = false := decide_eq_false (by omega)
        obtain rfl : j = l0.length := by omega
        rw [List.drop_length, terms_Read.go, Option.bind_some, terms_Read.fin, if_pos rfl] at hl
        obtain ⟨tw, htw, hl⟩ := Option.bind_eq_some_iff.1 hl
        have HDW := Aside0.mk htw
        clear hj htw HT
        have hc4c_0 : wr.cell? ⟨g4, 0, none⟩ = some (.bool t.f0) := (blk_cell BK4.out 0).trans rfl
        have hf4c_0 := blk_frozen BK4.out 0
        have hc4c_1 : wr.cell? ⟨g4, 1, none⟩ = some (.int .i64 t.f1) := (blk_cell BK4.out 1).trans rfl
        have hf4c_1 := blk_frozen BK4.out 1
        have hc4c_2 : wr.cell? ⟨g4, 2, none⟩ = some (.bool t.f2) := (blk_cell BK4.out 2).trans rfl
        have hf4c_2 := blk_frozen BK4.out 2
        have hc4c_3 : wr.cell? ⟨g4, 3, none⟩ = some (.int .u32 t.f3) := (blk_cell BK4.out 3).trans rfl
        have hf4c_3 := blk_frozen BK4.out 3
        have hc4c_4 : wr.cell? ⟨g4, 4, none⟩ = some (.int .i64 t.f4) := (blk_cell BK4.out 4).trans rfl
        have hf4c_4 := blk_frozen BK4.out 4
        have hc4c_5 : wr.cell? ⟨g4, 5, none⟩ = some (.bool t.f5) := (blk_cell BK4.out 5).trans rfl
        have hf4c_5 := blk_frozen BK4.out 5
        have hc4c_6 : wr.cell? ⟨g4, 6, none⟩ = some (.bool t.f6) := (blk_cell BK4.out 6).trans rfl
        have hf4c_6 := blk_frozen BK4.out 6
        have hc4c_7 : wr.cell? ⟨g4, 7, none⟩ = some (.int .u32 t.f7) := (blk_cell BK4.out 7).trans rfl
        have hf4c_7 := blk_frozen BK4.out 7
        have hc4c_8 : wr.cell? ⟨g4, 8, none⟩ = some (.bool t.f8) := (blk_cell BK4.out 8).trans rfl
        have hf4c_8 := blk_frozen BK4.out 8
        have hc4c_9 : wr.cell? ⟨g4, 9, none⟩ = some (.bool t.f9) := (blk_cell BK4.out 9).trans rfl
        have hf4c_9 := blk_frozen BK4.out 9
        have hc2c_0 : wr.cell? ⟨g2, 0, none⟩ = some (.bool false) := (blk_cell BK2.out 0).trans rfl
        have hf2c_0 := blk_frozen BK2.out 0
        have hc2c_1 : wr.cell? ⟨g2, 1, none⟩ = some (.int .i64 0) := (blk_cell BK2.out 1).trans rfl
        have hf2c_1 := blk_frozen BK2.out 1
        have hc2c_2 : wr.cell? ⟨g2, 2, none⟩ = some (.bool false) := (blk_cell BK2.out 2).trans rfl
        have hf2c_2 := blk_frozen BK2.out 2
        have hc2c_3 : wr.cell? ⟨g2, 3, none⟩ = some (.int .u32 0) := (blk_cell BK2.out 3).trans rfl
        have hf2c_3 := blk_frozen BK2.out 3
        have hc2c_4 : wr.cell? ⟨g2, 4, none⟩ = some (.int .i64 0) := (blk_cell BK2.out 4).trans rfl
        have hf2c_4 := blk_frozen BK2.out 4
        have hc2c_5 : wr.cell? ⟨g2, 5, none⟩ = some (.bool false) := (blk_cell BK2.out 5).trans rfl
        have hf2c_5 := blk_frozen BK2.out 5
        have hc2c_6 : wr.cell? ⟨g2, 6, none⟩ = some (.bool false) := (blk_cell BK2.out 6).trans rfl
        have hf2c_6 := blk_frozen BK2.out 6
        have hc2c_7 : wr.cell? ⟨g2, 7, none⟩ = some (.int .u32 0) := (blk_cell BK2.out 7).trans rfl
        have hf2c_7 := blk_frozen BK2.out 7
        have hc2c_8 : wr.cell? ⟨g2, 8, none⟩ = some (.bool false) := (blk_cell BK2.out 8).trans rfl
        have hf2c_8 := blk_frozen BK2.out 8
        have hc2c_9 : wr.cell? ⟨g2, 9, none⟩ = some (.bool false) := (blk_cell BK2.out 9).trans rfl
        have hf2c_9 := blk_frozen BK2.out 9
        go_wp2_with (fail)
        refine (option_Twice.calls A0 c0 l0 tw _ (Kd.C_below HR0.out HB.out) HC0.out HDW.out).mono ?_
        rintro e w4 ⟨rfl, hb⟩
        have BK2_4 := Aside0.mk (blk_below BK2.out hb)
        have BK4_4 := Aside0.mk (blk_below BK4.out hb)
        have HB4 := Aside0.mk (below_step HB.out hb)
        clear hb BK2 BK4 HB hc4c_0 hf4c_0 hc2c_0 hf2c_0 hc4c_1 hf4c_1 hc2c_1 hf2c_1 hc4c_2 hf4c_2 hc2c_2 hf2c_2 hc4c_3 hf4c_3 hc2c_3 hf2c_3 hc4c_4 hf4c_4 hc2c_4 hf2c_4 hc4c_5 hf4c_5 hc2c_5 hf2c_5 hc4c_6 hf4c_6 hc2c_6 hf2c_6 hc4c_7 hf4c_7 hc2c_7 hf2c_7 hc4c_8 hf4c_8 hc2c_8 hf2c_8 hc4c_9 hf4c_9 hc2c_9 hf2c_9
        have hc4d_0 : w4.cell? ⟨g4, 0, none⟩ = some (.bool t.f0) := (blk_cell BK4_4.out 0).trans rfl
        have hf4d_0 := blk_frozen BK4_4.out 0
        have hc4d_1 : w4.cell? ⟨g4, 1, none⟩ = some (.int .i64 t.f1) := (blk_cell BK4_4.out 1).trans rfl
        have hf4d_1 := blk_frozen BK4_4.out 1
        have hc4d_2 : w4.cell? ⟨g4, 2, none⟩ = some (.bool t.f2) := (blk_cell BK4_4.out 2).trans rfl
        have hf4d_2 := blk_frozen BK4_4.out 2
        have hc4d_3 : w4.cell? ⟨g4, 3, none⟩ = some (.int .u32 t.f3) := (blk_cell BK4_4.out 3).trans rfl
        have hf4d_3 := blk_frozen BK4_4.out 3
        have hc4d_4 : w4.cell? ⟨g4, 4, none⟩ = some (.int .i64 t.f4) := (blk_cell BK4_4.out 4).trans rfl
        have hf4d_4 := blk_frozen BK4_4.out 4
        have hc4d_5 : w4.cell? ⟨g4, 5, none⟩ = some (.bool t.f5) := (blk_cell BK4_4.out 5).trans rfl
        have hf4d_5 := blk_frozen BK4_4.out 5
        have hc4d_6 : w4.cell? ⟨g4, 6, none⟩ = some (.bool t.f6) := (blk_cell BK4_4.out 6).trans rfl
        have hf4d_6 := blk_frozen BK4_4.out 6
        have hc4d_7 : w4.cell? ⟨g4, 7, none⟩ = some (.int .u32 t.f7) := (blk_cell BK4_4.out 7).trans rfl
        have hf4d_7 := blk_frozen BK4_4.out 7
        have hc4d_8 : w4.cell? ⟨g4, 8, none⟩ = some (.bool t.f8) := (blk_cell BK4_4.out 8).trans rfl
        have hf4d_8 := blk_frozen BK4_4.out 8
        have hc4d_9 : w4.cell? ⟨g4, 9, none⟩ = some (.bool t.f9) := (blk_cell BK4_4.out 9).trans rfl
        have hf4d_9 := blk_frozen BK4_4.out 9
        have hc2d_0 : w4.cell? ⟨g2, 0, none⟩ = some (.bool false) := (blk_cell BK2_4.out 0).trans rfl
        have hf2d_0 := blk_frozen BK2_4.out 0
        have hc2d_1 : w4.cell? ⟨g2, 1, none⟩ = some (.int .i64 0) := (blk_cell BK2_4.out 1).trans rfl
        have hf2d_1 := blk_frozen BK2_4.out 1
        have hc2d_2 : w4.cell? ⟨g2, 2, none⟩ = some (.bool false) := (blk_cell BK2_4.out 2).trans rfl
        have hf2d_2 := blk_frozen BK2_4.out 2
        have hc2d_3 : w4.cell? ⟨g2, 3, none⟩ = some (.int .u32 0) := (blk_cell BK2_4.out 3).trans rfl
        have hf2d_3 := blk_frozen BK2_4.out 3
        have hc2d_4 : w4.cell? ⟨g2, 4, none⟩ = some (.int .i64 0) := (blk_cell BK2_4.out 4).trans rfl
        have hf2d_4 := blk_frozen BK2_4.out 4
        have hc2d_5 : w4.cell? ⟨g2, 5, none⟩ = some (.bool false) := (blk_cell BK2_4.out 5).trans rfl
        have hf2d_5 := blk_frozen BK2_4.out 5
        have hc2d_6 : w4.cell? ⟨g2, 6, none⟩ = some (.bool false) := (blk_cell BK2_4.out 6).trans rfl
        have hf2d_6 := blk_frozen BK2_4.out 6
        have hc2d_7 : w4.cell? ⟨g2, 7, none⟩ = some (.int .u32 0) := (blk_cell BK2_4.out 7).trans rfl
        have hf2d_7 := blk_frozen BK2_4.out 7
        have hc2d_8 : w4.cell? ⟨g2, 8, none⟩ = some (.bool false) := (blk_cell BK2_4.out 8).trans rfl
        have hf2d_8 := blk_frozen BK2_4.out 8
        have hc2d_9 : w4.cell? ⟨g2, 9, none⟩ = some (.bool false) := (blk_cell BK2_4.out 9).trans rfl
        have hf2d_9 := blk_frozen BK2_4.out 9
        cases tw with
        | true =>
          simp only [if_true, Option.some.injEq, Prod.mk.injEq] at hl
          obtain ⟨rfl, rfl, rfl, rfl, rfl, rfl, rfl, rfl, rfl, rfl, rfl⟩ := hl
          go_wp2_with (fail)
          refine bodyPost_ret (results_ct rfl _ _ g2 61 #[.bool false, .int .i64 0, .bool false, .int .u32 0, .int .i64 0, .bool false, .bool false, .int .u32 0, .bool false, .bool false] (0, 0) _ rfl (by refine blk_put (cs := #[.bool false, .int .i64 0, .bool false, .int .u32 0, .int .i64 0, .bool false, .bool false, .int .u32 0, .bool false, .bool false]) ?_ 9 _ rfl; refine blk_put (cs := #[.bool false, .int .i64 0, .bool false, .int .u32 0, .int .i64 0, .bool false, .bool false, .int .u32 0, .bool false, .bool false]) ?_ 8 _ rfl; refine blk_put (cs := #[.bool false, .int .i64 0, .bool false, .int .u32 0, .int .i64 0, .bool false, .bool false, .int .u32 0, .bool false, .bool false]) ?_ 7 _ rfl; refine blk_put (cs := #[.bool false, .int .i64 0, .bool false, .int .u32 0, .int .i64 0, .bool false, .bool false, .int .u32 0, .bool false, .bool false]) ?_ 6 _ rfl; refine blk_put (cs := #[.bool false, .int .i64 0, .bool false, .int .u32 0, .int .i64 0, .bool false, .bool false, .int .u32 0, .bool false, .bool false]) ?_ 5 _ rfl; refine blk_put (cs := #[.bool false, .int .i64 0, .bool false, .int .u32 0, .int .i64 0, .bool false, .bool false, .int .u32 0, .bool false, .bool false]) ?_ 4 _ rfl; refine blk_put (cs := #[.bool false, .int .i64 0, .bool false, .int .u32 0, .int .i64 0, .bool false, .bool false, .int .u32 0, .bool false, .bool false]) ?_ 3 _ rfl; refine blk_put (cs := #[.bool false, .int .i64 0, .bool false, .int .u32 0, .int .i64 0, .bool false, .bool false, .int .u32 0, .bool false, .bool false]) ?_ 2 _ rfl; refine blk_put (cs := #[.bool false, .int .i64 0, .bool false, .int .u32 0, .int .i64 0, .bool false, .bool false, .int .u32 0, .bool false, .bool false]) ?_ 1 _ rfl; refine blk_put (cs := #[.bool false, .int .i64 0, .bool false, .int .u32 0, .int .i64 0, .bool false, .bool false, .int .u32 0, .bool false, .bool false]) ?_ 0 _ rfl; exact BK2_4.out) Try.underlying61 rfl (by kernel_rfl)) rfl ?_
          exact ⟨rfl, by repeat (first | with_reducible exact HB4.out | with_reducible refine below_set ?_ GE2.out)⟩
        | false =>
          simp only [Bool.false_eq_true, if_false, Option.some.injEq, Prod.mk.injEq] at hl
          obtain ⟨rfl, rfl, rfl, rfl, rfl, rfl, rfl, rfl, rfl, rfl, rfl⟩ := hl
          have n24 : g2 ≠ g4 := N24.out
          have n42 : g4 ≠ g2 := N24.out.symm
          go_wp2_with (fail)
          refine bodyPost_ret (results_ct rfl _ _ g2 61 #[.bool t.f0, .int .i64 t.f1, .bool t.f2, .int .u32 t.f3, .int .i64 t.f4, .bool t.f5, .bool t.f6, .int .u32 t.f7, .bool t.f8, .bool t.f9] (0, 0) _ rfl (by refine blk_put (cs := #[.bool t.f0, .int .i64 t.f1, .bool t.f2, .int .u32 t.f3, .int .i64 t.f4, .bool t.f5, .bool t.f6, .int .u32 t.f7, .bool t.f8, .bool false]) ?_ 9 _ rfl; refine blk_put (cs := #[.bool t.f0, .int .i64 t.f1, .bool t.f2, .int .u32 t.f3, .int .i64 t.f4, .bool t.f5, .bool t.f6, .int .u32 t.f7, .bool false, .bool false]) ?_ 8 _ rfl; refine blk_put (cs := #[.bool t.f0, .int .i64 t.f1, .bool t.f2, .int .u32 t.f3, .int .i64 t.f4, .bool t.f5, .bool t.f6, .int .u32 0, .bool false, .bool false]) ?_ 7 _ rfl; refine blk_put (cs := #[.bool t.f0, .int .i64 t.f1, .bool t.f2, .int .u32 t.f3, .int .i64 t.f4, .bool t.f5, .bool false, .int .u32 0, .bool false, .bool false]) ?_ 6 _ rfl; refine blk_put (cs := #[.bool t.f0, .int .i64 t.f1, .bool t.f2, .int .u32 t.f3, .int .i64 t.f4, .bool false, .bool false, .int .u32 0, .bool false, .bool false]) ?_ 5 _ rfl; refine blk_put (cs := #[.bool t.f0, .int .i64 t.f1, .bool t.f2, .int .u32 t.f3, .int .i64 0, .bool false, .bool false, .int .u32 0, .bool false, .bool false]) ?_ 4 _ rfl; refine blk_put (cs := #[.bool t.f0, .int .i64 t.f1, .bool t.f2, .int .u32 0, .int .i64 0, .bool false, .bool false, .int .u32 0, .bool false, .bool false]) ?_ 3 _ rfl; refine blk_put (cs := #[.bool t.f0, .int .i64 t.f1, .bool false, .int .u32 0, .int .i64 0, .bool false, .bool false, .int .u32 0, .bool false, .bool false]) ?_ 2 _ rfl; refine blk_put (cs := #[.bool t.f0, .int .i64 0, .bool false, .int .u32 0, .int .i64 0, .bool false, .bool false, .int .u32 0, .bool false, .bool false]) ?_ 1 _ rfl; refine blk_put (cs := #[.bool false, .int .i64 0, .bool false, .int .u32 0, .int .i64 0, .bool false, .bool false, .int .u32 0, .bool false, .bool false]) ?_ 0 _ rfl; exact BK2_4.out) Try.underlying61 rfl (by kernel_rfl)) rfl ?_
          exact ⟨rfl, by repeat (first | with_reducible exact HB4.out | with_reducible refine below_set ?_ GE2.out)⟩
  · rw [if_neg hw] at h
    cases h

end Go.Proofs.Ytnjimecjpnjojaa.Print
