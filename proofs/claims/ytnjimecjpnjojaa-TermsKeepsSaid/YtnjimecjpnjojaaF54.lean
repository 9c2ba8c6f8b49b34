-- laid by this session's own program (wip/mkprint.sh) for this claim
import Derived.Test.Ytnjimecjpnjojaa0
import Derived.Test.YtnjimecjpnjojaaF53
namespace Go.Proofs.Ytnjimecjpnjojaa.Print
open Go.RowKit Go.Proofs.YtnjimecjpnjojaaW.PrintWords Go.Proofs.YtnjimecjpnjojaaW.PrintLast Go.Proofs.YtnjimecjpnjojaaW.PrintMore
attribute [local go_sem] max2_int min2_int max_two min_two max_three min_three max_four min_four   -- for this text's walks alone
set_option linter.unusedVariables false
set_option linter.unusedSimpArgs false

/-! ### option_Twice: function 54 -/
def option_Twice.go : List S55 → List Int → Bool
  | [], _ => false
  | x :: m, s => if x.f0 ∈ s then true else option_Twice.go m (x.f0 :: s)
def option_Twice.f (l0 : List S55) : Option Bool := if (l0.all fun x => (Lit.int .i64 x.f0).wf) = true ∧ l0.length < 1000000 then some (option_Twice.go l0 []) else none
theorem plainElem_bool_inv {P : Program} {e : TypeId} (he : P.underlying e = some .bool) {v : Value} {x : Bool} {ps : List MemPlace} (h : plainElem (H := Value) P e v = some (.lit (.bool x), ps)) : v = .bool x := by
  unfold plainElem at h
  rw [he] at h
  cases v <;> simp at h
  rw [h.1]
theorem put_set (a : Int) (s : List Int) (x : Int) : (if x = a then (DataW.lit (.bool true) : DataW Value) else .lit (.bool (decide (x ∈ s)))) = .lit (.bool (decide (x ∈ a :: s))) := by
  by_cases e : x = a
  · rw [if_pos e, decide_eq_true (by rw [e]; exact List.mem_cons_self ..)]
  · rw [if_neg e, decide_eq_decide.2 ⟨List.mem_cons_of_mem _, fun hx => (List.mem_cons.1 hx).resolve_left e⟩]
/-- A set of ints. -/
def IntSet (w : World) (b n : Nat) (s : List Int) : Prop := MapIs Try.prog 3 (plainElem Try.prog 4) (.lit (.bool false)) w b n (fun a => .lit (.bool (decide (a ∈ s))))
theorem IntSet.look {w : World} {b n : Nat} {s : List Int} (h : IntSet w b n s) (a : Int) (ha : (Lit.int .i64 a).wf = true) : (Instr.lookup 97 (.map (some b)) (.int .i64 a) false).run Try.prog w = .ok (.bool (decide (a ∈ s))) w := by
  obtain ⟨v, ps, h1, h2⟩ := MapIs.look h Try.underlying3 Try.underlying97 (zv := .bool false) (by kernel_rfl) (plainElem_bool Try.underlying4 false) a ha
  rw [plainElem_bool_inv Try.underlying4 h2] at h1
  exact h1
theorem IntSet.put {w : World} {b n : Nat} {s : List Int} (h : IntSet w b n s) (hn : n < maxLen) (a : Int) (ha : (Lit.int .i64 a).wf = true) :
    ∃ w', (Instr.mapUpdate 97 (.map (some b)) (.int .i64 a) (.bool true)).run Try.prog w = .ok () w' ∧ IntSet w' b (n + 1) (a :: s) ∧ w.grownBy w' (some b) := by
  obtain ⟨w', h1, h2, h3⟩ := MapIs.put h Try.underlying3 Try.underlying97 hn a ha (plainElem_bool Try.underlying4 true)
  refine ⟨w', h1, ?_, h3⟩
  obtain ⟨D, ho, hf⟩ := h2.is
  exact ⟨⟨D, ho, fun x => (hf x).trans (put_set a s x)⟩⟩
theorem IntSet.made (w : World) : IntSet (w.alloc (.map #[] 0)) w.heap.size 0 [] := by
  obtain ⟨D, ho, hf⟩ := (MapIs.made w Try.prog 3 (plainElem Try.prog 4) (.lit (.bool false))).is
  exact ⟨⟨D, ho, fun a => (hf a).trans (by simp)⟩⟩
structure option_Twice.Round (w W : World) (b : Nat) (l : List S55) (j : Nat) (s : List Int) (r : Bool) : Prop where
  hm : IntSet W b j s
  hb : Below w.heap.size w W
  lb : w.heap.size ≤ b
  hl : option_Twice.go (l.drop j) s = r
theorem option_at (l : List S55) (j : Nat) (h : j < l.length) : l.drop j = rd_T55 l (j : Int) :: l.drop (j + 1) ∧ rd_T55 l (j : Int) ∈ l := by
  have e : rd_T55 l (j : Int) = l[j] := by
    unfold rd_T55
    rw [Int.toNat_natCast, List.getD_eq_getElem?_getD, List.getElem?_eq_getElem h]
    rfl
  rw [e]
  exact ⟨List.drop_eq_getElem_cons h, List.getElem_mem h⟩
set_option maxHeartbeats 8000000 in
set_option maxRecDepth 100000 in
theorem option_Twice.calls (A0 : Option Addr) (c0 : Nat) (l0 : List S55) (r : Bool) (w : World) (hr0 : Kd.C k55 w A0 l0.length l0) (hc0 : l0.length ≤ c0) (h : option_Twice.f l0 = some r) :
    Calls Try.prog 54 #[.slice A0 l0.length c0] w fun e w' => e = .returned (.bool r) ∧ Below w.heap.size w w' := by
  have huO := Try.underlying55
  unfold option_Twice.f at h
  by_cases hw : (l0.all fun x => (Lit.int .i64 x.f0).wf) = true ∧ l0.length < 1000000
  · rw [if_pos hw] at h
    have HWF := Aside0.mk (List.all_eq_true.1 hw.1)
    have HLN := Aside0.mk hw.2
    have hln : l0.length < 1000000 := hw.2
    have HG : Aside0 (option_Twice.go (l0.drop 0) [] = r) := ⟨by rw [List.drop_zero]; exact Option.some.inj h⟩
    have HR0 := Aside0.mk hr0
    have HC0 := Aside0.mk hc0
    have hmm := @run_makeMap Try.prog
    have HM := Aside0.mk (IntSet.made w)
    have HB := Aside0.mk (below_alloc (Below.refl w.heap.size w) (.map #[] 0))
    clear h hw hr0 hc0
    go_enter Try.func54, Try.ntmps54
    go_wp2_with (fail)
    go_loopg [9] l0.length (fun kq v9 w' => ∃ (j : Nat) (s : List Int), kq + j = l0.length ∧ v9 = .int .i64 (j : Int) ∧ Aside0 (option_Twice.Round w w' w.heap.size l0 j s r))
    case atStart => exact ⟨0, [], rfl, rfl, ⟨⟨HM.out, HB.out, Nat.le_refl _, HG.out⟩⟩⟩
    case round =>
      obtain ⟨j, s, hj, rfl, HI⟩ := hrel
      clear HM HB HG hmm
      obtain ⟨hm, hb, lb, hl⟩ := HI.out
      clear HI
      by_cases hlt : j < l0.length
      · have c1 : decide ((j : Int) < (l0.length : Int)) = true := decide_eq_true (by omega)
        obtain ⟨hdr, hmem⟩ := option_at l0 j hlt
        have hwf := HWF.out _ hmem
        have p1 : (0 : Int) ≤ (j : Int) := by omega
        have q1 : (j : Int) < (l0.length : Int) := by omega
        obtain ⟨ad, Ax, cx, e0, hx0, hx1, hlx, hix⟩ := at_T55 HR0.out (j : Int) p1 q1
        rw [hdr, option_Twice.go] at hl
        generalize rd_T55 l0 (j : Int) = x at hx0 hx1 hlx hix hwf hl
        cases e0
        rw [Int.toNat_natCast] at hx0 hx1
        replace hx0 := (hb.cell (World.block_lt_of_cell? w _ hx0)).trans hx0
        replace hx1 := (hb.cell (World.block_lt_of_cell? w _ hx1)).trans hx1
        have HWX := Aside0.mk hwf
        have HM := Aside0.mk hm
        have HB := Aside0.mk hb
        have LB := Aside0.mk lb
        have HL := Aside0.mk hl
        have HJ := Aside0.mk hj
        clear hdr hmem hm hb lb hl hlx hix hwf hj
        go_upto_region 5 with (((with_reducible refine gate_dst (N := 5) rfl ?_); refine box_event ?hg (N := 5) ?hd (cs := #[.int .i64 0, .slice none 0 0]) (t := 55) ?hr ?_; (case hd => rfl); (case hg => rfl); (case hr => first | (go_simp; done) | (go_simp; rfl)); intro g5 hg w5 hbox hb; have BK5 := Aside0.mk hbox; have GE5 : Aside0 (w.heap.size ≤ g5) := ⟨by rw [hg]; exact below_size HB.out⟩; have M5 : Aside0 (IntSet w5 w.heap.size j s) := ⟨MapIs.below HM.out hb⟩; have HB5 := Aside0.mk (below_step HB.out hb); replace hx0 := (hb.cell (World.block_lt_of_cell? _ _ hx0)).trans hx0; replace hx1 := (hb.cell (World.block_lt_of_cell? _ _ hx1)).trans hx1; clear hg hbox hb HM HB; have hc5_0 : w5.cell? ⟨g5, 0, none⟩ = some (.int .i64 0) := (blk_cell BK5.out 0).trans rfl; have hf5_0 := blk_frozen BK5.out 0; have hc5_1 : w5.cell? ⟨g5, 1, none⟩ = some (.slice none 0 0) := (blk_cell BK5.out 1).trans rfl; have hf5_1 := blk_frozen BK5.out 1))
        have BK6 := Aside0.mk (show ((w5.setCell ⟨g5, 0, none⟩ (.int .i64 x.f0)).setCell ⟨g5, 1, none⟩ (.slice Ax x.f1.length cx)).heap[g5]? = some (.cells #[.int .i64 x.f0, .slice Ax x.f1.length cx] 55 (0, 0)) from by refine blk_put (cs := #[.int .i64 x.f0, .slice none 0 0]) ?_ 1 _ rfl; refine blk_put (cs := #[.int .i64 0, .slice none 0 0]) ?_ 0 _ rfl; exact BK5.out)
        have M6 : Aside0 (IntSet ((w5.setCell ⟨g5, 0, none⟩ (.int .i64 x.f0)).setCell ⟨g5, 1, none⟩ (.slice Ax x.f1.length cx)) w.heap.size j s) := ⟨MapIs.set (MapIs.set M5.out (MapIs.ne M5.out BK5.out) _) (MapIs.ne M5.out BK5.out) _⟩
        have HB6 := Aside0.mk (below_set (j := 1) (v := .slice Ax x.f1.length cx) (below_set (j := 0) (v := .int .i64 x.f0) HB5.out GE5.out) GE5.out)
        generalize (w5.setCell ⟨g5, 0, none⟩ (.int .i64 x.f0)).setCell ⟨g5, 1, none⟩ (.slice Ax x.f1.length cx) = w6 at BK6 M6 HB6 ⊢
        clear BK5 M5 HB5 hx0 hx1 hc5_0 hf5_0 hc5_1 hf5_1
        have hc6_0 : w6.cell? ⟨g5, 0, none⟩ = some (.int .i64 x.f0) := (blk_cell BK6.out 0).trans rfl
        have hf6_0 := blk_frozen BK6.out 0
        have hc6_1 : w6.cell? ⟨g5, 1, none⟩ = some (.slice Ax x.f1.length cx) := (blk_cell BK6.out 1).trans rfl
        have hf6_1 := blk_frozen BK6.out 1
        have hlk := M6.out.look x.f0 HWX.out
        obtain ⟨w7, hup, m7, g7⟩ := M6.out.put (by have := HLN.out; have := HJ.out; unfold maxLen; omega) x.f0 HWX.out
        have M7 := Aside0.mk m7
        have HB7 := Aside0.mk (below_grown HB6.out g7 (Nat.le_refl _))
        have BK7 := Aside0.mk ((g7.block g5 (blk_lt BK6.out) (by simp; exact (MapIs.ne M6.out BK6.out).symm)).trans BK6.out)
        clear m7 g7
        by_cases hin : x.f0 ∈ s
        · have hd : decide (x.f0 ∈ s) = true := decide_eq_true hin
          have HE : Aside0 (true = r) := ⟨by have := HL.out; rw [if_pos hin] at this; exact this⟩
          rw [hd] at hlk
          clear hd hin HL hup
          go_wp2_with (fail)
          go_ret
          exact ⟨by rw [← HE.out]; rfl, HB6.out⟩
        · have hd : decide (x.f0 ∈ s) = false := decide_eq_false hin
          have HE : Aside0 (option_Twice.go (l0.drop (j + 1)) (x.f0 :: s) = r) := ⟨by have := HL.out; rw [if_neg hin] at this; exact this⟩
          rw [hd] at hlk
          clear hd hin HL
          have hjw : IntKind.i64.wrap ((j : Int) + 1) = ((j + 1 : Nat) : Int) := by rw [IntWalk.i64_in _ (by have := HLN.out; omega)]; omega
          obtain ⟨gk2, rfl⟩ : ∃ q, gk = q + 1 := ⟨gk - 1, by have := HJ.out; omega⟩
          go_wp2_with (fail)
          go_roundg gk2
          case measure => omega
          case rel => exact ⟨j + 1, x.f0 :: s, by have := HJ.out; omega, rfl, ⟨⟨M7.out, HB7.out, Nat.le_refl _, HE.out⟩⟩⟩
      · have c1 : decide ((j : Int) < (l0.length : Int)) = false := decide_eq_false (by omega)
        obtain rfl : j = l0.length := by omega
        rw [List.drop_length] at hl
        have HE : Aside0 (false = r) := ⟨hl⟩
        have HB := Aside0.mk hb
        clear hm hb lb hl hj
        go_wp2_with (fail)
        go_ret
        exact ⟨by rw [← HE.out]; rfl, HB.out⟩
  · rw [if_neg hw] at h
    cases h

end Go.Proofs.Ytnjimecjpnjojaa.Print
