-- laid by this session's own program (wip/mkprint.sh) for this claim
import Derived.Test.Ytnjimecjpnjojaa0
import Derived.Test.YtnjimecjpnjojaaF27
import Derived.Test.YtnjimecjpnjojaaF29
import Derived.Test.YtnjimecjpnjojaaF53
import Derived.Test.YtnjimecjpnjojaaF54
import Derived.Test.YtnjimecjpnjojaaF63
import Derived.Test.YtnjimecjpnjojaaF64
namespace Go.Proofs.Ytnjimecjpnjojaa.Print
open Go.RowKit Go.Proofs.YtnjimecjpnjojaaW.PrintWords Go.Proofs.YtnjimecjpnjojaaW.PrintLast Go.Proofs.YtnjimecjpnjojaaW.PrintMore
attribute [local go_sem] max2_int min2_int max_two min_two max_three min_three max_four min_four   -- for this text's walks alone
set_option linter.unusedVariables false
set_option linter.unusedSimpArgs false

/-! ### terms_Bad: function 40 -/
def terms_Bad.go (k : Nat) : List S55 → List Int → List S55 → List S55 → Option (List S55 × List S55)
  | [], _, a, ch => some (a, ch)
  | x :: m, s, a, ch => (terms_Known.f x.f0).bind fun kn => if (!kn || decide (x.f0 ∈ s)) = true then (octet_Behind.f x.f1 0).bind fun d => terms_Bad.go k m (x.f0 :: s) (a ++ [(⟨x.f0, d⟩ : S55)]) ch
      else (terms_Right.f k x.f0 x.f1).bind fun rt => if rt = true then terms_Bad.go k m (x.f0 :: s) a ch else terms_Bad.go k m (x.f0 :: s) a (ch ++ [(⟨x.f0, terms_instead.bytes x.f0⟩ : S55)])
def terms_Bad.f (k : Nat) (l0 : List S55) : Option (List S55 × List S55) := if (l0.all fun x => (Lit.int .i64 x.f0).wf) = true ∧ l0.length < 1000 then terms_Bad.go k l0 [] [] [] else none
theorem terms_Bad.mono_go (k : Nat) : ∀ (l : List S55) (s : List Int) (a ch : List S55), LeO (terms_Bad.go k l s a ch) (terms_Bad.go (k + 1) l s a ch)
  | [], _, _, _ => LeO.refl _
  | x :: m, s, a, ch => LeO.bind (LeO.refl _) fun kn => LeO.ite (LeO.bind (LeO.refl _) fun d => terms_Bad.mono_go k m _ _ _) (LeO.bind (terms_Right.mono _ _ k) fun rt => LeO.ite (terms_Bad.mono_go k m _ _ _) (terms_Bad.mono_go k m _ _ _))
theorem terms_Bad.mono (l0 : List S55) (k : Nat) : LeO (terms_Bad.f k l0) (terms_Bad.f (k + 1) l0) := by
  unfold terms_Bad.f
  exact LeO.ite (terms_Bad.mono_go k l0 _ _ _) (LeO.refl _)
theorem S_over_map {α : Type} {d : Kd α} {e base : Nat} {ok : Nat → Prop} {w w1 : World} {v : Value} {xs : List α} {b n : Nat} {s : List Int} (h : Kd.S d e w base ok v xs) (hm : IntSet w b n s) (hg : w.grownBy w1 (some b)) : Kd.S d e w1 base ok v xs :=
  Kd.S_mono (Kd.S_grown (Kd.S_bound h) hg (fun k hk e => by obtain ⟨_, _, _, q, _, cells, hc⟩ := hk; injection e with e; exact MapIs.ne hm hc e.symm)) (fun k hk => hk.1)
structure terms_Bad.Round (w W : World) (b k : Nat) (l : List S55) (j : Nat) (s : List Int) (v4 v5 : Value) (a ch : List S55) (r : List S55 × List S55) : Prop where
  hm : IntSet W b j s
  h4 : Kd.S k55 55 W w.heap.size (fun k_ => some k_ ≠ v5.ownBlock) v4 a
  h5 : Kd.S k55 55 W w.heap.size (fun k_ => some k_ ≠ v4.ownBlock) v5 ch
  hb : Below w.heap.size w W
  lb : w.heap.size ≤ b
  la : a.length ≤ j
  lc : ch.length ≤ j
  hl : terms_Bad.go k (l.drop j) s a ch = some r
set_option maxHeartbeats 16000000 in
set_option maxRecDepth 100000 in
theorem terms_Bad.calls (k : Nat) (A0 : Option Addr) (c0 : Nat) (l0 : List S55) (r1 r2 : List S55) (w : World) (hr0 : Kd.C k55 w A0 l0.length l0) (hc0 : l0.length ≤ c0) (h : terms_Bad.f k l0 = some (r1, r2)) :
    Calls Try.prog 40 #[.slice A0 l0.length c0] w fun e w' => ∃ v0_ v1_ : Value, e = .returned (.tuple #[v0_, v1_]) ∧ Kd.S k55 55 w' w.heap.size (fun k_ => some k_ ≠ (v1_ : Value).ownBlock) v0_ r1 ∧ Kd.S k55 55 w' w.heap.size (fun k_ => some k_ ≠ (v0_ : Value).ownBlock) v1_ r2 ∧ Below w.heap.size w w' := by
  have huO := Try.underlying55
  unfold terms_Bad.f at h
  by_cases hw : (l0.all fun x => (Lit.int .i64 x.f0).wf) = true ∧ l0.length < 1000
  · rw [if_pos hw] at h
    have HWF := Aside0.mk (List.all_eq_true.1 hw.1)
    have HLN := Aside0.mk hw.2
    have HG : Aside0 (terms_Bad.go k (l0.drop 0) [] [] [] = some (r1, r2)) := ⟨by rw [List.drop_zero]; exact h⟩
    have HR0 := Aside0.mk hr0
    have HC0 := Aside0.mk hc0
    have hmm := @run_makeMap Try.prog
    have HM := Aside0.mk (IntSet.made w)
    have HB := Aside0.mk (below_alloc (Below.refl w.heap.size w) (.map #[] 0))
    clear h hw hr0 hc0
    go_enter Try.func40, Try.ntmps40
    go_wp2_with (fail)
    go_loopg [4, 5, 12] l0.length (fun kq v4 v5 v12 w' => ∃ (j : Nat) (s : List Int) (a ch : List S55), kq + j = l0.length ∧ v12 = .int .i64 (j : Int) ∧ Aside0 (terms_Bad.Round w w' w.heap.size k l0 j s v4 v5 a ch (r1, r2)))
    case atStart => exact ⟨0, [], [], [], rfl, rfl, ⟨⟨HM.out, Kd.S_nil _ _ _ _ _, Kd.S_nil _ _ _ _ _, HB.out, Nat.le_refl _, Nat.le_refl _, Nat.le_refl _, HG.out⟩⟩⟩
    case round =>
      obtain ⟨j, s, a, ch, hj, rfl, HI⟩ := hrel
      clear HM HB HG hmm
      have HM := Aside0.mk HI.out.hm
      have H4 := Aside0.mk HI.out.h4
      have H5 := Aside0.mk HI.out.h5
      have HB := Aside0.mk HI.out.hb
      have LB := Aside0.mk HI.out.lb
      have LA := Aside0.mk HI.out.la
      have LC := Aside0.mk HI.out.lc
      have hl := HI.out.hl
      clear HI
      by_cases hlt : j < l0.length
      · have c1 : decide ((j : Int) < (l0.length : Int)) = true := decide_eq_true (by omega)
        obtain ⟨hdr, hmem⟩ := option_at l0 j hlt
        have hwf := HWF.out _ hmem
        have p1 : (0 : Int) ≤ (j : Int) := by omega
        have q1 : (j : Int) < (l0.length : Int) := by omega
        obtain ⟨ad, Ax, cx, e0, hx0, hx1, hlx, hix⟩ := at_T55 HR0.out (j : Int) p1 q1
        rw [hdr, terms_Bad.go] at hl
        generalize rd_T55 l0 (j : Int) = x at hx0 hx1 hlx hix hwf hl
        cases e0
        rw [Int.toNat_natCast] at hx0 hx1
        replace hx0 := (HB.out.cell (World.block_lt_of_cell? w _ hx0)).trans hx0
        replace hx1 := (HB.out.cell (World.block_lt_of_cell? w _ hx1)).trans hx1
        obtain ⟨kn, hkn, hl⟩ := Option.bind_eq_some_iff.1 hl
        have HKW := Aside0.mk hkn
        have HWX := Aside0.mk hwf
        have HL := Aside0.mk hl
        have HJ := Aside0.mk hj
        have HLX := Aside0.mk hlx
        have HIX := Aside0.mk hix
        have LT4 := Aside0.mk (Kd.S_lt H4.out)
        have LT5 := Aside0.mk (Kd.S_lt H5.out)
        clear hdr hmem hl hlx hix hwf hj hkn
        go_upto_region 6 with (((with_reducible refine gate_dst (N := 8) rfl ?_); refine box_event ?hg (N := 8) ?hd (cs := #[.int .i64 0, .slice none 0 0]) (t := 55) ?hr ?_; (case hd => rfl); (case hg => rfl); (case hr => first | (go_simp; done) | (go_simp; rfl)); intro g8 hg w5 hbox hb; have BK5 := Aside0.mk hbox; have GE8 : Aside0 (wr.heap.size ≤ g8) := ⟨by rw [hg]; exact Nat.le_refl _⟩; have HBr5 := Aside0.mk hb; replace hx0 := (hb.cell (World.block_lt_of_cell? _ _ hx0)).trans hx0; replace hx1 := (hb.cell (World.block_lt_of_cell? _ _ hx1)).trans hx1; clear hg hbox hb; have hc5_0 : w5.cell? ⟨g8, 0, none⟩ = some (.int .i64 0) := (blk_cell BK5.out 0).trans rfl; have hf5_0 := blk_frozen BK5.out 0; have hc5_1 : w5.cell? ⟨g8, 1, none⟩ = some (.slice none 0 0) := (blk_cell BK5.out 1).trans rfl; have hf5_1 := blk_frozen BK5.out 1))
        have BK6 := Aside0.mk (show ((w5.setCell ⟨g8, 0, none⟩ (.int .i64 x.f0)).setCell ⟨g8, 1, none⟩ (.slice Ax x.f1.length cx)).heap[g8]? = some (.cells #[.int .i64 x.f0, .slice Ax x.f1.length cx] 55 (0, 0)) from by refine blk_put (cs := #[.int .i64 x.f0, .slice none 0 0]) ?_ 1 _ rfl; refine blk_put (cs := #[.int .i64 0, .slice none 0 0]) ?_ 0 _ rfl; exact BK5.out)
        have HBr6 := Aside0.mk (below_set (j := 1) (v := .slice Ax x.f1.length cx) (below_set (j := 0) (v := .int .i64 x.f0) HBr5.out GE8.out) GE8.out)
        generalize (w5.setCell ⟨g8, 0, none⟩ (.int .i64 x.f0)).setCell ⟨g8, 1, none⟩ (.slice Ax x.f1.length cx) = w6 at BK6 HBr6 ⊢
        clear BK5 HBr5 hx0 hx1 hc5_0 hf5_0 hc5_1 hf5_1
        have hc6_0 : w6.cell? ⟨g8, 0, none⟩ = some (.int .i64 x.f0) := (blk_cell BK6.out 0).trans rfl
        have hf6_0 := blk_frozen BK6.out 0
        have hc6_1 : w6.cell? ⟨g8, 1, none⟩ = some (.slice Ax x.f1.length cx) := (blk_cell BK6.out 1).trans rfl
        have hf6_1 := blk_frozen BK6.out 1
        go_cut [16] from 17 to 26 (fun v16 wx => v16 = .bool (!kn || decide (x.f0 ∈ s)) ∧ Aside0 (Below wr.heap.size wr wx) ∧ Aside0 (wx.heap[g8]? = some (.cells #[.int .i64 x.f0, .slice Ax x.f1.length cx] 55 (0, 0))))
        case first =>
          go_wp2_with (fail)
          refine (terms_Known.calls x.f0 kn _ HKW.out).mono ?_
          rintro e w7 ⟨rfl, hb⟩
          have BK7 := Aside0.mk (blk_below BK6.out hb)
          have HBr7 := Aside0.mk (below_step HBr6.out hb)
          have M7 : Aside0 (IntSet w7 w.heap.size j s) := ⟨MapIs.below HM.out HBr7.out⟩
          have hlk := M7.out.look x.f0 HWX.out
          clear hb BK6 HBr6 hc6_0 hf6_0 hc6_1 hf6_1
          have hc7_0 : w7.cell? ⟨g8, 0, none⟩ = some (.int .i64 x.f0) := (blk_cell BK7.out 0).trans rfl
          have hf7_0 := blk_frozen BK7.out 0
          have hc7_1 : w7.cell? ⟨g8, 1, none⟩ = some (.slice Ax x.f1.length cx) := (blk_cell BK7.out 1).trans rfl
          have hf7_1 := blk_frozen BK7.out 1
          cases kn with
          | false =>
            go_wp2_with (fail)
            go_meet
            case rel => exact ⟨rfl, HBr7, BK7⟩
          | true =>
            go_wp2_with (fail)
            go_meet
            case rel => exact ⟨by simp, HBr7, BK7⟩
        case rest =>
          obtain ⟨rfl, HBr, BK8⟩ := hcut
          clear BK6 HBr6 hc6_0 hf6_0 hc6_1 hf6_1
          have M8 : Aside0 (IntSet wc w.heap.size j s) := ⟨MapIs.below HM.out HBr.out⟩
          have S4t := Aside0.mk (Kd.S_below H4.out HBr.out)
          have S5t := Aside0.mk (Kd.S_below H5.out HBr.out)
          have HB8 := Aside0.mk (below_step HB.out HBr.out)
          have LW := Aside0.mk HBr.out.size
          have hjw : IntKind.i64.wrap ((j : Int) + 1) = ((j + 1 : Nat) : Int) := by rw [IntWalk.i64_in _ (by have := HLN.out; omega)]; omega
          obtain ⟨gk2, rfl⟩ : ∃ q, gk = q + 1 := ⟨gk - 1, by have := HJ.out; omega⟩
          have NB8 : Aside0 (w.heap.size ≠ g8) := ⟨MapIs.ne M8.out BK8.out⟩
          have N48 : Aside0 (some g8 ≠ u4.ownBlock) := ⟨fun e_ => absurd (LT4.out g8 e_.symm) (by have := GE8.out; omega)⟩
          have N58 : Aside0 (some g8 ≠ u5.ownBlock) := ⟨fun e_ => absurd (LT5.out g8 e_.symm) (by have := GE8.out; omega)⟩
          by_cases hcond : (!kn || decide (x.f0 ∈ s)) = true
          · have hl := HL.out
            rw [if_pos hcond] at hl
            rw [hcond]
            obtain ⟨d, hd, hl⟩ := Option.bind_eq_some_iff.1 hl
            have HBD := Aside0.mk hd
            have HE := Aside0.mk hl
            clear hcond HL hd hl
            go_wp2_with (fail)
            refine start_ (n := 10) (S := fun w' => w'.cell? ⟨g8, 0, none⟩ = some (.int .i64 x.f0) ∧ w'.cell? ⟨g8, 1, none⟩ = some (.slice Ax x.f1.length cx)) (ds := []) #[false, false, false, false, false, false, false, false, false, false] (by kernel_rfl) rfl rfl ⟨((blk_cell (blk_drew BK8.out) 0).trans rfl), ((blk_cell (blk_drew BK8.out) 1).trans rfl)⟩ (fun hHeld => ?_)
            refine pure_ (i := 0) (N := some 27) (v := ?_) (a' := ?_) #[true, false, false, false, false, false, false, false, false, false] rfl rfl (by kernel_rfl) (fun _ _ _ h => h) (Or.inl ⟨by rfl, ?_⟩) ?_ ?_
            rotate_left
            · intro w'
              go_simp
              with_reducible rfl
            rotate_left
            · simp only [Act.put, List.setIfInBounds_toArray, List.set_cons_zero, List.set_cons_succ, i64_w, i32_w]
              rfl
            refine pure_ (i := 1) (N := some 28) (v := ?_) (a' := ?_) #[true, true, false, false, false, false, false, false, false, false] rfl rfl (by kernel_rfl) (fun _ _ _ h => h) (Or.inl ⟨by rfl, ?_⟩) ?_ ?_
            rotate_left
            · intro w'
              go_simp
              with_reducible rfl
            rotate_left
            · simp only [Act.put, List.setIfInBounds_toArray, List.set_cons_zero, List.set_cons_succ, i64_w, i32_w]
              rfl
            refine pure_ (i := 3) (N := some 30) (v := ?_) (a' := ?_) #[true, true, false, true, false, false, false, false, false, false] rfl rfl (by kernel_rfl) (fun _ _ _ h => h) (Or.inl ⟨by rfl, ?_⟩) ?_ ?_
            rotate_left
            · intro w'
              go_simp
              with_reducible rfl
            rotate_left
            · simp only [Act.put, List.setIfInBounds_toArray, List.set_cons_zero, List.set_cons_succ, i64_w, i32_w]
              rfl
            refine take_ (i := 2) (N := some 29) (v := ?_) (a' := ?_) #[true, true, true, true, false, false, false, false, false, false] rfl rfl (by kernel_rfl) (fun _ _ _ h => h) (Or.inl ⟨by rfl, ?_⟩) hHeld ?_ ?_
            rotate_left
            · rintro w' ⟨s0, s1⟩
              go_simp
              with_reducible rfl
            rotate_left
            · simp only [Act.put, List.setIfInBounds_toArray, List.set_cons_zero, List.set_cons_succ, i64_w, i32_w]
              rfl
            refine take_ (i := 4) (N := some 31) (v := ?_) (a' := ?_) #[true, true, true, true, true, false, false, false, false, false] rfl rfl (by kernel_rfl) (fun _ _ _ h => h) (Or.inl ⟨by rfl, ?_⟩) hHeld ?_ ?_
            rotate_left
            · rintro w' ⟨s0, s1⟩
              go_simp
              with_reducible rfl
            rotate_left
            · simp only [Act.put, List.setIfInBounds_toArray, List.set_cons_zero, List.set_cons_succ, i64_w, i32_w]
              rfl
            refine one_ (i := 5) (N := some 32) #[true, true, true, true, true, true, false, false, false, false] rfl rfl (by kernel_rfl) (by decide) (fun K hK => ?_)
            refine goes_ Try.func63 (by kernel_rfl) rfl #[.slice Ax x.f1.length cx, .int .i64 0] (by rfl) rfl rfl (by simp only [List.map_toArray, List.map_cons, List.map_nil]; rfl) ?_
            with_reducible refine (octet_Behind.calls Ax cx x.f1 0 d _ (Kd.C_below HIX.out (below_drew HB8.out)) HLX.out HBD.out).mono ?_
            rintro e w8 ⟨vd, rfl, hd, hb⟩
            refine ⟨_, rfl, ?_⟩
            have BK8a := Aside0.mk (blk_below (blk_drew BK8.out) hb)
            have HBr8 := Aside0.mk (below_step (below_drew HBr.out) hb)
            have HB8a := Aside0.mk (below_step (below_drew HB8.out) hb)
            have HD8 := Aside0.mk (Kd.R_lower hd (below_size (below_drew HB8.out)))
            have S4a := Aside0.mk (Kd.S_elder' (Kd.S_drew S4t.out) (Kd.R_base hd) hb)
            have LD := Aside0.mk (Kd.R_base hd)
            obtain ⟨Ad, cd, rfl⟩ := Kd.R_slice HD8.out
            clear hd hb
            refine hK.out _ _ ⟨((blk_cell (BK8a.out) 0).trans rfl), ((blk_cell (BK8a.out) 1).trans rfl)⟩ (fun hHeld => ?_)
            clear hK K
            refine norm_ (a' := ?_) ?_ ?_
            rotate_left
            · show Act.put _ (some 32) _ = _
              simp only [Act.put, List.setIfInBounds_toArray, List.set_cons_zero, List.set_cons_succ, i64_w, i32_w]
              rfl
            refine pure_ (i := 6) (N := some 33) (v := ?_) (a' := ?_) #[true, true, true, true, true, true, true, false, false, false] rfl rfl (by kernel_rfl) (fun _ _ _ h => h) (Or.inl ⟨by rfl, ?_⟩) ?_ ?_
            rotate_left
            · intro w'
              go_simp
              with_reducible rfl
            rotate_left
            · simp only [Act.put, List.setIfInBounds_toArray, List.set_cons_zero, List.set_cons_succ, i64_w, i32_w]
              rfl
            refine one_ (i := 7) (N := some 34) #[true, true, true, true, true, true, true, true, false, false] rfl rfl (by kernel_rfl) (by decide) (fun K hK => ?_)
            refine value_ (w1 := ?_) (v := ?_) (by rfl) rfl ?_ ?_
            rotate_left 2
            · go_simp
              constructor
              · rfl
              · rfl
            refine hK.out _ _ ⟨((blk_cell (blk_alloc BK8a.out _) 0).trans rfl), ((blk_cell (blk_alloc BK8a.out _) 1).trans rfl)⟩ (fun hHeld => ?_)
            clear hK K
            refine norm_ (a' := ?_) ?_ ?_
            rotate_left
            · show Act.put _ (some 34) _ = _
              simp only [Act.put, List.setIfInBounds_toArray, List.set_cons_zero, List.set_cons_succ, i64_w, i32_w]
              rfl
            refine one_ (i := 8) (N := some 35) #[true, true, true, true, true, true, true, true, true, false] rfl rfl (by kernel_rfl) (by decide) (fun K hK => ?_)
            refine Kd.S_append_step k55 (w0 := w) w.heap.size (by rfl) (.tmp 27) (.tmp 34) 58 55 (.agg #[(.int .i64 0), (.slice none 0 0)]) 32 rfl Try.underlying58 info55 rfl (by decide) (by omega) u4 a (⟨x.f0, d⟩ : S55) [.int .i64 x.f0, .slice Ad d.length cd] (fun k_ => some k_ ≠ u5.ownBlock) (fun k_ => some k_ = (.slice Ad d.length cd : Value).ownBlock) rfl rfl ?aP ?aK ?aF ?aO ?aB ?aS ?aL ?_
            (case aP => exact k55_mkM _ _ _ _ (Kd.R_mono (Kd.R_tight rfl HD8.out) (fun _ h => h)))
            (case aK => exact fun k_ hk => ⟨fun e_ => absurd (LT5.out k_ e_.symm) (by have := LD.out k_ hk.symm; have := LW.out; have h_ : wc.drew.heap.size = wc.heap.size := rfl; omega), fun e_ => absurd (LT4.out k_ e_.symm) (by have := LD.out k_ hk.symm; have := LW.out; have h_ : wc.drew.heap.size = wc.heap.size := rfl; omega)⟩)
            (case aB => exact HB8a.out)
            (case aF => exact fun k_ hk e_ => absurd (LT5.out k_ e_.symm) (by have := HBr8.out.size; omega))
            (case aO => exact S4a.out)
            (case aS => exact HB8a.out.size)
            (case aL => have := LA.out; have := HLN.out; have := HJ.out; omega)
            intro u9 w9 ho hb hg hat
            have S4b := Aside0.mk ho
            have HB9 := Aside0.mk hb
            have BK9 := Aside0.mk (blk_grown BK8a.out hg N48.out)
            have S5b := Aside0.mk (Kd.S_mono (Kd.S_after (ok := fun _ => True) (Kd.S_mono (Kd.S_below H5.out HBr8.out) (fun _ h_ => ⟨trivial, h_⟩)) hg hat) (fun _ h_ => h_.2))
            have M9 : Aside0 (IntSet w9 w.heap.size j s) := ⟨MapIs.kept (MapIs.below HM.out HBr8.out) (hg.block _ (Nat.lt_of_lt_of_le (MapIs.lt HM.out) HBr8.out.size) (fun e_ => by obtain ⟨cells, hc⟩ := Kd.S_typed (Kd.S_below H4.out HBr8.out) _ e_.symm; exact MapIs.ne (MapIs.below HM.out HBr8.out) hc rfl))⟩
            clear ho hb hg hat
            refine hK.out _ _ ⟨((blk_cell (BK9.out) 0).trans rfl), ((blk_cell (BK9.out) 1).trans rfl)⟩ (fun hHeld => ?_)
            clear hK K
            refine norm_ (a' := ?_) ?_ ?_
            rotate_left
            · show Act.put _ (some 35) _ = _
              simp only [Act.put, List.setIfInBounds_toArray, List.set_cons_zero, List.set_cons_succ, i64_w, i32_w]
              rfl
            refine pure_ (i := 9) (N := some 4) (v := ?_) (a' := ?_) #[true, true, true, true, true, true, true, true, true, true] rfl rfl (by kernel_rfl) (fun _ _ _ h => h) (Or.inl ⟨by rfl, ?_⟩) ?_ ?_
            rotate_left
            · intro w'
              go_simp
              with_reducible rfl
            rotate_left
            · simp only [Act.put, List.setIfInBounds_toArray, List.set_cons_zero, List.set_cons_succ, i64_w, i32_w]
              rfl
            refine done_ (by kernel_rfl) ?_
            obtain ⟨w10, hup, m10, g10⟩ := M9.out.put (by have := HLN.out; have := HJ.out; unfold maxLen; omega) x.f0 HWX.out
            have M10 := Aside0.mk m10
            have HB10 := Aside0.mk (below_grown HB9.out g10 (Nat.le_refl _))
            have S4c := Aside0.mk (S_over_map S4b.out M9.out g10)
            have S5c := Aside0.mk (S_over_map S5b.out M9.out g10)
            clear m10 g10
            have hc9a_0 : w9.cell? ⟨g8, 0, none⟩ = some (.int .i64 x.f0) := (blk_cell BK9.out 0).trans rfl
            have hf9a_0 := blk_frozen BK9.out 0
            have hc9a_1 : w9.cell? ⟨g8, 1, none⟩ = some (.slice Ax x.f1.length cx) := (blk_cell BK9.out 1).trans rfl
            have hf9a_1 := blk_frozen BK9.out 1
            go_wp2_with (fail)
            go_roundg gk2
            case measure => omega
            case rel => exact ⟨j + 1, x.f0 :: s, a ++ [(⟨x.f0, d⟩ : S55)], ch, by have := HJ.out; omega, rfl, ⟨⟨M10.out, S4c.out, S5c.out, HB10.out, Nat.le_refl _, by rw [List.length_append]; simp only [List.length_cons, List.length_nil]; have := LA.out; omega, by have := LC.out; omega, HE.out⟩⟩⟩
          · have hl := HL.out
            rw [if_neg hcond] at hl
            have hcf : (!kn || decide (x.f0 ∈ s)) = false := by simpa using hcond
            rw [hcf]
            obtain ⟨rt, hrt, hl⟩ := Option.bind_eq_some_iff.1 hl
            have HRT := Aside0.mk hrt
            have HE := Aside0.mk hl
            clear hcond hcf HL hrt hl
            have hc8b_0 : wc.cell? ⟨g8, 0, none⟩ = some (.int .i64 x.f0) := (blk_cell BK8.out 0).trans rfl
            have hf8b_0 := blk_frozen BK8.out 0
            have hc8b_1 : wc.cell? ⟨g8, 1, none⟩ = some (.slice Ax x.f1.length cx) := (blk_cell BK8.out 1).trans rfl
            have hf8b_1 := blk_frozen BK8.out 1
            go_wp2_with (fail)
            refine (terms_Right.calls k x.f0 Ax cx x.f1 rt _ (Kd.C_below HIX.out HB8.out) HLX.out HRT.out).mono ?_
            rintro e w9 ⟨rfl, hb⟩
            have BK9 := Aside0.mk (blk_below BK8.out hb)
            have HBr9 := Aside0.mk (below_step HBr.out hb)
            have HB9 := Aside0.mk (below_step HB8.out hb)
            have M9 : Aside0 (IntSet w9 w.heap.size j s) := ⟨MapIs.below HM.out HBr9.out⟩
            have S4b := Aside0.mk (Kd.S_below H4.out HBr9.out)
            have S5b := Aside0.mk (Kd.S_below H5.out HBr9.out)
            clear hb BK8 HBr M8 S4t S5t HB8 hc8b_0 hf8b_0 hc8b_1 hf8b_1
            have hc9b_0 : w9.cell? ⟨g8, 0, none⟩ = some (.int .i64 x.f0) := (blk_cell BK9.out 0).trans rfl
            have hf9b_0 := blk_frozen BK9.out 0
            have hc9b_1 : w9.cell? ⟨g8, 1, none⟩ = some (.slice Ax x.f1.length cx) := (blk_cell BK9.out 1).trans rfl
            have hf9b_1 := blk_frozen BK9.out 1
            cases rt with
            | true =>
              obtain ⟨w10, hup, m10, g10⟩ := M9.out.put (by have := HLN.out; have := HJ.out; unfold maxLen; omega) x.f0 HWX.out
              have M10 := Aside0.mk m10
              have HB10 := Aside0.mk (below_grown HB9.out g10 (Nat.le_refl _))
              have S4c := Aside0.mk (S_over_map S4b.out M9.out g10)
              have S5c := Aside0.mk (S_over_map S5b.out M9.out g10)
              clear m10 g10
              go_wp2_with (fail)
              go_roundg gk2
              case measure => omega
              case rel => exact ⟨j + 1, x.f0 :: s, a, ch, by have := HJ.out; omega, rfl, ⟨⟨M10.out, S4c.out, S5c.out, HB10.out, Nat.le_refl _, by have := LA.out; omega, by have := LC.out; omega, HE.out⟩⟩⟩
            | false =>
              go_wp2_with (fail)
              refine (terms_instead.calls x.f0 _ HWX.out).mono ?_
              rintro e w10 ⟨vi, rfl, hi, hb⟩
              have BK10 := Aside0.mk (blk_below BK9.out hb)
              have HBr10 := Aside0.mk (below_step HBr9.out hb)
              have HB10 := Aside0.mk (below_step HB9.out hb)
              have HD10 := Aside0.mk (Kd.R_lower hi (below_size HB9.out))
              have S5e := Aside0.mk (Kd.S_elder' S5b.out (Kd.R_base hi) hb)
              have LD := Aside0.mk (Kd.R_base hi)
              have LW9 := Aside0.mk HBr9.out.size
              obtain ⟨Ad, cd, rfl⟩ := Kd.R_slice HD10.out
              clear hi hb BK9 hc9b_0 hf9b_0 hc9b_1 hf9b_1
              have hc10_0 : w10.cell? ⟨g8, 0, none⟩ = some (.int .i64 x.f0) := (blk_cell BK10.out 0).trans rfl
              have hf10_0 := blk_frozen BK10.out 0
              have hc10_1 : w10.cell? ⟨g8, 1, none⟩ = some (.slice Ax x.f1.length cx) := (blk_cell BK10.out 1).trans rfl
              have hf10_1 := blk_frozen BK10.out 1
              go_wp2_with (((with_reducible refine gate_builtin (b := .append) (xs := #[.tmp 40, .tmp 44]) rfl ?_); at_builtin; refine Kd.S_append k55 (w0 := w) w.heap.size rfl (.tmp 40) (.tmp 44) 58 55 (.agg #[(.int .i64 0), (.slice none 0 0)]) 32 rfl Try.underlying58 info55 rfl (by decide) (by omega) u5 ch (⟨x.f0, terms_instead.bytes x.f0⟩ : S55) [.int .i64 x.f0, .slice Ad (terms_instead.bytes x.f0).length cd] (fun k_ => some k_ ≠ u4.ownBlock) (fun k_ => some k_ = (.slice Ad (terms_instead.bytes x.f0).length cd : Value).ownBlock) rfl rfl ?aP ?aK ?aF ?aO ?aB ?aS ?aL ?_; (case aP => exact k55_mkM _ _ _ _ (Kd.R_mono (Kd.R_tight rfl HD10.out) (fun _ h => h))); (case aK => exact fun k_ hk => ⟨fun e_ => absurd (LT4.out k_ e_.symm) (by have := LD.out k_ hk.symm; have := LW9.out; omega), fun e_ => absurd (LT5.out k_ e_.symm) (by have := LD.out k_ hk.symm; have := LW9.out; omega)⟩); (case aB => exact HB10.out); (case aF => exact fun k_ hk e_ => absurd (LT4.out k_ e_.symm) (by have := HBr10.out.size; omega)); (case aO => exact S5e.out); (case aS => exact HB10.out.size); (case aL => have := LC.out; have := HLN.out; have := HJ.out; omega); intro u11 w11 ho hb hg hat; have hblk := blk_grown BK10.out hg N58.out; have hc11_0 : w11.cell? ⟨g8, 0, none⟩ = some (.int .i64 x.f0) := (blk_cell hblk 0).trans rfl; have hf11_0 := blk_frozen hblk 0; have M11 : Aside0 (IntSet w11 w.heap.size j s) := ⟨MapIs.kept (MapIs.below HM.out HBr10.out) (hg.block _ (Nat.lt_of_lt_of_le (MapIs.lt HM.out) HBr10.out.size) (fun e_ => by obtain ⟨cells, hc⟩ := Kd.S_typed (Kd.S_below H5.out HBr10.out) _ e_.symm; exact MapIs.ne (MapIs.below HM.out HBr10.out) hc rfl))⟩; obtain ⟨w12, hup, m12, g12⟩ := M11.out.put (by have := HLN.out; have := HJ.out; unfold maxLen; omega) x.f0 HWX.out; have M12 := Aside0.mk m12; have HB12 := Aside0.mk (below_grown hb g12 (Nat.le_refl _)); have S5c := Aside0.mk (S_over_map ho M11.out g12); have S4c := Aside0.mk (S_over_map (Kd.S_mono (Kd.S_after (ok := fun _ => True) (Kd.S_mono (Kd.S_below H4.out HBr10.out) (fun _ h_ => ⟨trivial, h_⟩)) hg hat) (fun _ h_ => h_.2)) M11.out g12); clear ho hb hg hat hblk m12 g12 hc10_0 hf10_0 hc10_1 hf10_1))
              go_roundg gk2
              case measure => omega
              case rel => exact ⟨j + 1, x.f0 :: s, a, ch ++ [(⟨x.f0, terms_instead.bytes x.f0⟩ : S55)], by have := HJ.out; omega, rfl, ⟨⟨M12.out, S4c.out, S5c.out, HB12.out, Nat.le_refl _, by have := LA.out; omega, by rw [List.length_append]; simp only [List.length_cons, List.length_nil]; have := LC.out; omega, HE.out⟩⟩⟩
      · have c1 : decide ((j : Int) < (l0.length : Int)) = false := decide_eq_false (by omega)
        obtain rfl : j = l0.length := by omega
        rw [List.drop_length] at hl
        simp only [terms_Bad.go, Option.some.injEq, Prod.mk.injEq] at hl
        obtain ⟨rfl, rfl⟩ := hl
        clear hj
        go_wp2_with (fail)
        go_ret2
        exact ⟨_, _, rfl, H4.out, H5.out, HB.out⟩
  · rw [if_neg hw] at h
    cases h

end Go.Proofs.Ytnjimecjpnjojaa.Print
