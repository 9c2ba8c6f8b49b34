-- laid together by this session's own program (wip/tools/merge.py) of texts that its program laid
import Derived.Test.YtgnonglkibhnhaaDoorZ
import Derived.Test.YtgnonglkibhnhaaDoorF69
import Derived.Test.YtgnonglkibhnhaaDoorM3
import Derived.Test.YtgnonglkibhnhaaDoorF39
import Derived.Test.YtgnonglkibhnhaaDoorM1
import Derived.Test.YtgnonglkibhnhaaDoorF23
import Derived.Test.YtgnonglkibhnhaaDoorF24
namespace Go.Proofs.YtgnonglkibhnhaaDoor.Print
open Go.RowKit Go.Proofs.YtgnonglkibhnhaaDoorW.PrintWords Go.Proofs.YtgnonglkibhnhaaDoorW.PrintLast Go.Proofs.YtgnonglkibhnhaaDoorW.PrintMore
attribute [local go_sem] max2_int min2_int max_two min_two max_three min_three max_four min_four
set_option linter.unusedVariables false
set_option linter.unusedSimpArgs false
set_option maxHeartbeats 16000000
set_option maxRecDepth 100000
def capture_whole.f (a0_0 : Int) (a0_1 : Int) (l0_2 : List Int) : Option (List Int) := (head_Put.f a0_1 true false).bind fun bt286 => (if bt286.1.length + l0_2.length < 140737488355328 then (some (bt286.1 ++ l0_2)) else (none))
theorem capture_whole.calls (a0_0 : Int) (a0_1 : Int) (A0_2 : Option Addr) (c0_2 : Nat) (l0_2 : List Int) (r : List Int) (w : World) (hr0_2 : Kd.C (Kd.int .u8) w A0_2 l0_2.length l0_2) (hc0_2 : l0_2.length ≤ c0_2) (h : capture_whole.f a0_0 a0_1 l0_2 = some r) :
  Calls Tryd.prog 51 #[.agg #[.int .i64 a0_0, .int .i64 a0_1, .slice A0_2 l0_2.length c0_2]] w fun e w' => ∃ v0_ : Value, e = .returned (v0_) ∧ Kd.R (Kd.int .u8) 5 w' w.heap.size (fun _ => True) v0_ r ∧ Below w.heap.size w w' := by
 have hu42 := Tryd.underlying42
 have HR0_2 := a_ hr0_2
 have HC0_2 := a_ hc0_2
 clear hr0_2 hc0_2
 have HB := a_ (Below.refl w.heap.size w)
 have H := h
 clear h
 unfold capture_whole.f at H
 replace H := Option.bind_eq_some_iff.mp H
 obtain ⟨⟨t286, t287⟩, A20, H⟩ := H
 try dsimp only at H
 have A2 := a_ A20
 clear A20
 have c3 := ifc_ H
 replace H := ift_ H
 have LMc3 := a_ c3
 clear c3
 obtain ⟨y290, hy290⟩ := is_ ((t286 ++ l0_2))
 replace H : (some y290) = some r := by first | (rw [hy290]; with_reducible exact H) | (have H2_ := (Option.bind_some _ _).symm.trans H; rw [hy290]; with_reducible exact H2_) | (have H2_ := (Option.bind_some _ _).symm.trans H; with_reducible exact H2_) | with_reducible exact H | (rw [hy290]; exact H) | exact H
 have Ny290 := a_ hy290
 clear hy290
 obtain rfl := Option.some.inj H
 go_enter Tryd.func51, Tryd.ntmps51
 go_wp2_with (first | ((with_reducible refine gate_dst (N := 1) rfl ?_); refine box_event ?hg (N := 1) ?hd (cs := #[.int .i64 a0_0, .int .i64 a0_1, .slice A0_2 l0_2.length c0_2]) (t := 42) ?hr ?_; (case hd => rfl); (case hg => rfl); (case hr => first | (go_simp; done) | (go_simp; rfl)); intro gb285 hg w4 hbox hb; have BK285 := a_ hbox; have GW285 := a_ ((by rw [hg]; exact (below_size (by repeat (first | (with_reducible first | exact HB.out | apply below_alloc | apply pw_below_drewN | apply below_drew1) | exact HB.out))) : w.heap.size ≤ gb285)); have GE285 := a_ ((by rw [hg]; exact (below_size (by repeat (first | (with_reducible first | exact HB.out | apply below_alloc | apply pw_below_drewN | apply below_drew1) | exact HB.out))) : w.heap.size ≤ gb285)); replace HB := a_ (below_step (by repeat (first | (with_reducible first | exact HB.out | apply below_alloc | apply pw_below_drewN | apply below_drew1) | exact HB.out)) hb); clear hb hbox hg; obtain ⟨hcz5_0, hcz5_1, hcz5_2, hfz5_0, hfz5_1, hfz5_2⟩ := blk3 BK285.out) | (refine gl_ (some 8) Tryd.func69 #[.int .i64 a0_1, .bool true, .bool false] ?_ (hargs := by (try simp only [List.map_toArray, List.map_cons, List.map_nil]); first | done | rfl | (simp only [List.length_drop, List.length_take]; rfl)); (with_reducible refine (head_Put.calls a0_1 true false t286 t287 _ A2.out).mono ?_); rintro e w6 ⟨v288, rfl, ho0, hb⟩; refine ⟨_, rfl, ?_⟩; have HO289 := a_ (Kd.R_lower ho0 (below_size (by repeat (first | (with_reducible first | exact HB.out | apply below_alloc | apply pw_below_drewN | apply below_drew1 | refine below_set ?_ GE285.out) | exact HB.out)))); replace BK285 := a_ (blk_below (g := gb285) (o := .cells #[.int .i64 a0_0, .int .i64 a0_1, .slice A0_2 l0_2.length c0_2] 42 (0, 0)) (by (with_reducible repeat (first | refine blk_drewN ?_ _ | refine blk_drew ?_ | refine blk_alloc ?_ _)); exact BK285.out) hb); replace HB := a_ (below_step (by repeat (first | (with_reducible first | exact HB.out | apply below_alloc | apply pw_below_drewN | apply below_drew1 | refine below_set ?_ GE285.out) | exact HB.out)) hb); (try clear hb); (try clear hb2); (try clear hk); (try clear hi); (try clear ho0); obtain ⟨hcz7_0, hcz7_1, hcz7_2, hfz7_0, hfz7_1, hfz7_2⟩ := blk3 BK285.out) | ((with_reducible refine gate_builtin (b := .append) (xs := #[.tmp 11, .tmp 13]) rfl ?_); at_builtin; refine Kd.R_append_rows (Kd.int .u8) (w0 := w) w.heap.size rfl (.tmp 11) (.tmp 13) 22 5 (.int .u8 0) 1 rfl Tryd.underlying22 info5 rfl (by decide) (by omega) v288 t286 l0_2 _ _ _ (fun _ => True) (fun _ => False) rfl rfl ?aO ?aR (fun _ _ h => h) (fun _ h => h.elim) ?aF ?aB ?aS ?aL ?_; (case aR => repeat (first | exact (Kd.C_below HR0_2.out HB.out) | (with_reducible refine Kd.C_alloc ?_ _) | (with_reducible refine Kd.C_drewN ?_ _) | (with_reducible refine Kd.C_drew ?_))); (case aB => exact (by repeat (first | (with_reducible first | exact HB.out | apply below_alloc | apply pw_below_drewN | apply below_drew1 | refine below_set ?_ GE285.out) | exact HB.out))); (case aF => exact (fun _ _ => trivial)); (case aO => exact (by (with_reducible repeat (first | apply Kd.R_alloc | apply Kd.R_drewN | apply Kd.R_drew)); exact HO289.out)); (case aS => exact (below_size (by repeat (first | (with_reducible first | exact HB.out | apply below_alloc | apply pw_below_drewN | apply below_drew1 | refine below_set ?_ GE285.out) | exact HB.out)))); (case aL => have := LMc3.out; omega); intro v291 w8 ho hb hg hat; rw [← Ny290.out] at ho; have HO292 := a_ ho; replace BK285 := a_ (blk_grown (g := gb285) (o := .cells #[.int .i64 a0_0, .int .i64 a0_1, .slice A0_2 l0_2.length c0_2] 42 (0, 0)) (by (with_reducible repeat (first | refine blk_drewN ?_ _ | refine blk_drew ?_ | refine blk_alloc ?_ _)); exact BK285.out) hg (Kd.R_ne HO289.out BK285.out (by decide))); replace HB := a_ hb; clear HO289; clear ho hb hg hat))
 go_ret
 exact ⟨_, by first | rfl | (simp [errW_none, errW_some] <;> rfl) | (simp [*, errW_none, errW_some] <;> rfl), by (with_reducible repeat (first | apply Kd.R_alloc | apply Kd.R_drewN | apply Kd.R_drew)); exact HO292.out, by repeat (first | (with_reducible first | exact HB.out | apply below_alloc | apply pw_below_drewN | apply below_drew1 | refine below_set ?_ GE285.out) | exact HB.out)⟩
def dump_may.j0 : Nat → Bool → Int → Int → List Int → Option (Bool)
 | 0, _, _, _, _ => none
 | k + 1, x11, x294000, x294001, x294002 => if x11 = true then (some false) else (if 0 ≤ x294000 then (if x294000 < 8 then (if ((rd_T131 formsG0 x294000).f0 = true) then (if x294001 = 0 then (some true) else (if ((rd_T131 formsG0 x294000).f1) > 0 then ((octet_Fits.f (IntKind.u64.wrap (x294001)) ((rd_T131 formsG0 x294000).f1)).bind fun t296 => (some t296)) else (some false))) else (if (x294002.length : Int) > 0 then (some false) else (if x294001 = 0 then (some true) else (if ((rd_T131 formsG0 x294000).f1) > 0 then ((octet_Fits.f (IntKind.u64.wrap (x294001)) ((rd_T131 formsG0 x294000).f1)).bind fun t297 => (some t297)) else (some false))))) else (none)) else (none))
def dump_may.f (k : Nat) (a0_0 : Int) (a0_1 : Int) (l0_2 : List Int) : Option (Bool) := if a0_0 < 1 then (dump_may.j0 k true a0_0 a0_1 l0_2) else (dump_may.j0 k (decide (a0_0 > 7)) a0_0 a0_1 l0_2)
theorem dump_may.calls (k : Nat) (a0_0 : Int) (a0_1 : Int) (A0_2 : Option Addr) (c0_2 : Nat) (l0_2 : List Int) (r : Bool) (w : World) (hG0 : Kd.C k131 w (some ⟨0, 0, none⟩) 8 formsG0) (hr0_2 : Kd.C (Kd.int .u8) w A0_2 l0_2.length l0_2) (hc0_2 : l0_2.length ≤ c0_2) (h : dump_may.f k a0_0 a0_1 l0_2 = some r) :
  Calls Tryd.prog 71 #[.agg #[.int .i64 a0_0, .int .u32 a0_1, .slice A0_2 l0_2.length c0_2]] w fun e w' => e = .returned (.bool r) ∧ Below w.heap.size w w' := by
 have hu58 := Tryd.underlying58
 have hu131 := Tryd.underlying131
 have HR0_2 := a_ hr0_2
 have HC0_2 := a_ hc0_2
 clear hr0_2 hc0_2
 have HRG0 := a_ hG0
 clear hG0
 have HB := a_ (Below.refl w.heap.size w)
 have H := h
 clear h
 unfold dump_may.f at H
 have HC2 := a_ H
 clear H
 go_enter Tryd.func71, Tryd.ntmps71
 go_upto_region 1 with (first | ((with_reducible refine gate_dst (N := 1) rfl ?_); (try (refine gate_guard (by rfl) ?_; dsimp only)); refine be_ 1 #[.int .i64 a0_0, .int .u32 a0_1, .slice A0_2 l0_2.length c0_2] 58 ?_; intro gb293 hg w3 hbox hb; have BK293 := a_ hbox; have GE293 := lb_ HB hg; replace HB := bs_ HB hb; clear hb hbox hg))
 go_cut [11] (fun v11 wc => ∃ (kq : Nat) (x11_1 : Bool), v11 = .bool x11_1 ∧ Aside0 (dump_may.j0 kq x11_1 a0_0 a0_1 l0_2 = some r) ∧ Aside0 (kq ≤ k) ∧ Aside0 (wc.heap[gb293]? = some (.cells #[.int .i64 a0_0, .int .u32 a0_1, (.slice A0_2 l0_2.length c0_2)] 58 (0, 0))) ∧ Aside0 (Below w.heap.size w wc))
 case first =>
  have H := HC2.out
  clear HC2
  by_cases c4 : a0_0 < 1
  ·rw [if_pos c4] at H
   have c4b0 := decide_eq_true c4
   clear c4
   have H' := a_ H
   clear H
   obtain ⟨hcz5_0, hcz5_1, hcz5_2, hfz5_0, hfz5_1, hfz5_2⟩ := blk3 BK293.out
   go_wp2
   go_meet
   case rel => exact ⟨_, (true), (by rfl), H', ⟨by (omega)⟩, ⟨by exact BK293.out⟩, ⟨by exact HB.out⟩⟩
  ·rw [if_neg c4] at H
   have c4b0 := decide_eq_false c4
   clear c4
   have H' := a_ H
   clear H
   obtain ⟨hcz6_0, hcz6_1, hcz6_2, hfz6_0, hfz6_1, hfz6_2⟩ := blk3 BK293.out
   go_wp2
   go_meet
   case rel => exact ⟨_, (decide (a0_0 > 7)), (by rfl), H', ⟨by (omega)⟩, ⟨by exact BK293.out⟩, ⟨by exact HB.out⟩⟩
 case rest =>
  clear HC2
  obtain ⟨kq, x11_1, rfl, HA, HJ1, BK293, HB⟩ := hcut
  cases kq with
  | zero => exact absurd HA.out (by simp [dump_may.j0])
  | succ kj1 =>
   have H := HA.out
   clear HA
   simp only [dump_may.j0] at H
   by_cases c7 : x11_1 = true
   ·subst c7
    rw [if_pos rfl] at H
    obtain rfl := Option.some.inj H
    go_wp2
    go_ret
    exact ⟨by (rfl), by exact HB.out⟩
   ·cases nt_ c7
    rw [if_neg nft_] at H
    have c8b0 := ifd_ H
    replace H := ift_ H
    have c9b0 := ifd_ H
    replace H := ift_ H
    obtain ⟨bq10, hbq10⟩ : ∃ b_ : Bool, b_ = ((rd_T131 formsG0 a0_0).f0) := ⟨_, rfl⟩
    rw [← hbq10] at H
    have Nbq10 := a_ hbq10
    clear hbq10
    by_cases c11 : (bq10 = true)
    ·subst c11
     rw [if_pos rfl] at H
     by_cases c12 : a0_1 = 0
     ·rw [if_pos c12] at H
      obtain ⟨c12b0, c12b1⟩ := bt_ c12
      obtain rfl := Option.some.inj H
      obtain ⟨hcz13_0, hcz13_1, hcz13_2, hfz13_0, hfz13_1, hfz13_2⟩ := blk3 BK293.out
      have p294 : 0 ≤ (a0_0 : Int) := da_
      have q294 : a0_0 < (formsG0.length : Int) := of_decide_eq_true (by (assumption))
      obtain ⟨ad294, e294, hx294_0, hx294_1⟩ := at_T131 HRG0.out a0_0 p294 q294
      (try rw [← Nbq10.out] at hx294_0)
      obtain rfl : (⟨0, 0, none⟩ : Addr) = ad294 := (by injection e294)
      (simp only [add_plain] at hx294_0)
      (simp only [add_plain] at hx294_1)
      replace hx294_0 := cb_ HB hx294_0
      replace hx294_1 := cb_ HB hx294_1
      replace p294 := eq_true p294
      replace q294 := eq_true q294
      have qg294 : (a0_0 < 8) = True := q294
      go_wp2_with (first | ((with_reducible refine gate_dst (N := 3) rfl ?_); (try (refine gate_guard (by rfl) ?_; dsimp only)); refine be_ 3 #[.bool false, .int .i64 0] 131 ?_; intro gb295 hg w14 hbox hb; have BK295 := a_ hbox; have GE295 := lb_ HB hg; obtain ⟨NB293_295, NB295_293⟩ := nn_ BK293 hg; replace BK293 := bb_ BK293 hb; replace HB := bs_ HB hb; clear hb hbox hg; have hnb15 := NB295_293.out; have hnc15 := NB293_295.out; obtain ⟨hcz16_0, hcz16_1, hfz16_0, hfz16_1⟩ := blk2 BK295.out; obtain ⟨hcz17_0, hcz17_1, hcz17_2, hfz17_0, hfz17_1, hfz17_2⟩ := blk3 BK293.out))
      go_ret
      exact ⟨by (rfl), by repeat (with_reducible first | exact HB.out | refine below_set ?_ GE295.out)⟩
     ·rw [if_neg c12] at H
      have c12b0 := beq_eq_false_iff_ne.mpr c12
      have c12b1 := bne_iff_ne.mpr c12
      by_cases c18 : ((rd_T131 formsG0 a0_0).f1) > 0
      ·rw [if_pos c18] at H
       have c18b0 := decide_eq_true c18
       clear c18
       replace H := Option.bind_eq_some_iff.mp H
       obtain ⟨t296, A190, H⟩ := H
       try dsimp only at H
       have A19 := a_ A190
       clear A190
       obtain rfl := Option.some.inj H
       obtain ⟨hcz20_0, hcz20_1, hcz20_2, hfz20_0, hfz20_1, hfz20_2⟩ := blk3 BK293.out
       have p294 : 0 ≤ (a0_0 : Int) := da_
       have q294 : a0_0 < (formsG0.length : Int) := of_decide_eq_true (by (assumption))
       obtain ⟨ad294, e294, hx294_0, hx294_1⟩ := at_T131 HRG0.out a0_0 p294 q294
       (try rw [← Nbq10.out] at hx294_0)
       obtain rfl : (⟨0, 0, none⟩ : Addr) = ad294 := (by injection e294)
       (simp only [add_plain] at hx294_0)
       (simp only [add_plain] at hx294_1)
       replace hx294_0 := cb_ HB hx294_0
       replace hx294_1 := cb_ HB hx294_1
       replace p294 := eq_true p294
       replace q294 := eq_true q294
       have qg294 : (a0_0 < 8) = True := q294
       go_wp2_with (first | ((with_reducible refine gate_dst (N := 3) rfl ?_); (try (refine gate_guard (by rfl) ?_; dsimp only)); refine be_ 3 #[.bool false, .int .i64 0] 131 ?_; intro gb295 hg w21 hbox hb; have BK295 := a_ hbox; have GE295 := lb_ HB hg; obtain ⟨NB293_295, NB295_293⟩ := nn_ BK293 hg; replace BK293 := bb_ BK293 hb; replace HB := bs_ HB hb; clear hb hbox hg; have hnb22 := NB295_293.out; have hnc22 := NB293_295.out; obtain ⟨hcz23_0, hcz23_1, hfz23_0, hfz23_1⟩ := blk2 BK295.out; obtain ⟨hcz24_0, hcz24_1, hcz24_2, hfz24_0, hfz24_1, hfz24_2⟩ := blk3 BK293.out) | (go_at_call 89; (with_reducible refine (octet_Fits.calls (IntKind.u64.wrap (a0_1)) ((rd_T131 formsG0 a0_0).f1) t296 _ A19.out).mono ?_); rintro e w' ⟨rfl, ⟨nd, rfl⟩⟩))
       go_ret
       exact ⟨by (rfl), by repeat (with_reducible first | exact HB.out | apply pw_below_drewN | refine below_set ?_ GE295.out)⟩
      ·rw [if_neg c18] at H
       have c18b0 := decide_eq_false c18
       clear c18
       obtain rfl := Option.some.inj H
       obtain ⟨hcz25_0, hcz25_1, hcz25_2, hfz25_0, hfz25_1, hfz25_2⟩ := blk3 BK293.out
       have p294 : 0 ≤ (a0_0 : Int) := da_
       have q294 : a0_0 < (formsG0.length : Int) := of_decide_eq_true (by (assumption))
       obtain ⟨ad294, e294, hx294_0, hx294_1⟩ := at_T131 HRG0.out a0_0 p294 q294
       (try rw [← Nbq10.out] at hx294_0)
       obtain rfl : (⟨0, 0, none⟩ : Addr) = ad294 := (by injection e294)
       (simp only [add_plain] at hx294_0)
       (simp only [add_plain] at hx294_1)
       replace hx294_0 := cb_ HB hx294_0
       replace hx294_1 := cb_ HB hx294_1
       replace p294 := eq_true p294
       replace q294 := eq_true q294
       have qg294 : (a0_0 < 8) = True := q294
       go_wp2_with (first | ((with_reducible refine gate_dst (N := 3) rfl ?_); (try (refine gate_guard (by rfl) ?_; dsimp only)); refine be_ 3 #[.bool false, .int .i64 0] 131 ?_; intro gb295 hg w26 hbox hb; have BK295 := a_ hbox; have GE295 := lb_ HB hg; obtain ⟨NB293_295, NB295_293⟩ := nn_ BK293 hg; replace BK293 := bb_ BK293 hb; replace HB := bs_ HB hb; clear hb hbox hg; have hnb27 := NB295_293.out; have hnc27 := NB293_295.out; obtain ⟨hcz28_0, hcz28_1, hfz28_0, hfz28_1⟩ := blk2 BK295.out; obtain ⟨hcz29_0, hcz29_1, hcz29_2, hfz29_0, hfz29_1, hfz29_2⟩ := blk3 BK293.out))
       go_ret
       exact ⟨by (rfl), by repeat (with_reducible first | exact HB.out | refine below_set ?_ GE295.out)⟩
    ·cases nt_ c11
     rw [if_neg nft_] at H
     by_cases c30 : (l0_2.length : Int) > 0
     ·rw [if_pos c30] at H
      have c30b0 := decide_eq_true c30
      have c30b1 : decide (0 < l0_2.length) = true := decide_eq_true (by omega)
      clear c30
      obtain rfl := Option.some.inj H
      obtain ⟨hcz31_0, hcz31_1, hcz31_2, hfz31_0, hfz31_1, hfz31_2⟩ := blk3 BK293.out
      have p294 : 0 ≤ (a0_0 : Int) := da_
      have q294 : a0_0 < (formsG0.length : Int) := of_decide_eq_true (by (assumption))
      obtain ⟨ad294, e294, hx294_0, hx294_1⟩ := at_T131 HRG0.out a0_0 p294 q294
      (try rw [← Nbq10.out] at hx294_0)
      obtain rfl : (⟨0, 0, none⟩ : Addr) = ad294 := (by injection e294)
      (simp only [add_plain] at hx294_0)
      (simp only [add_plain] at hx294_1)
      replace hx294_0 := cb_ HB hx294_0
      replace hx294_1 := cb_ HB hx294_1
      replace p294 := eq_true p294
      replace q294 := eq_true q294
      have qg294 : (a0_0 < 8) = True := q294
      go_wp2_with (first | ((with_reducible refine gate_dst (N := 3) rfl ?_); (try (refine gate_guard (by rfl) ?_; dsimp only)); refine be_ 3 #[.bool false, .int .i64 0] 131 ?_; intro gb295 hg w32 hbox hb; have BK295 := a_ hbox; have GE295 := lb_ HB hg; obtain ⟨NB293_295, NB295_293⟩ := nn_ BK293 hg; replace BK293 := bb_ BK293 hb; replace HB := bs_ HB hb; clear hb hbox hg; have hnb33 := NB295_293.out; have hnc33 := NB293_295.out; obtain ⟨hcz34_0, hcz34_1, hfz34_0, hfz34_1⟩ := blk2 BK295.out; obtain ⟨hcz35_0, hcz35_1, hcz35_2, hfz35_0, hfz35_1, hfz35_2⟩ := blk3 BK293.out))
      go_ret
      exact ⟨by (rfl), by repeat (with_reducible first | exact HB.out | refine below_set ?_ GE295.out)⟩
     ·rw [if_neg c30] at H
      have c30b0 := decide_eq_false c30
      have c30b1 : decide (0 < l0_2.length) = false := decide_eq_false (by omega)
      clear c30
      by_cases c36 : a0_1 = 0
      ·rw [if_pos c36] at H
       obtain ⟨c36b0, c36b1⟩ := bt_ c36
       obtain rfl := Option.some.inj H
       obtain ⟨hcz37_0, hcz37_1, hcz37_2, hfz37_0, hfz37_1, hfz37_2⟩ := blk3 BK293.out
       have p294 : 0 ≤ (a0_0 : Int) := da_
       have q294 : a0_0 < (formsG0.length : Int) := of_decide_eq_true (by (assumption))
       obtain ⟨ad294, e294, hx294_0, hx294_1⟩ := at_T131 HRG0.out a0_0 p294 q294
       (try rw [← Nbq10.out] at hx294_0)
       obtain rfl : (⟨0, 0, none⟩ : Addr) = ad294 := (by injection e294)
       (simp only [add_plain] at hx294_0)
       (simp only [add_plain] at hx294_1)
       replace hx294_0 := cb_ HB hx294_0
       replace hx294_1 := cb_ HB hx294_1
       replace p294 := eq_true p294
       replace q294 := eq_true q294
       have qg294 : (a0_0 < 8) = True := q294
       go_wp2_with (first | ((with_reducible refine gate_dst (N := 3) rfl ?_); (try (refine gate_guard (by rfl) ?_; dsimp only)); refine be_ 3 #[.bool false, .int .i64 0] 131 ?_; intro gb295 hg w38 hbox hb; have BK295 := a_ hbox; have GE295 := lb_ HB hg; obtain ⟨NB293_295, NB295_293⟩ := nn_ BK293 hg; replace BK293 := bb_ BK293 hb; replace HB := bs_ HB hb; clear hb hbox hg; have hnb39 := NB295_293.out; have hnc39 := NB293_295.out; obtain ⟨hcz40_0, hcz40_1, hfz40_0, hfz40_1⟩ := blk2 BK295.out; obtain ⟨hcz41_0, hcz41_1, hcz41_2, hfz41_0, hfz41_1, hfz41_2⟩ := blk3 BK293.out))
       go_ret
       exact ⟨by (rfl), by repeat (with_reducible first | exact HB.out | refine below_set ?_ GE295.out)⟩
      ·rw [if_neg c36] at H
       have c36b0 := beq_eq_false_iff_ne.mpr c36
       have c36b1 := bne_iff_ne.mpr c36
       by_cases c42 : ((rd_T131 formsG0 a0_0).f1) > 0
       ·rw [if_pos c42] at H
        have c42b0 := decide_eq_true c42
        clear c42
        replace H := Option.bind_eq_some_iff.mp H
        obtain ⟨t297, A430, H⟩ := H
        try dsimp only at H
        have A43 := a_ A430
        clear A430
        obtain rfl := Option.some.inj H
        obtain ⟨hcz44_0, hcz44_1, hcz44_2, hfz44_0, hfz44_1, hfz44_2⟩ := blk3 BK293.out
        have p294 : 0 ≤ (a0_0 : Int) := da_
        have q294 : a0_0 < (formsG0.length : Int) := of_decide_eq_true (by (assumption))
        obtain ⟨ad294, e294, hx294_0, hx294_1⟩ := at_T131 HRG0.out a0_0 p294 q294
        (try rw [← Nbq10.out] at hx294_0)
        obtain rfl : (⟨0, 0, none⟩ : Addr) = ad294 := (by injection e294)
        (simp only [add_plain] at hx294_0)
        (simp only [add_plain] at hx294_1)
        replace hx294_0 := cb_ HB hx294_0
        replace hx294_1 := cb_ HB hx294_1
        replace p294 := eq_true p294
        replace q294 := eq_true q294
        have qg294 : (a0_0 < 8) = True := q294
        go_wp2_with (first | ((with_reducible refine gate_dst (N := 3) rfl ?_); (try (refine gate_guard (by rfl) ?_; dsimp only)); refine be_ 3 #[.bool false, .int .i64 0] 131 ?_; intro gb295 hg w45 hbox hb; have BK295 := a_ hbox; have GE295 := lb_ HB hg; obtain ⟨NB293_295, NB295_293⟩ := nn_ BK293 hg; replace BK293 := bb_ BK293 hb; replace HB := bs_ HB hb; clear hb hbox hg; have hnb46 := NB295_293.out; have hnc46 := NB293_295.out; obtain ⟨hcz47_0, hcz47_1, hfz47_0, hfz47_1⟩ := blk2 BK295.out; obtain ⟨hcz48_0, hcz48_1, hcz48_2, hfz48_0, hfz48_1, hfz48_2⟩ := blk3 BK293.out) | (go_at_call 89; (with_reducible refine (octet_Fits.calls (IntKind.u64.wrap (a0_1)) ((rd_T131 formsG0 a0_0).f1) t297 _ A43.out).mono ?_); rintro e w' ⟨rfl, ⟨nd, rfl⟩⟩))
        go_ret
        exact ⟨by (rfl), by repeat (with_reducible first | exact HB.out | apply pw_below_drewN | refine below_set ?_ GE295.out)⟩
       ·rw [if_neg c42] at H
        have c42b0 := decide_eq_false c42
        clear c42
        obtain rfl := Option.some.inj H
        obtain ⟨hcz49_0, hcz49_1, hcz49_2, hfz49_0, hfz49_1, hfz49_2⟩ := blk3 BK293.out
        have p294 : 0 ≤ (a0_0 : Int) := da_
        have q294 : a0_0 < (formsG0.length : Int) := of_decide_eq_true (by (assumption))
        obtain ⟨ad294, e294, hx294_0, hx294_1⟩ := at_T131 HRG0.out a0_0 p294 q294
        (try rw [← Nbq10.out] at hx294_0)
        obtain rfl : (⟨0, 0, none⟩ : Addr) = ad294 := (by injection e294)
        (simp only [add_plain] at hx294_0)
        (simp only [add_plain] at hx294_1)
        replace hx294_0 := cb_ HB hx294_0
        replace hx294_1 := cb_ HB hx294_1
        replace p294 := eq_true p294
        replace q294 := eq_true q294
        have qg294 : (a0_0 < 8) = True := q294
        go_wp2_with (first | ((with_reducible refine gate_dst (N := 3) rfl ?_); (try (refine gate_guard (by rfl) ?_; dsimp only)); refine be_ 3 #[.bool false, .int .i64 0] 131 ?_; intro gb295 hg w50 hbox hb; have BK295 := a_ hbox; have GE295 := lb_ HB hg; obtain ⟨NB293_295, NB295_293⟩ := nn_ BK293 hg; replace BK293 := bb_ BK293 hb; replace HB := bs_ HB hb; clear hb hbox hg; have hnb51 := NB295_293.out; have hnc51 := NB293_295.out; obtain ⟨hcz52_0, hcz52_1, hfz52_0, hfz52_1⟩ := blk2 BK295.out; obtain ⟨hcz53_0, hcz53_1, hcz53_2, hfz53_0, hfz53_1, hfz53_2⟩ := blk3 BK293.out))
        go_ret
        exact ⟨by (rfl), by repeat (with_reducible first | exact HB.out | refine below_set ?_ GE295.out)⟩
def slices_Reverse_byte_byte.l0 : Nat → List Int → Int → Int → Option (List Int)
 | 0, _, _, _ => none
 | k + 1, x0, x2, x3 => if x2 < x3 then (if 0 ≤ x3 then (if x3 < (x0.length : Int) then (if 0 ≤ x2 then (if x2 < (x0.length : Int) then (slices_Reverse_byte_byte.l0 k ((x0.set (x2 : Int).toNat (rd x0 x3)).set (x3 : Int).toNat (rd x0 x2)) (wrap64 (x2 + 1)) (wrap64 (x3 - 1))) else (none)) else (none)) else (none)) else (none)) else (some x0)
def slices_Reverse_byte_byte.f (k : Nat) (l0 : List Int) : Option (List Int) := slices_Reverse_byte_byte.l0 k l0 0 (wrap64 ((l0.length : Int) - 1))
def slices_Reverse_byte_byte.T3 : Bool × List (List Nat × List Nat) := (true, [([], []), ([], []), ([], []), ([], []), ([], []), ([], []), ([4, 5], [4, 5]), ([6], [6]), ([], []), ([], []), ([8, 9], [8, 9]), ([10], [10]), ([0, 1, 0, 1, 4, 5, 6, 7, 11], [0, 1]), ([12, 7, 0, 1, 4, 5, 6, 7, 11], [7, 12]), ([2, 3, 0, 1, 2, 3, 4, 5, 6, 7, 8, 9, 10, 11, 12, 13], [2, 3]), ([14, 11, 13, 0, 1, 2, 3, 4, 5, 6, 7, 8, 9, 10, 11, 12, 13], [11, 14])])
def slices_Reverse_byte_byte.B3 : List Nat := [0, 0, 0, 0, 0, 0, 48, 112, 0, 0, 768, 1792, 4083, 8179, 16383, 32767]
theorem slices_Reverse_byte_byte.tab3 : rtab .any (opsOf Tryd.f90 3) = slices_Reverse_byte_byte.T3 := by kernel_rfl
theorem slices_Reverse_byte_byte.bits3 : waitsOk slices_Reverse_byte_byte.T3.2 slices_Reverse_byte_byte.B3 = true := by kernel_rfl
theorem slices_Reverse_byte_byte.calls (k : Nat) (P0_ : Nat → Prop) (u9000_ : Value) (l0 : List Int) (r : List Int) (w0 w : World) (hB : Below w0.heap.size w0 w) (ho0 : Kd.R (Kd.int .u8) 5 w w0.heap.size P0_ u9000_ l0) (h : slices_Reverse_byte_byte.f k l0 = some r) :
  Calls Tryd.prog 90 #[u9000_] w fun e w' => e = .returned (.tuple #[]) ∧ Kd.R (Kd.int .u8) 5 w' w0.heap.size (fun k_ => (P0_ k_ ∨ w.heap.size ≤ k_)) u9000_ r ∧ Below w0.heap.size w0 w' ∧ Kept w w' (fun k_ => P0_ k_) := by
 have HO0 := a_ (show Kd.R (Kd.int .u8) 5 w w0.heap.size (fun k_ => (P0_ k_ ∨ w.heap.size ≤ k_)) u9000_ l0 from Kd.R_mono ho0 (fun k_ hk => (.inl hk)))
 have HK := a_ (Kept.refl w (fun k_ => P0_ k_))
 have HW0 := a_ hB.size
 have HB := a_ hB
 clear hB
 have H := h
 clear h
 unfold slices_Reverse_byte_byte.f at H
 have H' := a_ H
 clear H
 obtain ⟨Ao2, co2, eo2⟩ := Kd.R_slice HO0.out
 subst eo2
 go_enter Tryd.func90, Tryd.ntmps90
 go_wp2
 go_loopg [2, 3] k (fun kq v2 v3 w' => ∃ (x0_1 : List Int) (x2_1 : Int) (x3_1 : Int), v2 = .int .i64 x2_1 ∧ v3 = .int .i64 x3_1 ∧ Aside0 (slices_Reverse_byte_byte.l0 kq x0_1 x2_1 x3_1 = some r) ∧ Aside0 (kq ≤ k) ∧ Aside0 (Kd.R (Kd.int .u8) 5 w' w0.heap.size (fun k_ => (P0_ k_ ∨ w.heap.size ≤ k_)) (.slice Ao2 l0.length co2) x0_1) ∧ Aside0 (Kept w w' (fun k_ => P0_ k_)) ∧ Aside0 (Below w0.heap.size w0 w'))
 case atStart => exact ⟨(l0), (0), (wrap64 ((l0.length : Int) - 1)), (by rfl), (by rfl), H', ⟨Nat.le_refl _⟩, ⟨by exact HO0.out⟩, ⟨by exact HK.out⟩, ⟨by exact HB.out⟩⟩
 case round =>
  clear H'
  obtain ⟨x0_1, x2_1, x3_1, rfl, rfl, HA, HK1, HO_0, HK, HB⟩ := hrel
  have hl0_1 := (Kd.R_reads' HO_0.out).1
  rw [hl0_1] at HO_0
  (try simp only [hl0_1])
  cases gk with
  | zero => exact absurd HA.out (by simp [slices_Reverse_byte_byte.l0])
  | succ k1 =>
   have H := HA.out
   clear HA
   simp only [slices_Reverse_byte_byte.l0] at H
   by_cases c3 : x2_1 < x3_1
   ·rw [if_pos c3] at H
    have c3b0 := decide_eq_true c3
    clear c3
    have c4b0 := ifd_ H
    replace H := ift_ H
    have c5b0 := ifd_ H
    replace H := ift_ H
    have c6b0 := ifd_ H
    replace H := ift_ H
    have c7b0 := ifd_ H
    replace H := ift_ H
    obtain ⟨y300, hy300⟩ := is_ ((x0_1.set (x2_1 : Int).toNat (rd x0_1 x3_1)))
    rw [← hy300] at H
    have Ny300 := a_ hy300
    clear hy300
    obtain ⟨y301, hy301⟩ := is_ ((y300.set (x3_1 : Int).toNat (rd x0_1 x2_1)))
    rw [← hy301] at H
    have Ny301 := a_ hy301
    clear hy301
    have H' := a_ H
    clear H
    try go_wp2
    replace HO_0 := a_ (Kd.R_drew HO_0.out)
    replace HK := a_ (Kept.drew HK.out)
    replace HB := a_ (below_drew1 HB.out)
    have p298 : (0 ≤ (x3_1 : Int)) = True := et_
    have q298 : (x3_1 < (x0_1.length : Int)) = True := et_
    obtain ⟨ad298, e298, hx298_0⟩ := Kd.at_int (Kd.R_reads' HO_0.out).2.2 x3_1 da_ da_
    cases e298
    have p299 : (0 ≤ (x2_1 : Int)) = True := et_
    have q299 : (x2_1 < (x0_1.length : Int)) = True := et_
    obtain ⟨ad299, e299, hx299_0⟩ := Kd.at_int (Kd.R_reads' HO_0.out).2.2 x2_1 da_ da_
    obtain rfl : ad298 = ad299 := (by injection e299)
    have p8 : 0 ≤ (x2_1 : Int) := da_
    have q8 : (x2_1 : Int) < ((x0_1.length : Int) : Int) := da_
    obtain ⟨go8, co8, eo8, gb8, gl8, cl8, HG8⟩ := Kd.R_form HO_0.out (by omega)
    (cases eo8)
    have GB8 := a_ gb8
    have GG8 := a_ HG8
    clear gb8 gl8 HG8
    have HMgo8 := a_ (show (P0_ go8 ∨ w.heap.size ≤ go8) from (HO_0.out.1 _ rfl))
    (simp only [add_plain] at hx298_0)
    (simp only [add_plain] at hx299_0)
    obtain ⟨hx8_0, hf8_0⟩ := Kd.R_celln 0 HO_0.out (x2_1 : Int) p8 q8
    replace p8 := eq_true p8
    replace q8 := eq_true q8
    have HP11 := Kd.R_putn HO_0.out (x2_1 : Int) (rd x0_1 x3_1)
    rw [← Ny300.out] at HP11
    have HQ11 := a_ HP11
    clear HP11
    have p9 : (0 ≤ (x3_1 : Int)) = True := et_
    have q9 : ((x3_1 : Int) < ((x0_1.length : Int) : Int)) = True := et_
    obtain ⟨hx9_0, hf9_0⟩ := Kd.R_celln 0 HQ11.out (x3_1 : Int) da_ da_
    have HP12 := Kd.R_putn HQ11.out (x3_1 : Int) (rd x0_1 x2_1)
    rw [← Ny301.out] at HP12
    have HQ12 := a_ HP12
    clear HP12
    refine start_ (n := 16) (S := fun w' => w'.cell? ⟨go8, (x3_1).toNat, none⟩ = some (.int .u8 (rd x0_1 x3_1)) ∧ w'.cell? ⟨go8, (x2_1).toNat, none⟩ = some (.int .u8 (rd x0_1 x2_1))) (ds := [13, 15]) (bo_ 16 0) (by kernel_rfl) rfl rfl ⟨hx298_0, hx299_0⟩ (fun hHeld => ?_); refine with_tabW slices_Reverse_byte_byte.tab3 slices_Reverse_byte_byte.bits3 (fun HT_ HW_ => ?_)
    generalize wr.drew = w10 at HO_0 HK HB GG8 HQ11 HQ12 hf8_0 hf9_0 hx298_0 hx299_0 hx8_0 hx9_0 hHeld ⊢
    refine pu_ 0 (some 14) HT_ ?_
    refine pu_ 1 (some 15) HT_ ?_
    refine pu_ 2 (some 16) HT_ ?_
    refine pu_ 3 (some 17) HT_ ?_
    refine pu_ 4 (some 18) HT_ ?_
    refine pu_ 5 (some 19) HT_ ?_
    refine pu_ 6 (some 20) HT_ ?_
    refine pu_ 8 (some 22) HT_ ?_
    refine pu_ 9 (some 23) HT_ ?_
    refine pu_ 10 (some 24) HT_ ?_
    refine take_ (i := 7) (N := some 21) (v := ?_) (a' := ?_) (bo_ 16 2047) rfl rfl (take_ofW HT_.out HW_.out (by kernel_rfl)) (fun _ _ _ h => h) (Or.inl ⟨by rfl, ?_⟩) hHeld ?_ ?_
    rotate_left
    ·rintro w' ⟨s0, s1⟩
     go_simp
     with_reducible rfl
    rotate_left
    ·go_simp
     rfl
    refine take_ (i := 11) (N := some 25) (v := ?_) (a' := ?_) (bo_ 16 4095) rfl rfl (take_ofW HT_.out HW_.out (by kernel_rfl)) (fun _ _ _ h => h) (Or.inl ⟨by rfl, ?_⟩) hHeld ?_ ?_
    rotate_left
    ·rintro w' ⟨s0, s1⟩
     go_simp
     with_reducible rfl
    rotate_left
    ·go_simp
     rfl
    refine pu_ 12 (some 26) HT_ ?_
    refine last_ (i := 13) (N := none) (bo_ 16 16383) rfl rfl (one_of HT_.out (by kernel_rfl)) (by decide) (fun K hK => ?_)
    refine skip_ (w1 := ?_) (by rfl) rfl ?_ ?_
    rotate_left
    ·go_simp
     rfl
    refine hK.out _ _ ?_
    clear hK K
    refine pu_ 14 (some 27) HT_ ?_
    refine last_ (i := 15) (N := none) (bo_ 16 65535) rfl rfl (one_of HT_.out (by kernel_rfl)) (by decide) (fun K hK => ?_)
    refine skip_ (w1 := ?_) (by rfl) rfl ?_ ?_
    rotate_left
    ·go_simp
     rfl
    refine hK.out _ _ ?_
    clear hK K
    refine done_ (done_of HT_.out (by kernel_rfl)) ?_
    try go_wp2
    (try simp only [← hl0_1])
    go_roundg k1
    case measure => have := HK1.out; omega
    case rel => exact ⟨(y301), (wrap64 (x2_1 + 1)), (wrap64 (x3_1 - 1)), (by rfl), (by rfl), H', ⟨by have := HK1.out; omega⟩, ⟨by (try simp only [hl0_1]); exact HQ12.out⟩, ⟨by repeat (with_reducible first | exact HK.out | refine Kept.setCell ?_ HMgo8.out _)⟩, ⟨by repeat (with_reducible first | exact HB.out | refine below_set ?_ GB8.out)⟩⟩
   ·rw [if_neg c3] at H
    have c3b0 := decide_eq_false c3
    clear c3
    obtain rfl := Option.some.inj H
    go_wp2
    (go_end0)
    exact ⟨by (rfl), HO_0.out, by exact HB.out, by exact HK.out⟩
def octet_Put.l0 : Nat → Int → Bool → List Int → Int → Int → Option (List Int × Bool)
 | 0, _, _, _, _, _ => none
 | k + 1, x0, x2, x8, x16, x17 => if x17 < x16 then (if 0 ≤ (wrap64 (8 * x17)) then (if 0 ≤ x17 then (if x17 < (x8.length : Int) then (octet_Put.l0 k x0 x2 (x8.set (x17 : Int).toNat ((shr .u64 x0 (wrap64 (8 * x17))) % 256)) x16 (wrap64 (x17 + 1))) else (none)) else (none)) else (none)) else (if x2 = true then ((slices_Reverse_byte_byte.f k x8).bind fun t307 => (some (t307, true))) else (some (x8, true)))
def octet_Put.f (k : Nat) (a0 : Int) (a1 : Int) (a2 : Bool) : Option (List Int × Bool) := (octet_Fits.f a0 a1).bind fun t302 => (if t302 = true then (if 0 ≤ a1 then (if (a1 : Int).toNat ≤ 281474976710656 then (octet_Put.l0 k a0 a2 (List.replicate (a1 : Int).toNat 0) a1 0) else (none)) else (none)) else (some (([] : List Int), false)))
theorem octet_Put.calls (k : Nat) (a0 : Int) (a1 : Int) (a2 : Bool) (r1 : List Int) (r2 : Bool) (w : World) (h : octet_Put.f k a0 a1 a2 = some (r1, r2)) :
  Calls Tryd.prog 72 #[.int .u64 a0, .int .i64 a1, .bool a2] w fun e w' => ∃ v0_ : Value, e = .returned (.tuple #[v0_, .bool r2]) ∧ Kd.R (Kd.int .u8) 5 w' w.heap.size (fun _ => True) v0_ r1 ∧ Below w.heap.size w w' := by
 have HB := a_ (Below.refl w.heap.size w)
 have H := h
 clear h
 unfold octet_Put.f at H
 replace H := Option.bind_eq_some_iff.mp H
 obtain ⟨t302, A40, H⟩ := H
 try dsimp only at H
 have A4 := a_ A40
 clear A40
 by_cases c5 : t302 = true
 ·subst c5
  rw [if_pos rfl] at H
  have c6 := ifc_ H
  replace H := ift_ H
  have c6b0 := eq_true c6
  have c6b1 := decide_eq_true c6
  clear c6
  have c7 := ifc_ H
  replace H := ift_ H
  have c7b0 := eq_true c7
  have c7b1 := decide_eq_true c7
  clear c7
  obtain ⟨y303, hy303⟩ := is_ ((List.replicate (a1 : Int).toNat 0) : List Int)
  rw [← hy303] at H
  have Ny303 := a_ hy303
  clear hy303
  have H' := a_ H
  clear H
  go_enter Tryd.func72, Tryd.ntmps72
  go_wp2_with (first | (refine gl_ (some 12) Tryd.func89 #[.int .u64 a0, .int .i64 a1] ?_; (with_reducible refine (octet_Fits.calls a0 a1 true _ A4.out).mono ?_); rintro e w' ⟨rfl, ⟨nd, rfl⟩⟩; refine ⟨_, rfl, ?_⟩) | ((with_reducible refine gate_dst (N := 15) rfl ?_); refine Kd.R_make (Kd.int .u8) _ 5 rfl (N := 15) rfl 22 _ _ rfl a1 rfl rfl Tryd.underlying22 (.int .u8 0) 1 info5 rfl (by decide) (by omega) 0 (ok := fun _ => True) (okp := fun _ => True) rfl (fun _ hk => hk) trivial (da_) (Nat.le_trans (Nat.mul_le_mul_right _ (da_ : a1.toNat ≤ 281474976710656)) (by omega)) (Below.refl _ _) (Nat.le_refl _) ?_; intro v304 w8 ho9 hb hg_ hnew_; clear hg_ hnew_; (rw [← Ny303.out] at ho9); have HO305 := a_ (Kd.R_lower ho9 (below_size (by repeat (with_reducible first | exact HB.out | apply pw_below_drewN)))); replace HB := a_ (below_step (by repeat (with_reducible first | exact HB.out | apply pw_below_drewN)) hb); clear hb ho9))
  go_loopg [17] k (fun kq v17 w' => ∃ (x8_1 : List Int) (x17_1 : Int), v17 = .int .i64 x17_1 ∧ Aside0 (octet_Put.l0 kq a0 a2 x8_1 a1 x17_1 = some (r1, r2)) ∧ Aside0 (kq ≤ k) ∧ Aside0 (Kd.R (Kd.int .u8) 5 w' w.heap.size (fun _ => True) v304 x8_1) ∧ Aside0 (Below w.heap.size w w'))
  case atStart => exact ⟨(y303), (0), (by rfl), H', ⟨Nat.le_refl _⟩, ⟨by exact HO305.out⟩, ⟨by exact HB.out⟩⟩
  case round =>
   clear H'
   try clear c6b0
   try clear c6b1
   try clear c7b0
   try clear c7b1
   obtain ⟨x8_1, x17_1, rfl, HA, HK1, HO_8, HB⟩ := hrel
   cases gk with
   | zero => exact absurd HA.out (by simp [octet_Put.l0])
   | succ k1 =>
    have H := HA.out
    clear HA
    simp only [octet_Put.l0] at H
    by_cases c10 : x17_1 < a1
    ·rw [if_pos c10] at H
     have c10b0 := decide_eq_true c10
     clear c10
     obtain ⟨ji11, hji11⟩ := si_ ((wrap64 (8 * x17_1)))
     rw [hji11] at H
     have hji11w : (IntKind.i64.wrap (8 * x17_1)) = ji11 := (i64_w _).trans hji11
     have c12 := ifc_ H
     replace H := ift_ H
     have c12b0 := eq_true c12
     have c12b1 := decide_eq_true c12
     clear c12
     obtain ⟨ji13, hji13⟩ := si_ ((shr .u64 a0 (ji11)))
     rw [hji13] at H
     have hji13_ : (a0 / 2 ^ min (ji11).toNat 64) = ji13 := hji13
     have hji13z : (ji11) ≤ 64 → (a0 / 2 ^ (ji11).toNat) = ji13 := shr_small hji13
     have c14b0 := ifd_ H
     replace H := ift_ H
     have c15b0 := ifd_ H
     replace H := ift_ H
     obtain ⟨y306, hy306⟩ := is_ ((x8_1.set (x17_1 : Int).toNat ((ji13) % 256)) : List Int)
     rw [← hy306] at H
     have Ny306 := a_ hy306
     clear hy306
     have H' := a_ H
     clear H
     have p16 : 0 ≤ (x17_1 : Int) := da_
     have q16 : (x17_1 : Int) < ((x8_1.length : Int) : Int) := da_
     obtain ⟨go16, co16, eo16, gb16, gl16, cl16, HG16⟩ := Kd.R_form HO_8.out (by omega)
     (cases eo16)
     have GB16 := a_ gb16
     have GG16 := a_ HG16
     clear gb16 gl16 HG16
     obtain ⟨hx16_0, hf16_0⟩ := Kd.R_celln 0 HO_8.out (x17_1 : Int) p16 q16
     replace p16 := eq_true p16
     replace q16 := eq_true q16
     have HP17 := Kd.R_putg HO_8.out (x17_1 : Int) ((ji13) % 256)
     go_wp2_with (first | ((with_reducible refine gate_store (t := 5) (p := 27) rfl ?_); refine store_event (t := 5) (p := 27) (v := ?vo_w18) (w1 := (wr.setCell ⟨go16, (x17_1 : Int).toNat, none⟩ (.int .u8 ((ji13) % 256)))) ?hg ?ho ?hn ?hr ?_; (case ho => rfl); (case hg => rfl); (case hn => rfl); (case hr => (go_simp; done)); intro w18 hw; have hg : wr.grownBy w18 (some go16) := (by rw [hw]; exact HP17.2); have hp_ : Kd.R (Kd.int .u8) 5 w18 w.heap.size (fun _ => True) (.slice (some ⟨go16, 0, none⟩) x8_1.length co16) y306 := (by rw [hw, Ny306.out]; exact HP17.1); clear HP17; replace HO_8 := a_ hp_; replace HB := a_ (by rw [hw]; exact below_set (HB.out) GB16.out : Below w.heap.size w w18); clear hg hw hp_))
     go_roundg k1
     case measure => have := HK1.out; omega
     case rel => exact ⟨(y306), (wrap64 (x17_1 + 1)), (by rfl), H', ⟨by have := HK1.out; omega⟩, ⟨by exact HO_8.out⟩, ⟨by exact HB.out⟩⟩
    ·rw [if_neg c10] at H
     have c10b0 := decide_eq_false c10
     clear c10
     by_cases c19 : a2 = true
     ·subst c19
      rw [if_pos rfl] at H
      replace H := Option.bind_eq_some_iff.mp H
      obtain ⟨t307, A200, H⟩ := H
      try dsimp only at H
      have A20 := a_ A200
      clear A200
      obtain ⟨rfl, rfl⟩ := s2_ H
      obtain ⟨Ao21, co21, eo21⟩ := Kd.R_slice HO_8.out
      subst eo21
      go_wp2_with (first | (refine gl_ (some 31) Tryd.func90 #[.slice Ao21 x8_1.length co21] ?_; (with_reducible refine (slices_Reverse_byte_byte.calls k1 (fun k_ => some k_ = (.slice Ao21 x8_1.length co21 : Value).ownBlock) (.slice Ao21 x8_1.length co21) x8_1 t307 w _ HB.out (Kd.R_tight rfl HO_8.out) A20.out).mono ?_); rintro e w22 ⟨rfl, hy0, hb, hkp⟩; refine ⟨_, rfl, ?_⟩; replace HO_8 := a_ (Kd.R_reok rfl hy0 (fun k_ e_ => HO_8.out.1 k_ e_)); replace HB := a_ hb; (try clear hb); (try clear hkp); (try clear hy0)))
      go_ret2
      exact ⟨_, by (rfl), by exact HO_8.out, by exact HB.out⟩
     ·cases nt_ c19
      rw [if_neg nft_] at H
      obtain ⟨rfl, rfl⟩ := s2_ H
      go_wp2
      go_ret2
      exact ⟨_, by (rfl), by exact HO_8.out, by exact HB.out⟩
 ·cases nt_ c5
  rw [if_neg nft_] at H
  obtain ⟨rfl, rfl⟩ := s2_ H
  go_enter Tryd.func72, Tryd.ntmps72
  go_wp2_with (first | (refine gl_ (some 12) Tryd.func89 #[.int .u64 a0, .int .i64 a1] ?_; (with_reducible refine (octet_Fits.calls a0 a1 false _ A4.out).mono ?_); rintro e w' ⟨rfl, ⟨nd, rfl⟩⟩; refine ⟨_, rfl, ?_⟩))
  go_ret2
  exact ⟨_, by (rfl), by (exact Kd.R_nil _ _ _ _ _), by repeat (with_reducible first | exact HB.out | apply pw_below_drewN)⟩
def pcap_laid.l0 : Nat → Bool → Int → List Int → List Int → Int → Int → Option (List Int)
 | 0, _, _, _, _, _, _ => none
 | k + 1, x0, x1, x7, x12, x13, x14 => if x14 < x13 then (if 0 ≤ x14 then (if x14 < (x12.length : Int) then ((octet_Put.f k (IntKind.u64.wrap (rd x12 x14)) x1 x0).bind fun bt333 => (if x7.length + bt333.1.length < 140737488355328 then (pcap_laid.l0 k x0 x1 (x7 ++ bt333.1) x12 x13 (wrap64 (x14 + 1))) else (none))) else (none)) else (none)) else (some x7)
def pcap_laid.f (k : Nat) (a0 : Bool) (a1 : Int) (l2 : List Int) : Option (List Int) := pcap_laid.l0 k a0 a1 ([] : List Int) l2 (l2.length : Int) 0
theorem pcap_laid.calls (k : Nat) (a0 : Bool) (a1 : Int) (A2 : Option Addr) (c2 : Nat) (l2 : List Int) (r : List Int) (w : World) (hr2 : Kd.C (Kd.int .u32) w A2 l2.length l2) (hc2 : l2.length ≤ c2) (h : pcap_laid.f k a0 a1 l2 = some r) :
  Calls Tryd.prog 74 #[.bool a0, .int .i64 a1, .slice A2 l2.length c2] w fun e w' => ∃ v0_ : Value, e = .returned (v0_) ∧ Kd.R (Kd.int .u8) 5 w' w.heap.size (fun _ => True) v0_ r ∧ Below w.heap.size w w' := by
 have HR2 := a_ hr2
 have HC2 := a_ hc2
 clear hr2 hc2
 have HB := a_ (Below.refl w.heap.size w)
 have H := h
 clear h
 unfold pcap_laid.f at H
 have H' := a_ H
 clear H
 go_enter Tryd.func74, Tryd.ntmps74
 go_wp2
 go_loopg [7, 14] k (fun kq v7 v14 w' => ∃ (x7_1 : List Int) (x14_1 : Int), v14 = .int .i64 x14_1 ∧ Aside0 (pcap_laid.l0 kq a0 a1 x7_1 l2 (l2.length : Int) x14_1 = some r) ∧ Aside0 (kq ≤ k) ∧ Aside0 (Kd.R (Kd.int .u8) 5 w' w.heap.size (fun _ => True) v7 x7_1) ∧ Aside0 (Below w.heap.size w w'))
 case atStart => exact ⟨([] : List Int), (0), (by rfl), H', ⟨Nat.le_refl _⟩, ⟨by (exact Kd.R_nil _ _ _ _ _)⟩, ⟨by exact HB.out⟩⟩
 case round =>
  clear H'
  obtain ⟨x7_1, x14_1, rfl, HA, HK1, HO_7, HB⟩ := hrel
  cases gk with
  | zero => exact absurd HA.out (by simp [pcap_laid.l0])
  | succ k1 =>
   have H := HA.out
   clear HA
   simp only [pcap_laid.l0] at H
   by_cases c4 : x14_1 < (l2.length : Int)
   ·rw [if_pos c4] at H
    have c4b0 := decide_eq_true c4
    clear c4
    have c5b0 := ifd_ H
    replace H := ift_ H
    have c6b0 := ifd_ H
    replace H := ift_ H
    replace H := Option.bind_eq_some_iff.mp H
    obtain ⟨⟨t333, t334⟩, A70, H⟩ := H
    try dsimp only at H
    have A7 := a_ A70
    clear A70
    have c8 := ifc_ H
    replace H := ift_ H
    have LMc8 := a_ c8
    clear c8
    obtain ⟨y337, hy337⟩ := is_ ((x7_1 ++ t333))
    rw [← hy337] at H
    have Ny337 := a_ hy337
    clear hy337
    have H' := a_ H
    clear H
    have p332 : 0 ≤ (x14_1 : Int) := da_
    have q332 : x14_1 < (l2.length : Int) := da_
    obtain ⟨ad332, e332, hx332_0⟩ := Kd.at_int HR2.out x14_1 p332 q332
    cases e332
    replace hx332_0 := cb_ HB hx332_0
    replace p332 := eq_true p332
    replace q332 := eq_true q332
    go_wp2_with (first | (refine gl_ (some 23) Tryd.func72 #[.int .u64 (IntKind.u64.wrap (rd l2 x14_1)), .int .i64 a1, .bool a0] ?_; (with_reducible refine (octet_Put.calls k1 (IntKind.u64.wrap (rd l2 x14_1)) a1 a0 t333 t334 _ A7.out).mono ?_); rintro e w9 ⟨v335, rfl, ho0, hb⟩; refine ⟨_, rfl, ?_⟩; have HO336 := rn_ ho0 HO_7 HB; replace HO_7 := rR_ HO_7 ho0 hb; replace HB := bs_ HB hb; (try clear hb); (try clear ho0); obtain ⟨Ao11, co11, eo11⟩ := Kd.R_slice HO336.out; subst eo11) | ((with_reducible refine gate_builtin (b := .append) (xs := #[.tmp 26, .tmp 27]) rfl ?_); at_builtin; refine Kd.R_append_rows (Kd.int .u8) (w0 := w) w.heap.size rfl (.tmp 26) (.tmp 27) 22 5 (.int .u8 0) 1 rfl Tryd.underlying22 info5 rfl (by decide) (by omega) u7 x7_1 t333 _ _ _ (fun k_ => some k_ ≠ (.slice Ao11 t333.length co11 : Value).ownBlock) (fun _ => False) rfl rfl ?aO ?aR (fun _ _ h => h) (fun _ h => h.elim) ?aF ?aB ?aS ?aL ?_; (case aR => exact (Kd.R_reads' HO336.out).2.2); (case aB => exact HB.out); (case aF => exact (fun k_ hk => Kd.fresh' (Kd.R_lt HO336.out) k_ hk)); (case aO => exact (by exact Kd.R_mono HO_7.out (fun _ hk => hk.2))); (case aS => exact (below_size HB.out)); (case aL => have := LMc8.out; omega); intro v338 w10 ho hb hg hat; rw [← Ny337.out] at ho; have HO339 := a_ ho; replace HO336 := a_ (Kd.R_after (ok := (fun _ => True)) HO336.out hg hat); replace HB := a_ hb; clear HO_7; clear ho hb hg hat))
    go_roundg k1
    case measure => have := HK1.out; omega
    case rel => exact ⟨(y337), (wrap64 (x14_1 + 1)), (by rfl), H', ⟨by have := HK1.out; omega⟩, ⟨by exact Kd.R_mono HO339.out (fun _ hk => trivial)⟩, ⟨by exact HB.out⟩⟩
   ·rw [if_neg c4] at H
    have c4b0 := decide_eq_false c4
    clear c4
    obtain rfl := Option.some.inj H
    go_wp2
    go_ret
    exact ⟨_, by (rfl), by exact HO_7.out, by exact HB.out⟩
def umpireref10_Read.l0 : Nat → List Int → List (S58) → Int → Option ((List (S58)) × Int × Int)
 | 0, _, _, _ => none
 | k + 1, x0, x4, x5 => if x5 < (x0.length : Int) then (if 0 ≤ x5 then (if x5 ≤ (x0.length : Int) then ((umpireref10_Next.f k (x0.drop (x5 : Int).toNat)).bind fun bt590 => (if bt590.2.2.2.2 = 0 then (if x4.length < 3518437208883 then (umpireref10_Read.l0 k x0 (x4 ++ [(⟨bt590.1, bt590.2.1, bt590.2.2.1⟩ : S58)]) (wrap64 (x5 + bt590.2.2.2.1))) else (none)) else (some (x4, x5, bt590.2.2.2.2)))) else (none)) else (none)) else (some (x4, 0, 0))
def umpireref10_Read.f (k : Nat) (l0 : List Int) : Option ((List (S58)) × Int × Int) := umpireref10_Read.l0 k l0 ([] : List (S58)) 0
theorem umpireref10_Read.calls (k : Nat) (A0 : Option Addr) (c0 : Nat) (l0 : List Int) (r1 : List (S58)) (r2 : Int) (r3 : Int) (w : World) (hr0 : Kd.C (Kd.int .u8) w A0 l0.length l0) (hc0 : l0.length ≤ c0) (h : umpireref10_Read.f k l0 = some (r1, r2, r3)) :
  Calls Tryd.prog 20 #[.slice A0 l0.length c0] w fun e w' => ∃ v0_ : Value, e = .returned (.tuple #[v0_, .agg #[.int .i64 r2, .int .i64 r3]]) ∧ Kd.S k58 58 w' w.heap.size (fun _ => True) v0_ r1 ∧ Below w.heap.size w w' := by
 have hu30 := Tryd.underlying30
 have hu58 := Tryd.underlying58
 have HR0 := a_ hr0
 have HC0 := a_ hc0
 clear hr0 hc0
 have HB := a_ (Below.refl w.heap.size w)
 have H := h
 clear h
 unfold umpireref10_Read.f at H
 have H' := a_ H
 clear H
 go_enter Tryd.func20, Tryd.ntmps20
 go_wp2_with (first | (refine be_ 3 #[.int .i64 0, .int .i64 0] 30 ?_; intro gb588 hg w2 hbox hb; have BK588 := a_ hbox; have GE588 := lb_ HB hg; replace HB := bs_ HB hb; clear hb hbox hg))
 go_loopg [4, 5] k (fun kq v4 v5 w' => ∃ (x4_1 : List (S58)) (x5_1 : Int) (x589000_1 : Int) (x589001_1 : Int), v5 = .int .i64 x5_1 ∧ Aside0 (umpireref10_Read.l0 kq l0 x4_1 x5_1 = some (r1, r2, r3)) ∧ Aside0 (kq ≤ k) ∧ Aside0 (Kd.S k58 58 w' w.heap.size (fun _ => True) v4 x4_1) ∧ Aside0 (w'.heap[gb588]? = some (.cells #[.int .i64 x589000_1, .int .i64 x589001_1] 30 (0, 0))) ∧ Aside0 (Below w.heap.size w w'))
 case atStart => exact ⟨([] : List (S58)), (0), (0), (0), (by rfl), H', ⟨Nat.le_refl _⟩, ⟨by (exact Kd.S_nil _ _ _ _ _)⟩, ⟨by exact BK588.out⟩, ⟨by exact HB.out⟩⟩
 case round =>
  clear H'
  obtain ⟨x4_1, x5_1, x589000_1, x589001_1, rfl, HA, HK1, HO_4, BK588, HB⟩ := hrel
  cases gk with
  | zero => exact absurd HA.out (by simp [umpireref10_Read.l0])
  | succ k1 =>
   have H := HA.out
   clear HA
   simp only [umpireref10_Read.l0] at H
   by_cases c3 : x5_1 < (l0.length : Int)
   ·rw [if_pos c3] at H
    have c3b0 := decide_eq_true c3
    clear c3
    have c4 := ifc_ H
    replace H := ift_ H
    have c4b0 := eq_true c4
    have c4b1 := decide_eq_true c4
    clear c4
    have c5 := ifc_ H
    replace H := ift_ H
    have c5b0 := eq_true c5
    have c5b1 := decide_eq_true c5
    clear c5
    replace H := Option.bind_eq_some_iff.mp H
    obtain ⟨⟨t590, t591, t592, t595, t596⟩, A60, H⟩ := H
    try dsimp only at H
    have A6 := a_ A60
    clear A60
    by_cases c7 : t596 = 0
    ·rw [if_pos c7] at H
     obtain ⟨c7b0, c7b1⟩ := bt_ c7
     clear c7
     have c8 := ifc_ H
     replace H := ift_ H
     have LMc8 := a_ c8
     clear c8
     obtain ⟨y598, hy598⟩ := is_ ((x4_1 ++ [(⟨t590, t591, t592⟩ : S58)]) : List (S58))
     rw [← hy598] at H
     have Ny598 := a_ hy598
     clear hy598
     have H' := a_ H
     clear H
     obtain ⟨i09, hi09, _, hsz9, _⟩ := info_parts info5
     obtain ⟨A9, hcut9, hA9, hC9⟩ := print_drop_of (P := Tryd.prog) (Value.int .u8) 0 22 5 .i64 Tryd.underlying22 hi09 hsz9 A0 c0 l0 x5_1 (da_) (da_) HC0.out
     have HR589 := ci_ (Kd.C_of_reads (h1 := fun _ => rfl) (hA9 _ (Kd.reads_of_C HR0.out)))
     have HC589 := a_ hC9
     clear hA9 hC9 hi09 hsz9
     go_wp2_with (first | (refine gl_ (some 17) Tryd.func39 #[.slice A9 (l0.drop (x5_1 : Int).toNat).length (c0 - x5_1.toNat)] ?_ (hargs := by (try simp only [List.map_toArray, List.map_cons, List.map_nil]); (rw [show (l0.drop (x5_1 : Int).toNat).length = (l0.length - x5_1.toNat) from List.length_drop] <;> rfl)); (with_reducible refine (umpireref10_Next.calls k1 _ _ (l0.drop (x5_1 : Int).toNat) t590 t591 t592 t595 t596 _ (Kd.C_below HR589.out HB.out) HC589.out A6.out).mono ?_); rintro e w10 ⟨v593, rfl, ho0, hb⟩; refine ⟨_, rfl, ?_⟩; have HO594 := rl_ ho0 HB; replace HO_4 := rS_ HO_4 ho0 hb; replace BK588 := bb_ BK588 hb; replace HB := bs_ HB hb; (try clear hb); (try clear ho0)) | (refine be_ 6 #[.int .i64 0, .int .u32 0, .slice none 0 0] 58 ?_; intro gb597 hg w11 hbox hb; have BK597 := a_ hbox; have GE597 := lb_ HB hg; obtain ⟨NB588_597, NB597_588⟩ := nn_ BK588 hg; replace HO_4 := se_ HO_4 hg hb; replace HO594 := rb_ HO594 hb; replace BK588 := bb_ BK588 hb; replace HB := bs_ HB hb; clear hb hbox hg; have hnb12 := NB597_588.out; have hnc12 := NB588_597.out; obtain ⟨hcz13_0, hcz13_1, hcz13_2, hfz13_0, hfz13_1, hfz13_2⟩ := blk3 BK597.out; obtain ⟨Ao14, co14, eo14⟩ := Kd.R_slice HO594.out; subst eo14) | ((with_reducible refine gate_store (t := 58) (p := 6) rfl ?_); refine store_event (t := 58) (p := 6) (v := ?vo_w15) (w1 := (((w11.setCell ⟨gb597, 0, none⟩ (.int .i64 t590)).setCell ⟨gb597, 1, none⟩ (.int .u32 t591)).setCell ⟨gb597, 2, none⟩ (.slice Ao14 t592.length co14))) ?hg ?ho ?hn ?hr ?_; (case ho => rfl); (case hg => rfl); (case hn => rfl); (case hr => (go_simp; done)); intro w15 hw; have n0_ : Aside0 (Kd.S k58 58 w15 w.heap.size (fun k_ => some k_ ≠ (.slice Ao14 t592.length co14 : Value).ownBlock ∧ k_ ≠ gb597) u4 x4_1) := ⟨(by rw [hw]; exact (by exact Kd.S_mono (Kd.S_far (p := ⟨gb597, 2, none⟩) (Kd.S_far (p := ⟨gb597, 1, none⟩) (Kd.S_far (p := ⟨gb597, 0, none⟩) (Kd.S_mono HO_4.out (fun k_ hk => (⟨hk, hk.2⟩ : _ ∧ k_ ≠ gb597))) (fun _ hk => hk.2) (.int .i64 t590)) (fun _ hk => hk.2) (.int .u32 t591)) (fun _ hk => hk.2) (.slice Ao14 t592.length co14)) (fun _ hk => ⟨hk.1.1.2, hk.1.2⟩)))⟩; have n1_ : Aside0 (Kd.R (Kd.int .u8) 5 w15 w.heap.size (fun _ => True) (.slice Ao14 t592.length co14) t592) := ⟨(by rw [hw]; exact (by exact Kd.R_mono (Kd.R_far (p := ⟨gb597, 2, none⟩) (Kd.R_far (p := ⟨gb597, 1, none⟩) (Kd.R_far (p := ⟨gb597, 0, none⟩) (Kd.R_types HO594.out BK597.out (by decide)) (fun _ hk => hk.2) (.int .i64 t590)) (fun _ hk => hk.2) (.int .u32 t591)) (fun _ hk => hk.2) (.slice Ao14 t592.length co14)) (fun _ hk => trivial)))⟩; have n2_ : Aside0 (w15.heap[gb588]? = some (.cells #[.int .i64 x589000_1, .int .i64 x589001_1] 30 (0, 0))) := ⟨(by rw [hw]; exact (by refine blk_far ?_ NB588_597.out _; refine blk_far ?_ NB588_597.out _; refine blk_far ?_ NB588_597.out _; exact BK588.out))⟩; have n3_ : Aside0 (w15.heap[gb597]? = some (.cells #[.int .i64 t590, .int .u32 t591, .slice Ao14 t592.length co14] 58 (0, 0))) := ⟨(by rw [hw]; exact (by refine blk_put (cs := #[.int .i64 t590, .int .u32 t591, .slice none 0 0]) ?_ 2 _ rfl; refine blk_put (cs := #[.int .i64 t590, .int .u32 0, .slice none 0 0]) ?_ 1 _ rfl; refine blk_put (cs := #[.int .i64 0, .int .u32 0, .slice none 0 0]) ?_ 0 _ rfl; exact BK597.out))⟩; have n4_ : Aside0 (Below w.heap.size w w15) := ⟨(by rw [hw]; exact (by repeat (with_reducible first | exact HB.out | refine below_set ?_ GE597.out)))⟩; clear hw; clear HO_4; clear HO594; clear BK588; clear BK597; clear HB; have HO_4 := n0_; have HO594 := n1_; have BK588 := n2_; have BK597 := n3_; have HB := n4_; clear n0_ n1_ n2_ n3_ n4_; obtain ⟨hcz16_0, hcz16_1, hcz16_2, hfz16_0, hfz16_1, hfz16_2⟩ := blk3 BK597.out) | ((with_reducible refine gate_builtin (b := .append) (xs := #[.tmp 27, .tmp 29]) rfl ?_); at_builtin; refine Kd.S_append k58 (w0 := w) w.heap.size rfl (.tmp 27) (.tmp 29) 54 58 (.agg #[(.int .i64 0), (.int .u32 0), (.slice none 0 0)]) 40 rfl Tryd.underlying54 info58 rfl (by decide) (by omega) u4 x4_1 (⟨t590, t591, t592⟩ : S58) [.int .i64 t590, .int .u32 t591, .slice Ao14 t592.length co14] (fun k_ => k_ ≠ gb597) (fun k_ => some k_ = (.slice Ao14 t592.length co14 : Value).ownBlock) rfl rfl ?aP (fun k_ hk_ => ((Kd.R_mono (ok' := fun k_ => (fun k_ => k_ ≠ gb597) k_ ∧ some k_ ≠ (u4 : Value).ownBlock) (Kd.R_types (Kd.R_apart' (HO594.out) (Kd.S_typed HO_4.out) (by decide)) BK597.out (by decide)) (fun k_ hk => ⟨hk.2, hk.1.2⟩))).1 k_ hk_.symm) ?aF ?aO ?aB ?aS ?aL ?_; (case aP => exact k58_mkM _ _ _ (⟨t590, t591, t592⟩ : S58) (Kd.R_mono (Kd.R_tight rfl (Kd.R_mono (ok' := fun k_ => (fun k_ => k_ ≠ gb597) k_ ∧ some k_ ≠ (u4 : Value).ownBlock) (Kd.R_types (Kd.R_apart' (HO594.out) (Kd.S_typed HO_4.out) (by decide)) BK597.out (by decide)) (fun k_ hk => ⟨hk.2, hk.1.2⟩))) (fun _ h_ => h_))); (case aB => exact HB.out); (case aF => exact (fun k_ hk => Kd.freshB BK597.out k_ hk)); (case aO => exact (by exact Kd.S_mono HO_4.out (fun k_ hk => ⟨hk.2, fun e_ => hk.1 e_⟩))); (case aS => exact (below_size HB.out)); (case aL => have := LMc8.out; omega); intro v599 w17 ho hb hg hat; rw [← Ny598.out] at ho; have HO600 := a_ ho; replace BK588 := a_ (blk_grown BK588.out hg (Kd.S_ne HO_4.out BK588.out (by decide))); replace BK597 := a_ (blk_grown BK597.out hg (Kd.S_away HO_4.out (fun _ hk => hk.2))); replace HB := a_ hb; clear HO_4; clear HO594; clear ho hb hg hat))
     go_roundg k1
     case measure => have := HK1.out; omega
     case rel => exact ⟨(y598), (wrap64 (x5_1 + t595)), (x589000_1), (x589001_1), (by rfl), H', ⟨by have := HK1.out; omega⟩, ⟨by exact Kd.S_mono HO600.out (fun _ hk => trivial)⟩, ⟨by exact BK588.out⟩, ⟨by exact HB.out⟩⟩
    ·rw [if_neg c7] at H
     have c7b0 := beq_eq_false_iff_ne.mpr c7
     have c7b1 := bne_iff_ne.mpr c7
     obtain ⟨rfl, rfl, rfl⟩ := s3_ H
     obtain ⟨i018, hi018, _, hsz18, _⟩ := info_parts info5
     obtain ⟨A18, hcut18, hA18, hC18⟩ := print_drop_of (P := Tryd.prog) (Value.int .u8) 0 22 5 .i64 Tryd.underlying22 hi018 hsz18 A0 c0 l0 x5_1 (da_) (da_) HC0.out
     have HR589 := ci_ (Kd.C_of_reads (h1 := fun _ => rfl) (hA18 _ (Kd.reads_of_C HR0.out)))
     have HC589 := a_ hC18
     clear hA18 hC18 hi018 hsz18
     go_wp2_with (first | (refine gl_ (some 17) Tryd.func39 #[.slice A18 (l0.drop (x5_1 : Int).toNat).length (c0 - x5_1.toNat)] ?_ (hargs := by (try simp only [List.map_toArray, List.map_cons, List.map_nil]); (rw [show (l0.drop (x5_1 : Int).toNat).length = (l0.length - x5_1.toNat) from List.length_drop] <;> rfl)); (with_reducible refine (umpireref10_Next.calls k1 _ _ (l0.drop (x5_1 : Int).toNat) t590 t591 t592 t595 t596 _ (Kd.C_below HR589.out HB.out) HC589.out A6.out).mono ?_); rintro e w19 ⟨v593, rfl, ho0, hb⟩; refine ⟨_, rfl, ?_⟩; have HO594 := rl_ ho0 HB; replace HO_4 := rS_ HO_4 ho0 hb; replace BK588 := bb_ BK588 hb; replace HB := bs_ HB hb; (try clear hb); (try clear ho0)) | (refine be_ 6 #[.int .i64 0, .int .u32 0, .slice none 0 0] 58 ?_; intro gb597 hg w20 hbox hb; have BK597 := a_ hbox; have GE597 := lb_ HB hg; obtain ⟨NB588_597, NB597_588⟩ := nn_ BK588 hg; replace HO_4 := se_ HO_4 hg hb; replace HO594 := rb_ HO594 hb; replace BK588 := bb_ BK588 hb; replace HB := bs_ HB hb; clear hb hbox hg; have hnb21 := NB597_588.out; have hnc21 := NB588_597.out; obtain ⟨hcz22_0, hcz22_1, hcz22_2, hfz22_0, hfz22_1, hfz22_2⟩ := blk3 BK597.out; obtain ⟨Ao23, co23, eo23⟩ := Kd.R_slice HO594.out; subst eo23; obtain ⟨hcz24_0, hcz24_1, hfz24_0, hfz24_1⟩ := blk2 BK588.out))
     refine bodyPost_ret (results_tc rfl _ _ gb588 30 #[.int .i64 x5_1, .int .i64 t596] (0, 0) _ rfl (by refine blk_put (cs := #[.int .i64 x5_1, .int .i64 x589001_1]) ?_ 1 _ rfl; refine blk_put (cs := #[.int .i64 x589000_1, .int .i64 x589001_1]) ?_ 0 _ rfl; refine blk_far ?_ NB588_597.out _; refine blk_far ?_ NB588_597.out _; refine blk_far ?_ NB588_597.out _; exact BK588.out) Tryd.underlying30 rfl (by kernel_rfl)) rfl ?_
     exact ⟨_, by (rfl), by exact Kd.S_mono (Kd.S_far (p := ⟨gb588, 1, none⟩) (Kd.S_far (p := ⟨gb588, 0, none⟩) (Kd.S_far (p := ⟨gb597, 2, none⟩) (Kd.S_far (p := ⟨gb597, 1, none⟩) (Kd.S_far (p := ⟨gb597, 0, none⟩) (Kd.S_types (Kd.S_mono HO_4.out (fun k_ hk => (⟨hk, hk.2⟩ : _ ∧ k_ ≠ gb597))) BK588.out (by decide)) (fun _ hk => hk.1.2) (.int .i64 t590)) (fun _ hk => hk.1.2) (.int .u32 t591)) (fun _ hk => hk.1.2) (.slice Ao23 t592.length co23)) (fun _ hk => hk.2) (.int .i64 x5_1)) (fun _ hk => hk.2) (.int .i64 t596)) (fun _ hk => trivial), by repeat (with_reducible first | exact HB.out | refine below_set ?_ GE588.out | refine below_set ?_ GE597.out)⟩
   ·rw [if_neg c3] at H
    have c3b0 := decide_eq_false c3
    clear c3
    obtain ⟨rfl, rfl, rfl⟩ := s3_ H
    obtain ⟨hcz25_0, hcz25_1, hfz25_0, hfz25_1⟩ := blk2 BK588.out
    go_wp2
    refine bodyPost_ret (results_tc rfl _ _ gb588 30 #[.int .i64 0, .int .i64 0] (0, 0) _ rfl (by refine blk_put (cs := #[.int .i64 0, .int .i64 x589001_1]) ?_ 1 _ rfl; refine blk_put (cs := #[.int .i64 x589000_1, .int .i64 x589001_1]) ?_ 0 _ rfl; exact BK588.out) Tryd.underlying30 rfl (by kernel_rfl)) rfl ?_
    exact ⟨_, by (rfl), by exact Kd.S_mono (Kd.S_far (p := ⟨gb588, 1, none⟩) (Kd.S_far (p := ⟨gb588, 0, none⟩) (Kd.S_types HO_4.out BK588.out (by decide)) (fun _ hk => hk.2) (.int .i64 0)) (fun _ hk => hk.2) (.int .i64 0)) (fun _ hk => trivial), by repeat (with_reducible first | exact HB.out | refine below_set ?_ GE588.out)⟩
def umpireref10_May.j0 : Nat → Bool → Int → Int → List Int → Option (Bool)
 | 0, _, _, _, _ => none
 | k + 1, x10, x774000, x774001, x774002 => if x10 = true then (some (x774001 == 0)) else (if (x774002.length : Int) > 0 then (some false) else (if x774000 = 3 then (some (x774001 == 0)) else (if x774000 = 4 then (some (x774001 == 0)) else (if x774000 = 5 then (some true) else (if x774000 = 7 then (some true) else (if x774000 = 6 then (some (decide (x774001 < 256))) else (some false)))))))
def umpireref10_May.f (k : Nat) (a0_0 : Int) (a0_1 : Int) (l0_2 : List Int) : Option (Bool) := if a0_0 = 1 then (umpireref10_May.j0 k true a0_0 a0_1 l0_2) else (umpireref10_May.j0 k (a0_0 == 2) a0_0 a0_1 l0_2)
theorem umpireref10_May.calls (k : Nat) (a0_0 : Int) (a0_1 : Int) (A0_2 : Option Addr) (c0_2 : Nat) (l0_2 : List Int) (r : Bool) (w : World) (hr0_2 : Kd.C (Kd.int .u8) w A0_2 l0_2.length l0_2) (hc0_2 : l0_2.length ≤ c0_2) (h : umpireref10_May.f k a0_0 a0_1 l0_2 = some r) :
  Calls Tryd.prog 40 #[.agg #[.int .i64 a0_0, .int .u32 a0_1, .slice A0_2 l0_2.length c0_2]] w fun e w' => e = .returned (.bool r) ∧ Below w.heap.size w w' := by
 have hu58 := Tryd.underlying58
 have HR0_2 := a_ hr0_2
 have HC0_2 := a_ hc0_2
 clear hr0_2 hc0_2
 have HB := a_ (Below.refl w.heap.size w)
 have H := h
 clear h
 unfold umpireref10_May.f at H
 have HC2 := a_ H
 clear H
 go_enter Tryd.func40, Tryd.ntmps40
 go_upto_region 1 with (first | (refine be_ 1 #[.int .i64 a0_0, .int .u32 a0_1, .slice A0_2 l0_2.length c0_2] 58 ?_; intro gb773 hg w3 hbox hb; have BK773 := a_ hbox; have GE773 := lb_ HB hg; replace HB := bs_ HB hb; clear hb hbox hg))
 go_cut [10] (fun v10 wc => ∃ (kq : Nat) (x10_1 : Bool), v10 = .bool x10_1 ∧ Aside0 (umpireref10_May.j0 kq x10_1 a0_0 a0_1 l0_2 = some r) ∧ Aside0 (kq ≤ k) ∧ Aside0 (wc.heap[gb773]? = some (.cells #[.int .i64 a0_0, .int .u32 a0_1, (.slice A0_2 l0_2.length c0_2)] 58 (0, 0))) ∧ Aside0 (Below w.heap.size w wc))
 case first =>
  have H := HC2.out
  clear HC2
  by_cases c4 : a0_0 = 1
  ·rw [if_pos c4] at H
   obtain ⟨c4b0, c4b1⟩ := bt_ c4
   have H' := a_ H
   clear H
   obtain ⟨hcz5_0, hcz5_1, hcz5_2, hfz5_0, hfz5_1, hfz5_2⟩ := blk3 BK773.out
   go_wp2
   go_meet
   case rel => exact ⟨_, (true), (by rfl), H', ⟨by (omega)⟩, ⟨by exact BK773.out⟩, ⟨by exact HB.out⟩⟩
  ·rw [if_neg c4] at H
   have c4b0 := beq_eq_false_iff_ne.mpr c4
   have c4b1 := bne_iff_ne.mpr c4
   have H' := a_ H
   clear H
   obtain ⟨hcz6_0, hcz6_1, hcz6_2, hfz6_0, hfz6_1, hfz6_2⟩ := blk3 BK773.out
   go_wp2
   go_meet
   case rel => exact ⟨_, (a0_0 == 2), (by rfl), H', ⟨by (omega)⟩, ⟨by exact BK773.out⟩, ⟨by exact HB.out⟩⟩
 case rest =>
  clear HC2
  obtain ⟨kq, x10_1, rfl, HA, HJ1, BK773, HB⟩ := hcut
  cases kq with
  | zero => exact absurd HA.out (by simp [umpireref10_May.j0])
  | succ kj1 =>
   have H := HA.out
   clear HA
   simp only [umpireref10_May.j0] at H
   by_cases c7 : x10_1 = true
   ·subst c7
    rw [if_pos rfl] at H
    obtain rfl := Option.some.inj H
    obtain ⟨hcz8_0, hcz8_1, hcz8_2, hfz8_0, hfz8_1, hfz8_2⟩ := blk3 BK773.out
    go_wp2
    go_ret
    exact ⟨by (rfl), by exact HB.out⟩
   ·cases nt_ c7
    rw [if_neg nft_] at H
    by_cases c9 : (l0_2.length : Int) > 0
    ·rw [if_pos c9] at H
     have c9b0 : decide (0 < (l0_2.length : Int)) = true := decide_eq_true c9
     have c9b1 : decide (0 < l0_2.length) = true := decide_eq_true (by omega)
     clear c9
     obtain rfl := Option.some.inj H
     obtain ⟨hcz10_0, hcz10_1, hcz10_2, hfz10_0, hfz10_1, hfz10_2⟩ := blk3 BK773.out
     go_wp2
     go_ret
     exact ⟨by (rfl), by exact HB.out⟩
    ·rw [if_neg c9] at H
     have c9b0 : decide (0 < (l0_2.length : Int)) = false := decide_eq_false c9
     have c9b1 : decide (0 < l0_2.length) = false := decide_eq_false (by omega)
     clear c9
     by_cases c11 : a0_0 = 3
     ·rw [if_pos c11] at H
      obtain ⟨c11b0, c11b1⟩ := bt_ c11
      obtain rfl := Option.some.inj H
      obtain ⟨hcz12_0, hcz12_1, hcz12_2, hfz12_0, hfz12_1, hfz12_2⟩ := blk3 BK773.out
      go_wp2
      go_ret
      exact ⟨by (rfl), by exact HB.out⟩
     ·rw [if_neg c11] at H
      have c11b0 := beq_eq_false_iff_ne.mpr c11
      have c11b1 := bne_iff_ne.mpr c11
      by_cases c13 : a0_0 = 4
      ·rw [if_pos c13] at H
       obtain ⟨c13b0, c13b1⟩ := bt_ c13
       obtain rfl := Option.some.inj H
       obtain ⟨hcz14_0, hcz14_1, hcz14_2, hfz14_0, hfz14_1, hfz14_2⟩ := blk3 BK773.out
       go_wp2
       go_ret
       exact ⟨by (rfl), by exact HB.out⟩
      ·rw [if_neg c13] at H
       have c13b0 := beq_eq_false_iff_ne.mpr c13
       have c13b1 := bne_iff_ne.mpr c13
       by_cases c15 : a0_0 = 5
       ·rw [if_pos c15] at H
        obtain ⟨c15b0, c15b1⟩ := bt_ c15
        obtain rfl := Option.some.inj H
        obtain ⟨hcz16_0, hcz16_1, hcz16_2, hfz16_0, hfz16_1, hfz16_2⟩ := blk3 BK773.out
        go_wp2
        go_ret
        exact ⟨by (rfl), by exact HB.out⟩
       ·rw [if_neg c15] at H
        have c15b0 := beq_eq_false_iff_ne.mpr c15
        have c15b1 := bne_iff_ne.mpr c15
        by_cases c17 : a0_0 = 7
        ·rw [if_pos c17] at H
         obtain ⟨c17b0, c17b1⟩ := bt_ c17
         obtain rfl := Option.some.inj H
         obtain ⟨hcz18_0, hcz18_1, hcz18_2, hfz18_0, hfz18_1, hfz18_2⟩ := blk3 BK773.out
         go_wp2
         go_ret
         exact ⟨by (rfl), by exact HB.out⟩
        ·rw [if_neg c17] at H
         have c17b0 := beq_eq_false_iff_ne.mpr c17
         have c17b1 := bne_iff_ne.mpr c17
         by_cases c19 : a0_0 = 6
         ·rw [if_pos c19] at H
          obtain ⟨c19b0, c19b1⟩ := bt_ c19
          obtain rfl := Option.some.inj H
          obtain ⟨hcz20_0, hcz20_1, hcz20_2, hfz20_0, hfz20_1, hfz20_2⟩ := blk3 BK773.out
          go_wp2
          go_ret
          exact ⟨by (rfl), by exact HB.out⟩
         ·rw [if_neg c19] at H
          have c19b0 := beq_eq_false_iff_ne.mpr c19
          have c19b1 := bne_iff_ne.mpr c19
          obtain rfl := Option.some.inj H
          obtain ⟨hcz21_0, hcz21_1, hcz21_2, hfz21_0, hfz21_1, hfz21_2⟩ := blk3 BK773.out
          go_wp2
          go_ret
          exact ⟨by (rfl), by exact HB.out⟩
def umpireref02_Put.l0 : Nat → Int → Int → Bool → List Int → Int → Option (List Int)
 | 0, _, _, _, _, _ => none
 | k + 1, x0, x1, x2, x7, x8 => if x8 < x1 then (if x2 = true then ((some (([(Int.tmod x0 256) % 256] : List Int) : List Int)).bind fun y448 => (if y448.length + x7.length < 140737488355328 then (umpireref02_Put.l0 k (IntKind.u64.wrap (Int.tdiv x0 256)) x1 x2 (y448 ++ x7) (wrap64 (x8 + 1))) else (none))) else (if x7.length < 140737488355328 then (umpireref02_Put.l0 k (IntKind.u64.wrap (Int.tdiv x0 256)) x1 x2 (x7 ++ [(Int.tmod x0 256) % 256]) (wrap64 (x8 + 1))) else (none))) else (some x7)
def umpireref02_Put.f (k : Nat) (a0 : Int) (a1 : Int) (a2 : Bool) : Option (List Int) := umpireref02_Put.l0 k a0 a1 a2 ([] : List Int) 0
theorem umpireref02_Put.calls (k : Nat) (a0 : Int) (a1 : Int) (a2 : Bool) (r : List Int) (w : World) (h : umpireref02_Put.f k a0 a1 a2 = some r) :
  Calls Tryd.prog 60 #[.int .u64 a0, .int .i64 a1, .bool a2] w fun e w' => ∃ v0_ : Value, e = .returned (v0_) ∧ Kd.R (Kd.int .u8) 5 w' w.heap.size (fun _ => True) v0_ r ∧ Below w.heap.size w w' := by
 have HB := a_ (Below.refl w.heap.size w)
 have H := h
 clear h
 unfold umpireref02_Put.f at H
 have H' := a_ H
 clear H
 go_enter Tryd.func60, Tryd.ntmps60
 go_wp2
 go_loopg [0, 7, 8] k (fun kq v0 v7 v8 w' => ∃ (x0_1 : Int) (x7_1 : List Int) (x8_1 : Int), v0 = .int .u64 x0_1 ∧ v8 = .int .i64 x8_1 ∧ Aside0 (umpireref02_Put.l0 kq x0_1 a1 a2 x7_1 x8_1 = some r) ∧ Aside0 (kq ≤ k) ∧ Aside0 (Kd.R (Kd.int .u8) 5 w' w.heap.size (fun _ => True) v7 x7_1) ∧ Aside0 (Below w.heap.size w w'))
 case atStart => exact ⟨(a0), ([] : List Int), (0), (by rfl), (by rfl), H', ⟨Nat.le_refl _⟩, ⟨by (exact Kd.R_nil _ _ _ _ _)⟩, ⟨by exact HB.out⟩⟩
 case round =>
  clear H'
  obtain ⟨x0_1, x7_1, x8_1, rfl, rfl, HA, HK1, HO_7, HB⟩ := hrel
  cases gk with
  | zero => exact absurd HA.out (by simp [umpireref02_Put.l0])
  | succ k1 =>
   have H := HA.out
   clear HA
   simp only [umpireref02_Put.l0] at H
   by_cases c4 : x8_1 < a1
   ·rw [if_pos c4] at H
    have c4b0 := decide_eq_true c4
    clear c4
    by_cases c5 : a2 = true
    ·subst c5
     rw [if_pos rfl] at H
     obtain ⟨y448, hy448⟩ := is_ (([(Int.tmod x0_1 256) % 256] : List Int))
     rw [Option.bind_some, ← hy448] at H
     have Ny448 := a_ hy448
     clear hy448
     have c6 := ifc_ H
     replace H := ift_ H
     have LMc6 := a_ c6
     clear c6
     obtain ⟨y451, hy451⟩ := is_ ((y448 ++ x7_1))
     rw [← hy451] at H
     have Ny451 := a_ hy451
     clear hy451
     have H' := a_ H
     clear H
     go_wp2_with (first | ((with_reducible refine gate_dst (N := 22) rfl ?_); refine Kd.R_lit (Kd.int .u8) _ 5 ?hg (N := 22) ?hd (xs := ([(Int.tmod x0_1 256) % 256] : List Int)) (inner := [.int .u8 ((Int.tmod x0_1 256) % 256)]) (ok := fun _ => True) (okp := fun _ => True) ?hr ?hp (fun _ hk => hk) trivial (Below.refl _ _) (Nat.le_refl _) (by simp) ?_; (case hd => rfl); (case hg => rfl); (case hr => (go_simp; done)); (case hp => exact (Reps.one (show Kd.M (Kd.int .u8) _ _ _ ((Int.tmod x0_1 256) % 256) [.int .u8 ((Int.tmod x0_1 256) % 256)] from rfl) (Reps.none _ _))); intro v449 w7 ho8 hb hg_ hnew_; clear hg_ hnew_; (rw [← Ny448.out] at ho8); have HO450 := rn_ ho8 HO_7 HB; replace HO_7 := rR_ HO_7 ho8 hb; replace HB := bs_ HB hb; clear hb ho8; obtain ⟨Ao10, co10, eo10⟩ := Kd.R_slice HO_7.out; subst eo10) | ((with_reducible refine gate_builtin (b := .append) (xs := #[.tmp 22, .tmp 23]) rfl ?_); at_builtin; refine Kd.R_append_rows (Kd.int .u8) (w0 := w) w.heap.size rfl (.tmp 22) (.tmp 23) 22 5 (.int .u8 0) 1 rfl Tryd.underlying22 info5 rfl (by decide) (by omega) v449 y448 x7_1 _ _ _ (fun k_ => some k_ ≠ (.slice Ao10 x7_1.length co10 : Value).ownBlock) (fun _ => False) rfl rfl ?aO ?aR (fun _ _ h => h) (fun _ h => h.elim) ?aF ?aB ?aS ?aL ?_; (case aR => exact (Kd.R_reads' HO_7.out).2.2); (case aB => exact HB.out); (case aF => exact (fun k_ hk => Kd.fresh' (Kd.R_lt HO_7.out) k_ hk)); (case aO => exact (by exact Kd.R_mono HO450.out (fun _ hk => hk.2))); (case aS => exact (below_size HB.out)); (case aL => have := LMc6.out; omega); intro v452 w9 ho hb hg hat; rw [← Ny451.out] at ho; have HO453 := a_ ho; replace HO_7 := a_ (Kd.R_after (ok := (fun _ => True)) HO_7.out hg hat); replace HB := a_ hb; clear HO450; clear ho hb hg hat))
     go_roundg k1
     case measure => have := HK1.out; omega
     case rel => exact ⟨(IntKind.u64.wrap (Int.tdiv x0_1 256)), (y451), (wrap64 (x8_1 + 1)), (by rfl), (by rfl), H', ⟨by have := HK1.out; omega⟩, ⟨by exact Kd.R_mono HO453.out (fun _ hk => trivial)⟩, ⟨by exact HB.out⟩⟩
    ·cases nt_ c5
     rw [if_neg nft_] at H
     have c11 := ifc_ H
     replace H := ift_ H
     have LMc11 := a_ c11
     clear c11
     obtain ⟨y454, hy454⟩ := is_ ((x7_1 ++ [(Int.tmod x0_1 256) % 256]))
     rw [← hy454] at H
     have Ny454 := a_ hy454
     clear hy454
     have H' := a_ H
     clear H
     go_wp2_with (first | ((with_reducible refine gate_builtin (b := .append) (xs := #[.tmp 25, .tmp 27]) rfl ?_); at_builtin; refine Kd.R_append (Kd.int .u8) (w0 := w) w.heap.size rfl (.tmp 25) (.tmp 27) 22 5 (.int .u8 0) 1 rfl Tryd.underlying22 info5 rfl (by decide) (by omega) u7 x7_1 ((Int.tmod x0_1 256) % 256) [.int .u8 ((Int.tmod x0_1 256) % 256)] (fun _ => True) (fun _ => False) rfl rfl ?aP (fun _ hk => hk.elim) ?aF ?aO ?aB ?aS ?aL ?_; (case aP => exact rfl); (case aB => exact HB.out); (case aF => exact (fun _ _ => trivial)); (case aO => exact HO_7.out); (case aS => exact (below_size HB.out)); (case aL => have := LMc11.out; omega); intro v455 w12 ho hb hg hat; rw [← Ny454.out] at ho; have HO456 := a_ ho; replace HB := a_ hb; clear HO_7; clear ho hb hg hat))
     go_roundg k1
     case measure => have := HK1.out; omega
     case rel => exact ⟨(IntKind.u64.wrap (Int.tdiv x0_1 256)), (y454), (wrap64 (x8_1 + 1)), (by rfl), (by rfl), H', ⟨by have := HK1.out; omega⟩, ⟨by exact HO456.out⟩, ⟨by exact HB.out⟩⟩
   ·rw [if_neg c4] at H
    have c4b0 := decide_eq_false c4
    clear c4
    obtain rfl := Option.some.inj H
    go_wp2
    go_ret
    exact ⟨_, by (rfl), by exact HO_7.out, by exact HB.out⟩
section
attribute [local go_sem high] capture_as65 capture_as65n capture_as65z capture_as67 capture_as67n capture_as67z
def capture_Read.f (k : Nat) (l0 : List Int) (a1 : Int) (a2_0 a2_1 a2_2 a2_3 : Int) (a2_4 a2_5 : ByteArray) (a2_6 a2_7 : Int) (a2_8 : Bool) : Option ((List (S42)) × Int × Int) := if a1 = 1 then capture_records_read.f k l0 a2_6 else if a1 = 2 then capture_notes_read.f k l0 a2_7 a2_8 else some ([], 0, 7)
theorem capture_Read.calls (k : Nat) (A0 : Option Addr) (c0 : Nat) (l0 : List Int) (a1 : Int) (a2_0 a2_1 a2_2 a2_3 : Int) (a2_4 a2_5 : ByteArray) (a2_6 a2_7 : Int) (a2_8 : Bool) (r1 : List (S42)) (r2 r3 : Int) (w : World) (hG0 : Kd.C k131 w (some ⟨0, 0, none⟩) 8 formsG0) (hr0 : Kd.C (Kd.int .u8) w A0 l0.length l0) (hc0 : l0.length ≤ c0) (h : capture_Read.f k l0 a1 a2_0 a2_1 a2_2 a2_3 a2_4 a2_5 a2_6 a2_7 a2_8 = some (r1, r2, r3)) :
  Calls Tryd.prog 10 #[.slice A0 l0.length c0, .int .i64 a1, .agg #[.int .i64 a2_0, .int .i64 a2_1, .int .i64 a2_2, .int .i64 a2_3, .string a2_4, .string a2_5, .int .i64 a2_6, .int .u32 a2_7, .bool a2_8]] w fun e w' => ∃ v0_ : Value, e = .returned (.tuple #[v0_, .agg #[.int .i64 r2, .int .i64 r3]]) ∧ Kd.S k42 42 w' w.heap.size (fun _ => True) v0_ r1 ∧ Below w.heap.size w w' := by
 have hu30 := Tryd.underlying30
 have hu25 := Tryd.underlying25
 have hu65 := Tryd.underlying65
 have hu67 := Tryd.underlying67
 have HG0 := a_ hG0
 have HR0 := a_ hr0
 have HC0 := a_ hc0
 have HB := a_ (Below.refl w.heap.size w)
 have HH := a_ h
 clear hG0 hr0 hc0 h
 by_cases e1 : a1 = 1
 ·subst e1
  have h := HH.out
  rw [capture_Read.f, if_pos rfl] at h
  have HT := a_ h
  clear HH h
  go_enter Tryd.func10, Tryd.ntmps10
  go_wp2_with (first | (refine be_ 5 #[.int .i64 a2_0, .int .i64 a2_1, .int .i64 a2_2, .int .i64 a2_3, .string a2_4, .string a2_5, .int .i64 a2_6, .int .u32 a2_7, .bool a2_8] 25 ?_; intro g5 hg w5 hbox hb; have HB5 := bs_ HB hb; have BK5 := a_ hbox; clear hg hbox hb) | (refine be_ 7 #[.int .i64 0, .int .i64 0] 30 ?_; intro g7 hg w7 hbox hb; have HB7 := bs_ HB5 hb; have BK5b := bb_ BK5 hb; have BK7 := a_ hbox; have GE7 : Aside0 (w.heap.size ≤ g7) := ⟨by rw [hg]; exact HB5.out.size⟩; clear hg hbox hb) | (go_at_call 22; refine (capture_formOf.calls 1 _).mono ?_; rintro e w8 ⟨he, hb⟩; rw [show capture_formOf.form (capture_formOf.at 1) = .iface 65 (.agg #[]) from rfl] at he; subst he; have HB8 := bs_ HB7 hb; have BK5c := bb_ BK5b hb; have BK7b := bb_ BK7 hb;  clear hb) | (refine be_ 8 #[] 65 ?_; intro g9 hg w9 hbox hb; have HB9 := bs_ HB8 hb; have BK5d := bb_ BK5c hb; have BK7d := bb_ BK7b hb; have hcz9 := hbox; obtain ⟨hc5_0, hc5_1, hc5_2, hc5_3, hc5_4, hc5_5, hc5_6, hc5_7, hc5_8⟩ := blc9 BK5d.out; have hl_9 : (w9.heap[g9]?) = some (.cells #[] 65 (0, 0)) := hbox; clear hg hbox hb) | (go_at_call 23; refine (capture_records_read.calls k A0 c0 l0 a2_0 a2_1 a2_2 a2_3 a2_4 a2_5 a2_6 a2_7 a2_8 r1 r2 r3 _ (Kd.C_below HR0.out HB9.out) HC0.out HT.out).mono ?_; rintro e w10 ⟨v0, rfl, ho, hb⟩; have HO := a_ ho; have HLO := a_ HB9.out.size; have HB10 := bs_ HB9 hb; have BK7c := bb_ BK7d hb; clear ho hb; have hs7_0 := bc0 BK7c; have hfs7_0 := blk_frozen BK7c.out 0; have hs7_1 := bc1 BK7c; have hfs7_1 := blk_frozen BK7c.out 1))
  refine bodyPost_ret (results_tc rfl _ _ g7 30 #[.int .i64 r2, .int .i64 r3] (0, 0) _ rfl (by refine blk_put (cs := #[.int .i64 r2, .int .i64 0]) ?_ 1 _ rfl; refine blk_put (cs := #[.int .i64 0, .int .i64 0]) ?_ 0 _ rfl; exact BK7c.out) hu30 rfl (by kernel_rfl)) rfl ?_
  exact ⟨_, rfl, Kd.S_lower (Kd.S_set (Kd.S_set HO.out BK7c.out (by decide) 0 _) (blk_set BK7c.out 0 _) (by decide) 1 _) HLO.out, below_set (below_set HB10.out GE7.out) GE7.out⟩
 ·by_cases e2 : a1 = 2
  ·subst e2
   have h := HH.out
   rw [capture_Read.f, if_neg e1, if_pos rfl] at h
   have HT := a_ h
   clear HH h
   go_enter Tryd.func10, Tryd.ntmps10
   go_wp2_with (first | (refine be_ 5 #[.int .i64 a2_0, .int .i64 a2_1, .int .i64 a2_2, .int .i64 a2_3, .string a2_4, .string a2_5, .int .i64 a2_6, .int .u32 a2_7, .bool a2_8] 25 ?_; intro g5 hg w5 hbox hb; have HB5 := bs_ HB hb; have BK5 := a_ hbox; clear hg hbox hb) | (refine be_ 7 #[.int .i64 0, .int .i64 0] 30 ?_; intro g7 hg w7 hbox hb; have HB7 := bs_ HB5 hb; have BK5b := bb_ BK5 hb; have BK7 := a_ hbox; have GE7 : Aside0 (w.heap.size ≤ g7) := ⟨by rw [hg]; exact HB5.out.size⟩; clear hg hbox hb) | (go_at_call 22; refine (capture_formOf.calls 2 _).mono ?_; rintro e w8 ⟨he, hb⟩; rw [show capture_formOf.form (capture_formOf.at 2) = .iface 67 (.agg #[]) from rfl] at he; subst he; have HB8 := bs_ HB7 hb; have BK5c := bb_ BK5b hb; have BK7b := bb_ BK7 hb;  clear hb) | (refine be_ 9 #[] 67 ?_; intro g9 hg w9 hbox hb; have HB9 := bs_ HB8 hb; have BK5d := bb_ BK5c hb; have BK7d := bb_ BK7b hb; have hcz9 := hbox; obtain ⟨hc5_0, hc5_1, hc5_2, hc5_3, hc5_4, hc5_5, hc5_6, hc5_7, hc5_8⟩ := blc9 BK5d.out; have hl_9 : (w9.heap[g9]?) = some (.cells #[] 67 (0, 0)) := hbox; clear hg hbox hb) | (go_at_call 24; refine (capture_notes_read.calls k A0 c0 l0 a2_0 a2_1 a2_2 a2_3 a2_4 a2_5 a2_6 a2_7 a2_8 r1 r2 r3 _ (Kd.C_below HG0.out HB9.out) (Kd.C_below HR0.out HB9.out) HC0.out HT.out).mono ?_; rintro e w10 ⟨v0, rfl, ho, hb⟩; have HO := a_ ho; have HLO := a_ HB9.out.size; have HB10 := bs_ HB9 hb; have BK7c := bb_ BK7d hb; clear ho hb; have hs7_0 := bc0 BK7c; have hfs7_0 := blk_frozen BK7c.out 0; have hs7_1 := bc1 BK7c; have hfs7_1 := blk_frozen BK7c.out 1))
   refine bodyPost_ret (results_tc rfl _ _ g7 30 #[.int .i64 r2, .int .i64 r3] (0, 0) _ rfl (by refine blk_put (cs := #[.int .i64 r2, .int .i64 0]) ?_ 1 _ rfl; refine blk_put (cs := #[.int .i64 0, .int .i64 0]) ?_ 0 _ rfl; exact BK7c.out) hu30 rfl (by kernel_rfl)) rfl ?_
   exact ⟨_, rfl, Kd.S_lower (Kd.S_set (Kd.S_set HO.out BK7c.out (by decide) 0 _) (blk_set BK7c.out 0 _) (by decide) 1 _) HLO.out, below_set (below_set HB10.out GE7.out) GE7.out⟩
  ·have h := HH.out
   rw [capture_Read.f, if_neg e1, if_neg e2] at h
   simp only [Option.some.injEq, Prod.mk.injEq] at h
   obtain ⟨rfl, rfl, rfl⟩ := h
   have hat : capture_formOf.form (capture_formOf.at a1) = .nilIface := by unfold capture_formOf.at; rw [if_neg e1, if_neg e2]; rfl
   have HAT := a_ hat
   clear HH hat
   go_enter Tryd.func10, Tryd.ntmps10
   go_wp2_with (first | (refine be_ 5 #[.int .i64 a2_0, .int .i64 a2_1, .int .i64 a2_2, .int .i64 a2_3, .string a2_4, .string a2_5, .int .i64 a2_6, .int .u32 a2_7, .bool a2_8] 25 ?_; intro g5 hg w5 hbox hb; have HB5 := bs_ HB hb; have BK5 := a_ hbox; clear hg hbox hb) | (refine be_ 7 #[.int .i64 0, .int .i64 0] 30 ?_; intro g7 hg w7 hbox hb; have HB7 := bs_ HB5 hb; have BK5b := bb_ BK5 hb; have BK7 := a_ hbox; have GE7 : Aside0 (w.heap.size ≤ g7) := ⟨by rw [hg]; exact HB5.out.size⟩; clear hg hbox hb) | (go_at_call 22; refine (capture_formOf.calls a1 _).mono ?_; rintro e w8 ⟨he, hb⟩; rw [HAT.out] at he; subst he; have HB8 := bs_ HB7 hb; have BK5c := bb_ BK5b hb; have BK7b := bb_ BK7 hb; have hs7_0 := bc0 BK7b; have hfs7_0 := blk_frozen BK7b.out 0; have hs7_1 := bc1 BK7b; have hfs7_1 := blk_frozen BK7b.out 1; clear hb))
   refine bodyPost_ret (results_tc rfl _ _ g7 30 #[.int .i64 0, .int .i64 7] (0, 0) _ rfl (by refine blk_put (cs := #[.int .i64 0, .int .i64 0]) ?_ 1 _ rfl; refine blk_put (cs := #[.int .i64 0, .int .i64 0]) ?_ 0 _ rfl; exact BK7b.out) hu30 rfl (by kernel_rfl)) rfl ?_
   exact ⟨_, rfl, Kd.S_nil _ _ _ _ _, below_set (below_set HB8.out GE7.out) GE7.out⟩
end
end Go.Proofs.YtgnonglkibhnhaaDoor.Print
