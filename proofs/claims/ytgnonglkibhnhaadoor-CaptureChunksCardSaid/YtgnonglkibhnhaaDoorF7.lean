import Derived.Test.YtgnonglkibhnhaaDoorZ
import Derived.Test.YtgnonglkibhnhaaDoorM1
import Derived.Test.YtgnonglkibhnhaaDoorM4
import Derived.Test.YtgnonglkibhnhaaDoorM2
import Derived.Test.YtgnonglkibhnhaaDoorF14
import Derived.Test.YtgnonglkibhnhaaDoorM5
import Derived.Test.YtgnonglkibhnhaaDoorF9
namespace Go.Proofs.YtgnonglkibhnhaaDoor.Print
open Go.RowKit Go.Proofs.YtgnonglkibhnhaaDoorW.PrintWords Go.Proofs.YtgnonglkibhnhaaDoorW.PrintLast Go.Proofs.YtgnonglkibhnhaaDoorW.PrintMore
attribute [local go_sem] max2_int min2_int max_two min_two max_three min_three max_four min_four
set_option linter.unusedVariables false
set_option linter.unusedSimpArgs false

attribute [local go_sem high] eqA30
/-! ### umpirelaw11_CaptureChunks: function 7 -/
mutual
def umpirelaw11_CaptureChunks.j0 : Nat → List (S42) → List Int → Bool → Bool → Option (Bool)
 | 0, _, _, _, _ => none
 | k + 1, x0, x1, x2, x32 => if x32 = true then ((umpirelaw11_awake.f k).bind fun t1006 => (some t1006)) else ((capture_Write.f k x0 2 0 0 0 0 (⟨#[]⟩ : ByteArray) (⟨#[]⟩ : ByteArray) 0 0 x2).bind fun bt1008 => (if bt1008.2 = 0 then ((umpireref10_Read.f k bt1008.1).bind fun bt1012 => (umpirelaw11_CaptureChunks.l0 k x0 x1 bt1012.1 ([] : List (S58)) 0 0 0 0 0 0 (⟨#[]⟩ : ByteArray) (⟨#[]⟩ : ByteArray) 0 0 x2)) else (some (bt1008.2 == 1))))
def umpirelaw11_CaptureChunks.l0 : Nat → List (S42) → List Int → List (S58) → List (S58) → Int → Int → Int → Int → Int → Int → ByteArray → ByteArray → Int → Int → Bool → Option (Bool)
 | 0, _, _, _, _, _, _, _, _, _, _, _, _, _, _, _ => none
 | k + 1, x0, x1, x10, x12, x13, x14, x1008000, x1008001, x1008002, x1008003, x1008004, x1008005, x1008006, x1008007, x1008008 => if x14 < (x10.length : Int) then (if 0 ≤ x14 then (umpirelaw11_CaptureChunks.l1 k x0 x1 x10 x12 x13 x14 ((rd_T58 x10 x14).f2) x1008000 x1008001 x1008002 x1008003 x1008004 x1008005 x1008006 x1008007 x1008008) else (none)) else ((umpireref10_Put.f k x12).bind fun bt1018 => ((capture_Read.f k bt1018.1 2 x1008000 x1008001 x1008002 x1008003 x1008004 x1008005 x1008006 x1008007 x1008008).bind fun bt1022 => (if bt1018.2 = 0 then (if (bt1022.2.1 == 0 && (bt1022.2.2 == 0)) = true then ((umpireref11_Same.f k bt1022.1 x0).bind fun t1028 => (some t1028)) else (none)) else (none))))
def umpirelaw11_CaptureChunks.l1 : Nat → List (S42) → List Int → List (S58) → List (S58) → Int → Int → List Int → Int → Int → Int → Int → ByteArray → ByteArray → Int → Int → Bool → Option (Bool)
 | 0, _, _, _, _, _, _, _, _, _, _, _, _, _, _, _, _ => none
 | k + 1, x0, x1, x10, x12, x13, x14, x15, x1008000, x1008001, x1008002, x1008003, x1008004, x1008005, x1008006, x1008007, x1008008 => if (x15.length : Int) > 0 then (if x13 < (x1.length : Int) then (if 0 ≤ x13 then (if 0 ≤ x14 then (if x14 < (x10.length : Int) then (if 0 ≤ (mn (x15.length : Int) (wrap64 (rd x1 x13))) then (if (mn (x15.length : Int) (wrap64 (rd x1 x13))) ≤ (x15.length : Int) then ((some (([(⟨(rd_T58 x10 x14).f0, 0, (x15.take ((mn (x15.length : Int) (wrap64 (rd x1 x13))) : Int).toNat)⟩ : S58), (⟨6, 3, ([] : List Int)⟩ : S58)] : List (S58)) : List (S58))).bind fun y1037 => (if x12.length + y1037.length < 3518437208883 then (umpirelaw11_CaptureChunks.l1 k x0 x1 x10 (x12 ++ y1037) (wrap64 (x13 + 1)) x14 (x15.drop ((mn (x15.length : Int) (wrap64 (rd x1 x13))) : Int).toNat) x1008000 x1008001 x1008002 x1008003 x1008004 x1008005 x1008006 x1008007 x1008008) else (none))) else (none)) else (none)) else (none)) else (none)) else (none)) else (if 0 ≤ x14 then (if x14 < (x10.length : Int) then (if 0 ≤ (x15.length : Int) then (if (x15.length : Int) ≤ (x15.length : Int) then ((some (([(⟨(rd_T58 x10 x14).f0, 0, (x15.take ((x15.length : Int) : Int).toNat)⟩ : S58), (⟨6, 3, ([] : List Int)⟩ : S58)] : List (S58)) : List (S58))).bind fun y1054 => (if x12.length + y1054.length < 3518437208883 then (umpirelaw11_CaptureChunks.l1 k x0 x1 x10 (x12 ++ y1054) x13 x14 (x15.drop ((x15.length : Int) : Int).toNat) x1008000 x1008001 x1008002 x1008003 x1008004 x1008005 x1008006 x1008007 x1008008) else (none))) else (none)) else (none)) else (none)) else (none))) else (umpirelaw11_CaptureChunks.l0 k x0 x1 x10 x12 x13 (wrap64 (x14 + 1)) x1008000 x1008001 x1008002 x1008003 x1008004 x1008005 x1008006 x1008007 x1008008)
end
def umpirelaw11_CaptureChunks.f (k : Nat) (l0 : List (S42)) (l1 : List Int) (a2 : Bool) : Option (Bool) := (umpirelaw11_awake.f k).bind fun t1004 => (if t1004 = true then ((umpireref11_Few.f k l0).bind fun t1005 => (if t1005 = true then (umpirelaw11_CaptureChunks.j0 k l0 l1 a2 (decide ((l1.length : Int) > 100))) else (umpirelaw11_CaptureChunks.j0 k l0 l1 a2 true))) else (umpirelaw11_CaptureChunks.j0 k l0 l1 a2 true))
def umpirelaw11_CaptureChunks.T19 : Bool × List (List Nat × List Nat) := (true, [([], []), ([], []), ([], []), ([1, 2], [1, 2]), ([3], [3]), ([4], [4]), ([], []), ([], []), ([6, 7], [6, 7]), ([5, 8], [5, 8]), ([], []), ([9, 10], [9, 10]), ([0, 11], [0, 11]), ([12, 12, 0, 1, 2, 3, 4, 5, 6, 7, 8, 9, 10, 11, 12], [0, 12])])
def umpirelaw11_CaptureChunks.B19 : List Nat := [0, 0, 0, 6, 14, 30, 0, 0, 192, 510, 0, 2046, 4095, 8191]
theorem umpirelaw11_CaptureChunks.tab19 : rtab .any (opsOf Tryd.f7 19) = umpirelaw11_CaptureChunks.T19 := by kernel_rfl
theorem umpirelaw11_CaptureChunks.bits19 : waitsOk umpirelaw11_CaptureChunks.T19.2 umpirelaw11_CaptureChunks.B19 = true := by kernel_rfl
set_option maxHeartbeats 8000000 in
set_option maxRecDepth 100000 in
theorem umpirelaw11_CaptureChunks.calls (k : Nat) (A0 : Option Addr) (c0 : Nat) (l0 : List (S42)) (A1 : Option Addr) (c1 : Nat) (l1 : List Int) (a2 : Bool) (r : Bool) (w : World) (hG0 : Kd.C k131 w (some ⟨0, 0, none⟩) 8 formsG0) (hr0 : Kd.C k42 w A0 l0.length l0) (hc0 : l0.length ≤ c0) (hr1 : Kd.C (Kd.int .u8) w A1 l1.length l1) (hc1 : l1.length ≤ c1) (h : umpirelaw11_CaptureChunks.f k l0 l1 a2 = some r) :
  Calls Tryd.prog 7 #[.slice A0 l0.length c0, .slice A1 l1.length c1, .bool a2] w fun e w' => e = .returned (.bool r) ∧ Below w.heap.size w w' := by
 have hu25 := Tryd.underlying25
 have hu30 := Tryd.underlying30
 have hu58 := Tryd.underlying58
 have HR0 := a_ hr0
 have HC0 := a_ hc0
 clear hr0 hc0
 have HR1 := a_ hr1
 have HC1 := a_ hc1
 clear hr1 hc1
 have HRG0 := a_ hG0
 clear hG0
 have HB := a_ (Below.refl w.heap.size w)
 have H := h
 clear h
 unfold umpirelaw11_CaptureChunks.f at H
 have HC4 := a_ H
 clear H
 go_enter Tryd.func7, Tryd.ntmps7
 go_upto_region 1 with (fail)
 go_cut [32] (fun v32 wc => ∃ (kq : Nat) (x32_3 : Bool), v32 = .bool x32_3 ∧ Aside0 (umpirelaw11_CaptureChunks.j0 kq l0 l1 a2 x32_3 = some r) ∧ Aside0 (kq ≤ k) ∧ Aside0 (Below w.heap.size w wc))
 case first =>
  have H := HC4.out
  clear HC4
  replace H := Option.bind_eq_some_iff.mp H
  obtain ⟨t1004, A50, H⟩ := H
  try dsimp only at H
  have A5 := a_ A50
  clear A50
  by_cases c6 : t1004 = true
  ·subst c6
   rw [if_pos rfl] at H
   replace H := Option.bind_eq_some_iff.mp H
   obtain ⟨t1005, A70, H⟩ := H
   try dsimp only at H
   have A7 := a_ A70
   clear A70
   by_cases c8 : t1005 = true
   ·subst c8
    rw [if_pos rfl] at H
    have H' := a_ H
    clear H
    go_wp2_with (first | (refine gl_ (some 21) Tryd.func9 #[] ?_ (hargs := by (try simp only [List.map_toArray, List.map_cons, List.map_nil]); (done)); (with_reducible refine (umpirelaw11_awake.calls k  true _ (Kd.C_below HRG0.out HB.out) A5.out).mono ?_); rintro e w9 ⟨rfl, hb⟩; refine ⟨_, rfl, ?_⟩; replace HB := bs_ HB hb; (try clear hb)) | (go_at_call 13; (with_reducible refine (umpireref11_Few.calls k _ _ l0 true _ (Kd.C_below HR0.out HB.out) HC0.out A7.out).mono ?_); rintro e w10 ⟨rfl, hb⟩; replace HB := bs_ HB hb; (try clear hb)))
    go_meet
    case rel => exact ⟨_, (decide ((l1.length : Int) > 100)), (by rfl), H', ⟨by (omega)⟩, ⟨by exact HB.out⟩⟩
   ·cases nt_ c8
    rw [if_neg nft_] at H
    have H' := a_ H
    clear H
    go_wp2_with (first | (refine gl_ (some 21) Tryd.func9 #[] ?_ (hargs := by (try simp only [List.map_toArray, List.map_cons, List.map_nil]); (done)); (with_reducible refine (umpirelaw11_awake.calls k  true _ (Kd.C_below HRG0.out HB.out) A5.out).mono ?_); rintro e w11 ⟨rfl, hb⟩; refine ⟨_, rfl, ?_⟩; replace HB := bs_ HB hb; (try clear hb)) | (go_at_call 13; (with_reducible refine (umpireref11_Few.calls k _ _ l0 false _ (Kd.C_below HR0.out HB.out) HC0.out A7.out).mono ?_); rintro e w12 ⟨rfl, hb⟩; replace HB := bs_ HB hb; (try clear hb)))
    go_meet
    case rel => exact ⟨_, (true), (by rfl), H', ⟨by (omega)⟩, ⟨by exact HB.out⟩⟩
  ·cases nt_ c6
   rw [if_neg nft_] at H
   have H' := a_ H
   clear H
   go_wp2_with (first | (refine gl_ (some 21) Tryd.func9 #[] ?_ (hargs := by (try simp only [List.map_toArray, List.map_cons, List.map_nil]); (done)); (with_reducible refine (umpirelaw11_awake.calls k  false _ (Kd.C_below HRG0.out HB.out) A5.out).mono ?_); rintro e w13 ⟨rfl, hb⟩; refine ⟨_, rfl, ?_⟩; replace HB := bs_ HB hb; (try clear hb)))
   go_meet
   case rel => exact ⟨_, (true), (by rfl), H', ⟨by (omega)⟩, ⟨by exact HB.out⟩⟩
 case rest =>
  clear HC4
  obtain ⟨kq, x32_3, rfl, HA, HJ3, HB⟩ := hcut
  cases kq with
  | zero => exact absurd HA.out (by simp [umpirelaw11_CaptureChunks.j0])
  | succ kj3 =>
   have H := HA.out
   clear HA
   simp only [umpirelaw11_CaptureChunks.j0] at H
   by_cases c14 : x32_3 = true
   ·subst c14
    rw [if_pos rfl] at H
    replace H := Option.bind_eq_some_iff.mp H
    obtain ⟨t1006, A150, H⟩ := H
    try dsimp only at H
    have A15 := a_ A150
    clear A150
    obtain rfl := Option.some.inj H
    go_wp2_with (first | (refine gl_ (some 33) Tryd.func9 #[] ?_ (hargs := by (try simp only [List.map_toArray, List.map_cons, List.map_nil]); (done)); (with_reducible refine (umpirelaw11_awake.calls kj3  t1006 _ (Kd.C_below HRG0.out HB.out) A15.out).mono ?_); rintro e w16 ⟨rfl, hb⟩; refine ⟨_, rfl, ?_⟩; replace HB := bs_ HB hb; (try clear hb)))
    go_ret
    exact ⟨by (rfl), by exact HB.out⟩
   ·cases nt_ c14
    rw [if_neg nft_] at H
    replace H := Option.bind_eq_some_iff.mp H
    obtain ⟨⟨t1008, t1011⟩, A170, H⟩ := H
    try dsimp only at H
    have A17 := a_ A170
    clear A170
    by_cases c18 : t1011 = 0
    ·rw [if_pos c18] at H
     obtain ⟨c18b0, c18b1⟩ := bt_ c18
     replace H := Option.bind_eq_some_iff.mp H
     obtain ⟨⟨t1012, t1015, t1016⟩, A190, H⟩ := H
     try dsimp only at H
     have A19 := a_ A190
     clear A190
     have H' := a_ H
     clear H
     go_wp2_with (first | ((with_reducible refine gate_dst (N := 7) rfl ?_); (try (refine gate_guard (by rfl) ?_; dsimp only)); refine be_ 7 #[.int .i64 0, .int .i64 0, .int .i64 0, .int .i64 0, .string (⟨#[]⟩ : ByteArray), .string (⟨#[]⟩ : ByteArray), .int .i64 0, .int .u32 0, .bool false] 25 ?_; intro gb1007 hg w20 hbox hb; have BK1007 := a_ hbox; have GE1007 := lb_ HB hg; replace HB := bs_ HB hb; clear hb hbox hg; obtain ⟨hcz21_0, hcz21_1, hcz21_2, hcz21_3, hcz21_4, hcz21_5, hcz21_6, hcz21_7, hcz21_8, hfz21_0, hfz21_1, hfz21_2, hfz21_3, hfz21_4, hfz21_5, hfz21_6, hfz21_7, hfz21_8⟩ := blk9 BK1007.out) | (refine gl_ (some 39) Tryd.func14 #[.slice A0 l0.length c0, .int .i64 2, .agg #[.int .i64 0, .int .i64 0, .int .i64 0, .int .i64 0, .string (⟨#[]⟩ : ByteArray), .string (⟨#[]⟩ : ByteArray), .int .i64 0, .int .u32 0, .bool a2]] ?_; (with_reducible refine (capture_Write.calls kj3 _ _ l0 2 0 0 0 0 (⟨#[]⟩ : ByteArray) (⟨#[]⟩ : ByteArray) 0 0 a2 t1008 t1011 _ (Kd.C_below HRG0.out (by repeat (with_reducible first | exact HB.out | refine below_set ?_ GE1007.out))) (Kd.C_below HR0.out (by repeat (with_reducible first | exact HB.out | refine below_set ?_ GE1007.out))) HC0.out A17.out).mono ?_); rintro e w22 ⟨v1009, rfl, ho0, hb⟩; refine ⟨_, rfl, ?_⟩; have HO1010 := a_ (Kd.R_lower ho0 (below_size (by repeat (with_reducible first | exact HB.out | refine below_set ?_ GE1007.out)))); replace BK1007 := a_ (blk_below (g := gb1007) (o := .cells #[.int .i64 0, .int .i64 0, .int .i64 0, .int .i64 0, .string (⟨#[]⟩ : ByteArray), .string (⟨#[]⟩ : ByteArray), .int .i64 0, .int .u32 0, .bool a2] 25 (0, 0)) (by refine blk_put (cs := #[.int .i64 0, .int .i64 0, .int .i64 0, .int .i64 0, .string (⟨#[]⟩ : ByteArray), .string (⟨#[]⟩ : ByteArray), .int .i64 0, .int .u32 0, .bool false]) ?_ 8 _ rfl; refine blk_put (cs := #[.int .i64 0, .int .i64 0, .int .i64 0, .int .i64 0, .string (⟨#[]⟩ : ByteArray), .string (⟨#[]⟩ : ByteArray), .int .i64 0, .int .u32 0, .bool false]) ?_ 7 _ rfl; refine blk_put (cs := #[.int .i64 0, .int .i64 0, .int .i64 0, .int .i64 0, .string (⟨#[]⟩ : ByteArray), .string (⟨#[]⟩ : ByteArray), .int .i64 0, .int .u32 0, .bool false]) ?_ 6 _ rfl; refine blk_put (cs := #[.int .i64 0, .int .i64 0, .int .i64 0, .int .i64 0, .string (⟨#[]⟩ : ByteArray), .string (⟨#[]⟩ : ByteArray), .int .i64 0, .int .u32 0, .bool false]) ?_ 5 _ rfl; refine blk_put (cs := #[.int .i64 0, .int .i64 0, .int .i64 0, .int .i64 0, .string (⟨#[]⟩ : ByteArray), .string (⟨#[]⟩ : ByteArray), .int .i64 0, .int .u32 0, .bool false]) ?_ 4 _ rfl; refine blk_put (cs := #[.int .i64 0, .int .i64 0, .int .i64 0, .int .i64 0, .string (⟨#[]⟩ : ByteArray), .string (⟨#[]⟩ : ByteArray), .int .i64 0, .int .u32 0, .bool false]) ?_ 3 _ rfl; refine blk_put (cs := #[.int .i64 0, .int .i64 0, .int .i64 0, .int .i64 0, .string (⟨#[]⟩ : ByteArray), .string (⟨#[]⟩ : ByteArray), .int .i64 0, .int .u32 0, .bool false]) ?_ 2 _ rfl; refine blk_put (cs := #[.int .i64 0, .int .i64 0, .int .i64 0, .int .i64 0, .string (⟨#[]⟩ : ByteArray), .string (⟨#[]⟩ : ByteArray), .int .i64 0, .int .u32 0, .bool false]) ?_ 1 _ rfl; refine blk_put (cs := #[.int .i64 0, .int .i64 0, .int .i64 0, .int .i64 0, .string (⟨#[]⟩ : ByteArray), .string (⟨#[]⟩ : ByteArray), .int .i64 0, .int .u32 0, .bool false]) ?_ 0 _ rfl; exact BK1007.out) hb); replace HB := a_ (below_step (by repeat (with_reducible first | exact HB.out | refine below_set ?_ GE1007.out)) hb); (try clear hb); (try clear ho0); obtain ⟨Ao23, co23, eo23⟩ := Kd.R_slice HO1010.out; subst eo23) | (refine gl_ (some 48) Tryd.func20 #[.slice Ao23 t1008.length co23] ?_; (with_reducible refine (umpireref10_Read.calls kj3 _ _ t1008 t1012 t1015 t1016 _ ((Kd.R_reads' HO1010.out).2.2) ((Kd.R_reads' HO1010.out).2.1) A19.out).mono ?_); rintro e w24 ⟨v1013, rfl, ho0, hb⟩; refine ⟨_, rfl, ?_⟩; have HO1014 := a_ (Kd.N_lower (Kd.N_mono (ok' := fun k_ => some k_ ≠ (.slice Ao23 t1008.length co23 : Value).ownBlock ∧ k_ ≠ gb1007) (Kd.S_N (Kd.S_bound ho0)) (fun k_ hk_ => ⟨(Kd.fresh' (Kd.R_lt HO1010.out) k_ hk_.2.1), (Kd.freshB (g := gb1007) (o := .cells #[.int .i64 0, .int .i64 0, .int .i64 0, .int .i64 0, .string (⟨#[]⟩ : ByteArray), .string (⟨#[]⟩ : ByteArray), .int .i64 0, .int .u32 0, .bool a2] 25 (0, 0)) BK1007.out k_ hk_.2.1)⟩)) (below_size HB.out)); replace HO1010 := rb_ HO1010 hb; replace BK1007 := a_ (blk_below (g := gb1007) (o := .cells #[.int .i64 0, .int .i64 0, .int .i64 0, .int .i64 0, .string (⟨#[]⟩ : ByteArray), .string (⟨#[]⟩ : ByteArray), .int .i64 0, .int .u32 0, .bool a2] 25 (0, 0)) BK1007.out hb); replace HB := bs_ HB hb; (try clear hb); (try clear ho0)) | ((with_reducible refine gate_dst (N := 11) rfl ?_); (try (refine gate_guard (by rfl) ?_; dsimp only)); refine be_ 11 #[.int .i64 0, .int .i64 0] 30 ?_; intro gb1017 hg w25 hbox hb; have BK1017 := a_ hbox; have GE1017 := lb_ HB hg; have NB1007_1017 := a_ ((by rw [hg]; exact Nat.ne_of_lt (blk_lt (g := gb1007) (o := .cells #[.int .i64 0, .int .i64 0, .int .i64 0, .int .i64 0, .string (⟨#[]⟩ : ByteArray), .string (⟨#[]⟩ : ByteArray), .int .i64 0, .int .u32 0, .bool a2] 25 (0, 0)) BK1007.out) : gb1007 ≠ gb1017)); have NB1017_1007 := a_ ((by rw [hg]; exact Nat.ne_of_gt (blk_lt (g := gb1007) (o := .cells #[.int .i64 0, .int .i64 0, .int .i64 0, .int .i64 0, .string (⟨#[]⟩ : ByteArray), .string (⟨#[]⟩ : ByteArray), .int .i64 0, .int .u32 0, .bool a2] 25 (0, 0)) BK1007.out) : gb1017 ≠ gb1007)); replace HO1010 := rb_ HO1010 hb; replace HO1014 := Ne_ HO1014 hg hb; replace BK1007 := a_ (blk_below (g := gb1007) (o := .cells #[.int .i64 0, .int .i64 0, .int .i64 0, .int .i64 0, .string (⟨#[]⟩ : ByteArray), .string (⟨#[]⟩ : ByteArray), .int .i64 0, .int .u32 0, .bool a2] 25 (0, 0)) BK1007.out hb); replace HB := bs_ HB hb; clear hb hbox hg; have hnb26 := NB1017_1007.out; have hnc26 := NB1007_1017.out; obtain ⟨hcz27_0, hcz27_1, hfz27_0, hfz27_1⟩ := blk2 BK1017.out))
     go_loopg [12, 13, 14] kj3 (fun kq v12 v13 v14 w' => ∃ (x12_2 : List (S58)) (x13_2 : Int) (x14_2 : Int), v13 = .int .i64 x13_2 ∧ v14 = .int .i64 x14_2 ∧ Aside0 (umpirelaw11_CaptureChunks.l0 kq l0 l1 t1012 x12_2 x13_2 x14_2 0 0 0 0 (⟨#[]⟩ : ByteArray) (⟨#[]⟩ : ByteArray) 0 0 a2 = some r) ∧ Aside0 (kq ≤ kj3) ∧ Aside0 (Kd.N k58 58 w' w.heap.size (fun k_ => some k_ ≠ (v12 : Value).ownBlock ∧ k_ ≠ gb1007 ∧ k_ ≠ gb1017) v1013 t1012) ∧ Aside0 (Kd.N k58 58 w' w.heap.size (fun k_ => some k_ ≠ (v1013 : Value).ownBlock ∧ k_ ≠ gb1007 ∧ k_ ≠ gb1017) v12 x12_2) ∧ Aside0 (w'.heap[gb1007]? = some (.cells #[.int .i64 0, .int .i64 0, .int .i64 0, .int .i64 0, .string (⟨#[]⟩ : ByteArray), .string (⟨#[]⟩ : ByteArray), .int .i64 0, .int .u32 0, .bool a2] 25 (0, 0))) ∧ Aside0 (w'.heap[gb1017]? = some (.cells #[.int .i64 t1015, .int .i64 t1016] 30 (0, 0))) ∧ Aside0 (Below w.heap.size w w'))
     case atStart => exact ⟨([] : List (S58)), (0), (0), (by rfl), (by rfl), H', ⟨Nat.le_refl _⟩, ⟨by exact Kd.N_mono (Kd.N_far (p := ⟨gb1017, 1, none⟩) (Kd.N_far (p := ⟨gb1017, 0, none⟩) (Kd.N_mono HO1014.out (fun k_ hk => (⟨hk, hk.2⟩ : _ ∧ k_ ≠ gb1017))) (fun _ hk => hk.2) (.int .i64 t1015)) (fun _ hk => hk.2) (.int .i64 t1016)) (fun _ hk => ⟨(by simp [Value.ownBlock]), ⟨hk.1.1.2, hk.1.2⟩⟩)⟩, ⟨by (exact Kd.N_nil _ _ _ _ _)⟩, ⟨by refine blk_far ?_ NB1007_1017.out _; refine blk_far ?_ NB1007_1017.out _; exact BK1007.out⟩, ⟨by refine blk_put (cs := #[.int .i64 t1015, .int .i64 0]) ?_ 1 _ rfl; refine blk_put (cs := #[.int .i64 0, .int .i64 0]) ?_ 0 _ rfl; exact BK1017.out⟩, ⟨by repeat (with_reducible first | exact HB.out | refine below_set ?_ GE1017.out)⟩⟩
     case round =>
      clear H'
      try clear c18b0
      try clear c18b1
      try clear hcz21_0
      try clear hcz21_1
      try clear hcz21_2
      try clear hcz21_3
      try clear hcz21_4
      try clear hcz21_5
      try clear hcz21_6
      try clear hcz21_7
      try clear hcz21_8
      try clear hcz27_0
      try clear hcz27_1
      try clear hfz21_0
      try clear hfz21_1
      try clear hfz21_2
      try clear hfz21_3
      try clear hfz21_4
      try clear hfz21_5
      try clear hfz21_6
      try clear hfz21_7
      try clear hfz21_8
      try clear hfz27_0
      try clear hfz27_1
      obtain ⟨x12_2, x13_2, x14_2, rfl, rfl, HA, HK2, HO_10, HO_12, BK1007, BK1017, HB⟩ := hrel
      cases gk with
      | zero => exact absurd HA.out (by simp [umpirelaw11_CaptureChunks.l0])
      | succ k2 =>
       have H := HA.out
       clear HA
       simp only [umpirelaw11_CaptureChunks.l0] at H
       by_cases c28 : x14_2 < (t1012.length : Int)
       ·rw [if_pos c28] at H
        have c28b0 := decide_eq_true c28
        clear c28
        have c29b0 := ifd_ H
        replace H := ift_ H
        have H' := a_ H
        clear H
        obtain ⟨Ao30, co30, eo30⟩ := Kd.N_slice HO_10.out
        subst eo30
        have p1029 : 0 ≤ (x14_2 : Int) := da_
        have q1029 : x14_2 < (t1012.length : Int) := da_
        obtain ⟨ad1029, A1029_2, c1029_2, e1029, hx1029_0, hx1029_1, hx1029_2, hl1029_2, hi1029_2⟩ := at_T58 (Kd.N_reads' HO_10.out).2.2 x14_2 p1029 q1029
        cases e1029
        obtain ⟨ce1029, hce1029, hMe1029, hcc1029⟩ := Kd.N_get HO_10.out z58 x14_2 p1029 q1029
        obtain ⟨ua1029_2, uc1029_2, rfl, ul1029_2, ge1029_2⟩ := k58_openF hMe1029
        have hv1029_2 := hcc1029 2 _ rfl
        rw [add_field _ _ 2 (by omega)] at hv1029_2
        replace hv1029_2 := Option.some.inj (hv1029_2.symm.trans hx1029_2)
        injection hv1029_2 with hva_ hvn_ hvc_
        rw [hva_] at ge1029_2
        rw [hvc_] at ul1029_2
        have HL1029_2 := a_ (show Kd.V (Kd.int .u8) 5 _ w.heap.size _ _ ((rd_T58 t1012 x14_2).f2) from Kd.V_mk ul1029_2 ge1029_2)
        clear hva_ hvn_ hvc_ ge1029_2 ul1029_2
        clear hcc1029 hce1029
        have HR1029_2 := a_ hi1029_2
        have HC1029_2 := a_ hl1029_2
        clear hi1029_2 hl1029_2
        replace p1029 := eq_true p1029
        replace q1029 := eq_true q1029
        go_wp2
        go_loopg [12, 13, 15] k2 (fun kq v12 v13 v15 w' => ∃ (x12_3 : List (S58)) (x13_3 : Int) (x15_3 : List Int), v13 = .int .i64 x13_3 ∧ Aside0 (umpirelaw11_CaptureChunks.l1 kq l0 l1 t1012 x12_3 x13_3 x14_2 x15_3 0 0 0 0 (⟨#[]⟩ : ByteArray) (⟨#[]⟩ : ByteArray) 0 0 a2 = some r) ∧ Aside0 (kq ≤ k2) ∧ Aside0 (Kd.N k58 58 w' w.heap.size (fun k_ => some k_ ≠ (v12 : Value).ownBlock ∧ k_ ≠ gb1007 ∧ k_ ≠ gb1017) (.slice (some ad1029) t1012.length co30) t1012) ∧ Aside0 (Kd.N k58 58 w' w.heap.size (fun k_ => some k_ ≠ ((.slice (some ad1029) t1012.length co30) : Value).ownBlock ∧ k_ ≠ gb1007 ∧ k_ ≠ gb1017) v12 x12_3) ∧ Aside0 (Kd.V (Kd.int .u8) 5 w' w.heap.size (fun k_ => some k_ ≠ ((.slice (some ad1029) t1012.length co30) : Value).ownBlock ∧ some k_ ≠ (v12 : Value).ownBlock ∧ k_ ≠ gb1007 ∧ k_ ≠ gb1017) v15 x15_3) ∧ Aside0 (w'.heap[gb1007]? = some (.cells #[.int .i64 0, .int .i64 0, .int .i64 0, .int .i64 0, .string (⟨#[]⟩ : ByteArray), .string (⟨#[]⟩ : ByteArray), .int .i64 0, .int .u32 0, .bool a2] 25 (0, 0))) ∧ Aside0 (w'.heap[gb1017]? = some (.cells #[.int .i64 t1015, .int .i64 t1016] 30 (0, 0))) ∧ Aside0 (Below w.heap.size w w'))
        case atStart => exact ⟨(x12_2), (x13_2), ((rd_T58 t1012 x14_2).f2), (by rfl), H', ⟨Nat.le_refl _⟩, ⟨by exact HO_10.out⟩, ⟨by exact HO_12.out⟩, ⟨by exact Kd.V_mono HL1029_2.out (fun _ hk => ⟨hk.2, ⟨hk.1.1, ⟨hk.1.2.1, hk.1.2.2⟩⟩⟩)⟩, ⟨by exact BK1007.out⟩, ⟨by exact BK1017.out⟩, ⟨by exact HB.out⟩⟩
        case round =>
         clear H'
         try clear c28b0
         try clear c29b0
         try clear hx1029_0
         try clear hx1029_1
         try clear hx1029_2
         try clear p1029
         try clear q1029
         obtain ⟨x12_3, x13_3, x15_3, rfl, HA, HK3, HO_10, HO_12, HO_15, BK1007, BK1017, HB⟩ := hrel
         cases gk with
         | zero => exact absurd HA.out (by simp [umpirelaw11_CaptureChunks.l1])
         | succ k3 =>
          have H := HA.out
          clear HA
          simp only [umpirelaw11_CaptureChunks.l1] at H
          by_cases c31 : (x15_3.length : Int) > 0
          ·rw [if_pos c31] at H
           have c31b0 := decide_eq_true c31
           have c31b1 : decide (0 < x15_3.length) = true := decide_eq_true (by omega)
           clear c31
           by_cases c32 : x13_3 < (l1.length : Int)
           ·rw [if_pos c32] at H
            have c32b0 := decide_eq_true c32
            clear c32
            have c33b0 := ifd_ H
            replace H := ift_ H
            obtain ⟨ji34, hji34⟩ := si_ ((mn (x15_3.length : Int) (wrap64 (rd l1 x13_3))))
            rw [hji34] at H
            have hji34_ : (if (wrap64 (rd l1 x13_3)) < (x15_3.length : Int) then (wrap64 (rd l1 x13_3)) else (x15_3.length : Int)) = ji34 := hji34
            have c35b0 := ifd_ H
            replace H := ift_ H
            have c36b0 := ifd_ H
            replace H := ift_ H
            have c37 := ifc_ H
            replace H := ift_ H
            have c37b0 := eq_true c37
            have c37b1 := decide_eq_true c37
            clear c37
            have c38 := ifc_ H
            replace H := ift_ H
            have c38b0 := eq_true c38
            have c38b1 := decide_eq_true c38
            clear c38
            obtain ⟨y1032, hy1032⟩ := is_ ((x15_3.take ((ji34) : Int).toNat))
            rw [← hy1032] at H
            have Ny1032 := a_ hy1032
            clear hy1032
            obtain ⟨y1037, hy1037⟩ := is_ ((([(⟨(rd_T58 t1012 x14_2).f0, 0, y1032⟩ : S58), (⟨6, 3, ([] : List Int)⟩ : S58)] : List (S58))))
            rw [Option.bind_some, ← hy1037] at H
            have Ny1037 := a_ hy1037
            clear hy1037
            have c39 := ifc_ H
            replace H := ift_ H
            have LMc39 := a_ c39
            clear c39
            obtain ⟨y1040, hy1040⟩ := is_ ((x12_3 ++ y1037))
            rw [← hy1040] at H
            have Ny1040 := a_ hy1040
            clear hy1040
            have c40b0 := eq_true (da_ : 0 ≤ (ji34))
            have c41b0 := eq_true (da_ : (ji34) ≤ (x15_3.length : Int))
            obtain ⟨y1043, hy1043⟩ := is_ ((x15_3.drop ((ji34) : Int).toNat))
            rw [← hy1043] at H
            have Ny1043 := a_ hy1043
            clear hy1043
            have H' := a_ H
            clear H
            obtain ⟨Ao42, co42, eo42⟩ := Kd.V_slice HO_15.out
            subst eo42
            have p1030 : 0 ≤ (x13_3 : Int) := da_
            have q1030 : x13_3 < (l1.length : Int) := da_
            obtain ⟨ad1030, e1030, hx1030_0⟩ := Kd.at_int HR1.out x13_3 p1030 q1030
            cases e1030
            replace hx1030_0 := cb_ HB hx1030_0
            replace p1030 := eq_true p1030
            replace q1030 := eq_true q1030
            try go_wp2
            replace HO_10 := a_ (Kd.N_drew HO_10.out)
            replace HO_12 := a_ (Kd.N_drew HO_12.out)
            replace HO_15 := a_ (Kd.V_drew HO_15.out)
            replace BK1007 := a_ (blk_drew BK1007.out)
            replace BK1017 := a_ (blk_drew BK1017.out)
            replace HB := a_ (below_drew1 HB.out)
            have p1031 : 0 ≤ (x14_2 : Int) := da_
            have q1031 : x14_2 < (t1012.length : Int) := da_
            obtain ⟨ad1031, A1031_2, c1031_2, e1031, hx1031_0, hx1031_1, hx1031_2, hl1031_2, hi1031_2⟩ := at_T58 (Kd.N_reads' HO_10.out).2.2 x14_2 p1031 q1031
            obtain rfl : ad1029 = ad1031 := (by injection e1031)
            obtain ⟨ce1031, hce1031, hMe1031, hcc1031⟩ := Kd.N_get HO_10.out z58 x14_2 p1031 q1031
            obtain ⟨ua1031_2, uc1031_2, rfl, ul1031_2, ge1031_2⟩ := k58_openF hMe1031
            have hv1031_2 := hcc1031 2 _ rfl
            rw [add_field _ _ 2 (by omega)] at hv1031_2
            replace hv1031_2 := Option.some.inj (hv1031_2.symm.trans hx1031_2)
            injection hv1031_2 with hva_ hvn_ hvc_
            rw [hva_] at ge1031_2
            rw [hvc_] at ul1031_2
            have HL1031_2 := a_ (show Kd.V (Kd.int .u8) 5 _ w.heap.size _ _ ((rd_T58 t1012 x14_2).f2) from Kd.V_mk ul1031_2 ge1031_2)
            clear hva_ hvn_ hvc_ ge1031_2 ul1031_2
            clear hcc1031 hce1031
            have HR1031_2 := a_ hi1031_2
            have HC1031_2 := a_ hl1031_2
            clear hi1031_2 hl1031_2
            replace p1031 := eq_true p1031
            replace q1031 := eq_true q1031
            have q44 : ((ji34) : Int) ≤ ((x15_3.length : Int) : Int) := da_
            obtain ⟨i044, hi044, _, hsz44, _⟩ := info_parts info5
            have hroom44 : x15_3.length ≤ co42 := (Kd.V_reads' HO_15.out).2.1
            have hC44 : Kd.F (Kd.int .u8) _ _ Ao42 x15_3.length x15_3 := (Kd.V_at (base := w.heap.size) HO_15.out).2.2
            have hcut44 := cut_to (P := Tryd.prog) 22 5 .i64 Tryd.underlying22 hi044 Ao42 x15_3.length co42 (ji34) (da_) q44 hroom44
            have hr44 := Kd.F_take (m := ((ji34) : Int).toNat) hC44 (by omega)
            have hy44 : y1032.length = ((ji34) : Int).toNat := (by rw [Ny1032.out, List.length_take]; omega)
            rw [← Ny1032.out] at hr44
            rw [← hy44] at hcut44
            have HO1036 := a_ (show Kd.V (Kd.int .u8) 5 _ w.heap.size _ (.slice Ao42 y1032.length co42) y1032 from Kd.V_mk (by omega) hr44)
            have HC1036 := a_ (show y1032.length ≤ co42 from by omega)
            clear hr44 hC44 hroom44 hi044 hsz44
            have KY44 := a_ hy44
            clear hy44
            replace q44 := eq_true q44
            refine start_ (n := 14) (S := fun w' => w'.cell? (ad1029.add ((x14_2).toNat * 3)) = some (.int .i64 ((rd_T58 t1012 x14_2).f0)) ∧ w'.cell? ⟨(ad1029.add ((x14_2).toNat * 3)).block, (ad1029.add ((x14_2).toNat * 3)).off + 1, none⟩ = some (.int .u32 ((rd_T58 t1012 x14_2).f1)) ∧ w'.cell? ⟨(ad1029.add ((x14_2).toNat * 3)).block, (ad1029.add ((x14_2).toNat * 3)).off + 2, none⟩ = some (.slice A1031_2 ((rd_T58 t1012 x14_2).f2).length c1031_2)) (ds := [12]) (bo_ 14 0) (by kernel_rfl) rfl rfl ⟨hx1031_0, hx1031_1, hx1031_2⟩ (fun hHeld => ?_); refine with_tabW umpirelaw11_CaptureChunks.tab19 umpirelaw11_CaptureChunks.bits19 (fun HT_ HW_ => ?_)
            generalize wr.drew = w43 at HO_10 HO_12 HO_15 BK1007 BK1017 HB HL1031_2 HO1036 HR1031_2 hx1031_0 hx1031_1 hx1031_2 hHeld ⊢
            refine pu_ 0 (some 80) HT_ ?_
            refine pu_ 1 (some 81) HT_ ?_
            refine pu_ 2 (some 82) HT_ ?_
            refine pu_ 3 (some 83) HT_ ?_
            refine pu_ 4 (some 84) HT_ ?_
            refine pu_ 6 (some 86) HT_ ?_
            refine pu_ 7 (some 87) HT_ ?_
            refine pu_ 8 (some 88) HT_ ?_
            refine pu_ 10 (some 90) HT_ ?_
            refine take_ (i := 5) (N := some 85) (v := ?_) (a' := ?_) (bo_ 14 1535) rfl rfl (take_ofW HT_.out HW_.out (by kernel_rfl)) (fun _ _ _ h => h) (Or.inl ⟨by rfl, ?_⟩) hHeld ?_ ?_
            rotate_left
            ·rintro w' ⟨s0, s1, s2⟩
             go_simp
             with_reducible rfl
            rotate_left
            ·go_simp
             rfl
            refine pu_ 9 (some 89) HT_ ?_
            refine one_ (i := 11) (N := some 91) (bo_ 14 4095) rfl rfl (one_of HT_.out (by kernel_rfl)) (by decide) (fun K hK => ?_)
            refine Kd.N_lit_step k58 _ 58 ?hg (N' := 91) ?hd (xs := ([(⟨(rd_T58 t1012 x14_2).f0, 0, y1032⟩ : S58), (⟨6, 3, ([] : List Int)⟩ : S58)] : List (S58))) (inner := [.int .i64 ((rd_T58 t1012 x14_2).f0), .int .u32 0, .slice Ao42 y1032.length co42, .int .i64 6, .int .u32 3, .slice none 0 0]) (ok := (fun k_ => some k_ ≠ (.slice (some ad1029) t1012.length co30 : Value).ownBlock ∧ some k_ ≠ (u12 : Value).ownBlock ∧ k_ ≠ gb1007 ∧ k_ ≠ gb1017)) (okp := (fun k_ => some k_ ≠ (.slice (some ad1029) t1012.length co30 : Value).ownBlock ∧ some k_ ≠ (u12 : Value).ownBlock ∧ k_ ≠ gb1007 ∧ k_ ≠ gb1017)) ?hr ?hp (fun _ hk => hk) ((show ∀ k_, w43.heap.size ≤ k_ → (fun k_ => some k_ ≠ (.slice (some ad1029) t1012.length co30 : Value).ownBlock ∧ some k_ ≠ (u12 : Value).ownBlock ∧ k_ ≠ gb1007 ∧ k_ ≠ gb1017) k_ from fun k_ hk => ⟨Kd.fresh' (Kd.N_lt HO_10.out) k_ hk, Kd.fresh' (Kd.N_lt HO_12.out) k_ hk, Kd.freshB (g := gb1007) (o := .cells #[.int .i64 0, .int .i64 0, .int .i64 0, .int .i64 0, .string (⟨#[]⟩ : ByteArray), .string (⟨#[]⟩ : ByteArray), .int .i64 0, .int .u32 0, .bool a2] 25 (0, 0)) BK1007.out k_ hk, Kd.freshB BK1017.out k_ hk⟩) _ (Nat.le_refl _)) (Below.refl _ _) (Nat.le_refl _) (by simp) ?_; (case hd => rfl); (case hg => rfl); (case hr => (go_simp; done)); (case hp => exact (Reps.c3 (show Kd.FK k58 _ _ (⟨(rd_T58 t1012 x14_2).f0, 0, y1032⟩ : S58) [.int .i64 ((rd_T58 t1012 x14_2).f0), .int .u32 0, .slice Ao42 y1032.length co42] from (k58_mkF _ _ (⟨(rd_T58 t1012 x14_2).f0, 0, y1032⟩ : S58) (Kd.V_reads' (Kd.V_mono (ok' := (fun k_ => some k_ ≠ (.slice (some ad1029) t1012.length co30 : Value).ownBlock ∧ some k_ ≠ (u12 : Value).ownBlock ∧ k_ ≠ gb1007 ∧ k_ ≠ gb1017)) (HO1036.out) (fun k_ hk => ⟨hk.1, ⟨hk.2.1, ⟨hk.2.2.1, hk.2.2.2⟩⟩⟩))).2.1 (Kd.V_F (Kd.V_mono (ok' := (fun k_ => some k_ ≠ (.slice (some ad1029) t1012.length co30 : Value).ownBlock ∧ some k_ ≠ (u12 : Value).ownBlock ∧ k_ ≠ gb1007 ∧ k_ ≠ gb1017)) (HO1036.out) (fun k_ hk => ⟨hk.1, ⟨hk.2.1, ⟨hk.2.2.1, hk.2.2.2⟩⟩⟩))))) (Reps.c3 (show Kd.FK k58 _ _ (⟨6, 3, ([] : List Int)⟩ : S58) [.int .i64 6, .int .u32 3, .slice none 0 0] from (k58_mkF _ _ (⟨6, 3, ([] : List Int)⟩ : S58) (Nat.le_refl _) (Kd.F_nil _ _ _))) (Reps.none _ _))))
            intro v1038 w45 ho46 hb hg_ hnew_
            have HS0_ := (hb.cell (World.block_lt_of_cell? _ _ (hHeld.1))).trans (hHeld.1)
            have HS1_ := (hb.cell (World.block_lt_of_cell? _ _ (hHeld.2.1))).trans (hHeld.2.1)
            have HS2_ := (hb.cell (World.block_lt_of_cell? _ _ (hHeld.2.2))).trans (hHeld.2.2)
            clear hg_ hnew_
            rw [← Ny1037.out] at ho46
            have HO1039 := a_ (Kd.N_lower ho46 (below_size HB.out))
            replace HO_10 := a_ (Kd.N_elder' HO_10.out (Kd.N_base ho46) hb)
            replace HO_12 := a_ (Kd.N_elder' HO_12.out (Kd.N_base ho46) hb)
            replace HO_15 := a_ (Kd.V_elder' HO_15.out (Kd.N_base ho46) hb)
            replace HL1031_2 := a_ (Kd.V_elder' HL1031_2.out (Kd.N_base ho46) hb)
            replace HO1036 := a_ (Kd.V_elder' HO1036.out (Kd.N_base ho46) hb)
            replace BK1007 := a_ (blk_below (g := gb1007) (o := .cells #[.int .i64 0, .int .i64 0, .int .i64 0, .int .i64 0, .string (⟨#[]⟩ : ByteArray), .string (⟨#[]⟩ : ByteArray), .int .i64 0, .int .u32 0, .bool a2] 25 (0, 0)) BK1007.out hb)
            replace BK1017 := bb_ BK1017 hb
            replace HR1031_2 := a_ (Kd.C_below (by repeat (with_reducible exact HR1031_2.out)) hb)
            replace HB := bs_ HB hb
            clear hb ho46
            obtain ⟨Ao48, co48, eo48⟩ := Kd.N_slice HO1039.out
            subst eo48
            refine hK.out _ _ ⟨HS0_, HS1_, HS2_⟩ (fun hHeld => ?_)
            clear hK K
            refine nm_ (some 91) ?_
            refine last_ (i := 12) (N := some 92) (bo_ 14 8191) rfl rfl (one_of HT_.out (by kernel_rfl)) (by decide) (fun K hK => ?_)
            refine Kd.N_append_rows_step k58 (w0 := w) w.heap.size (by rfl) (.tmp 80) (.tmp 91) 54 58 (.agg #[(.int .i64 0), (.int .u32 0), (.slice none 0 0)]) 40 rfl Tryd.underlying54 info58 rfl (by decide) (by omega) u12 x12_3 y1037 _ _ _ (fun k_ => some k_ ≠ (.slice (some ad1029) t1012.length co30 : Value).ownBlock ∧ k_ ≠ gb1007 ∧ k_ ≠ gb1017) (fun k_ => ((fun k_ => some k_ ≠ (.slice (some ad1029) t1012.length co30 : Value).ownBlock ∧ k_ ≠ gb1007 ∧ k_ ≠ gb1017)) k_ ∧ some k_ ≠ (u12 : Value).ownBlock) rfl rfl ?aO ?aR (fun _ hk => hk) ?aF ?aB ?aS ?aL ?_
            (case aR => exact (by exact Kd.N_F (Kd.N_mono (ok' := (fun k_ => ((fun k_ => some k_ ≠ (.slice (some ad1029) t1012.length co30 : Value).ownBlock ∧ k_ ≠ gb1007 ∧ k_ ≠ gb1017)) k_ ∧ some k_ ≠ (u12 : Value).ownBlock)) (HO1039.out) (fun k_ hk => ⟨⟨hk.1, ⟨hk.2.2.1, hk.2.2.2⟩⟩, hk.2.1⟩))))
            (case aB => exact HB.out)
            (case aF => exact (fun k_ hk => ⟨Kd.fresh' (Kd.N_lt HO_10.out) k_ hk, Kd.freshB (g := gb1007) (o := .cells #[.int .i64 0, .int .i64 0, .int .i64 0, .int .i64 0, .string (⟨#[]⟩ : ByteArray), .string (⟨#[]⟩ : ByteArray), .int .i64 0, .int .u32 0, .bool a2] 25 (0, 0)) BK1007.out k_ hk, Kd.freshB BK1017.out k_ hk⟩))
            (case aO => exact (by exact Kd.N_mono HO_12.out (fun _ hk => ⟨hk.1.1, ⟨hk.1.2.1, hk.1.2.2⟩⟩)))
            (case aS => exact (below_size HB.out))
            (case aL => have := LMc39.out; omega)
            intro v1041 w47 ho hb hg hat
            rw [← Ny1040.out] at ho
            have HO1042 := a_ ho
            replace HO_10 := a_ (Kd.N_afterv (ok := (fun k_ => some k_ ≠ (.slice Ao48 y1037.length co48 : Value).ownBlock ∧ k_ ≠ gb1007 ∧ k_ ≠ gb1017)) (by exact Kd.N_mono HO_10.out (fun _ hk => ⟨⟨hk.2, ⟨hk.1.2.1, hk.1.2.2⟩⟩, hk.1.1⟩)) hg hat)
            replace HO_15 := a_ (Kd.V_afterv (ok := (fun k_ => some k_ ≠ (.slice (some ad1029) t1012.length co30 : Value).ownBlock ∧ some k_ ≠ (.slice Ao48 y1037.length co48 : Value).ownBlock ∧ k_ ≠ gb1007 ∧ k_ ≠ gb1017)) (by exact Kd.V_mono HO_15.out (fun _ hk => ⟨⟨hk.1.1, ⟨hk.2, ⟨hk.1.2.2.1, hk.1.2.2.2⟩⟩⟩, hk.1.2.1⟩)) hg hat)
            replace BK1007 := a_ (blk_grown (g := gb1007) (o := .cells #[.int .i64 0, .int .i64 0, .int .i64 0, .int .i64 0, .string (⟨#[]⟩ : ByteArray), .string (⟨#[]⟩ : ByteArray), .int .i64 0, .int .u32 0, .bool a2] 25 (0, 0)) BK1007.out hg (Kd.N_ne HO_12.out BK1007.out (by decide)))
            replace BK1017 := a_ (blk_grown BK1017.out hg (Kd.N_ne HO_12.out BK1017.out (by decide)))
            replace HL1031_2 := a_ (Kd.V_afterv (ok := (fun k_ => some k_ ≠ (.slice (some ad1029) t1012.length co30 : Value).ownBlock ∧ some k_ ≠ (.slice Ao48 y1037.length co48 : Value).ownBlock ∧ k_ ≠ gb1007 ∧ k_ ≠ gb1017)) (by exact Kd.V_mono HL1031_2.out (fun _ hk => ⟨⟨hk.1.2, ⟨hk.2, ⟨hk.1.1.2.1, hk.1.1.2.2⟩⟩⟩, hk.1.1.1⟩)) hg hat)
            replace HO1036 := a_ (Kd.V_afterv (ok := (fun k_ => some k_ ≠ (.slice (some ad1029) t1012.length co30 : Value).ownBlock ∧ some k_ ≠ (.slice Ao48 y1037.length co48 : Value).ownBlock ∧ k_ ≠ gb1007 ∧ k_ ≠ gb1017)) (by exact Kd.V_mono HO1036.out (fun _ hk => ⟨⟨hk.1.1, ⟨hk.2, ⟨hk.1.2.2.1, hk.1.2.2.2⟩⟩⟩, hk.1.2.1⟩)) hg hat)
            replace HO1039 := a_ (Kd.N_afterv (ok := (fun k_ => some k_ ≠ (.slice (some ad1029) t1012.length co30 : Value).ownBlock ∧ k_ ≠ gb1007 ∧ k_ ≠ gb1017)) (by exact Kd.N_mono HO1039.out (fun _ hk => ⟨⟨hk.1, ⟨hk.2.2.1, hk.2.2.2⟩⟩, hk.2.1⟩)) hg hat)
            replace HB := a_ hb
            clear HO_12
            clear ho hb hg hat
            refine hK.out _ _ ?_
            clear hK K
            refine nm_ (some 92) ?_
            refine pu_ 13 (some 12) HT_ ?_
            refine done_ (done_of HT_.out (by kernel_rfl)) ?_
            have q49 : ((ji34) : Int) ≤ ((x15_3.length : Int) : Int) := da_
            obtain ⟨i049, hi049, _, hsz49, _⟩ := info_parts info5
            have hroom49 : x15_3.length ≤ co42 := (Kd.V_reads' HO_15.out).2.1
            have hC49 : Kd.F (Kd.int .u8) _ _ Ao42 x15_3.length x15_3 := (Kd.V_at (base := w.heap.size) HO_15.out).2.2
            have q049 : (0 : Int) ≤ ((ji34) : Int) := da_
            have hcut49 := cut_from (P := Tryd.prog) 22 5 .i64 Tryd.underlying22 hi049 1 hsz49 Ao42 x15_3.length co42 (ji34) q049 q49
            have hr49 := Kd.F_cut (m := ((ji34) : Int).toNat) (c := co42) hC49 (by omega) hroom49
            obtain ⟨A49, hA49⟩ : ∃ A1, A1 = (if co42 = ((ji34) : Int).toNat then Ao42 else (Ao42 : Option Addr).map (·.add (((ji34) : Int).toNat * 1))) := ⟨_, rfl⟩
            obtain ⟨c49, hc49⟩ : ∃ c1, c1 = co42 - ((ji34) : Int).toNat := ⟨_, rfl⟩
            have hy49 : y1043.length = x15_3.length - ((ji34) : Int).toNat := (by rw [Ny1043.out, List.length_drop] <;> omega)
            rw [show (x15_3).drop ((ji34) : Int).toNat = y1043 from Ny1043.out.symm] at hr49
            replace hr49 : Kd.F (Kd.int .u8) _ _ A49 y1043.length y1043 := (by rw [hA49]; exact hr49)
            rw [← hy49, ← hA49, ← hc49] at hcut49
            have HO1047 := a_ (show Kd.V (Kd.int .u8) 5 _ w.heap.size _ (.slice A49 y1043.length c49) y1043 from Kd.V_mk (by rw [hy49, hc49]; exact Nat.sub_le_sub_right hroom49 _) hr49)
            have HC1047 := a_ (show y1043.length ≤ c49 from by rw [hy49, hc49]; exact Nat.sub_le_sub_right hroom49 _)
            clear hr49 hC49 hroom49 hi049 hsz49 hc49
            have KY49 := a_ hy49
            have KA49 := a_ hA49
            clear hy49 hA49
            replace q49 := eq_true q49
            try go_wp2
            go_roundg k3
            case measure => have := HJ3.out; have := HK2.out; have := HK3.out; omega
            case rel => exact ⟨(y1040), (wrap64 (x13_3 + 1)), (y1043), (by rfl), H', ⟨by have := HJ3.out; have := HK2.out; have := HK3.out; omega⟩, ⟨by exact Kd.N_mono HO_10.out (fun _ hk => ⟨hk.2, ⟨hk.1.2.1, hk.1.2.2⟩⟩)⟩, ⟨by exact HO1042.out⟩, ⟨by exact Kd.V_mono HO1047.out (fun _ hk => ⟨hk.1.1, ⟨hk.2, ⟨hk.1.2.2.1, hk.1.2.2.2⟩⟩⟩)⟩, ⟨by exact BK1007.out⟩, ⟨by exact BK1017.out⟩, ⟨by exact HB.out⟩⟩
           ·rw [if_neg c32] at H
            have c32b0 := decide_eq_false c32
            clear c32
            have c50b0 := ifd_ H
            replace H := ift_ H
            have c51b0 := ifd_ H
            replace H := ift_ H
            have c52 := ifc_ H
            replace H := ift_ H
            have c52b0 := eq_true c52
            have c52b1 := decide_eq_true c52
            clear c52
            have c53 := ifc_ H
            replace H := ift_ H
            have c53b0 := eq_true c53
            have c53b1 := decide_eq_true c53
            clear c53
            obtain ⟨y1049, hy1049⟩ := is_ ((x15_3.take ((x15_3.length : Int) : Int).toNat))
            rw [← hy1049] at H
            have Ny1049 := a_ hy1049
            clear hy1049
            obtain ⟨y1054, hy1054⟩ := is_ ((([(⟨(rd_T58 t1012 x14_2).f0, 0, y1049⟩ : S58), (⟨6, 3, ([] : List Int)⟩ : S58)] : List (S58))))
            rw [Option.bind_some, ← hy1054] at H
            have Ny1054 := a_ hy1054
            clear hy1054
            have c54 := ifc_ H
            replace H := ift_ H
            have LMc54 := a_ c54
            clear c54
            obtain ⟨y1057, hy1057⟩ := is_ ((x12_3 ++ y1054))
            rw [← hy1057] at H
            have Ny1057 := a_ hy1057
            clear hy1057
            have c55b0 := eq_true (da_ : 0 ≤ (x15_3.length : Int))
            have c56b0 := eq_true (da_ : (x15_3.length : Int) ≤ (x15_3.length : Int))
            obtain ⟨y1060, hy1060⟩ := is_ ((x15_3.drop ((x15_3.length : Int) : Int).toNat))
            rw [← hy1060] at H
            have Ny1060 := a_ hy1060
            clear hy1060
            have H' := a_ H
            clear H
            obtain ⟨Ao57, co57, eo57⟩ := Kd.V_slice HO_15.out
            subst eo57
            try go_wp2
            replace HO_10 := a_ (Kd.N_drew HO_10.out)
            replace HO_12 := a_ (Kd.N_drew HO_12.out)
            replace HO_15 := a_ (Kd.V_drew HO_15.out)
            replace BK1007 := a_ (blk_drew BK1007.out)
            replace BK1017 := a_ (blk_drew BK1017.out)
            replace HB := a_ (below_drew1 HB.out)
            have p1048 : 0 ≤ (x14_2 : Int) := da_
            have q1048 : x14_2 < (t1012.length : Int) := da_
            obtain ⟨ad1048, A1048_2, c1048_2, e1048, hx1048_0, hx1048_1, hx1048_2, hl1048_2, hi1048_2⟩ := at_T58 (Kd.N_reads' HO_10.out).2.2 x14_2 p1048 q1048
            obtain rfl : ad1029 = ad1048 := (by injection e1048)
            obtain ⟨ce1048, hce1048, hMe1048, hcc1048⟩ := Kd.N_get HO_10.out z58 x14_2 p1048 q1048
            obtain ⟨ua1048_2, uc1048_2, rfl, ul1048_2, ge1048_2⟩ := k58_openF hMe1048
            have hv1048_2 := hcc1048 2 _ rfl
            rw [add_field _ _ 2 (by omega)] at hv1048_2
            replace hv1048_2 := Option.some.inj (hv1048_2.symm.trans hx1048_2)
            injection hv1048_2 with hva_ hvn_ hvc_
            rw [hva_] at ge1048_2
            rw [hvc_] at ul1048_2
            have HL1048_2 := a_ (show Kd.V (Kd.int .u8) 5 _ w.heap.size _ _ ((rd_T58 t1012 x14_2).f2) from Kd.V_mk ul1048_2 ge1048_2)
            clear hva_ hvn_ hvc_ ge1048_2 ul1048_2
            clear hcc1048 hce1048
            have HR1048_2 := a_ hi1048_2
            have HC1048_2 := a_ hl1048_2
            clear hi1048_2 hl1048_2
            replace p1048 := eq_true p1048
            replace q1048 := eq_true q1048
            have q59 : ((x15_3.length : Int) : Int) ≤ ((x15_3.length : Int) : Int) := da_
            obtain ⟨i059, hi059, _, hsz59, _⟩ := info_parts info5
            have hroom59 : x15_3.length ≤ co57 := (Kd.V_reads' HO_15.out).2.1
            have hC59 : Kd.F (Kd.int .u8) _ _ Ao57 x15_3.length x15_3 := (Kd.V_at (base := w.heap.size) HO_15.out).2.2
            have hcut59 := cut_to (P := Tryd.prog) 22 5 .i64 Tryd.underlying22 hi059 Ao57 x15_3.length co57 (x15_3.length : Int) (da_) q59 hroom59
            have hr59 := Kd.F_take (m := ((x15_3.length : Int) : Int).toNat) hC59 (by omega)
            have hy59 : y1049.length = ((x15_3.length : Int) : Int).toNat := (by rw [Ny1049.out, List.length_take]; omega)
            rw [← Ny1049.out] at hr59
            rw [← hy59] at hcut59
            have HO1053 := a_ (show Kd.V (Kd.int .u8) 5 _ w.heap.size _ (.slice Ao57 y1049.length co57) y1049 from Kd.V_mk (by omega) hr59)
            have HC1053 := a_ (show y1049.length ≤ co57 from by omega)
            clear hr59 hC59 hroom59 hi059 hsz59
            have KY59 := a_ hy59
            clear hy59
            replace q59 := eq_true q59
            refine start_ (n := 14) (S := fun w' => w'.cell? (ad1029.add ((x14_2).toNat * 3)) = some (.int .i64 ((rd_T58 t1012 x14_2).f0)) ∧ w'.cell? ⟨(ad1029.add ((x14_2).toNat * 3)).block, (ad1029.add ((x14_2).toNat * 3)).off + 1, none⟩ = some (.int .u32 ((rd_T58 t1012 x14_2).f1)) ∧ w'.cell? ⟨(ad1029.add ((x14_2).toNat * 3)).block, (ad1029.add ((x14_2).toNat * 3)).off + 2, none⟩ = some (.slice A1048_2 ((rd_T58 t1012 x14_2).f2).length c1048_2)) (ds := [12]) (bo_ 14 0) (by kernel_rfl) rfl rfl ⟨hx1048_0, hx1048_1, hx1048_2⟩ (fun hHeld => ?_); refine with_tabW umpirelaw11_CaptureChunks.tab19 umpirelaw11_CaptureChunks.bits19 (fun HT_ HW_ => ?_)
            generalize wr.drew = w58 at HO_10 HO_12 HO_15 BK1007 BK1017 HB HL1048_2 HO1053 HR1048_2 hx1048_0 hx1048_1 hx1048_2 hHeld ⊢
            refine pu_ 0 (some 80) HT_ ?_
            refine pu_ 1 (some 81) HT_ ?_
            refine pu_ 2 (some 82) HT_ ?_
            refine pu_ 3 (some 83) HT_ ?_
            refine pu_ 4 (some 84) HT_ ?_
            refine pu_ 6 (some 86) HT_ ?_
            refine pu_ 7 (some 87) HT_ ?_
            refine pu_ 8 (some 88) HT_ ?_
            refine pu_ 10 (some 90) HT_ ?_
            refine take_ (i := 5) (N := some 85) (v := ?_) (a' := ?_) (bo_ 14 1535) rfl rfl (take_ofW HT_.out HW_.out (by kernel_rfl)) (fun _ _ _ h => h) (Or.inl ⟨by rfl, ?_⟩) hHeld ?_ ?_
            rotate_left
            ·rintro w' ⟨s0, s1, s2⟩
             go_simp
             with_reducible rfl
            rotate_left
            ·go_simp
             rfl
            refine pu_ 9 (some 89) HT_ ?_
            refine one_ (i := 11) (N := some 91) (bo_ 14 4095) rfl rfl (one_of HT_.out (by kernel_rfl)) (by decide) (fun K hK => ?_)
            refine Kd.N_lit_step k58 _ 58 ?hg (N' := 91) ?hd (xs := ([(⟨(rd_T58 t1012 x14_2).f0, 0, y1049⟩ : S58), (⟨6, 3, ([] : List Int)⟩ : S58)] : List (S58))) (inner := [.int .i64 ((rd_T58 t1012 x14_2).f0), .int .u32 0, .slice Ao57 y1049.length co57, .int .i64 6, .int .u32 3, .slice none 0 0]) (ok := (fun k_ => some k_ ≠ (.slice (some ad1029) t1012.length co30 : Value).ownBlock ∧ some k_ ≠ (u12 : Value).ownBlock ∧ k_ ≠ gb1007 ∧ k_ ≠ gb1017)) (okp := (fun k_ => some k_ ≠ (.slice (some ad1029) t1012.length co30 : Value).ownBlock ∧ some k_ ≠ (u12 : Value).ownBlock ∧ k_ ≠ gb1007 ∧ k_ ≠ gb1017)) ?hr ?hp (fun _ hk => hk) ((show ∀ k_, w58.heap.size ≤ k_ → (fun k_ => some k_ ≠ (.slice (some ad1029) t1012.length co30 : Value).ownBlock ∧ some k_ ≠ (u12 : Value).ownBlock ∧ k_ ≠ gb1007 ∧ k_ ≠ gb1017) k_ from fun k_ hk => ⟨Kd.fresh' (Kd.N_lt HO_10.out) k_ hk, Kd.fresh' (Kd.N_lt HO_12.out) k_ hk, Kd.freshB (g := gb1007) (o := .cells #[.int .i64 0, .int .i64 0, .int .i64 0, .int .i64 0, .string (⟨#[]⟩ : ByteArray), .string (⟨#[]⟩ : ByteArray), .int .i64 0, .int .u32 0, .bool a2] 25 (0, 0)) BK1007.out k_ hk, Kd.freshB BK1017.out k_ hk⟩) _ (Nat.le_refl _)) (Below.refl _ _) (Nat.le_refl _) (by simp) ?_; (case hd => rfl); (case hg => rfl); (case hr => (go_simp; done)); (case hp => exact (Reps.c3 (show Kd.FK k58 _ _ (⟨(rd_T58 t1012 x14_2).f0, 0, y1049⟩ : S58) [.int .i64 ((rd_T58 t1012 x14_2).f0), .int .u32 0, .slice Ao57 y1049.length co57] from (k58_mkF _ _ (⟨(rd_T58 t1012 x14_2).f0, 0, y1049⟩ : S58) (Kd.V_reads' (Kd.V_mono (ok' := (fun k_ => some k_ ≠ (.slice (some ad1029) t1012.length co30 : Value).ownBlock ∧ some k_ ≠ (u12 : Value).ownBlock ∧ k_ ≠ gb1007 ∧ k_ ≠ gb1017)) (HO1053.out) (fun k_ hk => ⟨hk.1, ⟨hk.2.1, ⟨hk.2.2.1, hk.2.2.2⟩⟩⟩))).2.1 (Kd.V_F (Kd.V_mono (ok' := (fun k_ => some k_ ≠ (.slice (some ad1029) t1012.length co30 : Value).ownBlock ∧ some k_ ≠ (u12 : Value).ownBlock ∧ k_ ≠ gb1007 ∧ k_ ≠ gb1017)) (HO1053.out) (fun k_ hk => ⟨hk.1, ⟨hk.2.1, ⟨hk.2.2.1, hk.2.2.2⟩⟩⟩))))) (Reps.c3 (show Kd.FK k58 _ _ (⟨6, 3, ([] : List Int)⟩ : S58) [.int .i64 6, .int .u32 3, .slice none 0 0] from (k58_mkF _ _ (⟨6, 3, ([] : List Int)⟩ : S58) (Nat.le_refl _) (Kd.F_nil _ _ _))) (Reps.none _ _))))
            intro v1055 w60 ho61 hb hg_ hnew_
            have HS0_ := (hb.cell (World.block_lt_of_cell? _ _ (hHeld.1))).trans (hHeld.1)
            have HS1_ := (hb.cell (World.block_lt_of_cell? _ _ (hHeld.2.1))).trans (hHeld.2.1)
            have HS2_ := (hb.cell (World.block_lt_of_cell? _ _ (hHeld.2.2))).trans (hHeld.2.2)
            clear hg_ hnew_
            rw [← Ny1054.out] at ho61
            have HO1056 := a_ (Kd.N_lower ho61 (below_size HB.out))
            replace HO_10 := a_ (Kd.N_elder' HO_10.out (Kd.N_base ho61) hb)
            replace HO_12 := a_ (Kd.N_elder' HO_12.out (Kd.N_base ho61) hb)
            replace HO_15 := a_ (Kd.V_elder' HO_15.out (Kd.N_base ho61) hb)
            replace HL1048_2 := a_ (Kd.V_elder' HL1048_2.out (Kd.N_base ho61) hb)
            replace HO1053 := a_ (Kd.V_elder' HO1053.out (Kd.N_base ho61) hb)
            replace BK1007 := a_ (blk_below (g := gb1007) (o := .cells #[.int .i64 0, .int .i64 0, .int .i64 0, .int .i64 0, .string (⟨#[]⟩ : ByteArray), .string (⟨#[]⟩ : ByteArray), .int .i64 0, .int .u32 0, .bool a2] 25 (0, 0)) BK1007.out hb)
            replace BK1017 := bb_ BK1017 hb
            replace HR1048_2 := a_ (Kd.C_below (by repeat (with_reducible exact HR1048_2.out)) hb)
            replace HB := bs_ HB hb
            clear hb ho61
            obtain ⟨Ao63, co63, eo63⟩ := Kd.N_slice HO1056.out
            subst eo63
            refine hK.out _ _ ⟨HS0_, HS1_, HS2_⟩ (fun hHeld => ?_)
            clear hK K
            refine nm_ (some 91) ?_
            refine last_ (i := 12) (N := some 92) (bo_ 14 8191) rfl rfl (one_of HT_.out (by kernel_rfl)) (by decide) (fun K hK => ?_)
            refine Kd.N_append_rows_step k58 (w0 := w) w.heap.size (by rfl) (.tmp 80) (.tmp 91) 54 58 (.agg #[(.int .i64 0), (.int .u32 0), (.slice none 0 0)]) 40 rfl Tryd.underlying54 info58 rfl (by decide) (by omega) u12 x12_3 y1054 _ _ _ (fun k_ => some k_ ≠ (.slice (some ad1029) t1012.length co30 : Value).ownBlock ∧ k_ ≠ gb1007 ∧ k_ ≠ gb1017) (fun k_ => ((fun k_ => some k_ ≠ (.slice (some ad1029) t1012.length co30 : Value).ownBlock ∧ k_ ≠ gb1007 ∧ k_ ≠ gb1017)) k_ ∧ some k_ ≠ (u12 : Value).ownBlock) rfl rfl ?aO ?aR (fun _ hk => hk) ?aF ?aB ?aS ?aL ?_
            (case aR => exact (by exact Kd.N_F (Kd.N_mono (ok' := (fun k_ => ((fun k_ => some k_ ≠ (.slice (some ad1029) t1012.length co30 : Value).ownBlock ∧ k_ ≠ gb1007 ∧ k_ ≠ gb1017)) k_ ∧ some k_ ≠ (u12 : Value).ownBlock)) (HO1056.out) (fun k_ hk => ⟨⟨hk.1, ⟨hk.2.2.1, hk.2.2.2⟩⟩, hk.2.1⟩))))
            (case aB => exact HB.out)
            (case aF => exact (fun k_ hk => ⟨Kd.fresh' (Kd.N_lt HO_10.out) k_ hk, Kd.freshB (g := gb1007) (o := .cells #[.int .i64 0, .int .i64 0, .int .i64 0, .int .i64 0, .string (⟨#[]⟩ : ByteArray), .string (⟨#[]⟩ : ByteArray), .int .i64 0, .int .u32 0, .bool a2] 25 (0, 0)) BK1007.out k_ hk, Kd.freshB BK1017.out k_ hk⟩))
            (case aO => exact (by exact Kd.N_mono HO_12.out (fun _ hk => ⟨hk.1.1, ⟨hk.1.2.1, hk.1.2.2⟩⟩)))
            (case aS => exact (below_size HB.out))
            (case aL => have := LMc54.out; omega)
            intro v1058 w62 ho hb hg hat
            rw [← Ny1057.out] at ho
            have HO1059 := a_ ho
            replace HO_10 := a_ (Kd.N_afterv (ok := (fun k_ => some k_ ≠ (.slice Ao63 y1054.length co63 : Value).ownBlock ∧ k_ ≠ gb1007 ∧ k_ ≠ gb1017)) (by exact Kd.N_mono HO_10.out (fun _ hk => ⟨⟨hk.2, ⟨hk.1.2.1, hk.1.2.2⟩⟩, hk.1.1⟩)) hg hat)
            replace HO_15 := a_ (Kd.V_afterv (ok := (fun k_ => some k_ ≠ (.slice (some ad1029) t1012.length co30 : Value).ownBlock ∧ some k_ ≠ (.slice Ao63 y1054.length co63 : Value).ownBlock ∧ k_ ≠ gb1007 ∧ k_ ≠ gb1017)) (by exact Kd.V_mono HO_15.out (fun _ hk => ⟨⟨hk.1.1, ⟨hk.2, ⟨hk.1.2.2.1, hk.1.2.2.2⟩⟩⟩, hk.1.2.1⟩)) hg hat)
            replace BK1007 := a_ (blk_grown (g := gb1007) (o := .cells #[.int .i64 0, .int .i64 0, .int .i64 0, .int .i64 0, .string (⟨#[]⟩ : ByteArray), .string (⟨#[]⟩ : ByteArray), .int .i64 0, .int .u32 0, .bool a2] 25 (0, 0)) BK1007.out hg (Kd.N_ne HO_12.out BK1007.out (by decide)))
            replace BK1017 := a_ (blk_grown BK1017.out hg (Kd.N_ne HO_12.out BK1017.out (by decide)))
            replace HL1048_2 := a_ (Kd.V_afterv (ok := (fun k_ => some k_ ≠ (.slice (some ad1029) t1012.length co30 : Value).ownBlock ∧ some k_ ≠ (.slice Ao63 y1054.length co63 : Value).ownBlock ∧ k_ ≠ gb1007 ∧ k_ ≠ gb1017)) (by exact Kd.V_mono HL1048_2.out (fun _ hk => ⟨⟨hk.1.2, ⟨hk.2, ⟨hk.1.1.2.1, hk.1.1.2.2⟩⟩⟩, hk.1.1.1⟩)) hg hat)
            replace HO1053 := a_ (Kd.V_afterv (ok := (fun k_ => some k_ ≠ (.slice (some ad1029) t1012.length co30 : Value).ownBlock ∧ some k_ ≠ (.slice Ao63 y1054.length co63 : Value).ownBlock ∧ k_ ≠ gb1007 ∧ k_ ≠ gb1017)) (by exact Kd.V_mono HO1053.out (fun _ hk => ⟨⟨hk.1.1, ⟨hk.2, ⟨hk.1.2.2.1, hk.1.2.2.2⟩⟩⟩, hk.1.2.1⟩)) hg hat)
            replace HO1056 := a_ (Kd.N_afterv (ok := (fun k_ => some k_ ≠ (.slice (some ad1029) t1012.length co30 : Value).ownBlock ∧ k_ ≠ gb1007 ∧ k_ ≠ gb1017)) (by exact Kd.N_mono HO1056.out (fun _ hk => ⟨⟨hk.1, ⟨hk.2.2.1, hk.2.2.2⟩⟩, hk.2.1⟩)) hg hat)
            replace HB := a_ hb
            clear HO_12
            clear ho hb hg hat
            refine hK.out _ _ ?_
            clear hK K
            refine nm_ (some 92) ?_
            refine pu_ 13 (some 12) HT_ ?_
            refine done_ (done_of HT_.out (by kernel_rfl)) ?_
            have q64 : ((x15_3.length : Int) : Int) ≤ ((x15_3.length : Int) : Int) := da_
            obtain ⟨i064, hi064, _, hsz64, _⟩ := info_parts info5
            have hroom64 : x15_3.length ≤ co57 := (Kd.V_reads' HO_15.out).2.1
            have hC64 : Kd.F (Kd.int .u8) _ _ Ao57 x15_3.length x15_3 := (Kd.V_at (base := w.heap.size) HO_15.out).2.2
            have q064 : (0 : Int) ≤ ((x15_3.length : Int) : Int) := da_
            have hcut64 := cut_from (P := Tryd.prog) 22 5 .i64 Tryd.underlying22 hi064 1 hsz64 Ao57 x15_3.length co57 (x15_3.length : Int) q064 q64
            have hr64 := Kd.F_cut (m := ((x15_3.length : Int) : Int).toNat) (c := co57) hC64 (by omega) hroom64
            obtain ⟨A64, hA64⟩ : ∃ A1, A1 = (if co57 = ((x15_3.length : Int) : Int).toNat then Ao57 else (Ao57 : Option Addr).map (·.add (((x15_3.length : Int) : Int).toNat * 1))) := ⟨_, rfl⟩
            obtain ⟨c64, hc64⟩ : ∃ c1, c1 = co57 - ((x15_3.length : Int) : Int).toNat := ⟨_, rfl⟩
            have hy64 : y1060.length = x15_3.length - ((x15_3.length : Int) : Int).toNat := (by rw [Ny1060.out, List.length_drop] <;> omega)
            rw [show (x15_3).drop ((x15_3.length : Int) : Int).toNat = y1060 from Ny1060.out.symm] at hr64
            replace hr64 : Kd.F (Kd.int .u8) _ _ A64 y1060.length y1060 := (by rw [hA64]; exact hr64)
            rw [← hy64, ← hA64, ← hc64] at hcut64
            have HO1064 := a_ (show Kd.V (Kd.int .u8) 5 _ w.heap.size _ (.slice A64 y1060.length c64) y1060 from Kd.V_mk (by rw [hy64, hc64]; exact Nat.sub_le_sub_right hroom64 _) hr64)
            have HC1064 := a_ (show y1060.length ≤ c64 from by rw [hy64, hc64]; exact Nat.sub_le_sub_right hroom64 _)
            clear hr64 hC64 hroom64 hi064 hsz64 hc64
            have KY64 := a_ hy64
            have KA64 := a_ hA64
            clear hy64 hA64
            replace q64 := eq_true q64
            try go_wp2
            go_roundg k3
            case measure => have := HJ3.out; have := HK2.out; have := HK3.out; omega
            case rel => exact ⟨(y1057), (x13_3), (y1060), (by rfl), H', ⟨by have := HJ3.out; have := HK2.out; have := HK3.out; omega⟩, ⟨by exact Kd.N_mono HO_10.out (fun _ hk => ⟨hk.2, ⟨hk.1.2.1, hk.1.2.2⟩⟩)⟩, ⟨by exact HO1059.out⟩, ⟨by exact Kd.V_mono HO1064.out (fun _ hk => ⟨hk.1.1, ⟨hk.2, ⟨hk.1.2.2.1, hk.1.2.2.2⟩⟩⟩)⟩, ⟨by exact BK1007.out⟩, ⟨by exact BK1017.out⟩, ⟨by exact HB.out⟩⟩
          ·rw [if_neg c31] at H
           have c31b0 := decide_eq_false c31
           have c31b1 : decide (0 < x15_3.length) = false := decide_eq_false (by omega)
           clear c31
           have H' := a_ H
           clear H
           obtain ⟨Ao65, co65, eo65⟩ := Kd.V_slice HO_15.out
           subst eo65
           go_wp2
           go_roundg k3
           case measure => have := HJ3.out; have := HK2.out; have := HK3.out; omega
           case rel => exact ⟨(x12_3), (x13_3), (wrap64 (x14_2 + 1)), (by rfl), (by rfl), H', ⟨by have := HJ3.out; have := HK2.out; have := HK3.out; omega⟩, ⟨by exact HO_10.out⟩, ⟨by exact HO_12.out⟩, ⟨by exact BK1007.out⟩, ⟨by exact BK1017.out⟩, ⟨by exact HB.out⟩⟩
       ·rw [if_neg c28] at H
        have c28b0 := decide_eq_false c28
        clear c28
        replace H := Option.bind_eq_some_iff.mp H
        obtain ⟨⟨t1018, t1019⟩, A660, H⟩ := H
        try dsimp only at H
        have A66 := a_ A660
        clear A660
        replace H := Option.bind_eq_some_iff.mp H
        obtain ⟨⟨t1022, t1025, t1026⟩, A670, H⟩ := H
        try dsimp only at H
        have A67 := a_ A670
        clear A670
        have c68 := ifc_ H
        replace H := ift_ H
        obtain ⟨c68b0, c68b1⟩ := bt_ c68
        have c69 := ifc_ H
        replace H := ift_ H
        have c69b0 : (t1025 == 0 && (t1026 == 0)) = true := c69
        (try (have c69b1 : decide (t1025 = 0 && (t1026 == 0)) = true := by simpa using c69))
        (try (have c69b2 : (t1025 == 0 && (t1026 == 0)) = true := by simpa using c69))
        clear c69
        replace H := Option.bind_eq_some_iff.mp H
        obtain ⟨t1028, A700, H⟩ := H
        try dsimp only at H
        have A70 := a_ A700
        clear A700
        obtain rfl := Option.some.inj H
        obtain ⟨Ao71, co71, eo71⟩ := Kd.N_slice HO_10.out
        subst eo71
        obtain ⟨Ao72, co72, eo72⟩ := Kd.N_slice HO_12.out
        subst eo72
        go_wp2_with (first | (refine gl_ (some 98) Tryd.func21 #[.slice Ao72 x12_2.length co72] ?_; (with_reducible refine (umpireref10_Put.calls k2 _ _ x12_2 t1018 t1019 _ ((Kd.N_reads' HO_12.out).2.2) ((Kd.N_reads' HO_12.out).2.1) A66.out).mono ?_); rintro e w73 ⟨v1020, rfl, ho0, hb⟩; refine ⟨_, rfl, ?_⟩; have HO1021 := rl_ ho0 HB; replace HO_10 := rN_ HO_10 ho0 hb; replace HO_12 := rN_ HO_12 ho0 hb; replace BK1007 := a_ (blk_below (g := gb1007) (o := .cells #[.int .i64 0, .int .i64 0, .int .i64 0, .int .i64 0, .string (⟨#[]⟩ : ByteArray), .string (⟨#[]⟩ : ByteArray), .int .i64 0, .int .u32 0, .bool a2] 25 (0, 0)) BK1007.out hb); replace BK1017 := bb_ BK1017 hb; replace HB := bs_ HB hb; (try clear hb); (try clear ho0); have hnb74 := NB1007_1017.out; have hnc74 := NB1017_1007.out; obtain ⟨hcz75_0, hcz75_1, hcz75_2, hcz75_3, hcz75_4, hcz75_5, hcz75_6, hcz75_7, hcz75_8, hfz75_0, hfz75_1, hfz75_2, hfz75_3, hfz75_4, hfz75_5, hfz75_6, hfz75_7, hfz75_8⟩ := blk9 BK1007.out; obtain ⟨Ao76, co76, eo76⟩ := Kd.R_slice HO1021.out; subst eo76) | (refine gl_ (some 104) Tryd.func10 #[.slice Ao76 t1018.length co76, .int .i64 2, .agg #[.int .i64 0, .int .i64 0, .int .i64 0, .int .i64 0, .string (⟨#[]⟩ : ByteArray), .string (⟨#[]⟩ : ByteArray), .int .i64 0, .int .u32 0, .bool a2]] ?_; (with_reducible refine (capture_Read.calls k2 _ _ t1018 2 0 0 0 0 (⟨#[]⟩ : ByteArray) (⟨#[]⟩ : ByteArray) 0 0 a2 t1022 t1025 t1026 _ (Kd.C_below HRG0.out HB.out) ((Kd.R_reads' HO1021.out).2.2) ((Kd.R_reads' HO1021.out).2.1) A67.out).mono ?_); rintro e w77 ⟨v1023, rfl, ho0, hb⟩; refine ⟨_, rfl, ?_⟩; have HO1024 := a_ (Kd.N_lower (Kd.N_mono (ok' := fun k_ => some k_ ≠ (.slice Ao71 t1012.length co71 : Value).ownBlock ∧ some k_ ≠ (.slice Ao72 x12_2.length co72 : Value).ownBlock ∧ some k_ ≠ (.slice Ao76 t1018.length co76 : Value).ownBlock ∧ k_ ≠ gb1007 ∧ k_ ≠ gb1017) (Kd.S_N (Kd.S_bound ho0)) (fun k_ hk_ => ⟨(Kd.fresh' (Kd.N_lt HO_10.out) k_ hk_.2.1), (Kd.fresh' (Kd.N_lt HO_12.out) k_ hk_.2.1), (Kd.fresh' (Kd.R_lt HO1021.out) k_ hk_.2.1), (Kd.freshB (g := gb1007) (o := .cells #[.int .i64 0, .int .i64 0, .int .i64 0, .int .i64 0, .string (⟨#[]⟩ : ByteArray), .string (⟨#[]⟩ : ByteArray), .int .i64 0, .int .u32 0, .bool a2] 25 (0, 0)) BK1007.out k_ hk_.2.1), (Kd.freshB BK1017.out k_ hk_.2.1)⟩)) (below_size HB.out)); replace HO_10 := a_ (Kd.N_elder' HO_10.out (by (exact Kd.N_base (Kd.S_N (Kd.S_bound ho0)))) hb); replace HO_12 := a_ (Kd.N_elder' HO_12.out (by (exact Kd.N_base (Kd.S_N (Kd.S_bound ho0)))) hb); replace HO1021 := rb_ HO1021 hb; replace BK1007 := a_ (blk_below (g := gb1007) (o := .cells #[.int .i64 0, .int .i64 0, .int .i64 0, .int .i64 0, .string (⟨#[]⟩ : ByteArray), .string (⟨#[]⟩ : ByteArray), .int .i64 0, .int .u32 0, .bool a2] 25 (0, 0)) BK1007.out hb); replace BK1017 := bb_ BK1017 hb; replace HB := bs_ HB hb; (try clear hb); (try clear ho0)) | ((with_reducible refine gate_dst (N := 20) rfl ?_); (try (refine gate_guard (by rfl) ?_; dsimp only)); refine be_ 20 #[.int .i64 0, .int .i64 0] 30 ?_; intro gb1027 hg w78 hbox hb; have BK1027 := a_ hbox; have GE1027 := lb_ HB hg; have NB1007_1027 := a_ ((by rw [hg]; exact Nat.ne_of_lt (blk_lt (g := gb1007) (o := .cells #[.int .i64 0, .int .i64 0, .int .i64 0, .int .i64 0, .string (⟨#[]⟩ : ByteArray), .string (⟨#[]⟩ : ByteArray), .int .i64 0, .int .u32 0, .bool a2] 25 (0, 0)) BK1007.out) : gb1007 ≠ gb1027)); have NB1027_1007 := a_ ((by rw [hg]; exact Nat.ne_of_gt (blk_lt (g := gb1007) (o := .cells #[.int .i64 0, .int .i64 0, .int .i64 0, .int .i64 0, .string (⟨#[]⟩ : ByteArray), .string (⟨#[]⟩ : ByteArray), .int .i64 0, .int .u32 0, .bool a2] 25 (0, 0)) BK1007.out) : gb1027 ≠ gb1007)); obtain ⟨NB1017_1027, NB1027_1017⟩ := nn_ BK1017 hg; replace HO_10 := Ne_ HO_10 hg hb; replace HO_12 := Ne_ HO_12 hg hb; replace HO1021 := rb_ HO1021 hb; replace HO1024 := Ne_ HO1024 hg hb; replace BK1007 := a_ (blk_below (g := gb1007) (o := .cells #[.int .i64 0, .int .i64 0, .int .i64 0, .int .i64 0, .string (⟨#[]⟩ : ByteArray), .string (⟨#[]⟩ : ByteArray), .int .i64 0, .int .u32 0, .bool a2] 25 (0, 0)) BK1007.out hb); replace BK1017 := bb_ BK1017 hb; replace HB := bs_ HB hb; clear hb hbox hg; have hnb79 := NB1027_1007.out; have hnc79 := NB1007_1027.out; have hnb80 := NB1027_1017.out; have hnc80 := NB1017_1027.out; obtain ⟨hcz81_0, hcz81_1, hfz81_0, hfz81_1⟩ := blk2 BK1027.out; obtain ⟨Ao82, co82, eo82⟩ := Kd.N_slice HO1024.out; subst eo82) | (go_at_call 12; (with_reducible refine (umpireref11_Same.calls k2 _ _ t1022 _ _ l0 t1028 _ ?side1 ?side2 ?side3 ?side4 A70.out).mono ?_); (case side1 => refine (Kd.N_reads' (e := 42) (base := w.heap.size) (ok := fun k_ => ((some k_ ≠ (.slice Ao71 t1012.length co71 : Value).ownBlock ∧ (some k_ ≠ (.slice Ao72 x12_2.length co72 : Value).ownBlock ∧ (some k_ ≠ (.slice Ao76 t1018.length co76 : Value).ownBlock ∧ (k_ ≠ gb1007 ∧ k_ ≠ gb1017)))) ∧ k_ ≠ gb1027)) (n := t1022.length) (c := co82) ?_).2.2; exact (by exact (Kd.N_mono (Kd.N_far (p := ⟨gb1027, 1, none⟩) (Kd.N_far (p := ⟨gb1027, 0, none⟩) (Kd.N_mono HO1024.out (fun k_ hk => (⟨hk, hk.2⟩ : _ ∧ k_ ≠ gb1027))) (fun _ hk => hk.2) (.int .i64 t1025)) (fun _ hk => hk.2) (.int .i64 t1026)) (fun _ h_ => h_.1)))); (case side2 => exact (Kd.N_reads' HO1024.out).2.1); (case side3 => exact Kd.C_below HR0.out (by repeat (with_reducible first | exact HB.out | refine below_set ?_ GE1027.out))); (case side4 => exact HC0.out); rintro e w' ⟨rfl, ⟨nd, rfl⟩⟩))
        go_ret
        exact ⟨by (rfl), by repeat (with_reducible first | exact HB.out | apply pw_below_drewN | refine below_set ?_ GE1027.out)⟩
    ·rw [if_neg c18] at H
     have c18b0 := beq_eq_false_iff_ne.mpr c18
     have c18b1 := bne_iff_ne.mpr c18
     obtain rfl := Option.some.inj H
     go_wp2_with (first | ((with_reducible refine gate_dst (N := 7) rfl ?_); (try (refine gate_guard (by rfl) ?_; dsimp only)); refine be_ 7 #[.int .i64 0, .int .i64 0, .int .i64 0, .int .i64 0, .string (⟨#[]⟩ : ByteArray), .string (⟨#[]⟩ : ByteArray), .int .i64 0, .int .u32 0, .bool false] 25 ?_; intro gb1007 hg w83 hbox hb; have BK1007 := a_ hbox; have GE1007 := lb_ HB hg; replace HB := bs_ HB hb; clear hb hbox hg; obtain ⟨hcz84_0, hcz84_1, hcz84_2, hcz84_3, hcz84_4, hcz84_5, hcz84_6, hcz84_7, hcz84_8, hfz84_0, hfz84_1, hfz84_2, hfz84_3, hfz84_4, hfz84_5, hfz84_6, hfz84_7, hfz84_8⟩ := blk9 BK1007.out) | (refine gl_ (some 39) Tryd.func14 #[.slice A0 l0.length c0, .int .i64 2, .agg #[.int .i64 0, .int .i64 0, .int .i64 0, .int .i64 0, .string (⟨#[]⟩ : ByteArray), .string (⟨#[]⟩ : ByteArray), .int .i64 0, .int .u32 0, .bool a2]] ?_; (with_reducible refine (capture_Write.calls kj3 _ _ l0 2 0 0 0 0 (⟨#[]⟩ : ByteArray) (⟨#[]⟩ : ByteArray) 0 0 a2 t1008 t1011 _ (Kd.C_below HRG0.out (by repeat (with_reducible first | exact HB.out | refine below_set ?_ GE1007.out))) (Kd.C_below HR0.out (by repeat (with_reducible first | exact HB.out | refine below_set ?_ GE1007.out))) HC0.out A17.out).mono ?_); rintro e w85 ⟨v1009, rfl, ho0, hb⟩; refine ⟨_, rfl, ?_⟩; have HO1010 := a_ (Kd.R_lower ho0 (below_size (by repeat (with_reducible first | exact HB.out | refine below_set ?_ GE1007.out)))); replace BK1007 := a_ (blk_below (g := gb1007) (o := .cells #[.int .i64 0, .int .i64 0, .int .i64 0, .int .i64 0, .string (⟨#[]⟩ : ByteArray), .string (⟨#[]⟩ : ByteArray), .int .i64 0, .int .u32 0, .bool a2] 25 (0, 0)) (by refine blk_put (cs := #[.int .i64 0, .int .i64 0, .int .i64 0, .int .i64 0, .string (⟨#[]⟩ : ByteArray), .string (⟨#[]⟩ : ByteArray), .int .i64 0, .int .u32 0, .bool false]) ?_ 8 _ rfl; refine blk_put (cs := #[.int .i64 0, .int .i64 0, .int .i64 0, .int .i64 0, .string (⟨#[]⟩ : ByteArray), .string (⟨#[]⟩ : ByteArray), .int .i64 0, .int .u32 0, .bool false]) ?_ 7 _ rfl; refine blk_put (cs := #[.int .i64 0, .int .i64 0, .int .i64 0, .int .i64 0, .string (⟨#[]⟩ : ByteArray), .string (⟨#[]⟩ : ByteArray), .int .i64 0, .int .u32 0, .bool false]) ?_ 6 _ rfl; refine blk_put (cs := #[.int .i64 0, .int .i64 0, .int .i64 0, .int .i64 0, .string (⟨#[]⟩ : ByteArray), .string (⟨#[]⟩ : ByteArray), .int .i64 0, .int .u32 0, .bool false]) ?_ 5 _ rfl; refine blk_put (cs := #[.int .i64 0, .int .i64 0, .int .i64 0, .int .i64 0, .string (⟨#[]⟩ : ByteArray), .string (⟨#[]⟩ : ByteArray), .int .i64 0, .int .u32 0, .bool false]) ?_ 4 _ rfl; refine blk_put (cs := #[.int .i64 0, .int .i64 0, .int .i64 0, .int .i64 0, .string (⟨#[]⟩ : ByteArray), .string (⟨#[]⟩ : ByteArray), .int .i64 0, .int .u32 0, .bool false]) ?_ 3 _ rfl; refine blk_put (cs := #[.int .i64 0, .int .i64 0, .int .i64 0, .int .i64 0, .string (⟨#[]⟩ : ByteArray), .string (⟨#[]⟩ : ByteArray), .int .i64 0, .int .u32 0, .bool false]) ?_ 2 _ rfl; refine blk_put (cs := #[.int .i64 0, .int .i64 0, .int .i64 0, .int .i64 0, .string (⟨#[]⟩ : ByteArray), .string (⟨#[]⟩ : ByteArray), .int .i64 0, .int .u32 0, .bool false]) ?_ 1 _ rfl; refine blk_put (cs := #[.int .i64 0, .int .i64 0, .int .i64 0, .int .i64 0, .string (⟨#[]⟩ : ByteArray), .string (⟨#[]⟩ : ByteArray), .int .i64 0, .int .u32 0, .bool false]) ?_ 0 _ rfl; exact BK1007.out) hb); replace HB := a_ (below_step (by repeat (with_reducible first | exact HB.out | refine below_set ?_ GE1007.out)) hb); (try clear hb); (try clear ho0)))
     go_ret
     exact ⟨by (rfl), by exact HB.out⟩

end Go.Proofs.YtgnonglkibhnhaaDoor.Print
