import Derived.Test.YtgnonglkibhnhaaDoorZ
import Derived.Test.YtgnonglkibhnhaaDoorF61
import Derived.Test.YtgnonglkibhnhaaDoorM1
namespace Go.Proofs.YtgnonglkibhnhaaDoor.Print
open Go.RowKit Go.Proofs.YtgnonglkibhnhaaDoorW.PrintWords Go.Proofs.YtgnonglkibhnhaaDoorW.PrintLast Go.Proofs.YtgnonglkibhnhaaDoorW.PrintMore
attribute [local go_sem] max2_int min2_int max_two min_two max_three min_three max_four min_four
set_option linter.unusedVariables false
set_option linter.unusedSimpArgs false

/-! ### pcap_Read: function 42 -/
def pcap_Read.l0 : Nat → List Int → List (S51) → Int → Bool → Bool → Int → Int → Option (Bool × Bool × Int × Int × (List (S51)) × Int × Int)
 | 0, _, _, _, _, _, _, _ => none
 | k + 1, x0, x7, x8, x113000, x113001, x113002, x113003 => if x8 < (x0.length : Int) then (if 0 ≤ x8 then (if x8 ≤ (x0.length : Int) then ((pcap_Next.f k (x0.drop (x8 : Int).toNat) x113000).bind fun bt114 => (if bt114.2.2.2.2.2 = 0 then (if x7.length < 3518437208883 then (pcap_Read.l0 k x0 (x7 ++ [(⟨bt114.1, bt114.2.1, bt114.2.2.1, bt114.2.2.2.1⟩ : S51)]) (wrap64 (x8 + bt114.2.2.2.2.1)) x113000 x113001 x113002 x113003) else (none)) else (some (x113000, x113001, x113002, x113003, x7, x8, bt114.2.2.2.2.2)))) else (none)) else (none)) else (some (x113000, x113001, x113002, x113003, x7, 0, 0))
def pcap_Read.f (k : Nat) (l0 : List Int) : Option (Bool × Bool × Int × Int × (List (S51)) × Int × Int) := (pcap_Head.f k l0).bind fun bt107 => (if bt107.2.2.2.2 = 0 then (pcap_Read.l0 k l0 ([] : List (S51)) 24 bt107.1 bt107.2.1 bt107.2.2.1 bt107.2.2.2.1) else (some (false, false, 0, 0, ([] : List (S51)), 0, bt107.2.2.2.2)))
def pcap_Read.T7 : Bool × List (List Nat × List Nat) := (true, [([], []), ([], []), ([0, 1], [0, 1]), ([], []), ([3], [3]), ([2, 4], [2, 4]), ([5], [5]), ([6], [6]), ([6], [6]), ([6], [6]), ([], []), ([10, 7, 5, 0, 1, 2, 3, 4, 5, 6, 7, 10], [7, 10]), ([8, 11, 0, 1, 2, 3, 4, 5, 6, 7, 8, 10, 11], [8]), ([9, 12, 0, 1, 2, 3, 4, 5, 6, 7, 8, 9, 10, 11, 12], [9])])
def pcap_Read.B7 : List Nat := [0, 0, 3, 0, 8, 31, 63, 127, 127, 127, 0, 1279, 3583, 8191]
theorem pcap_Read.tab7 : rtab .any (opsOf Tryd.f42 7) = pcap_Read.T7 := by kernel_rfl
theorem pcap_Read.bits7 : waitsOk pcap_Read.T7.2 pcap_Read.B7 = true := by kernel_rfl
set_option maxHeartbeats 8000000 in
set_option maxRecDepth 100000 in
theorem pcap_Read.calls (k : Nat) (A0 : Option Addr) (c0 : Nat) (l0 : List Int) (r1 : Bool) (r2 : Bool) (r3 : Int) (r4 : Int) (r5 : List (S51)) (r6 : Int) (r7 : Int) (w : World) (hr0 : Kd.C (Kd.int .u8) w A0 l0.length l0) (hc0 : l0.length ≤ c0) (h : pcap_Read.f k l0 = some (r1, r2, r3, r4, r5, r6, r7)) :
  Calls Tryd.prog 42 #[.slice A0 l0.length c0] w fun e w' => ∃ v4_ : Value, e = .returned (.tuple #[.agg #[.bool r1, .bool r2, .int .u32 r3, .int .u32 r4], v4_, .agg #[.int .i64 r6, .int .i64 r7]]) ∧ Kd.S k51 51 w' w.heap.size (fun _ => True) v4_ r5 ∧ Below w.heap.size w w' := by
 have hu46 := Tryd.underlying46
 have hu30 := Tryd.underlying30
 have hu51 := Tryd.underlying51
 have HR0 := a_ hr0
 have HC0 := a_ hc0
 clear hr0 hc0
 have HB := a_ (Below.refl w.heap.size w)
 have H := h
 clear h
 unfold pcap_Read.f at H
 replace H := Option.bind_eq_some_iff.mp H
 obtain ⟨⟨t107, t108, t109, t110, t111⟩, A20, H⟩ := H
 try dsimp only at H
 have A2 := a_ A20
 clear A20
 by_cases c3 : t111 = 0
 ·rw [if_pos c3] at H
  obtain ⟨c3b0, c3b1⟩ := bt_ c3
  clear c3
  have H' := a_ H
  clear H
  go_enter Tryd.func42, Tryd.ntmps42
  go_wp2_with (first | (refine be_ 2 #[.bool false, .bool false, .int .u32 0, .int .u32 0] 46 ?_; intro gb105 hg w4 hbox hb; have BK105 := a_ hbox; have GW105 := lb_ HB hg; have GE105 := lb_ HB hg; replace HB := bs_ HB hb; clear hb hbox hg) | (refine be_ 4 #[.int .i64 0, .int .i64 0] 30 ?_; intro gb106 hg w5 hbox hb; have BK106 := a_ hbox; have GW106 := lb_ HB hg; have GE106 := lb_ HB hg; obtain ⟨NB105_106, NB106_105⟩ := nn_ BK105 hg; replace BK105 := bb_ BK105 hb; replace HB := bs_ HB hb; clear hb hbox hg) | (refine gl_ (some 14) Tryd.func61 #[.slice A0 l0.length c0] ?_; (with_reducible refine (pcap_Head.calls k _ _ l0 t107 t108 t109 t110 t111 _ (Kd.C_below HR0.out HB.out) HC0.out A2.out).mono ?_); rintro e w6 ⟨rfl, hb⟩; refine ⟨_, rfl, ?_⟩; replace BK105 := bb_ BK105 hb; replace BK106 := bb_ BK106 hb; replace HB := bs_ HB hb; (try clear hb)) | (refine be_ 5 #[.bool false, .bool false, .int .u32 0, .int .u32 0] 46 ?_; intro gb112 hg w7 hbox hb; have BK112 := a_ hbox; have GW112 := lb_ HB hg; have GE112 := lb_ HB hg; obtain ⟨NB105_112, NB112_105⟩ := nn_ BK105 hg; obtain ⟨NB106_112, NB112_106⟩ := nn_ BK106 hg; replace BK105 := bb_ BK105 hb; replace BK106 := bb_ BK106 hb; replace HB := bs_ HB hb; clear hb hbox hg; have hnb8 := NB112_105.out; have hnc8 := NB105_112.out; have hnb9 := NB112_106.out; have hnc9 := NB106_112.out; obtain ⟨hcz10_0, hcz10_1, hcz10_2, hcz10_3, hfz10_0, hfz10_1, hfz10_2, hfz10_3⟩ := blk4 BK112.out))
  go_loopg [7, 8] k (fun kq v7 v8 w' => ∃ (x7_1 : List (S51)) (x8_1 : Int) (x106000_1 : Bool) (x106001_1 : Bool) (x106002_1 : Int) (x106003_1 : Int) (x107000_1 : Int) (x107001_1 : Int), v8 = .int .i64 x8_1 ∧ Aside0 (pcap_Read.l0 kq l0 x7_1 x8_1 t107 t108 t109 t110 = some (r1, r2, r3, r4, r5, r6, r7)) ∧ Aside0 (kq ≤ k) ∧ Aside0 (Kd.S k51 51 w' w.heap.size (fun _ => True) v7 x7_1) ∧ Aside0 (w'.heap[gb105]? = some (.cells #[.bool x106000_1, .bool x106001_1, .int .u32 x106002_1, .int .u32 x106003_1] 46 (0, 0))) ∧ Aside0 (w'.heap[gb106]? = some (.cells #[.int .i64 x107000_1, .int .i64 x107001_1] 30 (0, 0))) ∧ Aside0 (w'.heap[gb112]? = some (.cells #[.bool t107, .bool t108, .int .u32 t109, .int .u32 t110] 46 (0, 0))) ∧ Aside0 (Below w.heap.size w w'))
  case atStart => exact ⟨([] : List (S51)), (24), (false), (false), (0), (0), (0), (0), (by rfl), H', ⟨Nat.le_refl _⟩, ⟨by (exact Kd.S_nil _ _ _ _ _)⟩, ⟨by refine blk_far ?_ NB105_112.out _; refine blk_far ?_ NB105_112.out _; refine blk_far ?_ NB105_112.out _; refine blk_far ?_ NB105_112.out _; exact BK105.out⟩, ⟨by refine blk_far ?_ NB106_112.out _; refine blk_far ?_ NB106_112.out _; refine blk_far ?_ NB106_112.out _; refine blk_far ?_ NB106_112.out _; exact BK106.out⟩, ⟨by refine blk_put (cs := #[.bool t107, .bool t108, .int .u32 t109, .int .u32 0]) ?_ 3 _ rfl; refine blk_put (cs := #[.bool t107, .bool t108, .int .u32 0, .int .u32 0]) ?_ 2 _ rfl; refine blk_put (cs := #[.bool t107, .bool false, .int .u32 0, .int .u32 0]) ?_ 1 _ rfl; refine blk_put (cs := #[.bool false, .bool false, .int .u32 0, .int .u32 0]) ?_ 0 _ rfl; exact BK112.out⟩, ⟨by repeat (with_reducible first | exact HB.out | refine below_set ?_ GE112.out)⟩⟩
  case round =>
   clear H'
   try clear c3b0
   try clear c3b1
   try clear hcz10_0
   try clear hcz10_1
   try clear hcz10_2
   try clear hcz10_3
   try clear hfz10_0
   try clear hfz10_1
   try clear hfz10_2
   try clear hfz10_3
   obtain ⟨x7_1, x8_1, x106000_1, x106001_1, x106002_1, x106003_1, x107000_1, x107001_1, rfl, HA, HK1, HO_7, BK105, BK106, BK112, HB⟩ := hrel
   cases gk with
   | zero => exact absurd HA.out (by simp [pcap_Read.l0])
   | succ k1 =>
    have H := HA.out
    clear HA
    simp only [pcap_Read.l0] at H
    by_cases c11 : x8_1 < (l0.length : Int)
    ·rw [if_pos c11] at H
     have c11b0 := decide_eq_true c11
     clear c11
     have c12 := ifc_ H
     replace H := ift_ H
     have c12b0 := eq_true c12
     have c12b1 := decide_eq_true c12
     clear c12
     have c13 := ifc_ H
     replace H := ift_ H
     have c13b0 := eq_true c13
     have c13b1 := decide_eq_true c13
     clear c13
     replace H := Option.bind_eq_some_iff.mp H
     obtain ⟨⟨t114, t115, t116, t117, t120, t121⟩, A140, H⟩ := H
     try dsimp only at H
     have A14 := a_ A140
     clear A140
     by_cases c15 : t121 = 0
     ·rw [if_pos c15] at H
      obtain ⟨c15b0, c15b1⟩ := bt_ c15
      clear c15
      have c16 := ifc_ H
      replace H := ift_ H
      have LMc16 := a_ c16
      clear c16
      obtain ⟨y123, hy123⟩ := is_ ((x7_1 ++ [(⟨t114, t115, t116, t117⟩ : S51)]) : List (S51))
      rw [← hy123] at H
      have Ny123 := a_ hy123
      clear hy123
      have H' := a_ H
      clear H
      try go_wp2
      replace HO_7 := a_ (Kd.S_drew HO_7.out)
      replace BK105 := a_ (blk_drew BK105.out)
      replace BK106 := a_ (blk_drew BK106.out)
      replace BK112 := a_ (blk_drew BK112.out)
      replace HB := a_ (below_drew1 HB.out)
      obtain ⟨i018, hi018, _, hsz18, _⟩ := info_parts info5
      obtain ⟨A18, hcut18, hA18, hC18⟩ := print_drop_of (P := Tryd.prog) (Value.int .u8) 0 22 5 .i64 Tryd.underlying22 hi018 hsz18 A0 c0 l0 x8_1 (da_) (da_) HC0.out
      have HR113 := ci_ (Kd.C_of_reads (h1 := fun _ => rfl) (hA18 _ (Kd.reads_of_C HR0.out)))
      have HC113 := a_ hC18
      clear hA18 hC18 hi018 hsz18
      refine start_ (n := 14) (S := fun w' => w'.cell? ⟨gb112, 0, none⟩ = some (.bool t107) ∧ w'.cell? ⟨gb112, 1, none⟩ = some (.bool t108) ∧ w'.cell? ⟨gb112, 2, none⟩ = some (.int .u32 t109) ∧ w'.cell? ⟨gb112, 3, none⟩ = some (.int .u32 t110)) (ds := []) (bo_ 14 0) (by kernel_rfl) rfl rfl ⟨bc0 BK112, bc1 BK112, bc2 BK112, bc3 BK112⟩ (fun hHeld => ?_); refine with_tabW pcap_Read.tab7 pcap_Read.bits7 (fun HT_ HW_ => ?_)
      generalize wr.drew = w17 at HO_7 BK105 BK106 BK112 HB HR113 hHeld ⊢
      refine pu_ 0 (some 27) HT_ ?_
      refine pu_ 1 (some 28) HT_ ?_
      refine pu_ 2 (some 29) HT_ ?_
      refine pu_ 3 (some 30) HT_ ?_
      refine take_ (i := 4) (N := some 31) (v := ?_) (a' := ?_) (bo_ 14 31) rfl rfl (take_ofW HT_.out HW_.out (by kernel_rfl)) (fun _ _ _ h => h) (Or.inl ⟨by rfl, ?_⟩) hHeld ?_ ?_
      rotate_left
      ·rintro w' ⟨s0, s1, s2, s3⟩
       go_simp
       with_reducible rfl
      rotate_left
      ·simp only [Act.put, List.setIfInBounds_toArray, List.set_cons_zero, List.set_cons_succ, i64_w, i32_w]
       rfl
      refine join_ (σ := Value × Nat) 3 (bo_ 14 2047) (fun s_ => [(32, .tuple #[.agg #[.int .u32 t114, .int .u32 t115, .int .u32 t116, s_.1], .int .i64 t120, .int .i64 t121]), (9, .pointer (some ⟨s_.2, 0, none⟩)), (26, .tuple #[.agg #[.int .u32 t114, .int .u32 t115, .int .u32 t116, s_.1], .int .i64 t120, .int .i64 t121]), (33, .agg #[.int .u32 t114, .int .u32 t115, .int .u32 t116, s_.1]), (34, .int .i64 t120), (35, .int .i64 t121)]) (fun s_ w' => (w'.cell? ⟨gb112, 0, none⟩ = some (.bool t107) ∧ w'.cell? ⟨gb112, 1, none⟩ = some (.bool t108) ∧ w'.cell? ⟨gb112, 2, none⟩ = some (.int .u32 t109) ∧ w'.cell? ⟨gb112, 3, none⟩ = some (.int .u32 t110)) ∧ (Kd.R (Kd.int .u8) 5 w' w.heap.size (fun _ => True) s_.1 t117) ∧ (Kd.S k51 51 w' w.heap.size (fun k_ => some k_ ≠ (s_.1 : Value).ownBlock ∧ k_ ≠ s_.2) u7 x7_1) ∧ (w'.heap[gb105]? = some (.cells #[.bool x106000_1, .bool x106001_1, .int .u32 x106002_1, .int .u32 x106003_1] 46 (0, 0))) ∧ (w'.heap[gb106]? = some (.cells #[.int .i64 x107000_1, .int .i64 x107001_1] 30 (0, 0))) ∧ (w'.heap[gb112]? = some (.cells #[.bool t107, .bool t108, .int .u32 t109, .int .u32 t110] 46 (0, 0))) ∧ (w'.heap[s_.2]? = some (.cells #[.int .u32 0, .int .u32 0, .int .u32 0, .slice none 0 0] 51 (0, 0))) ∧ (w.heap.size ≤ s_.2) ∧ (w.heap.size ≤ s_.2) ∧ (gb105 ≠ s_.2) ∧ (s_.2 ≠ gb105) ∧ (gb106 ≠ s_.2) ∧ (s_.2 ≠ gb106) ∧ (gb112 ≠ s_.2) ∧ (s_.2 ≠ gb112) ∧ (Below w.heap.size w w')) ?_ ?_
      rotate_left
      ·intro hCont
       refine two_ (i := 5) (j := 10) (Ni := some 32) (Nj := some 9) (bo_ 14 63) (bo_ 14 1055) rfl rfl rfl rfl (two_of HT_.out (by kernel_rfl)) (by decide) (by decide) (fun K hK => ?_) (fun K hK => ?_)
       ·skip
        refine goes_ Tryd.func62 (by kernel_rfl) rfl #[.slice A18 (l0.drop (x8_1 : Int).toNat).length (c0 - x8_1.toNat), .bool t107] (by rfl) rfl rfl (by (try simp only [List.map_toArray, List.map_cons, List.map_nil]); (rw [show (l0.drop (x8_1 : Int).toNat).length = (l0.length - x8_1.toNat) from List.length_drop] <;> rfl)) ?_
        with_reducible refine (pcap_Next.calls k1 _ _ (l0.drop (x8_1 : Int).toNat) t107 t114 t115 t116 t117 t120 t121 _ ?side1 ?side2 A14.out).mono ?_
        (case side1 => exact (Kd.C_below HR113.out HB.out))
        (case side2 => exact HC113.out)
        rintro e w19 ⟨v118, rfl, ho0, hb⟩
        refine ⟨_, rfl, ?_⟩
        have HO119 := rl_ ho0 HB
        replace HO_7 := rS_ HO_7 ho0 hb
        replace BK105 := bb_ BK105 hb
        replace BK106 := bb_ BK106 hb
        replace BK112 := bb_ BK112 hb
        replace HB := bs_ HB hb
        (try clear hb)
        (try clear ho0)
        refine hK.out _ _ ⟨bc0 BK112, bc1 BK112, bc2 BK112, bc3 BK112⟩ (fun hHeld => ?_)
        clear hK K
        refine nm_ (some 32) ?_
        refine pu_ 6 (some 26) HT_ ?_
        refine pu_ 7 (some 33) HT_ ?_
        refine pu_ 8 (some 34) HT_ ?_
        refine pu_ 9 (some 35) HT_ ?_
        refine one_ (i := 10) (N := some 9) (bo_ 14 2047) rfl rfl (one_of HT_.out (by kernel_rfl)) (by decide) (fun K hK => ?_)
        refine bst_ 9 #[.int .u32 0, .int .u32 0, .int .u32 0, .slice none 0 0] 51 ?_
        intro gb122 hg w20 hbox hb
        have BK122 := a_ hbox
        have GW122 := lb_ HB hg
        have GE122 := lb_ HB hg
        obtain ⟨NB105_122, NB122_105⟩ := nn_ BK105 hg
        obtain ⟨NB106_122, NB122_106⟩ := nn_ BK106 hg
        obtain ⟨NB112_122, NB122_112⟩ := nn_ BK112 hg
        replace HO_7 := se_ HO_7 hg hb
        replace HO119 := rb_ HO119 hb
        replace BK105 := bb_ BK105 hb
        replace BK106 := bb_ BK106 hb
        replace BK112 := bb_ BK112 hb
        replace HB := bs_ HB hb
        clear hb hbox hg
        refine hK.out _ _ ⟨bc0 BK112, bc1 BK112, bc2 BK112, bc3 BK112⟩ (fun hHeld => ?_)
        clear hK K
        refine nm_ (some 9) ?_
        exact norm_ (by simp only [putAll, Act.put, List.setIfInBounds_toArray, List.set_cons_zero, List.set_cons_succ]) (hCont (v118, gb122) _ ⟨hHeld, HO119.out, (by exact Kd.S_mono HO_7.out (fun _ hk => ⟨hk.1.2, hk.2⟩)), BK105.out, BK106.out, BK112.out, BK122.out, GW122.out, GE122.out, NB105_122.out, NB122_105.out, NB106_122.out, NB122_106.out, NB112_122.out, NB122_112.out, HB.out⟩)
       ·skip
        refine bst_ 9 #[.int .u32 0, .int .u32 0, .int .u32 0, .slice none 0 0] 51 ?_
        intro gb122 hg w19 hbox hb
        have BK122 := a_ hbox
        have GW122 := lb_ HB hg
        have GE122 := lb_ HB hg
        obtain ⟨NB105_122, NB122_105⟩ := nn_ BK105 hg
        obtain ⟨NB106_122, NB122_106⟩ := nn_ BK106 hg
        obtain ⟨NB112_122, NB122_112⟩ := nn_ BK112 hg
        replace HO_7 := se_ HO_7 hg hb
        replace BK105 := bb_ BK105 hb
        replace BK106 := bb_ BK106 hb
        replace BK112 := bb_ BK112 hb
        replace HB := bs_ HB hb
        clear hb hbox hg
        refine hK.out _ _ ⟨bc0 BK112, bc1 BK112, bc2 BK112, bc3 BK112⟩ (fun hHeld => ?_)
        clear hK K
        refine nm_ (some 9) ?_
        refine one_ (i := 5) (N := some 32) (bo_ 14 1087) rfl rfl (one_of HT_.out (by kernel_rfl)) (by decide) (fun K hK => ?_)
        refine goes_ Tryd.func62 (by kernel_rfl) rfl #[.slice A18 (l0.drop (x8_1 : Int).toNat).length (c0 - x8_1.toNat), .bool t107] (by rfl) rfl rfl (by (try simp only [List.map_toArray, List.map_cons, List.map_nil]); (rw [show (l0.drop (x8_1 : Int).toNat).length = (l0.length - x8_1.toNat) from List.length_drop] <;> rfl)) ?_
        with_reducible refine (pcap_Next.calls k1 _ _ (l0.drop (x8_1 : Int).toNat) t107 t114 t115 t116 t117 t120 t121 _ ?side1 ?side2 A14.out).mono ?_
        (case side1 => exact (Kd.C_below HR113.out HB.out))
        (case side2 => exact HC113.out)
        rintro e w20 ⟨v118, rfl, ho0, hb⟩
        refine ⟨_, rfl, ?_⟩
        have HO119 := rl_ ho0 HB
        replace HO_7 := rS_ HO_7 ho0 hb
        replace BK105 := bb_ BK105 hb
        replace BK106 := bb_ BK106 hb
        replace BK112 := bb_ BK112 hb
        replace BK122 := bb_ BK122 hb
        replace HB := bs_ HB hb
        (try clear hb)
        (try clear ho0)
        refine hK.out _ _ ⟨bc0 BK112, bc1 BK112, bc2 BK112, bc3 BK112⟩ (fun hHeld => ?_)
        clear hK K
        refine nm_ (some 32) ?_
        refine pu_ 6 (some 26) HT_ ?_
        refine pu_ 7 (some 33) HT_ ?_
        refine pu_ 8 (some 34) HT_ ?_
        refine pu_ 9 (some 35) HT_ ?_
        exact norm_ (by simp only [putAll, Act.put, List.setIfInBounds_toArray, List.set_cons_zero, List.set_cons_succ]) (hCont (v118, gb122) _ ⟨hHeld, HO119.out, (by exact Kd.S_mono HO_7.out (fun _ hk => ⟨hk.2, hk.1.2⟩)), BK105.out, BK106.out, BK112.out, BK122.out, GW122.out, GE122.out, NB105_122.out, NB122_105.out, NB106_122.out, NB122_106.out, NB112_122.out, NB122_112.out, HB.out⟩)
      rintro ⟨v118, gb122⟩ w21 ⟨hS_, h0_, h1_, h2_, h3_, h4_, h5_, h6_, h7_, h8_, h9_, h10_, h11_, h12_, h13_, h14_⟩
      have n0_ : Aside0 (Kd.R (Kd.int .u8) 5 w21 w.heap.size (fun _ => True) v118 t117) := ⟨h0_⟩
      have n1_ : Aside0 (Kd.S k51 51 w21 w.heap.size (fun k_ => some k_ ≠ (v118 : Value).ownBlock ∧ k_ ≠ gb122) u7 x7_1) := ⟨h1_⟩
      have n2_ : Aside0 (w21.heap[gb105]? = some (.cells #[.bool x106000_1, .bool x106001_1, .int .u32 x106002_1, .int .u32 x106003_1] 46 (0, 0))) := ⟨h2_⟩
      have n3_ : Aside0 (w21.heap[gb106]? = some (.cells #[.int .i64 x107000_1, .int .i64 x107001_1] 30 (0, 0))) := ⟨h3_⟩
      have n4_ : Aside0 (w21.heap[gb112]? = some (.cells #[.bool t107, .bool t108, .int .u32 t109, .int .u32 t110] 46 (0, 0))) := ⟨h4_⟩
      have n5_ : Aside0 (w21.heap[gb122]? = some (.cells #[.int .u32 0, .int .u32 0, .int .u32 0, .slice none 0 0] 51 (0, 0))) := ⟨h5_⟩
      have n6_ : Aside0 (w.heap.size ≤ gb122) := ⟨h6_⟩
      have n7_ : Aside0 (w.heap.size ≤ gb122) := ⟨h7_⟩
      have n8_ : Aside0 (gb105 ≠ gb122) := ⟨h8_⟩
      have n9_ : Aside0 (gb122 ≠ gb105) := ⟨h9_⟩
      have n10_ : Aside0 (gb106 ≠ gb122) := ⟨h10_⟩
      have n11_ : Aside0 (gb122 ≠ gb106) := ⟨h11_⟩
      have n12_ : Aside0 (gb112 ≠ gb122) := ⟨h12_⟩
      have n13_ : Aside0 (gb122 ≠ gb112) := ⟨h13_⟩
      have n14_ : Aside0 (Below w.heap.size w w21) := ⟨h14_⟩
      clear HO_7
      clear BK105
      clear BK106
      clear BK112
      clear HB
      clear h0_ h1_ h2_ h3_ h4_ h5_ h6_ h7_ h8_ h9_ h10_ h11_ h12_ h13_ h14_
      have HO119 := n0_
      have HO_7 := n1_
      have BK105 := n2_
      have BK106 := n3_
      have BK112 := n4_
      have BK122 := n5_
      have GW122 := n6_
      have GE122 := n7_
      have NB105_122 := n8_
      have NB122_105 := n9_
      have NB106_122 := n10_
      have NB122_106 := n11_
      have NB112_122 := n12_
      have NB122_112 := n13_
      have HB := n14_
      clear n0_ n1_ n2_ n3_ n4_ n5_ n6_ n7_ n8_ n9_ n10_ n11_ n12_ n13_ n14_
      have hHeld : w21.cell? ⟨gb112, 0, none⟩ = some (.bool t107) ∧ w21.cell? ⟨gb112, 1, none⟩ = some (.bool t108) ∧ w21.cell? ⟨gb112, 2, none⟩ = some (.int .u32 t109) ∧ w21.cell? ⟨gb112, 3, none⟩ = some (.int .u32 t110) := hS_
      obtain ⟨Ao25, co25, eo25⟩ := Kd.R_slice HO119.out
      subst eo25
      refine norm_ (a' := ?_) ?_ ?_
      rotate_left
      ·simp only [putAll, Act.put, List.setIfInBounds_toArray, List.set_cons_zero, List.set_cons_succ]
       rfl
      refine one_ (i := 11) (N := none) (bo_ 14 4095) rfl rfl (one_of HT_.out (by kernel_rfl)) (by decide) (fun K hK => ?_)
      have hs22 := bc0 BK122
      have hfs22 := blk_frozen BK122.out 0
      have hns22_0 := NB105_122.out
      have hns22_1 := NB106_122.out
      have hns22_2 := NB112_122.out
      have hms22_0 := NB122_105.out
      have hms22_1 := NB122_106.out
      have hms22_2 := NB122_112.out
      have hs23 := bc1 BK122
      have hfs23 := blk_frozen BK122.out 1
      have hns23_0 := NB105_122.out
      have hns23_1 := NB106_122.out
      have hns23_2 := NB112_122.out
      have hms23_0 := NB122_105.out
      have hms23_1 := NB122_106.out
      have hms23_2 := NB122_112.out
      have hs24 := bc2 BK122
      have hfs24 := blk_frozen BK122.out 2
      have hns24_0 := NB105_122.out
      have hns24_1 := NB106_122.out
      have hns24_2 := NB112_122.out
      have hms24_0 := NB122_105.out
      have hms24_1 := NB122_106.out
      have hms24_2 := NB122_112.out
      have hs26 := bc3 BK122
      have hfs26 := blk_frozen BK122.out 3
      have hns26_0 := NB105_122.out
      have hns26_1 := NB106_122.out
      have hns26_2 := NB112_122.out
      have hms26_0 := NB122_105.out
      have hms26_1 := NB122_106.out
      have hms26_2 := NB122_112.out
      refine skip_ (w1 := ?_) (by rfl) rfl ?_ ?_
      rotate_left
      ·go_simp
       rfl
      refine hK.out _ _ ⟨((cell_far (p := ⟨gb122, _, none⟩) NB112_122.out _).trans (((cell_far (p := ⟨gb122, _, none⟩) NB112_122.out _).trans (((cell_far (p := ⟨gb122, _, none⟩) NB112_122.out _).trans (((cell_far (p := ⟨gb122, _, none⟩) NB112_122.out _).trans (hHeld.1)))))))), ((cell_far (p := ⟨gb122, _, none⟩) NB112_122.out _).trans (((cell_far (p := ⟨gb122, _, none⟩) NB112_122.out _).trans (((cell_far (p := ⟨gb122, _, none⟩) NB112_122.out _).trans (((cell_far (p := ⟨gb122, _, none⟩) NB112_122.out _).trans (hHeld.2.1)))))))), ((cell_far (p := ⟨gb122, _, none⟩) NB112_122.out _).trans (((cell_far (p := ⟨gb122, _, none⟩) NB112_122.out _).trans (((cell_far (p := ⟨gb122, _, none⟩) NB112_122.out _).trans (((cell_far (p := ⟨gb122, _, none⟩) NB112_122.out _).trans (hHeld.2.2.1)))))))), ((cell_far (p := ⟨gb122, _, none⟩) NB112_122.out _).trans (((cell_far (p := ⟨gb122, _, none⟩) NB112_122.out _).trans (((cell_far (p := ⟨gb122, _, none⟩) NB112_122.out _).trans (((cell_far (p := ⟨gb122, _, none⟩) NB112_122.out _).trans (hHeld.2.2.2))))))))⟩ (fun hHeld => ?_)
      clear hK K
      refine pu_ 12 (some 10) HT_ ?_
      refine pu_ 13 (some 11) HT_ ?_
      refine done_ (done_of HT_.out (by kernel_rfl)) ?_
      have n0_ : Aside0 (Kd.S k51 51 ((((w21.setCell ⟨gb122, 0, none⟩ (.int .u32 t114)).setCell ⟨gb122, 1, none⟩ (.int .u32 t115)).setCell ⟨gb122, 2, none⟩ (.int .u32 t116)).setCell ⟨gb122, 3, none⟩ (.slice Ao25 t117.length co25)) w.heap.size (fun k_ => some k_ ≠ (.slice Ao25 t117.length co25 : Value).ownBlock ∧ k_ ≠ gb122) u7 x7_1) := ⟨by exact Kd.S_mono (Kd.S_far (p := ⟨gb122, 3, none⟩) (Kd.S_far (p := ⟨gb122, 2, none⟩) (Kd.S_far (p := ⟨gb122, 1, none⟩) (Kd.S_far (p := ⟨gb122, 0, none⟩) (Kd.S_mono HO_7.out (fun k_ hk => (⟨hk, hk.2⟩ : _ ∧ k_ ≠ gb122))) (fun _ hk => hk.2) (.int .u32 t114)) (fun _ hk => hk.2) (.int .u32 t115)) (fun _ hk => hk.2) (.int .u32 t116)) (fun _ hk => hk.2) (.slice Ao25 t117.length co25)) (fun _ hk => ⟨hk.1.1, hk.1.2⟩)⟩
      have n1_ : Aside0 (Kd.R (Kd.int .u8) 5 ((((w21.setCell ⟨gb122, 0, none⟩ (.int .u32 t114)).setCell ⟨gb122, 1, none⟩ (.int .u32 t115)).setCell ⟨gb122, 2, none⟩ (.int .u32 t116)).setCell ⟨gb122, 3, none⟩ (.slice Ao25 t117.length co25)) w.heap.size (fun _ => True) (.slice Ao25 t117.length co25) t117) := ⟨by exact Kd.R_mono (Kd.R_far (p := ⟨gb122, 3, none⟩) (Kd.R_far (p := ⟨gb122, 2, none⟩) (Kd.R_far (p := ⟨gb122, 1, none⟩) (Kd.R_far (p := ⟨gb122, 0, none⟩) (Kd.R_types HO119.out BK122.out (by decide)) (fun _ hk => hk.2) (.int .u32 t114)) (fun _ hk => hk.2) (.int .u32 t115)) (fun _ hk => hk.2) (.int .u32 t116)) (fun _ hk => hk.2) (.slice Ao25 t117.length co25)) (fun _ hk => trivial)⟩
      have n2_ : Aside0 (((((w21.setCell ⟨gb122, 0, none⟩ (.int .u32 t114)).setCell ⟨gb122, 1, none⟩ (.int .u32 t115)).setCell ⟨gb122, 2, none⟩ (.int .u32 t116)).setCell ⟨gb122, 3, none⟩ (.slice Ao25 t117.length co25)).heap[gb105]? = some (.cells #[.bool x106000_1, .bool x106001_1, .int .u32 x106002_1, .int .u32 x106003_1] 46 (0, 0))) := ⟨by refine blk_far ?_ NB105_122.out _; refine blk_far ?_ NB105_122.out _; refine blk_far ?_ NB105_122.out _; refine blk_far ?_ NB105_122.out _; exact BK105.out⟩
      have n3_ : Aside0 (((((w21.setCell ⟨gb122, 0, none⟩ (.int .u32 t114)).setCell ⟨gb122, 1, none⟩ (.int .u32 t115)).setCell ⟨gb122, 2, none⟩ (.int .u32 t116)).setCell ⟨gb122, 3, none⟩ (.slice Ao25 t117.length co25)).heap[gb106]? = some (.cells #[.int .i64 x107000_1, .int .i64 x107001_1] 30 (0, 0))) := ⟨by refine blk_far ?_ NB106_122.out _; refine blk_far ?_ NB106_122.out _; refine blk_far ?_ NB106_122.out _; refine blk_far ?_ NB106_122.out _; exact BK106.out⟩
      have n4_ : Aside0 (((((w21.setCell ⟨gb122, 0, none⟩ (.int .u32 t114)).setCell ⟨gb122, 1, none⟩ (.int .u32 t115)).setCell ⟨gb122, 2, none⟩ (.int .u32 t116)).setCell ⟨gb122, 3, none⟩ (.slice Ao25 t117.length co25)).heap[gb112]? = some (.cells #[.bool t107, .bool t108, .int .u32 t109, .int .u32 t110] 46 (0, 0))) := ⟨by refine blk_far ?_ NB112_122.out _; refine blk_far ?_ NB112_122.out _; refine blk_far ?_ NB112_122.out _; refine blk_far ?_ NB112_122.out _; exact BK112.out⟩
      have n5_ : Aside0 (((((w21.setCell ⟨gb122, 0, none⟩ (.int .u32 t114)).setCell ⟨gb122, 1, none⟩ (.int .u32 t115)).setCell ⟨gb122, 2, none⟩ (.int .u32 t116)).setCell ⟨gb122, 3, none⟩ (.slice Ao25 t117.length co25)).heap[gb122]? = some (.cells #[.int .u32 t114, .int .u32 t115, .int .u32 t116, .slice Ao25 t117.length co25] 51 (0, 0))) := ⟨by refine blk_put (cs := #[.int .u32 t114, .int .u32 t115, .int .u32 t116, .slice none 0 0]) ?_ 3 _ rfl; refine blk_put (cs := #[.int .u32 t114, .int .u32 t115, .int .u32 0, .slice none 0 0]) ?_ 2 _ rfl; refine blk_put (cs := #[.int .u32 t114, .int .u32 0, .int .u32 0, .slice none 0 0]) ?_ 1 _ rfl; refine blk_put (cs := #[.int .u32 0, .int .u32 0, .int .u32 0, .slice none 0 0]) ?_ 0 _ rfl; exact BK122.out⟩
      have n6_ : Aside0 (Below w.heap.size w ((((w21.setCell ⟨gb122, 0, none⟩ (.int .u32 t114)).setCell ⟨gb122, 1, none⟩ (.int .u32 t115)).setCell ⟨gb122, 2, none⟩ (.int .u32 t116)).setCell ⟨gb122, 3, none⟩ (.slice Ao25 t117.length co25))) := ⟨by repeat (with_reducible first | exact HB.out | refine below_set ?_ GE122.out)⟩
      (try clear HO_7)
      (try clear HO119)
      (try clear BK105)
      (try clear BK106)
      (try clear BK112)
      (try clear BK122)
      (try clear HB)
      generalize ((((w21.setCell ⟨gb122, 0, none⟩ (.int .u32 t114)).setCell ⟨gb122, 1, none⟩ (.int .u32 t115)).setCell ⟨gb122, 2, none⟩ (.int .u32 t116)).setCell ⟨gb122, 3, none⟩ (.slice Ao25 t117.length co25)) = w27 at n0_ n1_ n2_ n3_ n4_ n5_ n6_ ⊢
      have HO_7 := n0_
      have HO119 := n1_
      have BK105 := n2_
      have BK106 := n3_
      have BK112 := n4_
      have BK122 := n5_
      have HB := n6_
      clear n0_ n1_ n2_ n3_ n4_ n5_ n6_
      have hnb28 := NB122_105.out
      have hnc28 := NB105_122.out
      have hnb29 := NB122_106.out
      have hnc29 := NB106_122.out
      have hnb30 := NB122_112.out
      have hnc30 := NB112_122.out
      obtain ⟨hcz31_0, hcz31_1, hcz31_2, hcz31_3, hfz31_0, hfz31_1, hfz31_2, hfz31_3⟩ := blk4 BK122.out
      try go_wp2_with (first | ((with_reducible refine gate_builtin (b := .append) (xs := #[.tmp 43, .tmp 45]) rfl ?_); at_builtin; refine Kd.S_append k51 (w0 := w) w.heap.size rfl (.tmp 43) (.tmp 45) 47 51 (.agg #[(.int .u32 0), (.int .u32 0), (.int .u32 0), (.slice none 0 0)]) 40 rfl Tryd.underlying47 info51 rfl (by decide) (by omega) u7 x7_1 (⟨t114, t115, t116, t117⟩ : S51) [.int .u32 t114, .int .u32 t115, .int .u32 t116, .slice Ao25 t117.length co25] (fun k_ => k_ ≠ gb122) (fun k_ => some k_ = (.slice Ao25 t117.length co25 : Value).ownBlock) rfl rfl ?aP (fun k_ hk_ => ((Kd.R_mono (ok' := fun k_ => (fun k_ => k_ ≠ gb122) k_ ∧ some k_ ≠ (u7 : Value).ownBlock) (Kd.R_types (Kd.R_apart' (HO119.out) (Kd.S_typed HO_7.out) (by decide)) BK122.out (by decide)) (fun k_ hk => ⟨hk.2, hk.1.2⟩))).1 k_ hk_.symm) ?aF ?aO ?aB ?aS ?aL ?_; (case aP => exact k51_mkM _ _ _ (⟨t114, t115, t116, t117⟩ : S51) (Kd.R_mono (Kd.R_tight rfl (Kd.R_mono (ok' := fun k_ => (fun k_ => k_ ≠ gb122) k_ ∧ some k_ ≠ (u7 : Value).ownBlock) (Kd.R_types (Kd.R_apart' (HO119.out) (Kd.S_typed HO_7.out) (by decide)) BK122.out (by decide)) (fun k_ hk => ⟨hk.2, hk.1.2⟩))) (fun _ h_ => h_))); (case aB => exact HB.out); (case aF => exact (fun k_ hk => Kd.freshB BK122.out k_ hk)); (case aO => exact (by exact Kd.S_mono HO_7.out (fun k_ hk => ⟨hk.2, fun e_ => hk.1 e_⟩))); (case aS => exact (below_size HB.out)); (case aL => have := LMc16.out; omega); intro v124 w32 ho hb hg hat; rw [← Ny123.out] at ho; have HO125 := a_ ho; replace BK105 := a_ (blk_grown BK105.out hg (Kd.S_ne HO_7.out BK105.out (by decide))); replace BK106 := a_ (blk_grown BK106.out hg (Kd.S_ne HO_7.out BK106.out (by decide))); replace BK112 := a_ (blk_grown BK112.out hg (Kd.S_ne HO_7.out BK112.out (by decide))); replace BK122 := a_ (blk_grown BK122.out hg (Kd.S_away HO_7.out (fun _ hk => hk.2))); replace HB := a_ hb; clear HO_7; clear HO119; clear ho hb hg hat))
      go_roundg k1
      case measure => have := HK1.out; omega
      case rel => exact ⟨(y123), (wrap64 (x8_1 + t120)), (x106000_1), (x106001_1), (x106002_1), (x106003_1), (x107000_1), (x107001_1), (by rfl), H', ⟨by have := HK1.out; omega⟩, ⟨by exact Kd.S_mono HO125.out (fun _ hk => trivial)⟩, ⟨by exact BK105.out⟩, ⟨by exact BK106.out⟩, ⟨by exact BK112.out⟩, ⟨by exact HB.out⟩⟩
     ·rw [if_neg c15] at H
      have c15b0 := beq_eq_false_iff_ne.mpr c15
      have c15b1 := bne_iff_ne.mpr c15
      obtain ⟨rfl, rfl, rfl, rfl, rfl, rfl, rfl⟩ := s7_ H
      try go_wp2
      replace HO_7 := a_ (Kd.S_drew HO_7.out)
      replace BK105 := a_ (blk_drew BK105.out)
      replace BK106 := a_ (blk_drew BK106.out)
      replace BK112 := a_ (blk_drew BK112.out)
      replace HB := a_ (below_drew1 HB.out)
      obtain ⟨i034, hi034, _, hsz34, _⟩ := info_parts info5
      obtain ⟨A34, hcut34, hA34, hC34⟩ := print_drop_of (P := Tryd.prog) (Value.int .u8) 0 22 5 .i64 Tryd.underlying22 hi034 hsz34 A0 c0 l0 x8_1 (da_) (da_) HC0.out
      have HR113 := ci_ (Kd.C_of_reads (h1 := fun _ => rfl) (hA34 _ (Kd.reads_of_C HR0.out)))
      have HC113 := a_ hC34
      clear hA34 hC34 hi034 hsz34
      refine start_ (n := 14) (S := fun w' => w'.cell? ⟨gb112, 0, none⟩ = some (.bool t107) ∧ w'.cell? ⟨gb112, 1, none⟩ = some (.bool t108) ∧ w'.cell? ⟨gb112, 2, none⟩ = some (.int .u32 t109) ∧ w'.cell? ⟨gb112, 3, none⟩ = some (.int .u32 t110)) (ds := []) (bo_ 14 0) (by kernel_rfl) rfl rfl ⟨bc0 BK112, bc1 BK112, bc2 BK112, bc3 BK112⟩ (fun hHeld => ?_); refine with_tabW pcap_Read.tab7 pcap_Read.bits7 (fun HT_ HW_ => ?_)
      generalize wr.drew = w33 at HO_7 BK105 BK106 BK112 HB HR113 hHeld ⊢
      refine pu_ 0 (some 27) HT_ ?_
      refine pu_ 1 (some 28) HT_ ?_
      refine pu_ 2 (some 29) HT_ ?_
      refine pu_ 3 (some 30) HT_ ?_
      refine take_ (i := 4) (N := some 31) (v := ?_) (a' := ?_) (bo_ 14 31) rfl rfl (take_ofW HT_.out HW_.out (by kernel_rfl)) (fun _ _ _ h => h) (Or.inl ⟨by rfl, ?_⟩) hHeld ?_ ?_
      rotate_left
      ·rintro w' ⟨s0, s1, s2, s3⟩
       go_simp
       with_reducible rfl
      rotate_left
      ·simp only [Act.put, List.setIfInBounds_toArray, List.set_cons_zero, List.set_cons_succ, i64_w, i32_w]
       rfl
      refine join_ (σ := Value × Nat) 3 (bo_ 14 2047) (fun s_ => [(32, .tuple #[.agg #[.int .u32 t114, .int .u32 t115, .int .u32 t116, s_.1], .int .i64 t120, .int .i64 t121]), (9, .pointer (some ⟨s_.2, 0, none⟩)), (26, .tuple #[.agg #[.int .u32 t114, .int .u32 t115, .int .u32 t116, s_.1], .int .i64 t120, .int .i64 t121]), (33, .agg #[.int .u32 t114, .int .u32 t115, .int .u32 t116, s_.1]), (34, .int .i64 t120), (35, .int .i64 t121)]) (fun s_ w' => (w'.cell? ⟨gb112, 0, none⟩ = some (.bool t107) ∧ w'.cell? ⟨gb112, 1, none⟩ = some (.bool t108) ∧ w'.cell? ⟨gb112, 2, none⟩ = some (.int .u32 t109) ∧ w'.cell? ⟨gb112, 3, none⟩ = some (.int .u32 t110)) ∧ (Kd.R (Kd.int .u8) 5 w' w.heap.size (fun _ => True) s_.1 t117) ∧ (Kd.S k51 51 w' w.heap.size (fun k_ => some k_ ≠ (s_.1 : Value).ownBlock ∧ k_ ≠ s_.2) u7 x7_1) ∧ (w'.heap[gb105]? = some (.cells #[.bool x106000_1, .bool x106001_1, .int .u32 x106002_1, .int .u32 x106003_1] 46 (0, 0))) ∧ (w'.heap[gb106]? = some (.cells #[.int .i64 x107000_1, .int .i64 x107001_1] 30 (0, 0))) ∧ (w'.heap[gb112]? = some (.cells #[.bool t107, .bool t108, .int .u32 t109, .int .u32 t110] 46 (0, 0))) ∧ (w'.heap[s_.2]? = some (.cells #[.int .u32 0, .int .u32 0, .int .u32 0, .slice none 0 0] 51 (0, 0))) ∧ (w.heap.size ≤ s_.2) ∧ (w.heap.size ≤ s_.2) ∧ (gb105 ≠ s_.2) ∧ (s_.2 ≠ gb105) ∧ (gb106 ≠ s_.2) ∧ (s_.2 ≠ gb106) ∧ (gb112 ≠ s_.2) ∧ (s_.2 ≠ gb112) ∧ (Below w.heap.size w w')) ?_ ?_
      rotate_left
      ·intro hCont
       refine two_ (i := 5) (j := 10) (Ni := some 32) (Nj := some 9) (bo_ 14 63) (bo_ 14 1055) rfl rfl rfl rfl (two_of HT_.out (by kernel_rfl)) (by decide) (by decide) (fun K hK => ?_) (fun K hK => ?_)
       ·skip
        refine goes_ Tryd.func62 (by kernel_rfl) rfl #[.slice A34 (l0.drop (x8_1 : Int).toNat).length (c0 - x8_1.toNat), .bool t107] (by rfl) rfl rfl (by (try simp only [List.map_toArray, List.map_cons, List.map_nil]); (rw [show (l0.drop (x8_1 : Int).toNat).length = (l0.length - x8_1.toNat) from List.length_drop] <;> rfl)) ?_
        with_reducible refine (pcap_Next.calls k1 _ _ (l0.drop (x8_1 : Int).toNat) t107 t114 t115 t116 t117 t120 t121 _ ?side1 ?side2 A14.out).mono ?_
        (case side1 => exact (Kd.C_below HR113.out HB.out))
        (case side2 => exact HC113.out)
        rintro e w35 ⟨v118, rfl, ho0, hb⟩
        refine ⟨_, rfl, ?_⟩
        have HO119 := rl_ ho0 HB
        replace HO_7 := rS_ HO_7 ho0 hb
        replace BK105 := bb_ BK105 hb
        replace BK106 := bb_ BK106 hb
        replace BK112 := bb_ BK112 hb
        replace HB := bs_ HB hb
        (try clear hb)
        (try clear ho0)
        refine hK.out _ _ ⟨bc0 BK112, bc1 BK112, bc2 BK112, bc3 BK112⟩ (fun hHeld => ?_)
        clear hK K
        refine nm_ (some 32) ?_
        refine pu_ 6 (some 26) HT_ ?_
        refine pu_ 7 (some 33) HT_ ?_
        refine pu_ 8 (some 34) HT_ ?_
        refine pu_ 9 (some 35) HT_ ?_
        refine one_ (i := 10) (N := some 9) (bo_ 14 2047) rfl rfl (one_of HT_.out (by kernel_rfl)) (by decide) (fun K hK => ?_)
        refine bst_ 9 #[.int .u32 0, .int .u32 0, .int .u32 0, .slice none 0 0] 51 ?_
        intro gb122 hg w36 hbox hb
        have BK122 := a_ hbox
        have GW122 := lb_ HB hg
        have GE122 := lb_ HB hg
        obtain ⟨NB105_122, NB122_105⟩ := nn_ BK105 hg
        obtain ⟨NB106_122, NB122_106⟩ := nn_ BK106 hg
        obtain ⟨NB112_122, NB122_112⟩ := nn_ BK112 hg
        replace HO_7 := se_ HO_7 hg hb
        replace HO119 := rb_ HO119 hb
        replace BK105 := bb_ BK105 hb
        replace BK106 := bb_ BK106 hb
        replace BK112 := bb_ BK112 hb
        replace HB := bs_ HB hb
        clear hb hbox hg
        refine hK.out _ _ ⟨bc0 BK112, bc1 BK112, bc2 BK112, bc3 BK112⟩ (fun hHeld => ?_)
        clear hK K
        refine nm_ (some 9) ?_
        exact norm_ (by simp only [putAll, Act.put, List.setIfInBounds_toArray, List.set_cons_zero, List.set_cons_succ]) (hCont (v118, gb122) _ ⟨hHeld, HO119.out, (by exact Kd.S_mono HO_7.out (fun _ hk => ⟨hk.1.2, hk.2⟩)), BK105.out, BK106.out, BK112.out, BK122.out, GW122.out, GE122.out, NB105_122.out, NB122_105.out, NB106_122.out, NB122_106.out, NB112_122.out, NB122_112.out, HB.out⟩)
       ·skip
        refine bst_ 9 #[.int .u32 0, .int .u32 0, .int .u32 0, .slice none 0 0] 51 ?_
        intro gb122 hg w35 hbox hb
        have BK122 := a_ hbox
        have GW122 := lb_ HB hg
        have GE122 := lb_ HB hg
        obtain ⟨NB105_122, NB122_105⟩ := nn_ BK105 hg
        obtain ⟨NB106_122, NB122_106⟩ := nn_ BK106 hg
        obtain ⟨NB112_122, NB122_112⟩ := nn_ BK112 hg
        replace HO_7 := se_ HO_7 hg hb
        replace BK105 := bb_ BK105 hb
        replace BK106 := bb_ BK106 hb
        replace BK112 := bb_ BK112 hb
        replace HB := bs_ HB hb
        clear hb hbox hg
        refine hK.out _ _ ⟨bc0 BK112, bc1 BK112, bc2 BK112, bc3 BK112⟩ (fun hHeld => ?_)
        clear hK K
        refine nm_ (some 9) ?_
        refine one_ (i := 5) (N := some 32) (bo_ 14 1087) rfl rfl (one_of HT_.out (by kernel_rfl)) (by decide) (fun K hK => ?_)
        refine goes_ Tryd.func62 (by kernel_rfl) rfl #[.slice A34 (l0.drop (x8_1 : Int).toNat).length (c0 - x8_1.toNat), .bool t107] (by rfl) rfl rfl (by (try simp only [List.map_toArray, List.map_cons, List.map_nil]); (rw [show (l0.drop (x8_1 : Int).toNat).length = (l0.length - x8_1.toNat) from List.length_drop] <;> rfl)) ?_
        with_reducible refine (pcap_Next.calls k1 _ _ (l0.drop (x8_1 : Int).toNat) t107 t114 t115 t116 t117 t120 t121 _ ?side1 ?side2 A14.out).mono ?_
        (case side1 => exact (Kd.C_below HR113.out HB.out))
        (case side2 => exact HC113.out)
        rintro e w36 ⟨v118, rfl, ho0, hb⟩
        refine ⟨_, rfl, ?_⟩
        have HO119 := rl_ ho0 HB
        replace HO_7 := rS_ HO_7 ho0 hb
        replace BK105 := bb_ BK105 hb
        replace BK106 := bb_ BK106 hb
        replace BK112 := bb_ BK112 hb
        replace BK122 := bb_ BK122 hb
        replace HB := bs_ HB hb
        (try clear hb)
        (try clear ho0)
        refine hK.out _ _ ⟨bc0 BK112, bc1 BK112, bc2 BK112, bc3 BK112⟩ (fun hHeld => ?_)
        clear hK K
        refine nm_ (some 32) ?_
        refine pu_ 6 (some 26) HT_ ?_
        refine pu_ 7 (some 33) HT_ ?_
        refine pu_ 8 (some 34) HT_ ?_
        refine pu_ 9 (some 35) HT_ ?_
        exact norm_ (by simp only [putAll, Act.put, List.setIfInBounds_toArray, List.set_cons_zero, List.set_cons_succ]) (hCont (v118, gb122) _ ⟨hHeld, HO119.out, (by exact Kd.S_mono HO_7.out (fun _ hk => ⟨hk.2, hk.1.2⟩)), BK105.out, BK106.out, BK112.out, BK122.out, GW122.out, GE122.out, NB105_122.out, NB122_105.out, NB106_122.out, NB122_106.out, NB112_122.out, NB122_112.out, HB.out⟩)
      rintro ⟨v118, gb122⟩ w37 ⟨hS_, h0_, h1_, h2_, h3_, h4_, h5_, h6_, h7_, h8_, h9_, h10_, h11_, h12_, h13_, h14_⟩
      have n0_ : Aside0 (Kd.R (Kd.int .u8) 5 w37 w.heap.size (fun _ => True) v118 t117) := ⟨h0_⟩
      have n1_ : Aside0 (Kd.S k51 51 w37 w.heap.size (fun k_ => some k_ ≠ (v118 : Value).ownBlock ∧ k_ ≠ gb122) u7 x7_1) := ⟨h1_⟩
      have n2_ : Aside0 (w37.heap[gb105]? = some (.cells #[.bool x106000_1, .bool x106001_1, .int .u32 x106002_1, .int .u32 x106003_1] 46 (0, 0))) := ⟨h2_⟩
      have n3_ : Aside0 (w37.heap[gb106]? = some (.cells #[.int .i64 x107000_1, .int .i64 x107001_1] 30 (0, 0))) := ⟨h3_⟩
      have n4_ : Aside0 (w37.heap[gb112]? = some (.cells #[.bool t107, .bool t108, .int .u32 t109, .int .u32 t110] 46 (0, 0))) := ⟨h4_⟩
      have n5_ : Aside0 (w37.heap[gb122]? = some (.cells #[.int .u32 0, .int .u32 0, .int .u32 0, .slice none 0 0] 51 (0, 0))) := ⟨h5_⟩
      have n6_ : Aside0 (w.heap.size ≤ gb122) := ⟨h6_⟩
      have n7_ : Aside0 (w.heap.size ≤ gb122) := ⟨h7_⟩
      have n8_ : Aside0 (gb105 ≠ gb122) := ⟨h8_⟩
      have n9_ : Aside0 (gb122 ≠ gb105) := ⟨h9_⟩
      have n10_ : Aside0 (gb106 ≠ gb122) := ⟨h10_⟩
      have n11_ : Aside0 (gb122 ≠ gb106) := ⟨h11_⟩
      have n12_ : Aside0 (gb112 ≠ gb122) := ⟨h12_⟩
      have n13_ : Aside0 (gb122 ≠ gb112) := ⟨h13_⟩
      have n14_ : Aside0 (Below w.heap.size w w37) := ⟨h14_⟩
      clear HO_7
      clear BK105
      clear BK106
      clear BK112
      clear HB
      clear h0_ h1_ h2_ h3_ h4_ h5_ h6_ h7_ h8_ h9_ h10_ h11_ h12_ h13_ h14_
      have HO119 := n0_
      have HO_7 := n1_
      have BK105 := n2_
      have BK106 := n3_
      have BK112 := n4_
      have BK122 := n5_
      have GW122 := n6_
      have GE122 := n7_
      have NB105_122 := n8_
      have NB122_105 := n9_
      have NB106_122 := n10_
      have NB122_106 := n11_
      have NB112_122 := n12_
      have NB122_112 := n13_
      have HB := n14_
      clear n0_ n1_ n2_ n3_ n4_ n5_ n6_ n7_ n8_ n9_ n10_ n11_ n12_ n13_ n14_
      have hHeld : w37.cell? ⟨gb112, 0, none⟩ = some (.bool t107) ∧ w37.cell? ⟨gb112, 1, none⟩ = some (.bool t108) ∧ w37.cell? ⟨gb112, 2, none⟩ = some (.int .u32 t109) ∧ w37.cell? ⟨gb112, 3, none⟩ = some (.int .u32 t110) := hS_
      obtain ⟨Ao41, co41, eo41⟩ := Kd.R_slice HO119.out
      subst eo41
      refine norm_ (a' := ?_) ?_ ?_
      rotate_left
      ·simp only [putAll, Act.put, List.setIfInBounds_toArray, List.set_cons_zero, List.set_cons_succ]
       rfl
      refine one_ (i := 11) (N := none) (bo_ 14 4095) rfl rfl (one_of HT_.out (by kernel_rfl)) (by decide) (fun K hK => ?_)
      have hs38 := bc0 BK122
      have hfs38 := blk_frozen BK122.out 0
      have hns38_0 := NB105_122.out
      have hns38_1 := NB106_122.out
      have hns38_2 := NB112_122.out
      have hms38_0 := NB122_105.out
      have hms38_1 := NB122_106.out
      have hms38_2 := NB122_112.out
      have hs39 := bc1 BK122
      have hfs39 := blk_frozen BK122.out 1
      have hns39_0 := NB105_122.out
      have hns39_1 := NB106_122.out
      have hns39_2 := NB112_122.out
      have hms39_0 := NB122_105.out
      have hms39_1 := NB122_106.out
      have hms39_2 := NB122_112.out
      have hs40 := bc2 BK122
      have hfs40 := blk_frozen BK122.out 2
      have hns40_0 := NB105_122.out
      have hns40_1 := NB106_122.out
      have hns40_2 := NB112_122.out
      have hms40_0 := NB122_105.out
      have hms40_1 := NB122_106.out
      have hms40_2 := NB122_112.out
      have hs42 := bc3 BK122
      have hfs42 := blk_frozen BK122.out 3
      have hns42_0 := NB105_122.out
      have hns42_1 := NB106_122.out
      have hns42_2 := NB112_122.out
      have hms42_0 := NB122_105.out
      have hms42_1 := NB122_106.out
      have hms42_2 := NB122_112.out
      refine skip_ (w1 := ?_) (by rfl) rfl ?_ ?_
      rotate_left
      ·go_simp
       rfl
      refine hK.out _ _ ⟨((cell_far (p := ⟨gb122, _, none⟩) NB112_122.out _).trans (((cell_far (p := ⟨gb122, _, none⟩) NB112_122.out _).trans (((cell_far (p := ⟨gb122, _, none⟩) NB112_122.out _).trans (((cell_far (p := ⟨gb122, _, none⟩) NB112_122.out _).trans (hHeld.1)))))))), ((cell_far (p := ⟨gb122, _, none⟩) NB112_122.out _).trans (((cell_far (p := ⟨gb122, _, none⟩) NB112_122.out _).trans (((cell_far (p := ⟨gb122, _, none⟩) NB112_122.out _).trans (((cell_far (p := ⟨gb122, _, none⟩) NB112_122.out _).trans (hHeld.2.1)))))))), ((cell_far (p := ⟨gb122, _, none⟩) NB112_122.out _).trans (((cell_far (p := ⟨gb122, _, none⟩) NB112_122.out _).trans (((cell_far (p := ⟨gb122, _, none⟩) NB112_122.out _).trans (((cell_far (p := ⟨gb122, _, none⟩) NB112_122.out _).trans (hHeld.2.2.1)))))))), ((cell_far (p := ⟨gb122, _, none⟩) NB112_122.out _).trans (((cell_far (p := ⟨gb122, _, none⟩) NB112_122.out _).trans (((cell_far (p := ⟨gb122, _, none⟩) NB112_122.out _).trans (((cell_far (p := ⟨gb122, _, none⟩) NB112_122.out _).trans (hHeld.2.2.2))))))))⟩ (fun hHeld => ?_)
      clear hK K
      refine pu_ 12 (some 10) HT_ ?_
      refine pu_ 13 (some 11) HT_ ?_
      refine done_ (done_of HT_.out (by kernel_rfl)) ?_
      have hnb43 := NB112_105.out
      have hnc43 := NB105_112.out
      have hnb44 := NB112_106.out
      have hnc44 := NB106_112.out
      have hnb45 := NB112_122.out
      have hnc45 := NB122_112.out
      obtain ⟨hcz46_0, hcz46_1, hcz46_2, hcz46_3, hfz46_0, hfz46_1, hfz46_2, hfz46_3⟩ := blk4 BK112.out
      have hnb47 := NB105_106.out
      have hnc47 := NB106_105.out
      have hnb48 := NB105_122.out
      have hnc48 := NB122_105.out
      obtain ⟨hcz49_0, hcz49_1, hcz49_2, hcz49_3, hfz49_0, hfz49_1, hfz49_2, hfz49_3⟩ := blk4 BK105.out
      have hnb50 := NB106_122.out
      have hnc50 := NB122_106.out
      obtain ⟨hcz51_0, hcz51_1, hfz51_0, hfz51_1⟩ := blk2 BK106.out
      try go_wp2
      refine bodyPost_ret (results_list (rs := [.cell 2 46, .tmp 3, .cell 4 30]) rfl (by simp) (.cell gb105 46 #[.bool t107, .bool t108, .int .u32 t109, .int .u32 t110] (0, 0) _ rfl (by refine blk_far ?_ NB105_106.out _; refine blk_far ?_ NB105_106.out _; refine blk_put (cs := #[.bool t107, .bool t108, .int .u32 t109, .int .u32 x106003_1]) ?_ 3 _ rfl; refine blk_put (cs := #[.bool t107, .bool t108, .int .u32 x106002_1, .int .u32 x106003_1]) ?_ 2 _ rfl; refine blk_put (cs := #[.bool t107, .bool x106001_1, .int .u32 x106002_1, .int .u32 x106003_1]) ?_ 1 _ rfl; refine blk_put (cs := #[.bool x106000_1, .bool x106001_1, .int .u32 x106002_1, .int .u32 x106003_1]) ?_ 0 _ rfl; refine blk_far ?_ NB105_122.out _; refine blk_far ?_ NB105_122.out _; refine blk_far ?_ NB105_122.out _; refine blk_far ?_ NB105_122.out _; exact BK105.out) Tryd.underlying46 rfl (by kernel_rfl) (.tmp (.cell gb106 30 #[.int .i64 x8_1, .int .i64 t121] (0, 0) _ rfl (by refine blk_put (cs := #[.int .i64 x8_1, .int .i64 x107001_1]) ?_ 1 _ rfl; refine blk_put (cs := #[.int .i64 x107000_1, .int .i64 x107001_1]) ?_ 0 _ rfl; refine blk_far ?_ NB106_105.out _; refine blk_far ?_ NB106_105.out _; refine blk_far ?_ NB106_105.out _; refine blk_far ?_ NB106_105.out _; refine blk_far ?_ NB106_122.out _; refine blk_far ?_ NB106_122.out _; refine blk_far ?_ NB106_122.out _; refine blk_far ?_ NB106_122.out _; exact BK106.out) Tryd.underlying30 rfl (by kernel_rfl) .nil)))) rfl ?_
      exact ⟨_, by (rfl), by exact Kd.S_mono (Kd.S_far (p := ⟨gb106, 1, none⟩) (Kd.S_far (p := ⟨gb106, 0, none⟩) (Kd.S_far (p := ⟨gb105, 3, none⟩) (Kd.S_far (p := ⟨gb105, 2, none⟩) (Kd.S_far (p := ⟨gb105, 1, none⟩) (Kd.S_far (p := ⟨gb105, 0, none⟩) (Kd.S_far (p := ⟨gb122, 3, none⟩) (Kd.S_far (p := ⟨gb122, 2, none⟩) (Kd.S_far (p := ⟨gb122, 1, none⟩) (Kd.S_far (p := ⟨gb122, 0, none⟩) (Kd.S_types (Kd.S_types (Kd.S_mono HO_7.out (fun k_ hk => (⟨hk, hk.2⟩ : _ ∧ k_ ≠ gb122))) BK105.out (by decide)) BK106.out (by decide)) (fun _ hk => hk.1.1.2) (.int .u32 t114)) (fun _ hk => hk.1.1.2) (.int .u32 t115)) (fun _ hk => hk.1.1.2) (.int .u32 t116)) (fun _ hk => hk.1.1.2) (.slice Ao41 t117.length co41)) (fun _ hk => hk.1.2) (.bool t107)) (fun _ hk => hk.1.2) (.bool t108)) (fun _ hk => hk.1.2) (.int .u32 t109)) (fun _ hk => hk.1.2) (.int .u32 t110)) (fun _ hk => hk.2) (.int .i64 x8_1)) (fun _ hk => hk.2) (.int .i64 t121)) (fun _ hk => trivial), by repeat (with_reducible first | exact HB.out | refine below_set ?_ GE105.out | refine below_set ?_ GE106.out | refine below_set ?_ GE122.out)⟩
    ·rw [if_neg c11] at H
     have c11b0 := decide_eq_false c11
     clear c11
     obtain ⟨rfl, rfl, rfl, rfl, rfl, rfl, rfl⟩ := s7_ H
     have hnb52 := NB112_105.out
     have hnc52 := NB105_112.out
     have hnb53 := NB112_106.out
     have hnc53 := NB106_112.out
     obtain ⟨hcz54_0, hcz54_1, hcz54_2, hcz54_3, hfz54_0, hfz54_1, hfz54_2, hfz54_3⟩ := blk4 BK112.out
     have hnb55 := NB105_106.out
     have hnc55 := NB106_105.out
     obtain ⟨hcz56_0, hcz56_1, hcz56_2, hcz56_3, hfz56_0, hfz56_1, hfz56_2, hfz56_3⟩ := blk4 BK105.out
     obtain ⟨hcz57_0, hcz57_1, hfz57_0, hfz57_1⟩ := blk2 BK106.out
     go_wp2
     refine bodyPost_ret (results_list (rs := [.cell 2 46, .tmp 3, .cell 4 30]) rfl (by simp) (.cell gb105 46 #[.bool t107, .bool t108, .int .u32 t109, .int .u32 t110] (0, 0) _ rfl (by refine blk_far ?_ NB105_106.out _; refine blk_far ?_ NB105_106.out _; refine blk_put (cs := #[.bool t107, .bool t108, .int .u32 t109, .int .u32 x106003_1]) ?_ 3 _ rfl; refine blk_put (cs := #[.bool t107, .bool t108, .int .u32 x106002_1, .int .u32 x106003_1]) ?_ 2 _ rfl; refine blk_put (cs := #[.bool t107, .bool x106001_1, .int .u32 x106002_1, .int .u32 x106003_1]) ?_ 1 _ rfl; refine blk_put (cs := #[.bool x106000_1, .bool x106001_1, .int .u32 x106002_1, .int .u32 x106003_1]) ?_ 0 _ rfl; exact BK105.out) Tryd.underlying46 rfl (by kernel_rfl) (.tmp (.cell gb106 30 #[.int .i64 0, .int .i64 0] (0, 0) _ rfl (by refine blk_put (cs := #[.int .i64 0, .int .i64 x107001_1]) ?_ 1 _ rfl; refine blk_put (cs := #[.int .i64 x107000_1, .int .i64 x107001_1]) ?_ 0 _ rfl; refine blk_far ?_ NB106_105.out _; refine blk_far ?_ NB106_105.out _; refine blk_far ?_ NB106_105.out _; refine blk_far ?_ NB106_105.out _; exact BK106.out) Tryd.underlying30 rfl (by kernel_rfl) .nil)))) rfl ?_
     exact ⟨_, by (rfl), by exact Kd.S_mono (Kd.S_far (p := ⟨gb106, 1, none⟩) (Kd.S_far (p := ⟨gb106, 0, none⟩) (Kd.S_far (p := ⟨gb105, 3, none⟩) (Kd.S_far (p := ⟨gb105, 2, none⟩) (Kd.S_far (p := ⟨gb105, 1, none⟩) (Kd.S_far (p := ⟨gb105, 0, none⟩) (Kd.S_types (Kd.S_types HO_7.out BK105.out (by decide)) BK106.out (by decide)) (fun _ hk => hk.1.2) (.bool t107)) (fun _ hk => hk.1.2) (.bool t108)) (fun _ hk => hk.1.2) (.int .u32 t109)) (fun _ hk => hk.1.2) (.int .u32 t110)) (fun _ hk => hk.2) (.int .i64 0)) (fun _ hk => hk.2) (.int .i64 0)) (fun _ hk => trivial), by repeat (with_reducible first | exact HB.out | refine below_set ?_ GE105.out | refine below_set ?_ GE106.out)⟩
 ·rw [if_neg c3] at H
  have c3b0 := beq_eq_false_iff_ne.mpr c3
  have c3b1 := bne_iff_ne.mpr c3
  obtain ⟨rfl, rfl, rfl, rfl, rfl, rfl, rfl⟩ := s7_ H
  go_enter Tryd.func42, Tryd.ntmps42
  go_wp2_with (first | (refine be_ 2 #[.bool false, .bool false, .int .u32 0, .int .u32 0] 46 ?_; intro gb105 hg w58 hbox hb; have BK105 := a_ hbox; have GW105 := lb_ HB hg; have GE105 := lb_ HB hg; replace HB := bs_ HB hb; clear hb hbox hg) | (refine be_ 4 #[.int .i64 0, .int .i64 0] 30 ?_; intro gb106 hg w59 hbox hb; have BK106 := a_ hbox; have GW106 := lb_ HB hg; have GE106 := lb_ HB hg; obtain ⟨NB105_106, NB106_105⟩ := nn_ BK105 hg; replace BK105 := bb_ BK105 hb; replace HB := bs_ HB hb; clear hb hbox hg) | (refine gl_ (some 14) Tryd.func61 #[.slice A0 l0.length c0] ?_; (with_reducible refine (pcap_Head.calls k _ _ l0 t107 t108 t109 t110 t111 _ (Kd.C_below HR0.out HB.out) HC0.out A2.out).mono ?_); rintro e w60 ⟨rfl, hb⟩; refine ⟨_, rfl, ?_⟩; replace BK105 := bb_ BK105 hb; replace BK106 := bb_ BK106 hb; replace HB := bs_ HB hb; (try clear hb)) | (refine be_ 5 #[.bool false, .bool false, .int .u32 0, .int .u32 0] 46 ?_; intro gb112 hg w61 hbox hb; have BK112 := a_ hbox; have GW112 := lb_ HB hg; have GE112 := lb_ HB hg; obtain ⟨NB105_112, NB112_105⟩ := nn_ BK105 hg; obtain ⟨NB106_112, NB112_106⟩ := nn_ BK106 hg; replace BK105 := bb_ BK105 hb; replace BK106 := bb_ BK106 hb; replace HB := bs_ HB hb; clear hb hbox hg; have hnb62 := NB112_105.out; have hnc62 := NB105_112.out; have hnb63 := NB112_106.out; have hnc63 := NB106_112.out; obtain ⟨hcz64_0, hcz64_1, hcz64_2, hcz64_3, hfz64_0, hfz64_1, hfz64_2, hfz64_3⟩ := blk4 BK112.out; have hnb65 := NB105_106.out; have hnc65 := NB106_105.out; obtain ⟨hcz66_0, hcz66_1, hcz66_2, hcz66_3, hfz66_0, hfz66_1, hfz66_2, hfz66_3⟩ := blk4 BK105.out; obtain ⟨hcz67_0, hcz67_1, hfz67_0, hfz67_1⟩ := blk2 BK106.out))
  refine bodyPost_ret (results_list (rs := [.cell 2 46, .tmp 3, .cell 4 30]) rfl (by simp) (.cell gb105 46 #[.bool false, .bool false, .int .u32 0, .int .u32 0] (0, 0) _ rfl (by refine blk_far ?_ NB105_106.out _; refine blk_far ?_ NB105_106.out _; refine blk_put (cs := #[.bool false, .bool false, .int .u32 0, .int .u32 0]) ?_ 3 _ rfl; refine blk_put (cs := #[.bool false, .bool false, .int .u32 0, .int .u32 0]) ?_ 2 _ rfl; refine blk_put (cs := #[.bool false, .bool false, .int .u32 0, .int .u32 0]) ?_ 1 _ rfl; refine blk_put (cs := #[.bool false, .bool false, .int .u32 0, .int .u32 0]) ?_ 0 _ rfl; refine blk_far ?_ NB105_112.out _; refine blk_far ?_ NB105_112.out _; refine blk_far ?_ NB105_112.out _; refine blk_far ?_ NB105_112.out _; exact BK105.out) Tryd.underlying46 rfl (by kernel_rfl) (.tmp (.cell gb106 30 #[.int .i64 0, .int .i64 t111] (0, 0) _ rfl (by refine blk_put (cs := #[.int .i64 0, .int .i64 0]) ?_ 1 _ rfl; refine blk_put (cs := #[.int .i64 0, .int .i64 0]) ?_ 0 _ rfl; refine blk_far ?_ NB106_105.out _; refine blk_far ?_ NB106_105.out _; refine blk_far ?_ NB106_105.out _; refine blk_far ?_ NB106_105.out _; refine blk_far ?_ NB106_112.out _; refine blk_far ?_ NB106_112.out _; refine blk_far ?_ NB106_112.out _; refine blk_far ?_ NB106_112.out _; exact BK106.out) Tryd.underlying30 rfl (by kernel_rfl) .nil)))) rfl ?_
  exact ⟨_, by (rfl), by (exact Kd.S_nil _ _ _ _ _), by repeat (with_reducible first | exact HB.out | refine below_set ?_ GE105.out | refine below_set ?_ GE106.out | refine below_set ?_ GE112.out)⟩

end Go.Proofs.YtgnonglkibhnhaaDoor.Print
