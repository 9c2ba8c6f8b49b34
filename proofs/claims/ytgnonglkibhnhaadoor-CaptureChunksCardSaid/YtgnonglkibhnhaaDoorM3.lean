-- laid together by this session's own program (wip/tools/merge.py) of texts that its program laid
import Derived.Test.YtgnonglkibhnhaaDoorZ
import Derived.Test.YtgnonglkibhnhaaDoorF81
import Derived.Test.YtgnonglkibhnhaaDoorM1
import Derived.Test.YtgnonglkibhnhaaDoorF64
import Derived.Test.YtgnonglkibhnhaaDoorM2
namespace Go.Proofs.YtgnonglkibhnhaaDoor.Print
open Go.RowKit Go.Proofs.YtgnonglkibhnhaaDoorW.PrintWords Go.Proofs.YtgnonglkibhnhaaDoorW.PrintLast Go.Proofs.YtgnonglkibhnhaaDoorW.PrintMore
attribute [local go_sem] max2_int min2_int max_two min_two max_three min_three max_four min_four
set_option linter.unusedVariables false
set_option linter.unusedSimpArgs false
set_option maxHeartbeats 16000000
set_option maxRecDepth 100000
def head_Body.f (k : Nat) (l0 : List Int) : Option (Int × List Int × Int) := (head_Read.f k l0).bind fun bt144 => (if bt144.2.2 = 0 then ((octet_Behind.f l0 bt144.2.1).bind fun t148 => (some (bt144.1, t148, 0))) else (some (0, ([] : List Int), bt144.2.2)))
def head_Body.T4 : Bool × List (List Nat × List Nat) := (true, [([], []), ([0], [0]), ([], []), ([], []), ([3], [3]), ([2, 4], [2, 4]), ([1, 5, 0, 1], [1]), ([5, 6, 0, 1, 2, 3, 4, 5, 6], [5]), ([7, 0, 1, 2, 3, 4, 5, 6, 7], [])])
def head_Body.B4 : List Nat := [0, 1, 0, 0, 8, 28, 63, 127, 255]
theorem head_Body.tab4 : rtab .any (opsOf Tryd.f63 4) = head_Body.T4 := by kernel_rfl
theorem head_Body.bits4 : waitsOk head_Body.T4.2 head_Body.B4 = true := by kernel_rfl
theorem head_Body.calls (k : Nat) (A0 : Option Addr) (c0 : Nat) (l0 : List Int) (r1 : Int) (r2 : List Int) (r3 : Int) (w : World) (hr0 : Kd.C (Kd.int .u8) w A0 l0.length l0) (hc0 : l0.length ≤ c0) (h : head_Body.f k l0 = some (r1, r2, r3)) :
  Calls Tryd.prog 63 #[.slice A0 l0.length c0] w fun e w' => ∃ v1_ : Value, e = .returned (.tuple #[.int .i64 r1, v1_, .int .i64 r3]) ∧ Kd.R (Kd.int .u8) 5 w' w.heap.size (fun _ => True) v1_ r2 ∧ Below w.heap.size w w' := by
 have hu122 := Tryd.underlying122
 have HR0 := a_ hr0
 have HC0 := a_ hc0
 clear hr0 hc0
 have HB := a_ (Below.refl w.heap.size w)
 have H := h
 clear h
 unfold head_Body.f at H
 replace H := Option.bind_eq_some_iff.mp H
 obtain ⟨⟨t144, t145, t146⟩, A20, H⟩ := H
 try dsimp only at H
 have A2 := a_ A20
 clear A20
 by_cases c3 : t146 = 0
 ·rw [if_pos c3] at H
  obtain ⟨c3b0, c3b1⟩ := bt_ c3
  replace H := Option.bind_eq_some_iff.mp H
  obtain ⟨t148, A40, H⟩ := H
  try dsimp only at H
  have A4 := a_ A40
  clear A40
  obtain ⟨rfl, rfl, rfl⟩ := s3_ H
  go_enter Tryd.func63, Tryd.ntmps63
  try go_wp2_with (first | (refine gl_ (some 9) Tryd.func81 #[.slice A0 l0.length c0] ?_; (with_reducible refine (head_Read.calls k _ _ l0 t144 t145 t146 _ HR0.out HC0.out A2.out).mono ?_); rintro e w5 ⟨rfl, hb⟩; refine ⟨_, rfl, ?_⟩; replace HB := bs_ HB hb; (try clear hb)) | (refine be_ 5 #[.int .i64 0, .int .i64 0] 122 ?_; intro gb147 hg w6 hbox hb; have BK147 := a_ hbox; have GE147 := lb_ HB hg; replace HB := bs_ HB hb; clear hb hbox hg; obtain ⟨hcz7_0, hcz7_1, hfz7_0, hfz7_1⟩ := blk2 BK147.out))
  have n0_ : Aside0 (((w6.setCell ⟨gb147, 0, none⟩ (.int .i64 t144)).setCell ⟨gb147, 1, none⟩ (.int .i64 t145)).heap[gb147]? = some (.cells #[.int .i64 t144, .int .i64 t145] 122 (0, 0))) := ⟨by refine blk_put (cs := #[.int .i64 t144, .int .i64 0]) ?_ 1 _ rfl; refine blk_put (cs := #[.int .i64 0, .int .i64 0]) ?_ 0 _ rfl; exact BK147.out⟩
  have n1_ : Aside0 (Below w.heap.size w ((w6.setCell ⟨gb147, 0, none⟩ (.int .i64 t144)).setCell ⟨gb147, 1, none⟩ (.int .i64 t145))) := ⟨by repeat (with_reducible first | exact HB.out | refine below_set ?_ GE147.out)⟩
  (try clear BK147)
  (try clear HB)
  generalize ((w6.setCell ⟨gb147, 0, none⟩ (.int .i64 t144)).setCell ⟨gb147, 1, none⟩ (.int .i64 t145)) = w8 at n0_ n1_ ⊢
  have BK147 := n0_
  have HB := n1_
  clear n0_ n1_
  replace BK147 := a_ (blk_drew BK147.out)
  replace HB := a_ (below_drew1 HB.out)
  refine start_ (n := 9) (S := fun w' => w'.cell? ⟨gb147, 0, none⟩ = some (.int .i64 t144) ∧ w'.cell? ⟨gb147, 1, none⟩ = some (.int .i64 t145)) (ds := []) (bo_ 9 0) (by kernel_rfl) rfl rfl ⟨bc0 BK147, bc1 BK147⟩ (fun hHeld => ?_); refine with_tabW head_Body.tab4 head_Body.bits4 (fun HT_ HW_ => ?_)
  generalize w8.drew = w9 at BK147 HB hHeld ⊢
  refine pu_ 0 (some 15) HT_ ?_
  refine pu_ 2 (some 17) HT_ ?_
  refine pu_ 3 (some 18) HT_ ?_
  refine take_ (i := 1) (N := some 16) (v := ?_) (a' := ?_) (bo_ 9 15) rfl rfl (take_ofW HT_.out HW_.out (by kernel_rfl)) (fun _ _ _ h => h) (Or.inl ⟨by rfl, ?_⟩) hHeld ?_ ?_
  rotate_left
  ·rintro w' ⟨s0, s1⟩
   go_simp
   with_reducible rfl
  rotate_left
  ·simp only [Act.put, List.setIfInBounds_toArray, List.set_cons_zero, List.set_cons_succ, i64_w, i32_w]
   rfl
  refine take_ (i := 4) (N := some 19) (v := ?_) (a' := ?_) (bo_ 9 31) rfl rfl (take_ofW HT_.out HW_.out (by kernel_rfl)) (fun _ _ _ h => h) (Or.inl ⟨by rfl, ?_⟩) hHeld ?_ ?_
  rotate_left
  ·rintro w' ⟨s0, s1⟩
   go_simp
   with_reducible rfl
  rotate_left
  ·simp only [Act.put, List.setIfInBounds_toArray, List.set_cons_zero, List.set_cons_succ, i64_w, i32_w]
   rfl
  refine one_ (i := 5) (N := some 20) (bo_ 9 63) rfl rfl (one_of HT_.out (by kernel_rfl)) (by decide) (fun K hK => ?_)
  refine goes_ Tryd.func82 (by kernel_rfl) rfl #[.slice A0 l0.length c0, .int .i64 t145] (by rfl) rfl rfl (by (try simp only [List.map_toArray, List.map_cons, List.map_nil]); (rfl)) ?_
  with_reducible refine (octet_Behind.calls _ _ l0 t145 t148 _ ?side1 ?side2 A4.out).mono ?_
  (case side1 => exact (Kd.C_below HR0.out HB.out))
  (case side2 => exact HC0.out)
  rintro e w10 ⟨v149, rfl, ho0, hb⟩
  refine ⟨_, rfl, ?_⟩
  have HO150 := rl_ ho0 HB
  replace BK147 := bb_ BK147 hb
  replace HB := bs_ HB hb
  (try clear hb)
  (try clear ho0)
  refine hK.out _ _ ⟨bc0 BK147, bc1 BK147⟩ (fun hHeld => ?_)
  clear hK K
  refine nm_ (some 20) ?_
  refine pu_ 6 (some 2) HT_ ?_
  refine pu_ 7 (some 3) HT_ ?_
  refine pu_ 8 (some 4) HT_ ?_
  refine done_ (done_of HT_.out (by kernel_rfl)) ?_
  try go_wp2
  go_ret3
  exact ⟨_, by (rfl), by exact HO150.out, by exact HB.out⟩
 ·rw [if_neg c3] at H
  have c3b0 := beq_eq_false_iff_ne.mpr c3
  have c3b1 := bne_iff_ne.mpr c3
  obtain ⟨rfl, rfl, rfl⟩ := s3_ H
  go_enter Tryd.func63, Tryd.ntmps63
  go_wp2_with (first | (refine gl_ (some 9) Tryd.func81 #[.slice A0 l0.length c0] ?_; (with_reducible refine (head_Read.calls k _ _ l0 t144 t145 t146 _ HR0.out HC0.out A2.out).mono ?_); rintro e w11 ⟨rfl, hb⟩; refine ⟨_, rfl, ?_⟩; replace HB := bs_ HB hb; (try clear hb)) | (refine be_ 5 #[.int .i64 0, .int .i64 0] 122 ?_; intro gb147 hg w12 hbox hb; have BK147 := a_ hbox; have GE147 := lb_ HB hg; replace HB := bs_ HB hb; clear hb hbox hg; obtain ⟨hcz13_0, hcz13_1, hfz13_0, hfz13_1⟩ := blk2 BK147.out))
  go_ret3
  exact ⟨_, by (rfl), by (exact Kd.R_nil _ _ _ _ _), by repeat (with_reducible first | exact HB.out | refine below_set ?_ GE147.out)⟩
def capture_item.f (k : Nat) (l0 : List S42) (a1 : Int) (l2 : List Int) : Option (List S42) := (head_Body.f k l2).bind fun t => if t.2.2 = 0 then (if l0.length < 3518437208883 then some (l0 ++ [(⟨a1, t.1, t.2.1⟩ : S42)]) else none) else some l0
structure Longer (W W' : World) (base : Nat) (ok : Nat → Prop) (v v' : Value) (r : List S42) : Prop where
 row : Kd.S k42 42 W' base ok v' r
 grown : W.grownBy W' v.ownBlock
 at_ : v'.ownBlock = v.ownBlock ∨ ∃ b, v'.ownBlock = some b ∧ W.heap.size ≤ b
theorem capture_item.calls (k : Nat) (base : Nat) (ok : Nat → Prop) (v : Value) (l0 : List S42) (a1 : Int) (A2 : Option Addr) (c2 : Nat) (l2 : List Int) (r : List S42) (W : World) (hS : Kd.S k42 42 W base ok v l0) (hf : ∀ k, W.heap.size ≤ k → ok k) (hb : base ≤ W.heap.size) (hr2 : Kd.C (Kd.int .u8) W A2 l2.length l2) (hc2 : l2.length ≤ c2) (h : capture_item.f k l0 a1 l2 = some r) :
  Calls Tryd.prog 43 #[v, .int .i64 a1, .slice A2 l2.length c2] W fun e W' => ∃ v', e = .returned v' ∧ Aside0 (Longer W W' base ok v v' r) ∧ Aside0 (Below base W W') := by
 obtain ⟨⟨t0, t1, t2⟩, ht, h⟩ := Option.bind_eq_some_iff.1 h
 have HT := a_ ht
 have HS := a_ hS
 have HF := a_ hf
 have HB := a_ hb
 have HR2 := a_ hr2
 have HC2 := a_ hc2
 have HLT := a_ (Kd.S_lt hS)
 obtain ⟨A0, c0, rfl⟩ := Kd.S_slice hS
 clear hS hf hb hr2 hc2 ht
 by_cases hw : t2 = 0
 ·subst hw
  rw [if_pos rfl] at h
  by_cases hl : l0.length < 3518437208883
  ·rw [if_pos hl] at h
   obtain rfl := Option.some.inj h
   have HL := a_ hl
   clear h hl
   go_enter Tryd.func43, Tryd.ntmps43
   go_wp2_with (fail)
   refine (head_Body.calls k A2 c2 l2 t0 t1 0 _ HR2.out HC2.out HT.out).mono ?_
   rintro e w1 ⟨v1, rfl, ho, hb1⟩
   obtain ⟨A1, c1, rfl⟩ := Kd.R_slice ho
   have HO := a_ ho
   have HB1 := a_ hb1
   have S1 := a_ (Kd.S_old HS.out hb1)
   clear ho hb1
   go_wp2_with (((with_reducible refine gate_builtin (b := .append) (xs := #[.tmp 19, .tmp 24]) rfl ?_); at_builtin; refine Kd.S_append k42 (w0 := w1) base rfl (.tmp 19) (.tmp 24) 27 42 (.agg #[(.int .i64 0), (.int .i64 0), (.slice none 0 0)]) 40 rfl Tryd.underlying27 info42 rfl (by decide) (by omega) (.slice A0 l0.length c0) l0 (⟨a1, t0, t1⟩ : S42) [.int .i64 a1, .int .i64 t0, .slice A1 t1.length c1] ok (fun k_ => some k_ = (.slice A1 t1.length c1 : Value).ownBlock) rfl rfl ?aP ?aK ?aF ?aO ?aB ?aS ?aL ?_; (case aP => exact k42_mkM _ _ _ (⟨a1, t0, t1⟩ : S42) (Kd.R_tight rfl (Kd.R_lower HO.out HB.out))); (case aK => exact fun k_ hk => ⟨HF.out k_ (Kd.R_base HO.out k_ hk.symm), fun e_ => by have h1 := Kd.R_base HO.out k_ hk.symm; have h2 := HLT.out k_ e_.symm; omega⟩); (case aF => exact fun k_ hk => HF.out k_ (Nat.le_trans HB1.out.size hk)); (case aO => exact Kd.S_mono S1.out (fun k_ hk => ⟨hk.1, fun e_ => by have h1 := Kd.R_base HO.out k_ e_.symm; have h2 := hk.2; omega⟩)); (case aB => exact Below.refl _ _); (case aS => exact Nat.le_trans HB.out HB1.out.size); (case aL => have := HL.out; omega); intro v5 w5 ho hb5 hg hat; have HO5 := a_ ho; have HB5 := a_ hb5; have HG5 := a_ hg; have HA5 := a_ hat; clear ho hb5 hg hat))
   go_ret
   refine ⟨_, rfl, ⟨HO5.out, ?_, ?_⟩, ⟨(HB1.out.mono HB.out).trans HB5.out⟩⟩
   ·exact (grown_of_below HB1.out _).trans HG5.out
   ·rcases HA5.out with h | ⟨b, h, hle⟩
    ·exact .inl h
    ·exact .inr ⟨b, h, Nat.le_trans HB1.out.size hle⟩
  ·rw [if_neg hl] at h
   cases h
 ·rw [if_neg hw] at h
  obtain rfl := Option.some.inj h
  have e1 : (t2 != 0) = true := by simpa using hw
  have e2 : decide (t2 = 0) = false := by simpa using hw
  have e3 : (t2 == 0) = false := by simpa using hw
  clear h
  go_enter Tryd.func43, Tryd.ntmps43
  go_wp2_with (fail)
  refine (head_Body.calls k A2 c2 l2 t0 t1 t2 _ HR2.out HC2.out HT.out).mono ?_
  rintro e w1 ⟨v1, rfl, ho, hb1⟩
  obtain ⟨A1, c1, rfl⟩ := Kd.R_slice ho
  have HB1 := a_ hb1
  clear ho hb1
  go_wp2
  go_ret
  exact ⟨_, rfl, ⟨Kd.S_below HS.out HB1.out, grown_of_below HB1.out _, .inl rfl⟩, ⟨HB1.out.mono HB.out⟩⟩
def dump_Read.l0 : Nat → List Int → List (S58) → Int → Option ((List (S58)) × Int × Int)
 | 0, _, _, _ => none
 | k + 1, x0, x4, x5 => if x5 < (x0.length : Int) then (if 0 ≤ x5 then (if x5 ≤ (x0.length : Int) then ((dump_Next.f k (x0.drop (x5 : Int).toNat)).bind fun bt170 => (if bt170.2.2.2.2 = 0 then (if x4.length < 3518437208883 then (dump_Read.l0 k x0 (x4 ++ [(⟨bt170.1, bt170.2.1, bt170.2.2.1⟩ : S58)]) (wrap64 (x5 + bt170.2.2.2.1))) else (none)) else (some (x4, x5, bt170.2.2.2.2)))) else (none)) else (none)) else (some (x4, 0, 0))
def dump_Read.f (k : Nat) (l0 : List Int) : Option ((List (S58)) × Int × Int) := dump_Read.l0 k l0 ([] : List (S58)) 0
theorem dump_Read.calls (k : Nat) (A0 : Option Addr) (c0 : Nat) (l0 : List Int) (r1 : List (S58)) (r2 : Int) (r3 : Int) (w : World) (hG0 : Kd.C k131 w (some ⟨0, 0, none⟩) 8 formsG0) (hr0 : Kd.C (Kd.int .u8) w A0 l0.length l0) (hc0 : l0.length ≤ c0) (h : dump_Read.f k l0 = some (r1, r2, r3)) :
  Calls Tryd.prog 44 #[.slice A0 l0.length c0] w fun e w' => ∃ v0_ : Value, e = .returned (.tuple #[v0_, .agg #[.int .i64 r2, .int .i64 r3]]) ∧ Kd.S k58 58 w' w.heap.size (fun _ => True) v0_ r1 ∧ Below w.heap.size w w' := by
 have hu30 := Tryd.underlying30
 have hu58 := Tryd.underlying58
 have HR0 := a_ hr0
 have HC0 := a_ hc0
 clear hr0 hc0
 have HRG0 := a_ hG0
 clear hG0
 have HB := a_ (Below.refl w.heap.size w)
 have H := h
 clear h
 unfold dump_Read.f at H
 have H' := a_ H
 clear H
 go_enter Tryd.func44, Tryd.ntmps44
 go_wp2_with (first | (refine be_ 3 #[.int .i64 0, .int .i64 0] 30 ?_; intro gb168 hg w2 hbox hb; have BK168 := a_ hbox; have GE168 := lb_ HB hg; replace HB := bs_ HB hb; clear hb hbox hg))
 go_loopg [4, 5] k (fun kq v4 v5 w' => ∃ (x4_1 : List (S58)) (x5_1 : Int) (x169000_1 : Int) (x169001_1 : Int), v5 = .int .i64 x5_1 ∧ Aside0 (dump_Read.l0 kq l0 x4_1 x5_1 = some (r1, r2, r3)) ∧ Aside0 (kq ≤ k) ∧ Aside0 (Kd.S k58 58 w' w.heap.size (fun _ => True) v4 x4_1) ∧ Aside0 (w'.heap[gb168]? = some (.cells #[.int .i64 x169000_1, .int .i64 x169001_1] 30 (0, 0))) ∧ Aside0 (Below w.heap.size w w'))
 case atStart => exact ⟨([] : List (S58)), (0), (0), (0), (by rfl), H', ⟨Nat.le_refl _⟩, ⟨by (exact Kd.S_nil _ _ _ _ _)⟩, ⟨by exact BK168.out⟩, ⟨by exact HB.out⟩⟩
 case round =>
  clear H'
  obtain ⟨x4_1, x5_1, x169000_1, x169001_1, rfl, HA, HK1, HO_4, BK168, HB⟩ := hrel
  cases gk with
  | zero => exact absurd HA.out (by simp [dump_Read.l0])
  | succ k1 =>
   have H := HA.out
   clear HA
   simp only [dump_Read.l0] at H
   by_cases c3 : x5_1 < (l0.length : Int)
   ·rw [if_pos c3] at H
    have c3b0 := decide_eq_true c3
    clear c3
    have c4 := ifc_ H
    replace H := ift_ H
    have c4b0 := eq_true c4
    have c4b1 := decide_eq_true c4
    clear c4
    have c5 := ifc_ H
    replace H := ift_ H
    have c5b0 := eq_true c5
    have c5b1 := decide_eq_true c5
    clear c5
    replace H := Option.bind_eq_some_iff.mp H
    obtain ⟨⟨t170, t171, t172, t175, t176⟩, A60, H⟩ := H
    try dsimp only at H
    have A6 := a_ A60
    clear A60
    by_cases c7 : t176 = 0
    ·rw [if_pos c7] at H
     obtain ⟨c7b0, c7b1⟩ := bt_ c7
     clear c7
     have c8 := ifc_ H
     replace H := ift_ H
     have LMc8 := a_ c8
     clear c8
     obtain ⟨y178, hy178⟩ := is_ ((x4_1 ++ [(⟨t170, t171, t172⟩ : S58)]) : List (S58))
     rw [← hy178] at H
     have Ny178 := a_ hy178
     clear hy178
     have H' := a_ H
     clear H
     obtain ⟨i09, hi09, _, hsz9, _⟩ := info_parts info5
     obtain ⟨A9, hcut9, hA9, hC9⟩ := print_drop_of (P := Tryd.prog) (Value.int .u8) 0 22 5 .i64 Tryd.underlying22 hi09 hsz9 A0 c0 l0 x5_1 (da_) (da_) HC0.out
     have HR169 := ci_ (Kd.C_of_reads (h1 := fun _ => rfl) (hA9 _ (Kd.reads_of_C HR0.out)))
     have HC169 := a_ hC9
     clear hA9 hC9 hi09 hsz9
     go_wp2_with (first | (refine gl_ (some 17) Tryd.func64 #[.slice A9 (l0.drop (x5_1 : Int).toNat).length (c0 - x5_1.toNat)] ?_ (hargs := by (try simp only [List.map_toArray, List.map_cons, List.map_nil]); (rw [show (l0.drop (x5_1 : Int).toNat).length = (l0.length - x5_1.toNat) from List.length_drop] <;> rfl)); (with_reducible refine (dump_Next.calls k1 _ _ (l0.drop (x5_1 : Int).toNat) t170 t171 t172 t175 t176 _ (Kd.C_below HRG0.out HB.out) (Kd.C_below HR169.out HB.out) HC169.out A6.out).mono ?_); rintro e w10 ⟨v173, rfl, ho0, hb⟩; refine ⟨_, rfl, ?_⟩; have HO174 := rl_ ho0 HB; replace HO_4 := rS_ HO_4 ho0 hb; replace BK168 := bb_ BK168 hb; replace HB := bs_ HB hb; (try clear hb); (try clear ho0)) | (refine be_ 6 #[.int .i64 0, .int .u32 0, .slice none 0 0] 58 ?_; intro gb177 hg w11 hbox hb; have BK177 := a_ hbox; have GE177 := lb_ HB hg; obtain ⟨NB168_177, NB177_168⟩ := nn_ BK168 hg; replace HO_4 := se_ HO_4 hg hb; replace HO174 := rb_ HO174 hb; replace BK168 := bb_ BK168 hb; replace HB := bs_ HB hb; clear hb hbox hg; have hnb12 := NB177_168.out; have hnc12 := NB168_177.out; obtain ⟨hcz13_0, hcz13_1, hcz13_2, hfz13_0, hfz13_1, hfz13_2⟩ := blk3 BK177.out; obtain ⟨Ao14, co14, eo14⟩ := Kd.R_slice HO174.out; subst eo14) | ((with_reducible refine gate_store (t := 58) (p := 6) rfl ?_); refine store_event (t := 58) (p := 6) (v := ?vo_w15) (w1 := (((w11.setCell ⟨gb177, 0, none⟩ (.int .i64 t170)).setCell ⟨gb177, 1, none⟩ (.int .u32 t171)).setCell ⟨gb177, 2, none⟩ (.slice Ao14 t172.length co14))) ?hg ?ho ?hn ?hr ?_; (case ho => rfl); (case hg => rfl); (case hn => rfl); (case hr => (go_simp; done)); intro w15 hw; have n0_ : Aside0 (Kd.S k58 58 w15 w.heap.size (fun k_ => some k_ ≠ (.slice Ao14 t172.length co14 : Value).ownBlock ∧ k_ ≠ gb177) u4 x4_1) := ⟨(by rw [hw]; exact (by exact Kd.S_mono (Kd.S_far (p := ⟨gb177, 2, none⟩) (Kd.S_far (p := ⟨gb177, 1, none⟩) (Kd.S_far (p := ⟨gb177, 0, none⟩) (Kd.S_mono HO_4.out (fun k_ hk => (⟨hk, hk.2⟩ : _ ∧ k_ ≠ gb177))) (fun _ hk => hk.2) (.int .i64 t170)) (fun _ hk => hk.2) (.int .u32 t171)) (fun _ hk => hk.2) (.slice Ao14 t172.length co14)) (fun _ hk => ⟨hk.1.1.2, hk.1.2⟩)))⟩; have n1_ : Aside0 (Kd.R (Kd.int .u8) 5 w15 w.heap.size (fun _ => True) (.slice Ao14 t172.length co14) t172) := ⟨(by rw [hw]; exact (by exact Kd.R_mono (Kd.R_far (p := ⟨gb177, 2, none⟩) (Kd.R_far (p := ⟨gb177, 1, none⟩) (Kd.R_far (p := ⟨gb177, 0, none⟩) (Kd.R_types HO174.out BK177.out (by decide)) (fun _ hk => hk.2) (.int .i64 t170)) (fun _ hk => hk.2) (.int .u32 t171)) (fun _ hk => hk.2) (.slice Ao14 t172.length co14)) (fun _ hk => trivial)))⟩; have n2_ : Aside0 (w15.heap[gb168]? = some (.cells #[.int .i64 x169000_1, .int .i64 x169001_1] 30 (0, 0))) := ⟨(by rw [hw]; exact (by refine blk_far ?_ NB168_177.out _; refine blk_far ?_ NB168_177.out _; refine blk_far ?_ NB168_177.out _; exact BK168.out))⟩; have n3_ : Aside0 (w15.heap[gb177]? = some (.cells #[.int .i64 t170, .int .u32 t171, .slice Ao14 t172.length co14] 58 (0, 0))) := ⟨(by rw [hw]; exact (by refine blk_put (cs := #[.int .i64 t170, .int .u32 t171, .slice none 0 0]) ?_ 2 _ rfl; refine blk_put (cs := #[.int .i64 t170, .int .u32 0, .slice none 0 0]) ?_ 1 _ rfl; refine blk_put (cs := #[.int .i64 0, .int .u32 0, .slice none 0 0]) ?_ 0 _ rfl; exact BK177.out))⟩; have n4_ : Aside0 (Below w.heap.size w w15) := ⟨(by rw [hw]; exact (by repeat (with_reducible first | exact HB.out | refine below_set ?_ GE177.out)))⟩; clear hw; clear HO_4; clear HO174; clear BK168; clear BK177; clear HB; have HO_4 := n0_; have HO174 := n1_; have BK168 := n2_; have BK177 := n3_; have HB := n4_; clear n0_ n1_ n2_ n3_ n4_; obtain ⟨hcz16_0, hcz16_1, hcz16_2, hfz16_0, hfz16_1, hfz16_2⟩ := blk3 BK177.out) | ((with_reducible refine gate_builtin (b := .append) (xs := #[.tmp 27, .tmp 29]) rfl ?_); at_builtin; refine Kd.S_append k58 (w0 := w) w.heap.size rfl (.tmp 27) (.tmp 29) 54 58 (.agg #[(.int .i64 0), (.int .u32 0), (.slice none 0 0)]) 40 rfl Tryd.underlying54 info58 rfl (by decide) (by omega) u4 x4_1 (⟨t170, t171, t172⟩ : S58) [.int .i64 t170, .int .u32 t171, .slice Ao14 t172.length co14] (fun k_ => k_ ≠ gb177) (fun k_ => some k_ = (.slice Ao14 t172.length co14 : Value).ownBlock) rfl rfl ?aP (fun k_ hk_ => ((Kd.R_mono (ok' := fun k_ => (fun k_ => k_ ≠ gb177) k_ ∧ some k_ ≠ (u4 : Value).ownBlock) (Kd.R_types (Kd.R_apart' (HO174.out) (Kd.S_typed HO_4.out) (by decide)) BK177.out (by decide)) (fun k_ hk => ⟨hk.2, hk.1.2⟩))).1 k_ hk_.symm) ?aF ?aO ?aB ?aS ?aL ?_; (case aP => exact k58_mkM _ _ _ (⟨t170, t171, t172⟩ : S58) (Kd.R_mono (Kd.R_tight rfl (Kd.R_mono (ok' := fun k_ => (fun k_ => k_ ≠ gb177) k_ ∧ some k_ ≠ (u4 : Value).ownBlock) (Kd.R_types (Kd.R_apart' (HO174.out) (Kd.S_typed HO_4.out) (by decide)) BK177.out (by decide)) (fun k_ hk => ⟨hk.2, hk.1.2⟩))) (fun _ h_ => h_))); (case aB => exact HB.out); (case aF => exact (fun k_ hk => Kd.freshB BK177.out k_ hk)); (case aO => exact (by exact Kd.S_mono HO_4.out (fun k_ hk => ⟨hk.2, fun e_ => hk.1 e_⟩))); (case aS => exact (below_size HB.out)); (case aL => have := LMc8.out; omega); intro v179 w17 ho hb hg hat; rw [← Ny178.out] at ho; have HO180 := a_ ho; replace BK168 := a_ (blk_grown BK168.out hg (Kd.S_ne HO_4.out BK168.out (by decide))); replace BK177 := a_ (blk_grown BK177.out hg (Kd.S_away HO_4.out (fun _ hk => hk.2))); replace HB := a_ hb; clear HO_4; clear HO174; clear ho hb hg hat))
     go_roundg k1
     case measure => have := HK1.out; omega
     case rel => exact ⟨(y178), (wrap64 (x5_1 + t175)), (x169000_1), (x169001_1), (by rfl), H', ⟨by have := HK1.out; omega⟩, ⟨by exact Kd.S_mono HO180.out (fun _ hk => trivial)⟩, ⟨by exact BK168.out⟩, ⟨by exact HB.out⟩⟩
    ·rw [if_neg c7] at H
     have c7b0 := beq_eq_false_iff_ne.mpr c7
     have c7b1 := bne_iff_ne.mpr c7
     obtain ⟨rfl, rfl, rfl⟩ := s3_ H
     obtain ⟨i018, hi018, _, hsz18, _⟩ := info_parts info5
     obtain ⟨A18, hcut18, hA18, hC18⟩ := print_drop_of (P := Tryd.prog) (Value.int .u8) 0 22 5 .i64 Tryd.underlying22 hi018 hsz18 A0 c0 l0 x5_1 (da_) (da_) HC0.out
     have HR169 := ci_ (Kd.C_of_reads (h1 := fun _ => rfl) (hA18 _ (Kd.reads_of_C HR0.out)))
     have HC169 := a_ hC18
     clear hA18 hC18 hi018 hsz18
     go_wp2_with (first | (refine gl_ (some 17) Tryd.func64 #[.slice A18 (l0.drop (x5_1 : Int).toNat).length (c0 - x5_1.toNat)] ?_ (hargs := by (try simp only [List.map_toArray, List.map_cons, List.map_nil]); (rw [show (l0.drop (x5_1 : Int).toNat).length = (l0.length - x5_1.toNat) from List.length_drop] <;> rfl)); (with_reducible refine (dump_Next.calls k1 _ _ (l0.drop (x5_1 : Int).toNat) t170 t171 t172 t175 t176 _ (Kd.C_below HRG0.out HB.out) (Kd.C_below HR169.out HB.out) HC169.out A6.out).mono ?_); rintro e w19 ⟨v173, rfl, ho0, hb⟩; refine ⟨_, rfl, ?_⟩; have HO174 := rl_ ho0 HB; replace HO_4 := rS_ HO_4 ho0 hb; replace BK168 := bb_ BK168 hb; replace HB := bs_ HB hb; (try clear hb); (try clear ho0)) | (refine be_ 6 #[.int .i64 0, .int .u32 0, .slice none 0 0] 58 ?_; intro gb177 hg w20 hbox hb; have BK177 := a_ hbox; have GE177 := lb_ HB hg; obtain ⟨NB168_177, NB177_168⟩ := nn_ BK168 hg; replace HO_4 := se_ HO_4 hg hb; replace HO174 := rb_ HO174 hb; replace BK168 := bb_ BK168 hb; replace HB := bs_ HB hb; clear hb hbox hg; have hnb21 := NB177_168.out; have hnc21 := NB168_177.out; obtain ⟨hcz22_0, hcz22_1, hcz22_2, hfz22_0, hfz22_1, hfz22_2⟩ := blk3 BK177.out; obtain ⟨Ao23, co23, eo23⟩ := Kd.R_slice HO174.out; subst eo23; obtain ⟨hcz24_0, hcz24_1, hfz24_0, hfz24_1⟩ := blk2 BK168.out))
     refine bodyPost_ret (results_tc rfl _ _ gb168 30 #[.int .i64 x5_1, .int .i64 t176] (0, 0) _ rfl (by refine blk_put (cs := #[.int .i64 x5_1, .int .i64 x169001_1]) ?_ 1 _ rfl; refine blk_put (cs := #[.int .i64 x169000_1, .int .i64 x169001_1]) ?_ 0 _ rfl; refine blk_far ?_ NB168_177.out _; refine blk_far ?_ NB168_177.out _; refine blk_far ?_ NB168_177.out _; exact BK168.out) Tryd.underlying30 rfl (by kernel_rfl)) rfl ?_
     exact ⟨_, by (rfl), by exact Kd.S_mono (Kd.S_far (p := ⟨gb168, 1, none⟩) (Kd.S_far (p := ⟨gb168, 0, none⟩) (Kd.S_far (p := ⟨gb177, 2, none⟩) (Kd.S_far (p := ⟨gb177, 1, none⟩) (Kd.S_far (p := ⟨gb177, 0, none⟩) (Kd.S_types (Kd.S_mono HO_4.out (fun k_ hk => (⟨hk, hk.2⟩ : _ ∧ k_ ≠ gb177))) BK168.out (by decide)) (fun _ hk => hk.1.2) (.int .i64 t170)) (fun _ hk => hk.1.2) (.int .u32 t171)) (fun _ hk => hk.1.2) (.slice Ao23 t172.length co23)) (fun _ hk => hk.2) (.int .i64 x5_1)) (fun _ hk => hk.2) (.int .i64 t176)) (fun _ hk => trivial), by repeat (with_reducible first | exact HB.out | refine below_set ?_ GE168.out | refine below_set ?_ GE177.out)⟩
   ·rw [if_neg c3] at H
    have c3b0 := decide_eq_false c3
    clear c3
    obtain ⟨rfl, rfl, rfl⟩ := s3_ H
    obtain ⟨hcz25_0, hcz25_1, hfz25_0, hfz25_1⟩ := blk2 BK168.out
    go_wp2
    refine bodyPost_ret (results_tc rfl _ _ gb168 30 #[.int .i64 0, .int .i64 0] (0, 0) _ rfl (by refine blk_put (cs := #[.int .i64 0, .int .i64 x169001_1]) ?_ 1 _ rfl; refine blk_put (cs := #[.int .i64 x169000_1, .int .i64 x169001_1]) ?_ 0 _ rfl; exact BK168.out) Tryd.underlying30 rfl (by kernel_rfl)) rfl ?_
    exact ⟨_, by (rfl), by exact Kd.S_mono (Kd.S_far (p := ⟨gb168, 1, none⟩) (Kd.S_far (p := ⟨gb168, 0, none⟩) (Kd.S_types HO_4.out BK168.out (by decide)) (fun _ hk => hk.2) (.int .i64 0)) (fun _ hk => hk.2) (.int .i64 0)) (fun _ hk => trivial), by repeat (with_reducible first | exact HB.out | refine below_set ?_ GE168.out)⟩
def capture_May.f (a0_0 : Int) (a0_1 : Int) (l0_2 : List Int) : Option (Bool) := if a0_0 = 1 then ((head_May.f a0_1).bind fun t208 => (if t208 = true then (some (decide ((l0_2.length : Int) ≤ 65531))) else (some false))) else (if a0_0 = 2 then ((head_May.f a0_1).bind fun t209 => (if t209 = true then (some (decide ((l0_2.length : Int) ≤ 65531))) else (some false))) else (some false))
theorem capture_May.calls (a0_0 : Int) (a0_1 : Int) (A0_2 : Option Addr) (c0_2 : Nat) (l0_2 : List Int) (r : Bool) (w : World) (hr0_2 : Kd.C (Kd.int .u8) w A0_2 l0_2.length l0_2) (hc0_2 : l0_2.length ≤ c0_2) (h : capture_May.f a0_0 a0_1 l0_2 = some r) :
  Calls Tryd.prog 16 #[.agg #[.int .i64 a0_0, .int .i64 a0_1, .slice A0_2 l0_2.length c0_2]] w fun e w' => e = .returned (.bool r) ∧ Below w.heap.size w w' := by
 have hu42 := Tryd.underlying42
 have HR0_2 := a_ hr0_2
 have HC0_2 := a_ hc0_2
 clear hr0_2 hc0_2
 have HB := a_ (Below.refl w.heap.size w)
 have H := h
 clear h
 unfold capture_May.f at H
 by_cases c2 : a0_0 = 1
 ·rw [if_pos c2] at H
  obtain ⟨c2b0, c2b1⟩ := bt_ c2
  replace H := Option.bind_eq_some_iff.mp H
  obtain ⟨t208, A30, H⟩ := H
  try dsimp only at H
  have A3 := a_ A30
  clear A30
  by_cases c4 : t208 = true
  ·subst c4
   rw [if_pos rfl] at H
   obtain rfl := Option.some.inj H
   go_enter Tryd.func16, Tryd.ntmps16
   go_wp2_with (first | ((with_reducible refine gate_dst (N := 1) rfl ?_); (try (refine gate_guard (by rfl) ?_; dsimp only)); refine be_ 1 #[.int .i64 a0_0, .int .i64 a0_1, .slice A0_2 l0_2.length c0_2] 42 ?_; intro gb207 hg w5 hbox hb; have BK207 := a_ hbox; have GE207 := lb_ HB hg; replace HB := bs_ HB hb; clear hb hbox hg; obtain ⟨hcz6_0, hcz6_1, hcz6_2, hfz6_0, hfz6_1, hfz6_2⟩ := blk3 BK207.out) | (go_at_call 33; (with_reducible refine (head_May.calls a0_1 true _ A3.out).mono ?_); rintro e w' ⟨rfl, ⟨nd, rfl⟩⟩))
   go_ret
   exact ⟨by (rfl), by repeat (with_reducible first | exact HB.out | apply pw_below_drewN)⟩
  ·cases nt_ c4
   rw [if_neg nft_] at H
   obtain rfl := Option.some.inj H
   go_enter Tryd.func16, Tryd.ntmps16
   go_wp2_with (first | ((with_reducible refine gate_dst (N := 1) rfl ?_); (try (refine gate_guard (by rfl) ?_; dsimp only)); refine be_ 1 #[.int .i64 a0_0, .int .i64 a0_1, .slice A0_2 l0_2.length c0_2] 42 ?_; intro gb207 hg w7 hbox hb; have BK207 := a_ hbox; have GE207 := lb_ HB hg; replace HB := bs_ HB hb; clear hb hbox hg; obtain ⟨hcz8_0, hcz8_1, hcz8_2, hfz8_0, hfz8_1, hfz8_2⟩ := blk3 BK207.out) | (go_at_call 33; (with_reducible refine (head_May.calls a0_1 false _ A3.out).mono ?_); rintro e w' ⟨rfl, ⟨nd, rfl⟩⟩))
   go_ret
   exact ⟨by (rfl), by repeat (with_reducible first | exact HB.out | apply pw_below_drewN)⟩
 ·rw [if_neg c2] at H
  have c2b0 := beq_eq_false_iff_ne.mpr c2
  have c2b1 := bne_iff_ne.mpr c2
  by_cases c9 : a0_0 = 2
  ·rw [if_pos c9] at H
   obtain ⟨c9b0, c9b1⟩ := bt_ c9
   replace H := Option.bind_eq_some_iff.mp H
   obtain ⟨t209, A100, H⟩ := H
   try dsimp only at H
   have A10 := a_ A100
   clear A100
   by_cases c11 : t209 = true
   ·subst c11
    rw [if_pos rfl] at H
    obtain rfl := Option.some.inj H
    go_enter Tryd.func16, Tryd.ntmps16
    go_wp2_with (first | ((with_reducible refine gate_dst (N := 1) rfl ?_); (try (refine gate_guard (by rfl) ?_; dsimp only)); refine be_ 1 #[.int .i64 a0_0, .int .i64 a0_1, .slice A0_2 l0_2.length c0_2] 42 ?_; intro gb207 hg w12 hbox hb; have BK207 := a_ hbox; have GE207 := lb_ HB hg; replace HB := bs_ HB hb; clear hb hbox hg; obtain ⟨hcz13_0, hcz13_1, hcz13_2, hfz13_0, hfz13_1, hfz13_2⟩ := blk3 BK207.out) | (go_at_call 33; (with_reducible refine (head_May.calls a0_1 true _ A10.out).mono ?_); rintro e w' ⟨rfl, ⟨nd, rfl⟩⟩))
    go_ret
    exact ⟨by (rfl), by repeat (with_reducible first | exact HB.out | apply pw_below_drewN)⟩
   ·cases nt_ c11
    rw [if_neg nft_] at H
    obtain rfl := Option.some.inj H
    go_enter Tryd.func16, Tryd.ntmps16
    go_wp2_with (first | ((with_reducible refine gate_dst (N := 1) rfl ?_); (try (refine gate_guard (by rfl) ?_; dsimp only)); refine be_ 1 #[.int .i64 a0_0, .int .i64 a0_1, .slice A0_2 l0_2.length c0_2] 42 ?_; intro gb207 hg w14 hbox hb; have BK207 := a_ hbox; have GE207 := lb_ HB hg; replace HB := bs_ HB hb; clear hb hbox hg; obtain ⟨hcz15_0, hcz15_1, hcz15_2, hfz15_0, hfz15_1, hfz15_2⟩ := blk3 BK207.out) | (go_at_call 33; (with_reducible refine (head_May.calls a0_1 false _ A10.out).mono ?_); rintro e w' ⟨rfl, ⟨nd, rfl⟩⟩))
    go_ret
    exact ⟨by (rfl), by repeat (with_reducible first | exact HB.out | apply pw_below_drewN)⟩
  ·rw [if_neg c9] at H
   have c9b0 := beq_eq_false_iff_ne.mpr c9
   have c9b1 := bne_iff_ne.mpr c9
   obtain rfl := Option.some.inj H
   go_enter Tryd.func16, Tryd.ntmps16
   go_wp2_with (first | ((with_reducible refine gate_dst (N := 1) rfl ?_); (try (refine gate_guard (by rfl) ?_; dsimp only)); refine be_ 1 #[.int .i64 a0_0, .int .i64 a0_1, .slice A0_2 l0_2.length c0_2] 42 ?_; intro gb207 hg w16 hbox hb; have BK207 := a_ hbox; have GE207 := lb_ HB hg; replace HB := bs_ HB hb; clear hb hbox hg; obtain ⟨hcz17_0, hcz17_1, hcz17_2, hfz17_0, hfz17_1, hfz17_2⟩ := blk3 BK207.out))
   go_ret
   exact ⟨by (rfl), by exact HB.out⟩
theorem slices_IndexFunc_Item.bad (x : S42) (A : Option Addr) (c : Nat) (t : Bool) (w : World) (hr : Kd.C (Kd.int .u8) w A x.f2.length x.f2) (hc : x.f2.length ≤ c) (h : capture_May.f x.f0 x.f1 x.f2 = some t) :
  Calls Tryd.prog 28 #[.agg #[.int .i64 x.f0, .int .i64 x.f1, .slice A x.f2.length c]] w fun e w' => e = .returned (.bool (!t)) ∧ Below w.heap.size w w' := by
 have hu42 := Tryd.underlying42
 have HR := a_ hr
 have HC := a_ hc
 have HT := a_ h
 have HB := a_ (Below.refl w.heap.size w)
 clear hr hc h
 go_enter Tryd.func28, Tryd.ntmps28
 go_wp2_with (first | ((with_reducible refine gate_dst (N := 1) rfl ?_); refine box_event ?hg (N := 1) ?hd (cs := #[.int .i64 x.f0, .int .i64 x.f1, .slice A x.f2.length c]) (t := 42) ?hr ?_; (case hd => rfl); (case hg => rfl); (case hr => first | (go_simp; done) | (go_simp; rfl)); intro g1 hg w3 hbox hb; have HB3 := bs_ HB hb; have BK3 := a_ hbox; obtain ⟨hc3_0, hc3_1, hc3_2⟩ := blc3 BK3.out; clear hg hbox hb) | (go_at_call 16; refine (capture_May.calls x.f0 x.f1 A c x.f2 t _ (Kd.C_below HR.out HB3.out) HC.out HT.out).mono ?_; rintro e w4 ⟨rfl, hb⟩; have HB4 := bs_ HB3 hb; clear hb))
 go_ret
 exact ⟨rfl, HB4.out⟩
def slices_IndexFunc_Item.go : List (S42) → Nat → Option Int
 | [], _ => some (-1)
 | x :: m, j => (capture_May.f x.f0 x.f1 x.f2).bind fun t => if t = true then slices_IndexFunc_Item.go m (j + 1) else some (j : Int)
theorem slices_IndexFunc_Item.items_at (l : List (S42)) (j : Nat) (h : j < l.length) : l.drop j = rd_T42 l (j : Int) :: l.drop (j + 1) := by
 rw [List.drop_eq_getElem_cons h]
 unfold rd_T42
 rw [Int.toNat_natCast, List.getD_eq_getElem?_getD, List.getElem?_eq_getElem h]
 rfl
theorem slices_IndexFunc_Item.calls (A0 : Option Addr) (c0 : Nat) (l0 : List (S42)) (r : Int) (w : World) (hr0 : Kd.C k42 w A0 l0.length l0) (hc0 : l0.length ≤ c0) (h : slices_IndexFunc_Item.go l0 0 = some r) :
  Calls Tryd.prog 49 #[.slice A0 l0.length c0, .func (.func 28) #[] #[]] w fun e w' => e = .returned (.int .i64 r) ∧ Below w.heap.size w w' := by
 have hml := Kd.C_max hr0
 have HR := a_ hr0
 have HG : Aside0 (slices_IndexFunc_Item.go (l0.drop 0) 0 = some r) := ⟨by rw [List.drop_zero]; exact h⟩
 have HB := a_ (Below.refl w.heap.size w)
 clear hr0 hc0 h
 go_enter Tryd.func49, Tryd.ntmps49
 go_wp2
 go_loopg [8] l0.length (fun kq v8 w' => ∃ j : Nat, kq + j = l0.length ∧ v8 = .int .i64 (j : Int) ∧ Aside0 (Below w.heap.size w w') ∧ Aside0 (slices_IndexFunc_Item.go (l0.drop j) j = some r))
 case atStart => exact ⟨0, rfl, rfl, HB, HG⟩
 case round =>
  obtain ⟨j, hj, rfl, HI, HGJ⟩ := hrel
  clear HB HG
  by_cases hlt : j < l0.length
  ·obtain ⟨k1, rfl⟩ : ∃ k1, gk = k1 + 1 := ⟨gk - 1, by omega⟩
   have c1_ : decide ((j : Int) < (l0.length : Int)) = true := decide_eq_true (by omega)
   have p1_ : (0 : Int) ≤ (j : Int) := by omega
   have q1_ : (j : Int) < (l0.length : Int) := by omega
   obtain ⟨ad, Ax, cx, e0, hx0, hx1, hx2, hlx, hix⟩ := at_T42 HR.out (j : Int) p1_ q1_
   have hgo := HGJ.out
   rw [slices_IndexFunc_Item.items_at l0 j hlt, slices_IndexFunc_Item.go] at hgo
   generalize rd_T42 l0 (j : Int) = x at hx0 hx1 hx2 hlx hix hgo
   cases e0
   rw [Int.toNat_natCast] at hx0 hx1 hx2
   replace hx0 := cb_ HI hx0
   replace hx1 := cb_ HI hx1
   replace hx2 := cb_ HI hx2
   have HIX := a_ (Kd.C_below hix HI.out)
   have HLX := a_ hlx
   obtain ⟨t, ht, hgo⟩ := Option.bind_eq_some_iff.1 hgo
   have HT := a_ ht
   have HGN := a_ hgo
   clear hlx hix HGJ hgo ht
   go_wp2_with (fail)
   refine (slices_IndexFunc_Item.bad x Ax cx t _ HIX.out HLX.out HT.out).mono ?_
   rintro e w2 ⟨rfl, hb⟩
   have HB2 := bs_ HI hb
   clear hb hx0 hx1 hx2
   cases t with
   | true =>
    have hgo := HGN.out
    rw [if_pos rfl] at hgo
    have HGO := a_ hgo
    clear HGN hgo
    go_wp2
    go_roundg k1
    case measure => omega
    case rel => exact ⟨j + 1, by omega, by go_num, HB2, HGO⟩
   | false =>
    have hgo := HGN.out
    rw [if_neg (by decide)] at hgo
    obtain rfl := Option.some.inj hgo
    go_wp2
    go_ret
    exact ⟨rfl, HB2.out⟩
  ·have c1_ : decide ((j : Int) < (l0.length : Int)) = false := decide_eq_false (by omega)
   have hgo := HGJ.out
   rw [List.drop_of_length_le (by omega), slices_IndexFunc_Item.go] at hgo
   obtain rfl := Option.some.inj hgo
   go_wp2
   go_ret
   exact ⟨rfl, HI.out⟩
theorem slices_ContainsFunc_Item.calls (A0 : Option Addr) (c0 : Nat) (l0 : List (S42)) (r : Int) (w : World) (hr0 : Kd.C k42 w A0 l0.length l0) (hc0 : l0.length ≤ c0) (h : slices_IndexFunc_Item.go l0 0 = some r) :
  Calls Tryd.prog 27 #[.slice A0 l0.length c0, .func (.func 28) #[] #[]] w fun e w' => e = .returned (.bool (decide (0 ≤ r))) ∧ Below w.heap.size w w' := by
 have HR := a_ hr0
 have HC := a_ hc0
 have HT := a_ h
 clear hr0 hc0 h
 go_enter Tryd.func27, Tryd.ntmps27
 go_wp2_with (go_at_call 49; refine (slices_IndexFunc_Item.calls A0 c0 l0 r _ HR.out HC.out HT.out).mono ?_; rintro e w4 ⟨rfl, hb⟩; have HB4 := a_ hb; clear hb)
 go_ret
 exact ⟨by first | rfl | simp [ge_iff_le], HB4.out⟩
def slices_Concat_byte_byte.f (l0 : List (List Int)) : Option (List Int) := if l0.flatten.length < 140737488355328 then some l0.flatten else none
def slices_Concat_byte_byte.tot (l : List (List Int)) (j : Nat) : Nat := (l.take j).flatten.length
def slices_Concat_byte_byte.pre (l : List (List Int)) (j : Nat) : List Int := (l.take j).flatten
theorem slices_Concat_byte_byte.take_next (l : List (List Int)) (j : Nat) (h : j < l.length) : slices_Concat_byte_byte.pre l (j + 1) = slices_Concat_byte_byte.pre l j ++ rd_L2 l (j : Int) := by
 unfold slices_Concat_byte_byte.pre rd_L2
 rw [List.take_succ_eq_append_getElem h, List.flatten_append]
 simp [h]
theorem slices_Concat_byte_byte.tot_next (l : List (List Int)) (j : Nat) (h : j < l.length) : slices_Concat_byte_byte.tot l (j + 1) = slices_Concat_byte_byte.tot l j + (rd_L2 l (j : Int)).length := by
 have := congrArg List.length (slices_Concat_byte_byte.take_next l j h)
 rw [List.length_append] at this
 exact this
theorem slices_Concat_byte_byte.tot_all (l : List (List Int)) (j : Nat) (h : j = l.length) : slices_Concat_byte_byte.tot l j = l.flatten.length := by
 unfold slices_Concat_byte_byte.tot
 rw [List.take_of_length_le (by omega)]
theorem slices_Concat_byte_byte.tot_le (l : List (List Int)) (j : Nat) : slices_Concat_byte_byte.tot l j ≤ l.flatten.length := by
 unfold slices_Concat_byte_byte.tot
 conv => rhs; rw [← List.take_append_drop j l, List.flatten_append, List.length_append]
 omega
theorem slices_Concat_byte_byte.calls (A0 : Option Addr) (c0 : Nat) (l0 : List (List Int)) (r : List Int) (w : World) (hr0 : Kd.C (Kd.slice 5 (Kd.int .u8)) w A0 l0.length l0) (hc0 : l0.length ≤ c0) (h : slices_Concat_byte_byte.f l0 = some r) :
  Calls Tryd.prog 73 #[.slice A0 l0.length c0] w fun e w' => ∃ v0_ : Value, e = .returned (v0_) ∧ Kd.R (Kd.int .u8) 5 w' w.heap.size (fun _ => True) v0_ r ∧ Below w.heap.size w w' := by
 obtain ⟨hl, rfl⟩ : l0.flatten.length < 140737488355328 ∧ l0.flatten = r := by
  unfold slices_Concat_byte_byte.f at h
  split at h
  ·exact ⟨by assumption, Option.some.inj h⟩
  ·cases h
 have HR0 := a_ hr0
 have HC0 := a_ hc0
 have HB := a_ (Below.refl w.heap.size w)
 have HL := a_ hl
 have HN := a_ hr0.2.1
 clear h hl hr0 hc0
 go_enter Tryd.func73, Tryd.ntmps73
 go_wp2
 go_loop [3, 11] (fun v3 v11 => ∃ j : Nat, j ≤ l0.length ∧ v11 = .int .i64 (j : Int) ∧ v3 = .int .i64 (slices_Concat_byte_byte.tot l0 j : Int)) (fun _ v11 => l0.length - (intOf v11).toNat)
 case atStart => exact ⟨0, Nat.zero_le _, rfl, rfl⟩
 case round =>
  obtain ⟨j, hj, rfl, rfl⟩ := hrel
  have ht := Nat.lt_of_le_of_lt (slices_Concat_byte_byte.tot_le l0 j) HL.out
  have hn := HN.out
  by_cases hlt : j < l0.length
  ·have p304 : 0 ≤ (j : Int) := by omega
   have q304 : (j : Int) < (l0.length : Int) := by omega
   obtain ⟨ad304, A304_0, c304_0, e304, hx304_0, hl304_0, hi304_0⟩ := at_L2 HR0.out (j : Int) p304 q304
   cases e304
   simp only [Int.toNat_natCast] at hx304_0
   have hs := slices_Concat_byte_byte.tot_next l0 j hlt
   have ht2 := Nat.lt_of_le_of_lt (slices_Concat_byte_byte.tot_le l0 (j + 1)) HL.out
   have hW : wrap64 ((slices_Concat_byte_byte.tot l0 j : Int) + ((rd_L2 l0 (j : Int)).length : Int)) = (slices_Concat_byte_byte.tot l0 j : Int) + ((rd_L2 l0 (j : Int)).length : Int) := by
    unfold wrap64
    omega
   have hneg : decide (wrap64 ((slices_Concat_byte_byte.tot l0 j : Int) + ((rd_L2 l0 (j : Int)).length : Int)) < 0) = false := by
    rw [hW]
    exact decide_eq_false (by omega)
   have HS := a_ hs
   have HW := a_ hW
   clear hs ht ht2 hW
   go_wp2
   go_round
   case rel => exact ⟨j + 1, by omega, by go_num, by rw [HS.out, HW.out]; go_num⟩
   case measure => simp [intOf]; omega
  ·have ht' := slices_Concat_byte_byte.tot_all l0 j (by omega)
   have HT := a_ ht'
   clear ht' ht
   have hg := Nat.lt_of_le_of_lt (slices_Concat_byte_byte.tot_le l0 j) HL.out
   obtain rfl : j = l0.length := by omega
   clear hlt hj hn
   go_wp2_with fail
   refine (slices_Grow_byte_byte.calls_nil (slices_Concat_byte_byte.tot l0 l0.length) _ hg).mono ?_
   rintro e w1 ⟨v6_, rfl, hR6, hB6⟩
   clear hg
   have HO_6 := a_ hR6
   have HB1 := a_ hB6
   clear hR6 hB6 HB
   go_wp2
   go_loopg [6, 27] l0.length (fun kq v6 v27 w' => ∃ j : Nat, Aside0 (kq + j = l0.length) ∧ v27 = .int .i64 (j : Int) ∧ Aside0 (Kd.R (Kd.int .u8) 5 w' w.heap.size (fun _ => True) v6 (slices_Concat_byte_byte.pre l0 j)) ∧ Aside0 (Below w.heap.size w w'))
   case atStart => exact ⟨0, ⟨rfl⟩, rfl, HO_6, HB1⟩
   case round =>
    obtain ⟨j, HJ, rfl, HO_3, HB⟩ := hrel
    have hj := HJ.out
    have hn := HN.out
    have hjl : j ≤ l0.length := by omega
    by_cases hlt : j < l0.length
    ·obtain ⟨k1, rfl⟩ : ∃ k1, gk = k1 + 1 := ⟨gk - 1, by omega⟩
     have p304 : 0 ≤ (j : Int) := by omega
     have q304 : (j : Int) < (l0.length : Int) := by omega
     obtain ⟨ad304, A304_0, c304_0, e304, hx304_0, hl304_0, hi304_0⟩ := at_L2 HR0.out (j : Int) p304 q304
     cases e304
     simp only [Int.toNat_natCast] at hx304_0
     replace hx304_0 := cb_ HB hx304_0
     have HR304_0 := a_ hi304_0
     have HS := a_ (slices_Concat_byte_byte.take_next l0 j hlt)
     have LM : Aside0 ((slices_Concat_byte_byte.pre l0 j).length + (rd_L2 l0 (j : Int)).length < 140737488355328) := ⟨by
      have h1 := slices_Concat_byte_byte.tot_next l0 j hlt
      have h2 := Nat.lt_of_le_of_lt (slices_Concat_byte_byte.tot_le l0 (j + 1)) HL.out
      unfold slices_Concat_byte_byte.tot at h1 h2
      unfold slices_Concat_byte_byte.pre
      omega⟩
     clear hi304_0 hl304_0 hj
     go_wp2_with (((with_reducible refine gate_builtin (b := .append) (xs := #[.tmp 31, .tmp 32]) rfl ?_); at_builtin; refine Kd.R_append_rows (Kd.int .u8) (w0 := w) w.heap.size rfl (.tmp 31) (.tmp 32) 22 5 (.int .u8 0) 1 rfl Tryd.underlying22 info5 rfl (by decide) (by omega) u6 (slices_Concat_byte_byte.pre l0 j) (rd_L2 l0 (j : Int)) _ _ _ (fun _ => True) (fun _ => False) rfl rfl ?aO ?aR (fun _ _ h => h) (fun _ h => h.elim) ?aF ?aB ?aS ?aL ?_; (case aR => exact (Kd.C_below HR304_0.out HB.out)); (case aB => exact HB.out); (case aF => exact (fun _ _ => trivial)); (case aO => exact HO_3.out); (case aS => exact below_size HB.out); (case aL => have := LM.out; omega); intro v306 w5 ho hb hg hat; rw [← HS.out] at ho; have HO307 := a_ ho; replace HB := a_ hb; clear HO_3; clear ho hb hg hat))
     go_roundg k1
     case measure => omega
     case rel => exact ⟨j + 1, ⟨by have := HJ.out; omega⟩, by go_num, HO307, HB⟩
    ·have hp : slices_Concat_byte_byte.pre l0 j = l0.flatten := by
      unfold slices_Concat_byte_byte.pre
      rw [List.take_of_length_le (by omega)]
     have HP := a_ hp
     clear hp hj
     go_wp2
     go_ret
     exact ⟨_, rfl, by rw [← HP.out]; exact HO_3.out, HB.out⟩
def accm_Apart.f (a0 : Int) (a1 : Int) : Option (Bool) := if a1 = 125 then (some true) else (if a1 = 126 then (some true) else ((accm_Has.f a0 a1).bind fun t210 => (some t210)))
theorem accm_Apart.calls (a0 : Int) (a1 : Int) (r : Bool) (w : World) (h : accm_Apart.f a0 a1 = some r) :
  Calls Tryd.prog 108 #[.int .u32 a0, .int .u8 a1] w fun e w' => e = .returned (.bool r) ∧ Drawn0 w w' := by
 have H := h
 clear h
 unfold accm_Apart.f at H
 by_cases c3 : a1 = 125
 ·rw [if_pos c3] at H
  obtain ⟨c3b0, c3b1⟩ := bt_ c3
  obtain rfl := Option.some.inj H
  go_enter Tryd.func108, Tryd.ntmps108
  go_wp2
  go_ret
  exact ⟨by first | rfl | (simp; done) | (simp [*]; done), by repeat (first | exact Drawn0.refl _ | apply Drawn0.step)⟩
 ·rw [if_neg c3] at H
  have c3b0 := beq_eq_false_iff_ne.mpr c3
  have c3b1 := bne_iff_ne.mpr c3
  by_cases c4 : a1 = 126
  ·rw [if_pos c4] at H
   obtain ⟨c4b0, c4b1⟩ := bt_ c4
   obtain rfl := Option.some.inj H
   go_enter Tryd.func108, Tryd.ntmps108
   go_wp2
   go_ret
   exact ⟨by first | rfl | (simp; done) | (simp [*]; done), by repeat (first | exact Drawn0.refl _ | apply Drawn0.step)⟩
  ·rw [if_neg c4] at H
   have c4b0 := beq_eq_false_iff_ne.mpr c4
   have c4b1 := bne_iff_ne.mpr c4
   replace H := Option.bind_eq_some_iff.mp H
   obtain ⟨t210, A50, H⟩ := H
   try dsimp only at H
   have A5 := a_ A50
   clear A50
   obtain rfl := Option.some.inj H
   go_enter Tryd.func108, Tryd.ntmps108
   go_wp2_with (first | (go_at_call 111; (with_reducible refine (accm_Has.calls a0 a1 t210 _ A5.out).mono ?_); rintro e w' ⟨rfl, ⟨nd, rfl⟩⟩))
   go_ret
   exact ⟨by first | rfl | (simp; done) | (simp [*]; done), by repeat (first | exact Drawn0.refl _ | apply Drawn0.step)⟩
def stuff_Stuff.piece (m c : Int) : List Int := if (accm_Apart.f m c).getD false = true then [125, Go.bits .xor .u8 c 32] else [c]
def stuff_Stuff.pre (m : Int) (l : List Int) (j : Nat) : List Int := ((l.take j).map (stuff_Stuff.piece m)).flatten
def stuff_Stuff.f (l0 : List Int) (a1 : Int) : Option (List Int) := if (l0.all fun c => (accm_Apart.f a1 c).isSome) = true ∧ (l0.map (stuff_Stuff.piece a1)).flatten.length < 140737488355328 then some (l0.map (stuff_Stuff.piece a1)).flatten else none
theorem stuff_Stuff.pre_next (m : Int) (l : List Int) (j : Nat) (h : j < l.length) : stuff_Stuff.pre m l (j + 1) = stuff_Stuff.pre m l j ++ stuff_Stuff.piece m (rd l (j : Int)) := by
 unfold stuff_Stuff.pre rd
 rw [List.take_succ_eq_append_getElem h, List.map_append, List.flatten_append]
 simp [h]
theorem stuff_Stuff.pre_le (m : Int) (l : List Int) (j : Nat) : (stuff_Stuff.pre m l j).length ≤ (l.map (stuff_Stuff.piece m)).flatten.length := by
 unfold stuff_Stuff.pre
 conv => rhs; rw [← List.take_append_drop j l, List.map_append, List.flatten_append, List.length_append]
 omega
theorem stuff_Stuff.pre_all (m : Int) (l : List Int) (j : Nat) (h : l.length ≤ j) : stuff_Stuff.pre m l j = (l.map (stuff_Stuff.piece m)).flatten := by
 unfold stuff_Stuff.pre
 rw [List.take_of_length_le h]
structure stuff_Stuff.Inv (w0 W : World) (B : Nat) (acc : List Int) : Prop where mk :: (out : ∃ v : Value, W.heap[B]? = some (.cells #[v] 22 (0, 0)) ∧ Kd.R (Kd.int .u8) 5 W w0.heap.size (fun _ => True) v acc ∧ Below w0.heap.size w0 W ∧ w0.heap.size ≤ B)
theorem stuff_Stuff.Inv.drewN {w0 W : World} {B : Nat} {acc : List Int} (h : stuff_Stuff.Inv w0 W B acc) (n : Nat) : stuff_Stuff.Inv w0 (W.drewN n) B acc := by
 obtain ⟨v, h1, h2, h3, h4⟩ := h.out
 exact ⟨⟨v, h1, Kd.R_drewN h2 n, pw_below_drewN h3 n, h4⟩⟩
theorem stuff_Stuff.put (w0 W : World) (B : Nat) (acc : List Int) (c : Int) (hI : stuff_Stuff.Inv w0 W B acc) (hl : acc.length + 1 < 140737488355328) :
  Calls Tryd.prog 103 #[.int .u8 c, .pointer (some ⟨B, 0, none⟩)] W fun e w' => e = .returned (.tuple #[]) ∧ stuff_Stuff.Inv w0 w' B (acc ++ [c]) := by
 obtain ⟨v, hblk, hR, hB, hBg⟩ := hI.out
 have hcell : W.cell? ⟨B, 0, none⟩ = some v := blk_cell hblk 0
 have HBK := a_ hblk
 have HO := a_ hR
 have HB := a_ hB
 have HG := a_ hBg
 have HL := a_ hl
 clear hI hblk hR hB hBg hl
 go_enter Tryd.func103, Tryd.ntmps103
 go_wp2_with (((with_reducible refine gate_builtin (b := .append) (xs := #[.tmp 3, .tmp 5]) rfl ?_); at_builtin; refine Kd.R_append (Kd.int .u8) (w0 := w0) w0.heap.size rfl (.tmp 3) (.tmp 5) 22 5 (.int .u8 0) 1 rfl Tryd.underlying22 info5 rfl (by decide) (by omega) v acc c [.int .u8 c] (fun _ => True) (fun _ => False) rfl rfl ?aP (fun _ hk => hk.elim) ?aF ?aO ?aB ?aS ?aL ?_; (case aP => exact rfl); (case aB => exact HB.out); (case aF => exact (fun _ _ => trivial)); (case aO => exact HO.out); (case aS => exact HB.out.size); (case aL => have := HL.out; omega); intro v1 w1 ho hb hg hat; obtain ⟨Ao1, co1, eo1⟩ := Kd.R_slice ho; subst eo1; have hne := Kd.R_ne HO.out HBK.out (by decide); have hblk1 := blk_grown HBK.out hg hne; have hcell1 : w1.cell? ⟨B, 0, none⟩ = some v := blk_cell hblk1 0; have hfr1 : w1.frozen? ⟨B, 0, none⟩ = false := blk_frozen hblk1 0; have HO1 := a_ ho; have HB1 := a_ hb; have HBK1 := a_ hblk1; clear ho hb hg hat hne hblk1))
 go_end0
 refine ⟨rfl, ⟨⟨_, blk_set HBK1.out 0 _, ?_, below_set HB1.out HG.out, HG.out⟩⟩⟩
 have h := Kd.R_set HO1.out HBK1.out (by decide) 0 (.slice Ao1 (acc ++ [c]).length co1)
 simp only [List.length_append, List.length_singleton] at h ⊢
 exact h
theorem stuff_Stuff.each (w0 W : World) (B : Nat) (A0 : Option Addr) (c0 : Nat) (l0 : List Int) (a1 : Int) (hr0 : Kd.C (Kd.int .u8) w0 A0 l0.length l0) (hc0 : l0.length ≤ c0) (hs : (l0.all fun c => (accm_Apart.f a1 c).isSome) = true) (hl : (l0.map (stuff_Stuff.piece a1)).flatten.length < 140737488355328) (hI : stuff_Stuff.Inv w0 W B []) :
  Calls Tryd.prog 102 #[.slice A0 l0.length c0, .int .u32 a1, .func (.func 103) #[] #[.pointer (some ⟨B, 0, none⟩)]] W fun e w' => e = .returned (.tuple #[]) ∧ stuff_Stuff.Inv w0 w' B (l0.map (stuff_Stuff.piece a1)).flatten := by
 have HR0 := a_ hr0
 have HN := a_ hr0.2.1
 have HI := a_ hI
 have HL := a_ hl
 have HS := a_ hs
 clear hr0 hc0 hI hl hs
 go_enter Tryd.func102, Tryd.ntmps102
 go_wp2
 go_loopg [10] l0.length (fun kq v10 w' => ∃ j : Nat, Aside0 (kq + j = l0.length) ∧ v10 = .int .i64 (j : Int) ∧ Aside0 (stuff_Stuff.Inv w0 w' B (stuff_Stuff.pre a1 l0 j)))
 case atStart => exact ⟨0, ⟨rfl⟩, rfl, HI⟩
 case round =>
  obtain ⟨j, HJ, rfl, HI⟩ := hrel
  have hj := HJ.out
  have hn := HN.out
  have hjl : j ≤ l0.length := by omega
  by_cases hlt : j < l0.length
  ·obtain ⟨k1, rfl⟩ : ∃ k1, gk = k1 + 1 := ⟨gk - 1, by omega⟩
   have hB := HI.out.out.choose_spec.2.2.1
   have p1 : 0 ≤ (j : Int) := by omega
   have q1 : (j : Int) < (l0.length : Int) := by omega
   obtain ⟨ad, e1, hx⟩ := Kd.at_int HR0.out (j : Int) p1 q1
   cases e1
   simp only [Int.toNat_natCast] at hx
   replace hx := (hB.cell (World.block_lt_of_cell? w0 _ hx)).trans hx
   obtain ⟨t, ht⟩ : ∃ t, accm_Apart.f a1 (rd l0 (j : Int)) = some t := by
    have h1 := List.all_eq_true.1 HS.out (rd l0 (j : Int)) (by unfold rd; rw [Int.toNat_natCast, List.getD_eq_getElem?_getD, List.getElem?_eq_getElem hlt]; exact List.getElem_mem hlt)
    exact Option.isSome_iff_exists.1 h1
   have HT := a_ ht
   have HP := a_ (stuff_Stuff.pre_next a1 l0 j hlt)
   have LM := a_ (stuff_Stuff.pre_le a1 l0 (j + 1))
   have HPC : Aside0 (stuff_Stuff.piece a1 (rd l0 (j : Int)) = if t = true then [125, Go.bits .xor .u8 (rd l0 (j : Int)) 32] else [rd l0 (j : Int)]) := ⟨by unfold stuff_Stuff.piece; rw [HT.out]; rfl⟩
   clear hB ht hj
   have LB : Aside0 ((stuff_Stuff.pre a1 l0 j ++ stuff_Stuff.piece a1 (rd l0 (j : Int))).length < 140737488355328) := ⟨by rw [← HP.out]; exact Nat.lt_of_le_of_lt LM.out HL.out⟩
   cases t with
   | true =>
    have HPC2 : Aside0 (stuff_Stuff.piece a1 (rd l0 (j : Int)) = [125, Go.bits .xor .u8 (rd l0 (j : Int)) 32]) := ⟨HPC.out⟩
    go_wp2_with fail
    refine (accm_Apart.calls a1 (rd l0 (j : Int)) true _ HT.out).mono ?_
    rintro e w1 ⟨rfl, ⟨nd, rfl⟩⟩
    go_wp2_with fail
    refine (stuff_Stuff.put w0 _ B (stuff_Stuff.pre a1 l0 j) 125 (HI.out.drewN nd) ?_).mono ?_
    ·have := LB.out
     rw [HPC2.out, List.length_append] at this
     simp only [List.length_cons, List.length_nil] at this
     omega
    rintro e w2 ⟨rfl, hI2⟩
    have HI2 := a_ hI2
    clear hI2
    go_wp2_with fail
    refine (stuff_Stuff.put w0 _ B (stuff_Stuff.pre a1 l0 j ++ [125]) _ HI2.out ?_).mono ?_
    ·have := LB.out
     rw [HPC2.out, List.length_append] at this
     simp only [List.length_cons, List.length_nil] at this
     simp only [List.length_append, List.length_cons, List.length_nil]
     omega
    rintro e w3 ⟨rfl, hI3⟩
    have HI3 := a_ hI3
    clear hI3
    go_wp2
    go_roundg k1
    case measure => omega
    case rel => exact ⟨j + 1, ⟨by have := HJ.out; omega⟩, by go_num, ⟨by rw [HP.out, HPC2.out]; have := HI3.out; rw [List.append_assoc] at this; exact this⟩⟩
   | false =>
    have HPC2 : Aside0 (stuff_Stuff.piece a1 (rd l0 (j : Int)) = [rd l0 (j : Int)]) := ⟨HPC.out⟩
    go_wp2_with fail
    refine (accm_Apart.calls a1 (rd l0 (j : Int)) false _ HT.out).mono ?_
    rintro e w1 ⟨rfl, ⟨nd, rfl⟩⟩
    go_wp2_with fail
    refine (stuff_Stuff.put w0 _ B (stuff_Stuff.pre a1 l0 j) _ (HI.out.drewN nd) ?_).mono ?_
    ·have := LB.out
     rw [HPC2.out, List.length_append] at this
     simp only [List.length_cons, List.length_nil] at this
     omega
    rintro e w2 ⟨rfl, hI2⟩
    have HI2 := a_ hI2
    clear hI2
    go_wp2
    go_roundg k1
    case measure => omega
    case rel => exact ⟨j + 1, ⟨by have := HJ.out; omega⟩, by go_num, ⟨by rw [HP.out, HPC2.out]; exact HI2.out⟩⟩
  ·go_wp2
   go_end0
   exact ⟨rfl, by rw [← stuff_Stuff.pre_all a1 l0 j (by omega)]; exact HI.out⟩
theorem stuff_Stuff.calls (A0 : Option Addr) (c0 : Nat) (l0 : List Int) (a1 : Int) (r : List Int) (w : World) (hr0 : Kd.C (Kd.int .u8) w A0 l0.length l0) (hc0 : l0.length ≤ c0) (h : stuff_Stuff.f l0 a1 = some r) :
  Calls Tryd.prog 87 #[.slice A0 l0.length c0, .int .u32 a1] w fun e w' => ∃ v0_ : Value, e = .returned (v0_) ∧ Kd.R (Kd.int .u8) 5 w' w.heap.size (fun _ => True) v0_ r ∧ Below w.heap.size w w' := by
 obtain ⟨⟨hs, hl⟩, rfl⟩ : ((l0.all fun c => (accm_Apart.f a1 c).isSome) = true ∧ (l0.map (stuff_Stuff.piece a1)).flatten.length < 140737488355328) ∧ (l0.map (stuff_Stuff.piece a1)).flatten = r := by
  unfold stuff_Stuff.f at h
  split at h
  ·exact ⟨by assumption, Option.some.inj h⟩
  ·cases h
 have HC := a_ hr0
 have HC0 := a_ hc0
 have HS := a_ hs
 have HL := a_ hl
 clear h hs hl hr0 hc0
 go_enter Tryd.func87, Tryd.ntmps87
 go_wp2_with fail
 refine (stuff_Stuff.each w _ w.heap.size A0 c0 l0 a1 HC.out HC0.out HS.out HL.out ⟨⟨.slice none 0 0, heap_alloc_new w _, Kd.R_nil _ _ _ _ _, below_alloc (Below.refl _ _) _, Nat.le_refl _⟩⟩).mono ?_
 rintro e w1 ⟨rfl, hI⟩
 obtain ⟨v, hblk, hR, hB, _⟩ := hI.out
 have hcell : w1.cell? ⟨w.heap.size, 0, none⟩ = some v := blk_cell hblk 0
 have HR := a_ hR
 have HB := a_ hB
 clear hI hblk hR hB
 go_wp2
 go_ret
 exact ⟨_, rfl, HR.out, HB.out⟩
def fcs_Of.f (l0 : List Int) (a1 : Bool) : Option (Int) := (fcs_all.f a1).bind fun t211 => ((fcs_More.f t211 l0 a1).bind fun t212 => ((fcs_all.f a1).bind fun t213 => (some (Go.bits .xor .u32 t212 t213))))
theorem fcs_Of.calls (A0 : Option Addr) (c0 : Nat) (l0 : List Int) (a1 : Bool) (r : Int) (w : World) (hr0 : Kd.C (Kd.int .u8) w A0 l0.length l0) (hc0 : l0.length ≤ c0) (h : fcs_Of.f l0 a1 = some r) :
  Calls Tryd.prog 104 #[.slice A0 l0.length c0, .bool a1] w fun e w' => e = .returned (.int .u32 r) ∧ Below w.heap.size w w' := by
 have HR0 := a_ hr0
 have HC0 := a_ hc0
 clear hr0 hc0
 have HB := a_ (Below.refl w.heap.size w)
 have H := h
 clear h
 unfold fcs_Of.f at H
 replace H := Option.bind_eq_some_iff.mp H
 obtain ⟨t211, A30, H⟩ := H
 try dsimp only at H
 have A3 := a_ A30
 clear A30
 replace H := Option.bind_eq_some_iff.mp H
 obtain ⟨t212, A40, H⟩ := H
 try dsimp only at H
 have A4 := a_ A40
 clear A40
 replace H := Option.bind_eq_some_iff.mp H
 obtain ⟨t213, A50, H⟩ := H
 try dsimp only at H
 have A5 := a_ A50
 clear A50
 obtain rfl := Option.some.inj H
 go_enter Tryd.func104, Tryd.ntmps104
 go_wp2_with (first | (refine gl_ (some 6) Tryd.func110 #[.bool a1] ?_ (hargs := by (try simp only [List.map_toArray, List.map_cons, List.map_nil]); first | done | rfl | (simp only [List.length_drop, List.length_take]; rfl)); (with_reducible refine (fcs_all.calls a1 t211 _ A3.out).mono ?_); rintro e w' ⟨rfl, ⟨nd, rfl⟩⟩; refine ⟨_, rfl, ?_⟩) | (refine gl_ (some 9) Tryd.func109 #[.int .u32 t211, .slice A0 l0.length c0, .bool a1] ?_ (hargs := by (try simp only [List.map_toArray, List.map_cons, List.map_nil]); first | done | rfl | (simp only [List.length_drop, List.length_take]; rfl)); (with_reducible refine (fcs_More.calls t211 _ _ l0 a1 t212 _ ?side1 ?side2 A4.out).mono ?_); (case side1 => repeat (first | exact HR0.out | (with_reducible refine Kd.C_alloc ?_ _) | (with_reducible refine Kd.C_drewN ?_ _) | (with_reducible refine Kd.C_drew ?_))); (case side2 => exact HC0.out); rintro e w6 ⟨rfl, hb⟩; refine ⟨_, rfl, ?_⟩; replace HB := a_ (below_step (by repeat (first | (with_reducible first | exact HB.out | apply below_alloc | apply pw_below_drewN | apply below_drew1) | exact HB.out)) hb); (try clear hb); (try clear hb2); (try clear hk); (try clear hi)) | (refine gl_ (some 11) Tryd.func110 #[.bool a1] ?_ (hargs := by (try simp only [List.map_toArray, List.map_cons, List.map_nil]); first | done | rfl | (simp only [List.length_drop, List.length_take]; rfl)); (with_reducible refine (fcs_all.calls a1 t213 _ A5.out).mono ?_); rintro e w' ⟨rfl, ⟨nd, rfl⟩⟩; refine ⟨_, rfl, ?_⟩))
 go_ret
 exact ⟨by first | rfl | (simp [errW_none, errW_some] <;> rfl) | (simp [*, errW_none, errW_some] <;> rfl), by repeat (first | (with_reducible first | exact HB.out | apply below_alloc | apply pw_below_drewN | apply below_drew1) | exact HB.out)⟩
def fcs_Seal.l0 : Nat → List Int → Int → Int → Int → Option (List Int)
 | 0, _, _, _, _ => none
 | k + 1, x5, x6, x13, x14 => if x14 < x13 then (if x5.length < 140737488355328 then (fcs_Seal.l0 k (x5 ++ [(x6) % 256]) (x6 / 256) x13 (wrap64 (x14 + 1))) else (none)) else (some x5)
def fcs_Seal.f (k : Nat) (l0 : List Int) (a1 : Bool) : Option (List Int) := (slices_Clone_byte_byte.f l0).bind fun t214 => ((fcs_Of.f l0 a1).bind fun t217 => ((fcs_Size.f a1).bind fun t218 => (fcs_Seal.l0 k t214 t217 t218 0)))
theorem fcs_Seal.calls (k : Nat) (A0 : Option Addr) (c0 : Nat) (l0 : List Int) (a1 : Bool) (r : List Int) (w : World) (hr0 : Kd.C (Kd.int .u8) w A0 l0.length l0) (hc0 : l0.length ≤ c0) (h : fcs_Seal.f k l0 a1 = some r) :
  Calls Tryd.prog 88 #[.slice A0 l0.length c0, .bool a1] w fun e w' => ∃ v0_ : Value, e = .returned (v0_) ∧ Kd.R (Kd.int .u8) 5 w' w.heap.size (fun _ => True) v0_ r ∧ Below w.heap.size w w' := by
 have HR0 := a_ hr0
 have HC0 := a_ hc0
 clear hr0 hc0
 have HB := a_ (Below.refl w.heap.size w)
 have H := h
 clear h
 unfold fcs_Seal.f at H
 replace H := Option.bind_eq_some_iff.mp H
 obtain ⟨t214, A30, H⟩ := H
 try dsimp only at H
 have A3 := a_ A30
 clear A30
 replace H := Option.bind_eq_some_iff.mp H
 obtain ⟨t217, A40, H⟩ := H
 try dsimp only at H
 have A4 := a_ A40
 clear A40
 replace H := Option.bind_eq_some_iff.mp H
 obtain ⟨t218, A50, H⟩ := H
 try dsimp only at H
 have A5 := a_ A50
 clear A50
 have H' := a_ H
 clear H
 go_enter Tryd.func88, Tryd.ntmps88
 go_wp2_with (first | (refine gl_ (some 8) Tryd.func96 #[.slice A0 l0.length c0] ?_; (with_reducible refine (slices_Clone_byte_byte.calls _ _ l0 t214 _ HR0.out HC0.out A3.out).mono ?_); rintro e w6 ⟨v215, rfl, ho0, hb⟩; refine ⟨_, rfl, ?_⟩; have HO216 := rl_ ho0 HB; replace HB := bs_ HB hb; (try clear hb); (try clear ho0)) | (refine gl_ (some 11) Tryd.func104 #[.slice A0 l0.length c0, .bool a1] ?_; (with_reducible refine (fcs_Of.calls _ _ l0 a1 t217 _ (Kd.C_below HR0.out HB.out) HC0.out A4.out).mono ?_); rintro e w7 ⟨rfl, hb⟩; refine ⟨_, rfl, ?_⟩; replace HO216 := rb_ HO216 hb; replace HB := bs_ HB hb; (try clear hb)) | (refine gl_ (some 13) Tryd.func105 #[.bool a1] ?_; (with_reducible refine (fcs_Size.calls a1 t218 _ A5.out).mono ?_); rintro e w' ⟨rfl, ⟨nd, rfl⟩⟩; refine ⟨_, rfl, ?_⟩))
 go_loopg [5, 6, 14] k (fun kq v5 v6 v14 w' => ∃ (x5_1 : List Int) (x6_1 : Int) (x14_1 : Int), v6 = .int .u32 x6_1 ∧ v14 = .int .i64 x14_1 ∧ Aside0 (fcs_Seal.l0 kq x5_1 x6_1 t218 x14_1 = some r) ∧ Aside0 (kq ≤ k) ∧ Aside0 (Kd.R (Kd.int .u8) 5 w' w.heap.size (fun _ => True) v5 x5_1) ∧ Aside0 (Below w.heap.size w w'))
 case atStart => exact ⟨(t214), (t217), (0), (by rfl), (by rfl), H', ⟨Nat.le_refl _⟩, ⟨by (with_reducible repeat (apply Kd.R_drewN)); exact HO216.out⟩, ⟨by repeat (with_reducible first | exact HB.out | apply pw_below_drewN)⟩⟩
 case round =>
  clear H'
  obtain ⟨x5_1, x6_1, x14_1, rfl, rfl, HA, HK1, HO_5, HB⟩ := hrel
  cases gk with
  | zero => exact absurd HA.out (by simp [fcs_Seal.l0])
  | succ k1 =>
   have H := HA.out
   clear HA
   simp only [fcs_Seal.l0] at H
   by_cases c8 : x14_1 < t218
   ·rw [if_pos c8] at H
    have c8b0 := decide_eq_true c8
    clear c8
    have c9 := ifc_ H
    replace H := ift_ H
    have LMc9 := a_ c9
    clear c9
    obtain ⟨y219, hy219⟩ := is_ ((x5_1 ++ [(x6_1) % 256]))
    rw [← hy219] at H
    have Ny219 := a_ hy219
    clear hy219
    have H' := a_ H
    clear H
    go_wp2_with (first | ((with_reducible refine gate_builtin (b := .append) (xs := #[.tmp 16, .tmp 19]) rfl ?_); at_builtin; refine Kd.R_append (Kd.int .u8) (w0 := w) w.heap.size rfl (.tmp 16) (.tmp 19) 22 5 (.int .u8 0) 1 rfl Tryd.underlying22 info5 rfl (by decide) (by omega) u5 x5_1 ((x6_1) % 256) [.int .u8 ((x6_1) % 256)] (fun _ => True) (fun _ => False) rfl rfl ?aP (fun _ hk => hk.elim) ?aF ?aO ?aB ?aS ?aL ?_; (case aP => exact rfl); (case aB => exact HB.out); (case aF => exact (fun _ _ => trivial)); (case aO => exact HO_5.out); (case aS => exact (below_size HB.out)); (case aL => have := LMc9.out; omega); intro v220 w10 ho hb hg hat; rw [← Ny219.out] at ho; have HO221 := a_ ho; replace HB := a_ hb; clear HO_5; clear ho hb hg hat))
    go_roundg k1
    case measure => have := HK1.out; omega
    case rel => exact ⟨(y219), (x6_1 / 256), (wrap64 (x14_1 + 1)), (by rfl), (by rfl), H', ⟨by have := HK1.out; omega⟩, ⟨by exact HO221.out⟩, ⟨by exact HB.out⟩⟩
   ·rw [if_neg c8] at H
    have c8b0 := decide_eq_false c8
    clear c8
    obtain rfl := Option.some.inj H
    go_wp2
    go_ret
    exact ⟨_, by (rfl), by exact HO_5.out, by exact HB.out⟩
def frame_Row.l0 : Nat → Int → Bool → List Int → List (List Int) → Int → Int → Option (List Int × Int)
 | 0, _, _, _, _, _, _ => none
 | k + 1, x1, x2, x8, x12, x13, x14 => if x14 < x13 then (if 0 ≤ x14 then (if x14 < (x12.length : Int) then (if ((rd_L2 x12 x14).length : Int) < 2 then (some (([] : List Int), 1)) else (if ((rd_L2 x12 x14).length : Int) > 65535 then (some (([] : List Int), 4)) else ((fcs_Seal.f k (rd_L2 x12 x14) x2).bind fun t226 => ((stuff_Stuff.f t226 x1).bind fun t229 => ((slices_Concat_byte_byte.f ([x8, t229, ([126] : List Int)] : List (List Int))).bind fun t238 => (frame_Row.l0 k x1 x2 t238 x12 x13 (wrap64 (x14 + 1)))))))) else (none)) else (none)) else (some (x8, 0))
def frame_Row.f (k : Nat) (l0 : List (List Int)) (a1 : Int) (a2 : Bool) : Option (List Int × Int) := frame_Row.l0 k a1 a2 ([126] : List Int) l0 (l0.length : Int) 0
theorem frame_Row.calls (k : Nat) (A0 : Option Addr) (c0 : Nat) (l0 : List (List Int)) (a1 : Int) (a2 : Bool) (r1 : List Int) (r2 : Int) (w : World) (hr0 : Kd.C (Kd.slice 5 (Kd.int .u8)) w A0 l0.length l0) (hc0 : l0.length ≤ c0) (h : frame_Row.f k l0 a1 a2 = some (r1, r2)) :
  Calls Tryd.prog 68 #[.slice A0 l0.length c0, .int .u32 a1, .bool a2] w fun e w' => ∃ v0_ : Value, e = .returned (.tuple #[v0_, .int .i64 r2]) ∧ Kd.R (Kd.int .u8) 5 w' w.heap.size (fun _ => True) v0_ r1 ∧ Below w.heap.size w w' := by
 have HR0 := a_ hr0
 have HC0 := a_ hc0
 clear hr0 hc0
 have HB := a_ (Below.refl w.heap.size w)
 have H := h
 clear h
 unfold frame_Row.f at H
 obtain ⟨y222, hy222⟩ := is_ (([126] : List Int))
 rw [← hy222] at H
 have Ny222 := a_ hy222
 clear hy222
 have H' := a_ H
 clear H
 go_enter Tryd.func68, Tryd.ntmps68
 go_wp2_with (first | (refine rli_ .u8 5 11 ([126] : List Int) ?_; intro v223 w4 ho5 hb; (rw [← Ny222.out] at ho5); have HO224 := rl_ ho5 HB; replace HB := bs_ HB hb; clear hb ho5))
 go_loopg [8, 14] k (fun kq v8 v14 w' => ∃ (x8_1 : List Int) (x14_1 : Int), v14 = .int .i64 x14_1 ∧ Aside0 (frame_Row.l0 kq a1 a2 x8_1 l0 (l0.length : Int) x14_1 = some (r1, r2)) ∧ Aside0 (kq ≤ k) ∧ Aside0 (Kd.R (Kd.int .u8) 5 w' w.heap.size (fun _ => True) v8 x8_1) ∧ Aside0 (Below w.heap.size w w'))
 case atStart => exact ⟨(y222), (0), (by rfl), H', ⟨Nat.le_refl _⟩, ⟨by exact HO224.out⟩, ⟨by exact HB.out⟩⟩
 case round =>
  clear H'
  obtain ⟨x8_1, x14_1, rfl, HA, HK1, HO_8, HB⟩ := hrel
  cases gk with
  | zero => exact absurd HA.out (by simp [frame_Row.l0])
  | succ k1 =>
   have H := HA.out
   clear HA
   simp only [frame_Row.l0] at H
   by_cases c6 : x14_1 < (l0.length : Int)
   ·rw [if_pos c6] at H
    have c6b0 := decide_eq_true c6
    clear c6
    have c7b0 := ifd_ H
    replace H := ift_ H
    have c8b0 := ifd_ H
    replace H := ift_ H
    by_cases c9 : ((rd_L2 l0 x14_1).length : Int) < 2
    ·rw [if_pos c9] at H
     have c9b0 := decide_eq_true c9
     have c9b1 : decide ((rd_L2 l0 x14_1).length < 2) = true := decide_eq_true (by omega)
     clear c9
     obtain ⟨rfl, rfl⟩ := s2_ H
     have p225 : 0 ≤ (x14_1 : Int) := da_
     have q225 : x14_1 < (l0.length : Int) := da_
     obtain ⟨ad225, A225_0, c225_0, e225, hx225_0, hl225_0, hi225_0⟩ := at_L2 HR0.out x14_1 p225 q225
     cases e225
     replace hx225_0 := cb_ HB hx225_0
     have HR225_0 := a_ hi225_0
     have HC225_0 := a_ hl225_0
     clear hi225_0 hl225_0
     replace p225 := eq_true p225
     replace q225 := eq_true q225
     go_wp2
     go_ret2
     exact ⟨_, by (rfl), by (exact Kd.R_nil _ _ _ _ _), by exact HB.out⟩
    ·rw [if_neg c9] at H
     have c9b0 := decide_eq_false c9
     have c9b1 : decide ((rd_L2 l0 x14_1).length < 2) = false := decide_eq_false (by omega)
     clear c9
     by_cases c10 : ((rd_L2 l0 x14_1).length : Int) > 65535
     ·rw [if_pos c10] at H
      have c10b0 : decide (65535 < ((rd_L2 l0 x14_1).length : Int)) = true := decide_eq_true c10
      have c10b1 : decide (65535 < (rd_L2 l0 x14_1).length) = true := decide_eq_true (by omega)
      clear c10
      obtain ⟨rfl, rfl⟩ := s2_ H
      have p225 : 0 ≤ (x14_1 : Int) := da_
      have q225 : x14_1 < (l0.length : Int) := da_
      obtain ⟨ad225, A225_0, c225_0, e225, hx225_0, hl225_0, hi225_0⟩ := at_L2 HR0.out x14_1 p225 q225
      cases e225
      replace hx225_0 := cb_ HB hx225_0
      have HR225_0 := a_ hi225_0
      have HC225_0 := a_ hl225_0
      clear hi225_0 hl225_0
      replace p225 := eq_true p225
      replace q225 := eq_true q225
      go_wp2
      go_ret2
      exact ⟨_, by (rfl), by (exact Kd.R_nil _ _ _ _ _), by exact HB.out⟩
     ·rw [if_neg c10] at H
      have c10b0 : decide (65535 < ((rd_L2 l0 x14_1).length : Int)) = false := decide_eq_false c10
      have c10b1 : decide (65535 < (rd_L2 l0 x14_1).length) = false := decide_eq_false (by omega)
      clear c10
      replace H := Option.bind_eq_some_iff.mp H
      obtain ⟨t226, A110, H⟩ := H
      try dsimp only at H
      have A11 := a_ A110
      clear A110
      replace H := Option.bind_eq_some_iff.mp H
      obtain ⟨t229, A120, H⟩ := H
      try dsimp only at H
      have A12 := a_ A120
      clear A120
      obtain ⟨y232, hy232⟩ := is_ (([126] : List Int))
      rw [← hy232] at H
      have Ny232 := a_ hy232
      clear hy232
      obtain ⟨y235, hy235⟩ := is_ (([x8_1, t229, y232] : List (List Int)))
      rw [← hy235] at H
      have Ny235 := a_ hy235
      clear hy235
      replace H := Option.bind_eq_some_iff.mp H
      obtain ⟨t238, A130, H⟩ := H
      try dsimp only at H
      have A13 := a_ A130
      clear A130
      have H' := a_ H
      clear H
      have p225 : 0 ≤ (x14_1 : Int) := da_
      have q225 : x14_1 < (l0.length : Int) := da_
      obtain ⟨ad225, A225_0, c225_0, e225, hx225_0, hl225_0, hi225_0⟩ := at_L2 HR0.out x14_1 p225 q225
      cases e225
      replace hx225_0 := cb_ HB hx225_0
      have HR225_0 := a_ hi225_0
      have HC225_0 := a_ hl225_0
      clear hi225_0 hl225_0
      replace p225 := eq_true p225
      replace q225 := eq_true q225
      go_wp2_with (first | (refine gl_ (some 27) Tryd.func88 #[.slice A225_0 (rd_L2 l0 x14_1).length c225_0, .bool a2] ?_; (with_reducible refine (fcs_Seal.calls k1 _ _ (rd_L2 l0 x14_1) a2 t226 _ (Kd.C_below HR225_0.out HB.out) HC225_0.out A11.out).mono ?_); rintro e w14 ⟨v227, rfl, ho0, hb⟩; refine ⟨_, rfl, ?_⟩; have HO228 := rn_ ho0 HO_8 HB; replace HO_8 := rR_ HO_8 ho0 hb; replace HB := bs_ HB hb; (try clear hb); (try clear ho0); obtain ⟨Ao15, co15, eo15⟩ := Kd.R_slice HO228.out; subst eo15) | (refine gl_ (some 29) Tryd.func87 #[.slice Ao15 t226.length co15, .int .u32 a1] ?_; (with_reducible refine (stuff_Stuff.calls _ _ t226 a1 t229 _ ((Kd.R_reads' HO228.out).2.2) ((Kd.R_reads' HO228.out).2.1) A12.out).mono ?_); rintro e w16 ⟨v230, rfl, ho0, hb⟩; refine ⟨_, rfl, ?_⟩; have HO231 := a_ (Kd.R_lower (Kd.R_new' (Kd.R_new' ho0 (Kd.R_lt HO_8.out)) (Kd.R_lt HO228.out)) (below_size HB.out)); replace HO_8 := rR_ HO_8 ho0 hb; replace HO228 := rR_ HO228 ho0 hb; replace HB := bs_ HB hb; (try clear hb); (try clear ho0)) | (refine rli_ .u8 5 30 ([126] : List Int) ?_; intro v233 w17 ho18 hb; (rw [← Ny232.out] at ho18); have HO234 := a_ (Kd.R_lower (Kd.R_new' (Kd.R_new' (Kd.R_new' ho18 (Kd.R_lt HO_8.out)) (Kd.R_lt HO228.out)) (Kd.R_lt HO231.out)) (below_size HB.out)); replace HO_8 := rR_ HO_8 ho18 hb; replace HO228 := rR_ HO228 ho18 hb; replace HO231 := rR_ HO231 ho18 hb; replace HB := bs_ HB hb; clear hb ho18; obtain ⟨Ao19, co19, eo19⟩ := Kd.R_slice HO_8.out; subst eo19; obtain ⟨Ao20, co20, eo20⟩ := Kd.R_slice HO231.out; subst eo20; obtain ⟨Ao21, co21, eo21⟩ := Kd.R_slice HO234.out; subst eo21) | ((with_reducible refine gate_dst (N := 31) rfl ?_); refine Kd.N_lit (Kd.slice 5 (Kd.int .u8)) _ 22 ?hg (N' := 31) ?hd (xs := ([x8_1, t229, y232] : List (List Int))) (inner := [.slice Ao19 x8_1.length co19, .slice Ao20 t229.length co20, .slice Ao21 y232.length co21]) (ok := (fun k_ => some k_ ≠ (.slice Ao15 t226.length co15 : Value).ownBlock)) (okp := (fun k_ => some k_ ≠ (.slice Ao15 t226.length co15 : Value).ownBlock)) ?hr ?hp (fun _ hk => hk) ((show ∀ k_, w17.heap.size ≤ k_ → (fun k_ => some k_ ≠ (.slice Ao15 t226.length co15 : Value).ownBlock) k_ from fun k_ hk => Kd.fresh' (Kd.R_lt HO228.out) k_ hk) _ (Nat.le_refl _)) (Below.refl _ _) (Nat.le_refl _) (by simp) ?_; (case hd => rfl); (case hg => rfl); (case hr => (go_simp; done)); (case hp => exact (Reps.one (show Kd.FK (Kd.slice 5 (Kd.int .u8)) _ _ x8_1 [.slice Ao19 x8_1.length co19] from (Kd.FK_slice_mk (Kd.R_reads' (Kd.R_mono (ok' := (fun k_ => some k_ ≠ (.slice Ao15 t226.length co15 : Value).ownBlock)) (HO_8.out) (fun k_ hk => hk.1.1.2))).2.1 (Kd.R_F (Kd.R_mono (ok' := (fun k_ => some k_ ≠ (.slice Ao15 t226.length co15 : Value).ownBlock)) (HO_8.out) (fun k_ hk => hk.1.1.2))))) (Reps.one (show Kd.FK (Kd.slice 5 (Kd.int .u8)) _ _ t229 [.slice Ao20 t229.length co20] from (Kd.FK_slice_mk (Kd.R_reads' (Kd.R_mono (ok' := (fun k_ => some k_ ≠ (.slice Ao15 t226.length co15 : Value).ownBlock)) (HO231.out) (fun k_ hk => hk.1.2))).2.1 (Kd.R_F (Kd.R_mono (ok' := (fun k_ => some k_ ≠ (.slice Ao15 t226.length co15 : Value).ownBlock)) (HO231.out) (fun k_ hk => hk.1.2))))) (Reps.one (show Kd.FK (Kd.slice 5 (Kd.int .u8)) _ _ y232 [.slice Ao21 y232.length co21] from (Kd.FK_slice_mk (Kd.R_reads' (Kd.R_mono (ok' := (fun k_ => some k_ ≠ (.slice Ao15 t226.length co15 : Value).ownBlock)) (HO234.out) (fun k_ hk => hk.1.2))).2.1 (Kd.R_F (Kd.R_mono (ok' := (fun k_ => some k_ ≠ (.slice Ao15 t226.length co15 : Value).ownBlock)) (HO234.out) (fun k_ hk => hk.1.2))))) (Reps.none _ _))))); intro v236 w22 ho23 hb hg_ hnew_; clear hg_ hnew_; (rw [← Ny235.out] at ho23); have HO237 := a_ (Kd.N_lower ho23 (below_size HB.out)); replace HO228 := rb_ HO228 hb; replace HB := bs_ HB hb; clear HO231; clear HO234; clear HO_8; clear hb ho23; obtain ⟨Ao24, co24, eo24⟩ := Kd.N_slice HO237.out; subst eo24) | (refine gl_ (some 32) Tryd.func73 #[.slice Ao24 y235.length co24] ?_; (with_reducible refine (slices_Concat_byte_byte.calls _ _ y235 t238 _ ((Kd.N_reads' HO237.out).2.2) ((Kd.N_reads' HO237.out).2.1) A13.out).mono ?_); rintro e w25 ⟨v239, rfl, ho0, hb⟩; refine ⟨_, rfl, ?_⟩; have HO240 := rn_ ho0 HO228 HB; replace HO228 := rR_ HO228 ho0 hb; replace HO237 := rN_ HO237 ho0 hb; replace HB := bs_ HB hb; (try clear hb); (try clear ho0)))
      go_roundg k1
      case measure => have := HK1.out; omega
      case rel => exact ⟨(t238), (wrap64 (x14_1 + 1)), (by rfl), H', ⟨by have := HK1.out; omega⟩, ⟨by exact Kd.R_mono HO240.out (fun _ hk => trivial)⟩, ⟨by exact HB.out⟩⟩
   ·rw [if_neg c6] at H
    have c6b0 := decide_eq_false c6
    clear c6
    obtain ⟨rfl, rfl⟩ := s2_ H
    go_wp2
    go_ret2
    exact ⟨_, by (rfl), by exact HO_8.out, by exact HB.out⟩
def frame_Put.f (k : Nat) (l0 : List Int) (a1 : Int) (a2 : Bool) : Option (List Int × Int) := (frame_Row.f k (([l0] : List (List Int))) a1 a2).bind fun bt244 => (some (bt244.1, bt244.2))
theorem frame_Put.calls (k : Nat) (P0_ : Nat → Prop) (A0 : Option Addr) (c0 : Nat) (l0 : List Int) (a1 : Int) (a2 : Bool) (r1 : List Int) (r2 : Int) (w : World) (hs0 : Kd.V (Kd.int .u8) 5 w w.heap.size (fun k_ => P0_ k_) (.slice A0 l0.length c0) l0) (h : frame_Put.f k l0 a1 a2 = some (r1, r2)) :
  Calls Tryd.prog 50 #[.slice A0 l0.length c0, .int .u32 a1, .bool a2] w fun e w' => ∃ v0_ : Value, e = .returned (.tuple #[v0_, .int .i64 r2]) ∧ Kd.R (Kd.int .u8) 5 w' w.heap.size (fun k_ => (w.heap.size ≤ k_)) v0_ r1 ∧ Below w.heap.size w w' := by
 have HO0 := a_ (show Kd.V (Kd.int .u8) 5 w w.heap.size (fun k_ => (P0_ k_ ∨ w.heap.size ≤ k_)) (.slice A0 l0.length c0) l0 from Kd.V_mono hs0 (fun k_ hk => .inl hk))
 have HB := a_ (Below.refl w.heap.size w)
 have H := h
 clear h
 unfold frame_Put.f at H
 obtain ⟨y241, hy241⟩ := is_ ((([l0] : List (List Int))))
 replace H : ((frame_Row.f k y241 a1 a2).bind fun bt244 => (some (bt244.1, bt244.2))) = some (r1, r2) := by first | (rw [hy241]; with_reducible exact H) | (have H2_ := (Option.bind_some _ _).symm.trans H; rw [hy241]; with_reducible exact H2_) | (have H2_ := (Option.bind_some _ _).symm.trans H; with_reducible exact H2_) | with_reducible exact H | (rw [hy241]; exact H) | exact H
 have Ny241 := a_ hy241
 clear hy241
 replace H := Option.bind_eq_some_iff.mp H
 obtain ⟨⟨t244, t245⟩, A40, H⟩ := H
 try dsimp only at H
 have A4 := a_ A40
 clear A40
 obtain ⟨rfl, rfl⟩ := s2_ H
 go_enter Tryd.func50, Tryd.ntmps50
 go_wp2_with (first | ((with_reducible refine gate_dst (N := 9) rfl ?_); refine Kd.N_lit (Kd.slice 5 (Kd.int .u8)) _ 22 ?hg (N' := 9) ?hd (xs := ([l0] : List (List Int))) (inner := [.slice A0 l0.length c0]) (ok := (fun k_ => (P0_ k_ ∨ w.heap.size ≤ k_))) (okp := (fun k_ => (P0_ k_ ∨ w.heap.size ≤ k_))) ?hr ?hp (fun _ hk => hk) ((show ∀ k_, w.heap.size ≤ k_ → (fun k_ => (P0_ k_ ∨ w.heap.size ≤ k_)) k_ from fun k_ hk => (.inr (Nat.le_trans (below_size (by repeat (first | (with_reducible first | exact HB.out | apply below_alloc | apply pw_below_drewN | apply below_drew1) | exact HB.out))) hk))) _ (Nat.le_refl _)) (Below.refl _ _) (Nat.le_refl _) (by simp) ?_; (case hd => rfl); (case hg => rfl); (case hr => first | (go_simp; done) | (go_simp; rfl)); (case hp => exact (Reps.one (show Kd.FK (Kd.slice 5 (Kd.int .u8)) _ _ l0 [.slice A0 l0.length c0] from (Kd.FK_slice_mk (Kd.V_reads' (Kd.V_mono (ok' := (fun k_ => (P0_ k_ ∨ w.heap.size ≤ k_))) (HO0.out) (fun k_ hk => hk))).2.1 (Kd.V_F (Kd.V_mono (ok' := (fun k_ => (P0_ k_ ∨ w.heap.size ≤ k_))) (HO0.out) (fun k_ hk => hk))))) (Reps.none _ _))); intro v242 w5 ho6 hb hg_ hnew_; clear hg_ hnew_; (first | rw [← Ny241.out] at ho6 | (simp only [Int.reduceToNat] at ho6; rw [← Ny241.out] at ho6)); have HO243 := a_ (Kd.N_lower ho6 (below_size (by repeat (first | (with_reducible first | exact HB.out | apply below_alloc | apply pw_below_drewN | apply below_drew1) | exact HB.out)))); replace HO0 := a_ (Kd.V_elder' (by (with_reducible repeat (first | apply Kd.V_alloc | apply Kd.V_drewN | apply Kd.V_drew)); exact HO0.out) (by first | exact Kd.N_base ho6 | exact Kd.N_base (Kd.S_N (Kd.S_bound ho6)) | exact Kd.R_base ho6 | exact Kd.S_base ho6) hb); replace HB := a_ (below_step (by repeat (first | (with_reducible first | exact HB.out | apply below_alloc | apply pw_below_drewN | apply below_drew1) | exact HB.out)) hb); clear hb ho6; obtain ⟨Ao7, co7, eo7⟩ := Kd.N_slice HO243.out; subst eo7) | (refine gl_ (some 12) Tryd.func68 #[.slice Ao7 y241.length co7, .int .u32 a1, .bool a2] ?_ (hargs := by (try simp only [List.map_toArray, List.map_cons, List.map_nil]); first | done | rfl | (simp only [List.length_drop, List.length_take]; rfl)); (with_reducible refine (frame_Row.calls k _ _ y241 a1 a2 t244 t245 _ ?side1 ?side2 A4.out).mono ?_); (case side1 => repeat (first | exact (Kd.N_reads' HO243.out).2.2 | (with_reducible refine Kd.C_alloc ?_ _) | (with_reducible refine Kd.C_drewN ?_ _) | (with_reducible refine Kd.C_drew ?_))); (case side2 => exact (Kd.N_reads' HO243.out).2.1); rintro e w8 ⟨v246, rfl, ho0, hb⟩; refine ⟨_, rfl, ?_⟩; have HO247 := a_ (Kd.R_lower (Kd.R_newM (M := fun k_ => (w.heap.size ≤ k_)) ho0 (below_size (by repeat (first | (with_reducible first | exact HB.out | apply below_alloc | apply pw_below_drewN | apply below_drew1) | exact HB.out))) (fun k_ h_ => h_)) (below_size (by repeat (first | (with_reducible first | exact HB.out | apply below_alloc | apply pw_below_drewN | apply below_drew1) | exact HB.out)))); replace HO0 := a_ (Kd.V_elder' (by (with_reducible repeat (first | apply Kd.V_alloc | apply Kd.V_drewN | apply Kd.V_drew)); exact HO0.out) (by first | exact Kd.R_base ho0 | exact Kd.N_base (Kd.S_N (Kd.S_bound ho0)) | exact Kd.R_base ho0 | exact Kd.S_base ho0) hb); replace HO243 := a_ (Kd.N_elder' (by (with_reducible repeat (first | apply Kd.N_alloc | apply Kd.N_drewN | apply Kd.N_drew)); exact HO243.out) (by first | exact Kd.R_base ho0 | exact Kd.N_base (Kd.S_N (Kd.S_bound ho0)) | exact Kd.R_base ho0 | exact Kd.S_base ho0) hb); replace HB := a_ (below_step (by repeat (first | (with_reducible first | exact HB.out | apply below_alloc | apply pw_below_drewN | apply below_drew1) | exact HB.out)) hb); (try clear hb); (try clear hb2); (try clear hk); (try clear hi); (try clear ho0)))
 go_ret2
 exact ⟨_, by first | rfl | (simp [errW_none, errW_some] <;> rfl) | (simp [*, errW_none, errW_some] <;> rfl), by (with_reducible repeat (first | apply Kd.R_alloc | apply Kd.R_drewN | apply Kd.R_drew)); exact Kd.R_mono HO247.out (fun _ hk => hk.1), by repeat (first | (with_reducible first | exact HB.out | apply below_alloc | apply pw_below_drewN | apply below_drew1) | exact HB.out)⟩
def octet_Fits.f (a0 : Int) (a1 : Int) : Option (Bool) := if a1 ≥ 1 then (if a1 ≤ 8 then (if a1 = 8 then (some true) else (if 0 ≤ (wrap64 (8 * a1)) then (some ((shr .u64 a0 (wrap64 (8 * a1))) == 0)) else (none))) else (some false)) else (some false)
theorem octet_Fits.calls (a0 : Int) (a1 : Int) (r : Bool) (w : World) (h : octet_Fits.f a0 a1 = some r) :
  Calls Tryd.prog 89 #[.int .u64 a0, .int .i64 a1] w fun e w' => e = .returned (.bool r) ∧ Drawn0 w w' := by
 have H := h
 clear h
 unfold octet_Fits.f at H
 by_cases c3 : a1 ≥ 1
 ·rw [if_pos c3] at H
  have c3b0 : decide (1 ≤ a1) = true := decide_eq_true c3
  clear c3
  by_cases c4 : a1 ≤ 8
  ·rw [if_pos c4] at H
   have c4b0 := decide_eq_true c4
   clear c4
   by_cases c5 : a1 = 8
   ·rw [if_pos c5] at H
    obtain ⟨c5b0, c5b1⟩ := bt_ c5
    obtain rfl := Option.some.inj H
    go_enter Tryd.func89, Tryd.ntmps89
    go_wp2
    go_ret
    exact ⟨by first | rfl | (simp; done) | (simp [*]; done), by repeat (first | exact Drawn0.refl _ | apply Drawn0.step)⟩
   ·rw [if_neg c5] at H
    have c5b0 := beq_eq_false_iff_ne.mpr c5
    have c5b1 := bne_iff_ne.mpr c5
    obtain ⟨ji6, hji6⟩ := si_ ((wrap64 (8 * a1)))
    first | rw [hji6] at H | simp only [hji6] at H
    have hji6w : (IntKind.i64.wrap (8 * a1)) = ji6 := (i64_w _).trans hji6
    have c7 := ifc_ H
    replace H := ift_ H
    have c7b0 := eq_true c7
    have c7b1 := decide_eq_true c7
    clear c7
    obtain ⟨ji8, hji8⟩ := si_ ((shr .u64 a0 (ji6)))
    first | rw [hji8] at H | simp only [hji8] at H
    have hji8_ : (a0 / 2 ^ min (ji6).toNat 64) = ji8 := hji8
    have hji8z : (ji6) ≤ 64 → (a0 / 2 ^ (ji6).toNat) = ji8 := shr_small hji8
    obtain rfl := Option.some.inj H
    go_enter Tryd.func89, Tryd.ntmps89
    go_wp2
    go_ret
    exact ⟨by first | rfl | (simp; done) | (simp only [← hji6, ← hji8] <;> (first | rfl | simp)) | (simp [*]; done), by repeat (first | exact Drawn0.refl _ | apply Drawn0.step)⟩
  ·rw [if_neg c4] at H
   have c4b0 := decide_eq_false c4
   clear c4
   obtain rfl := Option.some.inj H
   go_enter Tryd.func89, Tryd.ntmps89
   go_wp2
   go_ret
   exact ⟨by first | rfl | (simp; done) | (simp [*]; done), by repeat (first | exact Drawn0.refl _ | apply Drawn0.step)⟩
 ·rw [if_neg c3] at H
  have c3b0 : decide (1 ≤ a1) = false := decide_eq_false c3
  clear c3
  obtain rfl := Option.some.inj H
  go_enter Tryd.func89, Tryd.ntmps89
  go_wp2
  go_ret
  exact ⟨by first | rfl | (simp; done) | (simp [*]; done), by repeat (first | exact Drawn0.refl _ | apply Drawn0.step)⟩
end Go.Proofs.YtgnonglkibhnhaaDoor.Print
