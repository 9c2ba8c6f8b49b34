-- laid together by this session's own program (wip/tools/merge.py) of texts that its program laid
import Derived.Test.YtgnonglkibhnhaaDoorZ
import Derived.Test.YtgnonglkibhnhaaDoorF69
import Derived.Test.YtgnonglkibhnhaaDoorM3
namespace Go.Proofs.YtgnonglkibhnhaaDoor.Print
open Go.RowKit Go.Proofs.YtgnonglkibhnhaaDoorW.PrintWords Go.Proofs.YtgnonglkibhnhaaDoorW.PrintLast Go.Proofs.YtgnonglkibhnhaaDoorW.PrintMore
attribute [local go_sem] a0u a0v a1m a1n Y7 Y8 a0w a0x
set_option linter.unusedVariables false
set_option linter.unusedSimpArgs false
set_option maxHeartbeats 16000000
set_option maxRecDepth 100000
def a1E.f (N7 : Int) (a0b : Int) (a3E : List Int) : Option (List Int) := (head_Put.f a0b true false).bind fun e4V => (if e4V.1.length + a3E.length < 140737488355328 then (some (e4V.1 ++ a3E)) else (none))
theorem a1E.calls (N7 : Int) (a0b : Int) (b1d : Option Addr) (b1e : Nat) (a3E : List Int) (r : List Int) (w : World) (b6b : Kd.C (Kd.int .u8) w b1d a3E.length a3E) (b6c : a3E.length ≤ b1e) (h : a1E.f N7 a0b a3E = some r) :
  Calls Tryd.prog 51 #[.agg #[.int .i64 N7, .int .i64 a0b, .slice b1d a3E.length b1e]] w fun e w' => ∃ v0_ : Value, e = .returned (v0_) ∧ Kd.R (Kd.int .u8) 5 w' w.heap.size (fun _ => True) v0_ r ∧ Below w.heap.size w w' := by
 have d48 := Tryd.underlying42
 have d49 := a_ b6b
 have e4F := a_ b6c
 clear b6b b6c
 have HB := a_ (Below.refl w.heap.size w)
 have H := h
 clear h
 unfold a1E.f at H
 replace H := Option.bind_eq_some_iff.mp H
 obtain ⟨⟨e8M, g74⟩, A20, H⟩ := H
 try dsimp only at H
 have A2 := a_ A20
 clear A20
 have c3 := a0o H
 replace H := U9 H
 have g75 := a_ c3
 clear c3
 obtain ⟨g76, c5w⟩ := is_ ((e8M ++ a3E))
 replace H : (some g76) = some r := by first | (rw [c5w]; with_reducible exact H) | (have H2_ := (Option.bind_some _ _).symm.trans H; rw [c5w]; with_reducible exact H2_) | (have H2_ := (Option.bind_some _ _).symm.trans H; with_reducible exact H2_) | with_reducible exact H | (rw [c5w]; exact H) | exact H
 have f6n := a_ c5w
 clear c5w
 obtain rfl := Option.some.inj H
 go_enter Tryd.func51, Tryd.ntmps51
 go_wp2_with (first | ((with_reducible refine P9 (N := 1) rfl ?_); refine a8y ?hg (N := 1) ?hd (cs := #[.int .i64 N7, .int .i64 a0b, .slice b1d a3E.length b1e]) (t := 42) ?hr ?_; (case hd => rfl); (case hg => rfl); (case hr => first | (go_simp; done) | (go_simp; rfl)); intro d0J hg w4 hbox hb; have b89 := a_ hbox; have h3I := a_ ((by rw [hg]; exact (y5 (by repeat (first | (with_reducible first | exact HB.out | apply C9 | apply o7 | apply D7) | exact HB.out))) : w.heap.size ≤ d0J)); have c5x := a_ ((by rw [hg]; exact (y5 (by repeat (first | (with_reducible first | exact HB.out | apply C9 | apply o7 | apply D7) | exact HB.out))) : w.heap.size ≤ d0J)); replace HB := a_ (G9 (by repeat (first | (with_reducible first | exact HB.out | apply C9 | apply o7 | apply D7) | exact HB.out)) hb); clear hb hbox hg; obtain ⟨b5x, b5y, b5z, b5A, b5B, b5C⟩ := a2G b89.out) | (refine gl_ (some 8) Tryd.func69 #[.int .i64 a0b, .bool true, .bool false] ?_ (hargs := by (try simp only [List.map_toArray, List.map_cons, List.map_nil]); first | done | rfl | (simp only [List.length_drop, List.length_take]; rfl)); (with_reducible refine (head_Put.calls a0b true false e8M g74 _ A2.out).mono ?_); rintro e w6 ⟨g77, rfl, ho0, hb⟩; refine ⟨_, rfl, ?_⟩; have d52 := a_ (Kd.X4 ho0 (y5 (by repeat (first | (with_reducible first | exact HB.out | apply C9 | apply o7 | apply D7 | refine o8 ?_ c5x.out) | exact HB.out)))); replace b89 := a_ (J3 (g := d0J) (o := .cells #[.int .i64 N7, .int .i64 a0b, .slice b1d a3E.length b1e] 42 (0, 0)) (by (with_reducible repeat (first | refine Q9 ?_ _ | refine L9 ?_ | refine a7o ?_ _)); exact b89.out) hb); replace HB := a_ (G9 (by repeat (first | (with_reducible first | exact HB.out | apply C9 | apply o7 | apply D7 | refine o8 ?_ c5x.out) | exact HB.out)) hb); (try clear hb); (try clear hb2); (try clear hk); (try clear hi); (try clear ho0); obtain ⟨e7T, e7U, g78, e7V, e7W, g79⟩ := a2G b89.out) | ((with_reducible refine G7 (b := .append) (xs := #[.tmp 11, .tmp 13]) rfl ?_); at_builtin; refine Kd.Q8 (Kd.int .u8) (w0 := w) w.heap.size rfl (.tmp 11) (.tmp 13) 22 5 (.int .u8 0) 1 rfl Tryd.underlying22 info5 rfl (by decide) (by omega) g77 e8M a3E _ _ _ (fun _ => True) (fun _ => False) rfl rfl ?aO ?aR (fun _ _ h => h) (fun _ h => h.elim) ?aF ?aB ?aS ?aL ?_; (case aR => repeat (first | exact (Kd.D6 d49.out HB.out) | (with_reducible refine Kd.a7C ?_ _) | (with_reducible refine Kd.a2V ?_ _) | (with_reducible refine Kd.a4l ?_))); (case aB => exact (by repeat (first | (with_reducible first | exact HB.out | apply C9 | apply o7 | apply D7 | refine o8 ?_ c5x.out) | exact HB.out))); (case aF => exact (fun _ _ => trivial)); (case aO => exact (by (with_reducible repeat (first | apply Kd.a6d | apply Kd.a1o | apply Kd.a4k)); exact d52.out)); (case aS => exact (y5 (by repeat (first | (with_reducible first | exact HB.out | apply C9 | apply o7 | apply D7 | refine o8 ?_ c5x.out) | exact HB.out)))); (case aL => have := g75.out; omega); intro h6h w8 ho hb hg hat; rw [← f6n.out] at ho; have f6o := a_ ho; replace b89 := a_ (F9 (g := d0J) (o := .cells #[.int .i64 N7, .int .i64 a0b, .slice b1d a3E.length b1e] 42 (0, 0)) (by (with_reducible repeat (first | refine Q9 ?_ _ | refine L9 ?_ | refine a7o ?_ _)); exact b89.out) hg (Kd.a6B d52.out b89.out (by decide))); replace HB := a_ hb; clear d52; clear ho hb hg hat))
 go_ret
 exact ⟨_, by first | rfl | (simp [P7, P8] <;> rfl) | (simp [*, P7, P8] <;> rfl), by (with_reducible repeat (first | apply Kd.a6d | apply Kd.a1o | apply Kd.a4k)); exact f6o.out, by repeat (first | (with_reducible first | exact HB.out | apply C9 | apply o7 | apply D7 | refine o8 ?_ c5x.out) | exact HB.out)⟩
def a1w.j0 : Nat → Bool → Int → Int → List Int → Option (Bool)
 | 0, _, _, _, _ => none
 | k + 1, x11, b0I, b7t, e1K => if x11 = true then (some false) else (if 0 ≤ b0I then (if b0I < 8 then (if ((J5 F8 b0I).f0 = true) then (if b7t = 0 then (some true) else (if ((J5 F8 b0I).f1) > 0 then ((a19.f (IntKind.u64.wrap (b7t)) ((J5 F8 b0I).f1)).bind fun e8N => (some e8N)) else (some false))) else (if (e1K.length : Int) > 0 then (some false) else (if b7t = 0 then (some true) else (if ((J5 F8 b0I).f1) > 0 then ((a19.f (IntKind.u64.wrap (b7t)) ((J5 F8 b0I).f1)).bind fun e8O => (some e8O)) else (some false))))) else (none)) else (none))
def a1w.f (k : Nat) (N7 : Int) (a0b : Int) (a3E : List Int) : Option (Bool) := if N7 < 1 then (a1w.j0 k true N7 a0b a3E) else (a1w.j0 k (decide (N7 > 7)) N7 a0b a3E)
theorem a1w.calls (k : Nat) (N7 : Int) (a0b : Int) (b1d : Option Addr) (b1e : Nat) (a3E : List Int) (r : Bool) (w : World) (hG0 : Kd.C b0s w (some ⟨0, 0, none⟩) 8 F8) (b6b : Kd.C (Kd.int .u8) w b1d a3E.length a3E) (b6c : a3E.length ≤ b1e) (h : a1w.f k N7 a0b a3E = some r) :
  Calls Tryd.prog 71 #[.agg #[.int .i64 N7, .int .u32 a0b, .slice b1d a3E.length b1e]] w fun e w' => e = .returned (.bool r) ∧ Below w.heap.size w w' := by
 have e0M := Tryd.underlying58
 have e4Q := Tryd.underlying131
 have d49 := a_ b6b
 have e4F := a_ b6c
 clear b6b b6c
 have a4Z := a_ hG0
 clear hG0
 have HB := a_ (Below.refl w.heap.size w)
 have H := h
 clear h
 unfold a1w.f at H
 have HC2 := a_ H
 clear H
 go_enter Tryd.func71, Tryd.ntmps71
 go_upto_region 1 with (first | ((with_reducible refine P9 (N := 1) rfl ?_); (try (refine U8 (by rfl) ?_; dsimp only)); refine be_ 1 #[.int .i64 N7, .int .u32 a0b, .slice b1d a3E.length b1e] 58 ?_; intro f6p hg w3 hbox hb; have a1B := a_ hbox; have h3J := lb_ HB hg; replace HB := W9 HB hb; clear hb hbox hg))
 go_cut [11] (fun v11 wc => ∃ (kq : Nat) (d0K : Bool), v11 = .bool d0K ∧ Aside0 (a1w.j0 kq d0K N7 a0b a3E = some r) ∧ Aside0 (kq ≤ k) ∧ Aside0 (wc.heap[f6p]? = some (.cells #[.int .i64 N7, .int .u32 a0b, (.slice b1d a3E.length b1e)] 58 (0, 0))) ∧ Aside0 (Below w.heap.size w wc))
 case first =>
  have H := HC2.out
  clear HC2
  by_cases c4 : N7 < 1
  ·rw [if_pos c4] at H
   have a6r := decide_eq_true c4
   clear c4
   have H' := a_ H
   clear H
   obtain ⟨b5x, b5y, b5z, b5A, b5B, b5C⟩ := a2G a1B.out
   go_wp2
   go_meet
   case rel => exact ⟨_, (true), (by rfl), H', ⟨by (omega)⟩, ⟨by exact a1B.out⟩, ⟨by exact HB.out⟩⟩
  ·rw [if_neg c4] at H
   have a6r := decide_eq_false c4
   clear c4
   have H' := a_ H
   clear H
   obtain ⟨e70, e71, e72, e73, e74, e75⟩ := a2G a1B.out
   go_wp2
   go_meet
   case rel => exact ⟨_, (decide (N7 > 7)), (by rfl), H', ⟨by (omega)⟩, ⟨by exact a1B.out⟩, ⟨by exact HB.out⟩⟩
 case rest =>
  clear HC2
  obtain ⟨kq, d0K, rfl, HA, HJ1, a1B, HB⟩ := hcut
  cases kq with
  | zero => exact absurd HA.out (by simp [a1w.j0])
  | succ kj1 =>
   have H := HA.out
   clear HA
   simp only [a1w.j0] at H
   by_cases c7 : d0K = true
   ·subst c7
    rw [if_pos rfl] at H
    obtain rfl := Option.some.inj H
    go_wp2
    go_ret
    exact ⟨by (rfl), by exact HB.out⟩
   ·cases nt_ c7
    rw [if_neg a5a] at H
    have b8l := a4w H
    replace H := U9 H
    have b5i := a4w H
    replace H := U9 H
    obtain ⟨g8a, d53⟩ : ∃ b_ : Bool, b_ = ((J5 F8 N7).f0) := ⟨_, rfl⟩
    rw [← d53] at H
    have b9a := a_ d53
    clear d53
    by_cases c11 : (g8a = true)
    ·subst c11
     rw [if_pos rfl] at H
     by_cases c12 : a0b = 0
     ·rw [if_pos c12] at H
      obtain ⟨b8m, c0s⟩ := bt_ c12
      obtain rfl := Option.some.inj H
      obtain ⟨b7f, b7g, c2h, b7h, b7i, c2i⟩ := a2G a1B.out
      have a7s : 0 ≤ (N7 : Int) := Y9
      have a5B : N7 < (F8.length : Int) := of_decide_eq_true (by (assumption))
      obtain ⟨b0g, e294, Z8, a02⟩ := a7B a4Z.out N7 a7s a5B
      (try rw [← b9a.out] at Z8)
      obtain rfl : (⟨0, 0, none⟩ : Addr) = b0g := (by injection e294)
      (simp only [add_plain] at Z8)
      (simp only [add_plain] at a02)
      replace Z8 := cb_ HB Z8
      replace a02 := cb_ HB a02
      replace a7s := eq_true a7s
      replace a5B := eq_true a5B
      have c0y : (N7 < 8) = True := a5B
      go_wp2_with (first | ((with_reducible refine P9 (N := 3) rfl ?_); (try (refine U8 (by rfl) ?_; dsimp only)); refine be_ 3 #[.bool false, .int .i64 0] 131 ?_; intro c0z hg w14 hbox hb; have b0h := a_ hbox; have b0i := lb_ HB hg; obtain ⟨a2J, a2K⟩ := nn_ a1B hg; replace a1B := U5 a1B hb; replace HB := W9 HB hb; clear hb hbox hg; have h3K := a2K.out; have h3L := a2J.out; obtain ⟨c96, c98, d0a, d0b⟩ := a3n b0h.out; obtain ⟨e0Z, e00, e02, e03, e04, e05⟩ := a2G a1B.out))
      go_ret
      exact ⟨by (rfl), by repeat (with_reducible first | exact HB.out | refine o8 ?_ b0i.out)⟩
     ·rw [if_neg c12] at H
      have b8m := beq_eq_false_iff_ne.mpr c12
      have c0s := bne_iff_ne.mpr c12
      by_cases c18 : ((J5 F8 N7).f1) > 0
      ·rw [if_pos c18] at H
       have c4c := decide_eq_true c18
       clear c18
       replace H := Option.bind_eq_some_iff.mp H
       obtain ⟨e8N, d3f, H⟩ := H
       try dsimp only at H
       have A19 := a_ d3f
       clear d3f
       obtain rfl := Option.some.inj H
       obtain ⟨d0L, d0M, d0N, d0O, d0P, d0Q⟩ := a2G a1B.out
       have a7s : 0 ≤ (N7 : Int) := Y9
       have a5B : N7 < (F8.length : Int) := of_decide_eq_true (by (assumption))
       obtain ⟨b0g, e294, Z8, a02⟩ := a7B a4Z.out N7 a7s a5B
       (try rw [← b9a.out] at Z8)
       obtain rfl : (⟨0, 0, none⟩ : Addr) = b0g := (by injection e294)
       (simp only [add_plain] at Z8)
       (simp only [add_plain] at a02)
       replace Z8 := cb_ HB Z8
       replace a02 := cb_ HB a02
       replace a7s := eq_true a7s
       replace a5B := eq_true a5B
       have c0y : (N7 < 8) = True := a5B
       go_wp2_with (first | ((with_reducible refine P9 (N := 3) rfl ?_); (try (refine U8 (by rfl) ?_; dsimp only)); refine be_ 3 #[.bool false, .int .i64 0] 131 ?_; intro c0z hg w21 hbox hb; have b0h := a_ hbox; have b0i := lb_ HB hg; obtain ⟨a2J, a2K⟩ := nn_ a1B hg; replace a1B := U5 a1B hb; replace HB := W9 HB hb; clear hb hbox hg; have h3M := a2K.out; have h3N := a2J.out; obtain ⟨e1h, e1i, e1j, e1k⟩ := a3n b0h.out; obtain ⟨b7j, b7k, c2u, b7l, b7m, c2w⟩ := a2G a1B.out) | (go_at_call 89; (with_reducible refine (a19.calls (IntKind.u64.wrap (a0b)) ((J5 F8 N7).f1) e8N _ A19.out).mono ?_); rintro e w' ⟨rfl, ⟨nd, rfl⟩⟩))
       go_ret
       exact ⟨by (rfl), by repeat (with_reducible first | exact HB.out | apply o7 | refine o8 ?_ b0i.out)⟩
      ·rw [if_neg c18] at H
       have c4c := decide_eq_false c18
       clear c18
       obtain rfl := Option.some.inj H
       obtain ⟨e0P, e0Q, g04, e0R, e0S, g05⟩ := a2G a1B.out
       have a7s : 0 ≤ (N7 : Int) := Y9
       have a5B : N7 < (F8.length : Int) := of_decide_eq_true (by (assumption))
       obtain ⟨b0g, e294, Z8, a02⟩ := a7B a4Z.out N7 a7s a5B
       (try rw [← b9a.out] at Z8)
       obtain rfl : (⟨0, 0, none⟩ : Addr) = b0g := (by injection e294)
       (simp only [add_plain] at Z8)
       (simp only [add_plain] at a02)
       replace Z8 := cb_ HB Z8
       replace a02 := cb_ HB a02
       replace a7s := eq_true a7s
       replace a5B := eq_true a5B
       have c0y : (N7 < 8) = True := a5B
       go_wp2_with (first | ((with_reducible refine P9 (N := 3) rfl ?_); (try (refine U8 (by rfl) ?_; dsimp only)); refine be_ 3 #[.bool false, .int .i64 0] 131 ?_; intro c0z hg w26 hbox hb; have b0h := a_ hbox; have b0i := lb_ HB hg; obtain ⟨a2J, a2K⟩ := nn_ a1B hg; replace a1B := U5 a1B hb; replace HB := W9 HB hb; clear hb hbox hg; have f5A := a2K.out; have f5B := a2J.out; obtain ⟨b2k, b2l, b2m, b2n⟩ := a3n b0h.out; obtain ⟨e1L, e1M, e1N, e1O, e1P, e1Q⟩ := a2G a1B.out))
       go_ret
       exact ⟨by (rfl), by repeat (with_reducible first | exact HB.out | refine o8 ?_ b0i.out)⟩
    ·cases nt_ c11
     rw [if_neg a5a] at H
     by_cases c30 : (a3E.length : Int) > 0
     ·rw [if_pos c30] at H
      have f6q := decide_eq_true c30
      have f6r : decide (0 < a3E.length) = true := decide_eq_true (by omega)
      clear c30
      obtain rfl := Option.some.inj H
      obtain ⟨b6S, b6T, b6U, b6V, b6W, b6X⟩ := a2G a1B.out
      have a7s : 0 ≤ (N7 : Int) := Y9
      have a5B : N7 < (F8.length : Int) := of_decide_eq_true (by (assumption))
      obtain ⟨b0g, e294, Z8, a02⟩ := a7B a4Z.out N7 a7s a5B
      (try rw [← b9a.out] at Z8)
      obtain rfl : (⟨0, 0, none⟩ : Addr) = b0g := (by injection e294)
      (simp only [add_plain] at Z8)
      (simp only [add_plain] at a02)
      replace Z8 := cb_ HB Z8
      replace a02 := cb_ HB a02
      replace a7s := eq_true a7s
      replace a5B := eq_true a5B
      have c0y : (N7 < 8) = True := a5B
      go_wp2_with (first | ((with_reducible refine P9 (N := 3) rfl ?_); (try (refine U8 (by rfl) ?_; dsimp only)); refine be_ 3 #[.bool false, .int .i64 0] 131 ?_; intro c0z hg w32 hbox hb; have b0h := a_ hbox; have b0i := lb_ HB hg; obtain ⟨a2J, a2K⟩ := nn_ a1B hg; replace a1B := U5 a1B hb; replace HB := W9 HB hb; clear hb hbox hg; have f07 := a2K.out; have f08 := a2J.out; obtain ⟨c8K, c8L, c8M, c8N⟩ := a3n b0h.out; obtain ⟨g06, g07, g08, g09, g1a, g1b⟩ := a2G a1B.out))
      go_ret
      exact ⟨by (rfl), by repeat (with_reducible first | exact HB.out | refine o8 ?_ b0i.out)⟩
     ·rw [if_neg c30] at H
      have f6q := decide_eq_false c30
      have f6r : decide (0 < a3E.length) = false := decide_eq_false (by omega)
      clear c30
      by_cases c36 : a0b = 0
      ·rw [if_pos c36] at H
       obtain ⟨f6s, f6t⟩ := bt_ c36
       obtain rfl := Option.some.inj H
       obtain ⟨g1c, g1d, g1e, g1f, g1g, g1h⟩ := a2G a1B.out
       have a7s : 0 ≤ (N7 : Int) := Y9
       have a5B : N7 < (F8.length : Int) := of_decide_eq_true (by (assumption))
       obtain ⟨b0g, e294, Z8, a02⟩ := a7B a4Z.out N7 a7s a5B
       (try rw [← b9a.out] at Z8)
       obtain rfl : (⟨0, 0, none⟩ : Addr) = b0g := (by injection e294)
       (simp only [add_plain] at Z8)
       (simp only [add_plain] at a02)
       replace Z8 := cb_ HB Z8
       replace a02 := cb_ HB a02
       replace a7s := eq_true a7s
       replace a5B := eq_true a5B
       have c0y : (N7 < 8) = True := a5B
       go_wp2_with (first | ((with_reducible refine P9 (N := 3) rfl ?_); (try (refine U8 (by rfl) ?_; dsimp only)); refine be_ 3 #[.bool false, .int .i64 0] 131 ?_; intro c0z hg w38 hbox hb; have b0h := a_ hbox; have b0i := lb_ HB hg; obtain ⟨a2J, a2K⟩ := nn_ a1B hg; replace a1B := U5 a1B hb; replace HB := W9 HB hb; clear hb hbox hg; have f5G := a2K.out; have f5H := a2J.out; obtain ⟨e1R, e1S, e1T, e1U⟩ := a3n b0h.out; obtain ⟨d0k, d0l, g1i, d0m, d0n, g1j⟩ := a2G a1B.out))
       go_ret
       exact ⟨by (rfl), by repeat (with_reducible first | exact HB.out | refine o8 ?_ b0i.out)⟩
      ·rw [if_neg c36] at H
       have f6s := beq_eq_false_iff_ne.mpr c36
       have f6t := bne_iff_ne.mpr c36
       by_cases c42 : ((J5 F8 N7).f1) > 0
       ·rw [if_pos c42] at H
        have f6u := decide_eq_true c42
        clear c42
        replace H := Option.bind_eq_some_iff.mp H
        obtain ⟨e8O, f6v, H⟩ := H
        try dsimp only at H
        have A43 := a_ f6v
        clear f6v
        obtain rfl := Option.some.inj H
        obtain ⟨c8O, c8P, e1V, c8Q, c8R, e1W⟩ := a2G a1B.out
        have a7s : 0 ≤ (N7 : Int) := Y9
        have a5B : N7 < (F8.length : Int) := of_decide_eq_true (by (assumption))
        obtain ⟨b0g, e294, Z8, a02⟩ := a7B a4Z.out N7 a7s a5B
        (try rw [← b9a.out] at Z8)
        obtain rfl : (⟨0, 0, none⟩ : Addr) = b0g := (by injection e294)
        (simp only [add_plain] at Z8)
        (simp only [add_plain] at a02)
        replace Z8 := cb_ HB Z8
        replace a02 := cb_ HB a02
        replace a7s := eq_true a7s
        replace a5B := eq_true a5B
        have c0y : (N7 < 8) = True := a5B
        go_wp2_with (first | ((with_reducible refine P9 (N := 3) rfl ?_); (try (refine U8 (by rfl) ?_; dsimp only)); refine be_ 3 #[.bool false, .int .i64 0] 131 ?_; intro c0z hg w45 hbox hb; have b0h := a_ hbox; have b0i := lb_ HB hg; obtain ⟨a2J, a2K⟩ := nn_ a1B hg; replace a1B := U5 a1B hb; replace HB := W9 HB hb; clear hb hbox hg; have h3O := a2K.out; have h3P := a2J.out; obtain ⟨g1l, g1m, g1n, g1p⟩ := a3n b0h.out; obtain ⟨g1q, g1r, g1s, g1t, g1u, g1v⟩ := a2G a1B.out) | (go_at_call 89; (with_reducible refine (a19.calls (IntKind.u64.wrap (a0b)) ((J5 F8 N7).f1) e8O _ A43.out).mono ?_); rintro e w' ⟨rfl, ⟨nd, rfl⟩⟩))
        go_ret
        exact ⟨by (rfl), by repeat (with_reducible first | exact HB.out | apply o7 | refine o8 ?_ b0i.out)⟩
       ·rw [if_neg c42] at H
        have f6u := decide_eq_false c42
        clear c42
        obtain rfl := Option.some.inj H
        obtain ⟨c9G, c9H, c9I, c9J, c9K, c9L⟩ := a2G a1B.out
        have a7s : 0 ≤ (N7 : Int) := Y9
        have a5B : N7 < (F8.length : Int) := of_decide_eq_true (by (assumption))
        obtain ⟨b0g, e294, Z8, a02⟩ := a7B a4Z.out N7 a7s a5B
        (try rw [← b9a.out] at Z8)
        obtain rfl : (⟨0, 0, none⟩ : Addr) = b0g := (by injection e294)
        (simp only [add_plain] at Z8)
        (simp only [add_plain] at a02)
        replace Z8 := cb_ HB Z8
        replace a02 := cb_ HB a02
        replace a7s := eq_true a7s
        replace a5B := eq_true a5B
        have c0y : (N7 < 8) = True := a5B
        go_wp2_with (first | ((with_reducible refine P9 (N := 3) rfl ?_); (try (refine U8 (by rfl) ?_; dsimp only)); refine be_ 3 #[.bool false, .int .i64 0] 131 ?_; intro c0z hg w50 hbox hb; have b0h := a_ hbox; have b0i := lb_ HB hg; obtain ⟨a2J, a2K⟩ := nn_ a1B hg; replace a1B := U5 a1B hb; replace HB := W9 HB hb; clear hb hbox hg; have h3R := a2K.out; have h3S := a2J.out; obtain ⟨e1X, e1Y, e1Z, e2a⟩ := a3n b0h.out; obtain ⟨g1w, g1x, g1y, g1z, g1A, g1B⟩ := a2G a1B.out))
        go_ret
        exact ⟨by (rfl), by repeat (with_reducible first | exact HB.out | refine o8 ?_ b0i.out)⟩
def D5.l0 : Nat → List Int → Int → Int → Option (List Int)
 | 0, _, _, _ => none
 | k + 1, x0, x2, x3 => if x2 < x3 then (if 0 ≤ x3 then (if x3 < (x0.length : Int) then (if 0 ≤ x2 then (if x2 < (x0.length : Int) then (D5.l0 k ((x0.set (x2 : Int).toNat (rd x0 x3)).set (x3 : Int).toNat (rd x0 x2)) (wrap64 (x2 + 1)) (wrap64 (x3 - 1))) else (none)) else (none)) else (none)) else (none)) else (some x0)
def D5.f (k : Nat) (l0 : List Int) : Option (List Int) := D5.l0 k l0 0 (wrap64 ((l0.length : Int) - 1))
def D5.T3 : Bool × List (List Nat × List Nat) := (true, [([], []), ([], []), ([], []), ([], []), ([], []), ([], []), ([4, 5], [4, 5]), ([6], [6]), ([], []), ([], []), ([8, 9], [8, 9]), ([10], [10]), ([0, 1, 0, 1, 4, 5, 6, 7, 11], [0, 1]), ([12, 7, 0, 1, 4, 5, 6, 7, 11], [7, 12]), ([2, 3, 0, 1, 2, 3, 4, 5, 6, 7, 8, 9, 10, 11, 12, 13], [2, 3]), ([14, 11, 13, 0, 1, 2, 3, 4, 5, 6, 7, 8, 9, 10, 11, 12, 13], [11, 14])])
def D5.B3 : List Nat := [0, 0, 0, 0, 0, 0, 48, 112, 0, 0, 768, 1792, 4083, 8179, 16383, 32767]
theorem D5.g8b : a2N .any (opsOf Tryd.f90 3) = D5.T3 := by kernel_rfl
theorem D5.f6w : a2t D5.T3.2 D5.B3 = true := by kernel_rfl
theorem D5.calls (k : Nat) (P0_ : Nat → Prop) (b0J : Value) (l0 : List Int) (r : List Int) (w0 w : World) (hB : Below w0.heap.size w0 w) (ho0 : Kd.R (Kd.int .u8) 5 w w0.heap.size P0_ b0J l0) (h : D5.f k l0 = some r) :
  Calls Tryd.prog 90 #[b0J] w fun e w' => e = .returned (.tuple #[]) ∧ Kd.R (Kd.int .u8) 5 w' w0.heap.size (fun k_ => (P0_ k_ ∨ w.heap.size ≤ k_)) b0J r ∧ Below w0.heap.size w0 w' ∧ Kept w w' (fun k_ => P0_ k_) := by
 have HO0 := a_ (show Kd.R (Kd.int .u8) 5 w w0.heap.size (fun k_ => (P0_ k_ ∨ w.heap.size ≤ k_)) b0J l0 from Kd.D8 ho0 (fun k_ hk => (.inl hk)))
 have HK := a_ (Kept.refl w (fun k_ => P0_ k_))
 have HW0 := a_ hB.size
 have HB := a_ hB
 clear hB
 have H := h
 clear h
 unfold D5.f at H
 have H' := a_ H
 clear H
 obtain ⟨Ao2, co2, eo2⟩ := Kd.J4 HO0.out
 subst eo2
 go_enter Tryd.func90, Tryd.ntmps90
 go_wp2
 go_loopg [2, 3] k (fun kq v2 v3 w' => ∃ (a7a : List Int) (b1C : Int) (a6Z : Int), v2 = .int .i64 b1C ∧ v3 = .int .i64 a6Z ∧ Aside0 (D5.l0 kq a7a b1C a6Z = some r) ∧ Aside0 (kq ≤ k) ∧ Aside0 (Kd.R (Kd.int .u8) 5 w' w0.heap.size (fun k_ => (P0_ k_ ∨ w.heap.size ≤ k_)) (.slice Ao2 l0.length co2) a7a) ∧ Aside0 (Kept w w' (fun k_ => P0_ k_)) ∧ Aside0 (Below w0.heap.size w0 w'))
 case atStart => exact ⟨(l0), (0), (wrap64 ((l0.length : Int) - 1)), (by rfl), (by rfl), H', ⟨Nat.le_refl _⟩, ⟨by exact HO0.out⟩, ⟨by exact HK.out⟩, ⟨by exact HB.out⟩⟩
 case round =>
  clear H'
  obtain ⟨a7a, b1C, a6Z, rfl, rfl, HA, HK1, b6H, HK, HB⟩ := hrel
  have d0R := (Kd.G5 b6H.out).1
  rw [d0R] at b6H
  (try simp only [d0R])
  cases gk with
  | zero => exact absurd HA.out (by simp [D5.l0])
  | succ k1 =>
   have H := HA.out
   clear HA
   simp only [D5.l0] at H
   by_cases c3 : b1C < a6Z
   ·rw [if_pos c3] at H
    have a5g := decide_eq_true c3
    clear c3
    have a6r := a4w H
    replace H := U9 H
    have a9g := a4w H
    replace H := U9 H
    have a9K := a4w H
    replace H := U9 H
    have a9h := a4w H
    replace H := U9 H
    obtain ⟨g8c, d54⟩ := is_ ((a7a.set (b1C : Int).toNat (rd a7a a6Z)))
    rw [← d54] at H
    have f6x := a_ d54
    clear d54
    obtain ⟨g8d, d55⟩ := is_ ((g8c.set (a6Z : Int).toNat (rd a7a b1C)))
    rw [← d55] at H
    have f6y := a_ d55
    clear d55
    have H' := a_ H
    clear H
    try go_wp2
    replace b6H := a_ (Kd.a4k b6H.out)
    replace HK := a_ (Kept.drew HK.out)
    replace HB := a_ (D7 HB.out)
    have h6o : (0 ≤ (a6Z : Int)) = True := et_
    have h6p : (a6Z < (a7a.length : Int)) = True := et_
    obtain ⟨f6z, e298, c2M⟩ := Kd.a0W (Kd.G5 b6H.out).2.2 a6Z Y9 Y9
    cases e298
    have h6q : (0 ≤ (b1C : Int)) = True := et_
    have h6r : (b1C < (a7a.length : Int)) = True := et_
    obtain ⟨f6A, e299, c2N⟩ := Kd.a0W (Kd.G5 b6H.out).2.2 b1C Y9 Y9
    obtain rfl : f6z = f6A := (by injection e299)
    have p8 : 0 ≤ (b1C : Int) := Y9
    have q8 : (b1C : Int) < ((a7a.length : Int) : Int) := Y9
    obtain ⟨go8, co8, eo8, gb8, gl8, cl8, HG8⟩ := Kd.c1E b6H.out (by omega)
    (cases eo8)
    have GB8 := a_ gb8
    have GG8 := a_ HG8
    clear gb8 gl8 HG8
    have f6B := a_ (show (P0_ go8 ∨ w.heap.size ≤ go8) from (b6H.out.1 _ rfl))
    (simp only [add_plain] at c2M)
    (simp only [add_plain] at c2N)
    obtain ⟨f6C, c9p⟩ := Kd.c1F 0 b6H.out (b1C : Int) p8 q8
    replace p8 := eq_true p8
    replace q8 := eq_true q8
    have e8P := Kd.d37 b6H.out (b1C : Int) (rd a7a a6Z)
    rw [← f6x.out] at e8P
    have e8Q := a_ e8P
    clear e8P
    have p9 : (0 ≤ (a6Z : Int)) = True := et_
    have q9 : ((a6Z : Int) < ((a7a.length : Int) : Int)) = True := et_
    obtain ⟨f6D, d5T⟩ := Kd.c1F 0 e8Q.out (a6Z : Int) Y9 Y9
    have e8R := Kd.d37 e8Q.out (a6Z : Int) (rd a7a b1C)
    rw [← f6y.out] at e8R
    have f6E := a_ e8R
    clear e8R
    refine a4n (n := 16) (S := fun w' => w'.cell? ⟨go8, (a6Z).toNat, none⟩ = some (.int .u8 (rd a7a a6Z)) ∧ w'.cell? ⟨go8, (b1C).toNat, none⟩ = some (.int .u8 (rd a7a b1C))) (ds := [13, 15]) (bo_ 16 0) (by kernel_rfl) rfl rfl ⟨c2M, c2N⟩ (fun hHeld => ?_); refine a3g D5.g8b D5.f6w (fun X5 HW_ => ?_)
    generalize wr.drew = w10 at b6H HK HB GG8 e8Q f6E c9p d5T c2M c2N f6C f6D hHeld ⊢
    refine pu_ 0 (some 14) X5 ?_
    refine pu_ 1 (some 15) X5 ?_
    refine pu_ 2 (some 16) X5 ?_
    refine pu_ 3 (some 17) X5 ?_
    refine pu_ 4 (some 18) X5 ?_
    refine pu_ 5 (some 19) X5 ?_
    refine pu_ 6 (some 20) X5 ?_
    refine pu_ 8 (some 22) X5 ?_
    refine pu_ 9 (some 23) X5 ?_
    refine pu_ 10 (some 24) X5 ?_
    refine a1G (i := 7) (N := some 21) (v := ?_) (a' := ?_) (bo_ 16 2047) rfl rfl (a0S X5.out HW_.out (by kernel_rfl)) (fun _ _ _ h => h) (Or.inl ⟨by rfl, ?_⟩) hHeld ?_ ?_
    rotate_left
    ·rintro w' ⟨s0, s1⟩
     go_simp
     with_reducible rfl
    rotate_left
    ·go_simp
     rfl
    refine a1G (i := 11) (N := some 25) (v := ?_) (a' := ?_) (bo_ 16 4095) rfl rfl (a0S X5.out HW_.out (by kernel_rfl)) (fun _ _ _ h => h) (Or.inl ⟨by rfl, ?_⟩) hHeld ?_ ?_
    rotate_left
    ·rintro w' ⟨s0, s1⟩
     go_simp
     with_reducible rfl
    rotate_left
    ·go_simp
     rfl
    refine pu_ 12 (some 26) X5 ?_
    refine c4z (i := 13) (N := none) (bo_ 16 16383) rfl rfl (a2c X5.out (by kernel_rfl)) (by decide) (fun K hK => ?_)
    refine b2H (w1 := ?_) (by rfl) rfl ?_ ?_
    rotate_left
    ·go_simp
     rfl
    refine hK.out _ _ ?_
    clear hK K
    refine pu_ 14 (some 27) X5 ?_
    refine c4z (i := 15) (N := none) (bo_ 16 65535) rfl rfl (a2c X5.out (by kernel_rfl)) (by decide) (fun K hK => ?_)
    refine b2H (w1 := ?_) (by rfl) rfl ?_ ?_
    rotate_left
    ·go_simp
     rfl
    refine hK.out _ _ ?_
    clear hK K
    refine a7d (a6D X5.out (by kernel_rfl)) ?_
    try go_wp2
    (try simp only [← d0R])
    go_roundg k1
    case measure => have := HK1.out; omega
    case rel => exact ⟨(g8d), (wrap64 (b1C + 1)), (wrap64 (a6Z - 1)), (by rfl), (by rfl), H', ⟨by have := HK1.out; omega⟩, ⟨by (try simp only [d0R]); exact f6E.out⟩, ⟨by repeat (with_reducible first | exact HK.out | refine Kept.setCell ?_ f6B.out _)⟩, ⟨by repeat (with_reducible first | exact HB.out | refine o8 ?_ GB8.out)⟩⟩
   ·rw [if_neg c3] at H
    have a5g := decide_eq_false c3
    clear c3
    obtain rfl := Option.some.inj H
    go_wp2
    (go_end0)
    exact ⟨by (rfl), b6H.out, by exact HB.out, by exact HK.out⟩
def a0O.l0 : Nat → Int → Bool → List Int → Int → Int → Option (List Int × Bool)
 | 0, _, _, _, _, _ => none
 | k + 1, x0, x2, x8, x16, x17 => if x17 < x16 then (if 0 ≤ (wrap64 (8 * x17)) then (if 0 ≤ x17 then (if x17 < (x8.length : Int) then (a0O.l0 k x0 x2 (x8.set (x17 : Int).toNat ((shr .u64 x0 (wrap64 (8 * x17))) % 256)) x16 (wrap64 (x17 + 1))) else (none)) else (none)) else (none)) else (if x2 = true then ((D5.f k x8).bind fun e8S => (some (e8S, true))) else (some (x8, true)))
def a0O.f (k : Nat) (a0 : Int) (a1 : Int) (a2 : Bool) : Option (List Int × Bool) := (a19.f a0 a1).bind fun e8T => (if e8T = true then (if 0 ≤ a1 then (if (a1 : Int).toNat ≤ 281474976710656 then (a0O.l0 k a0 a2 (List.replicate (a1 : Int).toNat 0) a1 0) else (none)) else (none)) else (some (([] : List Int), false)))
theorem a0O.calls (k : Nat) (a0 : Int) (a1 : Int) (a2 : Bool) (r1 : List Int) (r2 : Bool) (w : World) (h : a0O.f k a0 a1 a2 = some (r1, r2)) :
  Calls Tryd.prog 72 #[.int .u64 a0, .int .i64 a1, .bool a2] w fun e w' => ∃ v0_ : Value, e = .returned (.tuple #[v0_, .bool r2]) ∧ Kd.R (Kd.int .u8) 5 w' w.heap.size (fun _ => True) v0_ r1 ∧ Below w.heap.size w w' := by
 have HB := a_ (Below.refl w.heap.size w)
 have H := h
 clear h
 unfold a0O.f at H
 replace H := Option.bind_eq_some_iff.mp H
 obtain ⟨e8T, A40, H⟩ := H
 try dsimp only at H
 have A4 := a_ A40
 clear A40
 by_cases c5 : e8T = true
 ·subst c5
  rw [if_pos rfl] at H
  have c6 := a0o H
  replace H := U9 H
  have a9K := eq_true c6
  have b8v := decide_eq_true c6
  clear c6
  have c7 := a0o H
  replace H := U9 H
  have a9h := eq_true c7
  have b5j := decide_eq_true c7
  clear c7
  obtain ⟨g8f, d56⟩ := is_ ((List.replicate (a1 : Int).toNat 0) : List Int)
  rw [← d56] at H
  have f6F := a_ d56
  clear d56
  have H' := a_ H
  clear H
  go_enter Tryd.func72, Tryd.ntmps72
  go_wp2_with (first | (refine gl_ (some 12) Tryd.func89 #[.int .u64 a0, .int .i64 a1] ?_; (with_reducible refine (a19.calls a0 a1 true _ A4.out).mono ?_); rintro e w' ⟨rfl, ⟨nd, rfl⟩⟩; refine ⟨_, rfl, ?_⟩) | ((with_reducible refine P9 (N := 15) rfl ?_); refine Kd.e6I (Kd.int .u8) _ 5 rfl (N := 15) rfl 22 _ _ rfl a1 rfl rfl Tryd.underlying22 (.int .u8 0) 1 info5 rfl (by decide) (by omega) 0 (ok := fun _ => True) (okp := fun _ => True) rfl (fun _ hk => hk) trivial (Y9) (Nat.le_trans (Nat.mul_le_mul_right _ (Y9 : a1.toNat ≤ 281474976710656)) (by omega)) (Below.refl _ _) (Nat.le_refl _) ?_; intro g8g w8 ho9 hb hg_ a1q; clear hg_ a1q; (rw [← f6F.out] at ho9); have f6G := a_ (Kd.X4 ho9 (y5 (by repeat (with_reducible first | exact HB.out | apply o7)))); replace HB := a_ (G9 (by repeat (with_reducible first | exact HB.out | apply o7)) hb); clear hb ho9))
  go_loopg [17] k (fun kq v17 w' => ∃ (Z7 : List Int) (b0j : Int), v17 = .int .i64 b0j ∧ Aside0 (a0O.l0 kq a0 a2 Z7 a1 b0j = some (r1, r2)) ∧ Aside0 (kq ≤ k) ∧ Aside0 (Kd.R (Kd.int .u8) 5 w' w.heap.size (fun _ => True) g8g Z7) ∧ Aside0 (Below w.heap.size w w'))
  case atStart => exact ⟨(g8f), (0), (by rfl), H', ⟨Nat.le_refl _⟩, ⟨by exact f6G.out⟩, ⟨by exact HB.out⟩⟩
  case round =>
   clear H'
   try clear a9K
   try clear b8v
   try clear a9h
   try clear b5j
   obtain ⟨Z7, b0j, rfl, HA, HK1, a7R, HB⟩ := hrel
   cases gk with
   | zero => exact absurd HA.out (by simp [a0O.l0])
   | succ k1 =>
    have H := HA.out
    clear HA
    simp only [a0O.l0] at H
    by_cases c10 : b0j < a1
    ·rw [if_pos c10] at H
     have b34 := decide_eq_true c10
     clear c10
     obtain ⟨d57, e4W⟩ := si_ ((wrap64 (8 * b0j)))
     rw [e4W] at H
     have g8i : (IntKind.i64.wrap (8 * b0j)) = d57 := (a6w _).trans e4W
     have c12 := a0o H
     replace H := U9 H
     have b8m := eq_true c12
     have c0s := decide_eq_true c12
     clear c12
     obtain ⟨d58, d59⟩ := si_ ((shr .u64 a0 (d57)))
     rw [d59] at H
     have g8j : (a0 / 2 ^ min (d57).toNat 64) = d58 := d59
     have g8k : (d57) ≤ 64 → (a0 / 2 ^ (d57).toNat) = d58 := b5h d59
     have d5r := a4w H
     replace H := U9 H
     have c9x := a4w H
     replace H := U9 H
     obtain ⟨f6H, d6a⟩ := is_ ((Z7.set (b0j : Int).toNat ((d58) % 256)) : List Int)
     rw [← d6a] at H
     have f6I := a_ d6a
     clear d6a
     have H' := a_ H
     clear H
     have p16 : 0 ≤ (b0j : Int) := Y9
     have q16 : (b0j : Int) < ((Z7.length : Int) : Int) := Y9
     obtain ⟨e8U, d6b, e8V, f6J, g8l, h6v, f6K⟩ := Kd.c1E a7R.out (by omega)
     (cases e8V)
     have g8m := a_ f6J
     have h6x := a_ f6K
     clear f6J g8l f6K
     obtain ⟨g8n, e8I⟩ := Kd.c1F 0 a7R.out (b0j : Int) p16 q16
     replace p16 := eq_true p16
     replace q16 := eq_true q16
     have e8W := Kd.e6O a7R.out (b0j : Int) ((d58) % 256)
     go_wp2_with (first | ((with_reducible refine a5b (t := 5) (p := 27) rfl ?_); refine a3V (t := 5) (p := 27) (v := ?g8o) (w1 := (wr.setCell ⟨e8U, (b0j : Int).toNat, none⟩ (.int .u8 ((d58) % 256)))) ?hg ?ho ?hn ?hr ?_; (case ho => rfl); (case hg => rfl); (case hn => rfl); (case hr => (go_simp; done)); intro w18 hw; have hg : wr.grownBy w18 (some e8U) := (by rw [hw]; exact e8W.2); have hp_ : Kd.R (Kd.int .u8) 5 w18 w.heap.size (fun _ => True) (.slice (some ⟨e8U, 0, none⟩) Z7.length d6b) f6H := (by rw [hw, f6I.out]; exact e8W.1); clear e8W; replace a7R := a_ hp_; replace HB := a_ (by rw [hw]; exact o8 (HB.out) g8m.out : Below w.heap.size w w18); clear hg hw hp_))
     go_roundg k1
     case measure => have := HK1.out; omega
     case rel => exact ⟨(f6H), (wrap64 (b0j + 1)), (by rfl), H', ⟨by have := HK1.out; omega⟩, ⟨by exact a7R.out⟩, ⟨by exact HB.out⟩⟩
    ·rw [if_neg c10] at H
     have b34 := decide_eq_false c10
     clear c10
     by_cases c19 : a2 = true
     ·subst c19
      rw [if_pos rfl] at H
      replace H := Option.bind_eq_some_iff.mp H
      obtain ⟨e8S, f6L, H⟩ := H
      try dsimp only at H
      have A20 := a_ f6L
      clear f6L
      obtain ⟨rfl, rfl⟩ := s2_ H
      obtain ⟨b5t, b5u, c7i⟩ := Kd.J4 a7R.out
      subst c7i
      go_wp2_with (first | (refine gl_ (some 31) Tryd.func90 #[.slice b5t Z7.length b5u] ?_; (with_reducible refine (D5.calls k1 (fun k_ => some k_ = (.slice b5t Z7.length b5u : Value).ownBlock) (.slice b5t Z7.length b5u) Z7 e8S w _ HB.out (Kd.a2i rfl a7R.out) A20.out).mono ?_); rintro e w22 ⟨rfl, hy0, hb, hkp⟩; refine ⟨_, rfl, ?_⟩; replace a7R := a_ (Kd.e66 rfl hy0 (fun k_ e_ => a7R.out.1 k_ e_)); replace HB := a_ hb; (try clear hb); (try clear hkp); (try clear hy0)))
      go_ret2
      exact ⟨_, by (rfl), by exact a7R.out, by exact HB.out⟩
     ·cases nt_ c19
      rw [if_neg a5a] at H
      obtain ⟨rfl, rfl⟩ := s2_ H
      go_wp2
      go_ret2
      exact ⟨_, by (rfl), by exact a7R.out, by exact HB.out⟩
 ·cases nt_ c5
  rw [if_neg a5a] at H
  obtain ⟨rfl, rfl⟩ := s2_ H
  go_enter Tryd.func72, Tryd.ntmps72
  go_wp2_with (first | (refine gl_ (some 12) Tryd.func89 #[.int .u64 a0, .int .i64 a1] ?_; (with_reducible refine (a19.calls a0 a1 false _ A4.out).mono ?_); rintro e w' ⟨rfl, ⟨nd, rfl⟩⟩; refine ⟨_, rfl, ?_⟩))
  go_ret2
  exact ⟨_, by (rfl), by (exact Kd.a0I _ _ _ _ _), by repeat (with_reducible first | exact HB.out | apply o7)⟩
def a0H.l0 : Nat → Bool → Int → List Int → List Int → Int → Int → Option (List Int)
 | 0, _, _, _, _, _, _ => none
 | k + 1, x0, x1, x7, x12, x13, x14 => if x14 < x13 then (if 0 ≤ x14 then (if x14 < (x12.length : Int) then ((a0O.f k (IntKind.u64.wrap (rd x12 x14)) x1 x0).bind fun e4X => (if x7.length + e4X.1.length < 140737488355328 then (a0H.l0 k x0 x1 (x7 ++ e4X.1) x12 x13 (wrap64 (x14 + 1))) else (none))) else (none)) else (none)) else (some x7)
def a0H.f (k : Nat) (a0 : Bool) (a1 : Int) (l2 : List Int) : Option (List Int) := a0H.l0 k a0 a1 ([] : List Int) l2 (l2.length : Int) 0
theorem a0H.calls (k : Nat) (a0 : Bool) (a1 : Int) (A2 : Option Addr) (c2 : Nat) (l2 : List Int) (r : List Int) (w : World) (hr2 : Kd.C (Kd.int .u32) w A2 l2.length l2) (hc2 : l2.length ≤ c2) (h : a0H.f k a0 a1 l2 = some r) :
  Calls Tryd.prog 74 #[.bool a0, .int .i64 a1, .slice A2 l2.length c2] w fun e w' => ∃ v0_ : Value, e = .returned (v0_) ∧ Kd.R (Kd.int .u8) 5 w' w.heap.size (fun _ => True) v0_ r ∧ Below w.heap.size w w' := by
 have HR2 := a_ hr2
 have HC2 := a_ hc2
 clear hr2 hc2
 have HB := a_ (Below.refl w.heap.size w)
 have H := h
 clear h
 unfold a0H.f at H
 have H' := a_ H
 clear H
 go_enter Tryd.func74, Tryd.ntmps74
 go_wp2
 go_loopg [7, 14] k (fun kq v7 v14 w' => ∃ (S9 : List Int) (a1v : Int), v14 = .int .i64 a1v ∧ Aside0 (a0H.l0 kq a0 a1 S9 l2 (l2.length : Int) a1v = some r) ∧ Aside0 (kq ≤ k) ∧ Aside0 (Kd.R (Kd.int .u8) 5 w' w.heap.size (fun _ => True) v7 S9) ∧ Aside0 (Below w.heap.size w w'))
 case atStart => exact ⟨([] : List Int), (0), (by rfl), H', ⟨Nat.le_refl _⟩, ⟨by (exact Kd.a0I _ _ _ _ _)⟩, ⟨by exact HB.out⟩⟩
 case round =>
  clear H'
  obtain ⟨S9, a1v, rfl, HA, HK1, U1, HB⟩ := hrel
  cases gk with
  | zero => exact absurd HA.out (by simp [a0H.l0])
  | succ k1 =>
   have H := HA.out
   clear HA
   simp only [a0H.l0] at H
   by_cases c4 : a1v < (l2.length : Int)
   ·rw [if_pos c4] at H
    have a6r := decide_eq_true c4
    clear c4
    have a9g := a4w H
    replace H := U9 H
    have a9K := a4w H
    replace H := U9 H
    replace H := Option.bind_eq_some_iff.mp H
    obtain ⟨⟨e2c, g8p⟩, A70, H⟩ := H
    try dsimp only at H
    have A7 := a_ A70
    clear A70
    have c8 := a0o H
    replace H := U9 H
    have c7e := a_ c8
    clear c8
    obtain ⟨g8q, d6c⟩ := is_ ((S9 ++ e2c))
    rw [← d6c] at H
    have f6M := a_ d6c
    clear d6c
    have H' := a_ H
    clear H
    have e8X : 0 ≤ (a1v : Int) := Y9
    have e8Y : a1v < (l2.length : Int) := Y9
    obtain ⟨h3V, e332, d0T⟩ := Kd.a0W HR2.out a1v e8X e8Y
    cases e332
    replace d0T := cb_ HB d0T
    replace e8X := eq_true e8X
    replace e8Y := eq_true e8Y
    go_wp2_with (first | (refine gl_ (some 23) Tryd.func72 #[.int .u64 (IntKind.u64.wrap (rd l2 a1v)), .int .i64 a1, .bool a0] ?_; (with_reducible refine (a0O.calls k1 (IntKind.u64.wrap (rd l2 a1v)) a1 a0 e2c g8p _ A7.out).mono ?_); rintro e w9 ⟨h6y, rfl, ho0, hb⟩; refine ⟨_, rfl, ?_⟩; have c5y := rn_ ho0 U1 HB; replace U1 := rR_ U1 ho0 hb; replace HB := W9 HB hb; (try clear hb); (try clear ho0); obtain ⟨g8r, g8s, g8t⟩ := Kd.J4 c5y.out; subst g8t) | ((with_reducible refine G7 (b := .append) (xs := #[.tmp 26, .tmp 27]) rfl ?_); at_builtin; refine Kd.Q8 (Kd.int .u8) (w0 := w) w.heap.size rfl (.tmp 26) (.tmp 27) 22 5 (.int .u8 0) 1 rfl Tryd.underlying22 info5 rfl (by decide) (by omega) u7 S9 e2c _ _ _ (fun k_ => some k_ ≠ (.slice g8r e2c.length g8s : Value).ownBlock) (fun _ => False) rfl rfl ?aO ?aR (fun _ _ h => h) (fun _ h => h.elim) ?aF ?aB ?aS ?aL ?_; (case aR => exact (Kd.G5 c5y.out).2.2); (case aB => exact HB.out); (case aF => exact (fun k_ hk => Kd.fresh' (Kd.a0h c5y.out) k_ hk)); (case aO => exact (by exact Kd.D8 U1.out (fun _ hk => hk.2))); (case aS => exact (y5 HB.out)); (case aL => have := c7e.out; omega); intro h6z w10 ho hb hg hat; rw [← f6M.out] at ho; have f6N := a_ ho; replace c5y := a_ (Kd.a1f (ok := (fun _ => True)) c5y.out hg hat); replace HB := a_ hb; clear U1; clear ho hb hg hat))
    go_roundg k1
    case measure => have := HK1.out; omega
    case rel => exact ⟨(g8q), (wrap64 (a1v + 1)), (by rfl), H', ⟨by have := HK1.out; omega⟩, ⟨by exact Kd.D8 f6N.out (fun _ hk => trivial)⟩, ⟨by exact HB.out⟩⟩
   ·rw [if_neg c4] at H
    have a6r := decide_eq_false c4
    clear c4
    obtain rfl := Option.some.inj H
    go_wp2
    go_ret
    exact ⟨_, by (rfl), by exact U1.out, by exact HB.out⟩
def O5.l0 : Nat → Int → Int → Bool → List Int → Int → Option (List Int)
 | 0, _, _, _, _, _ => none
 | k + 1, x0, x1, x2, x7, x8 => if x8 < x1 then (if x2 = true then ((some (([(Int.tmod x0 256) % 256] : List Int) : List Int)).bind fun d6d => (if d6d.length + x7.length < 140737488355328 then (O5.l0 k (IntKind.u64.wrap (Int.tdiv x0 256)) x1 x2 (d6d ++ x7) (wrap64 (x8 + 1))) else (none))) else (if x7.length < 140737488355328 then (O5.l0 k (IntKind.u64.wrap (Int.tdiv x0 256)) x1 x2 (x7 ++ [(Int.tmod x0 256) % 256]) (wrap64 (x8 + 1))) else (none))) else (some x7)
def O5.f (k : Nat) (a0 : Int) (a1 : Int) (a2 : Bool) : Option (List Int) := O5.l0 k a0 a1 a2 ([] : List Int) 0
theorem O5.calls (k : Nat) (a0 : Int) (a1 : Int) (a2 : Bool) (r : List Int) (w : World) (h : O5.f k a0 a1 a2 = some r) :
  Calls Tryd.prog 60 #[.int .u64 a0, .int .i64 a1, .bool a2] w fun e w' => ∃ v0_ : Value, e = .returned (v0_) ∧ Kd.R (Kd.int .u8) 5 w' w.heap.size (fun _ => True) v0_ r ∧ Below w.heap.size w w' := by
 have HB := a_ (Below.refl w.heap.size w)
 have H := h
 clear h
 unfold O5.f at H
 have H' := a_ H
 clear H
 go_enter Tryd.func60, Tryd.ntmps60
 go_wp2
 go_loopg [0, 7, 8] k (fun kq v0 v7 v8 w' => ∃ (a7a : Int) (S9 : List Int) (Z7 : Int), v0 = .int .u64 a7a ∧ v8 = .int .i64 Z7 ∧ Aside0 (O5.l0 kq a7a a1 a2 S9 Z7 = some r) ∧ Aside0 (kq ≤ k) ∧ Aside0 (Kd.R (Kd.int .u8) 5 w' w.heap.size (fun _ => True) v7 S9) ∧ Aside0 (Below w.heap.size w w'))
 case atStart => exact ⟨(a0), ([] : List Int), (0), (by rfl), (by rfl), H', ⟨Nat.le_refl _⟩, ⟨by (exact Kd.a0I _ _ _ _ _)⟩, ⟨by exact HB.out⟩⟩
 case round =>
  clear H'
  obtain ⟨a7a, S9, Z7, rfl, rfl, HA, HK1, U1, HB⟩ := hrel
  cases gk with
  | zero => exact absurd HA.out (by simp [O5.l0])
  | succ k1 =>
   have H := HA.out
   clear HA
   simp only [O5.l0] at H
   by_cases c4 : Z7 < a1
   ·rw [if_pos c4] at H
    have a6r := decide_eq_true c4
    clear c4
    by_cases c5 : a2 = true
    ·subst c5
     rw [if_pos rfl] at H
     obtain ⟨d6d, d6e⟩ := is_ (([(Int.tmod a7a 256) % 256] : List Int))
     rw [Option.bind_some, ← d6e] at H
     have f6O := a_ d6e
     clear d6e
     have c6 := a0o H
     replace H := U9 H
     have g8u := a_ c6
     clear c6
     obtain ⟨g8v, d6f⟩ := is_ ((d6d ++ S9))
     rw [← d6f] at H
     have f6P := a_ d6f
     clear d6f
     have H' := a_ H
     clear H
     go_wp2_with (first | ((with_reducible refine P9 (N := 22) rfl ?_); refine Kd.b03 (Kd.int .u8) _ 5 ?hg (N := 22) ?hd (xs := ([(Int.tmod a7a 256) % 256] : List Int)) (inner := [.int .u8 ((Int.tmod a7a 256) % 256)]) (ok := fun _ => True) (okp := fun _ => True) ?hr ?hp (fun _ hk => hk) trivial (Below.refl _ _) (Nat.le_refl _) (by simp) ?_; (case hd => rfl); (case hg => rfl); (case hr => (go_simp; done)); (case hp => exact (N9.one (show Kd.M (Kd.int .u8) _ _ _ ((Int.tmod a7a 256) % 256) [.int .u8 ((Int.tmod a7a 256) % 256)] from rfl) (N9.none _ _))); intro g8w w7 ho8 hb hg_ a1q; clear hg_ a1q; (rw [← f6O.out] at ho8); have e4Y := rn_ ho8 U1 HB; replace U1 := rR_ U1 ho8 hb; replace HB := W9 HB hb; clear hb ho8; obtain ⟨g8x, g8y, g8z⟩ := Kd.J4 U1.out; subst g8z) | ((with_reducible refine G7 (b := .append) (xs := #[.tmp 22, .tmp 23]) rfl ?_); at_builtin; refine Kd.Q8 (Kd.int .u8) (w0 := w) w.heap.size rfl (.tmp 22) (.tmp 23) 22 5 (.int .u8 0) 1 rfl Tryd.underlying22 info5 rfl (by decide) (by omega) g8w d6d S9 _ _ _ (fun k_ => some k_ ≠ (.slice g8x S9.length g8y : Value).ownBlock) (fun _ => False) rfl rfl ?aO ?aR (fun _ _ h => h) (fun _ h => h.elim) ?aF ?aB ?aS ?aL ?_; (case aR => exact (Kd.G5 U1.out).2.2); (case aB => exact HB.out); (case aF => exact (fun k_ hk => Kd.fresh' (Kd.a0h U1.out) k_ hk)); (case aO => exact (by exact Kd.D8 e4Y.out (fun _ hk => hk.2))); (case aS => exact (y5 HB.out)); (case aL => have := g8u.out; omega); intro h6A w9 ho hb hg hat; rw [← f6P.out] at ho; have f6Q := a_ ho; replace U1 := a_ (Kd.a1f (ok := (fun _ => True)) U1.out hg hat); replace HB := a_ hb; clear e4Y; clear ho hb hg hat))
     go_roundg k1
     case measure => have := HK1.out; omega
     case rel => exact ⟨(IntKind.u64.wrap (Int.tdiv a7a 256)), (g8v), (wrap64 (Z7 + 1)), (by rfl), (by rfl), H', ⟨by have := HK1.out; omega⟩, ⟨by exact Kd.D8 f6Q.out (fun _ hk => trivial)⟩, ⟨by exact HB.out⟩⟩
    ·cases nt_ c5
     rw [if_neg a5a] at H
     have c11 := a0o H
     replace H := U9 H
     have d6g := a_ c11
     clear c11
     obtain ⟨g8A, d6h⟩ := is_ ((S9 ++ [(Int.tmod a7a 256) % 256]))
     rw [← d6h] at H
     have f6R := a_ d6h
     clear d6h
     have H' := a_ H
     clear H
     go_wp2_with (first | ((with_reducible refine G7 (b := .append) (xs := #[.tmp 25, .tmp 27]) rfl ?_); at_builtin; refine Kd.a5c (Kd.int .u8) (w0 := w) w.heap.size rfl (.tmp 25) (.tmp 27) 22 5 (.int .u8 0) 1 rfl Tryd.underlying22 info5 rfl (by decide) (by omega) u7 S9 ((Int.tmod a7a 256) % 256) [.int .u8 ((Int.tmod a7a 256) % 256)] (fun _ => True) (fun _ => False) rfl rfl ?aP (fun _ hk => hk.elim) ?aF ?aO ?aB ?aS ?aL ?_; (case aP => exact rfl); (case aB => exact HB.out); (case aF => exact (fun _ _ => trivial)); (case aO => exact U1.out); (case aS => exact (y5 HB.out)); (case aL => have := d6g.out; omega); intro h6B w12 ho hb hg hat; rw [← f6R.out] at ho; have f6S := a_ ho; replace HB := a_ hb; clear U1; clear ho hb hg hat))
     go_roundg k1
     case measure => have := HK1.out; omega
     case rel => exact ⟨(IntKind.u64.wrap (Int.tdiv a7a 256)), (g8A), (wrap64 (Z7 + 1)), (by rfl), (by rfl), H', ⟨by have := HK1.out; omega⟩, ⟨by exact f6S.out⟩, ⟨by exact HB.out⟩⟩
   ·rw [if_neg c4] at H
    have a6r := decide_eq_false c4
    clear c4
    obtain rfl := Option.some.inj H
    go_wp2
    go_ret
    exact ⟨_, by (rfl), by exact U1.out, by exact HB.out⟩
def O7.f (k : Nat) (l0 : List Int) (a1 : Int) (a2 : Bool) : Option (List Int) := (O5.f k (IntKind.u64.wrap (a1)) 4 a2).bind fun c7B => (if l0.length + c7B.length < 140737488355328 then (some (l0 ++ c7B)) else (none))
theorem O7.calls (k : Nat) (P0_ : Nat → Prop) (b0J : Value) (l0 : List Int) (a1 : Int) (a2 : Bool) (r : List Int) (w0 w : World) (hB : Below w0.heap.size w0 w) (ho0 : Kd.R (Kd.int .u8) 5 w w0.heap.size P0_ b0J l0) (h : O7.f k l0 a1 a2 = some r) :
  Calls Tryd.prog 38 #[b0J, .int .u32 a1, .bool a2] w fun e w' => ∃ v0_ : Value, e = .returned (v0_) ∧ Kd.R (Kd.int .u8) 5 w' w0.heap.size (fun k_ => (P0_ k_ ∨ w.heap.size ≤ k_)) v0_ r ∧ Below w0.heap.size w0 w' ∧ Kept w w' (fun k_ => P0_ k_) := by
 have HO0 := a_ (show Kd.R (Kd.int .u8) 5 w w0.heap.size (fun k_ => (P0_ k_ ∨ w.heap.size ≤ k_)) b0J l0 from Kd.D8 ho0 (fun k_ hk => (.inl hk)))
 have HK := a_ (Kept.refl w (fun k_ => P0_ k_))
 have HW0 := a_ hB.size
 have HB := a_ hB
 clear hB
 have H := h
 clear h
 unfold O7.f at H
 replace H := Option.bind_eq_some_iff.mp H
 obtain ⟨c7B, A40, H⟩ := H
 try dsimp only at H
 have A4 := a_ A40
 clear A40
 have c5 := a0o H
 replace H := U9 H
 have g8B := a_ c5
 clear c5
 obtain ⟨g8C, c5z⟩ := is_ ((l0 ++ c7B))
 replace H : (some g8C) = some r := by first | (rw [c5z]; with_reducible exact H) | (have H2_ := (Option.bind_some _ _).symm.trans H; rw [c5z]; with_reducible exact H2_) | (have H2_ := (Option.bind_some _ _).symm.trans H; with_reducible exact H2_) | with_reducible exact H | (rw [c5z]; exact H) | exact H
 have f6T := a_ c5z
 clear c5z
 obtain rfl := Option.some.inj H
 go_enter Tryd.func38, Tryd.ntmps38
 go_wp2_with (first | (refine gl_ (some 11) Tryd.func60 #[.int .u64 (IntKind.u64.wrap (a1)), .int .i64 4, .bool a2] ?_ (hargs := by (try simp only [List.map_toArray, List.map_cons, List.map_nil]); first | done | rfl | (simp only [List.length_drop, List.length_take]; rfl)); (with_reducible refine (O5.calls k (IntKind.u64.wrap (a1)) 4 a2 c7B _ A4.out).mono ?_); rintro e w6 ⟨h6C, rfl, ho0, hb⟩; refine ⟨_, rfl, ?_⟩; have c5A := a_ (Kd.X4 (Kd.a2n (Kd.d4m (M := fun k_ => (P0_ k_ ∨ w.heap.size ≤ k_)) ho0 (by first | exact HK.out.1 | exact (show Kept w _ (fun k_ => P0_ k_) from by repeat (first | (with_reducible first | exact HK.out | apply Kept.alloc | apply Kept.drewN | apply Kept.drew) | exact HK.out)).1) (fun k_ h_ => .inr h_)) (Kd.a0h (by (with_reducible repeat (first | apply Kd.a6d | apply Kd.a1o | apply Kd.a4k)); exact HO0.out))) (y5 (by repeat (first | (with_reducible first | exact HB.out | apply C9 | apply o7 | apply D7) | exact HB.out)))); replace HO0 := a_ (Kd.a3P (by (with_reducible repeat (first | apply Kd.a6d | apply Kd.a1o | apply Kd.a4k)); exact HO0.out) (by first | exact Kd.a0n ho0 | exact Kd.a14 (Kd.S_N (Kd.a0P ho0)) | exact Kd.a0n ho0 | exact Kd.b8d ho0) hb); replace HK := a_ (Kept.below (S := (fun k_ => P0_ k_)) (by repeat (first | (with_reducible first | exact HK.out | apply Kept.alloc | apply Kept.drewN | apply Kept.drew) | exact HK.out)) hb); replace HB := a_ (G9 (by repeat (first | (with_reducible first | exact HB.out | apply C9 | apply o7 | apply D7) | exact HB.out)) hb); (try clear hb); (try clear hb2); (try clear hk); (try clear hi); (try clear ho0); obtain ⟨Ao8, co8, eo8⟩ := Kd.J4 c5A.out; subst eo8) | ((with_reducible refine G7 (b := .append) (xs := #[.tmp 7, .tmp 11]) rfl ?_); at_builtin; refine Kd.Q8 (Kd.int .u8) (w0 := w0) w0.heap.size rfl (.tmp 7) (.tmp 11) 22 5 (.int .u8 0) 1 rfl Tryd.underlying22 info5 rfl (by decide) (by omega) b0J l0 c7B _ _ _ (fun k_ => (P0_ k_ ∨ w.heap.size ≤ k_) ∧ some k_ ≠ (.slice Ao8 c7B.length co8 : Value).ownBlock) (fun _ => False) rfl rfl ?aO ?aR (fun _ _ h => h) (fun _ h => h.elim) ?aF ?aB ?aS ?aL ?_; (case aR => repeat (first | exact (Kd.G5 c5A.out).2.2 | (with_reducible refine Kd.a7C ?_ _) | (with_reducible refine Kd.a2V ?_ _) | (with_reducible refine Kd.a4l ?_))); (case aB => exact (by repeat (first | (with_reducible first | exact HB.out | apply C9 | apply o7 | apply D7) | exact HB.out))); (case aF => exact (fun k_ hk => ⟨(.inr (Nat.le_trans (by first | exact HK.out.1 | exact (show Kept w _ (fun k_ => P0_ k_) from by repeat (first | (with_reducible first | exact HK.out | apply Kept.alloc | apply Kept.drewN | apply Kept.drew) | exact HK.out)).1) hk)), Kd.fresh' (Kd.a0h (by (with_reducible repeat (first | apply Kd.a6d | apply Kd.a1o | apply Kd.a4k)); exact c5A.out)) k_ hk⟩)); (case aO => exact (by (with_reducible repeat (first | apply Kd.a6d | apply Kd.a1o | apply Kd.a4k)); exact HO0.out)); (case aS => exact (y5 (by repeat (first | (with_reducible first | exact HB.out | apply C9 | apply o7 | apply D7) | exact HB.out)))); (case aL => have := g8B.out; omega); intro h6E w7 ho hb hg hat; rw [← f6T.out] at ho; have f6U := a_ ho; replace c5A := a_ (Kd.a1f (ok := (fun k_ => (P0_ k_ ∨ w.heap.size ≤ k_))) (by (with_reducible repeat (first | apply Kd.a6d | apply Kd.a1o | apply Kd.a4k)); exact Kd.D8 c5A.out (fun _ hk => ⟨hk.1.1, hk.2⟩)) hg hat); replace HB := a_ hb; replace HK := a_ (Kept.b3J (S := (fun k_ => P0_ k_)) hg (by repeat (first | (with_reducible first | exact HK.out | apply Kept.alloc | apply Kept.drewN | apply Kept.drew) | exact HK.out)) (fun k_ e_ => (HO0.out.1 k_ e_).1)); clear HO0; clear ho hb hg hat))
 go_ret
 exact ⟨_, by first | rfl | (simp [P7, P8] <;> rfl) | (simp [*, P7, P8] <;> rfl), by (with_reducible repeat (first | apply Kd.a6d | apply Kd.a1o | apply Kd.a4k)); exact Kd.D8 f6U.out (fun _ hk => hk.1), by repeat (first | (with_reducible first | exact HB.out | apply C9 | apply o7 | apply D7) | exact HB.out), by repeat (first | (with_reducible first | exact HK.out | apply Kept.alloc | apply Kept.drewN | apply Kept.drew) | exact HK.out)⟩
def O6.l0 : Nat → List Int → Bool → Int → Int → Option (Int)
 | 0, _, _, _, _ => none
 | k + 1, x0, x1, x5, x6 => if x6 < (x0.length : Int) then (if x1 = true then (if 0 ≤ x6 then (O6.l0 k x0 x1 (IntKind.u64.wrap ((IntKind.u64.wrap (256 * x5)) + (IntKind.u64.wrap (rd x0 x6)))) (wrap64 (x6 + 1))) else (none)) else (if 0 ≤ (wrap64 ((wrap64 ((x0.length : Int) - 1)) - x6)) then (if (wrap64 ((wrap64 ((x0.length : Int) - 1)) - x6)) < (x0.length : Int) then (O6.l0 k x0 x1 (IntKind.u64.wrap ((IntKind.u64.wrap (256 * x5)) + (IntKind.u64.wrap (rd x0 (wrap64 ((wrap64 ((x0.length : Int) - 1)) - x6)))))) (wrap64 (x6 + 1))) else (none)) else (none))) else (some x5)
def O6.f (k : Nat) (l0 : List Int) (a1 : Bool) : Option (Int) := O6.l0 k l0 a1 0 0
theorem O6.calls (k : Nat) (A0 : Option Addr) (c0 : Nat) (l0 : List Int) (a1 : Bool) (r : Int) (w : World) (hr0 : Kd.C (Kd.int .u8) w A0 l0.length l0) (hc0 : l0.length ≤ c0) (h : O6.f k l0 a1 = some r) :
  Calls Tryd.prog 58 #[.slice A0 l0.length c0, .bool a1] w fun e w' => e = .returned (.int .u64 r) ∧ G6 w w' := by
 have HR0 := a_ hr0
 have HC0 := a_ hc0
 clear hr0 hc0
 have H := h
 clear h
 unfold O6.f at H
 have H' := a_ H
 clear H
 go_enter Tryd.func58, Tryd.ntmps58
 go_wp2
 go_loopg [5, 6] k (fun kq v5 v6 w' => ∃ (X6 : Int) (a2u : Int), v5 = .int .u64 X6 ∧ v6 = .int .i64 a2u ∧ Aside0 (O6.l0 kq l0 a1 X6 a2u = some r) ∧ Aside0 (kq ≤ k) ∧ G6 w w')
 case atStart => exact ⟨(0), (0), (by first | rfl | (simp; done) | (simp [*]; done)), (by first | rfl | (simp; done) | (simp [*]; done)), H', ⟨Nat.le_refl _⟩, by repeat (first | exact G6.refl _ | apply G6.step)⟩
 case round =>
  clear H'
  try clear p2
  obtain ⟨X6, a2u, rfl, rfl, HA, HK1, ⟨m1, rfl⟩⟩ := hrel
  cases gk with
  | zero => exact absurd HA.out (by simp [O6.l0])
  | succ k1 =>
   have H := HA.out
   clear HA
   simp only [O6.l0] at H
   by_cases c3 : a2u < (l0.length : Int)
   ·rw [if_pos c3] at H
    have a5g := decide_eq_true c3
    clear c3
    by_cases c4 : a1 = true
    ·subst c4
     rw [if_pos rfl] at H
     have a9g := a4w H
     replace H := U9 H
     have H' := a_ H
     clear H
     have e8Z : 0 ≤ (a2u : Int) := of_decide_eq_true (by first | (with_reducible assumption) | assumption)
     have e80 : a2u < (l0.length : Int) := of_decide_eq_true (by first | (with_reducible assumption) | assumption)
     obtain ⟨h3W, g8D, g1E⟩ := Kd.a0W HR0.out a2u e8Z e80
     cases g8D
     replace e8Z := eq_true e8Z
     replace e80 := eq_true e80
     go_wp2
     go_roundg k1
     case measure => have := HK1.out; omega
     case rel => exact ⟨(IntKind.u64.wrap ((IntKind.u64.wrap (256 * X6)) + (IntKind.u64.wrap (rd l0 a2u)))), (wrap64 (a2u + 1)), (by first | rfl | (simp; done) | (simp [*]; done)), (by first | rfl | (simp; done) | (simp [*]; done)), H', ⟨by have := HK1.out; omega⟩, by repeat (first | exact G6.refl _ | apply G6.step)⟩
    ·cases nt_ c4
     rw [if_neg a5a] at H
     obtain ⟨ji6, b6G⟩ := si_ ((wrap64 ((wrap64 ((l0.length : Int) - 1)) - a2u)))
     first | rw [b6G] at H | simp only [b6G] at H
     have e4J : (IntKind.i64.wrap ((wrap64 ((l0.length : Int) - 1)) - a2u)) = ji6 := (a6w _).trans b6G
     have a9h := a4w H
     replace H := U9 H
     have b8l := a4w H
     replace H := U9 H
     have H' := a_ H
     clear H
     have e81 : 0 ≤ ((ji6) : Int) := of_decide_eq_true (by first | (with_reducible assumption) | assumption)
     have e82 : (ji6) < (l0.length : Int) := of_decide_eq_true (by first | (with_reducible assumption) | assumption)
     obtain ⟨h3X, g8E, g1F⟩ := Kd.a0W HR0.out (ji6) e81 e82
     cases g8E
     replace e81 := eq_true e81
     replace e82 := eq_true e82
     go_wp2
     go_roundg k1
     case measure => have := HK1.out; omega
     case rel => exact ⟨(IntKind.u64.wrap ((IntKind.u64.wrap (256 * X6)) + (IntKind.u64.wrap (rd l0 (ji6))))), (wrap64 (a2u + 1)), (by first | rfl | (simp; done) | (simp only [← b6G] <;> (first | rfl | simp)) | (simp [*]; done)), (by first | rfl | (simp; done) | (simp [*]; done)), H', ⟨by have := HK1.out; omega⟩, by repeat (first | exact G6.refl _ | apply G6.step)⟩
   ·rw [if_neg c3] at H
    have a5g := decide_eq_false c3
    clear c3
    obtain rfl := Option.some.inj H
    go_wp2
    go_ret
    exact ⟨by first | rfl | (simp; done) | (simp [*]; done), by repeat (first | exact G6.refl _ | apply G6.step)⟩
def O9.f (k : Nat) (l0 : List Int) (a1 : Int) (a2 : Bool) : Option (Int) := if 0 ≤ a1 then (if a1 ≤ (wrap64 (a1 + 4)) then (if (wrap64 (a1 + 4)) ≤ (l0.length : Int) then ((O6.f k ((l0.take ((wrap64 (a1 + 4)) : Int).toNat).drop (a1 : Int).toNat) a2).bind fun e83 => (some ((e83) % 4294967296))) else (none)) else (none)) else (none)
theorem O9.calls (k : Nat) (A0 : Option Addr) (c0 : Nat) (l0 : List Int) (a1 : Int) (a2 : Bool) (r : Int) (w : World) (hr0 : Kd.C (Kd.int .u8) w A0 l0.length l0) (hc0 : l0.length ≤ c0) (h : O9.f k l0 a1 a2 = some r) :
  Calls Tryd.prog 59 #[.slice A0 l0.length c0, .int .i64 a1, .bool a2] w fun e w' => e = .returned (.int .u32 r) ∧ G6 w w' := by
 have HR0 := a_ hr0
 have HC0 := a_ hc0
 clear hr0 hc0
 have H := h
 clear h
 unfold O9.f at H
 have c4 := a0o H
 replace H := U9 H
 have a6r := eq_true c4
 have b6A := decide_eq_true c4
 clear c4
 have c5 := a0o H
 replace H := U9 H
 have a9g := eq_true c5
 have b6C := decide_eq_true c5
 have c6 := a0o H
 replace H := U9 H
 have a9K := eq_true c6
 have b8v := decide_eq_true c6
 replace H := Option.bind_eq_some_iff.mp H
 obtain ⟨e83, A70, H⟩ := H
 try dsimp only at H
 have A7 := a_ A70
 clear A70
 obtain rfl := Option.some.inj H
 obtain ⟨i08, c4P, _, c4Q, _⟩ := info_parts info5
 obtain ⟨A8, e4y, hA8, hC8⟩ := a6A (P := Tryd.prog) (Value.int .u8) 0 22 5 .i64 .i64 Tryd.underlying22 c4P c4Q A0 c0 l0 a1 (wrap64 (a1 + 4)) (of_decide_eq_true (by first | (with_reducible assumption) | assumption)) (by first | omega | exact of_decide_eq_true (by first | (with_reducible assumption) | assumption)) (of_decide_eq_true (by first | (with_reducible assumption) | assumption)) HC0.out
 have f6V := a_ (Kd.a0K (h1 := fun _ => rfl) (hA8 _ (Kd.a0p HR0.out)))
 have f6W := a_ hC8
 clear hA8 hC8 c4P c4Q
 go_enter Tryd.func59, Tryd.ntmps59
 go_wp2_with (first | (refine gl_ (some 13) Tryd.func58 #[.slice A8 ((l0.take ((wrap64 (a1 + 4)) : Int).toNat).drop (a1 : Int).toNat).length (c0 - a1.toNat), .bool a2] ?_ (hargs := by (try simp only [List.map_toArray, List.map_cons, List.map_nil]); first | done | (rw [show ((l0.take ((wrap64 (a1 + 4)) : Int).toNat).drop (a1 : Int).toNat).length = ((wrap64 (a1 + 4)).toNat - a1.toNat) from (by rw [List.length_drop, List.length_take]; have h_ : ((wrap64 (a1 + 4)) : Int) ≤ (l0.length : Int) := of_decide_eq_true (by first | (with_reducible assumption) | assumption); omega)] <;> rfl) | rfl | (simp only [List.length_drop, List.length_take]; rfl)); (with_reducible refine (O6.calls k _ _ ((l0.take ((wrap64 (a1 + 4)) : Int).toNat).drop (a1 : Int).toNat) a2 e83 _ ?Q5 ?Q7 A7.out).mono ?_); (case Q5 => repeat (first | exact f6V.out | (with_reducible refine Kd.a7C ?_ _) | (with_reducible refine Kd.a2V ?_ _) | (with_reducible refine Kd.a4l ?_))); (case Q7 => exact f6W.out); rintro e w' ⟨rfl, ⟨nd, rfl⟩⟩; refine ⟨_, rfl, ?_⟩))
 go_ret
 exact ⟨by first | rfl | (simp; done) | (simp [*]; done), by repeat (first | exact G6.refl _ | apply G6.step)⟩
def O8.f (k : Nat) (l0 : List Int) (a1 : Bool) : Option (Int × Int × Int × List Int × Int × Int) := if (l0.length : Int) < 16 then (some (0, 0, 0, ([] : List Int), 0, 2)) else ((O9.f k l0 8 a1).bind fun a8t => (if (wrap64 (a8t)) > 131072 then (some (0, 0, 0, ([] : List Int), 0, 4)) else (if (l0.length : Int) < (wrap64 (16 + (wrap64 (a8t)))) then (some (0, 0, 0, ([] : List Int), 0, 2)) else ((O9.f k l0 0 a1).bind fun b1D => ((O9.f k l0 4 a1).bind fun b3z => ((O9.f k l0 12 a1).bind fun b5D => (if 16 ≤ (wrap64 (16 + (wrap64 (a8t)))) then (if (wrap64 (16 + (wrap64 (a8t)))) ≤ (l0.length : Int) then (if ([] : List Int).length + ((l0.take ((wrap64 (16 + (wrap64 (a8t)))) : Int).toNat).drop 16).length < 140737488355328 then (some (b1D, b3z, b5D, (([] : List Int) ++ ((l0.take ((wrap64 (16 + (wrap64 (a8t)))) : Int).toNat).drop 16)), wrap64 (16 + (wrap64 (a8t))), 0)) else (none)) else (none)) else (none))))))))
def O8.T9 : Bool × List (List Nat × List Nat) := (true, [([], []), ([0], [0]), ([], []), ([], []), ([3], [3]), ([2, 4], [2, 4]), ([1, 5], [1, 5]), ([0, 1, 2, 3, 4, 5, 6], []), ([7, 6, 6, 0, 1, 2, 3, 4, 5, 6], [6, 7])])
def O8.B9 : List Nat := [0, 1, 0, 0, 8, 28, 63, 127, 255]
theorem O8.g8F : a2N .any (opsOf Tryd.f36 9) = O8.T9 := by kernel_rfl
theorem O8.f6X : a2t O8.T9.2 O8.B9 = true := by kernel_rfl
theorem O8.calls (k : Nat) (A0 : Option Addr) (c0 : Nat) (l0 : List Int) (a1 : Bool) (r1 : Int) (r2 : Int) (r3 : Int) (r4 : List Int) (r5 : Int) (r6 : Int) (w : World) (hr0 : Kd.C (Kd.int .u8) w A0 l0.length l0) (hc0 : l0.length ≤ c0) (h : O8.f k l0 a1 = some (r1, r2, r3, r4, r5, r6)) :
  Calls Tryd.prog 36 #[.slice A0 l0.length c0, .bool a1] w fun e w' => ∃ v3_ : Value, e = .returned (.tuple #[.agg #[.int .u32 r1, .int .u32 r2, .int .u32 r3, v3_], .int .i64 r5, .int .i64 r6]) ∧ Kd.R (Kd.int .u8) 5 w' w.heap.size (fun _ => True) v3_ r4 ∧ Below w.heap.size w w' := by
 have d4I := Tryd.underlying51
 have HR0 := a_ hr0
 have HC0 := a_ hc0
 clear hr0 hc0
 have HB := a_ (Below.refl w.heap.size w)
 have H := h
 clear h
 unfold O8.f at H
 by_cases c3 : (l0.length : Int) < 16
 ·rw [if_pos c3] at H
  have a5g := decide_eq_true c3
  have b1b : decide (l0.length < 16) = true := decide_eq_true (by omega)
  clear c3
  obtain ⟨rfl, rfl, rfl, rfl, rfl, rfl⟩ := s6_ H
  go_enter Tryd.func36, Tryd.ntmps36
  go_wp2_with (first | (refine be_ 4 #[.int .u32 0, .int .u32 0, .int .u32 0, .slice none 0 0] 51 ?_; intro a7e hg w4 hbox hb; have a1x := a_ hbox; have b9b := lb_ HB hg; replace HB := W9 HB hb; clear hb hbox hg; obtain ⟨b5x, b5y, b5z, c2O, b5A, b5B, b5C, c2P⟩ := blk4 a1x.out))
  refine bodyPost_ret (a1e rfl _ _ a7e 51 #[.int .u32 0, .int .u32 0, .int .u32 0, .slice none 0 0] (0, 0) _ rfl (by refine l9 (cs := #[.int .u32 0, .int .u32 0, .int .u32 0, .slice none 0 0]) ?_ 3 _ rfl; refine l9 (cs := #[.int .u32 0, .int .u32 0, .int .u32 0, .slice none 0 0]) ?_ 2 _ rfl; refine l9 (cs := #[.int .u32 0, .int .u32 0, .int .u32 0, .slice none 0 0]) ?_ 1 _ rfl; refine l9 (cs := #[.int .u32 0, .int .u32 0, .int .u32 0, .slice none 0 0]) ?_ 0 _ rfl; exact a1x.out) Tryd.underlying51 rfl (by kernel_rfl)) rfl ?_
  exact ⟨_, by (rfl), by (exact Kd.a0I _ _ _ _ _), by repeat (with_reducible first | exact HB.out | refine o8 ?_ b9b.out)⟩
 ·rw [if_neg c3] at H
  have a5g := decide_eq_false c3
  have b1b : decide (l0.length < 16) = false := decide_eq_false (by omega)
  clear c3
  replace H := Option.bind_eq_some_iff.mp H
  obtain ⟨a8t, A60, H⟩ := H
  try dsimp only at H
  have A6 := a_ A60
  clear A60
  by_cases c7 : (wrap64 (a8t)) > 131072
  ·rw [if_pos c7] at H
   have a9h : decide (131072 < (wrap64 (a8t))) = true := decide_eq_true c7
   clear c7
   obtain ⟨rfl, rfl, rfl, rfl, rfl, rfl⟩ := s6_ H
   go_enter Tryd.func36, Tryd.ntmps36
   go_wp2_with (first | (refine be_ 4 #[.int .u32 0, .int .u32 0, .int .u32 0, .slice none 0 0] 51 ?_; intro a7e hg w8 hbox hb; have a1x := a_ hbox; have b9b := lb_ HB hg; replace HB := W9 HB hb; clear hb hbox hg) | (refine gl_ (some 15) Tryd.func59 #[.slice A0 l0.length c0, .int .i64 8, .bool a1] ?_; (with_reducible refine (O9.calls k _ _ l0 8 a1 a8t _ (Kd.D6 HR0.out HB.out) HC0.out A6.out).mono ?_); rintro e w' ⟨rfl, ⟨nd, rfl⟩⟩; refine ⟨_, rfl, ?_⟩; (try (rw [a4p w8]; generalize hq_ : World.drewN w8 _ = w8; have n0_ : Aside0 (w8.heap[a7e]? = some (.cells #[.int .u32 0, .int .u32 0, .int .u32 0, .slice none 0 0] 51 (0, 0))) := ⟨by rw [← hq_]; exact (by (with_reducible repeat (refine Q9 ?_ _)); exact a1x.out)⟩; have n1_ : Aside0 (Below w.heap.size w w8) := ⟨by rw [← hq_]; exact (by repeat (with_reducible first | exact HB.out | apply o7))⟩; clear a1x HB hq_; have a1x := n0_; have HB := n1_; clear n0_ n1_)); obtain ⟨d5n, d5o, e84, g8G, d5p, d5q, e85, g8H⟩ := blk4 a1x.out))
   refine bodyPost_ret (a1e rfl _ _ a7e 51 #[.int .u32 0, .int .u32 0, .int .u32 0, .slice none 0 0] (0, 0) _ rfl (by refine l9 (cs := #[.int .u32 0, .int .u32 0, .int .u32 0, .slice none 0 0]) ?_ 3 _ rfl; refine l9 (cs := #[.int .u32 0, .int .u32 0, .int .u32 0, .slice none 0 0]) ?_ 2 _ rfl; refine l9 (cs := #[.int .u32 0, .int .u32 0, .int .u32 0, .slice none 0 0]) ?_ 1 _ rfl; refine l9 (cs := #[.int .u32 0, .int .u32 0, .int .u32 0, .slice none 0 0]) ?_ 0 _ rfl; exact a1x.out) Tryd.underlying51 rfl (by kernel_rfl)) rfl ?_
   exact ⟨_, by (rfl), by (exact Kd.a0I _ _ _ _ _), by repeat (with_reducible first | exact HB.out | refine o8 ?_ b9b.out)⟩
  ·rw [if_neg c7] at H
   have a9h : decide (131072 < (wrap64 (a8t))) = false := decide_eq_false c7
   clear c7
   by_cases c10 : (l0.length : Int) < (wrap64 (16 + (wrap64 (a8t))))
   ·rw [if_pos c10] at H
    have b34 := decide_eq_true c10
    clear c10
    obtain ⟨rfl, rfl, rfl, rfl, rfl, rfl⟩ := s6_ H
    go_enter Tryd.func36, Tryd.ntmps36
    go_wp2_with (first | (refine be_ 4 #[.int .u32 0, .int .u32 0, .int .u32 0, .slice none 0 0] 51 ?_; intro a7e hg w11 hbox hb; have a1x := a_ hbox; have b9b := lb_ HB hg; replace HB := W9 HB hb; clear hb hbox hg) | (refine gl_ (some 15) Tryd.func59 #[.slice A0 l0.length c0, .int .i64 8, .bool a1] ?_; (with_reducible refine (O9.calls k _ _ l0 8 a1 a8t _ (Kd.D6 HR0.out HB.out) HC0.out A6.out).mono ?_); rintro e w' ⟨rfl, ⟨nd, rfl⟩⟩; refine ⟨_, rfl, ?_⟩; (try (rw [a4p w11]; generalize hq_ : World.drewN w11 _ = w11; have n0_ : Aside0 (w11.heap[a7e]? = some (.cells #[.int .u32 0, .int .u32 0, .int .u32 0, .slice none 0 0] 51 (0, 0))) := ⟨by rw [← hq_]; exact (by (with_reducible repeat (refine Q9 ?_ _)); exact a1x.out)⟩; have n1_ : Aside0 (Below w.heap.size w w11) := ⟨by rw [← hq_]; exact (by repeat (with_reducible first | exact HB.out | apply o7))⟩; clear a1x HB hq_; have a1x := n0_; have HB := n1_; clear n0_ n1_)); obtain ⟨e2d, e2e, e2f, g1G, e2g, e2h, e2i, g1H⟩ := blk4 a1x.out))
    refine bodyPost_ret (a1e rfl _ _ a7e 51 #[.int .u32 0, .int .u32 0, .int .u32 0, .slice none 0 0] (0, 0) _ rfl (by refine l9 (cs := #[.int .u32 0, .int .u32 0, .int .u32 0, .slice none 0 0]) ?_ 3 _ rfl; refine l9 (cs := #[.int .u32 0, .int .u32 0, .int .u32 0, .slice none 0 0]) ?_ 2 _ rfl; refine l9 (cs := #[.int .u32 0, .int .u32 0, .int .u32 0, .slice none 0 0]) ?_ 1 _ rfl; refine l9 (cs := #[.int .u32 0, .int .u32 0, .int .u32 0, .slice none 0 0]) ?_ 0 _ rfl; exact a1x.out) Tryd.underlying51 rfl (by kernel_rfl)) rfl ?_
    exact ⟨_, by (rfl), by (exact Kd.a0I _ _ _ _ _), by repeat (with_reducible first | exact HB.out | refine o8 ?_ b9b.out)⟩
   ·rw [if_neg c10] at H
    have b34 := decide_eq_false c10
    clear c10
    replace H := Option.bind_eq_some_iff.mp H
    obtain ⟨b1D, b8Y, H⟩ := H
    try dsimp only at H
    have A13 := a_ b8Y
    clear b8Y
    replace H := Option.bind_eq_some_iff.mp H
    obtain ⟨b3z, b8M, H⟩ := H
    try dsimp only at H
    have A14 := a_ b8M
    clear b8M
    replace H := Option.bind_eq_some_iff.mp H
    obtain ⟨b5D, c4b, H⟩ := H
    try dsimp only at H
    have A15 := a_ c4b
    clear c4b
    have c16 := a0o H
    replace H := U9 H
    have f6Y := eq_true c16
    have f6Z := decide_eq_true c16
    have c17 := a0o H
    replace H := U9 H
    have e4L := eq_true c17
    have e4M := decide_eq_true c17
    have c18 := a0o H
    replace H := U9 H
    have d6i := a_ c18
    clear c18
    obtain ⟨e86, d6j⟩ := is_ ((([] : List Int) ++ ((l0.take ((wrap64 (16 + (wrap64 (a8t)))) : Int).toNat).drop 16)) : List Int)
    rw [← d6j] at H
    have f7a := a_ d6j
    clear d6j
    obtain ⟨rfl, rfl, rfl, rfl, rfl, rfl⟩ := s6_ H
    go_enter Tryd.func36, Tryd.ntmps36
    try go_wp2_with (first | (refine be_ 4 #[.int .u32 0, .int .u32 0, .int .u32 0, .slice none 0 0] 51 ?_; intro a7e hg w19 hbox hb; have a1x := a_ hbox; have b9b := lb_ HB hg; replace HB := W9 HB hb; clear hb hbox hg) | (refine gl_ (some 15) Tryd.func59 #[.slice A0 l0.length c0, .int .i64 8, .bool a1] ?_; (with_reducible refine (O9.calls k _ _ l0 8 a1 a8t _ (Kd.D6 HR0.out HB.out) HC0.out A6.out).mono ?_); rintro e w' ⟨rfl, ⟨nd, rfl⟩⟩; refine ⟨_, rfl, ?_⟩; (try (rw [a4p w19]; generalize hq_ : World.drewN w19 _ = w19; have n0_ : Aside0 (w19.heap[a7e]? = some (.cells #[.int .u32 0, .int .u32 0, .int .u32 0, .slice none 0 0] 51 (0, 0))) := ⟨by rw [← hq_]; exact (by (with_reducible repeat (refine Q9 ?_ _)); exact a1x.out)⟩; have n1_ : Aside0 (Below w.heap.size w w19) := ⟨by rw [← hq_]; exact (by repeat (with_reducible first | exact HB.out | apply o7))⟩; clear a1x HB hq_; have a1x := n0_; have HB := n1_; clear n0_ n1_))) | (refine gl_ (some 28) Tryd.func59 #[.slice A0 l0.length c0, .int .i64 0, .bool a1] ?_; (with_reducible refine (O9.calls k _ _ l0 0 a1 b1D _ (Kd.D6 HR0.out HB.out) HC0.out A13.out).mono ?_); rintro e w' ⟨rfl, ⟨nd, rfl⟩⟩; refine ⟨_, rfl, ?_⟩; (try (rw [a4p w19]; generalize hq_ : World.drewN w19 _ = w19; have n0_ : Aside0 (w19.heap[a7e]? = some (.cells #[.int .u32 0, .int .u32 0, .int .u32 0, .slice none 0 0] 51 (0, 0))) := ⟨by rw [← hq_]; exact (by (with_reducible repeat (refine Q9 ?_ _)); exact a1x.out)⟩; have n1_ : Aside0 (Below w.heap.size w w19) := ⟨by rw [← hq_]; exact (by repeat (with_reducible first | exact HB.out | apply o7))⟩; clear a1x HB hq_; have a1x := n0_; have HB := n1_; clear n0_ n1_))) | (refine gl_ (some 31) Tryd.func59 #[.slice A0 l0.length c0, .int .i64 4, .bool a1] ?_; (with_reducible refine (O9.calls k _ _ l0 4 a1 b3z _ (Kd.D6 HR0.out HB.out) HC0.out A14.out).mono ?_); rintro e w' ⟨rfl, ⟨nd, rfl⟩⟩; refine ⟨_, rfl, ?_⟩; (try (rw [a4p w19]; generalize hq_ : World.drewN w19 _ = w19; have n0_ : Aside0 (w19.heap[a7e]? = some (.cells #[.int .u32 0, .int .u32 0, .int .u32 0, .slice none 0 0] 51 (0, 0))) := ⟨by rw [← hq_]; exact (by (with_reducible repeat (refine Q9 ?_ _)); exact a1x.out)⟩; have n1_ : Aside0 (Below w.heap.size w w19) := ⟨by rw [← hq_]; exact (by repeat (with_reducible first | exact HB.out | apply o7))⟩; clear a1x HB hq_; have a1x := n0_; have HB := n1_; clear n0_ n1_))) | (refine gl_ (some 34) Tryd.func59 #[.slice A0 l0.length c0, .int .i64 12, .bool a1] ?_; (with_reducible refine (O9.calls k _ _ l0 12 a1 b5D _ (Kd.D6 HR0.out HB.out) HC0.out A15.out).mono ?_); rintro e w' ⟨rfl, ⟨nd, rfl⟩⟩; refine ⟨_, rfl, ?_⟩; (try (rw [a4p w19]; generalize hq_ : World.drewN w19 _ = w19; have n0_ : Aside0 (w19.heap[a7e]? = some (.cells #[.int .u32 0, .int .u32 0, .int .u32 0, .slice none 0 0] 51 (0, 0))) := ⟨by rw [← hq_]; exact (by (with_reducible repeat (refine Q9 ?_ _)); exact a1x.out)⟩; have n1_ : Aside0 (Below w.heap.size w w19) := ⟨by rw [← hq_]; exact (by repeat (with_reducible first | exact HB.out | apply o7))⟩; clear a1x HB hq_; have a1x := n0_; have HB := n1_; clear n0_ n1_))) | (refine be_ 8 #[.int .u32 0, .int .u32 0, .int .u32 0, .slice none 0 0] 51 ?_; intro a5I hg w20 hbox hb; have a5Y := a_ hbox; have e4Z := lb_ HB hg; obtain ⟨a7t, c0A⟩ := nn_ a1x hg; replace a1x := U5 a1x hb; replace HB := W9 HB hb; clear hb hbox hg; have e3u := c0A.out; have e3v := a7t.out; obtain ⟨b6M, b6N, b6O, c8I, b6P, b6Q, b6R, c8J⟩ := blk4 a5Y.out))
    have n0_ : Aside0 (((((w20.setCell ⟨a5I, 0, none⟩ (.int .u32 b1D)).setCell ⟨a5I, 1, none⟩ (.int .u32 b3z)).setCell ⟨a5I, 2, none⟩ (.int .u32 b5D)).setCell ⟨a5I, 3, none⟩ (.slice none 0 0)).heap[a7e]? = some (.cells #[.int .u32 0, .int .u32 0, .int .u32 0, .slice none 0 0] 51 (0, 0))) := ⟨by refine o9 ?_ a7t.out _; refine o9 ?_ a7t.out _; refine o9 ?_ a7t.out _; refine o9 ?_ a7t.out _; exact a1x.out⟩
    have n1_ : Aside0 (((((w20.setCell ⟨a5I, 0, none⟩ (.int .u32 b1D)).setCell ⟨a5I, 1, none⟩ (.int .u32 b3z)).setCell ⟨a5I, 2, none⟩ (.int .u32 b5D)).setCell ⟨a5I, 3, none⟩ (.slice none 0 0)).heap[a5I]? = some (.cells #[.int .u32 b1D, .int .u32 b3z, .int .u32 b5D, .slice none 0 0] 51 (0, 0))) := ⟨by refine l9 (cs := #[.int .u32 b1D, .int .u32 b3z, .int .u32 b5D, .slice none 0 0]) ?_ 3 _ rfl; refine l9 (cs := #[.int .u32 b1D, .int .u32 b3z, .int .u32 0, .slice none 0 0]) ?_ 2 _ rfl; refine l9 (cs := #[.int .u32 b1D, .int .u32 0, .int .u32 0, .slice none 0 0]) ?_ 1 _ rfl; refine l9 (cs := #[.int .u32 0, .int .u32 0, .int .u32 0, .slice none 0 0]) ?_ 0 _ rfl; exact a5Y.out⟩
    have n2_ : Aside0 (Below w.heap.size w ((((w20.setCell ⟨a5I, 0, none⟩ (.int .u32 b1D)).setCell ⟨a5I, 1, none⟩ (.int .u32 b3z)).setCell ⟨a5I, 2, none⟩ (.int .u32 b5D)).setCell ⟨a5I, 3, none⟩ (.slice none 0 0))) := ⟨by repeat (with_reducible first | exact HB.out | refine o8 ?_ e4Z.out)⟩
    (try clear a1x)
    (try clear a5Y)
    (try clear HB)
    generalize ((((w20.setCell ⟨a5I, 0, none⟩ (.int .u32 b1D)).setCell ⟨a5I, 1, none⟩ (.int .u32 b3z)).setCell ⟨a5I, 2, none⟩ (.int .u32 b5D)).setCell ⟨a5I, 3, none⟩ (.slice none 0 0)) = w23 at n0_ n1_ n2_ ⊢
    have a1x := n0_
    have a5Y := n1_
    have HB := n2_
    clear n0_ n1_ n2_
    replace a1x := a_ (L9 a1x.out)
    replace a5Y := a_ (L9 a5Y.out)
    replace HB := a_ (D7 HB.out)
    obtain ⟨h6F, e5a, _, e5b, _⟩ := info_parts info5
    obtain ⟨A25, g8I, f7b, f7c⟩ := a6A (P := Tryd.prog) (Value.int .u8) 0 22 5 .i64 .i64 Tryd.underlying22 e5a e5b A0 c0 l0 16 (wrap64 (16 + (wrap64 (a8t)))) (by omega) (by omega) (Y9) HC0.out
    have e5c := ci_ (Kd.a0K (h1 := fun _ => rfl) (f7b _ (Kd.a0p HR0.out)))
    have h3Y := a_ f7c
    clear f7b f7c e5a e5b
    refine a4n (n := 9) (S := fun w' => w'.cell? ⟨a5I, 0, none⟩ = some (.int .u32 b1D) ∧ w'.cell? ⟨a5I, 1, none⟩ = some (.int .u32 b3z) ∧ w'.cell? ⟨a5I, 2, none⟩ = some (.int .u32 b5D) ∧ w'.cell? ⟨a5I, 3, none⟩ = some (.slice none 0 0)) (ds := [8]) (bo_ 9 0) (by kernel_rfl) rfl rfl ⟨bc0 a5Y, bc1 a5Y, bc2 a5Y, bc3 a5Y⟩ (fun hHeld => ?_); refine a3g O8.g8F O8.f6X (fun X5 HW_ => ?_)
    generalize w23.drew = w24 at a1x a5Y HB e5c hHeld ⊢
    refine pu_ 0 (some 36) X5 ?_
    refine pu_ 2 (some 38) X5 ?_
    refine pu_ 3 (some 39) X5 ?_
    refine pu_ 4 (some 40) X5 ?_
    refine pu_ 5 (some 41) X5 ?_
    refine a1G (i := 1) (N := some 37) (v := ?_) (a' := ?_) (bo_ 9 63) rfl rfl (a0S X5.out HW_.out (by kernel_rfl)) (fun _ _ _ h => h) (Or.inl ⟨by rfl, ?_⟩) hHeld ?_ ?_
    rotate_left
    ·rintro w' ⟨s0, s1, s2, s3⟩
     go_simp
     with_reducible rfl
    rotate_left
    ·simp only [Act.put, List.setIfInBounds_toArray, List.set_cons_zero, List.set_cons_succ, a6w, a9Y]
     rfl
    refine a6V (i := 6) (N := some 42) (bo_ 9 127) rfl rfl (a2c X5.out (by kernel_rfl)) (by decide) (fun K hK => ?_)
    refine Kd.a8I (Kd.int .u8) (w0 := w) w.heap.size (by rfl) (.tmp 37) (.tmp 41) 22 5 (.int .u8 0) 1 rfl Tryd.underlying22 info5 rfl (by decide) (by omega) (.slice none 0 0) ([] : List Int) ((l0.take ((wrap64 (16 + (wrap64 (a8t)))) : Int).toNat).drop 16) _ _ _ (fun _ => True) (fun _ => False) rfl rfl ?aO ?aR (fun _ _ h => h) (fun _ h => h.elim) ?aF ?aB ?aS ?aL ?_
    (case aR => (rw [← show ((l0.take ((wrap64 (16 + (wrap64 (a8t)))) : Int).toNat).drop 16).length = ((wrap64 (16 + (wrap64 (a8t)))).toNat - 16) from (by rw [List.length_drop, List.length_take]; have h_ : ((wrap64 (16 + (wrap64 (a8t)))) : Int) ≤ (l0.length : Int) := Y9; omega)]; exact (Kd.D6 e5c.out HB.out)))
    (case aB => exact HB.out)
    (case aF => exact (fun _ _ => trivial))
    (case aO => exact (Kd.a0I _ _ _ _ (fun _ => True)))
    (case aS => exact (y5 HB.out))
    (case aL => have := d6i.out; have h6G := (show ((l0.take ((wrap64 (16 + (wrap64 (a8t)))) : Int).toNat).drop 16).length = ((wrap64 (16 + (wrap64 (a8t)))).toNat - 16) from (by rw [List.length_drop, List.length_take]; have h_ : ((wrap64 (16 + (wrap64 (a8t)))) : Int) ≤ (l0.length : Int) := Y9; omega)); omega)
    intro h6H w26 ho hb hg hat
    rw [← f7a.out] at ho
    have e5d := a_ ho
    replace a1x := a_ (F9 a1x.out hg (by simp [Value.ownBlock]))
    replace a5Y := a_ (F9 a5Y.out hg (by simp [Value.ownBlock]))
    replace HB := a_ hb
    clear ho hb hg hat
    obtain ⟨a9M, a9N, c7C⟩ := Kd.J4 e5d.out
    subst c7C
    refine hK.out _ _ ⟨bc0 a5Y, bc1 a5Y, bc2 a5Y, bc3 a5Y⟩ (fun hHeld => ?_)
    clear hK K
    refine nm_ (some 42) ?_
    refine pu_ 7 (some 43) X5 ?_
    refine c4z (i := 8) (N := none) (bo_ 9 511) rfl rfl (a2c X5.out (by kernel_rfl)) (by decide) (fun K hK => ?_)
    have h6I := bc3 a5Y
    have h3Z := l7 a5Y.out 3
    have g1I := a7t.out
    have g1J := c0A.out
    refine b2H (w1 := ?_) (by rfl) rfl ?_ ?_
    rotate_left
    ·go_simp
     rfl
    refine hK.out _ _ ?_
    clear hK K
    refine a7d (a6D X5.out (by kernel_rfl)) ?_
    obtain ⟨e1L, e1M, e1N, g1K, e1O, e1P, e1Q, g1L⟩ := blk4 a5Y.out
    obtain ⟨e1l, e1m, g1M, g1N, e1n, e1o, g1O, g1P⟩ := blk4 a1x.out
    try go_wp2
    refine bodyPost_ret (a1e rfl _ _ a7e 51 #[.int .u32 b1D, .int .u32 b3z, .int .u32 b5D, .slice a9M e86.length a9N] (0, 0) _ rfl (by refine l9 (cs := #[.int .u32 b1D, .int .u32 b3z, .int .u32 b5D, .slice none 0 0]) ?_ 3 _ rfl; refine l9 (cs := #[.int .u32 b1D, .int .u32 b3z, .int .u32 0, .slice none 0 0]) ?_ 2 _ rfl; refine l9 (cs := #[.int .u32 b1D, .int .u32 0, .int .u32 0, .slice none 0 0]) ?_ 1 _ rfl; refine l9 (cs := #[.int .u32 0, .int .u32 0, .int .u32 0, .slice none 0 0]) ?_ 0 _ rfl; refine o9 ?_ a7t.out _; exact a1x.out) Tryd.underlying51 rfl (by kernel_rfl)) rfl ?_
    exact ⟨_, by (rfl), by exact Kd.D8 (Kd.U7 (p := ⟨a7e, 3, none⟩) (Kd.U7 (p := ⟨a7e, 2, none⟩) (Kd.U7 (p := ⟨a7e, 1, none⟩) (Kd.U7 (p := ⟨a7e, 0, none⟩) (Kd.U7 (p := ⟨a5I, 3, none⟩) (Kd.V7 (Kd.V7 e5d.out a5Y.out (by decide)) a1x.out (by decide)) (fun _ hk => hk.1.2) (.slice a9M e86.length a9N)) (fun _ hk => hk.2) (.int .u32 b1D)) (fun _ hk => hk.2) (.int .u32 b3z)) (fun _ hk => hk.2) (.int .u32 b5D)) (fun _ hk => hk.2) (.slice a9M e86.length a9N)) (fun _ hk => trivial), by repeat (with_reducible first | exact HB.out | refine o8 ?_ b9b.out | refine o8 ?_ e4Z.out)⟩
end Go.Proofs.YtgnonglkibhnhaaDoor.Print
