-- laid together by this session's own program (wip/tools/merge.py) of texts that its program laid
import Derived.Test.YtgnonglkibhnhaaDoorM2
namespace Go.Proofs.YtgnonglkibhnhaaDoor.Print
open Go.RowKit Go.Proofs.YtgnonglkibhnhaaDoorW.PrintWords Go.Proofs.YtgnonglkibhnhaaDoorW.PrintLast Go.Proofs.YtgnonglkibhnhaaDoorW.PrintMore
attribute [local go_sem] a0o a0p a0R a0S Y5 Y6 a0q a0r
set_option linter.unusedVariables false
set_option linter.unusedSimpArgs false
set_option maxHeartbeats 16000000
set_option maxRecDepth 100000
def a0j.stp (p reg c : Int) : Int := Go.bits .xor .u32 (reg / 256) (F9.b04 p 8 (Go.bits .xor .u8 (reg % 256) c))
def a0j.f (a0 : Int) (l1 : List Int) (a2 : Bool) : Option (Int) := (a4d.f a2).bind fun m => some (l1.foldl (a0j.stp (F9.by a2)) (Go.bits .and .u32 a0 m))
theorem a0j.at_ {w0 W : World} {B : Nat} {p : Int} (h : F9.Inv w0 W B p 256) (i : Int) (h0 : 0 ≤ i) (h1 : i < 256) : W.cell? ⟨B, i.toNat, none⟩ = some (.int .u32 (F9.b04 p 8 i)) := by
 obtain ⟨cs, g1, g2, g3, g4, g5⟩ := h.out
 obtain ⟨j, rfl⟩ := Int.eq_ofNat_of_zero_le h0
 exact (D6 g1 j).trans (g3 j (by omega))
theorem a0j.snoc (p r0 : Int) (l : List Int) (j : Nat) (h : j < l.length) : (l.take (j + 1)).foldl (a0j.stp p) r0 = a0j.stp p ((l.take j).foldl (a0j.stp p) r0) (rd l (j : Int)) := by
 unfold rd
 rw [List.take_succ_eq_append_getElem h, List.foldl_append]
 simp [h]
theorem a0j.range (a b : Int) : 0 ≤ Go.bits .xor .u8 a b ∧ Go.bits .xor .u8 a b < 256 := by
 unfold Go.bits
 simp only [IntKind.wrap_u8]
 omega
theorem a0j.calls (a0 : Int) (A1 : Option Addr) (c1 : Nat) (l1 : List Int) (a2 : Bool) (r : Int) (w : World) (hr1 : Kd.C (Kd.int .u8) w A1 l1.length l1) (hc1 : l1.length ≤ c1) (h : a0j.f a0 l1 a2 = some r) :
  Calls Tryd.prog 109 #[.int .u32 a0, .slice A1 l1.length c1, .bool a2] w fun e w' => e = .returned (.int .u32 r) ∧ Below w.heap.size w w' := by
 obtain ⟨m, hm, hr⟩ : ∃ m, a4d.f a2 = some m ∧ l1.foldl (a0j.stp (F9.by a2)) (Go.bits .and .u32 a0 m) = r := by
  unfold a0j.f at h
  cases e : a4d.f a2 with
  | none => rw [e] at h; cases h
  | some m => rw [e] at h; exact ⟨m, rfl, oj_ h⟩
 have HR := a_ hr
 have HC := a_ hr1
 have HN := a_ hr1.2.1
 clear h hr hr1
 go_enter Tryd.func109, Tryd.ntmps109
 go_wp2_with fail
 refine (a4d.calls a2 m _ hm).mono ?_
 rintro e w1 ⟨rfl, ⟨nd, rfl⟩⟩
 by_cases hl : l1 = []
 ·subst hl; have hlen : (([] : List Int).length : Int) = 0 := rfl
  go_wp2
  go_ret
  refine ⟨by rw [← HR.out]; rfl, ?_⟩; exact o9 (Below.refl _ _) nd
 ·have hlen : ¬ (l1.length : Int) = 0 := by
   intro h0; exact hl (List.eq_nil_of_length_eq_zero (by omega))
  go_wp2_with fail
  refine (F9.calls a2 _).mono ?_; rintro e w2 ⟨B, rfl, hI⟩; have HI := a_ hI; clear hI
  go_wp2
  go_loopg [22, 0] l1.length (fun kq v22 v0 w' => ∃ j : Nat, Aside0 (kq + j = l1.length) ∧ v22 = .int .i64 (j : Int) ∧ v0 = .int .u32 ((l1.take j).foldl (a0j.stp (F9.by a2)) (Go.bits .and .u32 a0 m)) ∧ Aside0 (F9.Inv (w.drewN nd) w' B (F9.by a2) 256))
  case atStart => exact ⟨0, ⟨rfl⟩, rfl, rfl, HI⟩
  case round =>
   obtain ⟨j, HJ, rfl, rfl, HI⟩ := hrel; have hj := HJ.out; have hn := HN.out
   by_cases hlt : j < l1.length
   ·obtain ⟨k1, rfl⟩ : ∃ k1, gk = k1 + 1 := ⟨gk - 1, by omega⟩; have hB : Below w.heap.size w wr := (o9 (Below.refl _ _) nd).trans HI.out.out.choose_spec.2.2.2.1; have p1 : 0 ≤ (j : Int) := by omega
    have q1 : (j : Int) < (l1.length : Int) := by omega
    obtain ⟨ad, e1, hx⟩ := Kd.Q7 HC.out (j : Int) p1 q1
    cases e1
    simp only [Int.toNat_natCast] at hx
    replace hx := (hB.cell (World.block_lt_of_cell? w _ hx)).trans hx; have HS := a_ (a0j.snoc (F9.by a2) (Go.bits .and .u32 a0 m) l1 j hlt); generalize hg : (l1.take j).foldl (a0j.stp (F9.by a2)) (Go.bits .and .u32 a0 m) = g at HS ⊢; have i0 : 0 ≤ Go.bits .xor .u8 (g % 256) (rd l1 (j : Int)) := (a0j.range _ _).1; have i1 : Go.bits .xor .u8 (g % 256) (rd l1 (j : Int)) < 256 := (a0j.range _ _).2; have ht := a0j.at_ HI.out _ i0 i1
    go_wp2
    go_roundg k1
    case measure => omega
    case rel => exact ⟨j + 1, ⟨by omega⟩, by go_num, (by rw [HS.out]; rfl), HI⟩
   ·have q1 : ¬ (j : Int) < (l1.length : Int) := by omega
    go_wp2
    go_ret
    refine ⟨by rw [← HR.out, List.take_of_length_le (by omega)]; rfl, ?_⟩; exact (o9 (Below.refl _ _) nd).trans HI.out.out.choose_spec.2.2.2.1
def a7K.f (l0 : List Int) (a1 : Bool) : Option (Bool) := if a1 = true then ((a2R.f a1).bind fun c8n => (if (l0.length : Int) ≥ c8n then ((a4d.f a1).bind fun e3n => ((a0j.f e3n l0 a1).bind fun e9p => (some (e9p == 3736805603)))) else (some false))) else ((a2R.f a1).bind fun c8o => (if (l0.length : Int) ≥ c8o then ((a4d.f a1).bind fun t193 => ((a0j.f t193 l0 a1).bind fun t194 => (some (t194 == 61624)))) else (some false)))
theorem a7K.calls (A0 : Option Addr) (c0 : Nat) (l0 : List Int) (a1 : Bool) (r : Bool) (w : World) (hr0 : Kd.C (Kd.int .u8) w A0 l0.length l0) (hc0 : l0.length ≤ c0) (h : a7K.f l0 a1 = some r) :
  Calls Tryd.prog 112 #[.slice A0 l0.length c0, .bool a1] w fun e w' => e = .returned (.bool r) ∧ Below w.heap.size w w' := by
 have HR0 := a_ hr0
 have HC0 := a_ hc0
 clear hr0 hc0
 have HB := a_ (Below.refl w.heap.size w)
 have H := h
 clear h
 unfold a7K.f at H
 by_cases c3 : a1 = true
 ·subst c3; rw [if_pos rfl] at H; obtain ⟨c8n, A4, H⟩ := bd_ H
  try dsimp only at H
  by_cases c5 : (l0.length : Int) ≥ c8n
  ·rw [if_pos c5] at H; have a5H : decide (c8n ≤ (l0.length : Int)) = true := dt_ c5; clear c5; obtain ⟨e3n, A6, H⟩ := bd_ H
   (try dsimp only at H); obtain ⟨e9p, A7, H⟩ := bd_ H
   (try dsimp only at H); obtain rfl := oj_ H
   go_enter Tryd.func112, Tryd.ntmps112
   go_wp2_with (first | (refine gl_ (some 10) Tryd.func105 #[.bool true] ?_; (with_reducible refine (a2R.calls true c8n _ A4.out).mono ?_); rintro e w' ⟨rfl, ⟨nd, rfl⟩⟩; refine ⟨_, rfl, ?_⟩) | (go_at_call 110; (with_reducible refine (a4d.calls true e3n _ A6.out).mono ?_); rintro e w' ⟨rfl, ⟨nd, rfl⟩⟩) | (go_at_call 109; (with_reducible refine (a0j.calls e3n _ _ l0 true e9p _ ?P9 ?P6 A7.out).mono ?_); (case P9 => exact HR0.out); (case P6 => exact HC0.out); rintro e w8 ⟨rfl, hb⟩; replace HB := a_ (J6 (by repeat (with_reducible first | exact HB.out | apply o9)) hb); (try clear hb)))
   go_ret
   exact ⟨by (rfl), by exact HB.out⟩
  ·rw [if_neg c5] at H; have a5H : decide (c8n ≤ (l0.length : Int)) = false := df_ c5; clear c5; obtain rfl := oj_ H
   go_enter Tryd.func112, Tryd.ntmps112
   go_wp2_with (first | (refine gl_ (some 10) Tryd.func105 #[.bool true] ?_; (with_reducible refine (a2R.calls true c8n _ A4.out).mono ?_); rintro e w' ⟨rfl, ⟨nd, rfl⟩⟩; refine ⟨_, rfl, ?_⟩))
   go_ret
   exact ⟨by (rfl), by repeat (with_reducible first | exact HB.out | apply o9)⟩
 ·cases nt_ c3
  rw [if_neg a3X] at H; obtain ⟨c8o, A9, H⟩ := bd_ H
  try dsimp only at H
  by_cases c10 : (l0.length : Int) ≥ c8o
  ·rw [if_pos c10] at H; have a9w : decide (c8o ≤ (l0.length : Int)) = true := dt_ c10; clear c10; obtain ⟨t193, A11, H⟩ := bd_ H
   (try dsimp only at H); obtain ⟨t194, A12, H⟩ := bd_ H
   (try dsimp only at H); obtain rfl := oj_ H
   go_enter Tryd.func112, Tryd.ntmps112
   go_wp2_with (first | (refine gl_ (some 10) Tryd.func105 #[.bool false] ?_; (with_reducible refine (a2R.calls false c8o _ A9.out).mono ?_); rintro e w' ⟨rfl, ⟨nd, rfl⟩⟩; refine ⟨_, rfl, ?_⟩) | (go_at_call 110; (with_reducible refine (a4d.calls false t193 _ A11.out).mono ?_); rintro e w' ⟨rfl, ⟨nd, rfl⟩⟩) | (go_at_call 109; (with_reducible refine (a0j.calls t193 _ _ l0 false t194 _ ?P9 ?P6 A12.out).mono ?_); (case P9 => exact HR0.out); (case P6 => exact HC0.out); rintro e w13 ⟨rfl, hb⟩; replace HB := a_ (J6 (by repeat (with_reducible first | exact HB.out | apply o9)) hb); (try clear hb)))
   go_ret
   exact ⟨by (rfl), by exact HB.out⟩
  ·rw [if_neg c10] at H; have a9w : decide (c8o ≤ (l0.length : Int)) = false := df_ c10; clear c10; obtain rfl := oj_ H
   go_enter Tryd.func112, Tryd.ntmps112
   go_wp2_with (first | (refine gl_ (some 10) Tryd.func105 #[.bool false] ?_; (with_reducible refine (a2R.calls false c8o _ A9.out).mono ?_); rintro e w' ⟨rfl, ⟨nd, rfl⟩⟩; refine ⟨_, rfl, ?_⟩))
   go_ret
   exact ⟨by (rfl), by repeat (with_reducible first | exact HB.out | apply o9)⟩
def a8Y.f (l0 : List Int) (a1 : Bool) : Option (List Int × Bool) := (a7K.f l0 a1).bind fun e9q => (if e9q = true then ((a2R.f a1).bind fun t196 => (if 0 ≤ (wrap64 ((l0.length : Int) - t196)) then (if (wrap64 ((l0.length : Int) - t196)) ≤ (l0.length : Int) then ((P5.f (l0.take ((wrap64 ((l0.length : Int) - t196)) : Int).toNat)).bind fun t198 => (some (t198, true))) else (none)) else (none))) else (some (([] : List Int), false)))
theorem a8Y.calls (A0 : Option Addr) (c0 : Nat) (l0 : List Int) (a1 : Bool) (r1 : List Int) (r2 : Bool) (w : World) (hr0 : Kd.C (Kd.int .u8) w A0 l0.length l0) (hc0 : l0.length ≤ c0) (h : a8Y.f l0 a1 = some (r1, r2)) :
  Calls Tryd.prog 107 #[.slice A0 l0.length c0, .bool a1] w fun e w' => ∃ v0_ : Value, e = .returned (.tuple #[v0_, .bool r2]) ∧ Kd.R (Kd.int .u8) 5 w' w.heap.size (fun _ => True) v0_ r1 ∧ Below w.heap.size w w' := by
 have HR0 := a_ hr0
 have HC0 := a_ hc0
 clear hr0 hc0
 have HB := a_ (Below.refl w.heap.size w)
 have H := h
 clear h
 unfold a8Y.f at H
 obtain ⟨e9q, A3, H⟩ := bd_ H
 try dsimp only at H
 by_cases c4 : e9q = true
 ·subst c4; rw [if_pos rfl] at H; obtain ⟨t196, A5, H⟩ := bd_ H
  (try dsimp only at H); obtain ⟨ji6, c6j⟩ := si_ ((wrap64 ((l0.length : Int) - t196))); rw [c6j] at H; have e6a : (IntKind.i64.wrap ((l0.length : Int) - t196)) = ji6 := (a0J _).trans c6j; have c7 := Z4 H; replace H := O5 H; have a6f := eq_true c7; have b0g := dt_ c7; clear c7; have c8 := Z4 H; replace H := O5 H; have b2c := eq_true c8; have d3C := dt_ c8; clear c8; obtain ⟨t198, A9, H⟩ := bd_ H
  (try dsimp only at H); obtain ⟨rfl, rfl⟩ := s2_ H
  go_enter Tryd.func107, Tryd.ntmps107
  go_wp2_with (first | (refine gl_ (some 8) Tryd.func112 #[.slice A0 l0.length c0, .bool a1] ?_; (with_reducible refine (a7K.calls _ _ l0 a1 true _ HR0.out HC0.out A3.out).mono ?_); rintro e w10 ⟨rfl, hb⟩; refine ⟨_, rfl, ?_⟩; replace HB := V3 HB hb; (try clear hb)) | (refine gl_ (some 14) Tryd.func105 #[.bool a1] ?_; (with_reducible refine (a2R.calls a1 t196 _ A5.out).mono ?_); rintro e w' ⟨rfl, ⟨nd, rfl⟩⟩; refine ⟨_, rfl, ?_⟩; obtain ⟨h34, e6b, _, e6c, _⟩ := info_parts info5; obtain ⟨g4N, f5A, f5B⟩ := a6c (P := Tryd.prog) (Value.int .u8) 0 22 5 .i64 Tryd.underlying22 e6b e6c A0 c0 l0 (ji6) (V5) (V5) HC0.out; have f5C := ci_ (Kd.Y8 (h1 := fun _ => rfl) (f5A _ (Kd.Y3 HR0.out))); have f5D := a_ f5B; clear f5A f5B e6b e6c) | (refine gl_ (some 17) Tryd.func96 #[.slice A0 (l0.take ((ji6) : Int).toNat).length c0] ?_ (hargs := by (try simp only [List.map_toArray, List.map_cons, List.map_nil]); (rw [show (l0.take ((ji6) : Int).toNat).length = (ji6).toNat from (by rw [List.length_take]; have h_ : ((ji6) : Int) ≤ (l0.length : Int) := V5; omega)] <;> rfl)); (with_reducible refine (P5.calls _ _ (l0.take ((ji6) : Int).toNat) t198 _ ?P9 ?P6 A9.out).mono ?_); (case P9 => repeat ((exact (Kd.y9 f5C.out (by repeat (with_reducible first | exact HB.out | apply o9)))))); (case P6 => exact f5D.out); rintro e w12 ⟨h36, rfl, ho0, hb⟩; refine ⟨_, rfl, ?_⟩; have f5E := a_ (Kd.Z9 ho0 (y5 (by repeat (with_reducible first | exact HB.out | apply o9)))); replace HB := a_ (J6 (by repeat (with_reducible first | exact HB.out | apply o9)) hb); (try clear hb); (try clear ho0)))
  go_ret2
  exact ⟨_, by (rfl), by exact f5E.out, by exact HB.out⟩
 ·cases nt_ c4
  rw [if_neg a3X] at H; obtain ⟨rfl, rfl⟩ := s2_ H
  go_enter Tryd.func107, Tryd.ntmps107
  go_wp2_with (first | (refine gl_ (some 8) Tryd.func112 #[.slice A0 l0.length c0, .bool a1] ?_; (with_reducible refine (a7K.calls _ _ l0 a1 false _ HR0.out HC0.out A3.out).mono ?_); rintro e w13 ⟨rfl, hb⟩; refine ⟨_, rfl, ?_⟩; replace HB := V3 HB hb; (try clear hb)))
  go_ret2
  exact ⟨_, by (rfl), by (exact Kd.Y2 _ _ _ _ _), by exact HB.out⟩
def DF.size (wide : Bool) : Int := if wide = true then 4 else 2
def DF.close (k : Nat) (m : Int) (wide : Bool) (s : DF) : Option DF :=
 (V6.f k s.held m).bind fun x =>
  if x.2 = true then
   if x.1.length = 0 then some s
   else if (x.1.length : Int) < DF.size wide + 2 then some { s with ts := wrap64 (s.ts + 1) }
   else if (x.1.length : Int) > DF.size wide + 65535 then some { s with tl := wrap64 (s.tl + 1) }
   else (a8Y.f x.1 wide).bind fun y =>
    if y.2 = true then if s.done.length < 5864062014805 then some { s with tg := wrap64 (s.tg + 1), done := s.done ++ [y.1] } else none
    else some { s with tw := wrap64 (s.tw + 1) }
  else some { s with ta := wrap64 (s.ta + 1) }
theorem DF.e9r (wide : Bool) : a2R.f wide = some (DF.size wide) := by cases wide <;> rfl
theorem DF.size_le (wide : Bool) : 2 ≤ DF.size wide ∧ DF.size wide ≤ 4 := by cases wide <;> decide
theorem b2y.calls (k : Nat) (B D p : Nat) (vh vd : Value) (m : Int) (wide : Bool) (s s' : DF) (W : World) (h : DFI B D W p vh vd m wide s) (hB : B ≤ D) (hD : D ≤ W.heap.size) (hs : DF.close k m wide s = some s') :
  Calls Tryd.prog 98 #[.pointer (some ⟨p, 0, none⟩), vh] W fun e W' => e = .returned (.tuple #[]) ∧ Aside0 (∃ vd', DFI B D W' p vh vd' m wide s' ∧ DFK B W W' (fun k => k = p ∨ some k = vd.ownBlock)) := by
 have hu := Tryd.underlying120
 have hu2 := Tryd.underlying118
 unfold DF.close at hs
 obtain ⟨⟨x, xo⟩, hx, hs⟩ := Option.bind_eq_some_iff.1 hs
 have hz := DF.size_le wide
 have hzf := DF.e9r wide
 generalize DF.size wide = z at hs hz hzf
 have HZF := a_ hzf
 clear hzf
 obtain ⟨hz1, hz2⟩ := hz
 obtain ⟨Ah, ch, rfl, hle, hC⟩ := Kd.b4Q h.held
 have HLE := a_ hle
 have HC := a_ hC
 have HX := a_ hx
 have HS := a_ hs
 have HH := a_ h
 have HBB := a_ hB
 have HD := a_ hD
 have hc0 : W.cell? ⟨p, 0, none⟩ = some (.int .u32 m) := h.cell 0 _ rfl
 have hf0 := h.free 0
 have hc1 : W.cell? ⟨p, 1, none⟩ = some (.bool wide) := h.cell 1 _ rfl
 have hf1 := h.free 1
 have hc4 : W.cell? ⟨p, 4, none⟩ = some (.int .i64 s.tg) := h.cell 4 _ rfl
 have hf4 := h.free 4
 have hc5 : W.cell? ⟨p, 5, none⟩ = some (.int .i64 s.ta) := h.cell 5 _ rfl
 have hf5 := h.free 5
 have hc6 : W.cell? ⟨p, 6, none⟩ = some (.int .i64 s.ts) := h.cell 6 _ rfl
 have hf6 := h.free 6
 have hc7 : W.cell? ⟨p, 7, none⟩ = some (.int .i64 s.tl) := h.cell 7 _ rfl
 have hf7 := h.free 7
 have hc8 : W.cell? ⟨p, 8, none⟩ = some (.int .i64 s.tw) := h.cell 8 _ rfl
 have hf8 := h.free 8
 have hc9 : W.cell? ⟨p, 9, none⟩ = some (vd) := h.cell 9 _ rfl
 have hf9 := h.free 9
 clear h hs hx hle hC hB hD
 go_enter Tryd.func98, Tryd.ntmps98
 go_wp2_with (fail)
 refine (V6.calls k Ah ch s.held m x xo W HC.out HLE.out HX.out).mono ?_
 rintro e w1 ⟨vx, rfl, hox, hb⟩
 have HH1 := a_ (HH.out.below hb)
 have HK1 := a_ (DFK.below (S := fun k => k = p ∨ some k = vd.ownBlock) (DFK.refl B W _) (Nat.le_trans HBB.out HD.out) hb)
 have HD1 := a_ (Nat.le_trans HD.out hb.size)
 obtain ⟨Ax, cx, rfl⟩ := Kd.G7 hox
 have HOX := a_ hox
 have LX := a_ (Kd.D9 hox).2.2.2.1
 clear hox hb hc0 hf0 hc1 hf1 hc4 hf4 hc5 hf5 hc6 hf6 hc7 hf7 hc8 hf8 hc9 hf9
 have hc0 : w1.cell? ⟨p, 0, none⟩ = some (.int .u32 m) := HH1.out.cell 0 _ rfl
 have hf0 := HH1.out.free 0
 have hc1 : w1.cell? ⟨p, 1, none⟩ = some (.bool wide) := HH1.out.cell 1 _ rfl
 have hf1 := HH1.out.free 1
 have hc4 : w1.cell? ⟨p, 4, none⟩ = some (.int .i64 s.tg) := HH1.out.cell 4 _ rfl
 have hf4 := HH1.out.free 4
 have hc5 : w1.cell? ⟨p, 5, none⟩ = some (.int .i64 s.ta) := HH1.out.cell 5 _ rfl
 have hf5 := HH1.out.free 5
 have hc6 : w1.cell? ⟨p, 6, none⟩ = some (.int .i64 s.ts) := HH1.out.cell 6 _ rfl
 have hf6 := HH1.out.free 6
 have hc7 : w1.cell? ⟨p, 7, none⟩ = some (.int .i64 s.tl) := HH1.out.cell 7 _ rfl
 have hf7 := HH1.out.free 7
 have hc8 : w1.cell? ⟨p, 8, none⟩ = some (.int .i64 s.tw) := HH1.out.cell 8 _ rfl
 have hf8 := HH1.out.free 8
 have hc9 : w1.cell? ⟨p, 9, none⟩ = some (vd) := HH1.out.cell 9 _ rfl
 have hf9 := HH1.out.free 9
 go_wp2_with (fail)
 refine (a2R.calls wide _ _ HZF.out).mono ?_
 rintro e w2 ⟨rfl, ⟨nd, rfl⟩⟩
 cases xo with
 | false =>
  have hs := HS.out; rw [if_neg (by decide)] at hs; obtain rfl := oj_ hs; clear hs HS
  go_wp2
  go_end0
  exact ⟨rfl, ⟨_, (HH1.out.drewN nd).set 5 _ { s with ta := wrap64 (s.ta + 1) } rfl rfl rfl, (HK1.out.drewN nd).set (Or.inl rfl) HH1.out.le 5 _⟩⟩
 | true =>
  have hs := HS.out; rw [if_pos rfl] at hs; clear HS
  by_cases hx0 : x.length = 0
  ·rw [if_pos hx0] at hs; obtain rfl := oj_ hs; obtain rfl := List.eq_nil_of_length_eq_zero hx0; clear hs hx0
   simp only [List.length_nil]
   go_wp2
   go_end0
   exact ⟨rfl, ⟨_, HH1.out.drewN nd, HK1.out.drewN nd⟩⟩
  ·rw [if_neg hx0] at hs; have e0 : ((x.length : Int) == 0) = false := by simpa using hx0
   have e1 : decide ((x.length : Int) = 0) = false := by simpa using hx0
   have e2 : (x.length == 0) = false := by simpa using hx0
   have e3 : ¬ (x = []) := fun e_ => hx0 (by rw [e_]; rfl)
   by_cases hx1 : (x.length : Int) < z + 2
   ·rw [if_pos hx1] at hs; obtain rfl := oj_ hs; have f1 : decide ((x.length : Int) < z + 2) = true := dt_ hx1; clear hs hx0
    go_wp2
    go_end0
    exact ⟨rfl, ⟨_, (HH1.out.drewN nd).set 6 _ { s with ts := wrap64 (s.ts + 1) } rfl rfl rfl, (HK1.out.drewN nd).set (Or.inl rfl) HH1.out.le 6 _⟩⟩
   ·rw [if_neg hx1] at hs; have f1 : decide ((x.length : Int) < z + 2) = false := df_ hx1
    by_cases hx2 : (x.length : Int) > z + 65535
    ·rw [if_pos hx2] at hs; obtain rfl := oj_ hs; have f2 : decide (z + 65535 < (x.length : Int)) = true := dt_ hx2; clear hs hx0
     go_wp2
     go_end0
     exact ⟨rfl, ⟨_, (HH1.out.drewN nd).set 7 _ { s with tl := wrap64 (s.tl + 1) } rfl rfl rfl, (HK1.out.drewN nd).set (Or.inl rfl) HH1.out.le 7 _⟩⟩
    ·rw [if_neg hx2] at hs; have f2 : decide (z + 65535 < (x.length : Int)) = false := df_ hx2; obtain ⟨⟨y, yo⟩, hy, hs⟩ := Option.bind_eq_some_iff.1 hs; have HY := a_ hy; have HS := a_ hs; clear hs hx0 hy
     go_wp2_with (fail)
     refine (a8Y.calls Ax cx x wide y yo _ (Kd.a7A (Kd.D9 HOX.out).2.2 nd) (Kd.D9 HOX.out).2.1 HY.out).mono ?_; rintro e w3 ⟨vy, rfl, hoy, hb⟩; have HH3 := a_ ((HH1.out.drewN nd).below hb); have HK3 := a_ (DFK.below (HK1.out.drewN nd) (Nat.le_trans HBB.out HD.out) hb); have SD := a_ (Kd.d4y (HH1.out.drewN nd).done hb); have LP : Aside0 (p < (w1.drewN nd).heap.size) := ⟨a0u (HH1.out.drewN nd).blk⟩; have LH := a_ (Kd.a0i (HH1.out.drewN nd).held); have LV := a_ (Kd.b93 (HH1.out.drewN nd).done); have LY := a_ (Kd.a0C hoy); have L31 := a_ hb.size; have HD3 := a_ (Nat.le_trans HD1.out hb.size); obtain ⟨Ay, cy, rfl⟩ := Kd.G7 hoy; have HOY := a_ (Kd.Z9 hoy HD1.out); clear hoy hb hc0 hf0 hc1 hf1 hc4 hf4 hc5 hf5 hc6 hf6 hc7 hf7 hc8 hf8 hc9 hf9; have hc4 : w3.cell? ⟨p, 4, none⟩ = some (.int .i64 s.tg) := HH3.out.cell 4 _ rfl; have hf4 := HH3.out.free 4; have hc8 : w3.cell? ⟨p, 8, none⟩ = some (.int .i64 s.tw) := HH3.out.cell 8 _ rfl; have hf8 := HH3.out.free 8; have hc9 : w3.cell? ⟨p, 9, none⟩ = some (vd) := HH3.out.cell 9 _ rfl; have hf9 := HH3.out.free 9
     cases yo with
     | false =>
      have hs := HS.out; rw [if_neg (by decide)] at hs; obtain rfl := oj_ hs; clear hs HS
      go_wp2
      refine bodyPost_ret (results_none rfl _ _ _) rfl ?_; exact ⟨rfl, ⟨_, HH3.out.set 8 _ { s with tw := wrap64 (s.tw + 1) } rfl rfl rfl, HK3.out.set (Or.inl rfl) HH3.out.le 8 _⟩⟩
     | true =>
      have hs := HS.out; rw [if_pos rfl] at hs; clear HS
      by_cases hl : s.done.length < 5864062014805
      ·rw [if_pos hl] at hs; obtain rfl := oj_ hs; have HL := a_ hl; clear hs hl; have H4 : Aside0 (DFI B D (w3.setCell ⟨p, 4, none⟩ (.int .i64 (wrap64 (s.tg + 1)))) p (.slice Ah s.held.length ch) vd m wide { s with tg := wrap64 (s.tg + 1) }) := ⟨HH3.out.set 4 _ { s with tg := wrap64 (s.tg + 1) } rfl rfl rfl⟩; have SD4 := a_ (Kd.V9 (p := ⟨p, 4, none⟩) SD.out (fun k hk => hk.1.1) (.int .i64 (wrap64 (s.tg + 1)))); have HY4 := a_ (Kd.U0 (p := ⟨p, 4, none⟩) (Kd.P8 HOY.out HH3.out.blk (by decide)) (fun k hk => hk.2) (.int .i64 (wrap64 (s.tg + 1)))); have HK4 := a_ (HK3.out.set (Or.inl rfl) HH3.out.le 4 (.int .i64 (wrap64 (s.tg + 1))))
       go_wp2_with (((with_reducible refine E8 (b := .append) (xs := #[.tmp 56, .tmp 58]) rfl ?_); at_builtin; refine Kd.a7I (Kd.slice 5 (Kd.int .u8)) (w0 := w3.setCell ⟨p, 4, none⟩ (.int .i64 (wrap64 (s.tg + 1)))) D rfl (.tmp 56) (.tmp 58) 74 22 (.slice none 0 0) 24 rfl Tryd.underlying74 info22 rfl (by decide) (by omega) vd s.done y [.slice Ay y.length cy] (fun k => k ≠ p ∧ some k ≠ (.slice Ah s.held.length ch : Value).ownBlock) (fun k => some k = (.slice Ay y.length cy : Value).ownBlock) rfl ?aX ?aP ?aK ?aF ?aO ?aB ?aS ?aL ?_; (case aX => exact congrArg (fun n : Nat => Value.slice (some ⟨n, 0, none⟩) 1 1) (show w3.heap.size = (w3.setCell _ _).heap.size from by simp only [World.setCell, Array.size_modify])); (case aP => exact Kd.f1y (Kd.a3v rfl HY4.out)); (case aK => exact fun k hk => ⟨⟨fun e_ => by have h1 := LY.out k hk.symm; have h2 := LP.out; omega, fun e_ => by have h1 := LY.out k hk.symm; have h2 := LH.out k e_.symm; omega⟩, fun e_ => by have h1 := LY.out k hk.symm; have h2 := LV.out k e_.symm; omega⟩); (case aF => exact fun k hk => ⟨fun e_ => by have h1 := L31.out; have h2 := LP.out; simp only [World.setCell, Array.size_modify] at hk; omega, fun e_ => by have h1 := L31.out; have h2 := LH.out k e_.symm; simp only [World.setCell, Array.size_modify] at hk; omega⟩); (case aO => exact Kd.N7 SD4.out (fun k hk => ⟨hk.1, fun e_ => by have h1 := LY.out k e_.symm; have h2 := hk.2; omega⟩)); (case aB => exact Below.refl _ _); (case aS => simp only [World.setCell, Array.size_modify]; exact HD3.out); (case aL => have := HL.out; omega); intro v5 w5 ho hb hg hat; obtain ⟨A5, c5, eo5⟩ := Kd.a6m ho; subst eo5; have BK5 := a_ (J7 H4.out.blk hg (Kd.b8f SD4.out H4.out.blk (by decide))); have HO5 := a_ ho; have HB5 := a_ hb; have HG5 := a_ hg; have hc5 : w5.cell? ⟨p, 9, none⟩ = some vd := (D6 BK5.out 9).trans rfl; have hf5 := l7 BK5.out 9; clear ho hb hg hat))
       go_end0
       have ho6 := HO5.out
       simp only [List.length_append, List.length_singleton] at ho6
       have HO6 := a_ ho6; refine ⟨rfl, ⟨.slice A5 (s.done.length + 1) c5, ⟨?_, ?_, ?_, HH3.out.le⟩, ?_⟩⟩
       ·exact a3Z BK5.out 9 _
       ·exact Kd.U0 (Kd.D7 (Kd.X5 (Kd.b4P H4.out.held HG5.out (fun k hk => hk.2)) (Kd.a2A HO6.out) (by decide)) (fun k hk => ⟨hk.1.1, hk.2⟩)) (fun k hk => hk.1) _
       ·exact Kd.V9 HO6.out (fun k hk => hk.1) _
       ·exact DFK.set (DFK.grown HK4.out HBB.out HB5.out HG5.out (fun k hk => Or.inr hk.symm)) (Or.inl rfl) HH3.out.le 9 _
      ·rw [if_neg hl] at hs
       cases hs
theorem DF.c8p {k : Nat} {m : Int} {wide : Bool} {s s' : DF} (h : DF.close k m wide s = some s') : s'.held = s.held ∧ s'.inn = s.inn := by
 unfold DF.close at h
 obtain ⟨x, _, h⟩ := Option.bind_eq_some_iff.1 h
 by_cases h1 : x.2 = true
 ·rw [if_pos h1] at h
  by_cases h2 : x.1.length = 0
  ·rw [if_pos h2] at h; obtain rfl := oj_ h; exact ⟨rfl, rfl⟩
  ·rw [if_neg h2] at h
   by_cases h3 : (x.1.length : Int) < DF.size wide + 2
   ·rw [if_pos h3] at h; obtain rfl := oj_ h; exact ⟨rfl, rfl⟩
   ·rw [if_neg h3] at h
    by_cases h4 : (x.1.length : Int) > DF.size wide + 65535
    ·rw [if_pos h4] at h; obtain rfl := oj_ h; exact ⟨rfl, rfl⟩
    ·rw [if_neg h4] at h; obtain ⟨y, _, h⟩ := Option.bind_eq_some_iff.1 h
     by_cases h5 : y.2 = true
     ·rw [if_pos h5] at h
      by_cases h6 : s.done.length < 5864062014805
      ·rw [if_pos h6] at h; obtain rfl := oj_ h; exact ⟨rfl, rfl⟩
      ·rw [if_neg h6] at h
       cases h
     ·rw [if_neg h5] at h; obtain rfl := oj_ h; exact ⟨rfl, rfl⟩
 ·rw [if_neg h1] at h; obtain rfl := oj_ h; exact ⟨rfl, rfl⟩
theorem a4W.more (B D p : Nat) (vh vd : Value) (m : Int) (wide : Bool) (s : DF) (c : Int) (W : World) (h : DFI B D W p vh vd m wide s) (hc : c ≠ 126) (hB : B ≤ W.heap.size) (hl : s.held.length < 140737488355328) :
  Calls Tryd.prog 84 #[.pointer (some ⟨p, 0, none⟩), .int .u8 c] W fun e W' => e = .returned (.tuple #[]) ∧ Aside0 (∃ vh', DFI B D W' p vh' vd m wide { s with held := s.held ++ [c] } ∧ DFK B W W' (fun k => k = p ∨ some k = vh.ownBlock) ∧ (vh'.ownBlock = vh.ownBlock ∨ ∃ b, vh'.ownBlock = some b ∧ W.heap.size ≤ b)) := by
 have hu := Tryd.underlying120
 have h1 : (c != 126) = true := by simpa using hc
 have h2 : decide (c = 126) = false := by simpa using hc
 have h3 : (c == 126) = false := by simpa using hc
 have HBB := a_ hB
 have HL := a_ hl
 have HH := a_ h
 have LP : Aside0 (p < W.heap.size) := ⟨a0u h.blk⟩
 have LV := a_ (Kd.b93 h.done)
 have hc3 : W.cell? ⟨p, 3, none⟩ = some vh := h.cell 3 _ rfl
 have hf3 := h.free 3
 clear h hc hB hl
 go_enter Tryd.func84, Tryd.ntmps84
 go_wp2_with (((with_reducible refine E8 (b := .append) (xs := #[.tmp 10, .tmp 12]) rfl ?_); at_builtin; refine Kd.a2Q (Kd.int .u8) (w0 := W) B rfl (.tmp 10) (.tmp 12) 22 5 (.int .u8 0) 1 rfl Tryd.underlying22 info5 rfl (by decide) (by omega) vh s.held c [.int .u8 c] (fun k => k ≠ p ∧ some k ≠ vd.ownBlock) (fun _ => False) rfl rfl ?aP (fun _ hk => hk.elim) ?aF ?aO ?aB ?aS ?aL ?_; (case aP => exact rfl); (case aB => exact Below.refl _ _); (case aF => exact fun k hk => ⟨fun e_ => by have h_ := LP.out; omega, fun e_ => by have h_ := LV.out k e_.symm; omega⟩); (case aO => exact HH.out.held); (case aS => exact HBB.out); (case aL => have := HL.out; omega); intro v5 w5 ho hb hg hat; obtain ⟨A5, c5, eo5⟩ := Kd.G7 ho; subst eo5; have BK5 := a_ (J7 HH.out.blk hg (Kd.a6B HH.out.held HH.out.blk (by decide))); have HO5 := a_ ho; have HB5 := a_ hb; have HG5 := a_ hg; have HA5 := a_ hat; have hc5 := bc3 BK5; have hf5 := l7 BK5.out 3; clear ho hb hg hat))
 refine bodyPost_ret (results_none rfl _ _ _) rfl ?_
 have ho6 := HO5.out
 have ha6 := HA5.out
 simp only [List.length_append, List.length_singleton] at ho6 ha6
 refine ⟨rfl, ⟨.slice A5 (s.held.length + 1) c5, ⟨?_, ?_, ?_, HH.out.le⟩, ?_, ha6⟩⟩
 ·exact a3Z BK5.out 3 _
 ·exact Kd.U0 ho6 (fun k hk => hk.1) _
 ·exact Kd.V9 (Kd.N7 (Kd.b0V (Kd.N7 HH.out.done (fun k hk => ⟨hk.1, hk.2⟩)) HG5.out ha6) (fun k hk => hk)) (fun k hk => hk.1) _
 ·exact DFK.set (S := fun k => k = p ∨ some k = vh.ownBlock) (DFK.grown (DFK.refl B W (fun k => k = p ∨ some k = vh.ownBlock)) (Nat.le_refl _) HB5.out HG5.out (fun k hk => Or.inr hk.symm)) (Or.inl (show p = p from rfl)) HH.out.le 3 _
theorem a4W.flag (k : Nat) (B D p : Nat) (vh vd : Value) (m : Int) (wide : Bool) (s s' : DF) (W : World) (h : DFI B D W p vh vd m wide s) (hB : B ≤ D) (hD : D ≤ W.heap.size) (hs : DF.close k m wide s = some s') :
  Calls Tryd.prog 84 #[.pointer (some ⟨p, 0, none⟩), .int .u8 126] W fun e W' => e = .returned (.tuple #[]) ∧ Aside0 (∃ vh' vd', DFI B D W' p vh' vd' m wide { s' with held := [] } ∧ DFK B W W' (fun k => k = p ∨ some k = vd.ownBlock) ∧ vh'.ownBlock = vh.ownBlock) := by
 have hu := Tryd.underlying120
 have hsh := DF.c8p hs
 obtain ⟨Ah, ch, rfl, hle, hC⟩ := Kd.b4Q h.held
 have HLE := a_ hle
 have hc3 : W.cell? ⟨p, 3, none⟩ = some (.slice Ah s.held.length ch) := h.cell 3 _ rfl
 have hf3 := h.free 3
 have HBB := a_ hB
 have HD := a_ hD
 have HS := a_ hs
 have HSH := a_ hsh
 have HH := a_ h
 clear h hB hD hs hsh hle hC
 go_enter Tryd.func84, Tryd.ntmps84
 go_wp2_with (fail)
 refine (b2y.calls k B D p _ vd m wide s s' W HH.out HBB.out HD.out HS.out).mono ?_
 rintro e w1 ⟨rfl, ⟨vd1, hh, hk⟩⟩
 have HH1 := a_ hh
 have HK1 := a_ hk
 clear hc3 hf3 hh hk
 have hc3 : w1.cell? ⟨p, 3, none⟩ = some (.slice Ah s.held.length ch) := HH1.out.cell 3 _ rfl
 have hf3 := HH1.out.free 3
 go_wp2
 go_end0
 refine ⟨rfl, ⟨.slice Ah 0 ch, vd1, ⟨?_, ?_, ?_, HH1.out.le⟩, ?_, ?_⟩⟩
 ·exact a3Z HH1.out.blk 3 _
 ·exact Kd.U0 (Kd.d4q HH1.out.held (Nat.zero_le _)) (fun k hk => hk.1) _
 ·exact Kd.V9 (Kd.N7 HH1.out.done (fun k hk => ⟨hk.1, fun e_ => hk.2 (by rw [e_]; cases Ah <;> rfl)⟩)) (fun k hk => hk.1) _
 ·exact HK1.out.set (Or.inl rfl) HH1.out.le 3 _
 ·cases Ah <;> rfl
def DF.step (k : Nat) (m : Int) (wide : Bool) (s : DF) (c : Int) : Option DF :=
 if s.inn = true then
  if c = 126 then (DF.close k m wide s).bind fun s' => some { s' with held := [] }
  else if s.held.length < 140737488355328 then some { s with held := s.held ++ [c] } else none
 else if c = 126 then some { s with inn := true } else some s
def DF.feed (k : Nat) (m : Int) (wide : Bool) : DF → List Int → Option DF
 | s, [] => some s
 | s, c :: l => (DF.step k m wide s c).bind fun s' => DF.feed k m wide s' l
structure DFR (k B : Nat) (w W : World) (p : Nat) (vh0 : Value) (m : Int) (wide : Bool) (r : List Int) (sr : DF) : Prop where
 mk ::
 out : ∃ (vh vd : Value) (s : DF), DFI B w.heap.size W p vh vd m wide s ∧ DFK B w W (fun k => k = p ∨ some k = vh0.ownBlock) ∧ (vh.ownBlock = vh0.ownBlock ∨ ∃ b, vh.ownBlock = some b ∧ w.heap.size ≤ b) ∧ DF.feed k m wide s r = some sr
theorem DFI.e3o {B D D' : Nat} {W : World} {p : Nat} {vh : Value} {m : Int} {wide : Bool} {s : DF} (h : DFI B D W p vh (.slice none 0 0) m wide s) (hd : s.done = []) : DFI B D' W p vh (.slice none 0 0) m wide s := ⟨h.blk, h.held, by rw [hd]; exact Kd.a5p _ _ _ _ _, h.le⟩
theorem DF.changed {B p : Nat} {w W : World} {vh0 vh vd : Value} {m : Int} {wide : Bool} {s : DF} (h : DFI B w.heap.size W p vh vd m wide s) (hv : vh.ownBlock = vh0.ownBlock ∨ ∃ b, vh.ownBlock = some b ∧ w.heap.size ≤ b) (k : Nat) (hk : k = p ∨ some k = vh.ownBlock ∨ some k = vd.ownBlock) : (k = p ∨ some k = vh0.ownBlock) ∨ w.heap.size ≤ k := by
 rcases hk with hk | hk | hk
 ·exact .inl (.inl hk)
 ·rcases hv with hv | ⟨b, hv, hb⟩
  ·exact .inl (.inr (hk.trans hv))
  ·rw [hv] at hk; injection hk with hk
   subst hk; exact .inr hb
 ·exact .inr (Kd.d4x h.done k hk.symm)
theorem DF.moved {w W : World} {vh0 vh vh' : Value} (hv : vh.ownBlock = vh0.ownBlock ∨ ∃ b, vh.ownBlock = some b ∧ w.heap.size ≤ b) (hle : w.heap.size ≤ W.heap.size) (h : vh'.ownBlock = vh.ownBlock ∨ ∃ b, vh'.ownBlock = some b ∧ W.heap.size ≤ b) : vh'.ownBlock = vh0.ownBlock ∨ ∃ b, vh'.ownBlock = some b ∧ w.heap.size ≤ b := by
 rcases h with h | ⟨b, h, hb⟩
 ·rw [h]; exact hv
 ·exact .inr ⟨b, h, Nat.le_trans hle hb⟩
theorem a8n.calls (k B p : Nat) (vh0 : Value) (m : Int) (wide : Bool) (s sr : DF) (A0 : Option Addr) (c0 : Nat) (l0 : List Int) (w : World) (hD : DFI B w.heap.size w p vh0 (.slice none 0 0) m wide s) (hB : B ≤ w.heap.size) (hA : Kd.F (Kd.int .u8) w (fun k => k ≠ p ∧ some k ≠ vh0.ownBlock) A0 l0.length l0) (hs : DF.feed k m wide s l0 = some sr) :
  Calls Tryd.prog 46 #[.pointer (some ⟨p, 0, none⟩), .slice A0 l0.length c0] w fun e w' => ∃ v0 : Value, e = .returned v0 ∧ Aside0 (∃ vh', (∀ D, DFI B D w' p vh' (.slice none 0 0) m wide { sr with done := [] }) ∧ Kd.S (Kd.slice 5 (Kd.int .u8)) 22 w' w.heap.size (fun k => k ≠ p ∧ some k ≠ vh'.ownBlock) v0 sr.done ∧ DFK B w w' (fun k => k = p ∨ some k = vh0.ownBlock) ∧ (vh'.ownBlock = vh0.ownBlock ∨ ∃ b, vh'.ownBlock = some b ∧ w.heap.size ≤ b)) := by
 have hu := Tryd.underlying120
 have HN := a_ (Kd.f1H hA)
 have HBB := a_ hB
 have HA := a_ hA
 have HR : Aside0 (DFR k B w w p vh0 m wide (l0.drop 0) sr) := ⟨⟨⟨vh0, _, s, hD, DFK.refl _ _ _, .inl rfl, by rw [List.drop_zero]; exact hs⟩⟩⟩
 clear hD hB hA hs
 go_enter Tryd.func46, Tryd.ntmps46
 go_wp2
 go_loopg [10] l0.length (fun kq v10 w' => ∃ j : Nat, Aside0 (kq + j = l0.length) ∧ v10 = .int .i64 (j : Int) ∧ Aside0 (DFR k B w w' p vh0 m wide (l0.drop j) sr))
 case atStart => exact ⟨0, ⟨rfl⟩, rfl, HR⟩
 case round =>
  obtain ⟨j, HJ, rfl, HI⟩ := hrel; clear HR; have hj := HJ.out; have hn := HN.out; obtain ⟨vh, vd, s, hI, hK, hV, hF⟩ := HI.out.out; have HV := a_ hV; have HK := a_ hK; have HD := a_ hI; clear HI; have hc2 : wr.cell? ⟨p, 2, none⟩ = some (DF.fn s.inn p) := hI.cell 2 _ rfl; have hf2 := hI.free 2
  by_cases hlt : j < l0.length
  ·obtain ⟨k1, rfl⟩ : ∃ k1, gk = k1 + 1 := ⟨gk - 1, by omega⟩; have p1 : 0 ≤ (j : Int) := by omega
   have q1 : (j : Int) < (l0.length : Int) := by omega
   obtain ⟨ad, e1, hx⟩ := Kd.Q7 (Kd.d4E (Kd.e7o HA.out hK.kept (fun k hk hs => hs.elim hk.1 hk.2))) (j : Int) p1 q1
   cases e1
   simp only [Int.toNat_natCast] at hx
   obtain ⟨c, hcd⟩ : ∃ c, c = rd l0 (j : Int) := ⟨_, rfl⟩; have hdr : l0.drop j = c :: l0.drop (j + 1) := by
    rw [List.drop_eq_getElem_cons hlt, hcd]; unfold rd; rw [Int.toNat_natCast, List.getD_eq_getElem?_getD, List.getElem?_eq_getElem hlt]
    rfl
   rw [hdr, DF.feed] at hF; rw [← hcd] at hx; obtain ⟨s1, hs1, hF⟩ := Option.bind_eq_some_iff.1 hF; have HF := a_ hF; have HWW := a_ hK.kept.1; clear hI hK hV hF hdr hcd; unfold DF.step at hs1
   cases hi : s.inn with
   | true =>
    rw [hi] at hc2; rw [if_pos hi] at hs1; replace hc2 : wr.cell? ⟨p, 2, none⟩ = some (.func (.func 84) #[.pointer (some ⟨p, 0, none⟩)] #[]) := hc2
    by_cases c3S : c = 126
    ·subst c3S; rw [if_pos rfl] at hs1; obtain ⟨s2, hs2, hs1⟩ := Option.bind_eq_some_iff.1 hs1; obtain rfl := oj_ hs1; have HS2 := a_ hs2; have HI := a_ hi; clear hs1 hs2 hi
     go_wp2_with (fail)
     refine (a4W.flag k B w.heap.size p vh vd m wide s s2 _ HD.out HBB.out HWW.out HS2.out).mono ?_; rintro e w1 ⟨rfl, ⟨vh1, vd1, hh, hk, hv⟩⟩; have HR1 : Aside0 (DFR k B w w1 p vh0 m wide (l0.drop (j + 1)) sr) := ⟨⟨⟨vh1, vd1, _, hh, DFK.trans HK.out hk (fun k hk => DF.changed HD.out HV.out k (hk.elim Or.inl (fun h => Or.inr (Or.inr h)))), by rw [hv]; exact HV.out, HF.out⟩⟩⟩; clear hh hk hv hc2 hf2
     go_wp2
     go_roundg k1
     case measure => omega
     case rel => exact ⟨j + 1, ⟨by have := HJ.out; omega⟩, by go_num, HR1⟩
    ·rw [if_neg c3S] at hs1
     by_cases hl : s.held.length < 140737488355328
     ·rw [if_pos hl] at hs1; obtain rfl := oj_ hs1; have HI := a_ hi; have HL := a_ hl; have HC := a_ c3S; clear hs1 hi hl c3S
      go_wp2_with (fail)
      refine (a4W.more B w.heap.size p vh vd m wide s c _ HD.out HC.out (Nat.le_trans HBB.out HWW.out) HL.out).mono ?_; rintro e w1 ⟨rfl, ⟨vh1, hh, hk, hv⟩⟩; have HR1 : Aside0 (DFR k B w w1 p vh0 m wide (l0.drop (j + 1)) sr) := ⟨⟨⟨vh1, vd, _, hh, DFK.trans HK.out hk (fun k hk => DF.changed HD.out HV.out k (hk.elim Or.inl (fun h => Or.inr (Or.inl h)))), DF.moved HV.out HWW.out hv, HF.out⟩⟩⟩; clear hh hk hv hc2 hf2
      go_wp2
      go_roundg k1
      case measure => omega
      case rel => exact ⟨j + 1, ⟨by have := HJ.out; omega⟩, by go_num, HR1⟩
     ·rw [if_neg hl] at hs1
      cases hs1
   | false =>
    rw [hi] at hc2; rw [if_neg (by rw [hi]; decide)] at hs1; replace hc2 : wr.cell? ⟨p, 2, none⟩ = some (.func (.func 65) #[.pointer (some ⟨p, 0, none⟩)] #[]) := hc2; have HI := a_ hi; clear hi
    by_cases c3S : c = 126
    ·subst c3S; rw [if_pos rfl] at hs1; obtain rfl := oj_ hs1; clear hs1
     go_wp2_with (fail)
     refine (a4B.flag B w.heap.size p vh vd m wide s _ HD.out (Nat.le_trans HBB.out HWW.out) HI.out).mono ?_; rintro e w1 ⟨rfl, ⟨hh⟩, ⟨hk⟩⟩; have HR1 : Aside0 (DFR k B w w1 p vh0 m wide (l0.drop (j + 1)) sr) := ⟨⟨⟨vh, vd, _, hh, DFK.trans HK.out hk (fun k hk => .inl (.inl hk)), HV.out, HF.out⟩⟩⟩; clear hh hk hc2 hf2
     go_wp2
     go_roundg k1
     case measure => omega
     case rel => exact ⟨j + 1, ⟨by have := HJ.out; omega⟩, by go_num, HR1⟩
    ·rw [if_neg c3S] at hs1; obtain rfl := oj_ hs1; have HC := a_ c3S; clear hs1 c3S
     go_wp2_with (fail)
     refine (a4B.other c HC.out p _).mono ?_; rintro e w1 ⟨rfl, rfl⟩; have HR1 : Aside0 (DFR k B w w1 p vh0 m wide (l0.drop (j + 1)) sr) := ⟨⟨⟨vh, vd, _, HD.out, HK.out, HV.out, HF.out⟩⟩⟩; clear hc2 hf2
     go_wp2
     go_roundg k1
     case measure => omega
     case rel => exact ⟨j + 1, ⟨by have := HJ.out; omega⟩, by go_num, HR1⟩
  ·have hdr : l0.drop j = [] := List.drop_eq_nil_of_le (by omega); rw [hdr] at hF; obtain rfl := oj_ hF; have hc9 : wr.cell? ⟨p, 9, none⟩ = some vd := HD.out.cell 9 _ rfl; have hf9 := HD.out.free 9; clear hI hK hV hF hdr
   go_wp2
   go_ret
   refine ⟨_, rfl, ⟨vh, fun D => ⟨?_, ?_, Kd.a5p _ _ _ _ _, HD.out.le⟩, ?_, ?_, HV.out⟩⟩
   ·exact a3Z HD.out.blk 9 _
   ·exact Kd.U0 (Kd.D7 HD.out.held (fun k hk => ⟨hk.1, by simp [Value.ownBlock]⟩)) (fun k hk => hk.1) _
   ·exact Kd.V9 HD.out.done (fun k hk => hk.1) _
   ·exact HK.out.set (Or.inl rfl) HD.out.le 9 _
def Q9.l0 : Nat → Int → Int → Bool → List Int → Int → Option (List Int)
 | 0, _, _, _, _, _ => none
 | k + 1, x0, x1, x2, x7, x8 => if x8 < x1 then (if x2 = true then ((some (([(Int.tmod x0 256) % 256] : List Int) : List Int)).bind fun d7i => (if d7i.length + x7.length < 140737488355328 then (Q9.l0 k (IntKind.u64.wrap (Int.tdiv x0 256)) x1 x2 (d7i ++ x7) (wrap64 (x8 + 1))) else (none))) else (if x7.length < 140737488355328 then (Q9.l0 k (IntKind.u64.wrap (Int.tdiv x0 256)) x1 x2 (x7 ++ [(Int.tmod x0 256) % 256]) (wrap64 (x8 + 1))) else (none))) else (some x7)
def Q9.f (k : Nat) (a0 : Int) (a1 : Int) (a2 : Bool) : Option (List Int) := Q9.l0 k a0 a1 a2 ([] : List Int) 0
theorem Q9.calls (k : Nat) (a0 : Int) (a1 : Int) (a2 : Bool) (r : List Int) (w : World) (h : Q9.f k a0 a1 a2 = some r) :
  Calls Tryd.prog 60 #[.int .u64 a0, .int .i64 a1, .bool a2] w fun e w' => ∃ v0_ : Value, e = .returned (v0_) ∧ Kd.R (Kd.int .u8) 5 w' w.heap.size (fun _ => True) v0_ r ∧ Below w.heap.size w w' := by
 have HB := a_ (Below.refl w.heap.size w)
 have H := h
 clear h
 unfold Q9.f at H
 have H' := a_ H
 clear H
 go_enter Tryd.func60, Tryd.ntmps60
 go_wp2
 go_loopg [0, 7, 8] k (fun kq v0 v7 v8 w' => ∃ (a5Y : Int) (a2y : List Int) (S9 : Int), v0 = .int .u64 a5Y ∧ v8 = .int .i64 S9 ∧ Aside0 (Q9.l0 kq a5Y a1 a2 a2y S9 = some r) ∧ Aside0 (kq ≤ k) ∧ Aside0 (Kd.R (Kd.int .u8) 5 w' w.heap.size (fun _ => True) v7 a2y) ∧ Aside0 (Below w.heap.size w w'))
 case atStart => exact ⟨(a0), ([] : List Int), (0), (by rfl), (by rfl), H', ⟨Nat.le_refl _⟩, ⟨by (exact Kd.Y2 _ _ _ _ _)⟩, ⟨by exact HB.out⟩⟩
 case round =>
  clear H'; obtain ⟨a5Y, a2y, S9, rfl, rfl, HA, HK1, O7, HB⟩ := hrel
  cases gk with
  | zero => exact absurd HA.out (by simp [Q9.l0])
  | succ k1 =>
   have H := HA.out; clear HA
   simp only [Q9.l0] at H
   by_cases c4 : S9 < a1
   ·rw [if_pos c4] at H; have a4i := dt_ c4; clear c4
    by_cases c5 : a2 = true
    ·subst c5; rw [if_pos rfl] at H; obtain ⟨d7i, d7j⟩ := is_ ([(Int.tmod a5Y 256) % 256] : List Int); rw [Option.bind_some, ← d7j] at H; have f5J := a_ d7j; clear d7j; have c6 := Z4 H; replace H := O5 H; have g4W := a_ c6; clear c6; obtain ⟨g4X, d7k⟩ := is_ ((d7i ++ a2y) : List Int); rw [← d7k] at H; have f5K := a_ d7k; clear d7k; have H' := a_ H; clear H
     go_wp2_with (first | ((with_reducible refine X0 (N := 22) rfl ?_); refine Kd.a96 (Kd.int .u8) _ 5 ?hg (N := 22) ?hd (xs := ([(Int.tmod a5Y 256) % 256] : List Int)) (inner := [.int .u8 ((Int.tmod a5Y 256) % 256)]) (ok := fun _ => True) (okp := fun _ => True) ?hr ?hp (fun _ hk => hk) trivial (Below.refl _ _) (Nat.le_refl _) (by simp) ?_; (case hd => rfl); (case hg => rfl); (case hr => (go_simp; done)); (case hp => exact (N8.one (show Kd.M (Kd.int .u8) _ _ _ ((Int.tmod a5Y 256) % 256) [.int .u8 ((Int.tmod a5Y 256) % 256)] from rfl) (N8.none _ _))); intro g4Y w7 ho8 hb hg_ a1P; clear hg_ a1P; (rw [← f5J.out] at ho8); have e6d := rn_ ho8 O7 HB; replace O7 := rR_ O7 ho8 hb; replace HB := V3 HB hb; clear hb ho8; obtain ⟨g4Z, g40, g41⟩ := Kd.G7 O7.out; subst g41) | ((with_reducible refine E8 (b := .append) (xs := #[.tmp 22, .tmp 23]) rfl ?_); at_builtin; refine Kd.P7 (Kd.int .u8) (w0 := w) w.heap.size rfl (.tmp 22) (.tmp 23) 22 5 (.int .u8 0) 1 rfl Tryd.underlying22 info5 rfl (by decide) (by omega) g4Y d7i a2y _ _ _ (fun k_ => some k_ ≠ (.slice g4Z a2y.length g40 : Value).ownBlock) (fun _ => False) rfl rfl ?aO ?aR (fun _ _ h => h) (fun _ h => h.elim) ?aF ?aB ?aS ?aL ?_; (case aR => exact (Kd.D9 O7.out).2.2); (case aB => exact HB.out); (case aF => exact (fun k_ hk => Kd.fresh' (Kd.a0i O7.out) k_ hk)); (case aO => exact (by exact Kd.D7 e6d.out (fun _ hk => hk.2))); (case aS => exact (y5 HB.out)); (case aL => have := g4W.out; omega); intro h4c w9 ho hb hg hat; rw [← f5K.out] at ho; have f5L := a_ ho; replace O7 := a_ (Kd.a0T (ok := (fun _ => True)) O7.out hg hat); replace HB := a_ hb; clear e6d ho hb hg hat))
     go_roundg k1
     case measure => have := HK1.out; omega
     case rel => exact ⟨(IntKind.u64.wrap (Int.tdiv a5Y 256)), (g4X), (wrap64 (S9 + 1)), (by rfl), (by rfl), H', ⟨by have := HK1.out; omega⟩, ⟨by exact Kd.D7 f5L.out (fun _ hk => trivial)⟩, ⟨by exact HB.out⟩⟩
    ·cases nt_ c5
     rw [if_neg a3X] at H; have c11 := Z4 H; replace H := O5 H; have d7g := a_ c11; clear c11; obtain ⟨g42, d7l⟩ := is_ ((a2y ++ [(Int.tmod a5Y 256) % 256]) : List Int); rw [← d7l] at H; have f5M := a_ d7l; clear d7l; have H' := a_ H; clear H
     go_wp2_with (first | ((with_reducible refine E8 (b := .append) (xs := #[.tmp 25, .tmp 27]) rfl ?_); at_builtin; refine Kd.a2Q (Kd.int .u8) (w0 := w) w.heap.size rfl (.tmp 25) (.tmp 27) 22 5 (.int .u8 0) 1 rfl Tryd.underlying22 info5 rfl (by decide) (by omega) u7 a2y ((Int.tmod a5Y 256) % 256) [.int .u8 ((Int.tmod a5Y 256) % 256)] (fun _ => True) (fun _ => False) rfl rfl ?aP (fun _ hk => hk.elim) ?aF ?aO ?aB ?aS ?aL ?_; (case aP => exact rfl); (case aB => exact HB.out); (case aF => exact (fun _ _ => trivial)); (case aO => exact O7.out); (case aS => exact (y5 HB.out)); (case aL => have := d7g.out; omega); intro h4d w12 ho hb hg hat; rw [← f5M.out] at ho; have f5N := a_ ho; replace HB := a_ hb; clear O7 ho hb hg hat))
     go_roundg k1
     case measure => have := HK1.out; omega
     case rel => exact ⟨(IntKind.u64.wrap (Int.tdiv a5Y 256)), (g42), (wrap64 (S9 + 1)), (by rfl), (by rfl), H', ⟨by have := HK1.out; omega⟩, ⟨by exact f5N.out⟩, ⟨by exact HB.out⟩⟩
   ·rw [if_neg c4] at H; have a4i := df_ c4; clear c4; obtain rfl := oj_ H
    go_wp2
    go_ret
    exact ⟨_, by (rfl), by exact O7.out, by exact HB.out⟩
def a0D.f (k : Nat) (l0 : List Int) (a1 : Int) (a2 : Bool) : Option (List Int) := (Q9.f k (IntKind.u64.wrap (a1)) 4 a2).bind fun c8q => (if l0.length + c8q.length < 140737488355328 then (some (l0 ++ c8q)) else (none))
theorem a0D.calls (k : Nat) (P0_ : Nat → Prop) (b1e : Value) (l0 : List Int) (a1 : Int) (a2 : Bool) (r : List Int) (w0 w : World) (hB : Below w0.heap.size w0 w) (ho0 : Kd.R (Kd.int .u8) 5 w w0.heap.size P0_ b1e l0) (h : a0D.f k l0 a1 a2 = some r) :
  Calls Tryd.prog 38 #[b1e, .int .u32 a1, .bool a2] w fun e w' => ∃ v0_ : Value, e = .returned (v0_) ∧ Kd.R (Kd.int .u8) 5 w' w0.heap.size (fun k_ => (P0_ k_ ∨ w.heap.size ≤ k_)) v0_ r ∧ Below w0.heap.size w0 w' ∧ Kept w w' (fun k_ => P0_ k_) := by
 have HO0 := a_ (show Kd.R (Kd.int .u8) 5 w w0.heap.size (fun k_ => (P0_ k_ ∨ w.heap.size ≤ k_)) b1e l0 from Kd.D7 ho0 (fun k_ hk => (.inl hk)))
 have HK := a_ (Kept.refl w (fun k_ => P0_ k_))
 have HW0 := a_ hB.size
 have HB := a_ hB
 clear hB
 have H := h
 clear h
 unfold a0D.f at H
 obtain ⟨c8q, A4, H⟩ := bd_ H
 try dsimp only at H
 have c5 := Z4 H
 replace H := O5 H
 have g43 := a_ c5
 clear c5
 obtain ⟨h4e, d7m⟩ := is_ ((l0 ++ c8q) : List Int)
 rw [← d7m] at H
 have f5O := a_ d7m
 clear d7m
 obtain rfl := oj_ H
 go_enter Tryd.func38, Tryd.ntmps38
 go_wp2_with (first | (refine gl_ (some 11) Tryd.func60 #[.int .u64 (IntKind.u64.wrap (a1)), .int .i64 4, .bool a2] ?_; (with_reducible refine (Q9.calls k (IntKind.u64.wrap (a1)) 4 a2 c8q _ A4.out).mono ?_); rintro e w6 ⟨h4f, rfl, ho0, hb⟩; refine ⟨_, rfl, ?_⟩; have c6k := a_ (Kd.Z9 (Kd.a1D (Kd.c65 (M := fun k_ => (P0_ k_ ∨ w.heap.size ≤ k_)) ho0 HK.out.1 (fun k_ h_ => .inr h_)) (Kd.a0i HO0.out)) (y5 HB.out)); replace HO0 := rR_ HO0 ho0 hb; replace HK := a_ (Kept.below (S := (fun k_ => P0_ k_)) HK.out hb); replace HB := V3 HB hb; (try clear hb); (try clear ho0); obtain ⟨Ao8, co8, eo8⟩ := Kd.G7 c6k.out; subst eo8) | ((with_reducible refine E8 (b := .append) (xs := #[.tmp 7, .tmp 11]) rfl ?_); at_builtin; refine Kd.P7 (Kd.int .u8) (w0 := w0) w0.heap.size rfl (.tmp 7) (.tmp 11) 22 5 (.int .u8 0) 1 rfl Tryd.underlying22 info5 rfl (by decide) (by omega) b1e l0 c8q _ _ _ (fun k_ => (P0_ k_ ∨ w.heap.size ≤ k_) ∧ some k_ ≠ (.slice Ao8 c8q.length co8 : Value).ownBlock) (fun _ => False) rfl rfl ?aO ?aR (fun _ _ h => h) (fun _ h => h.elim) ?aF ?aB ?aS ?aL ?_; (case aR => exact (Kd.D9 c6k.out).2.2); (case aB => exact HB.out); (case aF => exact (fun k_ hk => ⟨(.inr (Nat.le_trans HK.out.1 hk)), Kd.fresh' (Kd.a0i c6k.out) k_ hk⟩)); (case aO => exact HO0.out); (case aS => exact (y5 HB.out)); (case aL => have := g43.out; omega); intro h4h w7 ho hb hg hat; rw [← f5O.out] at ho; have f5P := a_ ho; replace c6k := a_ (Kd.a0T (ok := (fun k_ => (P0_ k_ ∨ w.heap.size ≤ k_))) (by exact Kd.D7 c6k.out (fun _ hk => ⟨hk.1.1, hk.2⟩)) hg hat); replace HB := a_ hb; replace HK := a_ (Kept.b4O (S := (fun k_ => P0_ k_)) hg HK.out (fun k_ e_ => (HO0.out.1 k_ e_).1)); clear HO0 ho hb hg hat))
 go_ret
 exact ⟨_, by (rfl), by exact Kd.D7 f5P.out (fun _ hk => hk.1), by exact HB.out, by exact HK.out⟩
def Q8.l0 : Nat → List Int → Bool → Int → Int → Option (Int)
 | 0, _, _, _, _ => none
 | k + 1, x0, x1, x5, x6 => if x6 < (x0.length : Int) then (if x1 = true then (if 0 ≤ x6 then (Q8.l0 k x0 x1 (IntKind.u64.wrap ((IntKind.u64.wrap (256 * x5)) + (IntKind.u64.wrap (rd x0 x6)))) (wrap64 (x6 + 1))) else (none)) else (if 0 ≤ (wrap64 ((wrap64 ((x0.length : Int) - 1)) - x6)) then (if (wrap64 ((wrap64 ((x0.length : Int) - 1)) - x6)) < (x0.length : Int) then (Q8.l0 k x0 x1 (IntKind.u64.wrap ((IntKind.u64.wrap (256 * x5)) + (IntKind.u64.wrap (rd x0 (wrap64 ((wrap64 ((x0.length : Int) - 1)) - x6)))))) (wrap64 (x6 + 1))) else (none)) else (none))) else (some x5)
def Q8.f (k : Nat) (l0 : List Int) (a1 : Bool) : Option (Int) := Q8.l0 k l0 a1 0 0
theorem Q8.calls (k : Nat) (A0 : Option Addr) (c0 : Nat) (l0 : List Int) (a1 : Bool) (r : Int) (w : World) (hr0 : Kd.C (Kd.int .u8) w A0 l0.length l0) (hc0 : l0.length ≤ c0) (h : Q8.f k l0 a1 = some r) :
  Calls Tryd.prog 58 #[.slice A0 l0.length c0, .bool a1] w fun e w' => e = .returned (.int .u64 r) ∧ G5 w w' := by
 have HR0 := a_ hr0
 have HC0 := a_ hc0
 clear hr0 hc0
 have H := h
 clear h
 unfold Q8.f at H
 have H' := a_ H
 clear H
 go_enter Tryd.func58, Tryd.ntmps58
 go_wp2
 go_loopg [5, 6] k (fun kq v5 v6 w' => ∃ (L9 : Int) (a1d : Int), v5 = .int .u64 L9 ∧ v6 = .int .i64 a1d ∧ Aside0 (Q8.l0 kq l0 a1 L9 a1d = some r) ∧ Aside0 (kq ≤ k) ∧ G5 w w')
 case atStart => exact ⟨(0), (0), (by rfl), (by rfl), H', ⟨Nat.le_refl _⟩, by exact G5.refl _⟩
 case round =>
  clear H'; obtain ⟨L9, a1d, rfl, rfl, HA, HK1, ⟨m1, rfl⟩⟩ := hrel
  cases gk with
  | zero => exact absurd HA.out (by simp [Q8.l0])
  | succ k1 =>
   have H := HA.out; clear HA
   simp only [Q8.l0] at H
   by_cases c3 : a1d < (l0.length : Int)
   ·rw [if_pos c3] at H; have a3T := dt_ c3; clear c3
    by_cases c4 : a1 = true
    ·subst c4; rw [if_pos rfl] at H; have a5H := a2x H; replace H := O5 H; have H' := a_ H; clear H; obtain ⟨g9S, g44, g1l, h4i, h4j⟩ := d3J HR0 a1d V5 V5
     cases g44
     go_wp2
     go_roundg k1
     case measure => have := HK1.out; omega
     case rel => exact ⟨(IntKind.u64.wrap ((IntKind.u64.wrap (256 * L9)) + (IntKind.u64.wrap (rd l0 a1d)))), (wrap64 (a1d + 1)), (by rfl), (by rfl), H', ⟨by have := HK1.out; omega⟩, by repeat (first | exact G5.refl _ | apply G5.step)⟩
    ·cases nt_ c4
     rw [if_neg a3X] at H; obtain ⟨ji6, c6j⟩ := si_ ((wrap64 ((wrap64 ((l0.length : Int) - 1)) - a1d))); rw [c6j] at H; have e6a : (IntKind.i64.wrap ((wrap64 ((l0.length : Int) - 1)) - a1d)) = ji6 := (a0J _).trans c6j; have a6f := a2x H; replace H := O5 H; have b2c := a2x H; replace H := O5 H; have H' := a_ H; clear H; obtain ⟨g9T, g45, g1m, h4k, h4l⟩ := d3J HR0 (ji6) V5 V5
     cases g45
     go_wp2
     go_roundg k1
     case measure => have := HK1.out; omega
     case rel => exact ⟨(IntKind.u64.wrap ((IntKind.u64.wrap (256 * L9)) + (IntKind.u64.wrap (rd l0 (ji6))))), (wrap64 (a1d + 1)), (by rfl), (by rfl), H', ⟨by have := HK1.out; omega⟩, by repeat (first | exact G5.refl _ | apply G5.step)⟩
   ·rw [if_neg c3] at H; have a3T := df_ c3; clear c3; obtain rfl := oj_ H
    go_wp2
    go_ret
    exact ⟨by (rfl), by repeat (first | exact G5.refl _ | apply G5.step)⟩
def a0P.f (a0 : Bool) : Option (Int) := if a0 = true then (some 4294967295) else (some 65535)
theorem a0P.calls (a0 : Bool) (r : Int) (w : World) (h : a0P.f a0 = some r) :
  Calls Tryd.prog 93 #[.bool a0] w fun e w' => e = .returned (.int .u32 r) ∧ G5 w w' := by
 have H := h
 clear h
 unfold a0P.f at H
 by_cases c2 : a0 = true
 ·subst c2; rw [if_pos rfl] at H; obtain rfl := oj_ H
  go_enter Tryd.func93, Tryd.ntmps93
  go_wp2
  go_ret
  exact ⟨by (rfl), by exact G5.refl _⟩
 ·cases nt_ c2
  rw [if_neg a3X] at H; obtain rfl := oj_ H
  go_enter Tryd.func93, Tryd.ntmps93
  go_wp2
  go_ret
  exact ⟨by (rfl), by exact G5.refl _⟩
theorem f1V (d : Nat) (w : World) (x0 y0 : Int) (x1 y1 : Int) :
    (Op.equalIn (d + 2) 30 (.agg #[.int .i64 x0, .int .i64 x1]) (.agg #[.int .i64 y0, .int .i64 y1])).run Tryd.prog w = .ok (x0 == y0 && (x1 == y1)) w := by
  refine d4L Tryd.underlying30 (by kernel_rfl) ?_
  refine c4N (by rfl) (by go_simp; rfl) (by go_simp; rfl) (by go_simp) ?_
  exact c4M (by rfl) (by go_simp; rfl) (by go_simp; rfl) (by go_simp)
end Go.Proofs.YtgnonglkibhnhaaDoor.Print
