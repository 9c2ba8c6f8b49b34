/- The law FrameSpoilt, over numbers and lists: of a row of frames one of which has a wrong check sequence all others come back; it is counted as wrong; no conditions. -/
import Derived.Test.YtgnonglkibhnhaaQAllFrameSpoilt
import Derived.Test.YtgnonglkibhnhaaF6
namespace Go.Proofs.Ytgnonglkibhnhaa.Pure
open Go.RowKit Go.Proofs.Ytgnonglkibhnhaa.Print Go.Proofs.Ytgnonglkibhnhaa.Q Go.Proofs.YtgnonglkibhnhaaW.PrintWords Go.Proofs.YtgnonglkibhnhaaW.PrintLast Go.Proofs.YtgnonglkibhnhaaW.PrintMore
set_option linter.unusedVariables false
set_option linter.unusedSimpArgs false

/-- What is known of the pieces so far: one of them (kk) is spoilt. -/
structure SI (m : Int) (wide : Bool) (kk i : Nat) (P rest : List (List Int)) : Prop where
  no : ∀ st ∈ P, ∀ c ∈ st, c ≠ 126
  by_ : ∀ st ∈ P, Bytes st
  len : (streamP P).length ≤ 150000 * i
  rl : rest.length ≤ i
  st : ∃ s : DF, P.foldl (tally m wide) (norm DF.init) = norm s ∧ s.done = rest ∧ s.tg = (rest.length : Int) ∧ s.ta = 0 ∧ s.ts = 0 ∧ s.tl = 0 ∧ s.tw = (if i ≤ kk then 0 else 1)
theorem SI.start (m : Int) (wide : Bool) (kk : Nat) : SI m wide kk 0 [] [] := ⟨fun _ h => (by cases h), fun _ h => (by cases h), Nat.le_refl _, Nat.le_refl _, ⟨DF.init, rfl, rfl, rfl, rfl, rfl, rfl, (if_pos (Nat.zero_le _)).symm⟩⟩
theorem SI.fine {m : Int} {wide : Bool} {kk i : Nat} {P rest : List (List Int)} (h : SI m wide kk i P rest) (x : List Int) (hb : Bytes x) (h2 : 2 ≤ x.length) (h3 : x.length ≤ 65535) (hi : i < 50) (hk : i ≠ kk) : SI m wide kk (i + 1) (P ++ [stuffv (sealv x wide) m]) (rest ++ [x]) := by
  have hfl := framev_len m wide x (by omega)
  obtain ⟨s, s1, s2, s3, s4, s5, s6, s7⟩ := h.st
  have hl := h.len
  have hr := h.rl
  refine ⟨fun st hst c hc => ?_, fun st hst => ?_, ?_, by rw [List.length_append, List.length_singleton]; omega, ⟨good s x, ?_, ?_, ?_, s4, s5, s6, ?_⟩⟩
  · rcases List.mem_append.1 hst with hst | hst
    · exact h.no st hst c hc
    · rw [List.mem_singleton.1 hst] at hc
      exact (stuff_out m _ (sealv_bytes hb wide) c hc).1
  · rcases List.mem_append.1 hst with hst | hst
    · exact h.by_ st hst
    · rw [List.mem_singleton.1 hst]
      exact stuffv_bytes (sealv_bytes hb wide) m
  · rw [streamP_snoc, List.length_append, List.length_cons]
    unfold framev at hfl
    omega
  · rw [List.foldl_append, s1, List.foldl_cons, List.foldl_nil, tally_good m wide _ x hb h2 h3]
    rfl
  · show s.done ++ [x] = _
    rw [s2]
  · show wrap64 (s.tg + 1) = _
    rw [s3, List.length_append, List.length_singleton]
    exact w64 (by omega) (by omega)
  · show s.tw = _
    rw [s7]
    by_cases a : i ≤ kk
    · rw [if_pos a, if_pos (by omega)]
    · rw [if_neg a, if_neg (by omega)]
theorem SI.spoil {m : Int} {wide : Bool} {kk : Nat} {P rest : List (List Int)} (h : SI m wide kk kk P rest) (x bad : List Int) (hx : Bytes x) (hb : Bytes bad) (hne : ofN x wide ≠ ofN bad wide) (h2 : 2 ≤ x.length) (h3 : x.length ≤ 65535) : SI m wide kk (kk + 1) (P ++ [stuffv (spv x bad wide) m]) rest := by
  have hz := sizeN_le wide
  have hsl := spv_length x bad wide
  have hst := (stuffv_len (spv x bad wide) m).2
  obtain ⟨s, s1, s2, s3, s4, s5, s6, s7⟩ := h.st
  have hl := h.len
  have hr := h.rl
  refine ⟨fun st hst c hc => ?_, fun st hst => ?_, ?_, by omega, ⟨{ s with tw := wrap64 (s.tw + 1) }, ?_, s2, s3, s4, s5, s6, ?_⟩⟩
  · rcases List.mem_append.1 hst with hst | hst
    · exact h.no st hst c hc
    · rw [List.mem_singleton.1 hst] at hc
      exact (stuff_out m _ (spv_bytes hx bad wide) c hc).1
  · rcases List.mem_append.1 hst with hst | hst
    · exact h.by_ st hst
    · rw [List.mem_singleton.1 hst]
      exact stuffv_bytes (spv_bytes hx bad wide) m
  · rw [streamP_snoc, List.length_append, List.length_cons, List.length_append, List.length_singleton]
    omega
  · rw [List.foldl_append, s1, List.foldl_cons, List.foldl_nil, tally_bad m wide _ x bad hx hb hne h2 h3]
    rfl
  · show wrap64 (s.tw + 1) = _
    rw [s7, if_pos (Nat.le_refl _), if_neg (by omega)]
    exact w64 (by decide) (by decide)
theorem SI.all {m : Int} {wide : Bool} {kk n : Nat} {P rest : List (List Int)} (h : SI m wide kk n P rest) (hk : kk < n) : allv m wide (streamP P) = (rest, (rest.length : Int), 0, 0, 0, 1) := by
  obtain ⟨s, s1, s2, s3, s4, s5, s6, s7⟩ := h.st
  rw [all_of m wide (streamP P) s (by rw [streamP_first m wide P DF.init h.no]; exact s1), s2, s3, s4, s5, s6, s7, if_neg (by omega)]
theorem fs_loop (m : Int) (wide : Bool) (turn : Int) (l : List (List Int)) (kk : Nat) (h0 : 0 ≤ m) (h1 : m < 4294967296) (ht : 0 < turn ∧ turn < 65536) (hn : l.length ≤ 50) (hb : ∀ x ∈ l, Bytes x) (hx : ∀ x ∈ l, x.length ≤ 70000) (hk : kk < l.length) : ∀ (d i : Nat) (P rest : List (List Int)), l.length - i = d → i ≤ l.length → SI m wide kk i P rest →
    Ev (fun k => umpirelaw07_FrameSpoilt.l0 k l m wide turn (kk : Int) (streamP P) rest (i : Int)) true := by
  intro d
  induction d with
  | zero =>
    intro i P rest hd hi hI
    obtain rfl : i = l.length := by omega
    have g1 : ¬ ((l.length : Nat) : Int) < ((l.length : Nat) : Int) := by omega
    have hl := hI.len
    have hr := hI.rl
    have h := all_spec_f m wide (streamP P) h0 h1 (streamP_bytes P hI.by_) (by omega)
    rw [hI.all hk] at h
    refine Ev.step (fun k => by rw [umpirelaw07_FrameSpoilt.l0, if_neg g1]) ?_
    refine Ev.bind h (Ev.bind (same_spec rest (by omega)) ?_)
    simp only [if_true, beq_self_eq_true, Bool.and_self]
    exact Ev.now _
  | succ d ih =>
    intro i P rest hd hi hI
    have hlt : i < l.length := by omega
    have hbi := hb l[i] (List.getElem_mem hlt)
    have hxi := hx l[i] (List.getElem_mem hlt)
    have hl := hI.len
    have hr := hI.rl
    have g1 : ((i : Nat) : Int) < ((l.length : Nat) : Int) := by omega
    have g2 : (0 : Int) ≤ ((i : Nat) : Int) := by omega
    have hput := put_spec_f m wide h0 h1 l[i] hbi hxi
    have hrow := rrow_spec m wide h0 h1 [l[i]] (fun y hy => by rw [List.mem_singleton.1 hy]; exact hbi) (by simp) (fun y hy => by rw [List.mem_singleton.1 hy]; exact hxi)
    rw [rowv_one] at hput hrow
    refine Ev.step (fun k => by rw [umpirelaw07_FrameSpoilt.l0, if_pos g1, if_pos g2, rdL_get l i hlt]) ?_
    by_cases a : (l[i].length : Int) < 2
    · rw [if_pos a] at hput
      refine Ev.bind hput (Ev.congr (f := fun _ => some true) (fun k => ?_) (Ev.now _))
      rw [if_neg (by decide)]
    · rw [if_neg a] at hput hrow
      by_cases b : (l[i].length : Int) > 65535
      · rw [if_pos b] at hput
        refine Ev.bind hput (Ev.congr (f := fun _ => some true) (fun k => ?_) (Ev.now _))
        rw [if_neg (by decide)]
      · rw [if_neg b] at hput hrow
        have c2 : 2 ≤ l[i].length := by omega
        have c3 : l[i].length ≤ 65535 := by omega
        have c4 : i < 50 := by omega
        have hfl := framev_len m wide l[i] hxi
        have g3 : (streamP P).length + (126 :: framev m wide l[i]).length < 140737488355328 := by rw [List.length_cons]; omega
        have g4 : rest.length < 5864062014805 := by omega
        by_cases e : i = kk
        · subst e
          obtain ⟨x, hxe⟩ : ∃ x, x = l[i] := ⟨_, rfl⟩
          rw [← hxe] at hbi hxi hput hrow c2 c3 hfl g3 ⊢
          clear a b hxe
          match x, c2 with
          | a0 :: a1 :: t, c2 =>
          have ha0 := hbi a0 (by simp)
          have ha1 := hbi a1 (by simp)
          have htb : Bytes t := fun y hy => hbi y (by simp [hy])
          have q0 := xor_byte a0 (turn % 256) ha0 (by omega)
          have q1 := xor_byte a1 (turn / 256 % 256) ha1 (by omega)
          obtain ⟨b0, hb0⟩ : ∃ b0, b0 = Go.bits .xor .u8 a0 (turn % 256) := ⟨_, rfl⟩
          obtain ⟨b1, hb1⟩ : ∃ b1, b1 = Go.bits .xor .u8 a1 (turn / 256 % 256) := ⟨_, rfl⟩
          rw [← hb0] at q0
          rw [← hb1] at q1
          have hne : ¬ (a0 = b0 ∧ a1 = b1) := fun h => by
            have z0 := q0.2 h.1
            have z1 := q1.2 h.2
            omega
          have hof := of_ne a0 a1 b0 b1 t wide ha0 ha1 q0.1 q1.1 hne
          have hbb : Bytes (b0 :: b1 :: t) := Bytes.cons q0.1 (Bytes.cons q1.1 htb)
          have hbl : (b0 :: b1 :: t).length = (a0 :: a1 :: t).length := rfl
          have hput2 := put_spec_f m wide h0 h1 (b0 :: b1 :: t) hbb (by rw [hbl]; exact hxi)
          rw [rowv_one, if_neg (by rw [hbl]; omega), if_neg (by rw [hbl]; omega)] at hput2
          have hsp := spliced_spec m wide h0 h1 (a0 :: a1 :: t) (b0 :: b1 :: t) hbi hbb hxi (by rw [hbl]; exact hxi)
          have hI2 := hI.spoil (a0 :: a1 :: t) (b0 :: b1 :: t) hbi hbb hof c2 c3
          have hz := sizeN_le wide
          have hsl := spv_length (a0 :: a1 :: t) (b0 :: b1 :: t) wide
          have hst := (stuffv_len (spv (a0 :: a1 :: t) (b0 :: b1 :: t) wide) m).2
          have g5 : (streamP P).length + (126 :: (stuffv (spv (a0 :: a1 :: t) (b0 :: b1 :: t) wide) m ++ [126])).length < 140737488355328 := by rw [List.length_cons, List.length_append, List.length_singleton]; omega
          have hfb : ∀ y : List Int, Bytes y → Bytes (126 :: framev m wide y) := fun y hy => Bytes.cons ⟨by decide, by decide⟩ ((stuffv_bytes (sealv_bytes hy wide) m).append (Bytes.cons ⟨by decide, by decide⟩ Bytes.nil))
          have hstr : ¬ (strOfNums (126 :: framev m wide (b0 :: b1 :: t))).toList = (strOfNums (126 :: framev m wide (a0 :: a1 :: t))).toList := by
            intro h
            have h2 := strOf_inj (hfb _ hbb) (hfb _ hbi) h
            injection h2 with _ h2
            unfold framev at h2
            have h3 := List.append_cancel_right h2
            have h4 := congrArg (fun z => (unstuffv z m).1) h3
            simp only [unstuff_stuff m _ (sealv_bytes hbb wide), unstuff_stuff m _ (sealv_bytes hbi wide)] at h4
            have h5 := congrArg (fun z => z.take (a0 :: a1 :: t).length) h4
            replace h5 : (sealv (b0 :: b1 :: t) wide).take (a0 :: a1 :: t).length = (sealv (a0 :: a1 :: t) wide).take (a0 :: a1 :: t).length := h5
            unfold sealv at h5
            rw [List.take_left, ← hbl, List.take_left] at h5
            injection h5 with k0 h5
            injection h5 with k1 _
            exact hne ⟨k0.symm, k1.symm⟩
          have n1 : ([] : List Int).length + (a0 :: a1 :: t).length < 140737488355328 := by rw [List.length_nil, Nat.zero_add]; omega
          have n2 : (0 : Int) < (((a0 :: a1 :: t).length : Nat) : Int) := by omega
          have n3 : (1 : Int) < (((a0 :: a1 :: t).length : Nat) : Int) := by omega
          have next := ih (i + 1) _ rest (by omega) (by omega) hI2
          rw [streamP_snoc] at next
          have e2 : wrap64 ((i : Int) + 1) = ((i + 1 : Nat) : Int) := w64 (by omega) (by omega)
          refine Ev.bind hput (Ev.congr (f := fun k => (frame_Put.f k (b0 :: b1 :: t) m wide).bind fun bt428 => (umpireref07_Row.f k [a0 :: a1 :: t] m wide).bind fun bt436 => (if (strOfNums bt428.1).toList = (strOfNums bt436.1).toList then (none) else ((umpirelaw07_spliced.f k (a0 :: a1 :: t) (b0 :: b1 :: t) m wide).bind fun t441 => (if (streamP P).length + t441.length < 140737488355328 then (umpirelaw07_FrameSpoilt.l0 k l m wide turn (i : Int) (streamP P ++ t441) rest (wrap64 ((i : Int) + 1))) else (none))))) (fun k => ?_) ?_)
          · rw [if_pos rfl, if_pos rfl, Option.bind_some, if_pos n1, Option.bind_some, List.nil_append, if_pos n2, Option.bind_some, if_pos n3, Option.bind_some]
            rw [hb0, hb1]
            rfl
          · refine Ev.bind hput2 (Ev.bind hrow ?_)
            simp only [hstr, if_false]
            refine Ev.bind hsp (Ev.congr (fun k => ?_) next)
            rw [if_pos g5, e2]
        · have hI2 := hI.fine l[i] hbi c2 c3 c4 e
          have next := ih (i + 1) _ _ (by omega) (by omega) hI2
          rw [streamP_snoc] at next
          have ne : ¬ ((i : Nat) : Int) = ((kk : Nat) : Int) := fun h => e (Int.ofNat_inj.1 h)
          have e2 : wrap64 ((i : Int) + 1) = ((i + 1 : Nat) : Int) := w64 (by omega) (by omega)
          refine Ev.bind hput (Ev.congr (fun k => ?_) next)
          rw [if_pos rfl, if_neg ne, if_pos g3, if_pos g4, e2]
          rfl
theorem FrameSpoilt : ∀ (a0 : List (List Int)) (a1 : Int) (a2 : Bool) (a3 : Int) (a4 : Int), (fun l : List (List Int) => l.length * 24 ≤ 140737488351232 ∧ ∀ a ∈ l, (fun l : List Int => l.length * 1 ≤ 140737488351232 ∧ ∀ a ∈ l, (fun a : Int => (Lit.int .u8 a).wf = true) a) a) a0 → (fun a : Int => (Lit.int .u32 a).wf = true) a1 → (fun a : Int => (Lit.int .u8 a).wf = true) a3 → (fun a : Int => (Lit.int .u16 a).wf = true) a4 → ∃ k, umpirelaw07_FrameSpoilt.f k a0 a1 a2 a3 a4 = some true := by
  intro l m wide at_ turn hl hm hat hturn
  obtain ⟨h0, h1⟩ := wf_u32 hm
  have ht := wf_u16 hturn
  have ha := wf_u8 hat
  have hb : ∀ x ∈ l, Bytes x := fun x hx => bytes_wf (hl.2 x hx).2
  obtain ⟨b, hfew, hc⟩ := few_spec l
  have away : Ev (fun k => umpirelaw07_FrameSpoilt.j0 k l m wide at_ turn true) true := by
    refine Ev.step (f := fun k => (umpirelaw07_awake.f k).bind fun t => (some t)) (fun k => ?_) (Ev.bind awake_frame (Ev.now _))
    rw [umpirelaw07_FrameSpoilt.j0, if_pos rfl]
  apply Ev.rounds
  unfold umpirelaw07_FrameSpoilt.f
  refine Ev.bind awake_frame ?_
  simp only [if_true]
  refine Ev.bind hfew ?_
  cases b with
  | false => exact away
  | true =>
    obtain ⟨hn, hx⟩ := hc rfl
    simp only [if_true]
    by_cases a : (l.length : Int) = 0
    · simp only [a, if_true]
      exact away
    · simp only [a, if_false]
      by_cases c : turn = 0
      · subst c
        exact away
      · have e : (turn == 0) = false := beq_eq_false_iff_ne.mpr c
        rw [e]
        obtain ⟨kk, hkk, hkl⟩ : ∃ kk : Nat, Int.tmod (wrap64 at_) (l.length : Int) = (kk : Int) ∧ kk < l.length := by
          rw [w64 (by omega) (by omega)]
          have h2 := Int.tmod_nonneg (l.length : Int) ha.1
          have h3 := Int.tmod_lt_of_pos at_ (show (0 : Int) < (l.length : Int) by omega)
          exact ⟨(Int.tmod at_ (l.length : Int)).toNat, by omega, by omega⟩
        refine Ev.step (f := fun k => umpirelaw07_FrameSpoilt.l0 k l m wide turn (kk : Int) ([] : List Int) ([] : List (List Int)) 0) (fun k => ?_) ?_
        · rw [umpirelaw07_FrameSpoilt.j0, if_neg (by decide), if_neg a, hkk]
        · exact fs_loop m wide turn l kk h0 h1 ⟨by omega, ht.2⟩ hn hb hx hkl l.length 0 [] [] rfl (Nat.zero_le _) (SI.start m wide kk)
end Go.Proofs.Ytgnonglkibhnhaa.Pure
