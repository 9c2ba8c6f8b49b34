/- The law StuffBack, over numbers and lists: what was stuffed comes back by that map, and by one of fewer characters, whichever of these are put in, wherever; it has no flag, and no byte that is in the map; no conditions. -/
import Derived.Test.YtjpfhipgffmgjaaQRefStuff
import Derived.Test.YtjpfhipgffmgjaaQAccmList
import Derived.Test.YtjpfhipgffmgjaaQAwakeStuff
import Derived.Test.YtjpfhipgffmgjaaF6
namespace Go.Proofs.Ytjpfhipgffmgjaa.Pure
open Go.RowKit Go.Proofs.Ytjpfhipgffmgjaa.Print Go.Proofs.Ytjpfhipgffmgjaa.Q Go.Proofs.YtjpfhipgffmgjaaW.PrintWords Go.Proofs.YtjpfhipgffmgjaaW.PrintLast Go.Proofs.YtjpfhipgffmgjaaW.PrintMore
set_option linter.unusedVariables false
set_option linter.unusedSimpArgs false

theorem has_char {m c : Int} (h : c ∈ chars m) : hasv m c = true := by
  obtain ⟨j, rfl, _, h1, h2⟩ := (chars_mem m 0 c).1 h
  unfold hasv
  rw [Int.toNat_natCast, h2, decide_eq_true (by omega)]
  rfl
theorem turn_high {c : Int} (hc : 0 ≤ c ∧ c < 32) : 32 ≤ turnv c ∧ turnv c < 64 := by
  obtain ⟨n, rfl⟩ := Int.eq_ofNat_of_zero_le hc.1
  have h : ∀ n : Nat, n < 32 → 32 ≤ n ^^^ 32 ∧ n ^^^ 32 < 64 := by decide
  have := h n (by omega)
  rw [turnv_nat n (by omega)]
  omega
theorem turn_out (m c : Int) (hc : 0 ≤ c ∧ c < 256) (a : apartv m c = true) : 32 ≤ turnv c ∧ turnv c ≠ 126 := by
  unfold apartv at a
  simp only [Bool.or_eq_true, decide_eq_true_eq] at a
  rcases a with a | a | a
  · subst a
    have := turnv_nat 125 (by decide)
    rw [show ((125 : Int)) = ((125 : Nat) : Int) from rfl, this]
    decide
  · subst a
    have := turnv_nat 126 (by decide)
    rw [show ((126 : Int)) = ((126 : Nat) : Int) from rfl, this]
    decide
  · unfold hasv at a
    simp only [Bool.and_eq_true, decide_eq_true_eq] at a
    have := turn_high ⟨hc.1, a.1⟩
    omega
theorem piece_out (m c : Int) (hc : 0 ≤ c ∧ c < 256) : ∀ x ∈ piecev m c, x ≠ 126 ∧ hasv m x = false := by
  intro x hx
  unfold piecev at hx
  by_cases a : apartv m c = true
  · rw [if_pos a] at hx
    have ht := turn_out m c hc a
    rcases List.mem_cons.1 hx with rfl | hx
    · exact ⟨by decide, hasv_high m 125 (by decide)⟩
    · rcases List.mem_cons.1 hx with rfl | hx
      · exact ⟨ht.2, hasv_high m _ ht.1⟩
      · cases hx
  · rw [if_neg a] at hx
    rcases List.mem_cons.1 hx with rfl | hx
    · unfold apartv at a
      simp only [Bool.or_eq_true, decide_eq_true_eq, not_or] at a
      exact ⟨a.2.1, by simpa using a.2.2⟩
    · cases hx
theorem stuff_out (m : Int) (l : List Int) (hb : Bytes l) : ∀ x ∈ stuffv l m, x ≠ 126 ∧ hasv m x = false := by
  induction l with
  | nil => intro x hx; cases hx
  | cons c l ih =>
    intro x hx
    rw [stuffv_cons] at hx
    rcases List.mem_append.1 hx with hx | hx
    · exact piece_out m c (hb c (by simp)) x hx
    · exact ih (fun y hy => hb y (by simp [hy])) x hx
theorem runst_stuff (m : Int) (l : List Int) (hb : Bytes l) : ∀ acc, runst (stuffv l m) acc = (acc ++ l, true) := by
  induction l with
  | nil => intro acc; rw [stuffv_nil, runst, List.append_nil]
  | cons c l ih =>
    intro acc
    have hc := hb c (by simp)
    have ih := ih (fun y hy => hb y (by simp [hy]))
    rw [stuffv_cons]
    unfold piecev
    by_cases a : apartv m c = true
    · have ht := turn_out m c hc a
      rw [if_pos a, List.cons_append, List.cons_append, List.nil_append, runst_cons, if_neg (by decide), if_pos rfl]
      dsimp only
      rw [if_neg ht.2, turnv_turnv hc, ih, List.append_assoc]
      rfl
    · have a' := a
      unfold apartv at a'
      simp only [Bool.or_eq_true, decide_eq_true_eq, not_or] at a'
      rw [if_neg a, List.cons_append, List.nil_append, runst_cons, if_neg a'.2.1, if_neg a'.1, ih, List.append_assoc]
      rfl
/-- Bytes that are a stuffed text but for characters of a map come back. -/
theorem back_of (m n : Int) (l y : List Int) (hb : Bytes l) (h : (y.filter fun c => !hasv n c) = stuffv l m) : unstuffv y n = (l, true) := by
  unfold unstuffv
  rw [(unst_runst n y).1 [], h, runst_stuff m l hb [], List.nil_append]
theorem keep_all (m n : Int) (l : List Int) (hb : Bytes l) (hs : ∀ c, hasv n c = true → hasv m c = true) : ((stuffv l m).filter fun c => !hasv n c) = stuffv l m := by
  rw [List.filter_eq_self]
  intro c hc
  have := (stuff_out m l hb c hc).2
  by_cases h : hasv n c = true
  · rw [hs c h] at this
    cases this
  · simpa using h
theorem sback_fin (m n : Int) (l : List Int) (hb : Bytes l) (n0 : 0 ≤ n) (n1 : n < 4294967296) (y : List Int) (hy : Bytes y) (hl : y.length ≤ 1000000) (h : (y.filter fun c => !hasv n c) = stuffv l m) :
    Ev (fun k => (stuff_Unstuff.f k y n).bind fun bt => (if bt.2 = true then (some ((strOfNums bt.1).toList == (strOfNums l).toList)) else (none))) true := by
  refine Ev.bind (unstuff_spec y n hy n0 n1 (by omega)) ?_
  rw [back_of m n l y hb h]
  simp only [if_true, beq_self_eq_true]
  exact Ev.now _
theorem idx1 (i : Nat) (l : List Int) (hp : 0 < l.length) : Int.tmod (i : Int) (l.length : Int) = ((i % l.length : Nat) : Int) := by
  rw [Int.tmod_eq_emod_of_nonneg (by omega)]
  rfl
theorem idx2 (a : Int) (ha : 0 ≤ a ∧ a < 65536) (y : List Int) (hl : y.length ≤ 1000000) : ∃ n : Nat, Int.tmod (wrap64 a) (wrap64 ((y.length : Int) + 1)) = (n : Int) ∧ n ≤ y.length := by
  have h1 : Int.tmod (wrap64 a) (wrap64 ((y.length : Int) + 1)) = a % ((y.length : Int) + 1) := by
    rw [w64 (by omega) (by omega), w64 (by omega) (by omega), Int.tmod_eq_emod_of_nonneg ha.1]
  have h2 : 0 ≤ a % ((y.length : Int) + 1) := Int.emod_nonneg _ (by omega)
  have h3 : a % ((y.length : Int) + 1) < (y.length : Int) + 1 := Int.emod_lt_of_pos _ (by omega)
  exact ⟨(a % ((y.length : Int) + 1)).toNat, by rw [h1]; omega, by omega⟩
theorem sback_loop1 (m f n : Int) (l w : List Int) (hw : ∀ x ∈ w, 0 ≤ x ∧ x < 65536) (hwl : w.length ≤ 100) (hb : Bytes l) (hn : Go.bits .and .u32 m f = n) (n0 : 0 ≤ n) (n1 : n < 4294967296) (d : Nat) : ∀ (i : Nat) (y : List Int), w.length - i = d → i ≤ w.length → Bytes y → y.length ≤ 2000 + i → ((y.filter fun c => !hasv n c) = stuffv l m) →
    Ev (fun k => umpirelaw06_StuffBack.l1 k l m f w y (chars n) (i : Int)) true := by
  induction d with
  | zero =>
    intro i y hd hi hy hl h
    refine Ev.step (fun k => by rw [umpirelaw06_StuffBack.l1, if_neg (by omega), hn]) (sback_fin m n l hb n0 n1 y hy (by omega) h)
  | succ d ih =>
    intro i y hd hi hy hl h
    by_cases hp : 0 < (chars n).length
    · have hil : i < w.length := by omega
      have ha := hw _ (List.getElem_mem hil)
      obtain ⟨p, hp1, hp2⟩ := idx2 w[i] ha y (by omega)
      have hq : i % (chars n).length < (chars n).length := Nat.mod_lt _ hp
      have hc : (chars n)[i % (chars n).length] ∈ chars n := List.getElem_mem hq
      have hcb := chars_bytes n 0 _ hc
      have hh := has_char hc
      have e1 := idx1 i (chars n) hp
      have hlen : (([] ++ y.take p) ++ [(chars n)[i % (chars n).length]] ++ y.drop p).length = y.length + 1 := by
        simp only [List.length_append, List.length_nil, List.length_take, List.length_cons, List.length_drop]
        omega
      have hfil : ((([] ++ y.take p) ++ [(chars n)[i % (chars n).length]] ++ y.drop p).filter fun c => !hasv n c) = stuffv l m := by
        rw [List.nil_append, List.filter_append, List.filter_append, List.filter_cons, hh]
        simp only [Bool.not_true, Bool.false_eq_true, if_false, List.filter_nil, List.append_nil]
        rw [← List.filter_append, List.take_append_drop, h]
      have next := ih (i + 1) (([] ++ y.take p) ++ [(chars n)[i % (chars n).length]] ++ y.drop p) (by omega) (by omega) (((Bytes.nil.append (hy.take p)).append (Bytes.cons hcb Bytes.nil)).append (hy.drop p)) (by rw [hlen]; omega) hfil
      have g1 : (i : Int) < (w.length : Int) := by omega
      have g2 : ((chars n).length : Int) > 0 := by omega
      have g3 : (0 : Int) ≤ (i : Int) := by omega
      have g4 : ¬ wrap64 ((y.length : Int) + 1) = 0 := by rw [w64 (by omega) (by omega)]; omega
      have g5 : ¬ ((chars n).length : Int) = 0 := by omega
      have g6 : (0 : Int) ≤ ((i % (chars n).length : Nat) : Int) := by omega
      have g7 : ((i % (chars n).length : Nat) : Int) < ((chars n).length : Int) := by omega
      have g8 : (0 : Int) ≤ (p : Int) := by omega
      have g9 : (p : Int) ≤ (y.length : Int) := by omega
      have k1 : ([] : List Int).length + (y.take p).length < 140737488355328 := by rw [List.length_nil, List.length_take]; omega
      have k2 : ([] ++ y.take p).length + [(chars n)[i % (chars n).length]].length < 140737488355328 := by
        rw [List.nil_append, List.length_take, List.length_singleton]
        omega
      have k3 : (([] ++ y.take p) ++ [(chars n)[i % (chars n).length]]).length + (y.drop p).length < 140737488355328 := by
        rw [← List.length_append, hlen]
        omega
      have g10 : wrap64 ((i : Int) + 1) = ((i + 1 : Nat) : Int) := by
        rw [w64 (by omega) (by omega)]
        rfl
      refine Ev.step (fun k => ?_) next
      rw [umpirelaw06_StuffBack.l1, if_pos g1, if_pos g2, if_pos g3, if_neg g4, if_neg g5, e1, if_pos g6, if_pos g7, Option.bind_some, rd_get i hil, hp1, if_pos g8, if_pos g9, Int.toNat_natCast, Option.bind_some, if_pos k1, Option.bind_some, rd_get _ hq, Option.bind_some, if_pos k2, Option.bind_some, Option.bind_some, if_pos k3, g10]
    · refine Ev.step (fun k => by rw [umpirelaw06_StuffBack.l1, if_pos (by omega), if_neg (by omega), hn]) (sback_fin m n l hb n0 n1 y hy (by omega) h)
theorem sback_loop (m f n : Int) (m0 : 0 ≤ m) (m1 : m < 4294967296) (l w : List Int) (hw : ∀ x ∈ w, 0 ≤ x ∧ x < 65536) (hwl : w.length ≤ 100) (hb : Bytes l) (hll : l.length ≤ 1000) (hn : Go.bits .and .u32 m f = n) (n0 : 0 ≤ n) (n1 : n < 4294967296) (hs : ∀ c, hasv n c = true → hasv m c = true) (x : List Int) (hx : x = stuffv l m) (d : Nat) : ∀ (i : Nat), x.length - i = d → i ≤ x.length →
    Ev (fun k => umpirelaw06_StuffBack.l0 k l m f w x (i : Int)) true := by
  have hxb : Bytes x := by rw [hx]; exact stuffv_bytes hb m
  have hxl := (stuffv_len l m).2
  rw [← hx] at hxl
  induction d with
  | zero =>
    intro i hd hi
    refine Ev.step (fun k => by rw [umpirelaw06_StuffBack.l0, if_neg (by omega)]) ?_
    refine Ev.bind (unstuff_spec x m hxb m0 m1 (by omega)) ?_
    rw [back_of m m l x hb (by rw [hx]; exact keep_all m m l hb (fun _ h => h))]
    have e : ((x.length : Int) != ((stuffv l m).length : Int)) = false := by
      rw [hx]
      simp
    simp only [if_true, size_spec l m hb m0 m1 (by omega), Option.bind_some, e]
    refine Ev.step (fun k => by rw [umpirelaw06_StuffBack.j2, if_neg (by decide), hn]) ?_
    refine Ev.bind (list_spec n n0 n1) ?_
    exact sback_loop1 m f n l w hw hwl hb hn n0 n1 w.length 0 x (by omega) (by omega) hxb (by omega) (by rw [hx]; exact keep_all m n l hb hs)
  | succ d ih =>
    intro i hd hi
    have hil : i < x.length := by omega
    have hc := hxb _ (List.getElem_mem hil)
    have ho := stuff_out m l hb x[i] (by rw [← hx]; exact List.getElem_mem hil)
    refine Ev.step (fun k => ?_) (ih (i + 1) (by omega) (by omega))
    rw [umpirelaw06_StuffBack.l0, if_pos (by omega), if_pos (by omega), rd_get i hil, if_neg ho.1, has_spec m _ m0 m1 hc.1, Option.bind_some, ho.2, if_neg (by decide), w64 (by omega) (by omega)]
    rfl
theorem StuffBack : umpirelaw06_StuffBack.Pure := by
  intro l m f w hl1 hl2 hl3 hm hf hw1 hw2 hw3
  obtain ⟨m0, m1⟩ := wf_u32 hm
  obtain ⟨f0, f1⟩ := wf_u32 hf
  have hb := bytes_wf hl3
  have hw : ∀ x ∈ w, 0 ≤ x ∧ x < 65536 := fun x hx => wf_u16 (hw3 x hx)
  apply Ev.rounds
  unfold umpirelaw06_StuffBack.f
  refine Ev.bind awake_stuff ?_
  have no : Ev (fun k => umpirelaw06_StuffBack.j0 k l m f w true) true := by
    refine Ev.step (f := fun k => (umpirelaw06_awake.f k).bind fun t => (some t)) (fun k => ?_) (Ev.bind awake_stuff (Ev.now _))
    rw [umpirelaw06_StuffBack.j0, if_pos rfl]
  simp only [if_true]
  by_cases a : (l.length : Int) > 1000
  · simp only [a, if_true]
    exact no
  · by_cases a' : (w.length : Int) > 100
    · simp only [a, a', if_false, decide_true]
      exact no
    · simp only [a, a', if_false, decide_false]
      obtain ⟨mn_, rfl⟩ := Int.eq_ofNat_of_zero_le m0
      obtain ⟨fn_, rfl⟩ := Int.eq_ofNat_of_zero_le f0
      have hn := bits_u32_and (a := mn_) (b := fn_) (by omega) (by omega)
      have hle : mn_ &&& fn_ ≤ mn_ := Nat.and_le_left
      refine Ev.step (fun k => by rw [umpirelaw06_StuffBack.j0, if_neg (by decide), stuff_spec l (mn_ : Int) hb m0 m1 (by omega), Option.bind_some]) ?_
      refine sback_loop (mn_ : Int) (fn_ : Int) _ m0 m1 l w hw (by omega) hb (by omega) hn (by omega) (by omega) (fun c h => ?_) _ rfl _ 0 (Nat.sub_zero _) (Nat.zero_le _)
      unfold hasv at h ⊢
      rw [Int.toNat_natCast, Nat.testBit_and] at h
      rw [Int.toNat_natCast]
      simp only [Bool.and_eq_true] at h ⊢
      exact ⟨h.1, h.2.1⟩
end Go.Proofs.Ytjpfhipgffmgjaa.Pure
