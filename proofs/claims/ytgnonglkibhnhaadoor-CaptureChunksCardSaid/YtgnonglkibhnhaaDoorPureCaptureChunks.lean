/- The law CaptureChunks, over numbers and lists: a dump whose notes are cut finer, with other notes between, reads as it did; no conditions. -/
import Derived.Test.YtgnonglkibhnhaaDoorQCapC
import Derived.Test.YtgnonglkibhnhaaDoorF7
namespace Go.Proofs.YtgnonglkibhnhaaDoor.Pure
open Go.RowKit Go.Proofs.YtgnonglkibhnhaaDoor.Print Go.Proofs.YtgnonglkibhnhaaDoor.Q Go.Proofs.YtgnonglkibhnhaaDoorW.PrintWords Go.Proofs.YtgnonglkibhnhaaDoorW.PrintLast Go.Proofs.YtgnonglkibhnhaaDoorW.PrintMore
set_option linter.unusedVariables false
set_option linter.unusedSimpArgs false

theorem ch_min (cs : List Int) (hcb : Bytes cs) (i : Nat) (hlt : i < cs.length) (n : Nat) : ∃ q : Nat, mn (n : Int) (wrap64 (rd cs (i : Int))) = (q : Int) ∧ q ≤ n := by
  have hc := hcb.get i hlt
  rw [rd_get i hlt, w64 (by omega) (by omega)]
  generalize cs[i] = c at hc
  have h : 0 ≤ mn (n : Int) c ∧ mn (n : Int) c ≤ n := by
    unfold mn
    split <;> omega
  generalize mn (n : Int) c = z at h
  exact ⟨z.toNat, by omega, by omega⟩
section
variable (l : List S42) (cs : List Int) (ns : List S58) (c0 c1 c2 c3 : Int) (e0 e1 : ByteArray) (dir m : Int) (wide : Bool)
/-- One note, cut. -/
theorem ch_note (hcb : Bytes cs) (hcl : cs.length ≤ 100) (j : Nat) (hj : j < ns.length) (hjl : ns.length ≤ 1000) : ∀ (d i : Nat) (rest : List Int) (acc : List S58), cs.length - i = d → i ≤ cs.length → rest.length ≤ 100000 → acc.length ≤ 2 * (i + j) →
    ∃ (qs : List (List Int)) (i' : Nat), qs.flatten = rest ∧ i' ≤ cs.length ∧ i ≤ i' ∧ qs.length ≤ (i' - i) + 1 ∧ ∀ (r : Bool), Ev (fun k => umpirelaw11_CaptureChunks.l0 k l cs ns (acc ++ cutn ns[j].f0 qs) (i' : Int) ((j + 1 : Nat) : Int) c0 c1 c2 c3 e0 e1 dir m wide) r →
      Ev (fun k => umpirelaw11_CaptureChunks.l1 k l cs ns acc (i : Int) (j : Int) rest c0 c1 c2 c3 e0 e1 dir m wide) r := by
  have EJ := Aside0.mk (show wrap64 ((j : Int) + 1) = ((j + 1 : Nat) : Int) from w64 (by omega) (by omega))
  have hkd := rdN_get ns j hj
  have done_ : ∀ (i : Nat) (acc : List S58) (r : Bool), Ev (fun k => umpirelaw11_CaptureChunks.l0 k l cs ns acc (i : Int) ((j + 1 : Nat) : Int) c0 c1 c2 c3 e0 e1 dir m wide) r → Ev (fun k => umpirelaw11_CaptureChunks.l1 k l cs ns acc (i : Int) (j : Int) [] c0 c1 c2 c3 e0 e1 dir m wide) r := by
    intro i acc r h
    refine Ev.step (fun k => ?_) h
    rw [umpirelaw11_CaptureChunks.l1, if_neg (by simp), EJ.out]
  intro d
  induction d with
  | zero =>
    intro i rest acc hd hi hr ha
    obtain rfl : i = cs.length := by omega
    by_cases hz : rest = []
    · subst hz
      refine ⟨[], cs.length, rfl, Nat.le_refl _, Nat.le_refl _, by simp, fun r h => ?_⟩
      have e : acc ++ cutn ns[j].f0 [] = acc := by unfold cutn; simp
      rw [e] at h
      exact done_ _ acc r h
    · have hpos : 0 < rest.length := List.length_pos_iff.2 hz
      have g1 : (rest.length : Int) > 0 := by omega
      have g2 : ¬ (cs.length : Int) < (cs.length : Int) := by omega
      have g3 : (0 : Int) ≤ (j : Int) := by omega
      have g4 : (j : Int) < (ns.length : Int) := by omega
      have g5 : (0 : Int) ≤ (rest.length : Int) := by omega
      refine ⟨[rest], cs.length, by simp, Nat.le_refl _, Nat.le_refl _, by simp, fun r h => ?_⟩
      have h2 := done_ cs.length (acc ++ cutn ns[j].f0 [rest]) r h
      have e3 : ([(⟨ns[j].f0, 0, rest.take (((rest.length : Int)).toNat)⟩ : S58), (⟨6, 3, ([] : List Int)⟩ : S58)] : List S58) = cutn ns[j].f0 [rest] := by
        rw [Int.toNat_natCast, List.take_length]
        rfl
      have e4 : rest.drop (((rest.length : Int)).toNat) = [] := by rw [Int.toNat_natCast, List.drop_length]
      have g6 : acc.length + (cutn ns[j].f0 [rest]).length < 3518437208883 := by rw [cutn_len, List.length_singleton]; omega
      refine Ev.step (fun k => ?_) h2
      rw [umpirelaw11_CaptureChunks.l1, if_pos g1, if_neg g2, if_pos g3, if_pos g4, if_pos g5, if_pos (Int.le_refl _), hkd, e3, e4, Option.bind_some, if_pos g6]
  | succ d ih =>
    intro i rest acc hd hi hr ha
    by_cases hz : rest = []
    · subst hz
      refine ⟨[], i, rfl, hi, Nat.le_refl _, by simp, fun r h => ?_⟩
      have e : acc ++ cutn ns[j].f0 [] = acc := by unfold cutn; simp
      rw [e] at h
      exact done_ _ acc r h
    · have hpos : 0 < rest.length := List.length_pos_iff.2 hz
      have hlt : i < cs.length := by omega
      have hc := hcb.get i hlt
      have g1 : (rest.length : Int) > 0 := by omega
      have g2 : (i : Int) < (cs.length : Int) := by omega
      have g3 : (0 : Int) ≤ (i : Int) := by omega
      have g4 : (0 : Int) ≤ (j : Int) := by omega
      have g5 : (j : Int) < (ns.length : Int) := by omega
      have EI := Aside0.mk (show wrap64 ((i : Int) + 1) = ((i + 1 : Nat) : Int) from w64 (by omega) (by omega))
      have n1 : cs.length - (i + 1) = d := by omega
      have n2 : i + 1 ≤ cs.length := by omega
      obtain ⟨q, hq, hq2⟩ := ch_min cs hcb i hlt rest.length
      have HQ := Aside0.mk hq
      clear hq
      have g7 : (0 : Int) ≤ (q : Int) := Int.natCast_nonneg q
      have g8 : (q : Int) ≤ (rest.length : Int) := Int.ofNat_le.2 hq2
      have hg6 : acc.length + (cutn ns[j].f0 [rest.take q]).length < 3518437208883 := by rw [cutn_len, List.length_singleton]; omega
      obtain ⟨qs, i', f1, f2, f3, f4, f5⟩ := ih (i + 1) (rest.drop q) (acc ++ cutn ns[j].f0 [rest.take q]) n1 n2 (by rw [List.length_drop]; omega) (by rw [List.length_append, cutn_len, List.length_singleton]; omega)
      refine ⟨rest.take q :: qs, i', by rw [List.flatten_cons, f1, List.take_append_drop], f2, by omega, by rw [List.length_cons]; omega, fun r h => ?_⟩
      have e : (acc ++ cutn ns[j].f0 [rest.take q]) ++ cutn ns[j].f0 qs = acc ++ cutn ns[j].f0 (rest.take q :: qs) := by
        rw [List.append_assoc]
        rfl
      have h2 := f5 r (by rw [e]; exact h)
      have e3 : ([(⟨ns[j].f0, 0, rest.take q⟩ : S58), (⟨6, 3, ([] : List Int)⟩ : S58)] : List S58) = cutn ns[j].f0 [rest.take q] := rfl
      refine Ev.step (fun k => ?_) h2
      rw [umpirelaw11_CaptureChunks.l1, if_pos g1, if_pos g2, if_pos g3, if_pos g4, if_pos g5, HQ.out, if_pos g7, if_pos g8, hkd, Int.toNat_natCast, e3, Option.bind_some, if_pos hg6, EI.out]
/-- Behind all notes. -/
def chFin (k : Nat) (X : List S58) : Option Bool := (umpireref10_Put.f k X).bind fun p => (capture_Read.f k p.1 2 c0 c1 c2 c3 e0 e1 dir m wide).bind fun t => if p.2 = 0 then (if (t.2.1 == 0 && (t.2.2 == 0)) = true then ((umpireref11_Same.f k t.1 l).bind fun u => (some u)) else none) else none
theorem ch_all (hcb : Bytes cs) (hcl : cs.length ≤ 100) (hjl : ns.length ≤ 1000) (hns : ∀ x ∈ ns, x.f2.length ≤ 65535) : ∀ (d j i : Nat) (acc : List S58), ns.length - j = d → j ≤ ns.length → i ≤ cs.length → acc.length ≤ 2 * (i + j) →
    ∃ css : List (List (List Int)), css.map List.flatten = (ns.drop j).map (fun x => x.f2) ∧ css.flatten.length ≤ (cs.length - i) + (ns.length - j) ∧ ∀ (r : Bool), Ev (fun k => chFin l c0 c1 c2 c3 e0 e1 dir m wide k (acc ++ cutall (ns.drop j) css)) r →
      Ev (fun k => umpirelaw11_CaptureChunks.l0 k l cs ns acc (i : Int) (j : Int) c0 c1 c2 c3 e0 e1 dir m wide) r := by
  intro d
  induction d with
  | zero =>
    intro j i acc hd hj hi ha
    obtain rfl : j = ns.length := by omega
    refine ⟨[], by rw [List.drop_length]; rfl, by simp, fun r h => ?_⟩
    rw [List.drop_length, show cutall [] [] = [] from by unfold cutall; rfl, List.append_nil] at h
    refine Ev.step (fun k => ?_) h
    rw [umpirelaw11_CaptureChunks.l0, if_neg (by omega)]
    rfl
  | succ d ih =>
    intro j i acc hd hj hi ha
    have hlt : j < ns.length := by omega
    have hx := hns ns[j] (List.getElem_mem hlt)
    obtain ⟨qs, i', f1, f2, f3, f4, f5⟩ := ch_note l cs ns c0 c1 c2 c3 e0 e1 dir m wide hcb hcl j hlt hjl (cs.length - i) i ns[j].f2 acc rfl hi (by omega) ha
    obtain ⟨css, g1, g2, g3⟩ := ih (j + 1) i' (acc ++ cutn ns[j].f0 qs) (by omega) (by omega) f2 (by rw [List.length_append, cutn_len]; omega)
    refine ⟨qs :: css, ?_, ?_, fun r h => ?_⟩
    · rw [List.drop_eq_getElem_cons hlt, List.map_cons, List.map_cons, f1, g1]
    · rw [List.flatten_cons, List.length_append]
      omega
    · rw [List.drop_eq_getElem_cons hlt, cutall, ← List.append_assoc] at h
      have h2 := f5 r (g3 r h)
      refine Ev.step (fun k => ?_) h2
      rw [umpirelaw11_CaptureChunks.l0, if_pos (by omega), if_pos (by omega), rdN_get ns j hlt]
end
theorem CaptureChunks : ∀ (a0 : List Print.S42) (a1 : List Int) (a2 : Bool), (fun l : List Print.S42 => l.length * 40 ≤ 140737488351232 ∧ ∀ a ∈ l, (fun x : Print.S42 => (fun a : Int => (Lit.int .i64 a).wf = true) x.f0 ∧ (fun a : Int => (Lit.int .i64 a).wf = true) x.f1 ∧ (fun l : List Int => l.length * 1 ≤ 140737488351232 ∧ ∀ a ∈ l, (fun a : Int => (Lit.int .u8 a).wf = true) a) x.f2) a) a0 → (fun l : List Int => l.length * 1 ≤ 140737488351232 ∧ ∀ a ∈ l, (fun a : Int => (Lit.int .u8 a).wf = true) a) a1 → ∃ k, umpirelaw11_CaptureChunks.f k a0 a1 a2 = some true := by
  intro l cs wide hl hcs
  have hcb : Bytes cs := data_wf hcs.2
  have hb : ∀ x ∈ l, Bytes x.f2 := fun x hx => data_wf (hl.2 x hx).2.2.2
  obtain ⟨b, hfew, hc⟩ := fewc_spec l
  have away : Ev (fun k => umpirelaw11_CaptureChunks.j0 k l cs wide true) true := by
    refine Ev.step (f := fun k => (umpirelaw11_awake.f k).bind fun t => (some t)) (fun k => ?_) (Ev.bind awake_cap (Ev.now _))
    rw [umpirelaw11_CaptureChunks.j0, if_pos rfl]
  apply Ev.rounds
  unfold umpirelaw11_CaptureChunks.f
  refine Ev.bind awake_cap ?_
  simp only [if_true]
  refine Ev.bind hfew ?_
  cases b with
  | false => exact away
  | true =>
    simp only [if_true]
    have hn := hc rfl
    by_cases a : (cs.length : Int) > 100
    · simp only [a, decide_true]
      exact away
    · simp only [a, decide_false]
      refine Ev.step (fun k => by rw [umpirelaw11_CaptureChunks.j0, if_neg (by decide)]) ?_
      by_cases hm : ∀ x ∈ l, mayc x = true
      · have hok : ∀ x ∈ l, mayc x = true ∧ Bytes x.f2 := fun x hx => ⟨hm x hx, hb x hx⟩
        obtain ⟨i1, i2, i3, i4⟩ := notesv_ok 0 wide l hok
        have hlen := bytesv_le (notesv 0 wide l)
        have hw : Ev (fun k => capture_Write.f k l 2 0 0 0 0 (⟨#[]⟩ : ByteArray) (⟨#[]⟩ : ByteArray) 0 0 wide) (bytesv (notesv 0 wide l), 0) := by
          refine Ev.congr (fun k => ?_) (notes_put 0 wide (by decide) (by decide) l hn hok)
          unfold capture_Write.f
          rw [if_neg (by decide), if_pos rfl, index_fine l 0 hm, Option.bind_some, if_neg (by decide)]
        refine Ev.bind hw ?_
        simp only [if_true]
        refine Ev.bind (rread_spec _ (bytesv_oct i1 i2) (by omega)) ?_
        rw [readv_bytes _ i1 i2]
        have hns : ∀ x ∈ notesv 0 wide l, x.f2.length ≤ 65535 := by
          intro x hx
          unfold allOk at i2
          have := (List.all_eq_true.1 i2) x hx
          simp only [Bool.and_eq_true, decide_eq_true_eq] at this
          exact this.2
        obtain ⟨css, g1, g2, g3⟩ := ch_all l cs (notesv 0 wide l) 0 0 0 0 (⟨#[]⟩ : ByteArray) (⟨#[]⟩ : ByteArray) 0 0 wide hcb (by omega) (by omega) hns (notesv 0 wide l).length 0 0 [] rfl (Nat.zero_le _) (Nat.zero_le _) (Nat.zero_le _)
        rw [List.drop_zero] at g1 g3
        obtain ⟨o1, o2, o3, o4⟩ := cut_back 0 wide (by decide) (by decide) l hn hok css g1 (notesv_kinds 0 wide l) (by omega)
        refine g3 true ?_
        rw [List.nil_append]
        have hlc : (cutall (notesv 0 wide l) css).length < 140737488355328 := by
          have := (cutall_tot _ css g1).2
          omega
        unfold chFin
        have hp := rput10_spec (cutall (notesv 0 wide l) css) hlc o1 (by omega)
        rw [putgo_ok _ _ o2, List.nil_append] at hp
        refine Ev.bind hp ?_
        have o5 : Ev (fun k => capture_Read.f k (bytesv (cutall (notesv 0 wide l) css)) 2 0 0 0 0 (⟨#[]⟩ : ByteArray) (⟨#[]⟩ : ByteArray) 0 0 wide) (l, 0, 0) := by
          refine Ev.congr (fun k => ?_) o4
          unfold capture_Read.f
          rw [if_neg (by decide), if_pos rfl]
        refine Ev.bind o5 ?_
        simp only [if_true, beq_self_eq_true, Bool.and_self]
        exact Ev.bind (samec_refl l (by omega)) (Ev.now _)
      · have hbad : ∃ x ∈ l, mayc x = false := by
          refine Classical.byContradiction fun hh => hm fun x hx => ?_
          cases e : mayc x with
          | true => rfl
          | false => exact absurd ⟨x, hx, e⟩ hh
        refine Ev.congr (f := fun _ => some true) (fun k => ?_) (Ev.now _)
        rw [write_bad 2 (.inr rfl) l hbad, Option.bind_some]
        rfl
end Go.Proofs.YtgnonglkibhnhaaDoor.Pure
