/- The law TermsBack, over numbers and lists. -/
import Derived.Test.YtnjimecjpnjojaaQAllTermsBack
import Derived.Test.YtnjimecjpnjojaaF13
namespace Go.Proofs.Ytnjimecjpnjojaa.Pure
open Go.RowKit Go.Proofs.Ytnjimecjpnjojaa.Print Go.Proofs.Ytnjimecjpnjojaa.Q Go.Proofs.YtnjimecjpnjojaaW.PrintWords Go.Proofs.YtnjimecjpnjojaaW.PrintLast Go.Proofs.YtnjimecjpnjojaaW.PrintMore
set_option linter.unusedVariables false
theorem mend_loop (l A B : List Opt) (h : Opts l) (hl : l.length ≤ 50) (d : Nat) : ∀ (i : Nat) (s : List Int) (M : List Opt), l.length - i = d → i ≤ l.length → (∀ a, a ∈ s ↔ a ∈ (l.take i).map (·.f0)) → M.length ≤ i →
    Ev (fun k => umpirelaw14_TermsBack.l0 k l A B (M ++ mdw s (l.drop i)) l.length) true → Ev (fun k => umpirelaw14_TermsBack.l0 k l A B M i) true := by
  induction d with
  | zero =>
    intro i s M hd hi hs hM fin
    obtain rfl : i = l.length := by omega
    rw [List.drop_length] at fin
    rw [show mdw s [] = [] from rfl, List.append_nil] at fin
    exact fin
  | succ d ih =>
    intro i s M hd hi hs hM fin
    have hlt : i < l.length := by omega
    have e1 := opt_at l i hlt
    have hdr : l.drop i = l[i] :: l.drop (i + 1) := List.drop_eq_getElem_cons hlt
    have hw : wrap64 ((i : Int) + 1) = ((i + 1 : Nat) : Int) := by rw [w64 (by omega) (by omega)]; omega
    have htk : l.take (i + 1) = l.take i ++ [l[i]] := List.take_succ_eq_append_getElem hlt
    have hx := h l[i] (List.getElem_mem hlt)
    have ih2 := fun M => ih (i + 1) (l[i].f0 :: s) M (by omega) (by omega) (fun a => by rw [htk, List.map_append, List.mem_append, List.mem_cons, hs a]; simp [or_comm])
    obtain ⟨r, hf1, hf2⟩ := rfind_spec (l.take i) (by rw [List.length_take]; omega) l[i].f0
    have hin : r ≥ 0 ↔ l[i].f0 ∈ s := by rw [hf2, hs]
    rw [hdr] at fin
    generalize l[i] = x at e1 hx ih2 hf1 hf2 hin fin
    obtain ⟨hwf, hb, hlen⟩ := hx
    refine Ev.step (fun k => by rw [umpirelaw14_TermsBack.l0, if_pos (by omega), if_pos (by omega), e1]) ?_
    refine Ev.bind (right_spec x.f0 x.f1 hwf hb hlen) ?_
    unfold mdw at fin
    cases hr : rightv x.f0 x.f1 with
    | false =>
      refine Ev.congr (fun k => by rw [if_neg (by decide), hw]) (ih2 M (by omega) ?_)
      rw [hr] at fin
      by_cases hc : badx s x = true
      · rw [if_pos hc] at fin; exact fin
      · rw [if_neg hc, if_neg (by decide)] at fin; exact fin
    | true =>
      refine Ev.congr (fun k => if_pos rfl) ?_
      refine Ev.congr (fun k => if_pos (by omega)) ?_
      rw [Int.toNat_natCast]
      refine Ev.bind hf1 ?_
      by_cases hx2 : x.f0 ∈ s
      · have hc : badx s x = true := by unfold badx; simp [hx2]
        rw [if_pos hc] at fin
        have hrn : ¬ r < 0 := by have := hin.2 hx2; omega
        exact Ev.congr (fun k => by rw [if_neg hrn, hw]) (ih2 M (by omega) fin)
      · have hc : ¬ badx s x = true := fun q => by rw [badx_right q hx2] at hr; cases hr
        rw [if_neg hc, if_pos hr] at fin
        have hrn : r < 0 := by
          rcases Int.lt_or_le r 0 with q | q
          · exact q
          · exact absurd (hin.1 q) hx2
        refine Ev.congr (fun k => by rw [if_pos hrn, if_pos (by omega), hw]) (ih2 (M ++ [x]) (by rw [List.length_append]; simp only [List.length_cons, List.length_nil]; omega) ?_)
        rw [List.append_assoc]
        exact fin
theorem back_j1 (l : List Opt) (ho : Opts l) (hl : l.length ≤ 50) : Ev (fun k => umpirelaw14_TermsBack.j1 k l) true := by
  have hbd := tbad_spec l ho (by omega)
  rw [badv_eq, List.nil_append, List.nil_append] at hbd
  have hr2 := rres_two l [] terms_readers.T.zero
  have hpl := parts_len l []
  have hoM : Opts (mdw [] l) := fun x hx => ho x ((mdw_sub l []).subset hx)
  have hoA : Opts (aw [] l) := fun x hx => ho x ((aw_sub l []).subset hx)
  have hoB := (chw_opts l [] ho).1
  have hj2 : Ev (fun k => umpirelaw14_TermsBack.j2 k l (aw [] l) (chw [] l) false) true := by
    refine Ev.step (fun k => by rw [umpirelaw14_TermsBack.j2, if_neg (by decide)]) ?_
    refine mend_loop l _ _ ho hl l.length 0 [] [] (by omega) (by omega) (fun a => by simp) (by simp) ?_
    rw [List.nil_append, List.drop_zero]
    refine Ev.step (fun k => by rw [umpirelaw14_TermsBack.l0, if_neg (by omega), if_pos (by omega)]) ?_
    refine Ev.bind (tread_spec (mdw [] l ++ chw [] l) (fun x hx => (List.mem_append.1 hx).elim (hoM x) (hoB x)) (by rw [List.length_append]; omega)) ?_
    have hmr : (rres [] terms_readers.T.zero (mdw [] l ++ chw [] l)).2 = true := (mended_right l terms_readers.T.zero).resolve_right (fun q => q ho)
    refine Ev.congr (fun k => if_pos hmr) ?_
    have hsum : (wrap64 ((wrap64 (((mdw [] l).length : Int) + ((aw [] l).length : Int))) + ((chw [] l).length : Int))) = (l.length : Int) := by
      rw [w64 (x := ((mdw [] l).length : Int) + ((aw [] l).length : Int)) (by omega) (by omega), w64 (by omega) (by omega)]
      omega
    rw [hsum, beq_self_eq_true]
    exact Ev.now _
  have hwi := within_spec (aw [] l) l (by omega) (by omega) (fun x hx => (hoA x hx).2.1) (fun x hx => (ho x hx).2.1) (aw_sub l [])
  refine Ev.step (fun k => by rw [umpirelaw14_TermsBack.j1]) ?_
  refine Ev.bind hbd ?_
  refine Ev.bind (tread_spec l ho (by omega)) ?_
  by_cases ha : aw [] l = []
  · refine Ev.congr (fun k => if_pos (by simp [ha])) ?_
    have hne : ¬ ((rres [] terms_readers.T.zero l).2 != (((chw [] l).length : Int) == 0)) = true := by
      rw [hr2, ha]
      cases hcc : chw [] l with
      | nil => simp
      | cons y m => simp; omega
    refine Ev.congr (fun k => if_neg hne) ?_
    exact Ev.bind hwi hj2
  · have hn0 : ¬ ((aw [] l).length : Int) = 0 := fun q => ha (List.length_eq_zero_iff.1 (by omega))
    refine Ev.congr (fun k => if_neg hn0) ?_
    have hne : ¬ ((rres [] terms_readers.T.zero l).2 != false) = true := by
      rw [hr2]
      cases haa : aw [] l with
      | nil => exact absurd haa ha
      | cons y m => simp
    refine Ev.congr (fun k => if_neg hne) ?_
    exact Ev.bind hwi hj2
theorem TermsBack : ∀ (a0 : Print.S61) (a1 : List Print.S55), (fun x : Print.S61 => (fun _ : Bool => True) x.f0 ∧ (fun a : Int => (Lit.int .i64 a).wf = true) x.f1 ∧ (fun _ : Bool => True) x.f2 ∧ (fun a : Int => (Lit.int .u32 a).wf = true) x.f3 ∧ (fun a : Int => (Lit.int .i64 a).wf = true) x.f4 ∧ (fun _ : Bool => True) x.f5 ∧ (fun _ : Bool => True) x.f6 ∧ (fun a : Int => (Lit.int .u32 a).wf = true) x.f7 ∧ (fun _ : Bool => True) x.f8 ∧ (fun _ : Bool => True) x.f9) a0 → (fun l : List Print.S55 => l.length * 32 ≤ 140737488351232 ∧ ∀ a ∈ l, (fun x : Print.S55 => (fun a : Int => (Lit.int .i64 a).wf = true) x.f0 ∧ (fun l : List Int => l.length * 1 ≤ 140737488351232 ∧ ∀ a ∈ l, (fun a : Int => (Lit.int .u8 a).wf = true) a) x.f1) a) a1 → ∃ k, umpirelaw14_TermsBack.f k a0.f0 a0.f1 a0.f2 a0.f3 a0.f4 a0.f5 a0.f6 a0.f7 a0.f8 a0.f9 a1 = some true := by
  intro t l h h'
  have ho := opts_wf h'.2
  have hm : l.length ≤ 4611686018427387904 := by have := h'.1; omega
  have h1 := wf_i64 h.2.1
  have h3 := wf_u32 h.2.2.2.1
  have h7 := wf_u32 h.2.2.2.2.2.2.2.1
  apply Ev.rounds
  unfold umpirelaw14_TermsBack.f
  refine Ev.bind awake_terms ?_
  refine Ev.congr (fun k => if_pos rfl) ?_
  obtain ⟨b, hf, hb⟩ := ofew_spec l hm
  refine Ev.bind hf ?_
  cases b with
  | false =>
    refine Ev.step (f := fun k => (umpirelaw14_awake.f k).bind fun t => (some t)) (fun k => ?_) (Ev.bind awake_terms (Ev.now _))
    rw [umpirelaw14_TermsBack.j0]
    exact if_pos rfl
  | true =>
    have hl := hb rfl
    have hj1 := back_j1 l ho hl
    refine Ev.step (fun k => by rw [umpirelaw14_TermsBack.j0, if_neg (by decide)]) ?_
    have hsp := tputs_spec t.f0 t.f1 t.f2 t.f3 t.f4 t.f5 t.f6 t.f7 t.f8 t.f9 h1 h3 h7
    cases hma : mayv t.f0 t.f1 t.f2 t.f3 t.f4 t.f6 t.f7 with
    | false =>
      rw [hma, if_neg (by decide)] at hsp
      refine Ev.bind hsp ?_
      exact Ev.congr (fun k => if_neg (by decide)) hj1
    | true =>
      rw [hma, if_pos rfl] at hsp
      refine Ev.bind hsp ?_
      refine Ev.congr (fun k => if_pos rfl) ?_
      have hg := putl_good t.f0 t.f1 t.f2 t.f3 t.f4 t.f5 t.f6 t.f7 t.f8 t.f9 h3 h7 hma
      have hln := putl_length t.f0 t.f1 t.f2 t.f3 t.f4 t.f5 t.f6 t.f7 t.f8 t.f9
      have hrd := tread_spec (putl t.f0 t.f1 t.f2 t.f3 t.f4 t.f5 t.f6 t.f7 t.f8 t.f9) hg.ob (by omega)
      have hlg := login_spec (putl t.f0 t.f1 t.f2 t.f3 t.f4 t.f5 t.f6 t.f7 t.f8 t.f9) hg.ob (by omega)
      rw [hg.read] at hrd
      rw [hg.lg] at hlg
      refine Ev.bind hrd ?_
      refine Ev.congr (fun k => if_pos rfl) ?_
      refine Ev.congr (fun k => if_neg (by simp [tup])) ?_
      refine Ev.bind hlg ?_
      exact Ev.congr (fun k => if_pos rfl) hj1
end Go.Proofs.Ytnjimecjpnjojaa.Pure
