/- The law PcapCuts, over numbers and lists. -/
import Derived.Test.YtnjimecjpnjojaaQAllPcapCuts
import Derived.Test.YtnjimecjpnjojaaF7
namespace Go.Proofs.Ytnjimecjpnjojaa.Pure
open Go.RowKit Go.Proofs.Ytnjimecjpnjojaa.Print Go.Proofs.Ytnjimecjpnjojaa.Q Go.Proofs.YtnjimecjpnjojaaW.PrintWords Go.Proofs.YtnjimecjpnjojaaW.PrintLast Go.Proofs.YtnjimecjpnjojaaW.PrintMore
set_option linter.unusedVariables false
theorem cuts_end (l : List S46) (hl : l.length ≤ 50) (n at_ i : Nat) (hn : 24 ≤ n) (hi : i ≤ l.length) (k : List S46) (s0 s1 : Int) (hk : k = l.take i) (hs : (s0, s1) = if at_ < n then ((at_ : Int), (2 : Int)) else (0, 0)) :
    Ev (fun k' => umpirelaw09_PcapCuts.j3 k' l n k at_ i s0 s1) true := by
  have hs' : Ev (fun k' => umpireref09_Same.f k' k (l.take i)) true := by rw [hk]; exact same_refl _ (by rw [List.length_take]; omega)
  by_cases h : at_ < n
  · rw [if_pos h] at hs
    obtain ⟨rfl, rfl⟩ := Prod.mk.inj hs
    refine Ev.step (fun k => by rw [umpirelaw09_PcapCuts.j3, if_neg (by omega), if_pos (by omega), if_pos (by omega), if_pos (by omega), Int.toNat_natCast]) ?_
    refine Ev.bind hs' ?_
    refine Ev.congr (fun k => if_pos rfl) ?_
    rw [beq_self_eq_true, beq_self_eq_true]
    exact Ev.now _
  · rw [if_neg h] at hs
    obtain ⟨rfl, rfl⟩ := Prod.mk.inj hs
    refine Ev.step (fun k => by rw [umpirelaw09_PcapCuts.j3, if_neg (by omega), if_neg (by omega), if_pos (by omega), if_pos (by omega), Int.toNat_natCast]) ?_
    refine Ev.bind hs' ?_
    refine Ev.congr (fun k => if_pos rfl) ?_
    rw [beq_self_eq_true]
    exact Ev.now _
theorem cuts_loop (l : List S46) (hl : l.length ≤ 50) (hf : ∀ r ∈ l, (r.f3.length : Int) ≤ 131072) (n : Nat) (hn : 24 ≤ n) (k : List S46) (s0 s1 : Int) (d : Nat) : ∀ (i at_ : Nat), l.length - i = d → i ≤ l.length → at_ ≤ 24 + i * 131088 →
    k = l.take (i + (cutj (l.drop i) at_ n).1) → ((s0, s1) = if (cutj (l.drop i) at_ n).2 < n then (((cutj (l.drop i) at_ n).2 : Int), (2 : Int)) else (0, 0)) →
    Ev (fun k' => umpirelaw09_PcapCuts.l0 k' l n k at_ i s0 s1) true := by
  induction d with
  | zero =>
    intro i at_ hd hi ha hk hs
    obtain rfl : i = l.length := by omega
    rw [List.drop_length] at hk hs
    refine Ev.step (fun k => by rw [umpirelaw09_PcapCuts.l0, if_neg (by omega)]) ?_
    exact cuts_end l hl n at_ l.length hn hi k s0 s1 hk hs
  | succ d ih =>
    intro i at_ hd hi ha hk hs
    have hlt : i < l.length := by omega
    have hdr : l.drop i = l[i] :: l.drop (i + 1) := List.drop_eq_getElem_cons hlt
    have hfi := hf l[i] (List.getElem_mem hlt)
    have e1 := rdT_get l i hlt
    have hw : wrap64 ((i : Int) + 1) = ((i + 1 : Nat) : Int) := by rw [w64 (by omega) (by omega)]; omega
    rw [hdr] at hk hs
    have ih2 := ih (i + 1)
    generalize l[i] = r at hfi e1 hk hs
    have hw2 : wrap64 (wrap64 ((at_ : Int) + 16) + (r.f3.length : Int)) = ((at_ + 16 + r.f3.length : Nat) : Int) := by
      rw [w64 (x := (at_ : Int) + 16) (by omega) (by omega), w64 (by omega) (by omega)]; omega
    refine Ev.step (fun k => by rw [umpirelaw09_PcapCuts.l0, if_pos (by omega), if_pos (by omega), e1, hw2, hw]) ?_
    unfold cutj at hk hs
    by_cases h : at_ + 16 + r.f3.length ≤ n
    · rw [if_pos h] at hk hs
      refine Ev.congr (fun k => if_pos (by omega)) ?_
      exact ih2 _ (by omega) (by omega) (by omega) (by rw [hk]; congr 1; dsimp only; omega) hs
    · rw [if_neg h] at hk hs
      refine Ev.congr (fun k => if_neg (by omega)) ?_
      exact cuts_end l hl n at_ i hn hi k s0 s1 hk hs
theorem cuts_short (l : List S46) (hm : l.length ≤ 50) (hfine : ∀ r ∈ l, (r.f3.length : Int) ≤ 131072) (n : Nat) (h24 : n < 24) : ∀ (d i at_ : Nat), l.length - i = d → i ≤ l.length → at_ ≤ 24 + i * 131088 → Ev (fun k => umpirelaw09_PcapCuts.l0 k l n [] at_ i 0 2) true := by
  intro d
  induction d with
  | zero =>
    intro i at_ hd hi ha
    refine Ev.step (fun k => by rw [umpirelaw09_PcapCuts.l0, if_neg (by omega)]) ?_
    refine Ev.step (fun k => by rw [umpirelaw09_PcapCuts.j3, if_pos (by omega), if_pos (by simp)]) ?_
    exact Ev.now _
  | succ d ih =>
    intro i at_ hd hi ha
    have hlt : i < l.length := by omega
    have e1 := rdT_get l i hlt
    have hfi := hfine l[i] (List.getElem_mem hlt)
    have hw : wrap64 ((i : Int) + 1) = ((i + 1 : Nat) : Int) := by rw [w64 (by omega) (by omega)]; omega
    have ih2 := ih (i + 1)
    generalize l[i] = r at hfi e1
    have hw2 : wrap64 (wrap64 ((at_ : Int) + 16) + (r.f3.length : Int)) = ((at_ + 16 + r.f3.length : Nat) : Int) := by
      rw [w64 (x := (at_ : Int) + 16) (by omega) (by omega), w64 (by omega) (by omega)]; omega
    refine Ev.step (fun k => by rw [umpirelaw09_PcapCuts.l0, if_pos (by omega), if_pos (by omega), e1, hw2, hw]) ?_
    by_cases h : at_ + 16 + r.f3.length ≤ n
    · refine Ev.congr (fun k => if_pos (by omega)) ?_
      exact ih2 _ (by omega) (by omega) (by omega)
    · refine Ev.congr (fun k => if_neg (by omega)) ?_
      refine Ev.step (fun k => by rw [umpirelaw09_PcapCuts.j3, if_pos (by omega), if_pos (by simp)]) ?_
      exact Ev.now _
theorem PcapCuts_core (big nano : Bool) (s k0 cut : Int) (l : List S46) (hm : l.length ≤ 4611686018427387904) (hg : ∀ r ∈ l, Q.Good r) (hb : ∀ r ∈ l, Bytes r.f3) (hs : 0 ≤ s ∧ s < 4294967296) (hk : 0 ≤ k0 ∧ k0 < 4294967296) (hcut : 0 ≤ cut ∧ cut < 4294967296) : Ev (fun k => umpirelaw09_PcapCuts.f k big nano s k0 l cut) true := by
  unfold umpirelaw09_PcapCuts.f
  refine Ev.bind awake_pcap ?_
  simp only [if_true]
  refine Ev.bind (few_spec l hm) ?_
  cases hf : fewv l with
  | false =>
    refine Ev.step (f := fun k => (umpirelaw09_awake.f k).bind fun t => (some t)) (fun k => ?_) (Ev.bind awake_pcap (Ev.now _))
    rw [umpirelaw09_PcapCuts.j0]
    exact if_pos rfl
  | true =>
    have hc := few_capn l hf
    have hl : l.length ≤ 50 := by unfold fewv at hf; simp only [Bool.and_eq_true, decide_eq_true_eq] at hf; exact hf.1
    refine Ev.step (fun k => by rw [umpirelaw09_PcapCuts.j0, if_neg (by decide)]) ?_
    refine Ev.bind (capput_spec big nano s k0 l hm hg hs hk hc) ?_
    rcases capv_cases big l (headb big nano s k0) with ⟨hfine, he⟩ | he
    · rw [he]
      refine Ev.congr (fun k => if_pos rfl) ?_
      have hB : Bytes (headb big nano s k0 ++ (l.map (recb big)).flatten) := by
        have hlb : ∀ (a : List Int) (z : Nat), Bytes (laidb a z big) := by
          intro a z
          unfold laidb
          induction a with
          | nil => exact Bytes.nil
          | cons x a ih => rw [List.map_cons, List.flatten_cons]; exact Bytes.append (putb_bytes _ _ _) ih
        refine Bytes.append ?_ ?_
        · unfold headb; exact (hlb _ _).append ((hlb _ _).append (hlb _ _))
        · clear he hfine hc hf hg hm hl
          induction l with
          | nil => exact Bytes.nil
          | cons x l ih =>
            rw [List.map_cons, List.flatten_cons]
            refine Bytes.append ?_ (ih (fun r hr => hb r (List.mem_cons_of_mem _ hr)))
            unfold recb
            exact (hlb _ _).append (hb x (List.mem_cons_self ..))
      have hfl : ((l.map (recb big)).flatten).length ≤ 140000000 := by
        refine Nat.le_trans (Nat.le_of_eq ?_) hc
        clear he hfine hc hf hg hm hl hB hb
        induction l with
        | nil => rfl
        | cons x l ih => rw [List.map_cons, List.flatten_cons, List.length_append, ih, recb_length]; rfl
      have hh := headb_length big nano s k0
      have hdrop : (headb big nano s k0 ++ (l.map (recb big)).flatten).drop 24 = (l.map (recb big)).flatten := List.drop_left' hh
      have hlen : (headb big nano s k0 ++ (l.map (recb big)).flatten).length = 24 + ((l.map (recb big)).flatten).length := by rw [List.length_append, hh]
      have hv1 := fun n => headv_cut big nano s k0 (l.map (recb big)).flatten n
      have hv2 := fun n => headv_whole big nano s k0 hs hk (l.map (recb big)).flatten n
      generalize headb big nano s k0 ++ (l.map (recb big)).flatten = b at hB hdrop hlen hv1 hv2 ⊢
      have hb0 : ((b.length : Int) == 0) = false := beq_eq_false_iff_ne.2 (by omega)
      show Ev (fun k => umpirelaw09_PcapCuts.j1 k l cut b 0 ((b.length : Int) == 0)) true
      rw [hb0]
      have hwc : wrap64 cut = cut := w64 (by omega) (by omega)
      obtain ⟨n, hn⟩ : ∃ n : Nat, Int.tmod cut (b.length : Int) = n ∧ n < b.length := by
        have h1 : Int.tmod cut b.length = cut % b.length := Int.tmod_eq_emod_of_nonneg hcut.1
        have h2 := Int.emod_nonneg cut (b := (b.length : Int)) (by omega)
        have h3 := Int.emod_lt_of_pos cut (b := (b.length : Int)) (by omega)
        exact ⟨(cut % (b.length : Int)).toNat, by omega, by omega⟩
      obtain ⟨hn, hlt⟩ := hn
      refine Ev.step (fun k => by rw [umpirelaw09_PcapCuts.j1, if_neg (by decide), if_neg (by omega), hwc, hn, if_pos (by omega), if_pos (by omega), Int.toNat_natCast]) ?_
      refine Ev.bind (read_spec (b.take n) (hB.take n) (by rw [List.length_take]; omega)) ?_
      unfold readv
      by_cases h24 : n < 24
      · rw [hv1 n (by omega) h24, if_neg (by decide)]
        exact cuts_short l hl hfine n h24 l.length 0 24 (by omega) (by omega) (by omega)
      · rw [hv2 n (by omega) (by omega), if_pos rfl]
        have hr := readw_cut big n b hlt l 24 [] ((b.take n).length + 1) (fun r hr => ⟨hg r hr, hfine r hr⟩) hdrop (by omega) (by rw [List.length_take]; omega)
        dsimp only
        rw [hr, List.nil_append]
        clear hr
        have hcl := cuts_loop l hl hfine n (by omega) (l.take (cutj l 24 n).1)
        have hz : l.drop 0 = l := List.drop_zero
        generalize hS : (if (cutj l 24 n).2 < n then (((cutj l 24 n).2 : Int), (2 : Int)) else (0, 0)) = S
        obtain ⟨s0, s1⟩ := S
        exact hcl s0 s1 l.length 0 24 (by omega) (by omega) (by omega) (by rw [hz, Nat.zero_add]) (by rw [hz]; exact hS.symm)
    · rw [he]
      refine Ev.congr (fun k => if_neg (by decide)) ?_
      refine Ev.step (fun k => by rw [umpirelaw09_PcapCuts.j1, if_pos rfl]) ?_
      exact Ev.now _
theorem PcapCuts : ∀ (a0 : Print.S24) (a1 : List Print.S46) (a2 : Int), (fun x : Print.S24 => (fun _ : Bool => True) x.f0 ∧ (fun _ : Bool => True) x.f1 ∧ (fun a : Int => (Lit.int .u32 a).wf = true) x.f2 ∧ (fun a : Int => (Lit.int .u32 a).wf = true) x.f3) a0 → (fun l : List Print.S46 => l.length * 40 ≤ 140737488351232 ∧ ∀ a ∈ l, (fun x : Print.S46 => (fun a : Int => (Lit.int .u32 a).wf = true) x.f0 ∧ (fun a : Int => (Lit.int .u32 a).wf = true) x.f1 ∧ (fun a : Int => (Lit.int .u32 a).wf = true) x.f2 ∧ (fun l : List Int => l.length * 1 ≤ 140737488351232 ∧ ∀ a ∈ l, (fun a : Int => (Lit.int .u8 a).wf = true) a) x.f3) a) a1 → (fun a : Int => (Lit.int .u32 a).wf = true) a2 → ∃ k, umpirelaw09_PcapCuts.f k a0.f0 a0.f1 a0.f2 a0.f3 a1 a2 = some true := by
  intro a0 a1 a2 h0 h1 h2
  apply Ev.rounds
  exact PcapCuts_core a0.f0 a0.f1 a0.f2 a0.f3 a2 a1 (by have := h1.1; omega) (fun r hr => ⟨wf_u32 (h1.2 r hr).1, wf_u32 (h1.2 r hr).2.1, wf_u32 (h1.2 r hr).2.2.1⟩) (fun r hr => bytes_wf (h1.2 r hr).2.2.2.2) (wf_u32 h0.2.2.1) (wf_u32 h0.2.2.2) (wf_u32 h2)
end Go.Proofs.Ytnjimecjpnjojaa.Pure
