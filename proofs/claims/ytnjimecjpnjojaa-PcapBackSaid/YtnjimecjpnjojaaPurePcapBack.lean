/- The law PcapBack, over numbers and lists. -/
import Derived.Test.YtnjimecjpnjojaaQAllPcapBack
import Derived.Test.YtnjimecjpnjojaaF6
namespace Go.Proofs.Ytnjimecjpnjojaa.Pure
open Go.RowKit Go.Proofs.Ytnjimecjpnjojaa.Print Go.Proofs.Ytnjimecjpnjojaa.Q Go.Proofs.YtnjimecjpnjojaaW.PrintWords Go.Proofs.YtnjimecjpnjojaaW.PrintLast Go.Proofs.YtnjimecjpnjojaaW.PrintMore
set_option linter.unusedVariables false
theorem laidb_bytes (a : List Int) (z : Nat) (big : Bool) : Bytes (laidb a z big) := by
  unfold laidb
  induction a with
  | nil => exact Bytes.nil
  | cons x a ih => rw [List.map_cons, List.flatten_cons]; exact Bytes.append (putb_bytes _ _ _) ih
theorem headb_bytes (big nano : Bool) (s k0 : Int) : Bytes (headb big nano s k0) := by
  unfold headb; exact (laidb_bytes _ _ _).append ((laidb_bytes _ _ _).append (laidb_bytes _ _ _))
theorem recs_bytes (big : Bool) (l : List S46) (hb : ∀ r ∈ l, Bytes r.f3) : Bytes (l.map (recb big)).flatten := by
  induction l with
  | nil => exact Bytes.nil
  | cons x l ih =>
    rw [List.map_cons, List.flatten_cons]
    refine Bytes.append ?_ (ih (fun r hr => hb r (List.mem_cons_of_mem _ hr)))
    unfold recb
    exact (laidb_bytes _ _ _).append (hb x (List.mem_cons_self ..))
theorem recs_length (big : Bool) (l : List S46) : ((l.map (recb big)).flatten).length = capn l := by
  induction l with
  | nil => rfl
  | cons x l ih => rw [List.map_cons, List.flatten_cons, List.length_append, ih, recb_length]; rfl
theorem capv_fine (big : Bool) (l : List S46) (h : ∀ r ∈ l, (r.f3.length : Int) ≤ 131072) (y : List Int) : capv big y l = (y ++ (l.map (recb big)).flatten, 0) := by
  induction l generalizing y with
  | nil => simp [capv]
  | cons r l ih =>
    unfold capv
    rw [if_neg (by have := h r (List.mem_cons_self ..); omega), ih (fun x hx => h x (List.mem_cons_of_mem _ hx))]
    simp
theorem back_j1 (b : List Int) (hb : Bytes b) (hl : b.length ≤ 140000) : Ev (fun k => umpirelaw09_PcapBack.j1 k b) true := by
  refine Ev.step (fun k => by rw [umpirelaw09_PcapBack.j1]) ?_
  refine Ev.bind (read_spec b hb (by omega)) ?_
  unfold readv
  by_cases h : (headv b).2.2.2.2 = 0
  · rw [if_pos h]
    obtain ⟨h24, ht, hd, hs, hk⟩ := headv_back b hb h
    generalize (headv b).1 = big at ht hd ⊢
    generalize (headv b).2.1 = nano at ht hd ⊢
    generalize (headv b).2.2.1 = s at ht hd hs ⊢
    generalize (headv b).2.2.2.1 = k0 at ht hd hk ⊢
    have hlen := readw_length big (b.length + 1) b hb 24 [] h24 (by simp)
    rcases readw_back big (b.length + 1) b hb 24 [] h24 (by omega) with ⟨h1, m, h2, h3, h4⟩ | ⟨h1, h2⟩
    · generalize readw big (b.length + 1) b [] 24 = r at h1 h2 hlen ⊢
      obtain ⟨r1, r2, r3⟩ := r
      obtain ⟨rfl, rfl⟩ := Prod.mk.inj h1
      obtain rfl : r1 = m := h2
      refine Ev.congr (fun k => if_neg (by simp)) ?_
      have hcap : capn r1 ≤ b.length := by rw [← recs_length big, ← h4, List.length_drop]; omega
      refine Ev.bind (capput_spec big nano s k0 r1 (by have : r1.length ≤ b.length := hlen; omega) (fun r hr => (h3 r hr).1) hs hk (by omega)) ?_
      rw [capv_fine big r1 (fun r hr => (h3 r hr).2), ← h4]
      have hh := headb_length big nano s k0
      have hyl : (headb big nano s k0 ++ b.drop 24).length = b.length := by rw [List.length_append, hh, List.length_drop]; omega
      have hy6 : (headb big nano s k0 ++ b.drop 24).take 6 = b.take 6 := by rw [List.take_append_of_le_length (by omega), ht]
      have hy16 : (headb big nano s k0 ++ b.drop 24).drop 16 = b.drop 16 := by
        rw [List.drop_append_of_le_length (by omega), ← hd]
        have := List.take_append_drop 8 (b.drop 16)
        rw [List.drop_drop, List.take_drop] at this
        exact this
      generalize headb big nano s k0 ++ b.drop 24 = y at hyl hy6 hy16 ⊢
      dsimp only
      refine Ev.const ?_
      rw [if_pos rfl, if_pos (by omega), if_pos (by omega), if_pos (by omega), if_pos (by omega), if_pos (by rw [hy6]), if_pos (by omega), if_pos (by omega), hy16]
      simp
    · generalize readw big (b.length + 1) b [] 24 = r at h1 h2 ⊢
      obtain ⟨r1, r2, r3⟩ := r
      have h1' : r3 ≠ 0 := h1
      have h2' : r2 ≤ b.length := h2
      refine Ev.congr (fun k => if_pos (by simp [h1'])) ?_
      refine Ev.congr (fun k => if_pos h2') ?_
      refine Ev.const ?_
      simp [h1']
  · rw [if_neg h]
    refine Ev.congr (fun k => if_pos (by simp [h])) ?_
    refine Ev.congr (fun k => if_pos (by show (0 : Int) ≤ _; omega)) ?_
    refine Ev.const ?_
    simp [h]
theorem PcapBack_core (big nano : Bool) (s k0 : Int) (l : List S46) (b : List Int) (hm : l.length ≤ 4611686018427387904) (hg : ∀ r ∈ l, Q.Good r) (hbb : ∀ r ∈ l, Bytes r.f3) (hs : 0 ≤ s ∧ s < 4294967296) (hk : 0 ≤ k0 ∧ k0 < 4294967296) (hb : Bytes b) : Ev (fun k => umpirelaw09_PcapBack.f k big nano s k0 l b) true := by
  unfold umpirelaw09_PcapBack.f
  have hout : Ev (fun k => umpirelaw09_PcapBack.j0 k l b true big nano s k0) true := by
    refine Ev.step (f := fun k => (umpirelaw09_awake.f k).bind fun t => (some t)) (fun k => ?_) (Ev.bind awake_pcap (Ev.now _))
    rw [umpirelaw09_PcapBack.j0]
    exact if_pos rfl
  refine Ev.bind awake_pcap ?_
  simp only [if_true]
  refine Ev.bind (few_spec l hm) ?_
  cases hf : fewv l with
  | false => exact hout
  | true =>
    refine Ev.congr (fun k => if_pos rfl) ?_
    by_cases a : (b.length : Int) > 140000
    · simp only [a, decide_true]; exact hout
    · simp only [a, decide_false]
      have hc := few_capn l hf
      refine Ev.step (fun k => by rw [umpirelaw09_PcapBack.j0, if_neg (by decide)]) ?_
      refine Ev.bind (capput_spec big nano s k0 l hm hg hs hk hc) ?_
      rcases capv_cases big l (headb big nano s k0) with ⟨hfine, he⟩ | he
      · rw [he]
        refine Ev.congr (fun k => if_pos rfl) ?_
        have hB : Bytes (headb big nano s k0 ++ (l.map (recb big)).flatten) := (headb_bytes _ _ _ _).append (recs_bytes big l hbb)
        have hh := headb_length big nano s k0
        have hrl := recs_length big l
        have hdrop : (headb big nano s k0 ++ (l.map (recb big)).flatten).drop 24 = (l.map (recb big)).flatten := List.drop_left' hh
        have hlen : (headb big nano s k0 ++ (l.map (recb big)).flatten).length = 24 + capn l := by rw [List.length_append, hh, hrl]
        have hv2 := headv_whole big nano s k0 hs hk (l.map (recb big)).flatten (headb big nano s k0 ++ (l.map (recb big)).flatten).length (Nat.le_refl _) (by omega)
        rw [List.take_length] at hv2
        generalize headb big nano s k0 ++ (l.map (recb big)).flatten = x at hB hdrop hlen hv2 ⊢
        refine Ev.bind (read_spec x hB (by omega)) ?_
        unfold readv
        rw [hv2, if_pos rfl]
        dsimp only
        rw [readw_whole big x l 24 [] (x.length + 1) (fun r hr => ⟨hg r hr, hfine r hr⟩) hdrop (by omega) (by omega), List.nil_append]
        refine Ev.congr (fun k => if_neg (by simp)) ?_
        refine Ev.bind (same_refl l hm) ?_
        refine Ev.congr (fun k => if_pos rfl) ?_
        refine Ev.congr (fun k => if_neg (by simp)) ?_
        exact back_j1 b hb (by omega)
      · rw [he]
        refine Ev.congr (fun k => if_neg (by decide)) ?_
        exact back_j1 b hb (by omega)
theorem PcapBack : ∀ (a0 : Print.S24) (a1 : List Print.S46) (a2 : List Int), (fun x : Print.S24 => (fun _ : Bool => True) x.f0 ∧ (fun _ : Bool => True) x.f1 ∧ (fun a : Int => (Lit.int .u32 a).wf = true) x.f2 ∧ (fun a : Int => (Lit.int .u32 a).wf = true) x.f3) a0 → (fun l : List Print.S46 => l.length * 40 ≤ 140737488351232 ∧ ∀ a ∈ l, (fun x : Print.S46 => (fun a : Int => (Lit.int .u32 a).wf = true) x.f0 ∧ (fun a : Int => (Lit.int .u32 a).wf = true) x.f1 ∧ (fun a : Int => (Lit.int .u32 a).wf = true) x.f2 ∧ (fun l : List Int => l.length * 1 ≤ 140737488351232 ∧ ∀ a ∈ l, (fun a : Int => (Lit.int .u8 a).wf = true) a) x.f3) a) a1 → (fun l : List Int => l.length * 1 ≤ 140737488351232 ∧ ∀ a ∈ l, (fun a : Int => (Lit.int .u8 a).wf = true) a) a2 → ∃ k, umpirelaw09_PcapBack.f k a0.f0 a0.f1 a0.f2 a0.f3 a1 a2 = some true := by
  intro a0 a1 a2 h0 h1 h2
  apply Ev.rounds
  exact PcapBack_core a0.f0 a0.f1 a0.f2 a0.f3 a1 a2 (by have := h1.1; omega) (fun r hr => ⟨wf_u32 (h1.2 r hr).1, wf_u32 (h1.2 r hr).2.1, wf_u32 (h1.2 r hr).2.2.1⟩) (fun r hr => bytes_wf (h1.2 r hr).2.2.2.2) (wf_u32 h0.2.2.1) (wf_u32 h0.2.2.2) (bytes_wf h2.2)
end Go.Proofs.Ytnjimecjpnjojaa.Pure
