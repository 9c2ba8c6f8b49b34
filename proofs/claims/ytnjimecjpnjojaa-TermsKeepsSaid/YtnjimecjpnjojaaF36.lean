-- laid by this session's own program (wip/mkprint.sh) for this claim
import Derived.Test.Ytnjimecjpnjojaa0
import Derived.Test.YtnjimecjpnjojaaF57
import Derived.Test.YtnjimecjpnjojaaF59
import Derived.Test.YtnjimecjpnjojaaF60
namespace Go.Proofs.Ytnjimecjpnjojaa.Print
open Go.RowKit Go.Proofs.YtnjimecjpnjojaaW.PrintWords Go.Proofs.YtnjimecjpnjojaaW.PrintLast Go.Proofs.YtnjimecjpnjojaaW.PrintMore
attribute [local go_sem] max2_int min2_int max_two min_two max_three min_three max_four min_four   -- for this text's walks alone
set_option linter.unusedVariables false
set_option linter.unusedSimpArgs false

/-! ### terms_Put: function 36 -/

set_option maxHeartbeats 8000000 in
set_option maxRecDepth 100000 in
/-- The closure that puts an option behind others: over rows that the call owns. -/
theorem terms_Put.put1 (w0 W : World) (ok : Nat → Prop) (go : Nat) (v : Value) (l : List S55) (is : Bool) (kind : Int) (Ab : Option Addr) (cb : Nat) (b : List Int)
    (hO : W.heap[go]? = some (.cells #[v] 58 (0, 0))) (hS : Kd.S k55 55 W w0.heap.size (fun k => ok k ∧ ¬ some k = (Value.slice Ab b.length cb).ownBlock) v l) (hB : Kd.R (Kd.int .u8) 5 W w0.heap.size ok (.slice Ab b.length cb) b)
    (hf : ∀ k, W.heap.size ≤ k → ok k) (hb : Below w0.heap.size w0 W) (lo : w0.heap.size ≤ go) (hl : l.length < 1000) :
    Calls Try.prog 58 #[.bool is, .int .i64 kind, .slice Ab b.length cb, .pointer (some ⟨go, 0, none⟩)] W fun e w' => e = .returned (.tuple #[]) ∧ ∃ v', w'.heap[go]? = some (.cells #[v'] 58 (0, 0)) ∧ Kd.S k55 55 w' w0.heap.size ok v' (if is = true then l ++ [(⟨kind, b⟩ : S55)] else l) ∧ KeepBut W w' go v.ownBlock ∧ Below w0.heap.size w0 w' := by
  have HBK := Aside0.mk hO
  have HO := Aside0.mk hS
  have HV := Aside0.mk hB
  have HB := Aside0.mk hb
  have HG := Aside0.mk lo
  have HL := Aside0.mk hl
  have HF := Aside0.mk hf
  have hcell : W.cell? ⟨go, 0, none⟩ = some v := blk_cell hO 0
  clear hO hS hB hb lo hl hf
  go_enter Try.func58, Try.ntmps58
  cases is with
  | true =>
    go_wp2_with (((with_reducible refine gate_builtin (b := .append) (xs := #[.tmp 8, .tmp 12]) rfl ?_); at_builtin; refine Kd.S_append k55 (w0 := w0) w0.heap.size rfl (.tmp 8) (.tmp 12) 58 55 (.agg #[(.int .i64 0), (.slice none 0 0)]) 32 rfl Try.underlying58 info55 rfl (by decide) (by omega) v l (⟨kind, b⟩ : S55) [.int .i64 kind, .slice Ab b.length cb] ok (fun k_ => some k_ = (.slice Ab b.length cb : Value).ownBlock) rfl rfl ?aP ?aK ?aF ?aO ?aB ?aS ?aL ?_; (case aP => exact k55_mkM _ _ _ (⟨kind, b⟩ : S55) (Kd.R_mono (Kd.R_tight rfl HV.out) (fun _ h => h))); (case aK => exact fun k hk => (Kd.R_apart' HV.out (Kd.S_typed HO.out) (by decide)).1 k hk.symm); (case aB => exact HB.out); (case aF => exact HF.out); (case aO => exact HO.out); (case aS => exact HB.out.size); (case aL => have := HL.out; omega); intro v1 w1 ho hb hg hat; obtain ⟨Ao1, co1, eo1⟩ := Kd.S_slice ho; subst eo1; have hblk1 := blk_grown HBK.out hg (Kd.S_ne HO.out HBK.out (by decide)); have hcell1 : w1.cell? ⟨go, 0, none⟩ = some v := blk_cell hblk1 0; have hfr1 : w1.frozen? ⟨go, 0, none⟩ = false := blk_frozen hblk1 0; have HO1 := Aside0.mk ho; have HB1 := Aside0.mk hb; have HBK1 := Aside0.mk hblk1; have HG1 := Aside0.mk hg; clear ho hb hg hat hblk1))
    go_end0
    have hne := Kd.S_ne HO.out HBK.out (by decide)
    refine ⟨rfl, _, blk_set HBK1.out 0 _, ?_, (KeepBut.of_grown HG1.out go).set_ 0 _, below_set HB1.out HG.out⟩
    have h := Kd.S_set HO1.out HBK1.out (by decide) 0 (.slice Ao1 (l ++ [(⟨kind, b⟩ : S55)]).length co1)
    simp only [List.length_append, List.length_singleton] at h ⊢
    exact h
  | false =>
    go_wp2_with (fail)
    go_end0
    exact ⟨rfl, v, HBK.out, Kd.S_mono HO.out (fun _ h => h.1), KeepBut.refl _ _ _, HB.out⟩
structure terms_Put.St (w W : World) (g1 go : Nat) (pc : Array Value) (vn : Value) (n : List Int) (l : List S55) : Prop where
  h1 : W.heap[g1]? = some (.cells pc 61 (0, 0))
  ho : ∃ v, W.heap[go]? = some (.cells #[v] 58 (0, 0)) ∧ Kd.S k55 55 W w.heap.size (fun k => some k ≠ vn.ownBlock) v l
  hn : Kd.R (Kd.int .u8) 5 W w.heap.size (fun _ => True) vn n
  hb : Below w.heap.size w W
  lo : w.heap.size ≤ go
theorem terms_Put.St.below {w W W1 : World} {g1 go : Nat} {pc : Array Value} {vn : Value} {n : List Int} {l : List S55} (h : terms_Put.St w W g1 go pc vn n l) (hb : Below W.heap.size W W1) : terms_Put.St w W1 g1 go pc vn n l := by
  obtain ⟨v, h2, h3⟩ := h.ho
  exact ⟨blk_below h.h1 hb, ⟨v, blk_below h2 hb, Kd.S_below h3 hb⟩, Kd.R_below h.hn hb, below_step h.hb hb, h.lo⟩
/-- A row that is none of those, put behind them. -/
theorem terms_Put.St.put {w W : World} {g1 go : Nat} {pc : Array Value} {vn : Value} {n : List Int} {l : List S55} (h : terms_Put.St w W g1 go pc vn n l) (vn' : Value) (n' : List Int) (is : Bool) (kind : Int) (Ab : Option Addr) (cb : Nat) (b : List Int)
    (hn' : Kd.R (Kd.int .u8) 5 W w.heap.size (fun _ => True) vn' n')
    (hS : ∀ v, W.heap[go]? = some (.cells #[v] 58 (0, 0)) → Kd.S k55 55 W w.heap.size (fun k => some k ≠ vn.ownBlock) v l → Kd.S k55 55 W w.heap.size (fun k => some k ≠ vn'.ownBlock ∧ ¬ some k = (Value.slice Ab b.length cb).ownBlock) v l)
    (hB : Kd.R (Kd.int .u8) 5 W w.heap.size (fun k => some k ≠ vn'.ownBlock) (.slice Ab b.length cb) b) (hl : l.length < 1000) :
    Calls Try.prog 58 #[.bool is, .int .i64 kind, .slice Ab b.length cb, .pointer (some ⟨go, 0, none⟩)] W fun e w' => e = .returned (.tuple #[]) ∧ terms_Put.St w w' g1 go pc vn' n' (if is = true then l ++ [(⟨kind, b⟩ : S55)] else l) := by
  obtain ⟨v, h2, h3⟩ := h.ho
  refine (terms_Put.put1 w W (fun k => some k ≠ vn'.ownBlock) go v l is kind Ab cb b h2 (hS v h2 h3) hB (fun k hk e => absurd (Kd.R_lt hn' k e.symm) (by omega)) h.hb h.lo hl).mono ?_
  rintro e w' ⟨rfl, v', h4, h5, hk, hb'⟩
  have hgo : ∀ k, vn'.ownBlock = some k → ∃ cells, W.heap[k]? = some (.cells cells 5 (0, 0)) := Kd.R_typed hn'
  refine ⟨rfl, ⟨hk.blk h.h1 (blk_ne h.h1 h2 (by decide)) (Kd.S_ne h3 h.h1 (by decide)), ⟨v', h4, h5⟩, ?_, hb', h.lo⟩⟩
  have hn1 := Kd.R_types hn' h2 (by decide)
  have hn2 := Kd.R_apart' hn1 (Kd.S_typed h3) (by decide)
  exact Kd.R_mono (Kd.R_step hn2 (fun k hk1 hlt => hk.2 k hlt hk1.1.2 hk1.2)) (fun _ _ => trivial)
theorem terms_Put.St.put_new {w W0 W : World} {g1 go : Nat} {pc : Array Value} {vn : Value} {n : List Int} {l : List S55} (h : terms_Put.St w W0 g1 go pc vn n l) (hb : Below W0.heap.size W0 W) (is : Bool) (kind : Int) (Ab : Option Addr) (cb : Nat) (b : List Int)
    (hB : Kd.R (Kd.int .u8) 5 W W0.heap.size (fun _ => True) (.slice Ab b.length cb) b) (hl : l.length < 1000) :
    Calls Try.prog 58 #[.bool is, .int .i64 kind, .slice Ab b.length cb, .pointer (some ⟨go, 0, none⟩)] W fun e w' => e = .returned (.tuple #[]) ∧ terms_Put.St w w' g1 go pc vn n (if is = true then l ++ [(⟨kind, b⟩ : S55)] else l) := by
  have h2 := h.below hb
  refine h2.put vn n is kind Ab cb b h2.hn (fun v hv _ => ?_) ?_ hl
  · obtain ⟨v0, h3, h4⟩ := h.ho
    have e : v0 = v := by
      have := (blk_below h3 hb).symm.trans hv
      injection this with this
      injection this with this
      injection this with this
      injection this
    subst e
    exact Kd.S_elder' h4 (Kd.R_base hB) hb
  · refine Kd.R_mono (Kd.R_lower (Kd.R_bound hB) (below_size h.hb)) (fun k hk e => ?_)
    exact absurd (Kd.R_lt h.hn k e.symm) (by have := hk.2.1; omega)
theorem terms_Put.St.put_n {w W : World} {g1 go : Nat} {pc : Array Value} {An : Option Addr} {cn : Nat} {n : List Int} {l : List S55} (h : terms_Put.St w W g1 go pc (.slice An n.length cn) n l) (is : Bool) (kind : Int) (hl : l.length < 1000) :
    Calls Try.prog 58 #[.bool is, .int .i64 kind, .slice An n.length cn, .pointer (some ⟨go, 0, none⟩)] W fun e w' => e = .returned (.tuple #[]) ∧ terms_Put.St w w' g1 go pc (.slice none 0 0) [] (if is = true then l ++ [(⟨kind, n⟩ : S55)] else l) := by
  refine h.put (.slice none 0 0) [] is kind An cn n (Kd.R_nil _ _ _ _ _) (fun v _ h3 => Kd.S_mono h3 (fun k hk => ⟨by simp [Value.ownBlock], fun e => hk e⟩)) ?_ hl
  exact Kd.R_mono h.hn (fun k _ => by simp [Value.ownBlock])

def terms_Put.add (is : Bool) (l : List S55) (x : S55) : List S55 := if is = true then l ++ [x] else l
theorem terms_Put.add_le {is : Bool} {l : List S55} {x : S55} {n : Nat} (h : l.length ≤ n) : (terms_Put.add is l x).length ≤ n + 1 := by
  unfold terms_Put.add
  split
  · rw [List.length_append]; simp only [List.length_cons, List.length_nil]; omega
  · omega
def terms_Put.f (k : Nat) (a0_0 : Bool) (a0_1 : Int) (a0_2 : Bool) (a0_3 : Int) (a0_4 : Int) (a0_5 : Bool) (a0_6 : Bool) (a0_7 : Int) (a0_8 : Bool) (a0_9 : Bool) : Option (List S55 × Bool) :=
  (terms_may.f k a0_0 a0_1 a0_2 a0_3 a0_4 a0_5 a0_6 a0_7 a0_8 a0_9).bind fun t => if t = true then (octet_Put.f k (IntKind.u64.wrap a0_1) 2 true).bind fun m => (octet_Put.f k (IntKind.u64.wrap a0_7) 4 true).bind fun n => (accm_Put.f k a0_3).bind fun ac => some ((terms_Put.add a0_9 (terms_Put.add a0_8 (terms_Put.add a0_6 (terms_Put.add a0_5 (terms_Put.add (a0_4 == 49699) (terms_Put.add (a0_4 == 49187) (terms_Put.add a0_2 (terms_Put.add a0_0 [] ⟨1, m.1⟩) ⟨2, ac⟩) ⟨3, [192, 35]⟩) ⟨3, [194, 35, 5]⟩) ⟨4, [192, 37]⟩) ⟨5, n.1⟩) ⟨7, []⟩) ⟨8, []⟩), true) else some ([], false)
theorem terms_Put.mono (a0_0 : Bool) (a0_1 : Int) (a0_2 : Bool) (a0_3 : Int) (a0_4 : Int) (a0_5 : Bool) (a0_6 : Bool) (a0_7 : Int) (a0_8 : Bool) (a0_9 : Bool) (k : Nat) : LeO (terms_Put.f k a0_0 a0_1 a0_2 a0_3 a0_4 a0_5 a0_6 a0_7 a0_8 a0_9) (terms_Put.f (k + 1) a0_0 a0_1 a0_2 a0_3 a0_4 a0_5 a0_6 a0_7 a0_8 a0_9) := by
  unfold terms_Put.f
  exact LeO.bind (terms_may.mono _ _ _ _ _ _ _ _ _ _ k) fun _ => LeO.ite (LeO.bind (octet_Put.mono _ _ _ k) fun _ => LeO.bind (octet_Put.mono _ _ _ k) fun _ => LeO.bind (accm_Put.mono _ k) fun _ => LeO.refl _) (LeO.refl _)
/-- The first row. -/
theorem terms_Put.St.first {w W : World} {g1 go : Nat} {pc : Array Value} {vn : Value} {n : List Int} (h1 : W.heap[g1]? = some (.cells pc 61 (0, 0))) (h2 : W.heap[go]? = some (.cells #[.slice none 0 0] 58 (0, 0))) (hn : Kd.R (Kd.int .u8) 5 W w.heap.size (fun _ => True) vn n) (hb : Below w.heap.size w W) (lo : w.heap.size ≤ go)
    (is : Bool) (kind : Int) (Ab : Option Addr) (cb : Nat) (b : List Int) (hB : Kd.R (Kd.int .u8) 5 W w.heap.size (fun k => some k ≠ vn.ownBlock) (.slice Ab b.length cb) b) :
    Calls Try.prog 58 #[.bool is, .int .i64 kind, .slice Ab b.length cb, .pointer (some ⟨go, 0, none⟩)] W fun e w' => e = .returned (.tuple #[]) ∧ terms_Put.St w w' g1 go pc vn n (terms_Put.add is [] ⟨kind, b⟩) := by
  have h : terms_Put.St w W g1 go pc vn n [] := ⟨h1, ⟨_, h2, Kd.S_nil _ _ _ _ _⟩, hn, hb, lo⟩
  refine h.put vn n is kind Ab cb b hn (fun v hv _ => ?_) hB (by decide)
  have e : (.slice none 0 0 : Value) = v := by
    have := h2.symm.trans hv
    injection this with this
    injection this with this
    injection this with this
    injection this
  subst e
  exact Kd.S_nil _ _ _ _ _
theorem terms_Put.lit (W : World) (bs : List Int) (hm : bs.length < 100) : Kd.R (Kd.int .u8) 5 (W.alloc (.cells (encs (Value.int .u8) bs).toArray 5)) W.heap.size (fun _ => True) (.slice (some ⟨W.heap.size, 0, none⟩) bs.length bs.length) bs :=
  Kd.R_of_own (h1 := fun _ => rfl) (own_lit_of (enc := Value.int .u8) W W.heap.size 5 bs (Nat.le_refl _) (by omega)) (fun _ _ => trivial)
set_option maxHeartbeats 16000000 in
set_option maxRecDepth 100000 in
theorem terms_Put.calls (k : Nat) (a0_0 : Bool) (a0_1 : Int) (a0_2 : Bool) (a0_3 : Int) (a0_4 : Int) (a0_5 : Bool) (a0_6 : Bool) (a0_7 : Int) (a0_8 : Bool) (a0_9 : Bool) (r1 : List S55) (r2 : Bool) (w : World) (h : terms_Put.f k a0_0 a0_1 a0_2 a0_3 a0_4 a0_5 a0_6 a0_7 a0_8 a0_9 = some (r1, r2)) :
    Calls Try.prog 36 #[.agg #[.bool a0_0, .int .i64 a0_1, .bool a0_2, .int .u32 a0_3, .int .i64 a0_4, .bool a0_5, .bool a0_6, .int .u32 a0_7, .bool a0_8, .bool a0_9]] w fun e w' => ∃ v0_ : Value, e = .returned (.tuple #[v0_, .bool r2]) ∧ Kd.S k55 55 w' w.heap.size (fun _ => True) v0_ r1 ∧ Below w.heap.size w w' := by
  have huT := Try.underlying61
  have hmf : ∀ (fn : Fn) (first cap : Array Value) (w : World), (Instr.makeFunc fn first cap).run Try.prog w = .ok (.func fn first cap) w := fun _ _ _ _ => rfl
  have HW := Aside0.mk (Below.refl w.heap.size w)
  unfold terms_Put.f at h
  obtain ⟨t, ht, h⟩ := Option.bind_eq_some_iff.1 h
  have HTT := Aside0.mk ht
  clear ht
  go_enter Try.func36, Try.ntmps36
  go_wp2_with ((((with_reducible refine gate_dst (N := 1) rfl ?_); refine box_event ?hg (N := 1) ?hd (cs := #[.bool a0_0, .int .i64 a0_1, .bool a0_2, .int .u32 a0_3, .int .i64 a0_4, .bool a0_5, .bool a0_6, .int .u32 a0_7, .bool a0_8, .bool a0_9]) (t := 61) ?hr ?_; (case hd => rfl); (case hg => rfl); (case hr => first | (go_simp; done) | (go_simp; rfl)); intro g1 hg w1 hbox hb; have BK1 := Aside0.mk hbox; have HB1 := Aside0.mk (below_step HW.out hb); have GE1 : Aside0 (w.heap.size ≤ g1) := ⟨by rw [hg]; exact Nat.le_refl _⟩; clear hg hbox hb HW; have hcp1_0 : w1.cell? ⟨g1, 0, none⟩ = some (.bool a0_0) := (blk_cell BK1.out 0).trans rfl; have hfp1_0 := blk_frozen BK1.out 0; have hcp1_1 : w1.cell? ⟨g1, 1, none⟩ = some (.int .i64 a0_1) := (blk_cell BK1.out 1).trans rfl; have hfp1_1 := blk_frozen BK1.out 1; have hcp1_2 : w1.cell? ⟨g1, 2, none⟩ = some (.bool a0_2) := (blk_cell BK1.out 2).trans rfl; have hfp1_2 := blk_frozen BK1.out 2; have hcp1_3 : w1.cell? ⟨g1, 3, none⟩ = some (.int .u32 a0_3) := (blk_cell BK1.out 3).trans rfl; have hfp1_3 := blk_frozen BK1.out 3; have hcp1_4 : w1.cell? ⟨g1, 4, none⟩ = some (.int .i64 a0_4) := (blk_cell BK1.out 4).trans rfl; have hfp1_4 := blk_frozen BK1.out 4; have hcp1_5 : w1.cell? ⟨g1, 5, none⟩ = some (.bool a0_5) := (blk_cell BK1.out 5).trans rfl; have hfp1_5 := blk_frozen BK1.out 5; have hcp1_6 : w1.cell? ⟨g1, 6, none⟩ = some (.bool a0_6) := (blk_cell BK1.out 6).trans rfl; have hfp1_6 := blk_frozen BK1.out 6; have hcp1_7 : w1.cell? ⟨g1, 7, none⟩ = some (.int .u32 a0_7) := (blk_cell BK1.out 7).trans rfl; have hfp1_7 := blk_frozen BK1.out 7; have hcp1_8 : w1.cell? ⟨g1, 8, none⟩ = some (.bool a0_8) := (blk_cell BK1.out 8).trans rfl; have hfp1_8 := blk_frozen BK1.out 8; have hcp1_9 : w1.cell? ⟨g1, 9, none⟩ = some (.bool a0_9) := (blk_cell BK1.out 9).trans rfl; have hfp1_9 := blk_frozen BK1.out 9)))
  refine (terms_may.calls k a0_0 a0_1 a0_2 a0_3 a0_4 a0_5 a0_6 a0_7 a0_8 a0_9 t _ HTT.out).mono ?_
  rintro e w2 ⟨rfl, hb⟩
  have BK1_2 := Aside0.mk (blk_below BK1.out hb)
  have HB2 := Aside0.mk (below_step HB1.out hb)
  clear hb BK1 HB1 hcp1_0 hfp1_0 hcp1_1 hfp1_1 hcp1_2 hfp1_2 hcp1_3 hfp1_3 hcp1_4 hfp1_4 hcp1_5 hfp1_5 hcp1_6 hfp1_6 hcp1_7 hfp1_7 hcp1_8 hfp1_8 hcp1_9 hfp1_9
  cases t with
  | false =>
    simp only [Bool.false_eq_true, if_false, Option.some.injEq, Prod.mk.injEq] at h
    obtain ⟨rfl, rfl⟩ := h
    go_wp2_with (fail)
    go_ret2
    exact ⟨_, rfl, Kd.S_nil _ _ _ _ _, HB2.out⟩
  | true =>
    simp only [if_true] at h
    obtain ⟨⟨m, m2⟩, hm, h⟩ := Option.bind_eq_some_iff.1 h
    obtain ⟨⟨n, n2⟩, hn, h⟩ := Option.bind_eq_some_iff.1 h
    obtain ⟨ac, hac, h⟩ := Option.bind_eq_some_iff.1 h
    simp only [Option.some.injEq, Prod.mk.injEq] at h
    obtain ⟨hh, rfl⟩ := h
    have HR := Aside0.mk hh
    have HM := Aside0.mk hm
    have HN := Aside0.mk hn
    have HAC := Aside0.mk hac
    clear hh hm hn hac
    have BK1_3 := Aside0.mk (blk_alloc BK1_2.out (.cells #[.slice none 0 0] 58))
    have BKO_3 := Aside0.mk (blk_new w2 (.cells #[.slice none 0 0] 58))
    have HB3 := Aside0.mk (below_alloc HB2.out (.cells #[.slice none 0 0] 58))
    have LO := Aside0.mk (below_size HB2.out)
    have hcp3_0 : (w2.alloc (.cells #[.slice none 0 0] 58)).cell? ⟨g1, 0, none⟩ = some (.bool a0_0) := (blk_cell BK1_3.out 0).trans rfl
    have hfp3_0 := blk_frozen BK1_3.out 0
    have hcp3_1 : (w2.alloc (.cells #[.slice none 0 0] 58)).cell? ⟨g1, 1, none⟩ = some (.int .i64 a0_1) := (blk_cell BK1_3.out 1).trans rfl
    have hfp3_1 := blk_frozen BK1_3.out 1
    have hcp3_2 : (w2.alloc (.cells #[.slice none 0 0] 58)).cell? ⟨g1, 2, none⟩ = some (.bool a0_2) := (blk_cell BK1_3.out 2).trans rfl
    have hfp3_2 := blk_frozen BK1_3.out 2
    have hcp3_3 : (w2.alloc (.cells #[.slice none 0 0] 58)).cell? ⟨g1, 3, none⟩ = some (.int .u32 a0_3) := (blk_cell BK1_3.out 3).trans rfl
    have hfp3_3 := blk_frozen BK1_3.out 3
    have hcp3_4 : (w2.alloc (.cells #[.slice none 0 0] 58)).cell? ⟨g1, 4, none⟩ = some (.int .i64 a0_4) := (blk_cell BK1_3.out 4).trans rfl
    have hfp3_4 := blk_frozen BK1_3.out 4
    have hcp3_5 : (w2.alloc (.cells #[.slice none 0 0] 58)).cell? ⟨g1, 5, none⟩ = some (.bool a0_5) := (blk_cell BK1_3.out 5).trans rfl
    have hfp3_5 := blk_frozen BK1_3.out 5
    have hcp3_6 : (w2.alloc (.cells #[.slice none 0 0] 58)).cell? ⟨g1, 6, none⟩ = some (.bool a0_6) := (blk_cell BK1_3.out 6).trans rfl
    have hfp3_6 := blk_frozen BK1_3.out 6
    have hcp3_7 : (w2.alloc (.cells #[.slice none 0 0] 58)).cell? ⟨g1, 7, none⟩ = some (.int .u32 a0_7) := (blk_cell BK1_3.out 7).trans rfl
    have hfp3_7 := blk_frozen BK1_3.out 7
    have hcp3_8 : (w2.alloc (.cells #[.slice none 0 0] 58)).cell? ⟨g1, 8, none⟩ = some (.bool a0_8) := (blk_cell BK1_3.out 8).trans rfl
    have hfp3_8 := blk_frozen BK1_3.out 8
    have hcp3_9 : (w2.alloc (.cells #[.slice none 0 0] 58)).cell? ⟨g1, 9, none⟩ = some (.bool a0_9) := (blk_cell BK1_3.out 9).trans rfl
    have hfp3_9 := blk_frozen BK1_3.out 9
    go_wp2_with (fail)
    generalize hgo : w2.heap.size = go at BKO_3 LO ⊢
    generalize w2.alloc (.cells #[.slice none 0 0] 58) = w3 at *
    refine (octet_Put.calls k _ 2 true m m2 _ HM.out).mono ?_
    rintro e w4 ⟨vm, rfl, hm, hb⟩
    have BK1_4 := Aside0.mk (blk_below BK1_3.out hb)
    have BKO_4 := Aside0.mk (blk_below BKO_3.out hb)
    have HB4 := Aside0.mk (below_step HB3.out hb)
    have HM4 := Aside0.mk (Kd.R_lower hm (below_size HB3.out))
    clear hm hb BK1_3 BKO_3 HB3 BK1_2 HB2 hcp3_0 hfp3_0 hcp3_1 hfp3_1 hcp3_2 hfp3_2 hcp3_3 hfp3_3 hcp3_4 hfp3_4 hcp3_5 hfp3_5 hcp3_6 hfp3_6 hcp3_7 hfp3_7 hcp3_8 hfp3_8 hcp3_9 hfp3_9
    have hcp4_0 : w4.cell? ⟨g1, 0, none⟩ = some (.bool a0_0) := (blk_cell BK1_4.out 0).trans rfl
    have hfp4_0 := blk_frozen BK1_4.out 0
    have hcp4_1 : w4.cell? ⟨g1, 1, none⟩ = some (.int .i64 a0_1) := (blk_cell BK1_4.out 1).trans rfl
    have hfp4_1 := blk_frozen BK1_4.out 1
    have hcp4_2 : w4.cell? ⟨g1, 2, none⟩ = some (.bool a0_2) := (blk_cell BK1_4.out 2).trans rfl
    have hfp4_2 := blk_frozen BK1_4.out 2
    have hcp4_3 : w4.cell? ⟨g1, 3, none⟩ = some (.int .u32 a0_3) := (blk_cell BK1_4.out 3).trans rfl
    have hfp4_3 := blk_frozen BK1_4.out 3
    have hcp4_4 : w4.cell? ⟨g1, 4, none⟩ = some (.int .i64 a0_4) := (blk_cell BK1_4.out 4).trans rfl
    have hfp4_4 := blk_frozen BK1_4.out 4
    have hcp4_5 : w4.cell? ⟨g1, 5, none⟩ = some (.bool a0_5) := (blk_cell BK1_4.out 5).trans rfl
    have hfp4_5 := blk_frozen BK1_4.out 5
    have hcp4_6 : w4.cell? ⟨g1, 6, none⟩ = some (.bool a0_6) := (blk_cell BK1_4.out 6).trans rfl
    have hfp4_6 := blk_frozen BK1_4.out 6
    have hcp4_7 : w4.cell? ⟨g1, 7, none⟩ = some (.int .u32 a0_7) := (blk_cell BK1_4.out 7).trans rfl
    have hfp4_7 := blk_frozen BK1_4.out 7
    have hcp4_8 : w4.cell? ⟨g1, 8, none⟩ = some (.bool a0_8) := (blk_cell BK1_4.out 8).trans rfl
    have hfp4_8 := blk_frozen BK1_4.out 8
    have hcp4_9 : w4.cell? ⟨g1, 9, none⟩ = some (.bool a0_9) := (blk_cell BK1_4.out 9).trans rfl
    have hfp4_9 := blk_frozen BK1_4.out 9
    go_wp2_with (fail)
    refine (octet_Put.calls k _ 4 true n n2 _ HN.out).mono ?_
    rintro e w5 ⟨vn, rfl, hn, hb⟩
    have BK1_5 := Aside0.mk (blk_below BK1_4.out hb)
    have BKO_5 := Aside0.mk (blk_below BKO_4.out hb)
    have HB5 := Aside0.mk (below_step HB4.out hb)
    have HM5 := Aside0.mk (Kd.R_elder' HM4.out (Kd.R_base hn) hb)
    have HN5 := Aside0.mk (Kd.R_lower hn (below_size HB4.out))
    obtain ⟨Am, cm, rfl⟩ := Kd.R_slice HM5.out
    obtain ⟨An, cn, rfl⟩ := Kd.R_slice HN5.out
    clear hn hb BK1_4 BKO_4 HB4 HM4 hcp4_0 hfp4_0 hcp4_1 hfp4_1 hcp4_2 hfp4_2 hcp4_3 hfp4_3 hcp4_4 hfp4_4 hcp4_5 hfp4_5 hcp4_6 hfp4_6 hcp4_7 hfp4_7 hcp4_8 hfp4_8 hcp4_9 hfp4_9
    have hcp5_0 : w5.cell? ⟨g1, 0, none⟩ = some (.bool a0_0) := (blk_cell BK1_5.out 0).trans rfl
    have hfp5_0 := blk_frozen BK1_5.out 0
    have hcp5_1 : w5.cell? ⟨g1, 1, none⟩ = some (.int .i64 a0_1) := (blk_cell BK1_5.out 1).trans rfl
    have hfp5_1 := blk_frozen BK1_5.out 1
    have hcp5_2 : w5.cell? ⟨g1, 2, none⟩ = some (.bool a0_2) := (blk_cell BK1_5.out 2).trans rfl
    have hfp5_2 := blk_frozen BK1_5.out 2
    have hcp5_3 : w5.cell? ⟨g1, 3, none⟩ = some (.int .u32 a0_3) := (blk_cell BK1_5.out 3).trans rfl
    have hfp5_3 := blk_frozen BK1_5.out 3
    have hcp5_4 : w5.cell? ⟨g1, 4, none⟩ = some (.int .i64 a0_4) := (blk_cell BK1_5.out 4).trans rfl
    have hfp5_4 := blk_frozen BK1_5.out 4
    have hcp5_5 : w5.cell? ⟨g1, 5, none⟩ = some (.bool a0_5) := (blk_cell BK1_5.out 5).trans rfl
    have hfp5_5 := blk_frozen BK1_5.out 5
    have hcp5_6 : w5.cell? ⟨g1, 6, none⟩ = some (.bool a0_6) := (blk_cell BK1_5.out 6).trans rfl
    have hfp5_6 := blk_frozen BK1_5.out 6
    have hcp5_7 : w5.cell? ⟨g1, 7, none⟩ = some (.int .u32 a0_7) := (blk_cell BK1_5.out 7).trans rfl
    have hfp5_7 := blk_frozen BK1_5.out 7
    have hcp5_8 : w5.cell? ⟨g1, 8, none⟩ = some (.bool a0_8) := (blk_cell BK1_5.out 8).trans rfl
    have hfp5_8 := blk_frozen BK1_5.out 8
    have hcp5_9 : w5.cell? ⟨g1, 9, none⟩ = some (.bool a0_9) := (blk_cell BK1_5.out 9).trans rfl
    have hfp5_9 := blk_frozen BK1_5.out 9
    go_wp2_with (fail)
    refine (terms_Put.St.first BK1_5.out BKO_5.out HN5.out HB5.out LO.out a0_0 1 Am cm m (Kd.R_mono HM5.out (fun _ h => h.2))).mono ?_
    rintro e w6 ⟨rfl, hst⟩
    have ST6 := Aside0.mk hst
    have BK6 := Aside0.mk hst.h1
    clear hst BK1_5 BKO_5 HN5 HB5 HM5 hcp5_0 hfp5_0 hcp5_1 hfp5_1 hcp5_2 hfp5_2 hcp5_3 hfp5_3 hcp5_4 hfp5_4 hcp5_5 hfp5_5 hcp5_6 hfp5_6 hcp5_7 hfp5_7 hcp5_8 hfp5_8 hcp5_9 hfp5_9
    have hcp6_0 : w6.cell? ⟨g1, 0, none⟩ = some (.bool a0_0) := (blk_cell BK6.out 0).trans rfl
    have hfp6_0 := blk_frozen BK6.out 0
    have hcp6_1 : w6.cell? ⟨g1, 1, none⟩ = some (.int .i64 a0_1) := (blk_cell BK6.out 1).trans rfl
    have hfp6_1 := blk_frozen BK6.out 1
    have hcp6_2 : w6.cell? ⟨g1, 2, none⟩ = some (.bool a0_2) := (blk_cell BK6.out 2).trans rfl
    have hfp6_2 := blk_frozen BK6.out 2
    have hcp6_3 : w6.cell? ⟨g1, 3, none⟩ = some (.int .u32 a0_3) := (blk_cell BK6.out 3).trans rfl
    have hfp6_3 := blk_frozen BK6.out 3
    have hcp6_4 : w6.cell? ⟨g1, 4, none⟩ = some (.int .i64 a0_4) := (blk_cell BK6.out 4).trans rfl
    have hfp6_4 := blk_frozen BK6.out 4
    have hcp6_5 : w6.cell? ⟨g1, 5, none⟩ = some (.bool a0_5) := (blk_cell BK6.out 5).trans rfl
    have hfp6_5 := blk_frozen BK6.out 5
    have hcp6_6 : w6.cell? ⟨g1, 6, none⟩ = some (.bool a0_6) := (blk_cell BK6.out 6).trans rfl
    have hfp6_6 := blk_frozen BK6.out 6
    have hcp6_7 : w6.cell? ⟨g1, 7, none⟩ = some (.int .u32 a0_7) := (blk_cell BK6.out 7).trans rfl
    have hfp6_7 := blk_frozen BK6.out 7
    have hcp6_8 : w6.cell? ⟨g1, 8, none⟩ = some (.bool a0_8) := (blk_cell BK6.out 8).trans rfl
    have hfp6_8 := blk_frozen BK6.out 8
    have hcp6_9 : w6.cell? ⟨g1, 9, none⟩ = some (.bool a0_9) := (blk_cell BK6.out 9).trans rfl
    have hfp6_9 := blk_frozen BK6.out 9
    go_wp2_with (fail)
    have hs6 : w6.cell? ⟨g1, 2, none⟩ = some (.bool a0_2) ∧ w6.cell? ⟨g1, 3, none⟩ = some (.int .u32 a0_3) := ⟨hcp6_2, hcp6_3⟩
    have ST6d := Aside0.mk (ST6.out.below (below_drew (Below.refl _ _)))
    clear ST6 BK6 hcp6_0 hfp6_0 hcp6_1 hfp6_1 hcp6_2 hfp6_2 hcp6_3 hfp6_3 hcp6_4 hfp6_4 hcp6_5 hfp6_5 hcp6_6 hfp6_6 hcp6_7 hfp6_7 hcp6_8 hfp6_8 hcp6_9 hfp6_9
    go_region_held (fun w' => w'.cell? ⟨g1, 2, none⟩ = some (.bool a0_2) ∧ w'.cell? ⟨g1, 3, none⟩ = some (.int .u32 a0_3)) ((first | exact hs8 | exact hs7 | exact hs6)) (first | (go_at_call 60; with_reducible refine (accm_Put.calls k a0_3 ac _ HAC.out).mono ?_; rintro e w7 ⟨va, rfl, ha, hb⟩; obtain ⟨Aa, ca, rfl⟩ := Kd.R_slice ha; have HA7 := Aside0.mk ha; have HB7 := Aside0.mk hb; have BK7 := Aside0.mk (blk_below ST6d.out.h1 hb); have hs7 : w7.cell? ⟨g1, 2, none⟩ = some (.bool a0_2) ∧ w7.cell? ⟨g1, 3, none⟩ = some (.int .u32 a0_3) := ⟨(blk_cell BK7.out 2).trans rfl, (blk_cell BK7.out 3).trans rfl⟩; clear ha hb) | (go_at_call 58; refine (terms_Put.St.put_new ST6d.out HB7.out a0_2 2 Aa ca ac HA7.out (Nat.lt_of_le_of_lt (terms_Put.add_le (Nat.le_refl 0)) (by decide))).mono ?_; rintro e w8 ⟨rfl, hst⟩; have ST8 : Aside0 (terms_Put.St w w8 g1 go #[.bool a0_0, .int .i64 a0_1, .bool a0_2, .int .u32 a0_3, .int .i64 a0_4, .bool a0_5, .bool a0_6, .int .u32 a0_7, .bool a0_8, .bool a0_9] (.slice An n.length cn) n (terms_Put.add a0_2 (terms_Put.add a0_0 [] ⟨1, m⟩) ⟨2, ac⟩)) := ⟨hst⟩; have hs8 : w8.cell? ⟨g1, 2, none⟩ = some (.bool a0_2) ∧ w8.cell? ⟨g1, 3, none⟩ = some (.int .u32 a0_3) := ⟨(blk_cell hst.h1 2).trans rfl, (blk_cell hst.h1 3).trans rfl⟩; clear hst))
    have BK8 := Aside0.mk ST8.out.h1
    have hcq2_0 : w8.cell? ⟨g1, 0, none⟩ = some (.bool a0_0) := (blk_cell BK8.out 0).trans rfl
    have hfq2_0 := blk_frozen BK8.out 0
    have hcq2_1 : w8.cell? ⟨g1, 1, none⟩ = some (.int .i64 a0_1) := (blk_cell BK8.out 1).trans rfl
    have hfq2_1 := blk_frozen BK8.out 1
    have hcq2_2 : w8.cell? ⟨g1, 2, none⟩ = some (.bool a0_2) := (blk_cell BK8.out 2).trans rfl
    have hfq2_2 := blk_frozen BK8.out 2
    have hcq2_3 : w8.cell? ⟨g1, 3, none⟩ = some (.int .u32 a0_3) := (blk_cell BK8.out 3).trans rfl
    have hfq2_3 := blk_frozen BK8.out 3
    have hcq2_4 : w8.cell? ⟨g1, 4, none⟩ = some (.int .i64 a0_4) := (blk_cell BK8.out 4).trans rfl
    have hfq2_4 := blk_frozen BK8.out 4
    have hcq2_5 : w8.cell? ⟨g1, 5, none⟩ = some (.bool a0_5) := (blk_cell BK8.out 5).trans rfl
    have hfq2_5 := blk_frozen BK8.out 5
    have hcq2_6 : w8.cell? ⟨g1, 6, none⟩ = some (.bool a0_6) := (blk_cell BK8.out 6).trans rfl
    have hfq2_6 := blk_frozen BK8.out 6
    have hcq2_7 : w8.cell? ⟨g1, 7, none⟩ = some (.int .u32 a0_7) := (blk_cell BK8.out 7).trans rfl
    have hfq2_7 := blk_frozen BK8.out 7
    have hcq2_8 : w8.cell? ⟨g1, 8, none⟩ = some (.bool a0_8) := (blk_cell BK8.out 8).trans rfl
    have hfq2_8 := blk_frozen BK8.out 8
    have hcq2_9 : w8.cell? ⟨g1, 9, none⟩ = some (.bool a0_9) := (blk_cell BK8.out 9).trans rfl
    have hfq2_9 := blk_frozen BK8.out 9
    go_wp2_with (fail)
    refine (terms_Put.St.put_new ST8.out (below_alloc (Below.refl _ _) _) (a0_4 == 49187) 3 _ _ [192, 35] (terms_Put.lit w8 [192, 35] (by decide)) (Nat.lt_of_le_of_lt (terms_Put.add_le (terms_Put.add_le (Nat.le_refl 0))) (by decide))).mono ?_
    rintro e w9 ⟨rfl, hst⟩
    have ST9 : Aside0 (terms_Put.St w w9 g1 go #[.bool a0_0, .int .i64 a0_1, .bool a0_2, .int .u32 a0_3, .int .i64 a0_4, .bool a0_5, .bool a0_6, .int .u32 a0_7, .bool a0_8, .bool a0_9] (.slice An n.length cn) n (terms_Put.add (a0_4 == 49187) (terms_Put.add a0_2 (terms_Put.add a0_0 [] ⟨1, m⟩) ⟨2, ac⟩) ⟨3, [192, 35]⟩)) := ⟨hst⟩
    have BK9 := Aside0.mk hst.h1
    clear hst ST8 BK8 hcq2_0 hfq2_0 hcq2_1 hfq2_1 hcq2_2 hfq2_2 hcq2_3 hfq2_3 hcq2_4 hfq2_4 hcq2_5 hfq2_5 hcq2_6 hfq2_6 hcq2_7 hfq2_7 hcq2_8 hfq2_8 hcq2_9 hfq2_9
    have hcq3_0 : w9.cell? ⟨g1, 0, none⟩ = some (.bool a0_0) := (blk_cell BK9.out 0).trans rfl
    have hfq3_0 := blk_frozen BK9.out 0
    have hcq3_1 : w9.cell? ⟨g1, 1, none⟩ = some (.int .i64 a0_1) := (blk_cell BK9.out 1).trans rfl
    have hfq3_1 := blk_frozen BK9.out 1
    have hcq3_2 : w9.cell? ⟨g1, 2, none⟩ = some (.bool a0_2) := (blk_cell BK9.out 2).trans rfl
    have hfq3_2 := blk_frozen BK9.out 2
    have hcq3_3 : w9.cell? ⟨g1, 3, none⟩ = some (.int .u32 a0_3) := (blk_cell BK9.out 3).trans rfl
    have hfq3_3 := blk_frozen BK9.out 3
    have hcq3_4 : w9.cell? ⟨g1, 4, none⟩ = some (.int .i64 a0_4) := (blk_cell BK9.out 4).trans rfl
    have hfq3_4 := blk_frozen BK9.out 4
    have hcq3_5 : w9.cell? ⟨g1, 5, none⟩ = some (.bool a0_5) := (blk_cell BK9.out 5).trans rfl
    have hfq3_5 := blk_frozen BK9.out 5
    have hcq3_6 : w9.cell? ⟨g1, 6, none⟩ = some (.bool a0_6) := (blk_cell BK9.out 6).trans rfl
    have hfq3_6 := blk_frozen BK9.out 6
    have hcq3_7 : w9.cell? ⟨g1, 7, none⟩ = some (.int .u32 a0_7) := (blk_cell BK9.out 7).trans rfl
    have hfq3_7 := blk_frozen BK9.out 7
    have hcq3_8 : w9.cell? ⟨g1, 8, none⟩ = some (.bool a0_8) := (blk_cell BK9.out 8).trans rfl
    have hfq3_8 := blk_frozen BK9.out 8
    have hcq3_9 : w9.cell? ⟨g1, 9, none⟩ = some (.bool a0_9) := (blk_cell BK9.out 9).trans rfl
    have hfq3_9 := blk_frozen BK9.out 9
    go_wp2_with (fail)
    refine (terms_Put.St.put_new ST9.out (below_alloc (Below.refl _ _) _) (a0_4 == 49699) 3 _ _ [194, 35, 5] (terms_Put.lit w9 [194, 35, 5] (by decide)) (Nat.lt_of_le_of_lt (terms_Put.add_le (terms_Put.add_le (terms_Put.add_le (Nat.le_refl 0)))) (by decide))).mono ?_
    rintro e w10 ⟨rfl, hst⟩
    have ST10 : Aside0 (terms_Put.St w w10 g1 go #[.bool a0_0, .int .i64 a0_1, .bool a0_2, .int .u32 a0_3, .int .i64 a0_4, .bool a0_5, .bool a0_6, .int .u32 a0_7, .bool a0_8, .bool a0_9] (.slice An n.length cn) n (terms_Put.add (a0_4 == 49699) (terms_Put.add (a0_4 == 49187) (terms_Put.add a0_2 (terms_Put.add a0_0 [] ⟨1, m⟩) ⟨2, ac⟩) ⟨3, [192, 35]⟩) ⟨3, [194, 35, 5]⟩)) := ⟨hst⟩
    have BK10 := Aside0.mk hst.h1
    clear hst ST9 BK9 hcq3_0 hfq3_0 hcq3_1 hfq3_1 hcq3_2 hfq3_2 hcq3_3 hfq3_3 hcq3_4 hfq3_4 hcq3_5 hfq3_5 hcq3_6 hfq3_6 hcq3_7 hfq3_7 hcq3_8 hfq3_8 hcq3_9 hfq3_9
    have hcq4_0 : w10.cell? ⟨g1, 0, none⟩ = some (.bool a0_0) := (blk_cell BK10.out 0).trans rfl
    have hfq4_0 := blk_frozen BK10.out 0
    have hcq4_1 : w10.cell? ⟨g1, 1, none⟩ = some (.int .i64 a0_1) := (blk_cell BK10.out 1).trans rfl
    have hfq4_1 := blk_frozen BK10.out 1
    have hcq4_2 : w10.cell? ⟨g1, 2, none⟩ = some (.bool a0_2) := (blk_cell BK10.out 2).trans rfl
    have hfq4_2 := blk_frozen BK10.out 2
    have hcq4_3 : w10.cell? ⟨g1, 3, none⟩ = some (.int .u32 a0_3) := (blk_cell BK10.out 3).trans rfl
    have hfq4_3 := blk_frozen BK10.out 3
    have hcq4_4 : w10.cell? ⟨g1, 4, none⟩ = some (.int .i64 a0_4) := (blk_cell BK10.out 4).trans rfl
    have hfq4_4 := blk_frozen BK10.out 4
    have hcq4_5 : w10.cell? ⟨g1, 5, none⟩ = some (.bool a0_5) := (blk_cell BK10.out 5).trans rfl
    have hfq4_5 := blk_frozen BK10.out 5
    have hcq4_6 : w10.cell? ⟨g1, 6, none⟩ = some (.bool a0_6) := (blk_cell BK10.out 6).trans rfl
    have hfq4_6 := blk_frozen BK10.out 6
    have hcq4_7 : w10.cell? ⟨g1, 7, none⟩ = some (.int .u32 a0_7) := (blk_cell BK10.out 7).trans rfl
    have hfq4_7 := blk_frozen BK10.out 7
    have hcq4_8 : w10.cell? ⟨g1, 8, none⟩ = some (.bool a0_8) := (blk_cell BK10.out 8).trans rfl
    have hfq4_8 := blk_frozen BK10.out 8
    have hcq4_9 : w10.cell? ⟨g1, 9, none⟩ = some (.bool a0_9) := (blk_cell BK10.out 9).trans rfl
    have hfq4_9 := blk_frozen BK10.out 9
    go_wp2_with (fail)
    refine (terms_Put.St.put_new ST10.out (below_alloc (Below.refl _ _) _) a0_5 4 _ _ [192, 37] (terms_Put.lit w10 [192, 37] (by decide)) (Nat.lt_of_le_of_lt (terms_Put.add_le (terms_Put.add_le (terms_Put.add_le (terms_Put.add_le (Nat.le_refl 0))))) (by decide))).mono ?_
    rintro e w11 ⟨rfl, hst⟩
    have ST11 : Aside0 (terms_Put.St w w11 g1 go #[.bool a0_0, .int .i64 a0_1, .bool a0_2, .int .u32 a0_3, .int .i64 a0_4, .bool a0_5, .bool a0_6, .int .u32 a0_7, .bool a0_8, .bool a0_9] (.slice An n.length cn) n (terms_Put.add a0_5 (terms_Put.add (a0_4 == 49699) (terms_Put.add (a0_4 == 49187) (terms_Put.add a0_2 (terms_Put.add a0_0 [] ⟨1, m⟩) ⟨2, ac⟩) ⟨3, [192, 35]⟩) ⟨3, [194, 35, 5]⟩) ⟨4, [192, 37]⟩)) := ⟨hst⟩
    have BK11 := Aside0.mk hst.h1
    clear hst ST10 BK10 hcq4_0 hfq4_0 hcq4_1 hfq4_1 hcq4_2 hfq4_2 hcq4_3 hfq4_3 hcq4_4 hfq4_4 hcq4_5 hfq4_5 hcq4_6 hfq4_6 hcq4_7 hfq4_7 hcq4_8 hfq4_8 hcq4_9 hfq4_9
    have hcq5_0 : w11.cell? ⟨g1, 0, none⟩ = some (.bool a0_0) := (blk_cell BK11.out 0).trans rfl
    have hfq5_0 := blk_frozen BK11.out 0
    have hcq5_1 : w11.cell? ⟨g1, 1, none⟩ = some (.int .i64 a0_1) := (blk_cell BK11.out 1).trans rfl
    have hfq5_1 := blk_frozen BK11.out 1
    have hcq5_2 : w11.cell? ⟨g1, 2, none⟩ = some (.bool a0_2) := (blk_cell BK11.out 2).trans rfl
    have hfq5_2 := blk_frozen BK11.out 2
    have hcq5_3 : w11.cell? ⟨g1, 3, none⟩ = some (.int .u32 a0_3) := (blk_cell BK11.out 3).trans rfl
    have hfq5_3 := blk_frozen BK11.out 3
    have hcq5_4 : w11.cell? ⟨g1, 4, none⟩ = some (.int .i64 a0_4) := (blk_cell BK11.out 4).trans rfl
    have hfq5_4 := blk_frozen BK11.out 4
    have hcq5_5 : w11.cell? ⟨g1, 5, none⟩ = some (.bool a0_5) := (blk_cell BK11.out 5).trans rfl
    have hfq5_5 := blk_frozen BK11.out 5
    have hcq5_6 : w11.cell? ⟨g1, 6, none⟩ = some (.bool a0_6) := (blk_cell BK11.out 6).trans rfl
    have hfq5_6 := blk_frozen BK11.out 6
    have hcq5_7 : w11.cell? ⟨g1, 7, none⟩ = some (.int .u32 a0_7) := (blk_cell BK11.out 7).trans rfl
    have hfq5_7 := blk_frozen BK11.out 7
    have hcq5_8 : w11.cell? ⟨g1, 8, none⟩ = some (.bool a0_8) := (blk_cell BK11.out 8).trans rfl
    have hfq5_8 := blk_frozen BK11.out 8
    have hcq5_9 : w11.cell? ⟨g1, 9, none⟩ = some (.bool a0_9) := (blk_cell BK11.out 9).trans rfl
    have hfq5_9 := blk_frozen BK11.out 9
    go_wp2_with (fail)
    refine (terms_Put.St.put_n ST11.out a0_6 5 (Nat.lt_of_le_of_lt (terms_Put.add_le (terms_Put.add_le (terms_Put.add_le (terms_Put.add_le (terms_Put.add_le (Nat.le_refl 0)))))) (by decide))).mono ?_
    rintro e w12 ⟨rfl, hst⟩
    have ST12 : Aside0 (terms_Put.St w w12 g1 go #[.bool a0_0, .int .i64 a0_1, .bool a0_2, .int .u32 a0_3, .int .i64 a0_4, .bool a0_5, .bool a0_6, .int .u32 a0_7, .bool a0_8, .bool a0_9] (.slice none 0 0) [] (terms_Put.add a0_6 (terms_Put.add a0_5 (terms_Put.add (a0_4 == 49699) (terms_Put.add (a0_4 == 49187) (terms_Put.add a0_2 (terms_Put.add a0_0 [] ⟨1, m⟩) ⟨2, ac⟩) ⟨3, [192, 35]⟩) ⟨3, [194, 35, 5]⟩) ⟨4, [192, 37]⟩) ⟨5, n⟩)) := ⟨hst⟩
    have BK12 := Aside0.mk hst.h1
    clear hst ST11 BK11 hcq5_0 hfq5_0 hcq5_1 hfq5_1 hcq5_2 hfq5_2 hcq5_3 hfq5_3 hcq5_4 hfq5_4 hcq5_5 hfq5_5 hcq5_6 hfq5_6 hcq5_7 hfq5_7 hcq5_8 hfq5_8 hcq5_9 hfq5_9
    have hcq6_0 : w12.cell? ⟨g1, 0, none⟩ = some (.bool a0_0) := (blk_cell BK12.out 0).trans rfl
    have hfq6_0 := blk_frozen BK12.out 0
    have hcq6_1 : w12.cell? ⟨g1, 1, none⟩ = some (.int .i64 a0_1) := (blk_cell BK12.out 1).trans rfl
    have hfq6_1 := blk_frozen BK12.out 1
    have hcq6_2 : w12.cell? ⟨g1, 2, none⟩ = some (.bool a0_2) := (blk_cell BK12.out 2).trans rfl
    have hfq6_2 := blk_frozen BK12.out 2
    have hcq6_3 : w12.cell? ⟨g1, 3, none⟩ = some (.int .u32 a0_3) := (blk_cell BK12.out 3).trans rfl
    have hfq6_3 := blk_frozen BK12.out 3
    have hcq6_4 : w12.cell? ⟨g1, 4, none⟩ = some (.int .i64 a0_4) := (blk_cell BK12.out 4).trans rfl
    have hfq6_4 := blk_frozen BK12.out 4
    have hcq6_5 : w12.cell? ⟨g1, 5, none⟩ = some (.bool a0_5) := (blk_cell BK12.out 5).trans rfl
    have hfq6_5 := blk_frozen BK12.out 5
    have hcq6_6 : w12.cell? ⟨g1, 6, none⟩ = some (.bool a0_6) := (blk_cell BK12.out 6).trans rfl
    have hfq6_6 := blk_frozen BK12.out 6
    have hcq6_7 : w12.cell? ⟨g1, 7, none⟩ = some (.int .u32 a0_7) := (blk_cell BK12.out 7).trans rfl
    have hfq6_7 := blk_frozen BK12.out 7
    have hcq6_8 : w12.cell? ⟨g1, 8, none⟩ = some (.bool a0_8) := (blk_cell BK12.out 8).trans rfl
    have hfq6_8 := blk_frozen BK12.out 8
    have hcq6_9 : w12.cell? ⟨g1, 9, none⟩ = some (.bool a0_9) := (blk_cell BK12.out 9).trans rfl
    have hfq6_9 := blk_frozen BK12.out 9
    go_wp2_with (fail)
    refine (terms_Put.St.put_new ST12.out (Below.refl _ _) a0_8 7 none 0 [] (Kd.R_nil _ _ _ _ _) (Nat.lt_of_le_of_lt (terms_Put.add_le (terms_Put.add_le (terms_Put.add_le (terms_Put.add_le (terms_Put.add_le (terms_Put.add_le (Nat.le_refl 0))))))) (by decide))).mono ?_
    rintro e w13 ⟨rfl, hst⟩
    have ST13 : Aside0 (terms_Put.St w w13 g1 go #[.bool a0_0, .int .i64 a0_1, .bool a0_2, .int .u32 a0_3, .int .i64 a0_4, .bool a0_5, .bool a0_6, .int .u32 a0_7, .bool a0_8, .bool a0_9] (.slice none 0 0) [] (terms_Put.add a0_8 (terms_Put.add a0_6 (terms_Put.add a0_5 (terms_Put.add (a0_4 == 49699) (terms_Put.add (a0_4 == 49187) (terms_Put.add a0_2 (terms_Put.add a0_0 [] ⟨1, m⟩) ⟨2, ac⟩) ⟨3, [192, 35]⟩) ⟨3, [194, 35, 5]⟩) ⟨4, [192, 37]⟩) ⟨5, n⟩) ⟨7, []⟩)) := ⟨hst⟩
    have BK13 := Aside0.mk hst.h1
    clear hst ST12 BK12 hcq6_0 hfq6_0 hcq6_1 hfq6_1 hcq6_2 hfq6_2 hcq6_3 hfq6_3 hcq6_4 hfq6_4 hcq6_5 hfq6_5 hcq6_6 hfq6_6 hcq6_7 hfq6_7 hcq6_8 hfq6_8 hcq6_9 hfq6_9
    have hcq7_0 : w13.cell? ⟨g1, 0, none⟩ = some (.bool a0_0) := (blk_cell BK13.out 0).trans rfl
    have hfq7_0 := blk_frozen BK13.out 0
    have hcq7_1 : w13.cell? ⟨g1, 1, none⟩ = some (.int .i64 a0_1) := (blk_cell BK13.out 1).trans rfl
    have hfq7_1 := blk_frozen BK13.out 1
    have hcq7_2 : w13.cell? ⟨g1, 2, none⟩ = some (.bool a0_2) := (blk_cell BK13.out 2).trans rfl
    have hfq7_2 := blk_frozen BK13.out 2
    have hcq7_3 : w13.cell? ⟨g1, 3, none⟩ = some (.int .u32 a0_3) := (blk_cell BK13.out 3).trans rfl
    have hfq7_3 := blk_frozen BK13.out 3
    have hcq7_4 : w13.cell? ⟨g1, 4, none⟩ = some (.int .i64 a0_4) := (blk_cell BK13.out 4).trans rfl
    have hfq7_4 := blk_frozen BK13.out 4
    have hcq7_5 : w13.cell? ⟨g1, 5, none⟩ = some (.bool a0_5) := (blk_cell BK13.out 5).trans rfl
    have hfq7_5 := blk_frozen BK13.out 5
    have hcq7_6 : w13.cell? ⟨g1, 6, none⟩ = some (.bool a0_6) := (blk_cell BK13.out 6).trans rfl
    have hfq7_6 := blk_frozen BK13.out 6
    have hcq7_7 : w13.cell? ⟨g1, 7, none⟩ = some (.int .u32 a0_7) := (blk_cell BK13.out 7).trans rfl
    have hfq7_7 := blk_frozen BK13.out 7
    have hcq7_8 : w13.cell? ⟨g1, 8, none⟩ = some (.bool a0_8) := (blk_cell BK13.out 8).trans rfl
    have hfq7_8 := blk_frozen BK13.out 8
    have hcq7_9 : w13.cell? ⟨g1, 9, none⟩ = some (.bool a0_9) := (blk_cell BK13.out 9).trans rfl
    have hfq7_9 := blk_frozen BK13.out 9
    go_wp2_with (fail)
    refine (terms_Put.St.put_new ST13.out (Below.refl _ _) a0_9 8 none 0 [] (Kd.R_nil _ _ _ _ _) (Nat.lt_of_le_of_lt (terms_Put.add_le (terms_Put.add_le (terms_Put.add_le (terms_Put.add_le (terms_Put.add_le (terms_Put.add_le (terms_Put.add_le (Nat.le_refl 0)))))))) (by decide))).mono ?_
    rintro e w14 ⟨rfl, hst⟩
    have ST14 : Aside0 (terms_Put.St w w14 g1 go #[.bool a0_0, .int .i64 a0_1, .bool a0_2, .int .u32 a0_3, .int .i64 a0_4, .bool a0_5, .bool a0_6, .int .u32 a0_7, .bool a0_8, .bool a0_9] (.slice none 0 0) [] (terms_Put.add a0_9 (terms_Put.add a0_8 (terms_Put.add a0_6 (terms_Put.add a0_5 (terms_Put.add (a0_4 == 49699) (terms_Put.add (a0_4 == 49187) (terms_Put.add a0_2 (terms_Put.add a0_0 [] ⟨1, m⟩) ⟨2, ac⟩) ⟨3, [192, 35]⟩) ⟨3, [194, 35, 5]⟩) ⟨4, [192, 37]⟩) ⟨5, n⟩) ⟨7, []⟩) ⟨8, []⟩)) := ⟨hst⟩
    have BK14 := Aside0.mk hst.h1
    clear hst ST13 BK13 hcq7_0 hfq7_0 hcq7_1 hfq7_1 hcq7_2 hfq7_2 hcq7_3 hfq7_3 hcq7_4 hfq7_4 hcq7_5 hfq7_5 hcq7_6 hfq7_6 hcq7_7 hfq7_7 hcq7_8 hfq7_8 hcq7_9 hfq7_9
    obtain ⟨v, h2, h3⟩ := ST14.out.ho
    have hcv : w14.cell? ⟨go, 0, none⟩ = some v := blk_cell h2 0
    have hcqz_0 : w14.cell? ⟨g1, 0, none⟩ = some (.bool a0_0) := (blk_cell BK14.out 0).trans rfl
    have hfqz_0 := blk_frozen BK14.out 0
    have hcqz_1 : w14.cell? ⟨g1, 1, none⟩ = some (.int .i64 a0_1) := (blk_cell BK14.out 1).trans rfl
    have hfqz_1 := blk_frozen BK14.out 1
    have hcqz_2 : w14.cell? ⟨g1, 2, none⟩ = some (.bool a0_2) := (blk_cell BK14.out 2).trans rfl
    have hfqz_2 := blk_frozen BK14.out 2
    have hcqz_3 : w14.cell? ⟨g1, 3, none⟩ = some (.int .u32 a0_3) := (blk_cell BK14.out 3).trans rfl
    have hfqz_3 := blk_frozen BK14.out 3
    have hcqz_4 : w14.cell? ⟨g1, 4, none⟩ = some (.int .i64 a0_4) := (blk_cell BK14.out 4).trans rfl
    have hfqz_4 := blk_frozen BK14.out 4
    have hcqz_5 : w14.cell? ⟨g1, 5, none⟩ = some (.bool a0_5) := (blk_cell BK14.out 5).trans rfl
    have hfqz_5 := blk_frozen BK14.out 5
    have hcqz_6 : w14.cell? ⟨g1, 6, none⟩ = some (.bool a0_6) := (blk_cell BK14.out 6).trans rfl
    have hfqz_6 := blk_frozen BK14.out 6
    have hcqz_7 : w14.cell? ⟨g1, 7, none⟩ = some (.int .u32 a0_7) := (blk_cell BK14.out 7).trans rfl
    have hfqz_7 := blk_frozen BK14.out 7
    have hcqz_8 : w14.cell? ⟨g1, 8, none⟩ = some (.bool a0_8) := (blk_cell BK14.out 8).trans rfl
    have hfqz_8 := blk_frozen BK14.out 8
    have hcqz_9 : w14.cell? ⟨g1, 9, none⟩ = some (.bool a0_9) := (blk_cell BK14.out 9).trans rfl
    have hfqz_9 := blk_frozen BK14.out 9
    have H3 := Aside0.mk h3
    have HBZ := Aside0.mk ST14.out.hb
    clear h2 h3
    go_wp2_with (fail)
    go_ret2
    exact ⟨_, rfl, by rw [← HR.out]; exact Kd.S_mono H3.out (fun _ _ => trivial), HBZ.out⟩

end Go.Proofs.Ytnjimecjpnjojaa.Print
