-- laid by this session's own program (wip/tools/mkrow.py) for this claim
import Derived.Test.YtnjimecjpnjojaaRows
import Derived.Test.YtnjimecjpnjojaaF13
import Derived.Test.YtnjimecjpnjojaaQAllTermsBack
import Derived.Test.YtnjimecjpnjojaaPureTermsBack
import Derived.WalkKit
import Derived.ProofKit
import Derived.OpenShut
import Derived.ShutString
import Derived.ChangeOld
import Derived.Below
import Derived.SizedLaws
import Derived.Carry
namespace Go.Proofs.Ytnjimecjpnjojaa.termsBack
open Go.ChangeShapes Go.WideShapes Go.ChangeAt Go.RowKit Go.Proofs.YtnjimecjpnjojaaW.PrintWords
open Go.ChangeMaps (open_string shut_string)
set_option linter.unusedVariables false
theorem own : ownKnob Try.prog.godebug = none := by kernel_rfl
theorem laidOut : laidOutB Try.prog = true := by kernel_rfl
theorem opens4 : Q.Opens Try.prog 4 Kd.bool (fun _ : Bool => True) := Q.Opens.bool Try.underlying4
theorem opens22 : Q.Opens Try.prog 22 (Kd.int .u32) (fun a : Int => (Lit.int .u32 a).wf = true) := Q.Opens.int Try.underlying22
theorem opens3 : Q.Opens Try.prog 3 (Kd.int .i64) (fun a : Int => (Lit.int .i64 a).wf = true) := Q.Opens.int Try.underlying3
theorem opens61 : Q.Opens Try.prog 61 Print.k61 (fun x : Print.S61 => (fun _ : Bool => True) x.f0 ∧ (fun a : Int => (Lit.int .i64 a).wf = true) x.f1 ∧ (fun _ : Bool => True) x.f2 ∧ (fun a : Int => (Lit.int .u32 a).wf = true) x.f3 ∧ (fun a : Int => (Lit.int .i64 a).wf = true) x.f4 ∧ (fun _ : Bool => True) x.f5 ∧ (fun _ : Bool => True) x.f6 ∧ (fun a : Int => (Lit.int .u32 a).wf = true) x.f7 ∧ (fun _ : Bool => True) x.f8 ∧ (fun _ : Bool => True) x.f9) := Q.Opens.imp (Q.Opens.iso (fun x : Print.S61 => (x.f0, x.f1, x.f2, x.f3, x.f4, x.f5, x.f6, x.f7, x.f8, x.f9)) (fun a => ⟨a.1, a.2.1, a.2.2.1, a.2.2.2.1, a.2.2.2.2.1, a.2.2.2.2.2.1, a.2.2.2.2.2.2.1, a.2.2.2.2.2.2.2.1, a.2.2.2.2.2.2.2.2.1, a.2.2.2.2.2.2.2.2.2⟩) (fun _ => rfl) (Q.Opens.struct Try.underlying61 (by kernel_rfl) (Q.OpensAll.more rfl (by kernel_rfl) opens4 (Q.OpensAll.more rfl (by kernel_rfl) opens3 (Q.OpensAll.more rfl (by kernel_rfl) opens4 (Q.OpensAll.more rfl (by kernel_rfl) opens22 (Q.OpensAll.more rfl (by kernel_rfl) opens3 (Q.OpensAll.more rfl (by kernel_rfl) opens4 (Q.OpensAll.more rfl (by kernel_rfl) opens4 (Q.OpensAll.more rfl (by kernel_rfl) opens22 (Q.OpensAll.more rfl (by kernel_rfl) opens4 (Q.OpensAll.one rfl (by kernel_rfl) opens4)))))))))))) (fun _ h => h)
theorem opens5 : Q.Opens Try.prog 5 (Kd.int .u8) (fun a : Int => (Lit.int .u8 a).wf = true) := Q.Opens.int Try.underlying5
theorem opens28 : Q.Opens Try.prog 28 (Kd.slice 5 (Kd.int .u8)) (fun l : List Int => l.length * 1 ≤ 140737488351232 ∧ ∀ a ∈ l, (fun a : Int => (Lit.int .u8 a).wf = true) a) := Q.Opens.slice Try.underlying28 (by kernel_rfl) (by kernel_rfl) opens5
theorem opens55 : Q.Opens Try.prog 55 Print.k55 (fun x : Print.S55 => (fun a : Int => (Lit.int .i64 a).wf = true) x.f0 ∧ (fun l : List Int => l.length * 1 ≤ 140737488351232 ∧ ∀ a ∈ l, (fun a : Int => (Lit.int .u8 a).wf = true) a) x.f1) := Q.Opens.imp (Q.Opens.iso (fun x : Print.S55 => (x.f0, x.f1)) (fun a => ⟨a.1, a.2⟩) (fun _ => rfl) (Q.Opens.struct Try.underlying55 (by kernel_rfl) (Q.OpensAll.more rfl (by kernel_rfl) opens3 (Q.OpensAll.one rfl (by kernel_rfl) opens28)))) (fun _ h => h)
theorem opens58 : Q.Opens Try.prog 58 (Kd.slice 55 Print.k55) (fun l : List Print.S55 => l.length * 32 ≤ 140737488351232 ∧ ∀ a ∈ l, (fun x : Print.S55 => (fun a : Int => (Lit.int .i64 a).wf = true) x.f0 ∧ (fun l : List Int => l.length * 1 ≤ 140737488351232 ∧ ∀ a ∈ l, (fun a : Int => (Lit.int .u8 a).wf = true) a) x.f1) a) := Q.Opens.slice Try.underlying58 (by kernel_rfl) (by kernel_rfl) opens55
set_option maxRecDepth 100000 in
theorem lifted (os : Os) (started : os.Started) (H : Type) (enc : TypeId × Value → H) :
    ReturnsInHanded {} Try.checked os 13 .any (Rows.termsBackSpec.pre6 enc Try.prog Try.f13 Rows.termsBackRow.domain false) (Rows.termsBackSpec.post enc Try.prog Try.f13 false true false false) := by
  refine returnsInHanded_of_change_sized (C := Try.checked) own started (by kernel_rfl) Try.func13
    (ChangeSpec.witness6 (enc := enc) (C := Try.checked) false ⟨#[], #[.agg #[.bool false, .int .i64 0, .bool false, .int .u32 0, .int .i64 0, .bool false, .bool false, .int .u32 0, .bool false, .bool false], .slice none 0 0], []⟩ 8 (by kernel_rfl) (by kernel_rfl) (by kernel_rfl) (by kernel_rfl)) ?_
  intro W base args ds gs before hval0 hW hcnd hsz0 _
  have hsz : (DataW.weightsEach Try.prog (Try.f13.params.toList ++ Rows.termsBackSpec.plain.varTypes Try.prog) (ds ++ gs)).all (· ≤ reachBytes) = true := hsz0
  have hval : ∀ (j : Nat) t v, Try.f13.params[j]? = some t → args[j]? = some v → Value.okWide Try.prog W .any base t v := hval0
  have hW' := hW
  obtain ⟨p, q, hA0, hV, rfl, hfz, hnd⟩ := hW
  have hA : DataW.TrodAll enc Try.prog W 0 (fun _ => true) true Try.f13.params.toList args.toList ds p := hA0
  rw [Try.params13] at hA hval hsz
  obtain ⟨v0, vs0, d0, ds0, p0, q0, hargs, rfl, rfl, h0, r0⟩ := trodAll_cons hA
  obtain ⟨v1, vs1, d1, ds1, p1, q1, rfl, rfl, rfl, h1, r1⟩ := trodAll_cons r0
  obtain ⟨rfl, rfl, rfl⟩ := trodAll_nil r1
  obtain rfl : args = #[v0, v1] := by cases args; simp_all
  obtain ⟨rfl, rfl⟩ := trodVars_none hV
  obtain ⟨cs0, rfl, hcs0⟩ := okWide_struct Try.underlying61 (hval 0 61 v0 rfl rfl)
  have k0 := h0
  have lt0 : ∀ x ∈ p0, x.block < W.heap.size := by obtain ⟨m, hm⟩ := k0; exact DataW.trod_lt m _ _ _ hm
  obtain ⟨a0, hK0, w0⟩ : ∃ a : Print.S61, Print.k61.K W a cs0.toList ∧ (fun x : Print.S61 => (fun _ : Bool => True) x.f0 ∧ (fun a : Int => (Lit.int .i64 a).wf = true) x.f1 ∧ (fun _ : Bool => True) x.f2 ∧ (fun a : Int => (Lit.int .u32 a).wf = true) x.f3 ∧ (fun a : Int => (Lit.int .i64 a).wf = true) x.f4 ∧ (fun _ : Bool => True) x.f5 ∧ (fun _ : Bool => True) x.f6 ∧ (fun a : Int => (Lit.int .u32 a).wf = true) x.f7 ∧ (fun _ : Bool => True) x.f8 ∧ (fun _ : Bool => True) x.f9) a := by
    obtain ⟨fuel, hf⟩ := h0
    exact opens61 H enc W 0 true fuel _ _ hf (List.all_eq_true.2 fun n hn => List.all_eq_true.1 hsz n (DataW.weights_mem_each (j := 0) rfl rfl n hn))
  obtain rfl : cs0 = #[.bool a0.f0, .int .i64 a0.f1, .bool a0.f2, .int .u32 a0.f3, .int .i64 a0.f4, .bool a0.f5, .bool a0.f6, .int .u32 a0.f7, .bool a0.f8, .bool a0.f9] := by
    have hh := Print.k61_open hK0
    cases cs0
    simpa using hh
  obtain ⟨a1, len1, cap1, rfl⟩ := okWide_slice Try.underlying58 (hval 1 58 v1 rfl rfl)
  have k1 := h1
  have lt1 : ∀ x ∈ p1, x.block < W.heap.size := by obtain ⟨m, hm⟩ := k1; exact DataW.trod_lt m _ _ _ hm
  obtain ⟨l1, e1, hc1, hr1, w1⟩ : ∃ l : List Print.S55, len1 = l.length ∧ l.length ≤ cap1 ∧ Kd.C Print.k55 W a1 l.length l ∧ (fun l : List Print.S55 => l.length * 32 ≤ 140737488351232 ∧ ∀ a ∈ l, (fun x : Print.S55 => (fun a : Int => (Lit.int .i64 a).wf = true) x.f0 ∧ (fun l : List Int => l.length * 1 ≤ 140737488351232 ∧ ∀ a ∈ l, (fun a : Int => (Lit.int .u8 a).wf = true) a) x.f1) a) l := by
    obtain ⟨fuel, hf⟩ := h1
    obtain ⟨l, ⟨A, c, hcs, hl, hC⟩, hw⟩ := opens58 H enc W 0 true fuel _ _ hf (List.all_eq_true.2 fun n hn => List.all_eq_true.1 hsz n (DataW.weights_mem_each (j := 1) rfl rfl n hn))
    simp [Value.cells] at hcs
    obtain ⟨rfl, rfl, rfl⟩ := hcs
    exact ⟨l, rfl, hl, hC, hw⟩
  subst e1
  clear hA0 hval0 hsz0 hsz
  obtain ⟨k, hk⟩ := Pure.TermsBack a0 l1 w0 w1
  refine (Print.umpirelaw14_TermsBack.calls k a0.f0 a0.f1 a0.f2 a0.f3 a0.f4 a0.f5 a0.f6 a0.f7 a0.f8 a0.f9 (fun k_ => k_ < W.heap.size) _ _ l1 true W (Kd.V_mk hc1 (Kd.C_F (Kd.heap_iso _ (Kd.heap_pair (Kd.heap_int .i64) (Kd.heap_slice 5 (Kd.heap_int .u8)))) hr1)) hk).mono fun e W' ⟨he, bel⟩ => ?_
  subst he
  exact ⟨_, rfl, _, _, _, [], _, [], hW', trodAll_mk1 (shut_bool Try.underlying4 _), (trodAll_cons_mk (Below.trod laidOut (by kernel_rfl) (of_decide_eq_true (by kernel_rfl)) k0 bel lt0) (trodAll_cons_mk (Below.trod laidOut (by kernel_rfl) (of_decide_eq_true (by kernel_rfl)) k1 bel lt1) trodAll_mk0)), rfl, bel.frame _, fun h => by cases h⟩
theorem over : Rows.termsBackRow.holds Try.pinned (OpenSpec.ofChange Rows.termsBackSpec) :=
  OpenClaim.holds_of_wide 13 Try.f13 rfl rfl rfl rfl rfl rfl rfl ⟨rfl, rfl, rfl, rfl, rfl⟩ rfl rfl rfl rfl rfl (by kernel_rfl) Try.func13 (by kernel_rfl)
    (of_decide_eq_true (by kernel_rfl)) (by unfold Func.isWrapper; first | (rw [if_pos (by decide +kernel)]; kernel_rfl) | (rw [if_neg (by decide +kernel)]; exact ⟨rfl, rfl⟩))
    (fun os started H enc _ => lifted os started H enc)
theorem proved : Rows.TermsBackSaid := over
#print axioms proved
end Go.Proofs.Ytnjimecjpnjojaa.termsBack
namespace Go.Proofs.Ytnjimecjpnjojaa
/-- The row, under a short name, for the claim. -/
theorem termsBack_holds : Rows.TermsBackSaid := termsBack.proved
end Go.Proofs.Ytnjimecjpnjojaa
