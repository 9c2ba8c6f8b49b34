-- laid by this session's own program (wip/tools/mkrow.py) for this claim
import Derived.Test.YtgnonglkibhnhaaDoorQOpen
import Derived.Test.YtgnonglkibhnhaaDoorPureCaptureWrites
import Derived.Test.YtgnonglkibhnhaaDoorCards
import Derived.Test.YtgnonglkibhnhaaDoorTie
import Derived.Test.YtgnonglkibhnhaaDoorQLaidDump
import Derived.ShutString
namespace Go.Proofs.YtgnonglkibhnhaaDoor.captureWrites
open Go.ChangeShapes Go.WideShapes Go.ChangeAt Go.RowKit Go.Proofs.YtgnonglkibhnhaaDoorW.PrintWords
open Go.ChangeMaps (open_string shut_string)
set_option linter.unusedVariables false
theorem own : ownKnob Tryd.prog.godebug = none := by kernel_rfl
theorem laidOut : laidOutB Tryd.prog = true := by kernel_rfl
theorem e1z : Q.Opens Tryd.prog 5 (Kd.int .u8) (fun a : Int => (Lit.int .u8 a).wf = true) := Q.Opens.int Tryd.underlying5
theorem d6g : Q.Opens Tryd.prog 22 (Kd.slice 5 (Kd.int .u8)) (fun l : List Int => l.length * 1 ≤ 140737488351232 ∧ ∀ a ∈ l, (fun a : Int => (Lit.int .u8 a).wf = true) a) := Q.Opens.slice Tryd.underlying22 (by kernel_rfl) (by kernel_rfl) e1z
theorem b09 : Q.Opens Tryd.prog 3 (Kd.int .i64) (fun a : Int => (Lit.int .i64 a).wf = true) := Q.Opens.int Tryd.underlying3
theorem d6h : Q.Opens Tryd.prog 42 Print.k42 (fun x : Print.S42 => (fun a : Int => (Lit.int .i64 a).wf = true) x.f0 ∧ (fun a : Int => (Lit.int .i64 a).wf = true) x.f1 ∧ (fun l : List Int => l.length * 1 ≤ 140737488351232 ∧ ∀ a ∈ l, (fun a : Int => (Lit.int .u8 a).wf = true) a) x.f2) := Q.Opens.imp (Q.Opens.iso (fun x : Print.S42 => (x.f0, x.f1, x.f2)) (fun a => ⟨a.1, a.2.1, a.2.2⟩) (fun _ => rfl) (Q.Opens.struct Tryd.underlying42 (by kernel_rfl) (Q.a1E.more rfl (by kernel_rfl) b09 (Q.a1E.more rfl (by kernel_rfl) b09 (Q.a1E.one rfl (by kernel_rfl) d6g))))) (fun _ h => h)
theorem d6j : Q.Opens Tryd.prog 27 (Kd.slice 42 Print.k42) (fun l : List Print.S42 => l.length * 40 ≤ 140737488351232 ∧ ∀ a ∈ l, (fun x : Print.S42 => (fun a : Int => (Lit.int .i64 a).wf = true) x.f0 ∧ (fun a : Int => (Lit.int .i64 a).wf = true) x.f1 ∧ (fun l : List Int => l.length * 1 ≤ 140737488351232 ∧ ∀ a ∈ l, (fun a : Int => (Lit.int .u8 a).wf = true) a) x.f2) a) := Q.Opens.slice Tryd.underlying27 (by kernel_rfl) (by kernel_rfl) d6h
theorem e1A : Q.Opens Tryd.prog 4 Kd.bool (fun _ : Bool => True) := Q.Opens.bool Tryd.underlying4
theorem d6k : Q.Opens Tryd.prog 23 (Kd.int .u32) (fun a : Int => (Lit.int .u32 a).wf = true) := Q.Opens.int Tryd.underlying23
theorem c94 : Q.Opens Tryd.prog 9 Kd.string (fun s : ByteArray => s.size ≤ 140737488351232) := Q.Opens.string Tryd.underlying9
theorem d6l : Q.Opens Tryd.prog 25 Print.k25 (fun x : Print.S25 => (fun a : Int => (Lit.int .i64 a).wf = true) x.f0 ∧ (fun a : Int => (Lit.int .i64 a).wf = true) x.f1 ∧ (fun a : Int => (Lit.int .i64 a).wf = true) x.f2 ∧ (fun a : Int => (Lit.int .i64 a).wf = true) x.f3 ∧ (fun s : ByteArray => s.size ≤ 140737488351232) x.f4 ∧ (fun s : ByteArray => s.size ≤ 140737488351232) x.f5 ∧ (fun a : Int => (Lit.int .i64 a).wf = true) x.f6 ∧ (fun a : Int => (Lit.int .u32 a).wf = true) x.f7 ∧ (fun _ : Bool => True) x.f8) := Q.Opens.imp (Q.Opens.iso (fun x : Print.S25 => (x.f0, x.f1, x.f2, x.f3, x.f4, x.f5, x.f6, x.f7, x.f8)) (fun a => ⟨a.1, a.2.1, a.2.2.1, a.2.2.2.1, a.2.2.2.2.1, a.2.2.2.2.2.1, a.2.2.2.2.2.2.1, a.2.2.2.2.2.2.2.1, a.2.2.2.2.2.2.2.2⟩) (fun _ => rfl) (Q.Opens.struct Tryd.underlying25 (by kernel_rfl) (Q.a1E.more rfl (by kernel_rfl) b09 (Q.a1E.more rfl (by kernel_rfl) b09 (Q.a1E.more rfl (by kernel_rfl) b09 (Q.a1E.more rfl (by kernel_rfl) b09 (Q.a1E.more rfl (by kernel_rfl) c94 (Q.a1E.more rfl (by kernel_rfl) c94 (Q.a1E.more rfl (by kernel_rfl) b09 (Q.a1E.more rfl (by kernel_rfl) d6k (Q.a1E.one rfl (by kernel_rfl) e1A))))))))))) (fun _ h => h)
set_option maxRecDepth 100000 in
theorem lifted (os : Os) (started : os.Started) (H : Type) (enc : TypeId × Value → H) :
    ReturnsInHanded {} Tryd.checked os 4 .any (fun w args => (Rows.captureWritesSpec.pre enc Tryd.prog Tryd.f4 [] false w args ∧ laidMetH Tryd.prog Q.c0t w) ∧ sizedMet enc Tryd.prog Tryd.f4 (OpenSpec.ofChange Rows.captureWritesSpec) false w args) (Rows.captureWritesSpec.post enc Tryd.prog Tryd.f4 false true false false) := by
  refine returnsInHanded_of_change_and (C := Tryd.checked) (X := fun w _ => laidMetH Tryd.prog Q.c0t w) (fun _ _ _ hh h => h.of_heap hh) own started (by kernel_rfl) Tryd.func4
    (ChangeSpec.witness_shaped (enc := enc) (C := Tryd.checked) (os := os) (X := fun w _ => laidMetH Tryd.prog Q.c0t w) false (World.doorLaid Tryd.prog 400 os) #[.slice none 0 0, .int .i64 0, .agg #[.int .i64 0, .int .i64 0, .int .i64 0, .int .i64 0, .string ByteArray.empty, .string ByteArray.empty, .int .i64 0, .int .u32 0, .bool false]] 8 rfl (World.shaped_of_RefB (by kernel_rfl) (by kernel_rfl)) (by kernel_rfl) (by kernel_rfl) (by kernel_rfl) (Q.door_met os _)) ?_
  intro W base args ds gs before hval0 hW hcnd hsz0 hL _
  have hsz : (DataW.weightsEach Tryd.prog (Tryd.f4.params.toList ++ Rows.captureWritesSpec.plain.varTypes Tryd.prog) (ds ++ gs)).all (· ≤ reachBytes) = true := hsz0
  have hval : ∀ (j : Nat) t v, Tryd.f4.params[j]? = some t → args[j]? = some v → Value.okWide Tryd.prog W .any base t v := hval0
  have hW' := hW
  obtain ⟨p, q, hA0, hV, rfl, hfz, hnd⟩ := hW
  have hA : DataW.TrodAll enc Tryd.prog W 0 (fun _ => true) true Tryd.f4.params.toList args.toList ds p := hA0
  rw [Tryd.params4] at hA hval hsz
  obtain ⟨v0, vs0, d0, ds0, p0, q0, hargs, rfl, rfl, h0, r0⟩ := trodAll_cons hA
  obtain ⟨v1, vs1, d1, ds1, p1, q1, rfl, rfl, rfl, h1, r1⟩ := trodAll_cons r0
  obtain ⟨v2, vs2, d2, ds2, p2, q2, rfl, rfl, rfl, h2, r2⟩ := trodAll_cons r1
  obtain ⟨rfl, rfl, rfl⟩ := trodAll_nil r2
  obtain rfl : args = #[v0, v1, v2] := by cases args; simp_all
  obtain ⟨rfl, rfl⟩ := trodVars_none hV
  obtain ⟨a0, len0, cap0, rfl⟩ := okWide_slice Tryd.underlying27 (hval 0 27 v0 rfl rfl)
  have k0 := h0
  have lt0 : ∀ x ∈ p0, x.block < W.heap.size := by obtain ⟨m, hm⟩ := k0; exact DataW.trod_lt m _ _ _ hm
  obtain ⟨l0, e0, hc0, hr0, w0⟩ : ∃ l : List Print.S42, len0 = l.length ∧ l.length ≤ cap0 ∧ Kd.C Print.k42 W a0 l.length l ∧ (fun l : List Print.S42 => l.length * 40 ≤ 140737488351232 ∧ ∀ a ∈ l, (fun x : Print.S42 => (fun a : Int => (Lit.int .i64 a).wf = true) x.f0 ∧ (fun a : Int => (Lit.int .i64 a).wf = true) x.f1 ∧ (fun l : List Int => l.length * 1 ≤ 140737488351232 ∧ ∀ a ∈ l, (fun a : Int => (Lit.int .u8 a).wf = true) a) x.f2) a) l := by
    obtain ⟨fuel, hf⟩ := h0
    obtain ⟨l, ⟨A, c, hcs, hl, hC⟩, hw⟩ := d6j H enc W 0 true fuel _ _ hf (List.all_eq_true.2 fun n hn => List.all_eq_true.1 hsz n (DataW.weights_mem_each (j := 0) rfl rfl n hn))
    simp [Value.cells] at hcs
    obtain ⟨rfl, rfl, rfl⟩ := hcs
    exact ⟨l, rfl, hl, hC, hw⟩
  subst e0
  obtain ⟨a1, rfl, rfl, rfl, w1⟩ := open_int Tryd.underlying3 (hval 1 3 v1 rfl rfl) h1
  obtain ⟨cs2, rfl, hcs2⟩ := okWide_struct Tryd.underlying25 (hval 2 25 v2 rfl rfl)
  have k2 := h2
  have lt2 : ∀ x ∈ p2, x.block < W.heap.size := by obtain ⟨m, hm⟩ := k2; exact DataW.trod_lt m _ _ _ hm
  obtain ⟨a2, hK2, w2⟩ : ∃ a : Print.S25, Print.k25.K W a cs2.toList ∧ (fun x : Print.S25 => (fun a : Int => (Lit.int .i64 a).wf = true) x.f0 ∧ (fun a : Int => (Lit.int .i64 a).wf = true) x.f1 ∧ (fun a : Int => (Lit.int .i64 a).wf = true) x.f2 ∧ (fun a : Int => (Lit.int .i64 a).wf = true) x.f3 ∧ (fun s : ByteArray => s.size ≤ 140737488351232) x.f4 ∧ (fun s : ByteArray => s.size ≤ 140737488351232) x.f5 ∧ (fun a : Int => (Lit.int .i64 a).wf = true) x.f6 ∧ (fun a : Int => (Lit.int .u32 a).wf = true) x.f7 ∧ (fun _ : Bool => True) x.f8) a := by
    obtain ⟨fuel, hf⟩ := h2
    exact d6l H enc W 0 true fuel _ _ hf (List.all_eq_true.2 fun n hn => List.all_eq_true.1 hsz n (DataW.weights_mem_each (j := 2) rfl rfl n hn))
  obtain rfl : cs2 = #[.int .i64 a2.f0, .int .i64 a2.f1, .int .i64 a2.f2, .int .i64 a2.f3, .string a2.f4, .string a2.f5, .int .i64 a2.f6, .int .u32 a2.f7, .bool a2.f8] := by
    have hh := Print.c95 hK2
    cases cs2
    simpa using hh
  clear hA0 hval0 hsz0 hsz
  obtain ⟨k, hk⟩ := Pure.CaptureWrites l0 a1 a2 w0 w1 w2
  refine (Print.umpirelaw11_CaptureWrites.calls k _ _ l0 a1 a2.f0 a2.f1 a2.f2 a2.f3 a2.f4 a2.f5 a2.f6 a2.f7 a2.f8 true W (Q.c2A hL) hr0 hc0 hk).mono fun e W' ⟨he, bel⟩ => ?_
  subst he
  exact ⟨_, rfl, _, _, _, [], _, [], hW', trodAll_mk1 (shut_bool Tryd.underlying4 _), (trodAll_cons_mk (Below.trod laidOut (by kernel_rfl) (of_decide_eq_true (by kernel_rfl)) k0 bel lt0) (trodAll_cons_mk (shut_int Tryd.underlying3 w1) (trodAll_cons_mk (Below.trod laidOut (by kernel_rfl) (of_decide_eq_true (by kernel_rfl)) k2 bel lt2) trodAll_mk0))), rfl, bel.frame _, fun h => by cases h⟩
theorem over : Rows.captureWritesRow.holds Tryd.pinned (OpenSpec.ofChange Rows.captureWritesSpec) :=
  OpenClaim.holds_of_wide 4 Tryd.f4 rfl rfl rfl rfl rfl rfl rfl ⟨rfl, rfl, rfl, rfl, rfl⟩ rfl rfl rfl rfl rfl (by kernel_rfl) Tryd.func4 (by kernel_rfl)
    (of_decide_eq_true (by kernel_rfl)) (by unfold Func.isWrapper; first | (rw [if_pos (by decide +kernel)]; kernel_rfl) | (rw [if_neg (by decide +kernel)]; exact ⟨rfl, rfl⟩))
    (fun os started H enc _ => lifted os started H enc)
theorem proved : Rows.CaptureWritesSaid := over
#print axioms proved
end Go.Proofs.YtgnonglkibhnhaaDoor.captureWrites
namespace Go.Proofs.YtgnonglkibhnhaaDoor
/-- The row, under a short name, for the claim. -/
theorem captureWrites_holds : Rows.CaptureWritesSaid := captureWrites.proved
/-- The tied card, for the claim. -/
theorem captureWritesCard_holds : Rows.CaptureWritesCardSaid :=
  Claim7.holds_tied_plain_at .later [] [.data] true (true, "33b0d3a0549da558437d5c98b1262d9e7f143be7663bd9371ba56253cccf3e63") true
    captureWrites_holds (fun _ h => by cases h) (by kernel_rfl) (fun _ h => by cases h) captureWrites_row_tie rfl ⟨rfl, rfl⟩ (by kernel_rfl) rfl
    (fun f fn hf hfn => by
      obtain rfl : f = 4 := Option.some.inj ((show Tryd.prog.funcNamed "umpire/umpirelaw11.CaptureWrites" = some 4 by kernel_rfl).symm.trans hf) |>.symm
      obtain rfl : fn = Tryd.f4 := (Option.some.inj (Tryd.func4.symm.trans hfn)).symm
      exact ⟨by kernel_rfl, fun j t ht => by
        rw [Tryd.params4] at ht
        have hm : t ∈ [27, 3, 25] := by simpa using Array.mem_of_getElem? ht
        have hall : ([27, 3, 25].all fun u => !Tryd.prog.wantsStandIn u) = true := by kernel_rfl
        exact (show Tryd.prog.wantsStandIn t = false by simpa using List.all_eq_true.1 hall t hm)⟩)
    (by kernel_rfl)
#print axioms captureWritesCard_holds
end Go.Proofs.YtgnonglkibhnhaaDoor
