-- laid by this session's own program (wip/mkprint.sh) for this claim
import Derived.Test.Ytnjimecjpnjojaa0
import Derived.Test.YtnjimecjpnjojaaF67
namespace Go.Proofs.Ytnjimecjpnjojaa.Print
open Go.RowKit Go.Proofs.YtnjimecjpnjojaaW.PrintWords Go.Proofs.YtnjimecjpnjojaaW.PrintLast Go.Proofs.YtnjimecjpnjojaaW.PrintMore
attribute [local go_sem] max2_int min2_int max_two min_two max_three min_three max_four min_four   -- for this text's walks alone
set_option linter.unusedVariables false
set_option linter.unusedSimpArgs false

/-! ### pcap_numbers: function 49 -/
/-- Numbers of bytes, from a place on: the function value, and the three variables that it holds (the bytes, the place, the order). -/
structure pcap_numbers.Inv (W : World) (base : Nat) (A : Option Addr) (n c : Nat) (big : Bool) (at_ : Int) (gb ga gg : Nat) : Prop where
  hb : W.heap[gb]? = some (.cells #[.slice A n c] 28 (0, 0))
  ha : W.heap[ga]? = some (.cells #[.int .i64 at_] 3 (0, 0))
  hg : W.heap[gg]? = some (.cells #[.bool big] 4 (0, 0))
  lb : base ≤ gb
  la : base ≤ ga
  lg : base ≤ gg
theorem pcap_numbers.Inv.keep {W W1 : World} {base : Nat} {A : Option Addr} {n c : Nat} {big : Bool} {at_ : Int} {gb ga gg : Nat} (h : pcap_numbers.Inv W base A n c big at_ gb ga gg) {g : Nat} (hk : KeepBut W W1 g none) (h1 : gb ≠ g) (h2 : ga ≠ g) (h3 : gg ≠ g) : pcap_numbers.Inv W1 base A n c big at_ gb ga gg :=
  ⟨hk.blk h.hb h1 (by simp), hk.blk h.ha h2 (by simp), hk.blk h.hg h3 (by simp), h.lb, h.la, h.lg⟩
theorem pcap_numbers.Inv.below {W W1 : World} {base : Nat} {A : Option Addr} {n c : Nat} {big : Bool} {at_ : Int} {gb ga gg : Nat} (h : pcap_numbers.Inv W base A n c big at_ gb ga gg) (hb : Below W.heap.size W W1) : pcap_numbers.Inv W1 base A n c big at_ gb ga gg :=
  ⟨blk_below h.hb hb, blk_below h.ha hb, blk_below h.hg hb, h.lb, h.la, h.lg⟩
/-- A store into a block of another type. -/
theorem pcap_numbers.Inv.far {W : World} {base : Nat} {A : Option Addr} {n c : Nat} {big : Bool} {at_ : Int} {gb ga gg : Nat} (h : pcap_numbers.Inv W base A n c big at_ gb ga gg) {p : Addr} (h1 : gb ≠ p.block) (h2 : ga ≠ p.block) (h3 : gg ≠ p.block) (u : Value) : pcap_numbers.Inv (W.setCell p u) base A n c big at_ gb ga gg :=
  ⟨blk_far h.hb h1 u, blk_far h.ha h2 u, blk_far h.hg h3 u, h.lb, h.la, h.lg⟩
theorem pcap_numbers.Inv.lower {W : World} {base base' : Nat} {A : Option Addr} {n c : Nat} {big : Bool} {at_ : Int} {gb ga gg : Nat} (h : pcap_numbers.Inv W base A n c big at_ gb ga gg) (hb : base' ≤ base) : pcap_numbers.Inv W base' A n c big at_ gb ga gg :=
  ⟨h.hb, h.ha, h.hg, Nat.le_trans hb h.lb, Nat.le_trans hb h.la, Nat.le_trans hb h.lg⟩
/-- The place goes on. -/
theorem pcap_numbers.Inv.go {W : World} {base : Nat} {A : Option Addr} {n c : Nat} {big : Bool} {at_ at' : Int} {gb ga gg : Nat} (h : pcap_numbers.Inv W base A n c big at_ gb ga gg) (nd : Nat) :
    pcap_numbers.Inv ((W.drewN nd).setCell ⟨ga, 0, none⟩ (.int .i64 at')) base A n c big at' gb ga gg ∧ KeepBut W ((W.drewN nd).setCell ⟨ga, 0, none⟩ (.int .i64 at')) ga none ∧ (∀ w0 : World, Below w0.heap.size w0 W → w0.heap.size ≤ ga → Below w0.heap.size w0 ((W.drewN nd).setCell ⟨ga, 0, none⟩ (.int .i64 at'))) := by
  have n1 : gb ≠ ga := blk_ne h.hb h.ha (by decide)
  have n3 : gg ≠ ga := blk_ne h.hg h.ha (by decide)
  refine ⟨⟨blk_far (p := ⟨ga, 0, none⟩) (blk_drewN h.hb nd) n1 _, blk_put (blk_drewN h.ha nd) 0 _ rfl, blk_far (p := ⟨ga, 0, none⟩) (blk_drewN h.hg nd) n3 _, h.lb, h.la, h.lg⟩, ?_, fun w0 hb hl => below_set (pw_below_drewN hb nd) hl⟩
  exact (KeepBut.of_below (pw_below_drewN (Below.refl _ _) nd) ga none).set_ 0 _
set_option maxHeartbeats 8000000 in
set_option maxRecDepth 100000 in
theorem pcap_numbers.calls (A : Option Addr) (n c : Nat) (big : Bool) (w : World) :
    Calls Try.prog 49 #[.slice A n c, .bool big] w fun e w' => ∃ gb ga gg, e = .returned (.func (.func 66) #[] #[.pointer (some ⟨gb, 0, none⟩), .pointer (some ⟨ga, 0, none⟩), .pointer (some ⟨gg, 0, none⟩)]) ∧ pcap_numbers.Inv w' w.heap.size A n c big 0 gb ga gg ∧ Below w.heap.size w w' := by
  go_enter Try.func49, Try.ntmps49
  go_wp2
  go_ret
  refine ⟨w.heap.size, w.heap.size + 1 + 1, w.heap.size + 1, rfl, ⟨blk_alloc (blk_alloc (blk_new w _) _) _, ?_, ?_, by omega, by omega, by omega⟩, below_alloc (below_alloc (below_alloc (Below.refl _ _) _) _) _⟩
  · have h := blk_new ((w.alloc (.cells #[.slice A n c] 28)).alloc (.cells #[.bool big] 4)) (.cells #[.int .i64 0] 3)
    simpa using h
  · refine blk_alloc ?_ _
    have h := blk_new (w.alloc (.cells #[.slice A n c] 28)) (.cells #[.bool big] 4)
    simpa using h
/-- What the function value is called with, comes to. -/
def pcap_numbers.num (k : Nat) (l : List Int) (big : Bool) (at_ size : Int) : Option Int := (octet_Get.f k ((l.take (at_ + size).toNat).drop at_.toNat) big).bind fun t => some (t.1 % 4294967296)
set_option maxHeartbeats 8000000 in
set_option maxRecDepth 100000 in
theorem pcap_numbers.next (k : Nat) (A : Option Addr) (l : List Int) (c : Nat) (big : Bool) (at_ size : Int) (r : Int) (base gb ga gg : Nat) (W : World) (hI : pcap_numbers.Inv W base A l.length c big at_ gb ga gg) (hC : Kd.C (Kd.int .u8) W A l.length l) (hc : l.length ≤ c) (h0 : 0 ≤ at_) (h1 : 0 ≤ size) (h2 : at_ + size ≤ l.length) (h : pcap_numbers.num k l big at_ size = some r) :
    Calls Try.prog 66 #[.int .i64 size, .pointer (some ⟨gb, 0, none⟩), .pointer (some ⟨ga, 0, none⟩), .pointer (some ⟨gg, 0, none⟩)] W fun e w' => e = .returned (.int .u32 r) ∧ pcap_numbers.Inv w' base A l.length c big (at_ + size) gb ga gg ∧ KeepBut W w' ga none ∧ (∀ w0 : World, Below w0.heap.size w0 W → w0.heap.size ≤ ga → Below w0.heap.size w0 w') := by
  obtain ⟨⟨t1, t2⟩, hg, hr⟩ := Option.bind_eq_some_iff.1 h
  have hr' : t1 % 4294967296 = r := Option.some.inj hr
  have hm := hC.2.1
  have hc1 : W.cell? ⟨gb, 0, none⟩ = some (.slice A l.length c) := (blk_cell hI.hb 0).trans rfl
  have hc2 : W.cell? ⟨ga, 0, none⟩ = some (.int .i64 at_) := (blk_cell hI.ha 0).trans rfl
  have hc3 : W.cell? ⟨gg, 0, none⟩ = some (.bool big) := (blk_cell hI.hg 0).trans rfl
  have hf2 : W.frozen? ⟨ga, 0, none⟩ = false := blk_frozen hI.ha 0
  obtain ⟨i0, hi0, _, hsz, _⟩ := info_parts info5
  obtain ⟨A8, hcut, hA8, hC8⟩ := print_mid_of (P := Try.prog) (Value.int .u8) 0 28 5 .i64 .i64 Try.underlying28 hi0 hsz A c l at_ (at_ + size) h0 (by omega) h2 hc
  have HR := Aside0.mk (Kd.C_of_reads (h1 := fun _ => rfl) (hA8 _ (Kd.reads_of_C hC)))
  have HC := Aside0.mk hC8
  have HG := Aside0.mk hg
  have HE := Aside0.mk hr'
  have HI := Aside0.mk hI
  have hlen : ((l.take (at_ + size).toNat).drop at_.toNat).length = (at_ + size).toNat - at_.toNat := by
    rw [List.length_drop, List.length_take]
    omega
  have HCAL : Aside0 (∀ a : Nat, Calls Try.prog 67 #[.slice A8 ((at_ + size).toNat - at_.toNat) (c - at_.toNat), .bool big] (W.drewN a) fun e w' => e = .returned (.tuple #[.int .u64 t1, .bool t2]) ∧ ∃ m, w' = W.drewN m) := ⟨fun a => by
    rw [← hlen]
    exact Calls.quiet_of ((octet_Get.calls k _ _ ((l.take (at_ + size).toNat).drop at_.toNat) big t1 t2 _ (Kd.C_drewN HR.out a) HC.out HG.out).mono fun _ _ h => ⟨h.1, h.2.out⟩)⟩
  have hw : IntKind.i64.wrap (at_ + size) = at_ + size := IntWalk.i64_in _ (by omega)
  clear hI hC hc h hr hr' hg hA8 hC8 hi0 hsz hlen
  go_enter Try.func66, Try.ntmps66
  go_wp2
  go_quiet ((go_at_call 67; exact HCAL.out _))
  go_wp2
  go_ret
  refine ⟨by rw [← HE.out]; rfl, HI.out.go nq⟩
theorem pcap_numbers.mono (l : List Int) (big : Bool) (at_ size : Int) (k : Nat) : LeO (pcap_numbers.num k l big at_ size) (pcap_numbers.num (k + 1) l big at_ size) :=
  LeO.bind (octet_Get.mono _ _ k) (fun _ => LeO.refl _)
theorem pcap_numbers.range {k : Nat} {l : List Int} {big : Bool} {at_ size r : Int} (h : pcap_numbers.num k l big at_ size = some r) : 0 ≤ r ∧ r < 4294967296 := by
  obtain ⟨t, _, hr⟩ := Option.bind_eq_some_iff.1 h
  have := Option.some.inj hr
  omega

end Go.Proofs.Ytnjimecjpnjojaa.Print
