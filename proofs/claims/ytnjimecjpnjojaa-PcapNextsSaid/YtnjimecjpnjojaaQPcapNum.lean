/- Numbers of a capture, as the program and the reference read them. -/
import Derived.Test.YtnjimecjpnjojaaQOctet
import Derived.Test.YtnjimecjpnjojaaQRefGet
import Derived.Test.YtnjimecjpnjojaaF49
import Derived.Test.YtnjimecjpnjojaaF51
namespace Go.Proofs.Ytnjimecjpnjojaa.Q
open Go.RowKit Go.Proofs.Ytnjimecjpnjojaa.Print Go.Proofs.YtnjimecjpnjojaaW.PrintWords Go.Proofs.YtnjimecjpnjojaaW.PrintLast Go.Proofs.YtnjimecjpnjojaaW.PrintMore
set_option linter.unusedVariables false
/-- So many bytes at a place, as a number. -/
def numv (l : List Int) (a n : Nat) (big : Bool) : Int := getv ((l.take (a + n)).drop a) big
theorem num_len (l : List Int) (a n : Nat) (h : a + n ≤ l.length) : ((l.take (a + n)).drop a).length = n := by
  rw [List.length_drop, List.length_take]; omega
theorem numv_range (l : List Int) (hb : Bytes l) (a n : Nat) (big : Bool) (hn : n ≤ 4) (h : a + n ≤ l.length) : 0 ≤ numv l a n big ∧ numv l a n big < 4294967296 := by
  have h1 := getv_range ((l.take (a + n)).drop a) big ((hb.take _).drop _)
  rw [num_len l a n h] at h1
  have h2 : (256 : Int) ^ n ≤ 256 ^ 4 := pow256_le hn
  have h3 : (256 : Int) ^ 4 = 4294967296 := by decide
  rw [h3] at h2
  exact ⟨h1.1, Int.lt_of_lt_of_le h1.2 h2⟩
theorem num_spec (l : List Int) (hb : Bytes l) (a n : Nat) (big : Bool) (h1 : 1 ≤ n) (hn : n ≤ 4) (h : a + n ≤ l.length) : Ev (fun k => pcap_numbers.num k l big (a : Int) (n : Int)) (numv l a n big) := by
  have hr := numv_range l hb a n big hn h
  have hl := num_len l a n h
  have e1 : ((a : Int) + (n : Int)).toNat = a + n := by omega
  have e2 : ((a : Int)).toNat = a := by omega
  have hg := get_spec ((l.take (a + n)).drop a) ((hb.take _).drop _) big
  rw [if_pos (by rw [hl]; omega)] at hg
  unfold pcap_numbers.num
  rw [e1, e2]
  refine Ev.bind hg ?_
  refine Ev.const ?_
  show some (numv l a n big % 4294967296) = _
  rw [Int.emod_eq_of_lt hr.1 hr.2]
theorem rnum_spec (l : List Int) (hb : Bytes l) (a : Nat) (big : Bool) (hm : l.length ≤ 4611686018427387904) (h : a + 4 ≤ l.length) : Ev (fun k => umpireref09_num.f k l (a : Int) big) (numv l a 4 big) := by
  have hr := numv_range l hb a 4 big (by omega) h
  have hl := num_len l a 4 h
  have e0 : wrap64 ((a : Int) + 4) = (a : Int) + 4 := w64 (by omega) (by omega)
  have e1 : ((a : Int) + 4).toNat = a + 4 := by omega
  have e2 : ((a : Int)).toNat = a := by omega
  have hg := rget_spec ((l.take (a + 4)).drop a) ((hb.take _).drop _) (by rw [hl]; omega) big
  have hf : ∀ k, umpireref09_num.f k l (a : Int) big = (umpireref02_Get.f k ((l.take (a + 4)).drop a) big).bind fun t => some (t % 4294967296) := by
    intro k
    unfold umpireref09_num.f
    rw [e0, if_pos (by omega), if_pos (by omega), if_pos (by omega), e1, e2]
  refine Ev.congr hf ?_
  refine Ev.bind hg ?_
  refine Ev.const ?_
  show some (numv l a 4 big % 4294967296) = _
  rw [Int.emod_eq_of_lt hr.1 hr.2]
end Go.Proofs.Ytnjimecjpnjojaa.Q
