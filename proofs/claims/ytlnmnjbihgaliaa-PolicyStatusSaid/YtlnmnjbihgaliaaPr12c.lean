import Derived.Test.YtlnmnjbihgaliaaPr0
import Derived.Test.YtlnmnjbihgaliaaPr11
import Derived.Test.YtlnmnjbihgaliaaGKnown
import Derived.Test.YtlnmnjbihgaliaaGMay
import Derived.Test.YtlnmnjbihgaliaaPr12
import Derived.Test.YtlnmnjbihgaliaaPr12n
set_option linter.unusedVariables false
set_option linter.unusedSimpArgs false
-- Written by a printing program; not by hand.
namespace Go.Proofs.Ytlnmnjbihgaliaa.Pr
open Go.RowKit Go.Proofs.YtlnmnjbihgaliaaW.PrintWords Go.Proofs.YtlnmnjbihgaliaaW.PrintLast Go.Proofs.YtlnmnjbihgaliaaW.PrintMore
attribute [local go_sem] max2_int min2_int max_two min_two max_three min_three max_four min_four   -- for this text's walks alone

theorem ambrylaw17_PolicyStatus.calls (k : Nat) (a0 : Int) (a1 : Int) (r : Bool) (w : World) (hr : r = true) (h : ambrylaw17_PolicyStatus.f k a0 a1 = some r) :
    Calls Try.prog 5 #[.int .i64 a0, .int .u8 a1] w fun e w' => e = .returned (.bool r) ∧ Below w.heap.size w w' := by
  by_cases hs : (rdOf ByteArray.empty (([(⟨#[]⟩ : ByteArray), (⟨#[109, 97, 120, 45, 97, 103, 101, 61, 53]⟩ : ByteArray), (⟨#[112, 117, 98, 108, 105, 99]⟩ : ByteArray), (⟨#[115, 45, 109, 97, 120, 97, 103, 101, 61, 48]⟩ : ByteArray), (⟨#[112, 114, 105, 118, 97, 116, 101, 44, 32, 109, 97, 120, 45, 97, 103, 101, 61, 57]⟩ : ByteArray), (⟨#[110, 111, 45, 115, 116, 111, 114, 101]⟩ : ByteArray)] : List ByteArray)) (Int.tmod a1 6)).toList = ([] : List UInt8)
  · exact ambrylaw17_PolicyStatus.callsE k a0 a1 r w ⟨hs⟩ ⟨hr⟩ h
  · exact ambrylaw17_PolicyStatus.callsN k a0 a1 r w ⟨hs⟩ ⟨hr⟩ h
/-- THE ONE PURE STATEMENT of ambrylaw17_PolicyStatus: yours. -/
def ambrylaw17_PolicyStatus.Pure : Prop := ∀ (a0 : Int) (a1 : Int), (Lit.int .i64 a0).wf = true → (Lit.int .u8 a1).wf = true → ∃ k, ambrylaw17_PolicyStatus.f k a0 a1 = some true
theorem ambrylaw17_PolicyStatus.walk (P : ambrylaw17_PolicyStatus.Pure) (a0 : Int) (a1 : Int) (w : World) (w0 : (Lit.int .i64 a0).wf = true) (w1 : (Lit.int .u8 a1).wf = true) :
    Calls Try.prog 5 #[.int .i64 a0, .int .u8 a1] w fun e w' => e = .returned (.bool true) ∧ Below w.heap.size w w' := by
  obtain ⟨k, h⟩ := P a0 a1 w0 w1
  refine (ambrylaw17_PolicyStatus.calls k a0 a1 true w rfl h).mono ?_
  rintro e w' ⟨rfl, hd⟩
  exact ⟨rfl, hd⟩

end Go.Proofs.Ytlnmnjbihgaliaa.Pr

