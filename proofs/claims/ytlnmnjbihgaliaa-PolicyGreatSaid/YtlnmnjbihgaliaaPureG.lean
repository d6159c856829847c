import Derived.Test.YtlnmnjbihgaliaaPr10
set_option linter.unusedVariables false
set_option linter.unusedSimpArgs false
open Go.RowKit Go.Proofs.YtlnmnjbihgaliaaW.PrintWords
namespace Go.Proofs.Ytlnmnjbihgaliaa.Pr
theorem may_len (k : Nat) (q0 q1 : ByteArray) (lq : List S39) (bq : List Int) (r0 : Int) (r1 : ByteArray) (lr : List S39) (br : List Int) :
    policy_May.f k q0 q1 lq bq r0 r1 lr br = (policy_May.f k q0 q1 lq bq r0 r1 lr []).bind fun x => some (x && decide ((br.length : Int) ≤ 60000)) := by
  unfold policy_May.f
  have hv : vary_Names.f k r0 r1 lr br = vary_Names.f k r0 r1 lr [] := rfl
  rw [hv]
  cases ctrl_Parse.f k lq with
  | none => rfl
  | some a =>
    cases ctrl_Parse.f k lr with
    | none => rfl
    | some b =>
      cases head_Get.f k lq authB with
      | none => rfl
      | some s =>
        cases head_Get.f k lr expB with
        | none => rfl
        | some e =>
          cases vary_Names.f k r0 r1 lr [] with
          | none => rfl
          | some v => simp [mayF]
theorem w64_id (x : Int) (h1 : -9223372036854775808 ≤ x) (h2 : x ≤ 9223372036854775807) : wrap64 x = x := by unfold wrap64; omega
theorem great_get : policy_May.f 20 (⟨#[71, 69, 84]⟩ : ByteArray) (⟨#[]⟩ : ByteArray) [] [] 200 (⟨#[]⟩ : ByteArray) [] [] = some true := by kernel_rfl
theorem pureGreat : ambrylaw17_PolicyGreat.Pure := by
  intro a0 hwf
  refine ⟨20, ?_⟩
  have hm : -5 < Int.tmod a0 5 ∧ Int.tmod a0 5 < 5 := ⟨Int.lt_tmod_of_pos a0 (by omega), Int.tmod_lt_of_pos a0 (by omega)⟩
  obtain ⟨p, hp, hp0, hp4⟩ : ∃ p, ambryhelp_Place.f a0 5 = some p ∧ 0 ≤ p ∧ p ≤ 4 := by
    unfold ambryhelp_Place.f
    rw [if_neg (by omega)]
    by_cases h : Int.tmod a0 5 < 0
    · rw [if_pos h]
      refine ⟨_, rfl, ?_, ?_⟩ <;> rw [w64_id] <;> omega
    · rw [if_neg h]
      exact ⟨_, rfl, by omega, by omega⟩
  unfold ambrylaw17_PolicyGreat.f
  rw [show ambrylaw17_known.f = some true from rfl, Option.bind_some, if_pos rfl, hp, Option.bind_some]
  have hw : wrap64 (59998 + p) = 59998 + p := by rw [w64_id] <;> omega
  rw [hw, if_pos (by omega), if_pos (by omega), may_len, great_get]
  simp only [Option.bind_some, List.length_replicate, Bool.true_and]
  rw [show (((59998 + p).toNat : Nat) : Int) = 59998 + p from by omega]
  simp
end Go.Proofs.Ytlnmnjbihgaliaa.Pr
