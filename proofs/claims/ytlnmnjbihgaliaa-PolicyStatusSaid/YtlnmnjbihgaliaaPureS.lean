import Derived.Test.YtlnmnjbihgaliaaPr12c
set_option linter.unusedVariables false
set_option linter.unusedSimpArgs false

open Go.RowKit Go.Proofs.YtlnmnjbihgaliaaW.PrintWords
namespace Go.Proofs.Ytlnmnjbihgaliaa.Pr
theorem w64_idS (x : Int) (h1 : -9223372036854775808 ≤ x) (h2 : x ≤ 9223372036854775807) : wrap64 x = x := by unfold wrap64; omega
theorem heur_loop (x0 : Int) (l : List Int) (hl : l.length ≤ 4611686018427387904) : ∀ n k i, i + n = l.length → n < k → ambryref13_Heuristic.l0 k x0 l (i : Int) = some ((l.drop i).contains x0)
  | 0, k, i, hi, hk => by
    obtain ⟨k, rfl⟩ : ∃ j, k = j + 1 := ⟨k - 1, by omega⟩
    unfold ambryref13_Heuristic.l0
    rw [if_neg (by omega), List.drop_eq_nil_of_le (by omega)]
    rfl
  | n + 1, k, i, hi, hk => by
    obtain ⟨k, rfl⟩ : ∃ j, k = j + 1 := ⟨k - 1, by omega⟩
    have hlt : i < l.length := by omega
    unfold ambryref13_Heuristic.l0
    rw [if_pos (by omega), if_pos (by omega), show rd l (i : Int) = l[i] from by simp [rd, hlt], List.drop_eq_getElem_cons hlt, List.contains_cons]
    by_cases h : l[i] = x0
    · rw [if_pos h, h]; simp
    · rw [if_neg h, w64_idS _ (by omega) (by omega), show ((i : Int) + 1) = ((i + 1 : Nat) : Int) from by omega, heur_loop x0 l hl n k (i + 1) (by omega) (by omega)]
      have : (x0 == l[i]) = false := by rw [beq_eq_false_iff_ne]; exact fun e => h e.symm
      rw [this, Bool.false_or]
theorem heurR (s : Int) : ambryref13_Heuristic.f 60 s = some (heurL.contains s) := heur_loop s heurL (by decide) 11 60 0 (by decide) (by decide)
theorem may_of {k : Nat} {q0 : ByteArray} {s : Int} {lr : List S39} {a b : Bool × Bool × Bool × Bool × Bool × Bool × Bool × Bool × Int × Int × Int × Int} {se e : ByteArray × Bool} {v : List ByteArray × Bool}
    (h1 : ctrl_Parse.f k [] = some a) (h2 : ctrl_Parse.f k lr = some b) (h3 : head_Get.f k [] authB = some se) (h4 : head_Get.f k lr expB = some e) (h5 : vary_Names.f k 0 ⟨#[]⟩ lr [] = some v) :
    policy_May.f k q0 ⟨#[]⟩ [] [] s ⟨#[]⟩ lr [] = some (mayF q0 s a.1 b.1 b.2.2.1 b.2.2.2.1 b.2.2.2.2.1 b.2.2.2.2.2.2.2.2.1 b.2.2.2.2.2.2.2.2.2.1 se.2 e.2 v.2 0) := by
  have h5' : vary_Names.f k s ⟨#[]⟩ lr [] = some v := h5
  unfold policy_May.f
  rw [h1, h2, h3, h4, h5']
  rfl
def sayF1 (v : ByteArray) : List S39 := [⟨⟨#[99, 97, 99, 104, 101, 45, 99, 111, 110, 116, 114, 111, 108]⟩, v⟩]
theorem may0 (q0 : ByteArray) (s : Int) : policy_May.f 60 q0 ⟨#[]⟩ [] [] s ⟨#[]⟩ [] [] = some (mayF q0 s false false false false false (-1) (-1) false false false 0) :=
  may_of (a := (false, false, false, false, false, false, false, false, -1, -1, -1, -1)) (b := (false, false, false, false, false, false, false, false, -1, -1, -1, -1)) (se := (⟨#[]⟩, false)) (e := (⟨#[]⟩, false)) (v := ([], false)) (by kernel_rfl) (by kernel_rfl) (by kernel_rfl) (by kernel_rfl) (by kernel_rfl)
theorem may1 (q0 : ByteArray) (s : Int) : policy_May.f 60 q0 ⟨#[]⟩ [] [] s ⟨#[]⟩ (sayF1 ⟨#[109, 97, 120, 45, 97, 103, 101, 61, 53]⟩) [] = some (mayF q0 s false false false false false 5 (-1) false false false 0) :=
  may_of (a := (false, false, false, false, false, false, false, false, -1, -1, -1, -1)) (b := (false, false, false, false, false, false, false, false, 5, -1, -1, -1)) (se := (⟨#[]⟩, false)) (e := (⟨#[]⟩, false)) (v := ([], false)) (by kernel_rfl) (by kernel_rfl) (by kernel_rfl) (by kernel_rfl) (by kernel_rfl)
theorem may2 (q0 : ByteArray) (s : Int) : policy_May.f 60 q0 ⟨#[]⟩ [] [] s ⟨#[]⟩ (sayF1 ⟨#[112, 117, 98, 108, 105, 99]⟩) [] = some (mayF q0 s false false false true false (-1) (-1) false false false 0) :=
  may_of (a := (false, false, false, false, false, false, false, false, -1, -1, -1, -1)) (b := (false, false, false, true, false, false, false, false, -1, -1, -1, -1)) (se := (⟨#[]⟩, false)) (e := (⟨#[]⟩, false)) (v := ([], false)) (by kernel_rfl) (by kernel_rfl) (by kernel_rfl) (by kernel_rfl) (by kernel_rfl)
theorem may3 (q0 : ByteArray) (s : Int) : policy_May.f 60 q0 ⟨#[]⟩ [] [] s ⟨#[]⟩ (sayF1 ⟨#[115, 45, 109, 97, 120, 97, 103, 101, 61, 48]⟩) [] = some (mayF q0 s false false false false false (-1) 0 false false false 0) :=
  may_of (a := (false, false, false, false, false, false, false, false, -1, -1, -1, -1)) (b := (false, false, false, false, false, false, false, false, -1, 0, -1, -1)) (se := (⟨#[]⟩, false)) (e := (⟨#[]⟩, false)) (v := ([], false)) (by kernel_rfl) (by kernel_rfl) (by kernel_rfl) (by kernel_rfl) (by kernel_rfl)
theorem may4 (q0 : ByteArray) (s : Int) : policy_May.f 60 q0 ⟨#[]⟩ [] [] s ⟨#[]⟩ (sayF1 ⟨#[112, 114, 105, 118, 97, 116, 101, 44, 32, 109, 97, 120, 45, 97, 103, 101, 61, 57]⟩) [] = some (mayF q0 s false false true false false 9 (-1) false false false 0) :=
  may_of (a := (false, false, false, false, false, false, false, false, -1, -1, -1, -1)) (b := (false, false, true, false, false, false, false, false, 9, -1, -1, -1)) (se := (⟨#[]⟩, false)) (e := (⟨#[]⟩, false)) (v := ([], false)) (by kernel_rfl) (by kernel_rfl) (by kernel_rfl) (by kernel_rfl) (by kernel_rfl)
theorem may5 (q0 : ByteArray) (s : Int) : policy_May.f 60 q0 ⟨#[]⟩ [] [] s ⟨#[]⟩ (sayF1 ⟨#[110, 111, 45, 115, 116, 111, 114, 101]⟩) [] = some (mayF q0 s false true false false false (-1) (-1) false false false 0) :=
  may_of (a := (false, false, false, false, false, false, false, false, -1, -1, -1, -1)) (b := (true, false, false, false, false, false, false, false, -1, -1, -1, -1)) (se := (⟨#[]⟩, false)) (e := (⟨#[]⟩, false)) (v := ([], false)) (by kernel_rfl) (by kernel_rfl) (by kernel_rfl) (by kernel_rfl) (by kernel_rfl)
theorem mayPost (s : Int) (an bn bp bu bm : Bool) (ba bs : Int) (se e al : Bool) (n : Nat) : mayF ⟨#[80, 79, 83, 84]⟩ s an bn bp bu bm ba bs se e al n = false := by
  have : ((⟨#[80, 79, 83, 84]⟩ : ByteArray).toList == ([71, 69, 84] : List UInt8)) = false := by decide +kernel
  unfold mayF
  rw [this]
  rfl
theorem mayGet (s : Int) (an bn bp bu bm : Bool) (ba bs : Int) (se e al : Bool) : mayF ⟨#[71, 69, 84]⟩ s an bn bp bu bm ba bs se e al 0 = ((decide (s ≥ 200) && (s != 206) && (s != 304)) && (!an && !bn && !bp) && (!se || bu || bm || decide (bs ≥ 0)) && !al && (bu || decide (ba ≥ 0) || decide (bs ≥ 0) || e || heurL.contains s)) := by
  have : ((⟨#[71, 69, 84]⟩ : ByteArray).toList == ([71, 69, 84] : List UInt8)) = true := by decide +kernel
  unfold mayF
  rw [this]
  simp
theorem pureStatus : ambrylaw17_PolicyStatus.Pure := by
  intro a0 a1 hwf0 hwf
  refine ⟨60, ?_⟩
  have h0 : 0 ≤ a1 ∧ a1 ≤ 255 := by have h : IntKind.u8.min ≤ a1 ∧ a1 ≤ IntKind.u8.max := (by simpa [Lit.wf] using hwf); exact h
  have hm : 0 ≤ Int.tmod a1 6 ∧ Int.tmod a1 6 < 6 := ⟨Int.tmod_nonneg _ h0.1, Int.tmod_lt_of_pos a1 (by omega)⟩
  have hc : Int.tmod a1 6 = 0 ∨ Int.tmod a1 6 = 1 ∨ Int.tmod a1 6 = 2 ∨ Int.tmod a1 6 = 3 ∨ Int.tmod a1 6 = 4 ∨ Int.tmod a1 6 = 5 := by omega
  unfold ambrylaw17_PolicyStatus.f
  rw [show ambrylaw17_known.f = some true from rfl, Option.bind_some, if_pos rfl, Option.bind_some, heurR]
  clear hwf0 hwf h0 hm
  rcases hc with h | h | h | h | h | h <;> rw [h]
  · have mg := may0 ⟨#[71, 69, 84]⟩ a0
    have mp := may0 ⟨#[80, 79, 83, 84]⟩ a0
    rw [mayGet] at mg
    rw [mayPost] at mp
    have hr : rdOf ByteArray.empty ([⟨#[]⟩, ⟨#[109, 97, 120, 45, 97, 103, 101, 61, 53]⟩, ⟨#[112, 117, 98, 108, 105, 99]⟩, ⟨#[115, 45, 109, 97, 120, 97, 103, 101, 61, 48]⟩, ⟨#[112, 114, 105, 118, 97, 116, 101, 44, 32, 109, 97, 120, 45, 97, 103, 101, 61, 57]⟩, ⟨#[110, 111, 45, 115, 116, 111, 114, 101]⟩] : List ByteArray) 0 = ⟨#[]⟩ := rfl
    rw [if_pos (by decide), if_pos (by decide), hr, if_pos (by decide +kernel)]
    simp only [mg, mp, Option.bind_some]
    clear mg mp hr h
    generalize heurL.contains a0 = hh
    by_cases hs : a0 ≥ 200 <;> by_cases h6 : a0 = 206 <;> by_cases h3 : a0 = 304 <;> cases hh <;> simp [hs, h6, h3]
  · have mg := may1 ⟨#[71, 69, 84]⟩ a0
    have mp := may1 ⟨#[80, 79, 83, 84]⟩ a0
    rw [mayGet] at mg
    rw [mayPost] at mp
    unfold sayF1 at mg mp
    have hr : rdOf ByteArray.empty ([⟨#[]⟩, ⟨#[109, 97, 120, 45, 97, 103, 101, 61, 53]⟩, ⟨#[112, 117, 98, 108, 105, 99]⟩, ⟨#[115, 45, 109, 97, 120, 97, 103, 101, 61, 48]⟩, ⟨#[112, 114, 105, 118, 97, 116, 101, 44, 32, 109, 97, 120, 45, 97, 103, 101, 61, 57]⟩, ⟨#[110, 111, 45, 115, 116, 111, 114, 101]⟩] : List ByteArray) 1 = ⟨#[109, 97, 120, 45, 97, 103, 101, 61, 53]⟩ := rfl
    rw [if_pos (by decide), if_pos (by decide), hr, if_neg (by decide +kernel)]
    rw [Option.bind_some]
    simp only [mg, mp, Option.bind_some]
    clear mg mp hr h
    generalize heurL.contains a0 = hh
    by_cases hs : a0 ≥ 200 <;> by_cases h6 : a0 = 206 <;> by_cases h3 : a0 = 304 <;> cases hh <;> simp [hs, h6, h3]
  · have mg := may2 ⟨#[71, 69, 84]⟩ a0
    have mp := may2 ⟨#[80, 79, 83, 84]⟩ a0
    rw [mayGet] at mg
    rw [mayPost] at mp
    unfold sayF1 at mg mp
    have hr : rdOf ByteArray.empty ([⟨#[]⟩, ⟨#[109, 97, 120, 45, 97, 103, 101, 61, 53]⟩, ⟨#[112, 117, 98, 108, 105, 99]⟩, ⟨#[115, 45, 109, 97, 120, 97, 103, 101, 61, 48]⟩, ⟨#[112, 114, 105, 118, 97, 116, 101, 44, 32, 109, 97, 120, 45, 97, 103, 101, 61, 57]⟩, ⟨#[110, 111, 45, 115, 116, 111, 114, 101]⟩] : List ByteArray) 2 = ⟨#[112, 117, 98, 108, 105, 99]⟩ := rfl
    rw [if_pos (by decide), if_pos (by decide), hr, if_neg (by decide +kernel)]
    rw [Option.bind_some]
    simp only [mg, mp, Option.bind_some]
    clear mg mp hr h
    generalize heurL.contains a0 = hh
    by_cases hs : a0 ≥ 200 <;> by_cases h6 : a0 = 206 <;> by_cases h3 : a0 = 304 <;> cases hh <;> simp [hs, h6, h3]
  · have mg := may3 ⟨#[71, 69, 84]⟩ a0
    have mp := may3 ⟨#[80, 79, 83, 84]⟩ a0
    rw [mayGet] at mg
    rw [mayPost] at mp
    unfold sayF1 at mg mp
    have hr : rdOf ByteArray.empty ([⟨#[]⟩, ⟨#[109, 97, 120, 45, 97, 103, 101, 61, 53]⟩, ⟨#[112, 117, 98, 108, 105, 99]⟩, ⟨#[115, 45, 109, 97, 120, 97, 103, 101, 61, 48]⟩, ⟨#[112, 114, 105, 118, 97, 116, 101, 44, 32, 109, 97, 120, 45, 97, 103, 101, 61, 57]⟩, ⟨#[110, 111, 45, 115, 116, 111, 114, 101]⟩] : List ByteArray) 3 = ⟨#[115, 45, 109, 97, 120, 97, 103, 101, 61, 48]⟩ := rfl
    rw [if_pos (by decide), if_pos (by decide), hr, if_neg (by decide +kernel)]
    rw [Option.bind_some]
    simp only [mg, mp, Option.bind_some]
    clear mg mp hr h
    generalize heurL.contains a0 = hh
    by_cases hs : a0 ≥ 200 <;> by_cases h6 : a0 = 206 <;> by_cases h3 : a0 = 304 <;> cases hh <;> simp [hs, h6, h3]
  · have mg := may4 ⟨#[71, 69, 84]⟩ a0
    have mp := may4 ⟨#[80, 79, 83, 84]⟩ a0
    rw [mayGet] at mg
    rw [mayPost] at mp
    unfold sayF1 at mg mp
    have hr : rdOf ByteArray.empty ([⟨#[]⟩, ⟨#[109, 97, 120, 45, 97, 103, 101, 61, 53]⟩, ⟨#[112, 117, 98, 108, 105, 99]⟩, ⟨#[115, 45, 109, 97, 120, 97, 103, 101, 61, 48]⟩, ⟨#[112, 114, 105, 118, 97, 116, 101, 44, 32, 109, 97, 120, 45, 97, 103, 101, 61, 57]⟩, ⟨#[110, 111, 45, 115, 116, 111, 114, 101]⟩] : List ByteArray) 4 = ⟨#[112, 114, 105, 118, 97, 116, 101, 44, 32, 109, 97, 120, 45, 97, 103, 101, 61, 57]⟩ := rfl
    rw [if_pos (by decide), if_pos (by decide), hr, if_neg (by decide +kernel)]
    rw [Option.bind_some]
    simp only [mg, mp, Option.bind_some]
    clear mg mp hr h
    generalize heurL.contains a0 = hh
    by_cases hs : a0 ≥ 200 <;> by_cases h6 : a0 = 206 <;> by_cases h3 : a0 = 304 <;> cases hh <;> simp [hs, h6, h3]
  · have mg := may5 ⟨#[71, 69, 84]⟩ a0
    have mp := may5 ⟨#[80, 79, 83, 84]⟩ a0
    rw [mayGet] at mg
    rw [mayPost] at mp
    unfold sayF1 at mg mp
    have hr : rdOf ByteArray.empty ([⟨#[]⟩, ⟨#[109, 97, 120, 45, 97, 103, 101, 61, 53]⟩, ⟨#[112, 117, 98, 108, 105, 99]⟩, ⟨#[115, 45, 109, 97, 120, 97, 103, 101, 61, 48]⟩, ⟨#[112, 114, 105, 118, 97, 116, 101, 44, 32, 109, 97, 120, 45, 97, 103, 101, 61, 57]⟩, ⟨#[110, 111, 45, 115, 116, 111, 114, 101]⟩] : List ByteArray) 5 = ⟨#[110, 111, 45, 115, 116, 111, 114, 101]⟩ := rfl
    rw [if_pos (by decide), if_pos (by decide), hr, if_neg (by decide +kernel)]
    rw [Option.bind_some]
    simp only [mg, mp, Option.bind_some]
    clear mg mp hr h
    generalize heurL.contains a0 = hh
    by_cases hs : a0 ≥ 200 <;> by_cases h6 : a0 = 206 <;> by_cases h3 : a0 = 304 <;> cases hh <;> simp [hs, h6, h3]
end Go.Proofs.Ytlnmnjbihgaliaa.Pr
