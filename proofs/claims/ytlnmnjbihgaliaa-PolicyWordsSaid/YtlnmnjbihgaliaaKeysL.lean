import Derived.Test.YtlnmnjbihgaliaaKeysW
import Derived.Test.YtlnmnjbihgaliaaOpenF
set_option linter.unusedVariables false
set_option linter.unusedSimpArgs false
open Go.RowKit Go.Proofs.YtlnmnjbihgaliaaW.PrintWords
namespace Go.Proofs.Ytlnmnjbihgaliaa.Pr
def lightB (l : List S39) (n : Nat) : Bool := decide (l.length ≤ n) && l.all (fun f => decide (f.f0.size ≤ 300) && decide (f.f1.size ≤ 300))
theorem light_loop (l : List S39) (hn : l.length ≤ 4611686018427387904) : ∀ m j k, l.length = j + m → m < k →
    ambryhelp_Light.l0 k l (j : Int) = some ((l.drop j).all (fun f => decide (f.f0.size ≤ 300) && decide (f.f1.size ≤ 300))) := by
  intro m
  induction m with
  | zero =>
    intro j k hj hk
    obtain ⟨k, rfl⟩ : ∃ q, k = q + 1 := ⟨k - 1, by omega⟩
    unfold ambryhelp_Light.l0
    rw [if_neg (by omega), List.drop_eq_nil_of_le (by omega)]
    rfl
  | succ m ih =>
    intro j k hj hk
    obtain ⟨k, rfl⟩ : ∃ q, k = q + 1 := ⟨k - 1, by omega⟩
    have hlt : j < l.length := by omega
    have hrd : rd_T39 l (j : Int) = l[j] := by simp [rd_T39, hlt]
    have hw : wrap64 ((j : Int) + 1) = ((j + 1 : Nat) : Int) := by unfold wrap64; omega
    unfold ambryhelp_Light.l0
    rw [if_pos (by omega), if_pos (by omega), hrd, List.drop_eq_getElem_cons hlt, List.all_cons]
    by_cases e : l[j].f0.size ≤ 300
    · rw [if_neg (by omega), decide_eq_true e]
      by_cases e2 : l[j].f1.size ≤ 300
      · rw [if_neg (by omega), decide_eq_true e2, hw, ih (j + 1) k (by omega) (by omega)]; rfl
      · rw [if_pos (by omega), decide_eq_false e2]; rfl
    · rw [if_pos (by omega), decide_eq_false e]; rfl
theorem light_total (l : List S39) (n k : Nat) (hn : n ≤ 1000) (hk : n + 1 ≤ k) : ambryhelp_Light.f k l (n : Int) = some (lightB l n) := by
  unfold ambryhelp_Light.f lightB
  by_cases h : l.length ≤ n
  · rw [if_neg (by omega), decide_eq_true h]
    have := light_loop l (by omega) l.length 0 k (by omega) (by omega)
    simpa using this
  · rw [if_pos (by omega), decide_eq_false h]; rfl
def lightQB (q0 q1 : ByteArray) (l2 : List S39) (l3 : List Int) : Bool := decide (q0.size ≤ 100) && decide (q1.size ≤ 300) && lightB l2 15 && decide (l3.length ≤ 1000)
theorem lightQ_total (q0 q1 : ByteArray) (l2 : List S39) (l3 : List Int) (k : Nat) (hk : 16 ≤ k) : ambryhelp_LightQ.f k q0 q1 l2 l3 = some (lightQB q0 q1 l2 l3) := by
  unfold ambryhelp_LightQ.f lightQB
  have hl := light_total l2 15 k (by omega) hk
  rw [show ((15 : Nat) : Int) = 15 from rfl] at hl
  by_cases h0 : q0.size ≤ 100
  · by_cases h1 : q1.size ≤ 300
    · rw [if_pos (by omega), if_pos (by omega), hl, Option.bind_some]
      cases lightB l2 15
      · simp
      · rw [if_pos rfl, decide_eq_true h0, decide_eq_true h1]
        congr 1
        rw [Bool.eq_iff_iff]
        simp
        omega
    · rw [if_pos (by omega), if_neg (by omega), decide_eq_false h1]; simp
  · rw [if_neg (by omega), decide_eq_false h0]; simp
theorem getL_size (l : List S39) (nm : ByteArray) (M : Nat) (h : ∀ f ∈ l, f.f1.size ≤ M) : (getL l nm).1.size ≤ M := by
  unfold getL
  split
  · rename_i f hf
    exact h f (List.mem_of_find?_eq_some hf)
  · exact Nat.zero_le _
theorem lowS_size (s : ByteArray) : (lowS s).size = s.size := by
  unfold lowS
  rw [strOfNums_size, List.length_map, bytesOf_length]
set_option maxRecDepth 100000 in
theorem keys_calls (q0 q1 : ByteArray) (A2 : Option Addr) (c2 : Nat) (l2 : List S39) (A3 : Option Addr) (c3 : Nat) (l3 : List Int) (p0 p1 : ByteArray) (B2 : Option Addr) (d2 : Nat) (m2 : List S39) (B3 : Option Addr) (d3 : Nat) (m3 : List Int) (w : World)
    (h2 : Kd.C k39 w A2 l2.length l2) (hc2 : l2.length ≤ c2) (h3 : Kd.C (Kd.int .u8) w A3 l3.length l3) (hc3 : l3.length ≤ c3)
    (g2 : Kd.C k39 w B2 m2.length m2) (hd2 : m2.length ≤ d2) (g3 : Kd.C (Kd.int .u8) w B3 m3.length m3) (hd3 : m3.length ≤ d3) :
    Calls Try.prog 3 #[.agg #[.string q0, .string q1, .slice A2 l2.length c2, .slice A3 l3.length c3], .agg #[.string p0, .string p1, .slice B2 m2.length d2, .slice B3 m3.length d3]] w fun e w' => e = .returned (.bool true) ∧ Below w.heap.size w w' := by
  have one : ∀ (a b : ByteArray) (X Y : Option Addr) (i j k l : Nat), (#[.string a, .string b, .slice X i j, .slice Y k l] : Array Value).all (·.oneCell') = true := by intro a b X Y i j k l; simp [Value.oneCell']
  have cQ := fun W (hw : Below w.heap.size w W) => ambryhelp_LightQ.calls 16 q0 q1 A2 c2 l2 A3 c3 l3 _ W (Kd.C_below h2 hw) hc2 (Kd.C_below h3 hw) hc3 (lightQ_total q0 q1 l2 l3 16 (Nat.le_refl _))
  have cP := fun W (hw : Below w.heap.size w W) => ambryhelp_LightQ.calls 16 p0 p1 B2 d2 m2 B3 d3 m3 _ W (Kd.C_below g2 hw) hd2 (Kd.C_below g3 hw) hd3 (lightQ_total p0 p1 m2 m3 16 (Nat.le_refl _))
  cases hq : lightQB q0 q1 l2 l3 with
  | false => rw [hq] at cQ; exact keys_ff _ _ _ _ _ _ _ _ w (one _ _ _ _ _ _ _ _) (one _ _ _ _ _ _ _ _) cQ
  | true =>
    rw [hq] at cQ
    cases hp : lightQB p0 p1 m2 m3 with
    | false => rw [hp] at cP; exact keys_tf _ _ _ _ _ _ _ _ w (one _ _ _ _ _ _ _ _) (one _ _ _ _ _ _ _ _) cQ cP
    | true =>
      rw [hp] at cP
      have key : ∀ (a0 a1 : ByteArray) (X : Option Addr) (x : Nat) (l : List S39) (v : Value), v.oneCell' = true → Kd.C k39 w X l.length l → l.length ≤ x → (∀ y, lightQB a0 a1 l y = true → False) ∨ (a1.size ≤ 300 ∧ l.length ≤ 15 ∧ ∀ f ∈ l, f.f0.size ≤ 300 ∧ f.f1.size ≤ 300) →
          (∃ y, lightQB a0 a1 l y = true) →
          (∀ W, Below w.heap.size w W → Calls Try.prog 10 #[.agg #[.string a0, .string a1, .slice X l.length x, v]] W fun e w' => e = .returned (.agg (u8s (sumP (keyL [getB, lowS (getL l hostB).1, a1])))) ∧ Below W.heap.size W w') ∧
          (∀ W, Below w.heap.size w W → Calls Try.prog 11 #[.agg #[.string a0, .string a1, .slice X l.length x, v]] W fun e w' => e = .returned (.agg (u8s (sumP (keyL [getB, lowS (getL l hostB).1, a1])))) ∧ Below W.heap.size W w') := by
        intro a0 a1 X x l v hv hC hx hor ⟨y, hy⟩
        rcases hor with hor | ⟨s1, s2, s3⟩
        · exact absurd hy (fun e => hor y e)
        have hsz : (getL l hostB).1.size ≤ 300 := getL_size l hostB 300 (fun f hf => (s3 f hf).2)
        have hbig : (keyL [getB, lowS (getL l hostB).1, a1]).length ≤ 140737488355000 := by
          have : (keyL [getB, lowS (getL l hostB).1, a1]).length = 12 + 3 + (getL l hostB).1.size + a1.size := by
            simp [keyL, partB, len4, bytesOf_length, lowS_size, getB]
            have : (⟨#[71, 69, 84]⟩ : ByteArray).size = 3 := rfl
            omega
          omega
        constructor
        · intro W hw
          exact policyKey_calls 400 a0 a1 X x l v (getL l hostB).1 (getL l hostB).2 W hv (Kd.C_below hC hw) hx (get_total l hostB 300 400 (by decide) (fun f hf => (s3 f hf).1) (by omega) (by omega)) (by omega) hbig
        · intro W hw
          have := refKey_calls 400 a0 a1 X x l v (getL l hostB).1 (getL l hostB).2 W hv (Kd.C_below hC hw) hx (refget_total l hostB 400 (fun f hf => Nat.le_trans (s3 f hf).1 (by decide)) (by decide) (by omega) (by omega)) (by omega) hbig
          rw [← sums_eq] at this
          exact this
      have lt : ∀ (a0 a1 : ByteArray) (l : List S39) (y : List Int), lightQB a0 a1 l y = true → a1.size ≤ 300 ∧ l.length ≤ 15 ∧ ∀ f ∈ l, f.f0.size ≤ 300 ∧ f.f1.size ≤ 300 := by
        intro a0 a1 l y h
        simp only [lightQB, lightB, Bool.and_eq_true, decide_eq_true_eq, List.all_eq_true] at h
        exact ⟨h.1.1.2, h.1.2.1, h.1.2.2⟩
      obtain ⟨k1, k2⟩ := key q0 q1 A2 c2 l2 (.slice A3 l3.length c3) (by simp [Value.oneCell']) h2 hc2 (.inr (lt _ _ _ _ hq)) ⟨_, hq⟩
      obtain ⟨k3, k4⟩ := key p0 p1 B2 d2 m2 (.slice B3 m3.length d3) (by simp [Value.oneCell']) g2 hd2 (.inr (lt _ _ _ _ hp)) ⟨_, hp⟩
      exact keys_tt _ _ _ _ _ _ _ _ w (one _ _ _ _ _ _ _ _) (one _ _ _ _ _ _ _ _) _ _ (sumP_len _) (sumP_len _) cQ cP k1 k2 k3 k4
end Go.Proofs.Ytlnmnjbihgaliaa.Pr
