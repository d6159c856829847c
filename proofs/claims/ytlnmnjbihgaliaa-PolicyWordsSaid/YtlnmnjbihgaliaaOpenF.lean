import Derived.Test.YtlnmnjbihgaliaaGets
import Derived.Lib.SmallJoins
import Derived.ChangeSlices
import Derived.DataReads
set_option linter.unusedVariables false
set_option linter.unusedSimpArgs false
open Go.RowKit Go.Proofs.YtlnmnjbihgaliaaW.PrintWords
open Go.ChangeShapes Go.WideShapes Go.Joins
namespace Go.Proofs.Ytlnmnjbihgaliaa.Pr
theorem rows_of {W : World} {a : Addr} : ∀ len, (∀ i, i < len → ∃ s t : ByteArray, W.cell? (a.add (i * 2)) = some (.string s) ∧ W.cell? (a.add (i * 2 + 1)) = some (.string t) ∧ s.size ≤ maxLen ∧ t.size ≤ maxLen) →
    ∃ l : List S39, l.length = len ∧ ∀ i (hi : i < l.length), W.cell? (a.add (i * 2)) = some (.string l[i].f0) ∧ W.cell? (a.add (i * 2 + 1)) = some (.string l[i].f1) ∧ l[i].f0.size ≤ maxLen ∧ l[i].f1.size ≤ maxLen
  | 0, _ => ⟨[], rfl, fun i hi => absurd hi (by simp)⟩
  | m + 1, each => by
    obtain ⟨l, e1, e2⟩ := rows_of m (fun i hi => each i (by omega))
    obtain ⟨s, t, k1, k2, k3, k4⟩ := each m (by omega)
    refine ⟨l ++ [⟨s, t⟩], by simp [e1], fun i hi => ?_⟩
    by_cases him : i < l.length
    · rw [List.getElem_append_left him]; exact e2 i him
    · have : i = m := by simp at hi; omega
      subst this
      rw [List.getElem_append_right (by omega)]
      simp only [e1, Nat.sub_self, List.getElem_cons_zero]
      exact ⟨k1, k2, k3, k4⟩
variable {H : Type} {enc : TypeId × Value → H} {W : World} {base : Nat} {spare : Nat → Bool} {held : Bool}
theorem open_fields {v : Value} {fuel : Nat} {x : DataW H × List MemPlace} (h : DataW.trod enc Try.prog W base spare held fuel 22 [v] = some x) :
    ∃ (A : Option Addr) (c : Nat) (l : List S39), v = .slice A l.length c ∧ l.length ≤ c ∧ c ≤ maxLen ∧ Kd.C k39 W A l.length l ∧ ∀ f ∈ l, f.f0.size ≤ maxLen ∧ f.f1.size ≤ maxLen := by
  have hc : Try.prog.cellsOf 39 = 2 := by kernel_rfl
  have hc9 : Try.prog.cellsOf 9 = 1 := by kernel_rfl
  rcases DataW.trod_slice Try.underlying22 h with ⟨h0, _⟩ | ⟨a, len, cap, elems, rest, n, _, hcs, _, hb, hl, hm, hlen, hel, _, _⟩
  · injection h0 with h0 _
    exact ⟨none, 0, [], h0, Nat.le_refl _, by decide, Kd.C_nil _ _, fun f hf => by cases hf⟩
  · injection hcs with hcs _
    have each : ∀ i, i < len → ∃ s t : ByteArray, W.cell? (a.add (i * 2)) = some (.string s) ∧ W.cell? (a.add (i * 2 + 1)) = some (.string t) ∧ s.size ≤ maxLen ∧ t.size ≤ maxLen := by
      intro i hi
      have h1 := hel i hi
      rw [hc] at h1
      rw [List.getElem?_eq_getElem (by omega)] at h1
      obtain ⟨cs, hcs, h2⟩ := Option.bind_eq_some_iff.1 h1
      obtain ⟨_, hcl, hcell⟩ := World.cells?_some hcs
      match cs, hcl with
      | [c0, c1], _ =>
        obtain ⟨y0, y1, n, _, _, h3, h4⟩ := trod_struct2 Try.underlying39 h2
        simp only [hc9] at h3 h4
        obtain ⟨s, hs, _, hs2⟩ := DataW.trod_string Try.underlying9 h3
        obtain ⟨t, ht, _, ht2⟩ := DataW.trod_string Try.underlying9 h4
        simp at hs ht
        have e0 := hcell 0 (by omega)
        have e1 := hcell 1 (by omega)
        rw [Addr.add_add] at e0 e1
        exact ⟨s, t, by simpa [hs] using e0, by simpa [ht] using e1, hs2, ht2⟩
    obtain ⟨l, hl1, hl2⟩ := rows_of len each
    refine ⟨some a, cap, l, by rw [hl1]; exact hcs, by omega, hm, ⟨rfl, by rw [hl1]; exact Nat.le_trans hl (Nat.le_trans hm (by decide)), fun _ => ⟨a, rfl, fun j p hp => ?_⟩⟩, fun f hf => ?_⟩
    · obtain ⟨hj, rfl⟩ := List.getElem?_eq_some_iff.1 hp
      obtain ⟨k1, k2, _, _⟩ := hl2 j hj
      refine ⟨[.string l[j].f0, .string l[j].f1], rfl, k39_mk W _, fun i u hu => ?_⟩
      show W.cell? (a.add (j * 2 + i)) = some u
      match i, hu with
      | 0, hu => exact k1.trans hu
      | 1, hu => exact k2.trans hu
    · obtain ⟨i, hi, rfl⟩ := List.getElem_of_mem hf
      exact (hl2 i hi).2.2
set_option maxRecDepth 100000 in
theorem open_bytes {v : Value} {fuel : Nat} {x : DataW H × List MemPlace} (h : DataW.trod enc Try.prog W base (fun _ => true) held fuel 23 [v] = some x) :
    ∃ (A : Option Addr) (c : Nat) (l : List Int), v = .slice A l.length c ∧ l.length ≤ c ∧ c ≤ maxLen ∧ Kd.C (Kd.int .u8) W A l.length l := by
  rcases open_ints Try.underlying23 Try.underlying5 (by kernel_rfl) h with ⟨hcs, _⟩ | ⟨a, len, cap, zs, hcs, _, hl, hm, hz, _, hcell, hwz⟩
  · injection hcs with hcs _
    exact ⟨none, 0, [], hcs, Nat.le_refl _, by decide, Kd.C_nil _ _⟩
  · injection hcs with hcs _
    have hz' : zs.length = cap := by simpa using hz
    have hlen : (zs.take len).length = len := by rw [List.length_take]; omega
    refine ⟨some a, cap, zs.take len, by rw [hlen]; exact hcs, by omega, hm, ?_⟩
    refine Kd.C_of_reads (enc := Value.int .u8) (d := (0 : Int)) (h1 := fun _ => rfl) ⟨rfl, by rw [hlen]; exact Nat.le_trans hl (Nat.le_trans hm (by decide)), fun _ => ⟨a, rfl, fun j hj => ?_⟩⟩
    rw [hlen] at hj
    rw [hcell j (by omega)]
    congr 2
    simp only [List.getD_eq_getElem?_getD]
    rw [List.getElem?_take, if_pos hj]
set_option maxRecDepth 100000 in
theorem open_req {v : Value} {d : DataW H} {p : List MemPlace} {r : Reach} {b0 : Nat} (hv : Value.okWide Try.prog W r b0 25 v) (h : DataW.Trod enc Try.prog W base (fun _ => true) held 25 v d p) :
    ∃ (q0 q1 : ByteArray) (A2 : Option Addr) (c2 : Nat) (l2 : List S39) (A3 : Option Addr) (c3 : Nat) (l3 : List Int), v = .agg #[.string q0, .string q1, .slice A2 l2.length c2, .slice A3 l3.length c3] ∧
      Kd.C k39 W A2 l2.length l2 ∧ l2.length ≤ c2 ∧ Kd.C (Kd.int .u8) W A3 l3.length l3 ∧ l3.length ≤ c3 ∧ c3 ≤ maxLen := by
  obtain ⟨v0, v1, v2, v3, y0, y1, y2, y3, n, rfl, rfl, rfl, h0, h1, h2, h3⟩ := open_agg4 Try.underlying25 (by kernel_rfl) (by kernel_rfl) hv h
  obtain ⟨q0, e0, _, _⟩ := DataW.trod_string Try.underlying9 h0
  obtain ⟨q1, e1, _, _⟩ := DataW.trod_string Try.underlying9 h1
  obtain ⟨A2, c2, l2, rfl, k1, _, k2, _⟩ := open_fields h2
  obtain ⟨A3, c3, l3, rfl, k3, k5, k4⟩ := open_bytes h3
  injection e0 with e0 _
  injection e1 with e1 _
  subst e0 e1
  exact ⟨q0, q1, A2, c2, l2, A3, c3, l3, rfl, k2, k1, k4, k3, k5⟩
set_option maxRecDepth 100000 in
theorem open_resp {v : Value} {d : DataW H} {p : List MemPlace} {r : Reach} {b0 : Nat} (hv : Value.okWide Try.prog W r b0 35 v) (h : DataW.Trod enc Try.prog W base (fun _ => true) held 35 v d p) :
    ∃ (q0 : Int) (q1 : ByteArray) (A2 : Option Addr) (c2 : Nat) (l2 : List S39) (A3 : Option Addr) (c3 : Nat) (l3 : List Int), v = .agg #[.int .i64 q0, .string q1, .slice A2 l2.length c2, .slice A3 l3.length c3] ∧ (Lit.int .i64 q0).wf = true ∧
      Kd.C k39 W A2 l2.length l2 ∧ l2.length ≤ c2 ∧ Kd.C (Kd.int .u8) W A3 l3.length l3 ∧ l3.length ≤ c3 ∧ c3 ≤ maxLen := by
  obtain ⟨v0, v1, v2, v3, y0, y1, y2, y3, n, rfl, rfl, rfl, h0, h1, h2, h3⟩ := open_agg4 Try.underlying35 (by kernel_rfl) (by kernel_rfl) hv h
  obtain ⟨q0, e0, _, hw⟩ := DataW.trod_int Try.underlying3 h0
  obtain ⟨q1, e1, _, _⟩ := DataW.trod_string Try.underlying9 h1
  obtain ⟨A2, c2, l2, rfl, k1, _, k2, _⟩ := open_fields h2
  obtain ⟨A3, c3, l3, rfl, k3, k5, k4⟩ := open_bytes h3
  injection e0 with e0 _
  injection e1 with e1 _
  subst e0 e1
  exact ⟨q0, q1, A2, c2, l2, A3, c3, l3, rfl, hw, k2, k1, k4, k3, k5⟩
set_option maxRecDepth 100000 in
theorem open_slF {v : Value} {d : DataW H} {p : List MemPlace} {r : Reach} {b0 : Nat} (hv : Value.okWide Try.prog W r b0 22 v) (h : DataW.Trod enc Try.prog W base spare held 22 v d p) :
    ∃ (A : Option Addr) (c : Nat) (l : List S39), v = .slice A l.length c ∧ l.length ≤ c ∧ c ≤ maxLen ∧ Kd.C k39 W A l.length l ∧ ∀ f ∈ l, f.f0.size ≤ maxLen ∧ f.f1.size ≤ maxLen := by
  obtain ⟨a, len, cap, rfl⟩ := okWide_slice Try.underlying22 hv
  obtain ⟨fuel, hf⟩ := h
  exact open_fields (fuel := fuel) (by simpa [Value.cells] using hf)
end Go.Proofs.Ytlnmnjbihgaliaa.Pr
