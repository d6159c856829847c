import Derived.Test.YtlnmnjbihgaliaaWordsP
import Derived.Test.YtlnmnjbihgaliaaGMay
set_option linter.unusedVariables false
set_option linter.unusedSimpArgs false
open Go.RowKit Go.Proofs.YtlnmnjbihgaliaaW.PrintWords
namespace Go.Proofs.Ytlnmnjbihgaliaa.Pr
def ccN : ByteArray := ⟨#[67, 97, 99, 104, 101, 45, 67, 111, 110, 116, 114, 111, 108]⟩
def varyN : ByteArray := ⟨#[86, 97, 114, 121]⟩
def pragN : ByteArray := ⟨#[80, 114, 97, 103, 109, 97]⟩
noncomputable def parC (l : List S39) : Ctl := if (allL l ccN).length = 0 then pragC (pragma (listL l pragN)) else sayAll (listL l ccN)
/-- Fields that are light. -/
def LightL (l : List S39) (n : Nat) : Prop := (∀ f ∈ l, f.f0.size ≤ 300) ∧ (∀ f ∈ l, f.f1.size ≤ 300) ∧ l.length ≤ n
theorem parse_is (l : List S39) (h : LightL l 40) (k : Nat) (hk : 20000 ≤ k) : ctrl_Parse.f k l = some (parC l).tup := by
  rw [parse_total l k h.1 h.2.1 h.2.2 hk]
  unfold parC ccN pragN
  split <;> rfl
set_option maxRecDepth 20000 in
theorem listL_len (l : List S39) (nm : ByteArray) (h : LightL l 40) : (listL l nm).length ≤ 40 * 302 := by
  have h2 := allL_len l nm
  have h3 := allL_size l nm 300 h.2.1
  have h4 := h.2.2
  unfold listL
  generalize allL l nm = vs at h2 h3
  have : ∀ vs : List ByteArray, (∀ v ∈ vs, v.size ≤ 300) → (vs.flatMap partsR).length ≤ vs.length * 302 := by
    intro vs
    induction vs with
    | nil => intro _; simp
    | cons v vs ih =>
      intro hv
      have h5 := hv v (by simp)
      have h6 := partsR_len v (by omega)
      have h7 := ih (fun x hx => hv x (by simp [hx]))
      rw [List.flatMap_cons, List.length_append, List.length_cons, Nat.add_mul]
      omega
  have h8 := this vs h3
  have h9 : vs.length * 302 ≤ 40 * 302 := Nat.mul_le_mul_right _ (by omega)
  omega
set_option maxRecDepth 20000 in
theorem names_is (a0 : Int) (a1 : ByteArray) (l : List S39) (b : List Int) (h : LightL l 40) (k : Nat) (hk : 20000 ≤ k) :
    ∃ r, vary_Names.f k a0 a1 l b = some (r, (listL l varyN).any isStar) := by
  unfold vary_Names.f
  have hl := listL_len l varyN h
  have hf : fits (listL l varyN) = true := by
    unfold fits
    rw [List.all_eq_true]
    intro p hp
    have := listL_size l varyN h.2.1 p hp
    exact decide_eq_true (by omega)
  rw [show head_List.f k l ⟨#[86, 97, 114, 121]⟩ = some (listL l varyN) from hlist_total l varyN k h.1 h.2.1 h.2.2 hk, Option.bind_some, if_pos ⟨hf, by omega⟩]
  cases hs : (listL l varyN).any isStar with
  | true => rw [if_pos rfl]; exact ⟨_, rfl⟩
  | false => rw [if_neg (by decide)]; exact ⟨_, rfl⟩
theorem may_total (q0 q1 : ByteArray) (lq : List S39) (bq : List Int) (r0 : Int) (r1 : ByteArray) (lr : List S39) (br : List Int) (hq : LightL lq 40) (hr : LightL lr 40) (k : Nat) (hk : 20000 ≤ k) :
    policy_May.f k q0 q1 lq bq r0 r1 lr br = some (mayF q0 r0 (parC lq).noStore (parC lr).noStore (parC lr).priv (parC lr).pub (parC lr).must (parC lr).maxAge (parC lr).sMax (getL lq authB).2 (getL lr expB).2 ((listL lr varyN).any isStar) br.length) := by
  have h1 := hq.2.2
  have h2 := hr.2.2
  obtain ⟨r, hn⟩ := names_is r0 r1 lr br hr k hk
  unfold policy_May.f
  rw [parse_is lq hq k hk, Option.bind_some, parse_is lr hr k hk, Option.bind_some, get_total lq authB 300 k (by decide) hq.1 (by omega) (by omega), Option.bind_some, get_total lr expB 300 k (by decide) hr.1 (by omega) (by omega), Option.bind_some, hn, Option.bind_some]
  rfl
def nsB : ByteArray := ⟨#[110, 111, 45, 115, 116, 111, 114, 101]⟩
def pvB : ByteArray := ⟨#[112, 114, 105, 118, 97, 116, 101]⟩
theorem sayG_ns (c : Ctl) (nm v : ByteArray) (has : Bool) (h : c.noStore = true ∨ sameB nm nsB = true) : (sayG c nm v has).noStore = true := by
  unfold sayG
  by_cases e : sameB nm ⟨#[110, 111, 45, 115, 116, 111, 114, 101]⟩ = true
  · rw [if_pos e]
  · rcases h with h | h
    · rw [if_neg e]
      simp only [apply_ite Ctl.noStore, h, ite_self]
    · exact absurd h e
theorem sayG_pv (c : Ctl) (nm v : ByteArray) (has : Bool) (h : c.priv = true) : (sayG c nm v has).priv = true := by
  unfold sayG
  simp only [apply_ite Ctl.priv, h, ite_self]
theorem fold_ns (L : List ByteArray) : ∀ c : Ctl, (c.noStore = true ∨ ∃ p ∈ L, sameB (cutName p) nsB = true) → (L.foldl sayF c).noStore = true := by
  induction L with
  | nil => intro c h; rcases h with h | ⟨p, hp, _⟩; exact h; cases hp
  | cons p L ih =>
    intro c h
    rw [List.foldl_cons]
    refine ih _ ?_
    rcases h with h | ⟨x, hx, hs⟩
    · exact .inl (sayG_ns c _ _ _ (.inl h))
    · rcases List.mem_cons.1 hx with rfl | hx
      · exact .inl (sayG_ns c _ _ _ (.inr hs))
      · exact .inr ⟨x, hx, hs⟩
theorem fold_pv (L : List ByteArray) : ∀ c : Ctl, (c.priv = true ∨ pvB ∈ L) → (L.foldl sayF c).priv = true := by
  induction L with
  | nil => intro c h; rcases h with h | h; exact h; cases h
  | cons p L ih =>
    intro c h
    rw [List.foldl_cons]
    refine ih _ ?_
    rcases h with h | h
    · exact .inl (sayG_pv c _ _ _ h)
    · rcases List.mem_cons.1 h with rfl | h
      · refine .inl ?_
        unfold sayF sayG
        rw [if_neg (by decide +kernel), if_neg (by decide +kernel), if_pos (by decide +kernel)]
      · exact .inr h
theorem cutR_eq (v : ByteArray) (k : Nat) (ps : List ByteArray) (hv : v.size ≤ 1000000) (hk : 2 * v.size + 10 ≤ k) (h : head_cut.f k v = some ps) : cutR v = ps := by
  have := (cutR_is v hv).1 k hk
  rw [this] at h
  exact Option.some.inj h
theorem trimR_eq (v : ByteArray) (k : Nat) (p : ByteArray) (hv : v.size ≤ 1000000) (hk : 2 * v.size + 4 ≤ k) (h : head_trim.f k v = some p) : trimR v = p := by
  have := (trimR_is v hv).1 k hk
  rw [this] at h
  exact Option.some.inj h
def nsV : ByteArray := ⟨#[109, 97, 120, 45, 97, 103, 101, 61, 57, 44, 32, 78, 111, 45, 83, 116, 111, 114, 101]⟩
def nS2 : ByteArray := ⟨#[78, 111, 45, 83, 116, 111, 114, 101]⟩
theorem parts_ns : nsB ∈ partsR nsB := by
  unfold partsR
  rw [cutR_eq nsB 40 [nsB] (by decide) (by decide) (by decide +kernel)]
  simp only [List.map_cons, List.map_nil]
  rw [trimR_eq nsB 40 nsB (by decide) (by decide) (by decide +kernel)]
  exact List.mem_filter.2 ⟨by simp, by decide +kernel⟩
theorem parts_pv : pvB ∈ partsR pvB := by
  unfold partsR
  rw [cutR_eq pvB 40 [pvB] (by decide) (by decide) (by decide +kernel)]
  simp only [List.map_cons, List.map_nil]
  rw [trimR_eq pvB 40 pvB (by decide) (by decide) (by decide +kernel)]
  exact List.mem_filter.2 ⟨by simp, by decide +kernel⟩
def starB : ByteArray := ⟨#[42]⟩
theorem parts_star : starB ∈ partsR starB := by
  unfold partsR
  rw [cutR_eq starB 40 [starB] (by decide) (by decide) (by decide +kernel)]
  simp only [List.map_cons, List.map_nil]
  rw [trimR_eq starB 40 starB (by decide) (by decide) (by decide +kernel)]
  exact List.mem_filter.2 ⟨by simp, by decide +kernel⟩
theorem parts_nsV : nS2 ∈ partsR nsV := by
  unfold partsR
  rw [cutR_eq nsV 60 [⟨#[109, 97, 120, 45, 97, 103, 101, 61, 57]⟩, ⟨#[32, 78, 111, 45, 83, 116, 111, 114, 101]⟩] (by decide) (by decide) (by decide +kernel)]
  simp only [List.map_cons, List.map_nil]
  rw [trimR_eq ⟨#[109, 97, 120, 45, 97, 103, 101, 61, 57]⟩ 40 ⟨#[109, 97, 120, 45, 97, 103, 101, 61, 57]⟩ (by decide) (by decide) (by decide +kernel), trimR_eq ⟨#[32, 78, 111, 45, 83, 116, 111, 114, 101]⟩ 40 nS2 (by decide) (by decide) (by decide +kernel)]
  exact List.mem_filter.2 ⟨by simp, by decide +kernel⟩
theorem mem_list (l : List S39) (f : S39) (nm p : ByteArray) (hf : f ∈ l) (hs : sameB f.f0 nm = true) (hp : p ∈ partsR f.f1) : p ∈ listL l nm :=
  List.mem_flatMap.2 ⟨f.f1, List.mem_map.2 ⟨f, List.mem_filter.2 ⟨hf, hs⟩, rfl⟩, hp⟩
theorem par_say (l : List S39) (f : S39) (hf : f ∈ l) (hs : sameB f.f0 ccN = true) : parC l = sayAll (listL l ccN) := by
  unfold parC
  have : f.f1 ∈ allL l ccN := List.mem_map.2 ⟨f, List.mem_filter.2 ⟨hf, hs⟩, rfl⟩
  rw [if_neg (fun h => by rw [List.eq_nil_of_length_eq_zero h] at this; cases this)]
def wordF (i : Nat) : S39 := match i with
  | 0 => ⟨ccN, nsB⟩ | 1 => ⟨ccN, pvB⟩ | 2 => ⟨varyN, starB⟩ | _ => ⟨⟨#[99, 97, 99, 104, 101, 45, 99, 111, 110, 116, 114, 111, 108]⟩, nsV⟩
theorem word_ns (l : List S39) (i : Nat) (hi : i = 0 ∨ i = 3) (hf : wordF i ∈ l) : (parC l).noStore = true := by
  rcases hi with rfl | rfl
  · rw [par_say l _ hf (by decide +kernel)]
    exact fold_ns _ _ (.inr ⟨nsB, mem_list l _ ccN nsB hf (by decide +kernel) parts_ns, by decide +kernel⟩)
  · rw [par_say l _ hf (by decide +kernel)]
    exact fold_ns _ _ (.inr ⟨nS2, mem_list l _ ccN nS2 hf (by decide +kernel) parts_nsV, by decide +kernel⟩)
theorem word_may (q0 q1 : ByteArray) (lq : List S39) (bq : List Int) (r0 : Int) (r1 : ByteArray) (lr : List S39) (br : List Int) (hq : LightL lq 40) (hr : LightL lr 40) (i : Nat) (hi : i < 4) (hf : wordF i ∈ lr) :
    policy_May.f 20000 q0 q1 lq bq r0 r1 lr br = some false := by
  rw [may_total q0 q1 lq bq r0 r1 lr br hq hr 20000 (Nat.le_refl _)]
  congr 1
  unfold mayF
  have h : i = 0 ∨ i = 3 ∨ i = 1 ∨ i = 2 := by omega
  rcases h with rfl | rfl | rfl | rfl
  · rw [word_ns lr 0 (.inl rfl) hf]; simp
  · rw [word_ns lr 3 (.inr rfl) hf]; simp
  · have : (parC lr).priv = true := by
      rw [par_say lr _ hf (by decide +kernel)]
      exact fold_pv _ _ (.inr (mem_list lr _ ccN pvB hf (by decide +kernel) parts_pv))
    rw [this]; simp
  · have : (listL lr varyN).any isStar = true := List.any_eq_true.2 ⟨starB, mem_list lr _ varyN starB hf (by decide +kernel) parts_star, by decide +kernel⟩
    rw [this]; simp
theorem word_ask (q0 q1 : ByteArray) (lq : List S39) (bq : List Int) (r0 : Int) (r1 : ByteArray) (lr : List S39) (br : List Int) (hq : LightL lq 40) (hr : LightL lr 40) (i : Nat) (hi : i = 0 ∨ i = 3) (hf : wordF i ∈ lq) :
    policy_May.f 20000 q0 q1 lq bq r0 r1 lr br = some false := by
  rw [may_total q0 q1 lq bq r0 r1 lr br hq hr 20000 (Nat.le_refl _)]
  congr 1
  unfold mayF
  rw [word_ns lq i hi hf]; simp
end Go.Proofs.Ytlnmnjbihgaliaa.Pr
