import Derived.Test.YtlnmnjbihgaliaaPr0
import Derived.Test.YtlnmnjbihgaliaaPr9
import Derived.Test.YtlnmnjbihgaliaaGKnown
import Derived.Test.YtlnmnjbihgaliaaGMay
set_option linter.unusedVariables false
set_option linter.unusedSimpArgs false
-- Written by a printing program; not by hand.
namespace Go.Proofs.Ytlnmnjbihgaliaa.Pr
open Go.RowKit Go.Proofs.YtlnmnjbihgaliaaW.PrintWords Go.Proofs.YtlnmnjbihgaliaaW.PrintLast Go.Proofs.YtlnmnjbihgaliaaW.PrintMore
attribute [local go_sem] max2_int min2_int max_two min_two max_three min_three max_four min_four   -- for this text's walks alone

/-! ### ambrylaw17_PolicyGreat: function 4 -/
def ambrylaw17_PolicyGreat.f (k : Nat) (a0 : Int) : Option (Bool) := (ambrylaw17_known.f).bind fun t175 => (if t175 = true then ((ambryhelp_Place.f a0 5).bind fun t176 => (if 0 ≤ (wrap64 (59998 + t176)) then (if (wrap64 (59998 + t176) : Int).toNat ≤ 281474976710656 then ((policy_May.f k (⟨#[71, 69, 84]⟩ : ByteArray) (⟨#[]⟩ : ByteArray) ([] : List (S39)) ([] : List Int) 200 (⟨#[]⟩ : ByteArray) ([] : List (S39)) (List.replicate (wrap64 (59998 + t176) : Int).toNat 0)).bind fun t180 => (some (t180 == (decide ((wrap64 (59998 + t176)) ≤ 60000))))) else (none)) else (none))) else (some false))
theorem ambrylaw17_PolicyGreat.mono : ∀ a0 k, LeO (ambrylaw17_PolicyGreat.f k a0) (ambrylaw17_PolicyGreat.f (k + 1) a0) := by
  intro a0 k
  unfold ambrylaw17_PolicyGreat.f
  repeat' first
      | (with_reducible exact policy_May.mono _ _ _ _ _ _ _ _ _)
      | (with_reducible exact LeO.refl _)
      | (with_reducible exact LeO.none _)
      | (with_reducible refine LeO.ite ?_ ?_)
      | (with_reducible refine LeO.bind ?_ (fun _ => ?_))
      | exact policy_May.mono _ _ _ _ _ _ _ _ _
      | exact LeO.none _
      | refine LeO.ite ?_ ?_
      | refine LeO.bind ?_ (fun _ => ?_)
set_option maxHeartbeats 8000000 in
set_option maxRecDepth 100000 in
theorem ambrylaw17_PolicyGreat.calls (k : Nat) (a0 : Int) (r : Bool) (w : World) (h : ambrylaw17_PolicyGreat.f k a0 = some r) :
    Calls Try.prog 4 #[.int .i64 a0] w fun e w' => e = .returned (.bool r) ∧ Below w.heap.size w w' := by
  have hu25 := Try.underlying25
  have hu35 := Try.underlying35
  have HB := Aside0.mk (Below.refl w.heap.size w)
  have H : ((ambrylaw17_known.f).bind fun t175 => (if t175 = true then ((ambryhelp_Place.f a0 5).bind fun t176 => (if 0 ≤ (wrap64 (59998 + t176)) then (if (wrap64 (59998 + t176) : Int).toNat ≤ 281474976710656 then ((policy_May.f k (⟨#[71, 69, 84]⟩ : ByteArray) (⟨#[]⟩ : ByteArray) ([] : List (S39)) ([] : List Int) 200 (⟨#[]⟩ : ByteArray) ([] : List (S39)) (List.replicate (wrap64 (59998 + t176) : Int).toNat 0)).bind fun t180 => (some (t180 == (decide ((wrap64 (59998 + t176)) ≤ 60000))))) else (none)) else (none))) else (some false))) = some r := h
  clear h
  replace H := Option.bind_eq_some_iff.mp H
  obtain ⟨t175, A20, H⟩ := H
  replace H : (if t175 = true then ((ambryhelp_Place.f a0 5).bind fun t176 => (if 0 ≤ (wrap64 (59998 + t176)) then (if (wrap64 (59998 + t176) : Int).toNat ≤ 281474976710656 then ((policy_May.f k (⟨#[71, 69, 84]⟩ : ByteArray) (⟨#[]⟩ : ByteArray) ([] : List (S39)) ([] : List Int) 200 (⟨#[]⟩ : ByteArray) ([] : List (S39)) (List.replicate (wrap64 (59998 + t176) : Int).toNat 0)).bind fun t180 => (some (t180 == (decide ((wrap64 (59998 + t176)) ≤ 60000))))) else (none)) else (none))) else (some false)) = some r := H
  have A2 := Aside0.mk A20
  clear A20
  by_cases c3 : t175 = true
  · subst c3
    have H1 : ((ambryhelp_Place.f a0 5).bind fun t176 => (if 0 ≤ (wrap64 (59998 + t176)) then (if (wrap64 (59998 + t176) : Int).toNat ≤ 281474976710656 then ((policy_May.f k (⟨#[71, 69, 84]⟩ : ByteArray) (⟨#[]⟩ : ByteArray) ([] : List (S39)) ([] : List Int) 200 (⟨#[]⟩ : ByteArray) ([] : List (S39)) (List.replicate (wrap64 (59998 + t176) : Int).toNat 0)).bind fun t180 => (some (t180 == (decide ((wrap64 (59998 + t176)) ≤ 60000))))) else (none)) else (none))) = some r := by rw [if_pos rfl] at H; exact H
    clear H
    have H := H1
    clear H1
    replace H := Option.bind_eq_some_iff.mp H
    obtain ⟨t176, A40, H⟩ := H
    replace H : (if 0 ≤ (wrap64 (59998 + t176)) then (if (wrap64 (59998 + t176) : Int).toNat ≤ 281474976710656 then ((policy_May.f k (⟨#[71, 69, 84]⟩ : ByteArray) (⟨#[]⟩ : ByteArray) ([] : List (S39)) ([] : List Int) 200 (⟨#[]⟩ : ByteArray) ([] : List (S39)) (List.replicate (wrap64 (59998 + t176) : Int).toNat 0)).bind fun t180 => (some (t180 == (decide ((wrap64 (59998 + t176)) ≤ 60000))))) else (none)) else (none)) = some r := H
    have A4 := Aside0.mk A40
    clear A40
    obtain ⟨ji5, hji5⟩ : ∃ j_ : Int, (wrap64 (59998 + t176)) = j_ := ⟨_, rfl⟩
    replace H : (if 0 ≤ (ji5) then (if (ji5 : Int).toNat ≤ 281474976710656 then ((policy_May.f k (⟨#[71, 69, 84]⟩ : ByteArray) (⟨#[]⟩ : ByteArray) ([] : List (S39)) ([] : List Int) 200 (⟨#[]⟩ : ByteArray) ([] : List (S39)) (List.replicate (ji5 : Int).toNat 0)).bind fun t180 => (some (t180 == (decide ((ji5) ≤ 60000))))) else (none)) else (none)) = some r := by first | (rw [hji5] at H; exact H) | (simp only [hji5] at H ⊢; exact H)
    (try rw [hji5] at A2)
    (try rw [hji5] at A4)
    have hji5w : (IntKind.i64.wrap (59998 + t176)) = ji5 := (i64_w _).trans hji5
    by_cases c6 : 0 ≤ (ji5)
    · rw [if_pos c6] at H
      have c6b0 := eq_true c6
      have c6b1 : decide (0 ≤ (ji5)) = true := decide_eq_true c6
      clear c6
      by_cases c7 : (ji5 : Int).toNat ≤ 281474976710656
      · rw [if_pos c7] at H
        have c7b0 := eq_true c7
        have c7b1 : decide ((ji5 : Int).toNat ≤ 281474976710656) = true := decide_eq_true c7
        clear c7
        obtain ⟨y177, hy177⟩ : ∃ y_ : List Int, y_ = (List.replicate (ji5 : Int).toNat 0) := ⟨_, rfl⟩
        replace H : ((policy_May.f k (⟨#[71, 69, 84]⟩ : ByteArray) (⟨#[]⟩ : ByteArray) ([] : List (S39)) ([] : List Int) 200 (⟨#[]⟩ : ByteArray) ([] : List (S39)) y177).bind fun t180 => (some (t180 == (decide ((ji5) ≤ 60000))))) = some r := by first | (rw [hy177]; with_reducible exact H) | (have H2_ := (Option.bind_some _ _).symm.trans H; rw [hy177]; with_reducible exact H2_) | (have H2_ := (Option.bind_some _ _).symm.trans H; with_reducible exact H2_) | with_reducible exact H | (rw [hy177]; exact H) | exact H
        have Ny177 := Aside0.mk hy177
        clear hy177
        replace H := Option.bind_eq_some_iff.mp H
        obtain ⟨t180, A80, H⟩ := H
        replace H : (some (t180 == (decide ((ji5) ≤ 60000)))) = some r := H
        have A8 := Aside0.mk A80
        clear A80
        obtain rfl := Option.some.inj H
        go_enter Try.func4, Try.ntmps4
        go_wp2_with (first | ((with_reducible refine gate_callee (f := 8) rfl ?_); refine goesL_ (some 4) rfl rfl Try.func8 (by kernel_rfl) rfl #[] rfl (by (try simp only [List.map_toArray, List.map_cons, List.map_nil]); first | done | rfl | (simp only [List.length_drop, List.length_take]; rfl)) ?_; (with_reducible refine (ambrylaw17_known.calls  true _ A2.out).mono ?_); rintro e w9 ⟨rfl, hb⟩; refine ⟨_, rfl, ?_⟩; have n0_ := Aside0.mk (below_step (by repeat (first | (with_reducible first | exact HB.out | apply below_alloc | apply pw_below_drewN | apply below_drew1) | exact HB.out)) hb); clear HB; have HB := n0_; clear n0_; (try clear hb); (try clear hb2); (try clear hk); (try clear hi)) | ((with_reducible refine gate_callee (f := 12) rfl ?_); refine goesL_ (some 7) rfl rfl Try.func12 (by kernel_rfl) rfl #[.int .i64 a0, .int .i64 5] rfl (by (try simp only [List.map_toArray, List.map_cons, List.map_nil]); first | done | rfl | (simp only [List.length_drop, List.length_take]; rfl)) ?_; (with_reducible refine (ambryhelp_Place.calls a0 5 t176 _ A4.out).mono ?_); rintro e w' ⟨rfl, ⟨nd, rfl⟩⟩; refine ⟨_, rfl, ?_⟩) | ((with_reducible refine gate_dst (N := 11) rfl ?_); refine Kd.R_make (Kd.int .u8) _ 5 rfl (N := 11) rfl 23 _ _ rfl ji5 rfl rfl Try.underlying23 (.int .u8 0) 1 info5 rfl (by decide) (by omega) 0 (ok := fun _ => True) (okp := fun _ => True) rfl (fun _ hk => hk) trivial (of_decide_eq_true (by first | (with_reducible assumption) | assumption)) (Nat.le_trans (Nat.mul_le_mul_right _ (of_decide_eq_true (by first | (with_reducible assumption) | assumption) : ji5.toNat ≤ 281474976710656)) (by omega)) (Below.refl _ _) (Nat.le_refl _) ?_; intro v178 w10 ho11 hb hg_ hnew_; clear hg_ hnew_; (first | rw [← Ny177.out] at ho11 | (simp only [Int.reduceToNat] at ho11; rw [← Ny177.out] at ho11)); have n0_ := Aside0.mk (Kd.R_lower ho11 (below_size (by repeat (first | (with_reducible first | exact HB.out | apply below_alloc | apply pw_below_drewN | apply below_drew1) | exact HB.out)))); have n1_ := Aside0.mk (below_step (by repeat (first | (with_reducible first | exact HB.out | apply below_alloc | apply pw_below_drewN | apply below_drew1) | exact HB.out)) hb); clear HB; have HO179 := n0_; have HB := n1_; clear n0_ n1_; clear hb ho11; obtain ⟨Ao12, co12, eo12⟩ := Kd.R_slice HO179.out; subst eo12) | ((with_reducible refine gate_callee (f := 13) rfl ?_); refine goesL_ (some 13) rfl rfl Try.func13 (by kernel_rfl) rfl #[.agg #[.string (⟨#[71, 69, 84]⟩ : ByteArray), .string (⟨#[]⟩ : ByteArray), .slice none 0 0, .slice none 0 0], .agg #[.int .i64 200, .string (⟨#[]⟩ : ByteArray), .slice none 0 0, .slice Ao12 y177.length co12]] rfl (by (try simp only [List.map_toArray, List.map_cons, List.map_nil]); first | done | rfl | (simp only [List.length_drop, List.length_take]; rfl)) ?_; (refine (policy_May.calls k (⟨#[71, 69, 84]⟩ : ByteArray) (⟨#[]⟩ : ByteArray) _ _ ([] : List (S39)) _ _ ([] : List Int) 200 (⟨#[]⟩ : ByteArray) _ _ ([] : List (S39)) _ _ y177 t180 _ ?side1 ?side2 ?side3 ?side4 ?side5 ?side6 ?side7 ?side8 A8.out).mono ?_); (case side1 => exact Kd.C_nil _ _); (case side2 => exact Nat.le_refl _); (case side3 => exact Kd.C_nil _ _); (case side4 => exact Nat.le_refl _); (case side5 => exact Kd.C_nil _ _); (case side6 => exact Nat.le_refl _); (case side7 => repeat (first | exact (Kd.R_reads' HO179.out).2.2 | (with_reducible refine Kd.C_alloc ?_ _) | (with_reducible refine Kd.C_drewN ?_ _) | (with_reducible refine Kd.C_drew ?_))); (case side8 => exact (Kd.R_reads' HO179.out).2.1); rintro e w13 ⟨rfl, hb⟩; refine ⟨_, rfl, ?_⟩; have n0_ := Aside0.mk (Kd.R_below (by (with_reducible repeat (first | apply Kd.R_alloc | apply Kd.R_drewN | apply Kd.R_drew)); exact HO179.out) hb); have n1_ := Aside0.mk (below_step (by repeat (first | (with_reducible first | exact HB.out | apply below_alloc | apply pw_below_drewN | apply below_drew1) | exact HB.out)) hb); clear HO179; clear HB; have HO179 := n0_; have HB := n1_; clear n0_ n1_; (try clear hb); (try clear hb2); (try clear hk); (try clear hi)))
        go_ret
        exact ⟨by first | rfl | (simp [errW_none, errW_some] <;> rfl) | (simp only [← hji5]; first | rfl | (simp [errW_none, errW_some] <;> rfl)) | (simp [*, errW_none, errW_some] <;> rfl), by repeat (first | (with_reducible first | exact HB.out | apply below_alloc | apply pw_below_drewN | apply below_drew1) | exact HB.out)⟩
      · rw [if_neg c7] at H
        exact absurd H (by simp)
    · rw [if_neg c6] at H
      exact absurd H (by simp)
  · replace c3 := Bool.eq_false_iff.mpr c3
    subst c3
    have H1 : (some false) = some r := by rw [if_neg (show ¬ (false = true) by decide)] at H; exact H
    clear H
    have H := H1
    clear H1
    obtain rfl := Option.some.inj H
    go_enter Try.func4, Try.ntmps4
    go_wp2_with (first | ((with_reducible refine gate_callee (f := 8) rfl ?_); refine goesL_ (some 4) rfl rfl Try.func8 (by kernel_rfl) rfl #[] rfl (by (try simp only [List.map_toArray, List.map_cons, List.map_nil]); first | done | rfl | (simp only [List.length_drop, List.length_take]; rfl)) ?_; (with_reducible refine (ambrylaw17_known.calls  false _ A2.out).mono ?_); rintro e w14 ⟨rfl, hb⟩; refine ⟨_, rfl, ?_⟩; have n0_ := Aside0.mk (below_step (by repeat (first | (with_reducible first | exact HB.out | apply below_alloc | apply pw_below_drewN | apply below_drew1) | exact HB.out)) hb); clear HB; have HB := n0_; clear n0_; (try clear hb); (try clear hb2); (try clear hk); (try clear hi)))
    go_ret
    exact ⟨by first | rfl | (simp [errW_none, errW_some] <;> rfl) | (simp [*, errW_none, errW_some] <;> rfl), by repeat (first | (with_reducible first | exact HB.out | apply below_alloc | apply pw_below_drewN | apply below_drew1) | exact HB.out)⟩

/-- THE ONE PURE STATEMENT of ambrylaw17_PolicyGreat: yours. -/
def ambrylaw17_PolicyGreat.Pure : Prop := ∀ (a0 : Int), (Lit.int .i64 a0).wf = true → ∃ k, ambrylaw17_PolicyGreat.f k a0 = some true
theorem ambrylaw17_PolicyGreat.walk (P : ambrylaw17_PolicyGreat.Pure) (a0 : Int) (w : World) (w0 : (Lit.int .i64 a0).wf = true) :
    Calls Try.prog 4 #[.int .i64 a0] w fun e w' => e = .returned (.bool true) ∧ Below w.heap.size w w' := by
  obtain ⟨k, h⟩ := P a0 w0
  refine (ambrylaw17_PolicyGreat.calls k a0 true w h).mono ?_
  rintro e w' ⟨rfl, hd⟩
  exact ⟨rfl, hd⟩

end Go.Proofs.Ytlnmnjbihgaliaa.Pr
