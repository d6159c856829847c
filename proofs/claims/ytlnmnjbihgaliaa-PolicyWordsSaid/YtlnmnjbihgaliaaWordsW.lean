import Derived.Test.YtlnmnjbihgaliaaWordsQ
import Derived.Test.YtlnmnjbihgaliaaKeysL
import Derived.Test.YtlnmnjbihgaliaaGKnown
import Derived.Test.YtlnmnjbihgaliaaPr14
set_option linter.unusedVariables false
set_option linter.unusedSimpArgs false
open Go.RowKit Go.Proofs.YtlnmnjbihgaliaaW.PrintWords Go.Proofs.YtlnmnjbihgaliaaW.PrintMore Go.Proofs.YtlnmnjbihgaliaaW.PrintLast
namespace Go.Proofs.Ytlnmnjbihgaliaa.Pr
theorem light_nil : LightL [] 40 := ⟨fun f hf => (by cases hf), fun f hf => (by cases hf), by decide⟩
theorem word_light (i : Nat) : (wordF i).f0.size ≤ 300 ∧ (wordF i).f1.size ≤ 300 := by
  unfold wordF
  split <;> decide
theorem light_snoc {l x : List S39} {f : S39} {i : Nat} (h : LightL l 10) (hf : f = wordF i) (hx : ∀ g ∈ x, g ∈ l ∨ g = f) (hn : x.length ≤ 40) : LightL x 40 := by
  refine ⟨fun g hg => ?_, fun g hg => ?_, hn⟩
  · rcases hx g hg with h1 | rfl
    · exact h.1 g h1
    · rw [hf]; exact (word_light i).1
  · rcases hx g hg with h1 | rfl
    · exact h.2.1 g h1
    · rw [hf]; exact (word_light i).2
def wordsRow : Obj := .cells #[.string ccN, .string nsB, .string ccN, .string pvB, .string varyN, .string starB, .string ⟨#[99, 97, 99, 104, 101, 45, 99, 111, 110, 116, 114, 111, 108]⟩, .string nsV] 39
def wordObj (i : Nat) : Obj := .cells #[.string (wordF i).f0, .string (wordF i).f1] 39
theorem k39_KM {W W2 : World} {base : Nat} {ok : Nat → Prop} {x : S39} {cs : List Value} (h : k39.K W x cs) : k39.M W2 base ok x cs := by
  obtain rfl := k39_open h
  exact k39_mkM W2 base ok x
open Kd in
set_option maxHeartbeats 800000 in
theorem rows_run {P : Program} {α : Type} (d : Kd α) {Rr : α → List Value → Prop} {W : World} (base : Nat) (t e ty : TypeId) (z : Value) (bytes : Nat)
    (ht : P.underlying t = some (.slice e)) (hinfo : (P.info? e).map (fun i => (i.zero, i.size, i.bytes)) = some (some z, d.sz, bytes)) (hz : z.cells.size = d.sz) (hs0 : 0 < d.sz) (hb0 : 0 < bytes)
    (v : Value) (xs ys : List α) (A : Option Addr) (m c : Nat) (ok okp : Nat → Prop)
    (HO : d.R e W base ok v xs) (HR : ReadsRow Rr d.sz W A m ys) (hKM : ∀ x cs, Rr x cs → d.M W base okp x cs) (hokp : ∀ k, okp k → ok k ∧ some k ≠ v.ownBlock) (hfresh : ∀ k, W.heap.size ≤ k → ok k)
    (hbase : base ≤ W.heap.size) (hl : (xs.length + m) * bytes ≤ 140737488355328) :
    ∃ v1 w1, (Builtin.append_ #[t, t] ty #[v, .slice A m c]).run P W = .ok v1 w1 ∧ d.R e w1 base ok v1 (xs ++ ys) ∧ W.grownBy w1 v.ownBlock ∧ (v1.ownBlock = v.ownBlock ∨ ∃ b, v1.ownBlock = some b ∧ W.heap.size ≤ b) := by
  obtain ⟨i0, hi, hzz⟩ := Option.map_eq_some_iff.1 hinfo
  simp only [Prod.mk.injEq] at hzz
  obtain ⟨hz0, hz1, hz2⟩ := hzz
  have hm : ys.length = m := HR.1
  have hlen : xs.length + m ≤ 140737488355328 := Nat.le_trans (Nat.le_mul_of_pos_right _ hb0) hl
  obtain ⟨hok, inner, hown, hr⟩ := HO
  rcases A with _ | ad
  · have h0 : m = 0 := by
      rcases Nat.eq_zero_or_pos m with h0 | h0
      · exact h0
      · obtain ⟨ad, h, _⟩ := HR.2.2 h0
        cases h
    subst h0
    obtain rfl : ys = [] := List.eq_nil_of_length_eq_zero hm
    refine ⟨v, W, ?_, by rw [List.append_nil]; exact ⟨hok, inner, hown, hr⟩, World.grownBy.refl W _, .inl rfl⟩
    rcases hown.2 with ⟨rfl, hn⟩ | ⟨g, cap, cur, rfl, _, _, hnc, _⟩
    · simp [Builtin.append_, run_underlying ht, sizeOf, typeInfo, hi, Builtin.lenOf, Builtin.firstCells]
    · simp [Builtin.append_, run_underlying ht, sizeOf, typeInfo, hi, Builtin.lenOf, Builtin.firstCells, hnc, storeCells]
  · obtain ⟨news, hnr, hnc⟩ := ReadsRow.inner_ HR
    have hnM : Reps (d.M W base okp) d.sz ys news := hnr.imp_ (fun p c hp => hKM p c hp)
    have hone : ∀ u ∈ news, u.oneCell' = true := by
      intro u hu
      obtain ⟨q, hq, rfl⟩ := List.mem_iff_getElem.1 hu
      have hql : q / d.sz < ys.length := by
        rw [Nat.div_lt_iff_lt_mul hs0]
        rw [← hnM.1]
        exact hq
      have hc := hnM.2 (q / d.sz) _ (List.getElem?_eq_getElem hql)
      refine d.K_one (d.K_of_M hc) _ ?_
      rw [List.mem_iff_getElem?]
      refine ⟨q % d.sz, ?_⟩
      rw [List.getElem?_take, if_pos (Nat.mod_lt _ hs0), List.getElem?_drop, Nat.mul_comm, Nat.div_add_mod, List.getElem?_eq_getElem hq]
    obtain ⟨v1, w1, hrun, h2, hg, _, hat⟩ := run_append_own_at (P := P) W base t ty e i0 z d.sz bytes ht hi hz0 hz1 hz2 hz hs0 v xs.length inner hown ad m c news (by rw [hnM.1, hm]) hnc hone (by simp only [maxLen]; omega) hl hbase
    have hat' : v1.ownBlock = v.ownBlock ∨ ∃ b, v1.ownBlock = some b ∧ W.heap.size ≤ b := by
      rcases hat with hat | hat
      · exact .inl hat
      · exact .inr ⟨_, hat, Nat.le_refl _⟩
    have hne : ∀ k, some k ≠ v.ownBlock → k < W.heap.size → some k ≠ v1.ownBlock := by
      intro k hk hlt
      rcases hat' with hat | ⟨b, hb, hle⟩
      · rw [hat]; exact hk
      · rw [hb]
        intro he
        injection he with he
        omega
    have step : ∀ {q : α} {c : List Value} {o : Nat → Prop}, d.M W base o q c → (∀ k, o k → ok k ∧ some k ≠ v.ownBlock) → d.M w1 base (fun k => ok k ∧ some k ≠ v1.ownBlock) q c := by
      intro q c o hq ho
      have h1 := d.M_move (w1 := w1) (fun k hk => hg.block k hk.2.2.1 (ho k hk.1).2) (d.M_bound hq)
      exact d.M_mono (fun k hk => ⟨(ho k hk.1).1, hne k (ho k hk.1).2 hk.2.2.1⟩) h1
    refine ⟨v1, w1, hrun, ⟨fun k hk => ?_, inner ++ news, by rw [List.length_append, hm]; exact h2, reps_append (hr.imp_ (fun _ _ hq => step hq (fun _ hk => hk))) (hnM.imp_ (fun _ _ hq => step hq hokp))⟩, hg, hat'⟩
    rcases hat' with hat | ⟨b, hb, hle⟩
    · exact hok k (hat ▸ hk)
    · rw [hb] at hk
      injection hk with hk
      exact hfresh k (by omega)
theorem rows_step {P : Program} {ops : Array Oper} {o : Oper} {a : Act} {Q : Exit → Act → World → Prop} {Kc : Act → World → Prop} {α : Type} (d : Kd α) {Rr : α → List Value → Prop} {w0 W : World} (base : Nat) (hw : Region.wanted o (yielded ops a.tmps) = true) (s x : Operand) (t e : TypeId) (z : Value) (bytes : Nat)
    (ho : o.op = .call { callee := .builtin .append, args := #[s, x], argTypes := #[t, t] })
    (ht : P.underlying t = some (.slice e)) (hinfo : (P.info? e).map (fun i => (i.zero, i.size, i.bytes)) = some (some z, d.sz, bytes)) (hz : z.cells.size = d.sz) (hs0 : 0 < d.sz) (hb0 : 0 < bytes)
    (v : Value) (xs ys : List α) (A : Option Addr) (m c : Nat) (ok okp : Nat → Prop) (hs : a.eval s = v) (hx : a.eval x = .slice A m c)
    (HO : d.R e W base ok v xs) (HR : ReadsRow Rr d.sz W A m ys) (hKM : ∀ x cs, Rr x cs → d.M W base okp x cs) (hokp : ∀ k, okp k → ok k ∧ some k ≠ v.ownBlock) (hfresh : ∀ k, W.heap.size ≤ k → ok k)
    (HB : Below base w0 W) (hbase : base ≤ W.heap.size) (hl : (xs.length + m) * bytes ≤ 140737488355328)
    (h : ∀ v1 w1, d.R e w1 base ok v1 (xs ++ ys) → Below base w0 w1 → W.grownBy w1 v.ownBlock → (v1.ownBlock = v.ownBlock ∨ ∃ b, v1.ownBlock = some b ∧ W.heap.size ≤ b) → Kc (a.put o.dst v1) w1) :
    if Region.wanted o (yielded ops a.tmps) = true then Oper.wp P o a W Kc Q else Kc (a.put o.dst undef) W := by
  obtain ⟨v1, w1, hr1, h1, hg, hat⟩ := rows_run d base t e o.type z bytes ht hinfo hz hs0 hb0 v xs ys A m c ok okp HO HR hKM hokp hfresh hbase hl
  obtain ⟨_, inner, hown, _⟩ := HO
  rw [if_pos hw]
  unfold Oper.wp execOp
  simp only [ho, resolve, invoke, builtin, Sem.run_bind, Sem.run_pure, Result.andThen_ok, List.map_toArray, List.map_cons, List.map_nil, hs, hx, hr1]
  exact h v1 w1 h1 (HB.grown hg hbase (own_base hown)) hg hat
structure WordS (W0 W : World) (f : S39) (l : List S39) (x : Option Value) (y : Option Nat) : Prop where
  bel : Below W0.heap.size W0 W
  hx : ∀ v, x = some v → Kd.R k39 39 W W0.heap.size (fun _ => True) v l
  hy : ∀ g, y = some g → W.heap[g]? = some (.cells #[.string f.f0, .string f.f1] 39 (0, 0))
theorem WordS.own {W0 W w1 : World} {f : S39} {l : List S39} {y : Option Nat} {v1 : Value} (h : WordS W0 W f l none y) (ho : Kd.R k39 39 w1 W0.heap.size (fun _ => True) v1 ([] ++ l)) (hb : Below W0.heap.size W0 w1) (hg : W.grownBy w1 (Value.slice none 0 0).ownBlock) : WordS W0 w1 f l (some v1) y :=
  ⟨hb, fun v hv => by cases hv; exact ho, fun g hy => (hg.block g (blk_in (h.hy g hy)) (by simp [Value.ownBlock])).trans (h.hy g hy)⟩
theorem WordS.lit {W0 W : World} {f : S39} {l : List S39} {x : Option Value} (h : WordS W0 W f l x none) : ∃ W4, W4 = W.alloc (.cells #[.string f.f0, .string f.f1] 39) ∧ WordS W0 W4 f l x (some W.heap.size) :=
  ⟨_, rfl, h.bel.alloc h.bel.size _, fun v hv => Kd.R_alloc (h.hx v hv) _, fun g hg => by cases hg; exact heap_alloc_new _ _⟩
set_option maxRecDepth 100000 in
set_option maxHeartbeats 8000000 in
theorem words_dark (A : Option Addr) (c : Nat) (l : List S39) (a1 : Int) (b : Bool) (w : World) (hC : Kd.C k39 w A l.length l) (hc : l.length ≤ c) (hL : lightB l 10 = false) :
    Calls Try.prog 7 #[.slice A l.length c, .int .u8 a1, .bool b] w fun e w' => e = .returned (.bool true) ∧ Below w.heap.size w w' := by
  have HL := Aside0.mk (fun W (hw : Below w.heap.size w W) => ambryhelp_Light.calls 11 A c l 10 false W (Kd.C_below hC hw) hc (by have := light_total l 10 11 (by omega) (by omega); rw [hL] at this; exact this))
  clear hC hc hL
  go_enter Try.func7, Try.ntmps7
  go_wp2_with (first | (go_at_call 8; refine (known_calls _).mono ?_; rintro e w1 ⟨rfl, hb⟩; have HB := Aside0.mk hb; clear hb) | (go_at_call 15; refine (HL.out _ HB.out).mono ?_; rintro e w2 ⟨rfl, hd⟩; have HB2 := Aside0.mk (HB.out.trans (drawn_below0 hd)); clear hd) | fail)
  go_ret
  exact ⟨rfl, HB2.out⟩
set_option maxRecDepth 100000 in
set_option maxHeartbeats 8000000 in
theorem words_light (A : Option Addr) (c : Nat) (l : List S39) (a1 : Int) (j : Nat) (hj : j < 4) (hm : Int.tmod a1 4 = j) (b : Bool) (w : World) (hC : Kd.C k39 w A l.length l) (hc : l.length ≤ c) (hL : lightB l 10 = true) :
    Calls Try.prog 7 #[.slice A l.length c, .int .u8 a1, .bool b] w fun e w' => e = .returned (.bool true) ∧ Below w.heap.size w w' := by
  have HL := Aside0.mk (fun W (hw : Below w.heap.size w W) => ambryhelp_Light.calls 11 A c l 10 true W (Kd.C_below hC hw) hc (by have := light_total l 10 11 (by omega) (by omega); rw [hL] at this; exact this))
  have HCC := Aside0.mk (fun W (hw : Below w.heap.size w W) => Kd.C_below hC hw)
  have HLT := Aside0.mk (show LightL l 10 from by
    simp only [lightB, Bool.and_eq_true, decide_eq_true_eq, List.all_eq_true] at hL
    exact ⟨fun f hf => (hL.2 f hf).1, fun f hf => (hL.2 f hf).2, hL.1⟩)
  have HJ := Aside0.mk hj
  have HM0 := Aside0.mk hm
  clear hC hL
  have hj4 : j = 0 ∨ j = 1 ∨ j = 2 ∨ j = 3 := by omega
  clear hj
  rcases hj4 with rfl | rfl | rfl | rfl
  all_goals
    (try simp only [Int.ofNat_zero, Int.ofNat_one] at hm)
    go_enter Try.func7, Try.ntmps7
    go_upto_region 5 with (first | (go_at_call 8; refine (known_calls _).mono ?_; rintro e w1 ⟨rfl, hb⟩; have HB := Aside0.mk hb; clear hb) | (go_at_call 15; refine (HL.out _ HB.out).mono ?_; rintro e w2 ⟨rfl, hd⟩; have HB2 := Aside0.mk (HB.out.trans (drawn_below0 hd)); clear hd) | fail)
    go_upto_region 6 with (fail)
  · skip
    have HBW := Aside0.mk ((HB2.out.alloc HB2.out.size wordsRow).alloc (by have := HB2.out.size; simp; omega) (wordObj 0))
    have hnew := heap_alloc_new (w2.alloc wordsRow) (wordObj 0)
    rw [show (w2.alloc wordsRow).heap.size = w2.heap.size + 1 from by simp] at hnew
    obtain ⟨W5, hw5⟩ : ∃ W5, W5 = (w2.alloc wordsRow).alloc (wordObj 0) := ⟨_, rfl⟩
    rw [← hw5] at HBW hnew
    refine toW hw5 ?_
    obtain ⟨f, hf⟩ : ∃ f, f = wordF 0 := ⟨_, rfl⟩
    rw [show wordObj 0 = .cells #[.string f.f0, .string f.f1] 39 from by rw [hf]; rfl] at hnew
    have HWF := Aside0.mk hf
    generalize w2.heap.size + 1 = gf at hnew ⊢
    have HF := Aside0.mk (fun W (h : Below W5.heap.size W5 W) => show W.heap[gf]? = some (.cells #[.string f.f0, .string f.f1] 39 (0, 0)) from (h.block _ (blk_in hnew)).trans hnew)
    have HW := Aside0.mk (fun W (h : Below W5.heap.size W5 W) => show Below w.heap.size w W from HBW.out.trans (h.mono HBW.out.size))
    have HCW := Aside0.mk (fun W (h : Below W5.heap.size W5 W) => HCC.out W (HW.out W h))
    have HB5d := Aside0.mk (show Below W5.heap.size W5 W5.drew from pw_below_drewN (Below.refl _ _) 1)
    have HS := Aside0.mk (show WordS W5 W5.drew f l none none from { bel := HB5d.out, hx := fun v hv => (by cases hv), hy := fun g hg => (by cases hg) })
    clear hnew hw5 hf HB2 HB
    refine start_ (n := 6) (S := fun w' => w'.cell? ⟨gf, 0, none⟩ = some (.string f.f0) ∧ w'.cell? ⟨gf, 1, none⟩ = some (.string f.f1)) (ds := []) #[false, false, false, false, false, false] (by kernel_rfl) rfl rfl ⟨(cell_of (HF.out _ HB5d.out) rfl), (cell_of (HF.out _ HB5d.out) rfl)⟩ (fun hHeld => ?_)
    generalize W5.drew = w5d at HS hHeld ⊢
    refine pure_ (i := 0) (N := some 24) (v := ?_) (a' := ?_) #[true, false, false, false, false, false] rfl rfl (by kernel_rfl) (fun _ _ _ h => h) (Or.inl ⟨by rfl, ?_⟩) ?_ ?_
    rotate_left
    · intro w'
      go_simp
      with_reducible rfl
    rotate_left
    · simp only [Act.put, List.setIfInBounds_toArray, List.set_cons_zero, List.set_cons_succ, i64_w, i32_w]
      rfl
    refine take_ (i := 2) (N := some 26) (v := ?_) (a' := ?_) #[true, false, true, false, false, false] rfl rfl (by kernel_rfl) (fun _ _ _ h => h) (Or.inl ⟨by rfl, ?_⟩) hHeld ?_ ?_
    rotate_left
    · rintro w' ⟨s0, s1⟩
      go_simp
      with_reducible rfl
    rotate_left
    · simp only [Act.put, List.setIfInBounds_toArray, List.set_cons_zero, List.set_cons_succ, i64_w, i32_w]
      rfl
    refine join_ (σ := Value × Nat) 2 #[true, true, true, true, false, false] (fun s => [(25, s.1), (27, .slice (some ⟨s.2, 0, none⟩) 1 1)]) (fun s w' => WordS W5 w' f l (some s.1) (some s.2)) ?_ ?_
    rotate_left
    · intro hCont
      refine two_ (i := 1) (j := 3) (Ni := some 25) (Nj := some 27) #[true, true, true, false, false, false] #[true, false, true, true, false, false] rfl rfl rfl rfl (by kernel_rfl) (by decide) (by decide) (fun K hK => ?_) (fun K hK => ?_)
      · skip
        refine rows_step k39 (w0 := W5) W5.heap.size (by rfl) (.const (.slice none 0 0)) (.tmp 24) 22 39 (.agg #[.string ⟨#[]⟩, .string ⟨#[]⟩]) 32 rfl Try.underlying22 info39 rfl (by decide) (by decide) (.slice none 0 0) [] l A l.length c (fun _ => True) (fun _ => False) rfl rfl (Kd.R_nil _ _ _ _ _) (HCW.out _ HS.out.bel) (fun x cs h => k39_KM h) (fun _ h => h.elim) (fun _ _ => trivial) HS.out.bel HS.out.bel.size (by have := HLT.out.2.2; simp; omega) ?_
        intro v1 w1 ho hb hg hat
        have HS := Aside0.mk (HS.out.own ho hb hg)
        clear ho hb hg hat
        refine hK.out _ _ ⟨(cell_of (HF.out _ HS.out.bel) rfl), (cell_of (HF.out _ HS.out.bel) rfl)⟩ (fun hHeld => ?_)
        clear hK K
        refine norm_ (a' := ?_) ?_ ?_
        rotate_left
        · show Act.put _ (some 25) _ = _
          simp only [Act.put, List.setIfInBounds_toArray, List.set_cons_zero, List.set_cons_succ, i64_w, i32_w]
          rfl
        refine one_ (i := 3) (N := some 27) #[true, true, true, true, false, false] rfl rfl (by kernel_rfl) (by decide) (fun K hK => ?_)
        refine value_ (w1 := ?_) (v := ?_) (by rfl) rfl ?_ ?_
        rotate_left 2
        · go_simp
          constructor
          · rfl
          · rfl
        obtain ⟨w4, hw4, hm⟩ := HS.out.lit
        refine toK hw4 ?_
        have HS := Aside0.mk hm
        clear hw4 hm
        refine hK.out _ _ ⟨(cell_of (HF.out _ HS.out.bel) rfl), (cell_of (HF.out _ HS.out.bel) rfl)⟩ (fun hHeld => ?_)
        clear hK K
        refine norm_ (a' := ?_) ?_ ?_
        rotate_left
        · show Act.put _ (some 27) _ = _
          simp only [Act.put, List.setIfInBounds_toArray, List.set_cons_zero, List.set_cons_succ, i64_w, i32_w]
          rfl
        exact norm_ (by first | (simp only [putAll, Act.put, List.setIfInBounds_toArray, List.set_cons_zero, List.set_cons_succ]; done) | (simp only [putAll, Act.put, List.setIfInBounds_toArray, List.set_cons_zero, List.set_cons_succ]; rfl)) (hCont (_, _) _ HS.out)
      · skip
        refine value_ (w1 := ?_) (v := ?_) (by rfl) rfl ?_ ?_
        rotate_left 2
        · go_simp
          constructor
          · rfl
          · rfl
        obtain ⟨w4, hw4, hm⟩ := HS.out.lit
        refine toK hw4 ?_
        have HS := Aside0.mk hm
        clear hw4 hm
        refine hK.out _ _ ⟨(cell_of (HF.out _ HS.out.bel) rfl), (cell_of (HF.out _ HS.out.bel) rfl)⟩ (fun hHeld => ?_)
        clear hK K
        refine norm_ (a' := ?_) ?_ ?_
        rotate_left
        · show Act.put _ (some 27) _ = _
          simp only [Act.put, List.setIfInBounds_toArray, List.set_cons_zero, List.set_cons_succ, i64_w, i32_w]
          rfl
        refine one_ (i := 1) (N := some 25) #[true, true, true, true, false, false] rfl rfl (by kernel_rfl) (by decide) (fun K hK => ?_)
        refine rows_step k39 (w0 := W5) W5.heap.size (by rfl) (.const (.slice none 0 0)) (.tmp 24) 22 39 (.agg #[.string ⟨#[]⟩, .string ⟨#[]⟩]) 32 rfl Try.underlying22 info39 rfl (by decide) (by decide) (.slice none 0 0) [] l A l.length c (fun _ => True) (fun _ => False) rfl rfl (Kd.R_nil _ _ _ _ _) (HCW.out _ HS.out.bel) (fun x cs h => k39_KM h) (fun _ h => h.elim) (fun _ _ => trivial) HS.out.bel HS.out.bel.size (by have := HLT.out.2.2; simp; omega) ?_
        intro v1 w1 ho hb hg hat
        have HS := Aside0.mk (HS.out.own ho hb hg)
        clear ho hb hg hat
        refine hK.out _ _ ⟨(cell_of (HF.out _ HS.out.bel) rfl), (cell_of (HF.out _ HS.out.bel) rfl)⟩ (fun hHeld => ?_)
        clear hK K
        refine norm_ (a' := ?_) ?_ ?_
        rotate_left
        · show Act.put _ (some 25) _ = _
          simp only [Act.put, List.setIfInBounds_toArray, List.set_cons_zero, List.set_cons_succ, i64_w, i32_w]
          rfl
        exact norm_ (by first | (simp only [putAll, Act.put, List.setIfInBounds_toArray, List.set_cons_zero, List.set_cons_succ]; done) | (simp only [putAll, Act.put, List.setIfInBounds_toArray, List.set_cons_zero, List.set_cons_succ]; rfl)) (hCont (_, _) _ HS.out)
    rintro ⟨vv, gl⟩ w' hm
    have HS := Aside0.mk hm
    clear hm
    have hHeld : w'.cell? ⟨gf, 0, none⟩ = some (.string f.f0) ∧ w'.cell? ⟨gf, 1, none⟩ = some (.string f.f1) := ⟨(cell_of (HF.out _ HS.out.bel) rfl), (cell_of (HF.out _ HS.out.bel) rfl)⟩
    refine norm_ (a' := ?_) ?_ ?_
    rotate_left
    · simp only [putAll, Act.put, List.setIfInBounds_toArray, List.set_cons_zero, List.set_cons_succ]
      rfl
    refine one_ (i := 4) (N := some 28) #[true, true, true, true, true, false] rfl rfl (by kernel_rfl) (by decide) (fun K hK => ?_)
    refine rows_step k39 (w0 := W5) W5.heap.size (by rfl) (.tmp 25) (.tmp 27) 22 39 (.agg #[.string ⟨#[]⟩, .string ⟨#[]⟩]) 32 rfl Try.underlying22 info39 rfl (by decide) (by decide) vv l [f] (some ⟨gl, 0, none⟩) 1 1 (fun _ => True) (fun _ => False) rfl rfl (HS.out.hx vv rfl) (one_field (HS.out.hy gl rfl)) (fun x cs h => k39_KM h) (fun _ h => h.elim) (fun _ _ => trivial) HS.out.bel HS.out.bel.size (by have := HLT.out.2.2; simp; omega) ?_
    intro v8 w8 ho hb hg hat
    have HO8 := Aside0.mk ho
    have HB8 := Aside0.mk hb
    clear ho hb hg hat
    refine hK.out _ _ ⟨(cell_of (HF.out _ HB8.out) rfl), (cell_of (HF.out _ HB8.out) rfl)⟩ (fun hHeld => ?_)
    clear hK K
    refine norm_ (a' := ?_) ?_ ?_
    rotate_left
    · show Act.put _ (some 28) _ = _
      simp only [Act.put, List.setIfInBounds_toArray, List.set_cons_zero, List.set_cons_succ, i64_w, i32_w]
      rfl
    refine pure_ (i := 5) (N := some 8) (v := ?_) (a' := ?_) #[true, true, true, true, true, true] rfl rfl (by kernel_rfl) (fun _ _ _ h => h) (Or.inl ⟨by rfl, ?_⟩) ?_ ?_
    rotate_left
    · intro w'
      go_simp
      with_reducible rfl
    rotate_left
    · simp only [Act.put, List.setIfInBounds_toArray, List.set_cons_zero, List.set_cons_succ, i64_w, i32_w]
      rfl
    refine done_ (by kernel_rfl) ?_
    have d0 : w8.cell? ⟨gf, 0, none⟩ = some (.string f.f0) := cell_of (HF.out _ HB8.out) rfl
    have d1 : w8.cell? ⟨gf, 1, none⟩ = some (.string f.f1) := cell_of (HF.out _ HB8.out) rfl
    cases b
    · clear d0 d1
      go_upto_region 9 with (fail)
      obtain ⟨A8, c8, rfl⟩ := Kd.R_slice HO8.out
      obtain ⟨_, hc8, hC8⟩ := Kd.R_reads' HO8.out
      have HXW := Aside0.mk (HW.out _ HB8.out)
      have hmem : wordF 0 ∈ l ++ [f] := by rw [← HWF.out]; simp
      have hlx : LightL (l ++ [f]) 40 := light_snoc HLT.out HWF.out (fun g hg => by simpa using hg) (by simp; have := HLT.out.2.2; omega)
      obtain ⟨x, hx⟩ : ∃ x, x = l ++ [f] := ⟨_, rfl⟩
      rw [← hx] at hc8 hC8 hmem hlx
      rw [← hx]
      have m1 := fun W (hW : Below w8.heap.size w8 W) => policy_May.calls 20000 getB ⟨#[]⟩ none 0 [] none 0 [] 200 ⟨#[]⟩ A8 c8 x none 0 [] false W (Kd.C_nil _ _) (Nat.le_refl _) (Kd.C_nil _ _) (Nat.le_refl _) (Kd.C_below hC8 hW) hc8 (Kd.C_nil _ _) (Nat.le_refl _) (word_may getB ⟨#[]⟩ [] [] 200 ⟨#[]⟩ x [] light_nil hlx 0 (by decide) hmem)
      have M1 := Aside0.mk m1
      have m2 := fun W (hW : Below w8.heap.size w8 W) => policy_May.calls 20000 getB ⟨#[]⟩ A8 c8 x none 0 [] 200 ⟨#[]⟩ none 0 [] none 0 [] false W (Kd.C_below hC8 hW) hc8 (Kd.C_nil _ _) (Nat.le_refl _) (Kd.C_nil _ _) (Nat.le_refl _) (Kd.C_nil _ _) (Nat.le_refl _) (word_ask getB ⟨#[]⟩ x [] 200 ⟨#[]⟩ [] [] hlx light_nil 0 (by decide) hmem)
      have M2 := Aside0.mk m2
      clear m2
      clear hc8 hC8 hmem hlx hx m1
      have HBZ := Aside0.mk (fun o : Obj => ((Below.refl w8.heap.size w8).alloc (Nat.le_refl _) o))
      generalize x.length = n at M1 M2 ⊢
      go_upto_region 12 with (first | (go_at_call 13; refine (M1.out _ (HBZ.out _)).mono ?_; rintro e w11 ⟨rfl, hb⟩; have HBb := Aside0.mk hb; clear hb) | fail)
      have BK := Aside0.mk (show w11.heap[w8.heap.size]? = some (.cells #[.string ⟨#[71, 69, 84]⟩, .string ⟨#[]⟩, .slice none 0 0, .slice none 0 0] 25 (0, 0)) from blk_call HBb.out (heap_alloc_new _ _))
      have HBT := Aside0.mk (show Below w8.heap.size w8 w11 from (HBZ.out _).trans (HBb.out.mono (by simp)))
      clear HBb HBZ M1
      have hcz0 : w11.cell? ⟨w8.heap.size, 0, none⟩ = some (.string ⟨#[71, 69, 84]⟩) := (blk_cell BK.out 0).trans rfl
      have hcz1 : w11.cell? ⟨w8.heap.size, 1, none⟩ = some (.string ⟨#[]⟩) := (blk_cell BK.out 1).trans rfl
      have hcz2 : w11.cell? ⟨w8.heap.size, 2, none⟩ = some (.slice none 0 0) := (blk_cell BK.out 2).trans rfl
      have hcz3 : w11.cell? ⟨w8.heap.size, 3, none⟩ = some (.slice none 0 0) := (blk_cell BK.out 3).trans rfl
      have hfz2 := blk_frozen BK.out 2
      have HST := Aside0.mk (show Below w8.heap.size w8 (w11.setCell ⟨w8.heap.size, 2, none⟩ (.slice A8 n c8)) from Below.setCell HBT.out (Nat.le_refl _) _)
      go_wp2_with (first | (go_at_call 13; refine (M2.out _ HST.out).mono ?_; rintro e w12 ⟨rfl, hb⟩; have HB12 := Aside0.mk hb; clear hb) | fail)
      go_ret
      exact ⟨rfl, HXW.out.trans ((HST.out.trans (HB12.out.mono HST.out.size)).mono HXW.out.size)⟩
    · go_upto_region 9 with (first | ((with_reducible refine gate_dst (N := 31) rfl ?_); refine Kd.R_lit k39 (w0 := W5) W5.heap.size 39 ?hg (N := 31) ?hd (xs := [f]) (inner := [.string f.f0, .string f.f1]) (ok := fun _ => True) (okp := fun _ => True) ?hr ?hp (fun _ hk => hk) trivial HB8.out HB8.out.size (by simp) ?_; (case hd => rfl); (case hg => rfl); (case hr => first | (go_simp; done) | (go_simp; rfl)); (case hp => exact Reps.c2 (show Kd.M k39 _ _ _ f [.string f.f0, .string f.f1] from k39_mkM _ _ _ f) (Reps.none _ _)); intro v9 w9 ho hb hg hat; have HO9 := Aside0.mk ho; have HB9 := Aside0.mk hb; clear ho hb hg hat) | (at_builtin; (with_reducible refine gate_builtin (b := .append) (xs := #[.tmp 31, .tmp 32]) rfl ?_); refine Kd.R_append_rows k39 (w0 := W5) W5.heap.size rfl (.tmp 31) (.tmp 32) 22 39 (.agg #[.string ⟨#[]⟩, .string ⟨#[]⟩]) 32 rfl Try.underlying22 info39 rfl (by decide) (by decide) v9 [f] l A l.length c (fun _ => True) (fun _ => False) rfl rfl HO9.out (HCW.out _ HB9.out) (fun x cs h => k39_KM h) (fun _ h => h.elim) (fun _ _ => trivial) HB9.out HB9.out.size (by have := HLT.out.2.2; simp; omega) ?_; intro v10 w10 ho hb hg hat; have HO10 := Aside0.mk ho; have HB10 := Aside0.mk hb; clear ho hb hg hat) | fail)
      obtain ⟨A8, c8, rfl⟩ := Kd.R_slice HO10.out
      obtain ⟨_, hc8, hC8⟩ := Kd.R_reads' HO10.out
      have HXW := Aside0.mk (HW.out _ HB10.out)
      have hmem : wordF 0 ∈ [f] ++ l := by rw [← HWF.out]; simp
      have hlx : LightL ([f] ++ l) 40 := light_snoc HLT.out HWF.out (fun g hg => by have := hg; simp at this ⊢; rcases this with h | h; exact .inr h; exact .inl h) (by simp; have := HLT.out.2.2; omega)
      obtain ⟨x, hx⟩ : ∃ x, x = [f] ++ l := ⟨_, rfl⟩
      rw [← hx] at hc8 hC8 hmem hlx
      rw [← hx]
      have m1 := fun W (hW : Below w10.heap.size w10 W) => policy_May.calls 20000 getB ⟨#[]⟩ none 0 [] none 0 [] 200 ⟨#[]⟩ A8 c8 x none 0 [] false W (Kd.C_nil _ _) (Nat.le_refl _) (Kd.C_nil _ _) (Nat.le_refl _) (Kd.C_below hC8 hW) hc8 (Kd.C_nil _ _) (Nat.le_refl _) (word_may getB ⟨#[]⟩ [] [] 200 ⟨#[]⟩ x [] light_nil hlx 0 (by decide) hmem)
      have M1 := Aside0.mk m1
      have m2 := fun W (hW : Below w10.heap.size w10 W) => policy_May.calls 20000 getB ⟨#[]⟩ A8 c8 x none 0 [] 200 ⟨#[]⟩ none 0 [] none 0 [] false W (Kd.C_below hC8 hW) hc8 (Kd.C_nil _ _) (Nat.le_refl _) (Kd.C_nil _ _) (Nat.le_refl _) (Kd.C_nil _ _) (Nat.le_refl _) (word_ask getB ⟨#[]⟩ x [] 200 ⟨#[]⟩ [] [] hlx light_nil 0 (by decide) hmem)
      have M2 := Aside0.mk m2
      clear m2
      clear hc8 hC8 hmem hlx hx m1
      have HBZ := Aside0.mk (fun o : Obj => ((Below.refl w10.heap.size w10).alloc (Nat.le_refl _) o))
      generalize x.length = n at M1 M2 ⊢
      go_upto_region 12 with (first | (go_at_call 13; refine (M1.out _ (HBZ.out _)).mono ?_; rintro e w11 ⟨rfl, hb⟩; have HBb := Aside0.mk hb; clear hb) | fail)
      have BK := Aside0.mk (show w11.heap[w10.heap.size]? = some (.cells #[.string ⟨#[71, 69, 84]⟩, .string ⟨#[]⟩, .slice none 0 0, .slice none 0 0] 25 (0, 0)) from blk_call HBb.out (heap_alloc_new _ _))
      have HBT := Aside0.mk (show Below w10.heap.size w10 w11 from (HBZ.out _).trans (HBb.out.mono (by simp)))
      clear HBb HBZ M1
      have hcz0 : w11.cell? ⟨w10.heap.size, 0, none⟩ = some (.string ⟨#[71, 69, 84]⟩) := (blk_cell BK.out 0).trans rfl
      have hcz1 : w11.cell? ⟨w10.heap.size, 1, none⟩ = some (.string ⟨#[]⟩) := (blk_cell BK.out 1).trans rfl
      have hcz2 : w11.cell? ⟨w10.heap.size, 2, none⟩ = some (.slice none 0 0) := (blk_cell BK.out 2).trans rfl
      have hcz3 : w11.cell? ⟨w10.heap.size, 3, none⟩ = some (.slice none 0 0) := (blk_cell BK.out 3).trans rfl
      have hfz2 := blk_frozen BK.out 2
      have HST := Aside0.mk (show Below w10.heap.size w10 (w11.setCell ⟨w10.heap.size, 2, none⟩ (.slice A8 n c8)) from Below.setCell HBT.out (Nat.le_refl _) _)
      go_wp2_with (first | (go_at_call 13; refine (M2.out _ HST.out).mono ?_; rintro e w12 ⟨rfl, hb⟩; have HB12 := Aside0.mk hb; clear hb) | fail)
      go_ret
      exact ⟨rfl, HXW.out.trans ((HST.out.trans (HB12.out.mono HST.out.size)).mono HXW.out.size)⟩
  · skip
    have HBW := Aside0.mk ((HB2.out.alloc HB2.out.size wordsRow).alloc (by have := HB2.out.size; simp; omega) (wordObj 1))
    have hnew := heap_alloc_new (w2.alloc wordsRow) (wordObj 1)
    rw [show (w2.alloc wordsRow).heap.size = w2.heap.size + 1 from by simp] at hnew
    obtain ⟨W5, hw5⟩ : ∃ W5, W5 = (w2.alloc wordsRow).alloc (wordObj 1) := ⟨_, rfl⟩
    rw [← hw5] at HBW hnew
    refine toW hw5 ?_
    obtain ⟨f, hf⟩ : ∃ f, f = wordF 1 := ⟨_, rfl⟩
    rw [show wordObj 1 = .cells #[.string f.f0, .string f.f1] 39 from by rw [hf]; rfl] at hnew
    have HWF := Aside0.mk hf
    generalize w2.heap.size + 1 = gf at hnew ⊢
    have HF := Aside0.mk (fun W (h : Below W5.heap.size W5 W) => show W.heap[gf]? = some (.cells #[.string f.f0, .string f.f1] 39 (0, 0)) from (h.block _ (blk_in hnew)).trans hnew)
    have HW := Aside0.mk (fun W (h : Below W5.heap.size W5 W) => show Below w.heap.size w W from HBW.out.trans (h.mono HBW.out.size))
    have HCW := Aside0.mk (fun W (h : Below W5.heap.size W5 W) => HCC.out W (HW.out W h))
    have HB5d := Aside0.mk (show Below W5.heap.size W5 W5.drew from pw_below_drewN (Below.refl _ _) 1)
    have HS := Aside0.mk (show WordS W5 W5.drew f l none none from { bel := HB5d.out, hx := fun v hv => (by cases hv), hy := fun g hg => (by cases hg) })
    clear hnew hw5 hf HB2 HB
    refine start_ (n := 6) (S := fun w' => w'.cell? ⟨gf, 0, none⟩ = some (.string f.f0) ∧ w'.cell? ⟨gf, 1, none⟩ = some (.string f.f1)) (ds := []) #[false, false, false, false, false, false] (by kernel_rfl) rfl rfl ⟨(cell_of (HF.out _ HB5d.out) rfl), (cell_of (HF.out _ HB5d.out) rfl)⟩ (fun hHeld => ?_)
    generalize W5.drew = w5d at HS hHeld ⊢
    refine pure_ (i := 0) (N := some 24) (v := ?_) (a' := ?_) #[true, false, false, false, false, false] rfl rfl (by kernel_rfl) (fun _ _ _ h => h) (Or.inl ⟨by rfl, ?_⟩) ?_ ?_
    rotate_left
    · intro w'
      go_simp
      with_reducible rfl
    rotate_left
    · simp only [Act.put, List.setIfInBounds_toArray, List.set_cons_zero, List.set_cons_succ, i64_w, i32_w]
      rfl
    refine take_ (i := 2) (N := some 26) (v := ?_) (a' := ?_) #[true, false, true, false, false, false] rfl rfl (by kernel_rfl) (fun _ _ _ h => h) (Or.inl ⟨by rfl, ?_⟩) hHeld ?_ ?_
    rotate_left
    · rintro w' ⟨s0, s1⟩
      go_simp
      with_reducible rfl
    rotate_left
    · simp only [Act.put, List.setIfInBounds_toArray, List.set_cons_zero, List.set_cons_succ, i64_w, i32_w]
      rfl
    refine join_ (σ := Value × Nat) 2 #[true, true, true, true, false, false] (fun s => [(25, s.1), (27, .slice (some ⟨s.2, 0, none⟩) 1 1)]) (fun s w' => WordS W5 w' f l (some s.1) (some s.2)) ?_ ?_
    rotate_left
    · intro hCont
      refine two_ (i := 1) (j := 3) (Ni := some 25) (Nj := some 27) #[true, true, true, false, false, false] #[true, false, true, true, false, false] rfl rfl rfl rfl (by kernel_rfl) (by decide) (by decide) (fun K hK => ?_) (fun K hK => ?_)
      · skip
        refine rows_step k39 (w0 := W5) W5.heap.size (by rfl) (.const (.slice none 0 0)) (.tmp 24) 22 39 (.agg #[.string ⟨#[]⟩, .string ⟨#[]⟩]) 32 rfl Try.underlying22 info39 rfl (by decide) (by decide) (.slice none 0 0) [] l A l.length c (fun _ => True) (fun _ => False) rfl rfl (Kd.R_nil _ _ _ _ _) (HCW.out _ HS.out.bel) (fun x cs h => k39_KM h) (fun _ h => h.elim) (fun _ _ => trivial) HS.out.bel HS.out.bel.size (by have := HLT.out.2.2; simp; omega) ?_
        intro v1 w1 ho hb hg hat
        have HS := Aside0.mk (HS.out.own ho hb hg)
        clear ho hb hg hat
        refine hK.out _ _ ⟨(cell_of (HF.out _ HS.out.bel) rfl), (cell_of (HF.out _ HS.out.bel) rfl)⟩ (fun hHeld => ?_)
        clear hK K
        refine norm_ (a' := ?_) ?_ ?_
        rotate_left
        · show Act.put _ (some 25) _ = _
          simp only [Act.put, List.setIfInBounds_toArray, List.set_cons_zero, List.set_cons_succ, i64_w, i32_w]
          rfl
        refine one_ (i := 3) (N := some 27) #[true, true, true, true, false, false] rfl rfl (by kernel_rfl) (by decide) (fun K hK => ?_)
        refine value_ (w1 := ?_) (v := ?_) (by rfl) rfl ?_ ?_
        rotate_left 2
        · go_simp
          constructor
          · rfl
          · rfl
        obtain ⟨w4, hw4, hm⟩ := HS.out.lit
        refine toK hw4 ?_
        have HS := Aside0.mk hm
        clear hw4 hm
        refine hK.out _ _ ⟨(cell_of (HF.out _ HS.out.bel) rfl), (cell_of (HF.out _ HS.out.bel) rfl)⟩ (fun hHeld => ?_)
        clear hK K
        refine norm_ (a' := ?_) ?_ ?_
        rotate_left
        · show Act.put _ (some 27) _ = _
          simp only [Act.put, List.setIfInBounds_toArray, List.set_cons_zero, List.set_cons_succ, i64_w, i32_w]
          rfl
        exact norm_ (by first | (simp only [putAll, Act.put, List.setIfInBounds_toArray, List.set_cons_zero, List.set_cons_succ]; done) | (simp only [putAll, Act.put, List.setIfInBounds_toArray, List.set_cons_zero, List.set_cons_succ]; rfl)) (hCont (_, _) _ HS.out)
      · skip
        refine value_ (w1 := ?_) (v := ?_) (by rfl) rfl ?_ ?_
        rotate_left 2
        · go_simp
          constructor
          · rfl
          · rfl
        obtain ⟨w4, hw4, hm⟩ := HS.out.lit
        refine toK hw4 ?_
        have HS := Aside0.mk hm
        clear hw4 hm
        refine hK.out _ _ ⟨(cell_of (HF.out _ HS.out.bel) rfl), (cell_of (HF.out _ HS.out.bel) rfl)⟩ (fun hHeld => ?_)
        clear hK K
        refine norm_ (a' := ?_) ?_ ?_
        rotate_left
        · show Act.put _ (some 27) _ = _
          simp only [Act.put, List.setIfInBounds_toArray, List.set_cons_zero, List.set_cons_succ, i64_w, i32_w]
          rfl
        refine one_ (i := 1) (N := some 25) #[true, true, true, true, false, false] rfl rfl (by kernel_rfl) (by decide) (fun K hK => ?_)
        refine rows_step k39 (w0 := W5) W5.heap.size (by rfl) (.const (.slice none 0 0)) (.tmp 24) 22 39 (.agg #[.string ⟨#[]⟩, .string ⟨#[]⟩]) 32 rfl Try.underlying22 info39 rfl (by decide) (by decide) (.slice none 0 0) [] l A l.length c (fun _ => True) (fun _ => False) rfl rfl (Kd.R_nil _ _ _ _ _) (HCW.out _ HS.out.bel) (fun x cs h => k39_KM h) (fun _ h => h.elim) (fun _ _ => trivial) HS.out.bel HS.out.bel.size (by have := HLT.out.2.2; simp; omega) ?_
        intro v1 w1 ho hb hg hat
        have HS := Aside0.mk (HS.out.own ho hb hg)
        clear ho hb hg hat
        refine hK.out _ _ ⟨(cell_of (HF.out _ HS.out.bel) rfl), (cell_of (HF.out _ HS.out.bel) rfl)⟩ (fun hHeld => ?_)
        clear hK K
        refine norm_ (a' := ?_) ?_ ?_
        rotate_left
        · show Act.put _ (some 25) _ = _
          simp only [Act.put, List.setIfInBounds_toArray, List.set_cons_zero, List.set_cons_succ, i64_w, i32_w]
          rfl
        exact norm_ (by first | (simp only [putAll, Act.put, List.setIfInBounds_toArray, List.set_cons_zero, List.set_cons_succ]; done) | (simp only [putAll, Act.put, List.setIfInBounds_toArray, List.set_cons_zero, List.set_cons_succ]; rfl)) (hCont (_, _) _ HS.out)
    rintro ⟨vv, gl⟩ w' hm
    have HS := Aside0.mk hm
    clear hm
    have hHeld : w'.cell? ⟨gf, 0, none⟩ = some (.string f.f0) ∧ w'.cell? ⟨gf, 1, none⟩ = some (.string f.f1) := ⟨(cell_of (HF.out _ HS.out.bel) rfl), (cell_of (HF.out _ HS.out.bel) rfl)⟩
    refine norm_ (a' := ?_) ?_ ?_
    rotate_left
    · simp only [putAll, Act.put, List.setIfInBounds_toArray, List.set_cons_zero, List.set_cons_succ]
      rfl
    refine one_ (i := 4) (N := some 28) #[true, true, true, true, true, false] rfl rfl (by kernel_rfl) (by decide) (fun K hK => ?_)
    refine rows_step k39 (w0 := W5) W5.heap.size (by rfl) (.tmp 25) (.tmp 27) 22 39 (.agg #[.string ⟨#[]⟩, .string ⟨#[]⟩]) 32 rfl Try.underlying22 info39 rfl (by decide) (by decide) vv l [f] (some ⟨gl, 0, none⟩) 1 1 (fun _ => True) (fun _ => False) rfl rfl (HS.out.hx vv rfl) (one_field (HS.out.hy gl rfl)) (fun x cs h => k39_KM h) (fun _ h => h.elim) (fun _ _ => trivial) HS.out.bel HS.out.bel.size (by have := HLT.out.2.2; simp; omega) ?_
    intro v8 w8 ho hb hg hat
    have HO8 := Aside0.mk ho
    have HB8 := Aside0.mk hb
    clear ho hb hg hat
    refine hK.out _ _ ⟨(cell_of (HF.out _ HB8.out) rfl), (cell_of (HF.out _ HB8.out) rfl)⟩ (fun hHeld => ?_)
    clear hK K
    refine norm_ (a' := ?_) ?_ ?_
    rotate_left
    · show Act.put _ (some 28) _ = _
      simp only [Act.put, List.setIfInBounds_toArray, List.set_cons_zero, List.set_cons_succ, i64_w, i32_w]
      rfl
    refine pure_ (i := 5) (N := some 8) (v := ?_) (a' := ?_) #[true, true, true, true, true, true] rfl rfl (by kernel_rfl) (fun _ _ _ h => h) (Or.inl ⟨by rfl, ?_⟩) ?_ ?_
    rotate_left
    · intro w'
      go_simp
      with_reducible rfl
    rotate_left
    · simp only [Act.put, List.setIfInBounds_toArray, List.set_cons_zero, List.set_cons_succ, i64_w, i32_w]
      rfl
    refine done_ (by kernel_rfl) ?_
    have d0 : w8.cell? ⟨gf, 0, none⟩ = some (.string f.f0) := cell_of (HF.out _ HB8.out) rfl
    have d1 : w8.cell? ⟨gf, 1, none⟩ = some (.string f.f1) := cell_of (HF.out _ HB8.out) rfl
    cases b
    · clear d0 d1
      go_upto_region 9 with (fail)
      obtain ⟨A8, c8, rfl⟩ := Kd.R_slice HO8.out
      obtain ⟨_, hc8, hC8⟩ := Kd.R_reads' HO8.out
      have HXW := Aside0.mk (HW.out _ HB8.out)
      have hmem : wordF 1 ∈ l ++ [f] := by rw [← HWF.out]; simp
      have hlx : LightL (l ++ [f]) 40 := light_snoc HLT.out HWF.out (fun g hg => by simpa using hg) (by simp; have := HLT.out.2.2; omega)
      obtain ⟨x, hx⟩ : ∃ x, x = l ++ [f] := ⟨_, rfl⟩
      rw [← hx] at hc8 hC8 hmem hlx
      rw [← hx]
      have m1 := fun W (hW : Below w8.heap.size w8 W) => policy_May.calls 20000 getB ⟨#[]⟩ none 0 [] none 0 [] 200 ⟨#[]⟩ A8 c8 x none 0 [] false W (Kd.C_nil _ _) (Nat.le_refl _) (Kd.C_nil _ _) (Nat.le_refl _) (Kd.C_below hC8 hW) hc8 (Kd.C_nil _ _) (Nat.le_refl _) (word_may getB ⟨#[]⟩ [] [] 200 ⟨#[]⟩ x [] light_nil hlx 1 (by decide) hmem)
      have M1 := Aside0.mk m1
      clear hc8 hC8 hmem hlx hx m1
      have HBZ := Aside0.mk (fun o : Obj => ((Below.refl w8.heap.size w8).alloc (Nat.le_refl _) o))
      generalize x.length = n at M1 ⊢
      go_upto_region 12 with (first | (go_at_call 13; refine (M1.out _ (HBZ.out _)).mono ?_; rintro e w11 ⟨rfl, hb⟩; have HBb := Aside0.mk hb; clear hb) | fail)
      have BK := Aside0.mk (show w11.heap[w8.heap.size]? = some (.cells #[.string ⟨#[71, 69, 84]⟩, .string ⟨#[]⟩, .slice none 0 0, .slice none 0 0] 25 (0, 0)) from blk_call HBb.out (heap_alloc_new _ _))
      have HBT := Aside0.mk (show Below w8.heap.size w8 w11 from (HBZ.out _).trans (HBb.out.mono (by simp)))
      clear HBb HBZ M1
      go_wp2
      go_ret
      exact ⟨rfl, HXW.out.trans (HBT.out.mono HXW.out.size)⟩
    · go_upto_region 9 with (first | ((with_reducible refine gate_dst (N := 31) rfl ?_); refine Kd.R_lit k39 (w0 := W5) W5.heap.size 39 ?hg (N := 31) ?hd (xs := [f]) (inner := [.string f.f0, .string f.f1]) (ok := fun _ => True) (okp := fun _ => True) ?hr ?hp (fun _ hk => hk) trivial HB8.out HB8.out.size (by simp) ?_; (case hd => rfl); (case hg => rfl); (case hr => first | (go_simp; done) | (go_simp; rfl)); (case hp => exact Reps.c2 (show Kd.M k39 _ _ _ f [.string f.f0, .string f.f1] from k39_mkM _ _ _ f) (Reps.none _ _)); intro v9 w9 ho hb hg hat; have HO9 := Aside0.mk ho; have HB9 := Aside0.mk hb; clear ho hb hg hat) | (at_builtin; (with_reducible refine gate_builtin (b := .append) (xs := #[.tmp 31, .tmp 32]) rfl ?_); refine Kd.R_append_rows k39 (w0 := W5) W5.heap.size rfl (.tmp 31) (.tmp 32) 22 39 (.agg #[.string ⟨#[]⟩, .string ⟨#[]⟩]) 32 rfl Try.underlying22 info39 rfl (by decide) (by decide) v9 [f] l A l.length c (fun _ => True) (fun _ => False) rfl rfl HO9.out (HCW.out _ HB9.out) (fun x cs h => k39_KM h) (fun _ h => h.elim) (fun _ _ => trivial) HB9.out HB9.out.size (by have := HLT.out.2.2; simp; omega) ?_; intro v10 w10 ho hb hg hat; have HO10 := Aside0.mk ho; have HB10 := Aside0.mk hb; clear ho hb hg hat) | fail)
      obtain ⟨A8, c8, rfl⟩ := Kd.R_slice HO10.out
      obtain ⟨_, hc8, hC8⟩ := Kd.R_reads' HO10.out
      have HXW := Aside0.mk (HW.out _ HB10.out)
      have hmem : wordF 1 ∈ [f] ++ l := by rw [← HWF.out]; simp
      have hlx : LightL ([f] ++ l) 40 := light_snoc HLT.out HWF.out (fun g hg => by have := hg; simp at this ⊢; rcases this with h | h; exact .inr h; exact .inl h) (by simp; have := HLT.out.2.2; omega)
      obtain ⟨x, hx⟩ : ∃ x, x = [f] ++ l := ⟨_, rfl⟩
      rw [← hx] at hc8 hC8 hmem hlx
      rw [← hx]
      have m1 := fun W (hW : Below w10.heap.size w10 W) => policy_May.calls 20000 getB ⟨#[]⟩ none 0 [] none 0 [] 200 ⟨#[]⟩ A8 c8 x none 0 [] false W (Kd.C_nil _ _) (Nat.le_refl _) (Kd.C_nil _ _) (Nat.le_refl _) (Kd.C_below hC8 hW) hc8 (Kd.C_nil _ _) (Nat.le_refl _) (word_may getB ⟨#[]⟩ [] [] 200 ⟨#[]⟩ x [] light_nil hlx 1 (by decide) hmem)
      have M1 := Aside0.mk m1
      clear hc8 hC8 hmem hlx hx m1
      have HBZ := Aside0.mk (fun o : Obj => ((Below.refl w10.heap.size w10).alloc (Nat.le_refl _) o))
      generalize x.length = n at M1 ⊢
      go_upto_region 12 with (first | (go_at_call 13; refine (M1.out _ (HBZ.out _)).mono ?_; rintro e w11 ⟨rfl, hb⟩; have HBb := Aside0.mk hb; clear hb) | fail)
      have BK := Aside0.mk (show w11.heap[w10.heap.size]? = some (.cells #[.string ⟨#[71, 69, 84]⟩, .string ⟨#[]⟩, .slice none 0 0, .slice none 0 0] 25 (0, 0)) from blk_call HBb.out (heap_alloc_new _ _))
      have HBT := Aside0.mk (show Below w10.heap.size w10 w11 from (HBZ.out _).trans (HBb.out.mono (by simp)))
      clear HBb HBZ M1
      go_wp2
      go_ret
      exact ⟨rfl, HXW.out.trans (HBT.out.mono HXW.out.size)⟩
  · skip
    have HBW := Aside0.mk ((HB2.out.alloc HB2.out.size wordsRow).alloc (by have := HB2.out.size; simp; omega) (wordObj 2))
    have hnew := heap_alloc_new (w2.alloc wordsRow) (wordObj 2)
    rw [show (w2.alloc wordsRow).heap.size = w2.heap.size + 1 from by simp] at hnew
    obtain ⟨W5, hw5⟩ : ∃ W5, W5 = (w2.alloc wordsRow).alloc (wordObj 2) := ⟨_, rfl⟩
    rw [← hw5] at HBW hnew
    refine toW hw5 ?_
    obtain ⟨f, hf⟩ : ∃ f, f = wordF 2 := ⟨_, rfl⟩
    rw [show wordObj 2 = .cells #[.string f.f0, .string f.f1] 39 from by rw [hf]; rfl] at hnew
    have HWF := Aside0.mk hf
    generalize w2.heap.size + 1 = gf at hnew ⊢
    have HF := Aside0.mk (fun W (h : Below W5.heap.size W5 W) => show W.heap[gf]? = some (.cells #[.string f.f0, .string f.f1] 39 (0, 0)) from (h.block _ (blk_in hnew)).trans hnew)
    have HW := Aside0.mk (fun W (h : Below W5.heap.size W5 W) => show Below w.heap.size w W from HBW.out.trans (h.mono HBW.out.size))
    have HCW := Aside0.mk (fun W (h : Below W5.heap.size W5 W) => HCC.out W (HW.out W h))
    have HB5d := Aside0.mk (show Below W5.heap.size W5 W5.drew from pw_below_drewN (Below.refl _ _) 1)
    have HS := Aside0.mk (show WordS W5 W5.drew f l none none from { bel := HB5d.out, hx := fun v hv => (by cases hv), hy := fun g hg => (by cases hg) })
    clear hnew hw5 hf HB2 HB
    refine start_ (n := 6) (S := fun w' => w'.cell? ⟨gf, 0, none⟩ = some (.string f.f0) ∧ w'.cell? ⟨gf, 1, none⟩ = some (.string f.f1)) (ds := []) #[false, false, false, false, false, false] (by kernel_rfl) rfl rfl ⟨(cell_of (HF.out _ HB5d.out) rfl), (cell_of (HF.out _ HB5d.out) rfl)⟩ (fun hHeld => ?_)
    generalize W5.drew = w5d at HS hHeld ⊢
    refine pure_ (i := 0) (N := some 24) (v := ?_) (a' := ?_) #[true, false, false, false, false, false] rfl rfl (by kernel_rfl) (fun _ _ _ h => h) (Or.inl ⟨by rfl, ?_⟩) ?_ ?_
    rotate_left
    · intro w'
      go_simp
      with_reducible rfl
    rotate_left
    · simp only [Act.put, List.setIfInBounds_toArray, List.set_cons_zero, List.set_cons_succ, i64_w, i32_w]
      rfl
    refine take_ (i := 2) (N := some 26) (v := ?_) (a' := ?_) #[true, false, true, false, false, false] rfl rfl (by kernel_rfl) (fun _ _ _ h => h) (Or.inl ⟨by rfl, ?_⟩) hHeld ?_ ?_
    rotate_left
    · rintro w' ⟨s0, s1⟩
      go_simp
      with_reducible rfl
    rotate_left
    · simp only [Act.put, List.setIfInBounds_toArray, List.set_cons_zero, List.set_cons_succ, i64_w, i32_w]
      rfl
    refine join_ (σ := Value × Nat) 2 #[true, true, true, true, false, false] (fun s => [(25, s.1), (27, .slice (some ⟨s.2, 0, none⟩) 1 1)]) (fun s w' => WordS W5 w' f l (some s.1) (some s.2)) ?_ ?_
    rotate_left
    · intro hCont
      refine two_ (i := 1) (j := 3) (Ni := some 25) (Nj := some 27) #[true, true, true, false, false, false] #[true, false, true, true, false, false] rfl rfl rfl rfl (by kernel_rfl) (by decide) (by decide) (fun K hK => ?_) (fun K hK => ?_)
      · skip
        refine rows_step k39 (w0 := W5) W5.heap.size (by rfl) (.const (.slice none 0 0)) (.tmp 24) 22 39 (.agg #[.string ⟨#[]⟩, .string ⟨#[]⟩]) 32 rfl Try.underlying22 info39 rfl (by decide) (by decide) (.slice none 0 0) [] l A l.length c (fun _ => True) (fun _ => False) rfl rfl (Kd.R_nil _ _ _ _ _) (HCW.out _ HS.out.bel) (fun x cs h => k39_KM h) (fun _ h => h.elim) (fun _ _ => trivial) HS.out.bel HS.out.bel.size (by have := HLT.out.2.2; simp; omega) ?_
        intro v1 w1 ho hb hg hat
        have HS := Aside0.mk (HS.out.own ho hb hg)
        clear ho hb hg hat
        refine hK.out _ _ ⟨(cell_of (HF.out _ HS.out.bel) rfl), (cell_of (HF.out _ HS.out.bel) rfl)⟩ (fun hHeld => ?_)
        clear hK K
        refine norm_ (a' := ?_) ?_ ?_
        rotate_left
        · show Act.put _ (some 25) _ = _
          simp only [Act.put, List.setIfInBounds_toArray, List.set_cons_zero, List.set_cons_succ, i64_w, i32_w]
          rfl
        refine one_ (i := 3) (N := some 27) #[true, true, true, true, false, false] rfl rfl (by kernel_rfl) (by decide) (fun K hK => ?_)
        refine value_ (w1 := ?_) (v := ?_) (by rfl) rfl ?_ ?_
        rotate_left 2
        · go_simp
          constructor
          · rfl
          · rfl
        obtain ⟨w4, hw4, hm⟩ := HS.out.lit
        refine toK hw4 ?_
        have HS := Aside0.mk hm
        clear hw4 hm
        refine hK.out _ _ ⟨(cell_of (HF.out _ HS.out.bel) rfl), (cell_of (HF.out _ HS.out.bel) rfl)⟩ (fun hHeld => ?_)
        clear hK K
        refine norm_ (a' := ?_) ?_ ?_
        rotate_left
        · show Act.put _ (some 27) _ = _
          simp only [Act.put, List.setIfInBounds_toArray, List.set_cons_zero, List.set_cons_succ, i64_w, i32_w]
          rfl
        exact norm_ (by first | (simp only [putAll, Act.put, List.setIfInBounds_toArray, List.set_cons_zero, List.set_cons_succ]; done) | (simp only [putAll, Act.put, List.setIfInBounds_toArray, List.set_cons_zero, List.set_cons_succ]; rfl)) (hCont (_, _) _ HS.out)
      · skip
        refine value_ (w1 := ?_) (v := ?_) (by rfl) rfl ?_ ?_
        rotate_left 2
        · go_simp
          constructor
          · rfl
          · rfl
        obtain ⟨w4, hw4, hm⟩ := HS.out.lit
        refine toK hw4 ?_
        have HS := Aside0.mk hm
        clear hw4 hm
        refine hK.out _ _ ⟨(cell_of (HF.out _ HS.out.bel) rfl), (cell_of (HF.out _ HS.out.bel) rfl)⟩ (fun hHeld => ?_)
        clear hK K
        refine norm_ (a' := ?_) ?_ ?_
        rotate_left
        · show Act.put _ (some 27) _ = _
          simp only [Act.put, List.setIfInBounds_toArray, List.set_cons_zero, List.set_cons_succ, i64_w, i32_w]
          rfl
        refine one_ (i := 1) (N := some 25) #[true, true, true, true, false, false] rfl rfl (by kernel_rfl) (by decide) (fun K hK => ?_)
        refine rows_step k39 (w0 := W5) W5.heap.size (by rfl) (.const (.slice none 0 0)) (.tmp 24) 22 39 (.agg #[.string ⟨#[]⟩, .string ⟨#[]⟩]) 32 rfl Try.underlying22 info39 rfl (by decide) (by decide) (.slice none 0 0) [] l A l.length c (fun _ => True) (fun _ => False) rfl rfl (Kd.R_nil _ _ _ _ _) (HCW.out _ HS.out.bel) (fun x cs h => k39_KM h) (fun _ h => h.elim) (fun _ _ => trivial) HS.out.bel HS.out.bel.size (by have := HLT.out.2.2; simp; omega) ?_
        intro v1 w1 ho hb hg hat
        have HS := Aside0.mk (HS.out.own ho hb hg)
        clear ho hb hg hat
        refine hK.out _ _ ⟨(cell_of (HF.out _ HS.out.bel) rfl), (cell_of (HF.out _ HS.out.bel) rfl)⟩ (fun hHeld => ?_)
        clear hK K
        refine norm_ (a' := ?_) ?_ ?_
        rotate_left
        · show Act.put _ (some 25) _ = _
          simp only [Act.put, List.setIfInBounds_toArray, List.set_cons_zero, List.set_cons_succ, i64_w, i32_w]
          rfl
        exact norm_ (by first | (simp only [putAll, Act.put, List.setIfInBounds_toArray, List.set_cons_zero, List.set_cons_succ]; done) | (simp only [putAll, Act.put, List.setIfInBounds_toArray, List.set_cons_zero, List.set_cons_succ]; rfl)) (hCont (_, _) _ HS.out)
    rintro ⟨vv, gl⟩ w' hm
    have HS := Aside0.mk hm
    clear hm
    have hHeld : w'.cell? ⟨gf, 0, none⟩ = some (.string f.f0) ∧ w'.cell? ⟨gf, 1, none⟩ = some (.string f.f1) := ⟨(cell_of (HF.out _ HS.out.bel) rfl), (cell_of (HF.out _ HS.out.bel) rfl)⟩
    refine norm_ (a' := ?_) ?_ ?_
    rotate_left
    · simp only [putAll, Act.put, List.setIfInBounds_toArray, List.set_cons_zero, List.set_cons_succ]
      rfl
    refine one_ (i := 4) (N := some 28) #[true, true, true, true, true, false] rfl rfl (by kernel_rfl) (by decide) (fun K hK => ?_)
    refine rows_step k39 (w0 := W5) W5.heap.size (by rfl) (.tmp 25) (.tmp 27) 22 39 (.agg #[.string ⟨#[]⟩, .string ⟨#[]⟩]) 32 rfl Try.underlying22 info39 rfl (by decide) (by decide) vv l [f] (some ⟨gl, 0, none⟩) 1 1 (fun _ => True) (fun _ => False) rfl rfl (HS.out.hx vv rfl) (one_field (HS.out.hy gl rfl)) (fun x cs h => k39_KM h) (fun _ h => h.elim) (fun _ _ => trivial) HS.out.bel HS.out.bel.size (by have := HLT.out.2.2; simp; omega) ?_
    intro v8 w8 ho hb hg hat
    have HO8 := Aside0.mk ho
    have HB8 := Aside0.mk hb
    clear ho hb hg hat
    refine hK.out _ _ ⟨(cell_of (HF.out _ HB8.out) rfl), (cell_of (HF.out _ HB8.out) rfl)⟩ (fun hHeld => ?_)
    clear hK K
    refine norm_ (a' := ?_) ?_ ?_
    rotate_left
    · show Act.put _ (some 28) _ = _
      simp only [Act.put, List.setIfInBounds_toArray, List.set_cons_zero, List.set_cons_succ, i64_w, i32_w]
      rfl
    refine pure_ (i := 5) (N := some 8) (v := ?_) (a' := ?_) #[true, true, true, true, true, true] rfl rfl (by kernel_rfl) (fun _ _ _ h => h) (Or.inl ⟨by rfl, ?_⟩) ?_ ?_
    rotate_left
    · intro w'
      go_simp
      with_reducible rfl
    rotate_left
    · simp only [Act.put, List.setIfInBounds_toArray, List.set_cons_zero, List.set_cons_succ, i64_w, i32_w]
      rfl
    refine done_ (by kernel_rfl) ?_
    have d0 : w8.cell? ⟨gf, 0, none⟩ = some (.string f.f0) := cell_of (HF.out _ HB8.out) rfl
    have d1 : w8.cell? ⟨gf, 1, none⟩ = some (.string f.f1) := cell_of (HF.out _ HB8.out) rfl
    cases b
    · clear d0 d1
      go_upto_region 9 with (fail)
      obtain ⟨A8, c8, rfl⟩ := Kd.R_slice HO8.out
      obtain ⟨_, hc8, hC8⟩ := Kd.R_reads' HO8.out
      have HXW := Aside0.mk (HW.out _ HB8.out)
      have hmem : wordF 2 ∈ l ++ [f] := by rw [← HWF.out]; simp
      have hlx : LightL (l ++ [f]) 40 := light_snoc HLT.out HWF.out (fun g hg => by simpa using hg) (by simp; have := HLT.out.2.2; omega)
      obtain ⟨x, hx⟩ : ∃ x, x = l ++ [f] := ⟨_, rfl⟩
      rw [← hx] at hc8 hC8 hmem hlx
      rw [← hx]
      have m1 := fun W (hW : Below w8.heap.size w8 W) => policy_May.calls 20000 getB ⟨#[]⟩ none 0 [] none 0 [] 200 ⟨#[]⟩ A8 c8 x none 0 [] false W (Kd.C_nil _ _) (Nat.le_refl _) (Kd.C_nil _ _) (Nat.le_refl _) (Kd.C_below hC8 hW) hc8 (Kd.C_nil _ _) (Nat.le_refl _) (word_may getB ⟨#[]⟩ [] [] 200 ⟨#[]⟩ x [] light_nil hlx 2 (by decide) hmem)
      have M1 := Aside0.mk m1
      clear hc8 hC8 hmem hlx hx m1
      have HBZ := Aside0.mk (fun o : Obj => ((Below.refl w8.heap.size w8).alloc (Nat.le_refl _) o))
      generalize x.length = n at M1 ⊢
      go_upto_region 12 with (first | (go_at_call 13; refine (M1.out _ (HBZ.out _)).mono ?_; rintro e w11 ⟨rfl, hb⟩; have HBb := Aside0.mk hb; clear hb) | fail)
      have BK := Aside0.mk (show w11.heap[w8.heap.size]? = some (.cells #[.string ⟨#[71, 69, 84]⟩, .string ⟨#[]⟩, .slice none 0 0, .slice none 0 0] 25 (0, 0)) from blk_call HBb.out (heap_alloc_new _ _))
      have HBT := Aside0.mk (show Below w8.heap.size w8 w11 from (HBZ.out _).trans (HBb.out.mono (by simp)))
      clear HBb HBZ M1
      go_wp2
      go_ret
      exact ⟨rfl, HXW.out.trans (HBT.out.mono HXW.out.size)⟩
    · go_upto_region 9 with (first | ((with_reducible refine gate_dst (N := 31) rfl ?_); refine Kd.R_lit k39 (w0 := W5) W5.heap.size 39 ?hg (N := 31) ?hd (xs := [f]) (inner := [.string f.f0, .string f.f1]) (ok := fun _ => True) (okp := fun _ => True) ?hr ?hp (fun _ hk => hk) trivial HB8.out HB8.out.size (by simp) ?_; (case hd => rfl); (case hg => rfl); (case hr => first | (go_simp; done) | (go_simp; rfl)); (case hp => exact Reps.c2 (show Kd.M k39 _ _ _ f [.string f.f0, .string f.f1] from k39_mkM _ _ _ f) (Reps.none _ _)); intro v9 w9 ho hb hg hat; have HO9 := Aside0.mk ho; have HB9 := Aside0.mk hb; clear ho hb hg hat) | (at_builtin; (with_reducible refine gate_builtin (b := .append) (xs := #[.tmp 31, .tmp 32]) rfl ?_); refine Kd.R_append_rows k39 (w0 := W5) W5.heap.size rfl (.tmp 31) (.tmp 32) 22 39 (.agg #[.string ⟨#[]⟩, .string ⟨#[]⟩]) 32 rfl Try.underlying22 info39 rfl (by decide) (by decide) v9 [f] l A l.length c (fun _ => True) (fun _ => False) rfl rfl HO9.out (HCW.out _ HB9.out) (fun x cs h => k39_KM h) (fun _ h => h.elim) (fun _ _ => trivial) HB9.out HB9.out.size (by have := HLT.out.2.2; simp; omega) ?_; intro v10 w10 ho hb hg hat; have HO10 := Aside0.mk ho; have HB10 := Aside0.mk hb; clear ho hb hg hat) | fail)
      obtain ⟨A8, c8, rfl⟩ := Kd.R_slice HO10.out
      obtain ⟨_, hc8, hC8⟩ := Kd.R_reads' HO10.out
      have HXW := Aside0.mk (HW.out _ HB10.out)
      have hmem : wordF 2 ∈ [f] ++ l := by rw [← HWF.out]; simp
      have hlx : LightL ([f] ++ l) 40 := light_snoc HLT.out HWF.out (fun g hg => by have := hg; simp at this ⊢; rcases this with h | h; exact .inr h; exact .inl h) (by simp; have := HLT.out.2.2; omega)
      obtain ⟨x, hx⟩ : ∃ x, x = [f] ++ l := ⟨_, rfl⟩
      rw [← hx] at hc8 hC8 hmem hlx
      rw [← hx]
      have m1 := fun W (hW : Below w10.heap.size w10 W) => policy_May.calls 20000 getB ⟨#[]⟩ none 0 [] none 0 [] 200 ⟨#[]⟩ A8 c8 x none 0 [] false W (Kd.C_nil _ _) (Nat.le_refl _) (Kd.C_nil _ _) (Nat.le_refl _) (Kd.C_below hC8 hW) hc8 (Kd.C_nil _ _) (Nat.le_refl _) (word_may getB ⟨#[]⟩ [] [] 200 ⟨#[]⟩ x [] light_nil hlx 2 (by decide) hmem)
      have M1 := Aside0.mk m1
      clear hc8 hC8 hmem hlx hx m1
      have HBZ := Aside0.mk (fun o : Obj => ((Below.refl w10.heap.size w10).alloc (Nat.le_refl _) o))
      generalize x.length = n at M1 ⊢
      go_upto_region 12 with (first | (go_at_call 13; refine (M1.out _ (HBZ.out _)).mono ?_; rintro e w11 ⟨rfl, hb⟩; have HBb := Aside0.mk hb; clear hb) | fail)
      have BK := Aside0.mk (show w11.heap[w10.heap.size]? = some (.cells #[.string ⟨#[71, 69, 84]⟩, .string ⟨#[]⟩, .slice none 0 0, .slice none 0 0] 25 (0, 0)) from blk_call HBb.out (heap_alloc_new _ _))
      have HBT := Aside0.mk (show Below w10.heap.size w10 w11 from (HBZ.out _).trans (HBb.out.mono (by simp)))
      clear HBb HBZ M1
      go_wp2
      go_ret
      exact ⟨rfl, HXW.out.trans (HBT.out.mono HXW.out.size)⟩
  · skip
    have HBW := Aside0.mk ((HB2.out.alloc HB2.out.size wordsRow).alloc (by have := HB2.out.size; simp; omega) (wordObj 3))
    have hnew := heap_alloc_new (w2.alloc wordsRow) (wordObj 3)
    rw [show (w2.alloc wordsRow).heap.size = w2.heap.size + 1 from by simp] at hnew
    obtain ⟨W5, hw5⟩ : ∃ W5, W5 = (w2.alloc wordsRow).alloc (wordObj 3) := ⟨_, rfl⟩
    rw [← hw5] at HBW hnew
    refine toW hw5 ?_
    obtain ⟨f, hf⟩ : ∃ f, f = wordF 3 := ⟨_, rfl⟩
    rw [show wordObj 3 = .cells #[.string f.f0, .string f.f1] 39 from by rw [hf]; rfl] at hnew
    have HWF := Aside0.mk hf
    generalize w2.heap.size + 1 = gf at hnew ⊢
    have HF := Aside0.mk (fun W (h : Below W5.heap.size W5 W) => show W.heap[gf]? = some (.cells #[.string f.f0, .string f.f1] 39 (0, 0)) from (h.block _ (blk_in hnew)).trans hnew)
    have HW := Aside0.mk (fun W (h : Below W5.heap.size W5 W) => show Below w.heap.size w W from HBW.out.trans (h.mono HBW.out.size))
    have HCW := Aside0.mk (fun W (h : Below W5.heap.size W5 W) => HCC.out W (HW.out W h))
    have HB5d := Aside0.mk (show Below W5.heap.size W5 W5.drew from pw_below_drewN (Below.refl _ _) 1)
    have HS := Aside0.mk (show WordS W5 W5.drew f l none none from { bel := HB5d.out, hx := fun v hv => (by cases hv), hy := fun g hg => (by cases hg) })
    clear hnew hw5 hf HB2 HB
    refine start_ (n := 6) (S := fun w' => w'.cell? ⟨gf, 0, none⟩ = some (.string f.f0) ∧ w'.cell? ⟨gf, 1, none⟩ = some (.string f.f1)) (ds := []) #[false, false, false, false, false, false] (by kernel_rfl) rfl rfl ⟨(cell_of (HF.out _ HB5d.out) rfl), (cell_of (HF.out _ HB5d.out) rfl)⟩ (fun hHeld => ?_)
    generalize W5.drew = w5d at HS hHeld ⊢
    refine pure_ (i := 0) (N := some 24) (v := ?_) (a' := ?_) #[true, false, false, false, false, false] rfl rfl (by kernel_rfl) (fun _ _ _ h => h) (Or.inl ⟨by rfl, ?_⟩) ?_ ?_
    rotate_left
    · intro w'
      go_simp
      with_reducible rfl
    rotate_left
    · simp only [Act.put, List.setIfInBounds_toArray, List.set_cons_zero, List.set_cons_succ, i64_w, i32_w]
      rfl
    refine take_ (i := 2) (N := some 26) (v := ?_) (a' := ?_) #[true, false, true, false, false, false] rfl rfl (by kernel_rfl) (fun _ _ _ h => h) (Or.inl ⟨by rfl, ?_⟩) hHeld ?_ ?_
    rotate_left
    · rintro w' ⟨s0, s1⟩
      go_simp
      with_reducible rfl
    rotate_left
    · simp only [Act.put, List.setIfInBounds_toArray, List.set_cons_zero, List.set_cons_succ, i64_w, i32_w]
      rfl
    refine join_ (σ := Value × Nat) 2 #[true, true, true, true, false, false] (fun s => [(25, s.1), (27, .slice (some ⟨s.2, 0, none⟩) 1 1)]) (fun s w' => WordS W5 w' f l (some s.1) (some s.2)) ?_ ?_
    rotate_left
    · intro hCont
      refine two_ (i := 1) (j := 3) (Ni := some 25) (Nj := some 27) #[true, true, true, false, false, false] #[true, false, true, true, false, false] rfl rfl rfl rfl (by kernel_rfl) (by decide) (by decide) (fun K hK => ?_) (fun K hK => ?_)
      · skip
        refine rows_step k39 (w0 := W5) W5.heap.size (by rfl) (.const (.slice none 0 0)) (.tmp 24) 22 39 (.agg #[.string ⟨#[]⟩, .string ⟨#[]⟩]) 32 rfl Try.underlying22 info39 rfl (by decide) (by decide) (.slice none 0 0) [] l A l.length c (fun _ => True) (fun _ => False) rfl rfl (Kd.R_nil _ _ _ _ _) (HCW.out _ HS.out.bel) (fun x cs h => k39_KM h) (fun _ h => h.elim) (fun _ _ => trivial) HS.out.bel HS.out.bel.size (by have := HLT.out.2.2; simp; omega) ?_
        intro v1 w1 ho hb hg hat
        have HS := Aside0.mk (HS.out.own ho hb hg)
        clear ho hb hg hat
        refine hK.out _ _ ⟨(cell_of (HF.out _ HS.out.bel) rfl), (cell_of (HF.out _ HS.out.bel) rfl)⟩ (fun hHeld => ?_)
        clear hK K
        refine norm_ (a' := ?_) ?_ ?_
        rotate_left
        · show Act.put _ (some 25) _ = _
          simp only [Act.put, List.setIfInBounds_toArray, List.set_cons_zero, List.set_cons_succ, i64_w, i32_w]
          rfl
        refine one_ (i := 3) (N := some 27) #[true, true, true, true, false, false] rfl rfl (by kernel_rfl) (by decide) (fun K hK => ?_)
        refine value_ (w1 := ?_) (v := ?_) (by rfl) rfl ?_ ?_
        rotate_left 2
        · go_simp
          constructor
          · rfl
          · rfl
        obtain ⟨w4, hw4, hm⟩ := HS.out.lit
        refine toK hw4 ?_
        have HS := Aside0.mk hm
        clear hw4 hm
        refine hK.out _ _ ⟨(cell_of (HF.out _ HS.out.bel) rfl), (cell_of (HF.out _ HS.out.bel) rfl)⟩ (fun hHeld => ?_)
        clear hK K
        refine norm_ (a' := ?_) ?_ ?_
        rotate_left
        · show Act.put _ (some 27) _ = _
          simp only [Act.put, List.setIfInBounds_toArray, List.set_cons_zero, List.set_cons_succ, i64_w, i32_w]
          rfl
        exact norm_ (by first | (simp only [putAll, Act.put, List.setIfInBounds_toArray, List.set_cons_zero, List.set_cons_succ]; done) | (simp only [putAll, Act.put, List.setIfInBounds_toArray, List.set_cons_zero, List.set_cons_succ]; rfl)) (hCont (_, _) _ HS.out)
      · skip
        refine value_ (w1 := ?_) (v := ?_) (by rfl) rfl ?_ ?_
        rotate_left 2
        · go_simp
          constructor
          · rfl
          · rfl
        obtain ⟨w4, hw4, hm⟩ := HS.out.lit
        refine toK hw4 ?_
        have HS := Aside0.mk hm
        clear hw4 hm
        refine hK.out _ _ ⟨(cell_of (HF.out _ HS.out.bel) rfl), (cell_of (HF.out _ HS.out.bel) rfl)⟩ (fun hHeld => ?_)
        clear hK K
        refine norm_ (a' := ?_) ?_ ?_
        rotate_left
        · show Act.put _ (some 27) _ = _
          simp only [Act.put, List.setIfInBounds_toArray, List.set_cons_zero, List.set_cons_succ, i64_w, i32_w]
          rfl
        refine one_ (i := 1) (N := some 25) #[true, true, true, true, false, false] rfl rfl (by kernel_rfl) (by decide) (fun K hK => ?_)
        refine rows_step k39 (w0 := W5) W5.heap.size (by rfl) (.const (.slice none 0 0)) (.tmp 24) 22 39 (.agg #[.string ⟨#[]⟩, .string ⟨#[]⟩]) 32 rfl Try.underlying22 info39 rfl (by decide) (by decide) (.slice none 0 0) [] l A l.length c (fun _ => True) (fun _ => False) rfl rfl (Kd.R_nil _ _ _ _ _) (HCW.out _ HS.out.bel) (fun x cs h => k39_KM h) (fun _ h => h.elim) (fun _ _ => trivial) HS.out.bel HS.out.bel.size (by have := HLT.out.2.2; simp; omega) ?_
        intro v1 w1 ho hb hg hat
        have HS := Aside0.mk (HS.out.own ho hb hg)
        clear ho hb hg hat
        refine hK.out _ _ ⟨(cell_of (HF.out _ HS.out.bel) rfl), (cell_of (HF.out _ HS.out.bel) rfl)⟩ (fun hHeld => ?_)
        clear hK K
        refine norm_ (a' := ?_) ?_ ?_
        rotate_left
        · show Act.put _ (some 25) _ = _
          simp only [Act.put, List.setIfInBounds_toArray, List.set_cons_zero, List.set_cons_succ, i64_w, i32_w]
          rfl
        exact norm_ (by first | (simp only [putAll, Act.put, List.setIfInBounds_toArray, List.set_cons_zero, List.set_cons_succ]; done) | (simp only [putAll, Act.put, List.setIfInBounds_toArray, List.set_cons_zero, List.set_cons_succ]; rfl)) (hCont (_, _) _ HS.out)
    rintro ⟨vv, gl⟩ w' hm
    have HS := Aside0.mk hm
    clear hm
    have hHeld : w'.cell? ⟨gf, 0, none⟩ = some (.string f.f0) ∧ w'.cell? ⟨gf, 1, none⟩ = some (.string f.f1) := ⟨(cell_of (HF.out _ HS.out.bel) rfl), (cell_of (HF.out _ HS.out.bel) rfl)⟩
    refine norm_ (a' := ?_) ?_ ?_
    rotate_left
    · simp only [putAll, Act.put, List.setIfInBounds_toArray, List.set_cons_zero, List.set_cons_succ]
      rfl
    refine one_ (i := 4) (N := some 28) #[true, true, true, true, true, false] rfl rfl (by kernel_rfl) (by decide) (fun K hK => ?_)
    refine rows_step k39 (w0 := W5) W5.heap.size (by rfl) (.tmp 25) (.tmp 27) 22 39 (.agg #[.string ⟨#[]⟩, .string ⟨#[]⟩]) 32 rfl Try.underlying22 info39 rfl (by decide) (by decide) vv l [f] (some ⟨gl, 0, none⟩) 1 1 (fun _ => True) (fun _ => False) rfl rfl (HS.out.hx vv rfl) (one_field (HS.out.hy gl rfl)) (fun x cs h => k39_KM h) (fun _ h => h.elim) (fun _ _ => trivial) HS.out.bel HS.out.bel.size (by have := HLT.out.2.2; simp; omega) ?_
    intro v8 w8 ho hb hg hat
    have HO8 := Aside0.mk ho
    have HB8 := Aside0.mk hb
    clear ho hb hg hat
    refine hK.out _ _ ⟨(cell_of (HF.out _ HB8.out) rfl), (cell_of (HF.out _ HB8.out) rfl)⟩ (fun hHeld => ?_)
    clear hK K
    refine norm_ (a' := ?_) ?_ ?_
    rotate_left
    · show Act.put _ (some 28) _ = _
      simp only [Act.put, List.setIfInBounds_toArray, List.set_cons_zero, List.set_cons_succ, i64_w, i32_w]
      rfl
    refine pure_ (i := 5) (N := some 8) (v := ?_) (a' := ?_) #[true, true, true, true, true, true] rfl rfl (by kernel_rfl) (fun _ _ _ h => h) (Or.inl ⟨by rfl, ?_⟩) ?_ ?_
    rotate_left
    · intro w'
      go_simp
      with_reducible rfl
    rotate_left
    · simp only [Act.put, List.setIfInBounds_toArray, List.set_cons_zero, List.set_cons_succ, i64_w, i32_w]
      rfl
    refine done_ (by kernel_rfl) ?_
    have d0 : w8.cell? ⟨gf, 0, none⟩ = some (.string f.f0) := cell_of (HF.out _ HB8.out) rfl
    have d1 : w8.cell? ⟨gf, 1, none⟩ = some (.string f.f1) := cell_of (HF.out _ HB8.out) rfl
    cases b
    · clear d0 d1
      go_upto_region 9 with (fail)
      obtain ⟨A8, c8, rfl⟩ := Kd.R_slice HO8.out
      obtain ⟨_, hc8, hC8⟩ := Kd.R_reads' HO8.out
      have HXW := Aside0.mk (HW.out _ HB8.out)
      have hmem : wordF 3 ∈ l ++ [f] := by rw [← HWF.out]; simp
      have hlx : LightL (l ++ [f]) 40 := light_snoc HLT.out HWF.out (fun g hg => by simpa using hg) (by simp; have := HLT.out.2.2; omega)
      obtain ⟨x, hx⟩ : ∃ x, x = l ++ [f] := ⟨_, rfl⟩
      rw [← hx] at hc8 hC8 hmem hlx
      rw [← hx]
      have m1 := fun W (hW : Below w8.heap.size w8 W) => policy_May.calls 20000 getB ⟨#[]⟩ none 0 [] none 0 [] 200 ⟨#[]⟩ A8 c8 x none 0 [] false W (Kd.C_nil _ _) (Nat.le_refl _) (Kd.C_nil _ _) (Nat.le_refl _) (Kd.C_below hC8 hW) hc8 (Kd.C_nil _ _) (Nat.le_refl _) (word_may getB ⟨#[]⟩ [] [] 200 ⟨#[]⟩ x [] light_nil hlx 3 (by decide) hmem)
      have M1 := Aside0.mk m1
      have m2 := fun W (hW : Below w8.heap.size w8 W) => policy_May.calls 20000 getB ⟨#[]⟩ A8 c8 x none 0 [] 200 ⟨#[]⟩ none 0 [] none 0 [] false W (Kd.C_below hC8 hW) hc8 (Kd.C_nil _ _) (Nat.le_refl _) (Kd.C_nil _ _) (Nat.le_refl _) (Kd.C_nil _ _) (Nat.le_refl _) (word_ask getB ⟨#[]⟩ x [] 200 ⟨#[]⟩ [] [] hlx light_nil 3 (by decide) hmem)
      have M2 := Aside0.mk m2
      clear m2
      clear hc8 hC8 hmem hlx hx m1
      have HBZ := Aside0.mk (fun o : Obj => ((Below.refl w8.heap.size w8).alloc (Nat.le_refl _) o))
      generalize x.length = n at M1 M2 ⊢
      go_upto_region 12 with (first | (go_at_call 13; refine (M1.out _ (HBZ.out _)).mono ?_; rintro e w11 ⟨rfl, hb⟩; have HBb := Aside0.mk hb; clear hb) | fail)
      have BK := Aside0.mk (show w11.heap[w8.heap.size]? = some (.cells #[.string ⟨#[71, 69, 84]⟩, .string ⟨#[]⟩, .slice none 0 0, .slice none 0 0] 25 (0, 0)) from blk_call HBb.out (heap_alloc_new _ _))
      have HBT := Aside0.mk (show Below w8.heap.size w8 w11 from (HBZ.out _).trans (HBb.out.mono (by simp)))
      clear HBb HBZ M1
      have hcz0 : w11.cell? ⟨w8.heap.size, 0, none⟩ = some (.string ⟨#[71, 69, 84]⟩) := (blk_cell BK.out 0).trans rfl
      have hcz1 : w11.cell? ⟨w8.heap.size, 1, none⟩ = some (.string ⟨#[]⟩) := (blk_cell BK.out 1).trans rfl
      have hcz2 : w11.cell? ⟨w8.heap.size, 2, none⟩ = some (.slice none 0 0) := (blk_cell BK.out 2).trans rfl
      have hcz3 : w11.cell? ⟨w8.heap.size, 3, none⟩ = some (.slice none 0 0) := (blk_cell BK.out 3).trans rfl
      have hfz2 := blk_frozen BK.out 2
      have HST := Aside0.mk (show Below w8.heap.size w8 (w11.setCell ⟨w8.heap.size, 2, none⟩ (.slice A8 n c8)) from Below.setCell HBT.out (Nat.le_refl _) _)
      go_wp2_with (first | (go_at_call 13; refine (M2.out _ HST.out).mono ?_; rintro e w12 ⟨rfl, hb⟩; have HB12 := Aside0.mk hb; clear hb) | fail)
      go_ret
      exact ⟨rfl, HXW.out.trans ((HST.out.trans (HB12.out.mono HST.out.size)).mono HXW.out.size)⟩
    · go_upto_region 9 with (first | ((with_reducible refine gate_dst (N := 31) rfl ?_); refine Kd.R_lit k39 (w0 := W5) W5.heap.size 39 ?hg (N := 31) ?hd (xs := [f]) (inner := [.string f.f0, .string f.f1]) (ok := fun _ => True) (okp := fun _ => True) ?hr ?hp (fun _ hk => hk) trivial HB8.out HB8.out.size (by simp) ?_; (case hd => rfl); (case hg => rfl); (case hr => first | (go_simp; done) | (go_simp; rfl)); (case hp => exact Reps.c2 (show Kd.M k39 _ _ _ f [.string f.f0, .string f.f1] from k39_mkM _ _ _ f) (Reps.none _ _)); intro v9 w9 ho hb hg hat; have HO9 := Aside0.mk ho; have HB9 := Aside0.mk hb; clear ho hb hg hat) | (at_builtin; (with_reducible refine gate_builtin (b := .append) (xs := #[.tmp 31, .tmp 32]) rfl ?_); refine Kd.R_append_rows k39 (w0 := W5) W5.heap.size rfl (.tmp 31) (.tmp 32) 22 39 (.agg #[.string ⟨#[]⟩, .string ⟨#[]⟩]) 32 rfl Try.underlying22 info39 rfl (by decide) (by decide) v9 [f] l A l.length c (fun _ => True) (fun _ => False) rfl rfl HO9.out (HCW.out _ HB9.out) (fun x cs h => k39_KM h) (fun _ h => h.elim) (fun _ _ => trivial) HB9.out HB9.out.size (by have := HLT.out.2.2; simp; omega) ?_; intro v10 w10 ho hb hg hat; have HO10 := Aside0.mk ho; have HB10 := Aside0.mk hb; clear ho hb hg hat) | fail)
      obtain ⟨A8, c8, rfl⟩ := Kd.R_slice HO10.out
      obtain ⟨_, hc8, hC8⟩ := Kd.R_reads' HO10.out
      have HXW := Aside0.mk (HW.out _ HB10.out)
      have hmem : wordF 3 ∈ [f] ++ l := by rw [← HWF.out]; simp
      have hlx : LightL ([f] ++ l) 40 := light_snoc HLT.out HWF.out (fun g hg => by have := hg; simp at this ⊢; rcases this with h | h; exact .inr h; exact .inl h) (by simp; have := HLT.out.2.2; omega)
      obtain ⟨x, hx⟩ : ∃ x, x = [f] ++ l := ⟨_, rfl⟩
      rw [← hx] at hc8 hC8 hmem hlx
      rw [← hx]
      have m1 := fun W (hW : Below w10.heap.size w10 W) => policy_May.calls 20000 getB ⟨#[]⟩ none 0 [] none 0 [] 200 ⟨#[]⟩ A8 c8 x none 0 [] false W (Kd.C_nil _ _) (Nat.le_refl _) (Kd.C_nil _ _) (Nat.le_refl _) (Kd.C_below hC8 hW) hc8 (Kd.C_nil _ _) (Nat.le_refl _) (word_may getB ⟨#[]⟩ [] [] 200 ⟨#[]⟩ x [] light_nil hlx 3 (by decide) hmem)
      have M1 := Aside0.mk m1
      have m2 := fun W (hW : Below w10.heap.size w10 W) => policy_May.calls 20000 getB ⟨#[]⟩ A8 c8 x none 0 [] 200 ⟨#[]⟩ none 0 [] none 0 [] false W (Kd.C_below hC8 hW) hc8 (Kd.C_nil _ _) (Nat.le_refl _) (Kd.C_nil _ _) (Nat.le_refl _) (Kd.C_nil _ _) (Nat.le_refl _) (word_ask getB ⟨#[]⟩ x [] 200 ⟨#[]⟩ [] [] hlx light_nil 3 (by decide) hmem)
      have M2 := Aside0.mk m2
      clear m2
      clear hc8 hC8 hmem hlx hx m1
      have HBZ := Aside0.mk (fun o : Obj => ((Below.refl w10.heap.size w10).alloc (Nat.le_refl _) o))
      generalize x.length = n at M1 M2 ⊢
      go_upto_region 12 with (first | (go_at_call 13; refine (M1.out _ (HBZ.out _)).mono ?_; rintro e w11 ⟨rfl, hb⟩; have HBb := Aside0.mk hb; clear hb) | fail)
      have BK := Aside0.mk (show w11.heap[w10.heap.size]? = some (.cells #[.string ⟨#[71, 69, 84]⟩, .string ⟨#[]⟩, .slice none 0 0, .slice none 0 0] 25 (0, 0)) from blk_call HBb.out (heap_alloc_new _ _))
      have HBT := Aside0.mk (show Below w10.heap.size w10 w11 from (HBZ.out _).trans (HBb.out.mono (by simp)))
      clear HBb HBZ M1
      have hcz0 : w11.cell? ⟨w10.heap.size, 0, none⟩ = some (.string ⟨#[71, 69, 84]⟩) := (blk_cell BK.out 0).trans rfl
      have hcz1 : w11.cell? ⟨w10.heap.size, 1, none⟩ = some (.string ⟨#[]⟩) := (blk_cell BK.out 1).trans rfl
      have hcz2 : w11.cell? ⟨w10.heap.size, 2, none⟩ = some (.slice none 0 0) := (blk_cell BK.out 2).trans rfl
      have hcz3 : w11.cell? ⟨w10.heap.size, 3, none⟩ = some (.slice none 0 0) := (blk_cell BK.out 3).trans rfl
      have hfz2 := blk_frozen BK.out 2
      have HST := Aside0.mk (show Below w10.heap.size w10 (w11.setCell ⟨w10.heap.size, 2, none⟩ (.slice A8 n c8)) from Below.setCell HBT.out (Nat.le_refl _) _)
      go_wp2_with (first | (go_at_call 13; refine (M2.out _ HST.out).mono ?_; rintro e w12 ⟨rfl, hb⟩; have HB12 := Aside0.mk hb; clear hb) | fail)
      go_ret
      exact ⟨rfl, HXW.out.trans ((HST.out.trans (HB12.out.mono HST.out.size)).mono HXW.out.size)⟩
theorem words_calls (A : Option Addr) (c : Nat) (l : List S39) (a1 : Int) (b : Bool) (w : World) (hC : Kd.C k39 w A l.length l) (hc : l.length ≤ c) (hm : c ≤ maxLen) (hz : ∀ f ∈ l, f.f0.size ≤ maxLen ∧ f.f1.size ≤ maxLen) (hw : (Lit.int .u8 a1).wf = true) :
    Calls Try.prog 7 #[.slice A l.length c, .int .u8 a1, .bool b] w fun e w' => e = .returned (.bool true) ∧ Below w.heap.size w w' := by
  cases hL : lightB l 10 with
  | false => exact words_dark A c l a1 b w hC hc hL
  | true =>
    have h0 : 0 ≤ a1 ∧ a1 ≤ 255 := by have h : IntKind.u8.min ≤ a1 ∧ a1 ≤ IntKind.u8.max := (by simpa [Lit.wf] using hw); exact h
    have hn := Int.tmod_nonneg 4 h0.1
    have hlt := Int.tmod_lt_of_pos a1 (show (0 : Int) < 4 by omega)
    obtain ⟨j, hj⟩ := Int.eq_ofNat_of_zero_le hn
    exact words_light A c l a1 j (by omega) hj b w hC hc hL
end Go.Proofs.Ytlnmnjbihgaliaa.Pr
