import Derived.Test.YtlnmnjbihgaliaaGKnown
set_option linter.unusedVariables false
set_option linter.unusedSimpArgs false
open Go.RowKit Go.Proofs.YtlnmnjbihgaliaaW.PrintWords Go.Proofs.YtlnmnjbihgaliaaW.PrintMore Go.Proofs.YtlnmnjbihgaliaaW.PrintLast
namespace Go.Proofs.Ytlnmnjbihgaliaa.Pr
theorem wpG_load_row {P : Program} {Q : Exit → Act → World → Prop} {ops : Array Oper} {rest : List Oper} {o : Oper} {a : Act} {w : World} (hw : Region.wanted o (yielded ops a.tmps) = true) (ty : TypeId) (x : Operand) (ho : o.op = .load ty x)
    (g : Nat) (hx : a.eval x = .pointer (some ⟨g, 0, none⟩)) (t : TypeId) (cs : Array Value) (fr : Nat × Nat) (d : TypeDesc) (hg : w.heap[g]? = some (.cells cs t fr))
    (hu : P.underlying ty = some d) (hd : (match d with | .struct _ | .array _ _ => true | _ => false) = true) (hi : (P.info? ty).map (·.size) = some cs.size) (N : Tmp) (hN : o.dst = some N)
    (h : wpList P ops Q rest (a.put (some N) (.agg cs)) w) : wpList P ops Q (o :: rest) a w := by
  unfold wpList
  rw [if_pos hw]
  refine .inl (wp_load_row ty x ho g hx t cs fr d hg hu hd hi ?_)
  rw [hN]
  exact h
theorem goesG_ {P : Program} {Q : Exit → Act → World → Prop} {ops : Array Oper} {rest : List Oper} {oi : Oper} {a : Act} {w : World} (N : Tmp) (hd : oi.dst = some N) (hw : Region.wanted oi (yielded ops a.tmps) = true) {f : FuncId} {fn : Func} {xs : Array Operand} {ts : Array TypeId} (hf : P.funcs[f]? = some fn) (hname : (fn.name == "runtime.NumGoroutine") = false) (hb : fn.body.isSome = true) (args : Array Value)
    (hop : oi.op = .call { callee := .value (.func f), args := xs, argTypes := ts }) (hargs : xs.map a.eval = args)
    (h : Calls P f args w fun e w' => ∃ v, e = .returned v ∧ wpList P ops Q rest (a.put (some N) v) w') : wpList P ops Q (oi :: rest) a w := by
  unfold wpList
  rw [if_pos hw]
  refine .inl ?_
  have he := enters_ hf hname hb args w
  have hrun : (execOp a.eval oi).run P w = .ok (.enter f args) w := by
    unfold execOp
    simp [hop, resolve, Deferred.ofValue, invoke, Act.eval, hargs, he]
  unfold Oper.wp
  rw [hrun, Oper.upon_enter]
  refine h.mono fun e w'' hh => ?_
  obtain ⟨v, rfl, hk⟩ := hh
  rw [hd]
  exact hk
theorem one4 {a b c d : Value} (h : (#[a, b, c, d] : Array Value).all (·.oneCell') = true) : a.oneCell' = true ∧ b.oneCell' = true ∧ c.oneCell' = true ∧ d.oneCell' = true := by simpa [and_assoc] using h
set_option maxRecDepth 100000 in
set_option maxHeartbeats 8000000 in
theorem keys_ff (q0 q1 q2 q3 p0 p1 p2 p3 : Value) (w : World) (hq : (#[q0, q1, q2, q3] : Array Value).all (·.oneCell') = true) (hp : (#[p0, p1, p2, p3] : Array Value).all (·.oneCell') = true)
    (cLQ : ∀ W, Below w.heap.size w W → Calls Try.prog 9 #[.agg #[q0, q1, q2, q3]] W fun e w' => e = .returned (.bool false) ∧ Below W.heap.size W w') :
    Calls Try.prog 3 #[.agg #[q0, q1, q2, q3], .agg #[p0, p1, p2, p3]] w fun e w' => e = .returned (.bool true) ∧ Below w.heap.size w w' := by
  have HOQ := Aside0.mk (one4 hq)
  have HOP := Aside0.mk (one4 hp)
  have CLQ0 := Aside0.mk cLQ
  clear hq hp cLQ
  obtain ⟨o0, o1, o2, o3⟩ := HOQ.out
  obtain ⟨o4, o5, o6, o7⟩ := HOP.out
  go_enter Try.func3, Try.ntmps3
  go_upto_region 1 with (fail)
  have hq1 := blk_al (o' := .cells #[p0, p1, p2, p3] 25) (heap_alloc_new w (.cells #[q0, q1, q2, q3] 25))
  have hp1 := heap_alloc_new (w.alloc (.cells #[q0, q1, q2, q3] 25)) (.cells #[p0, p1, p2, p3] 25)
  rw [show (w.alloc (.cells #[q0, q1, q2, q3] 25)).heap.size = w.heap.size + 1 from by simp] at hp1
  have hb0 : Below w.heap.size w ((w.alloc (.cells #[q0, q1, q2, q3] 25)).alloc (.cells #[p0, p1, p2, p3] 25)) := ((Below.refl _ _).alloc (Nat.le_refl _) _).alloc (by simp) _
  generalize ((w.alloc (.cells #[q0, q1, q2, q3] 25)).alloc (.cells #[p0, p1, p2, p3] 25)) = W0 at hq1 hp1 hb0 ⊢
  have HQ := Aside0.mk (fun W (h : Below W0.heap.size W0 W) => show W.heap[w.heap.size]? = some (.cells #[q0, q1, q2, q3] 25 (0, 0)) from (h.block _ (blk_in hq1)).trans hq1)
  have HP := Aside0.mk (fun W (h : Below W0.heap.size W0 W) => show W.heap[w.heap.size + 1]? = some (.cells #[p0, p1, p2, p3] 25 (0, 0)) from (h.block _ (blk_in hp1)).trans hp1)
  have HB0 := Aside0.mk hb0
  have HW := Aside0.mk (fun W (h : Below W0.heap.size W0 W) => show Below w.heap.size w W from HB0.out.trans (h.mono HB0.out.size))
  have CLQ := Aside0.mk (fun W (h : Below W0.heap.size W0 W) => CLQ0.out W (HW.out W h))
  have HC8 := Aside0.mk (fun W (h : Below W0.heap.size W0 W) => show W.cell? ⟨w.heap.size, 0, none⟩ = some q0 ∧ W.cell? ⟨w.heap.size, 1, none⟩ = some q1 ∧ W.cell? ⟨w.heap.size, 2, none⟩ = some q2 ∧ W.cell? ⟨w.heap.size, 3, none⟩ = some q3 ∧ W.cell? ⟨w.heap.size + 1, 0, none⟩ = some p0 ∧ W.cell? ⟨w.heap.size + 1, 1, none⟩ = some p1 ∧ W.cell? ⟨w.heap.size + 1, 2, none⟩ = some p2 ∧ W.cell? ⟨w.heap.size + 1, 3, none⟩ = some p3 from ⟨cell_of (HQ.out W h) rfl, cell_of (HQ.out W h) rfl, cell_of (HQ.out W h) rfl, cell_of (HQ.out W h) rfl, cell_of (HP.out W h) rfl, cell_of (HP.out W h) rfl, cell_of (HP.out W h) rfl, cell_of (HP.out W h) rfl⟩)
  clear hq1 hp1 hb0
  go_upto_region 3 with (first | (go_at_call 8; refine (known_calls _).mono ?_; rintro e w1 ⟨rfl, hb⟩; have HB := Aside0.mk hb; clear hb) | fail)
  go_wp2_with (first | ((with_reducible refine gate_dst (N := 7) rfl ?_); refine wpG_load_row (by rfl) 25 _ rfl (w.heap.size) rfl 25 _ (0, 0) _ (HQ.out _ HB.out) Try.underlying25 rfl (by kernel_rfl) 7 rfl ?_) | ((with_reducible refine gate_dst (N := 11) rfl ?_); refine wpG_load_row (by rfl) 25 _ rfl (w.heap.size + 1) rfl 25 _ (0, 0) _ (HP.out _ HB.out) Try.underlying25 rfl (by kernel_rfl) 11 rfl ?_) | (go_at_call 9; refine (CLQ.out _ HB.out).mono ?_; rintro e w3 ⟨rfl, hb⟩; have HB := Aside0.mk (HB.out.trans (hb.mono HB.out.size)); clear hb) | fail)
  go_ret
  exact ⟨rfl, HW.out _ HB.out⟩
set_option maxRecDepth 100000 in
set_option maxHeartbeats 8000000 in
theorem keys_tf (q0 q1 q2 q3 p0 p1 p2 p3 : Value) (w : World) (hq : (#[q0, q1, q2, q3] : Array Value).all (·.oneCell') = true) (hp : (#[p0, p1, p2, p3] : Array Value).all (·.oneCell') = true)
    (cLQ : ∀ W, Below w.heap.size w W → Calls Try.prog 9 #[.agg #[q0, q1, q2, q3]] W fun e w' => e = .returned (.bool true) ∧ Below W.heap.size W w')
    (cLP : ∀ W, Below w.heap.size w W → Calls Try.prog 9 #[.agg #[p0, p1, p2, p3]] W fun e w' => e = .returned (.bool false) ∧ Below W.heap.size W w') :
    Calls Try.prog 3 #[.agg #[q0, q1, q2, q3], .agg #[p0, p1, p2, p3]] w fun e w' => e = .returned (.bool true) ∧ Below w.heap.size w w' := by
  have HOQ := Aside0.mk (one4 hq)
  have HOP := Aside0.mk (one4 hp)
  have CLQ0 := Aside0.mk cLQ
  have CLP0 := Aside0.mk cLP
  clear hq hp cLQ cLP
  obtain ⟨o0, o1, o2, o3⟩ := HOQ.out
  obtain ⟨o4, o5, o6, o7⟩ := HOP.out
  go_enter Try.func3, Try.ntmps3
  go_upto_region 1 with (fail)
  have hq1 := blk_al (o' := .cells #[p0, p1, p2, p3] 25) (heap_alloc_new w (.cells #[q0, q1, q2, q3] 25))
  have hp1 := heap_alloc_new (w.alloc (.cells #[q0, q1, q2, q3] 25)) (.cells #[p0, p1, p2, p3] 25)
  rw [show (w.alloc (.cells #[q0, q1, q2, q3] 25)).heap.size = w.heap.size + 1 from by simp] at hp1
  have hb0 : Below w.heap.size w ((w.alloc (.cells #[q0, q1, q2, q3] 25)).alloc (.cells #[p0, p1, p2, p3] 25)) := ((Below.refl _ _).alloc (Nat.le_refl _) _).alloc (by simp) _
  generalize ((w.alloc (.cells #[q0, q1, q2, q3] 25)).alloc (.cells #[p0, p1, p2, p3] 25)) = W0 at hq1 hp1 hb0 ⊢
  have HQ := Aside0.mk (fun W (h : Below W0.heap.size W0 W) => show W.heap[w.heap.size]? = some (.cells #[q0, q1, q2, q3] 25 (0, 0)) from (h.block _ (blk_in hq1)).trans hq1)
  have HP := Aside0.mk (fun W (h : Below W0.heap.size W0 W) => show W.heap[w.heap.size + 1]? = some (.cells #[p0, p1, p2, p3] 25 (0, 0)) from (h.block _ (blk_in hp1)).trans hp1)
  have HB0 := Aside0.mk hb0
  have HW := Aside0.mk (fun W (h : Below W0.heap.size W0 W) => show Below w.heap.size w W from HB0.out.trans (h.mono HB0.out.size))
  have CLQ := Aside0.mk (fun W (h : Below W0.heap.size W0 W) => CLQ0.out W (HW.out W h))
  have CLP := Aside0.mk (fun W (h : Below W0.heap.size W0 W) => CLP0.out W (HW.out W h))
  have HC8 := Aside0.mk (fun W (h : Below W0.heap.size W0 W) => show W.cell? ⟨w.heap.size, 0, none⟩ = some q0 ∧ W.cell? ⟨w.heap.size, 1, none⟩ = some q1 ∧ W.cell? ⟨w.heap.size, 2, none⟩ = some q2 ∧ W.cell? ⟨w.heap.size, 3, none⟩ = some q3 ∧ W.cell? ⟨w.heap.size + 1, 0, none⟩ = some p0 ∧ W.cell? ⟨w.heap.size + 1, 1, none⟩ = some p1 ∧ W.cell? ⟨w.heap.size + 1, 2, none⟩ = some p2 ∧ W.cell? ⟨w.heap.size + 1, 3, none⟩ = some p3 from ⟨cell_of (HQ.out W h) rfl, cell_of (HQ.out W h) rfl, cell_of (HQ.out W h) rfl, cell_of (HQ.out W h) rfl, cell_of (HP.out W h) rfl, cell_of (HP.out W h) rfl, cell_of (HP.out W h) rfl, cell_of (HP.out W h) rfl⟩)
  clear hq1 hp1 hb0
  go_upto_region 3 with (first | (go_at_call 8; refine (known_calls _).mono ?_; rintro e w1 ⟨rfl, hb⟩; have HB := Aside0.mk hb; clear hb) | fail)
  go_wp2_with (first | ((with_reducible refine gate_dst (N := 7) rfl ?_); refine wpG_load_row (by rfl) 25 _ rfl (w.heap.size) rfl 25 _ (0, 0) _ (HQ.out _ HB.out) Try.underlying25 rfl (by kernel_rfl) 7 rfl ?_) | ((with_reducible refine gate_dst (N := 11) rfl ?_); refine wpG_load_row (by rfl) 25 _ rfl (w.heap.size + 1) rfl 25 _ (0, 0) _ (HP.out _ HB.out) Try.underlying25 rfl (by kernel_rfl) 11 rfl ?_) | (go_at_call 9; refine (CLQ.out _ HB.out).mono ?_; rintro e w3 ⟨rfl, hb⟩; have HB := Aside0.mk (HB.out.trans (hb.mono HB.out.size)); clear hb) | ((with_reducible refine gate_dst (N := 12) rfl ?_); refine goesG_ 12 rfl (by rfl) Try.func9 (by kernel_rfl) rfl #[.agg #[p0, p1, p2, p3]] rfl (by simp only [List.map_toArray, List.map_cons, List.map_nil]; rfl) ?_; refine (CLP.out _ HB.out).mono ?_; rintro e w3 ⟨rfl, hb⟩; refine ⟨_, rfl, ?_⟩; have HB := Aside0.mk (HB.out.trans (hb.mono HB.out.size)); clear hb) | fail)
  go_ret
  exact ⟨rfl, HW.out _ HB.out⟩
set_option maxRecDepth 100000 in
set_option maxHeartbeats 8000000 in
theorem keys_tt (q0 q1 q2 q3 p0 p1 p2 p3 : Value) (w : World) (hq : (#[q0, q1, q2, q3] : Array Value).all (·.oneCell') = true) (hp : (#[p0, p1, p2, p3] : Array Value).all (·.oneCell') = true) (KQ KP : List Int) (lQ : KQ.length = 32) (lP : KP.length = 32)
    (cLQ : ∀ W, Below w.heap.size w W → Calls Try.prog 9 #[.agg #[q0, q1, q2, q3]] W fun e w' => e = .returned (.bool true) ∧ Below W.heap.size W w')
    (cLP : ∀ W, Below w.heap.size w W → Calls Try.prog 9 #[.agg #[p0, p1, p2, p3]] W fun e w' => e = .returned (.bool true) ∧ Below W.heap.size W w')
    (c1 : ∀ W, Below w.heap.size w W → Calls Try.prog 10 #[.agg #[q0, q1, q2, q3]] W fun e w' => e = .returned (.agg (u8s KQ)) ∧ Below W.heap.size W w')
    (c2 : ∀ W, Below w.heap.size w W → Calls Try.prog 11 #[.agg #[q0, q1, q2, q3]] W fun e w' => e = .returned (.agg (u8s KQ)) ∧ Below W.heap.size W w')
    (c3 : ∀ W, Below w.heap.size w W → Calls Try.prog 10 #[.agg #[p0, p1, p2, p3]] W fun e w' => e = .returned (.agg (u8s KP)) ∧ Below W.heap.size W w')
    (c4 : ∀ W, Below w.heap.size w W → Calls Try.prog 11 #[.agg #[p0, p1, p2, p3]] W fun e w' => e = .returned (.agg (u8s KP)) ∧ Below W.heap.size W w') :
    Calls Try.prog 3 #[.agg #[q0, q1, q2, q3], .agg #[p0, p1, p2, p3]] w fun e w' => e = .returned (.bool true) ∧ Below w.heap.size w w' := by
  have e1 : ∀ W : World, (Op.equalIn 10000 29 (.agg (u8s KQ)) (.agg (u8s KQ))).run Try.prog W = .ok true W := fun W => by rw [eq_Key W _ _ lQ lQ, beq_self_eq_true]
  have e2 : ∀ W : World, (Op.equalIn 10000 29 (.agg (u8s KQ)) (.agg (u8s KP))).run Try.prog W = .ok (KQ == KP) W := fun W => eq_Key W _ _ lQ lP
  generalize (KQ == KP) = bq at e2
  have HOQ := Aside0.mk (one4 hq)
  have HOP := Aside0.mk (one4 hp)
  have CLQ0 := Aside0.mk cLQ
  have CLP0 := Aside0.mk cLP
  have C10 := Aside0.mk c1
  have C20 := Aside0.mk c2
  have C30 := Aside0.mk c3
  have C40 := Aside0.mk c4
  clear hq hp cLQ cLP c1 c2 c3 c4
  obtain ⟨o0, o1, o2, o3⟩ := HOQ.out
  obtain ⟨o4, o5, o6, o7⟩ := HOP.out
  go_enter Try.func3, Try.ntmps3
  go_upto_region 1 with (fail)
  have hq1 := blk_al (o' := .cells #[p0, p1, p2, p3] 25) (heap_alloc_new w (.cells #[q0, q1, q2, q3] 25))
  have hp1 := heap_alloc_new (w.alloc (.cells #[q0, q1, q2, q3] 25)) (.cells #[p0, p1, p2, p3] 25)
  rw [show (w.alloc (.cells #[q0, q1, q2, q3] 25)).heap.size = w.heap.size + 1 from by simp] at hp1
  have hb0 : Below w.heap.size w ((w.alloc (.cells #[q0, q1, q2, q3] 25)).alloc (.cells #[p0, p1, p2, p3] 25)) := ((Below.refl _ _).alloc (Nat.le_refl _) _).alloc (by simp) _
  generalize ((w.alloc (.cells #[q0, q1, q2, q3] 25)).alloc (.cells #[p0, p1, p2, p3] 25)) = W0 at hq1 hp1 hb0 ⊢
  have HQ := Aside0.mk (fun W (h : Below W0.heap.size W0 W) => show W.heap[w.heap.size]? = some (.cells #[q0, q1, q2, q3] 25 (0, 0)) from (h.block _ (blk_in hq1)).trans hq1)
  have HP := Aside0.mk (fun W (h : Below W0.heap.size W0 W) => show W.heap[w.heap.size + 1]? = some (.cells #[p0, p1, p2, p3] 25 (0, 0)) from (h.block _ (blk_in hp1)).trans hp1)
  have HB0 := Aside0.mk hb0
  have HW := Aside0.mk (fun W (h : Below W0.heap.size W0 W) => show Below w.heap.size w W from HB0.out.trans (h.mono HB0.out.size))
  have CLQ := Aside0.mk (fun W (h : Below W0.heap.size W0 W) => CLQ0.out W (HW.out W h))
  have CLP := Aside0.mk (fun W (h : Below W0.heap.size W0 W) => CLP0.out W (HW.out W h))
  have C1 := Aside0.mk (fun W (h : Below W0.heap.size W0 W) => C10.out W (HW.out W h))
  have C2 := Aside0.mk (fun W (h : Below W0.heap.size W0 W) => C20.out W (HW.out W h))
  have C3 := Aside0.mk (fun W (h : Below W0.heap.size W0 W) => C30.out W (HW.out W h))
  have C4 := Aside0.mk (fun W (h : Below W0.heap.size W0 W) => C40.out W (HW.out W h))
  have HC8 := Aside0.mk (fun W (h : Below W0.heap.size W0 W) => show W.cell? ⟨w.heap.size, 0, none⟩ = some q0 ∧ W.cell? ⟨w.heap.size, 1, none⟩ = some q1 ∧ W.cell? ⟨w.heap.size, 2, none⟩ = some q2 ∧ W.cell? ⟨w.heap.size, 3, none⟩ = some q3 ∧ W.cell? ⟨w.heap.size + 1, 0, none⟩ = some p0 ∧ W.cell? ⟨w.heap.size + 1, 1, none⟩ = some p1 ∧ W.cell? ⟨w.heap.size + 1, 2, none⟩ = some p2 ∧ W.cell? ⟨w.heap.size + 1, 3, none⟩ = some p3 from ⟨cell_of (HQ.out W h) rfl, cell_of (HQ.out W h) rfl, cell_of (HQ.out W h) rfl, cell_of (HQ.out W h) rfl, cell_of (HP.out W h) rfl, cell_of (HP.out W h) rfl, cell_of (HP.out W h) rfl, cell_of (HP.out W h) rfl⟩)
  clear hq1 hp1 hb0
  go_upto_region 3 with (first | (go_at_call 8; refine (known_calls _).mono ?_; rintro e w1 ⟨rfl, hb⟩; have HB := Aside0.mk hb; clear hb) | fail)
  go_upto_region 5 with (first | ((with_reducible refine gate_dst (N := 7) rfl ?_); refine wpG_load_row (by rfl) 25 _ rfl (w.heap.size) rfl 25 _ (0, 0) _ (HQ.out _ HB.out) Try.underlying25 rfl (by kernel_rfl) 7 rfl ?_) | ((with_reducible refine gate_dst (N := 11) rfl ?_); refine wpG_load_row (by rfl) 25 _ rfl (w.heap.size + 1) rfl 25 _ (0, 0) _ (HP.out _ HB.out) Try.underlying25 rfl (by kernel_rfl) 11 rfl ?_) | (go_at_call 9; refine (CLQ.out _ HB.out).mono ?_; rintro e w3 ⟨rfl, hb⟩; have HB := Aside0.mk (HB.out.trans (hb.mono HB.out.size)); clear hb) | ((with_reducible refine gate_dst (N := 12) rfl ?_); refine goesG_ 12 rfl (by rfl) Try.func9 (by kernel_rfl) rfl #[.agg #[p0, p1, p2, p3]] rfl (by simp only [List.map_toArray, List.map_cons, List.map_nil]; rfl) ?_; refine (CLP.out _ HB.out).mono ?_; rintro e w3 ⟨rfl, hb⟩; refine ⟨_, rfl, ?_⟩; have HB := Aside0.mk (HB.out.trans (hb.mono HB.out.size)); clear hb) | fail)
  obtain ⟨w9, hw9, HB⟩ : ∃ w9, w9 = w3.drew ∧ Aside0 (Below W0.heap.size W0 w9) := ⟨_, rfl, ⟨pw_below_drewN HB.out 1⟩⟩
  refine start_ (n := 19) (S := fun w' => w'.cell? ⟨w.heap.size, 0, none⟩ = some q0 ∧ w'.cell? ⟨w.heap.size, 1, none⟩ = some q1 ∧ w'.cell? ⟨w.heap.size, 2, none⟩ = some q2 ∧ w'.cell? ⟨w.heap.size, 3, none⟩ = some q3 ∧ w'.cell? ⟨w.heap.size + 1, 0, none⟩ = some p0 ∧ w'.cell? ⟨w.heap.size + 1, 1, none⟩ = some p1 ∧ w'.cell? ⟨w.heap.size + 1, 2, none⟩ = some p2 ∧ w'.cell? ⟨w.heap.size + 1, 3, none⟩ = some p3) (ds := []) #[false, false, false, false, false, false, false, false, false, false, false, false, false, false, false, false, false, false, false] (by kernel_rfl) rfl rfl ⟨(cell_of (HQ.out _ (hw9 ▸ HB.out)) rfl), (cell_of (HQ.out _ (hw9 ▸ HB.out)) rfl), (cell_of (HQ.out _ (hw9 ▸ HB.out)) rfl), (cell_of (HQ.out _ (hw9 ▸ HB.out)) rfl), (cell_of (HP.out _ (hw9 ▸ HB.out)) rfl), (cell_of (HP.out _ (hw9 ▸ HB.out)) rfl), (cell_of (HP.out _ (hw9 ▸ HB.out)) rfl), (cell_of (HP.out _ (hw9 ▸ HB.out)) rfl)⟩ (fun hHeld => ?_)
  generalize hw3 : w3.drew = w8 at hw9 hHeld ⊢
  subst hw9
  clear hw3
  refine take_ (i := 0) (N := some 15) (v := ?_) (a' := ?_) #[true, false, false, false, false, false, false, false, false, false, false, false, false, false, false, false, false, false, false] rfl rfl (by kernel_rfl) (fun _ _ _ h => h) (Or.inl ⟨by rfl, ?_⟩) hHeld ?_ ?_
  rotate_left
  · rintro w' ⟨s0, s1, s2, s3, s4, s5, s6, s7⟩
    go_simp
    with_reducible rfl
  rotate_left
  · simp only [Act.put, List.setIfInBounds_toArray, List.set_cons_zero, List.set_cons_succ, i64_w, i32_w]
    rfl
  refine take_ (i := 2) (N := some 17) (v := ?_) (a' := ?_) #[true, false, true, false, false, false, false, false, false, false, false, false, false, false, false, false, false, false, false] rfl rfl (by kernel_rfl) (fun _ _ _ h => h) (Or.inl ⟨by rfl, ?_⟩) hHeld ?_ ?_
  rotate_left
  · rintro w' ⟨s0, s1, s2, s3, s4, s5, s6, s7⟩
    go_simp
    with_reducible rfl
  rotate_left
  · simp only [Act.put, List.setIfInBounds_toArray, List.set_cons_zero, List.set_cons_succ, i64_w, i32_w]
    rfl
  refine one_ (i := 1) (N := some 16) #[true, true, true, false, false, false, false, false, false, false, false, false, false, false, false, false, false, false, false] rfl rfl (by kernel_rfl) (by decide) (fun K hK => ?_)
  refine goes_ Try.func10 (by kernel_rfl) rfl #[.agg #[q0, q1, q2, q3]] (by rfl) rfl rfl (by simp only [List.map_toArray, List.map_cons, List.map_nil]; rfl) ?_
  refine (C1.out _ HB.out).mono ?_
  rintro e w3 ⟨rfl, hb⟩
  refine ⟨_, rfl, ?_⟩
  have HB := Aside0.mk (HB.out.trans (hb.mono HB.out.size))
  clear hb
  refine hK.out _ _ ⟨(cell_of (HQ.out _ HB.out) rfl), (cell_of (HQ.out _ HB.out) rfl), (cell_of (HQ.out _ HB.out) rfl), (cell_of (HQ.out _ HB.out) rfl), (cell_of (HP.out _ HB.out) rfl), (cell_of (HP.out _ HB.out) rfl), (cell_of (HP.out _ HB.out) rfl), (cell_of (HP.out _ HB.out) rfl)⟩ (fun hHeld => ?_)
  clear hK K
  refine norm_ (a' := ?_) ?_ ?_
  rotate_left
  · show Act.put _ (some 16) _ = _
    simp only [Act.put, List.setIfInBounds_toArray, List.set_cons_zero, List.set_cons_succ, i64_w, i32_w]
    rfl
  refine one_ (i := 3) (N := some 18) #[true, true, true, true, false, false, false, false, false, false, false, false, false, false, false, false, false, false, false] rfl rfl (by kernel_rfl) (by decide) (fun K hK => ?_)
  refine goes_ Try.func11 (by kernel_rfl) rfl #[.agg #[q0, q1, q2, q3]] (by rfl) rfl rfl (by simp only [List.map_toArray, List.map_cons, List.map_nil]; rfl) ?_
  refine (C2.out _ HB.out).mono ?_
  rintro e w3 ⟨rfl, hb⟩
  refine ⟨_, rfl, ?_⟩
  have HB := Aside0.mk (HB.out.trans (hb.mono HB.out.size))
  clear hb
  refine hK.out _ _ ⟨(cell_of (HQ.out _ HB.out) rfl), (cell_of (HQ.out _ HB.out) rfl), (cell_of (HQ.out _ HB.out) rfl), (cell_of (HQ.out _ HB.out) rfl), (cell_of (HP.out _ HB.out) rfl), (cell_of (HP.out _ HB.out) rfl), (cell_of (HP.out _ HB.out) rfl), (cell_of (HP.out _ HB.out) rfl)⟩ (fun hHeld => ?_)
  clear hK K
  refine norm_ (a' := ?_) ?_ ?_
  rotate_left
  · show Act.put _ (some 18) _ = _
    simp only [Act.put, List.setIfInBounds_toArray, List.set_cons_zero, List.set_cons_succ, i64_w, i32_w]
    rfl
  refine pure_ (i := 4) (N := some 19) (v := ?_) (a' := ?_) #[true, true, true, true, true, false, false, false, false, false, false, false, false, false, false, false, false, false, false] rfl rfl (by kernel_rfl) (fun _ _ _ h => h) (Or.inl ⟨by rfl, ?_⟩) ?_ ?_
  rotate_left
  · intro w'
    go_simp
    with_reducible rfl
  rotate_left
  · simp only [Act.put, List.setIfInBounds_toArray, List.set_cons_zero, List.set_cons_succ, i64_w, i32_w]
    rfl
  refine pure_ (i := 5) (N := some 20) (v := ?_) (a' := ?_) #[true, true, true, true, true, true, false, false, false, false, false, false, false, false, false, false, false, false, false] rfl rfl (by kernel_rfl) (fun _ _ _ h => h) (Or.inl ⟨by rfl, ?_⟩) ?_ ?_
  rotate_left
  · intro w'
    go_simp
    with_reducible rfl
  rotate_left
  · simp only [Act.put, List.setIfInBounds_toArray, List.set_cons_zero, List.set_cons_succ, i64_w, i32_w]
    rfl
  refine take_ (i := 6) (N := some 21) (v := ?_) (a' := ?_) #[true, true, true, true, true, true, true, false, false, false, false, false, false, false, false, false, false, false, false] rfl rfl (by kernel_rfl) (fun _ _ _ h => h) (Or.inl ⟨by rfl, ?_⟩) hHeld ?_ ?_
  rotate_left
  · rintro w' ⟨s0, s1, s2, s3, s4, s5, s6, s7⟩
    go_simp
    with_reducible rfl
  rotate_left
  · simp only [Act.put, List.setIfInBounds_toArray, List.set_cons_zero, List.set_cons_succ, i64_w, i32_w]
    rfl
  refine take_ (i := 8) (N := some 23) (v := ?_) (a' := ?_) #[true, true, true, true, true, true, true, false, true, false, false, false, false, false, false, false, false, false, false] rfl rfl (by kernel_rfl) (fun _ _ _ h => h) (Or.inl ⟨by rfl, ?_⟩) hHeld ?_ ?_
  rotate_left
  · rintro w' ⟨s0, s1, s2, s3, s4, s5, s6, s7⟩
    go_simp
    with_reducible rfl
  rotate_left
  · simp only [Act.put, List.setIfInBounds_toArray, List.set_cons_zero, List.set_cons_succ, i64_w, i32_w]
    rfl
  refine take_ (i := 11) (N := some 26) (v := ?_) (a' := ?_) #[true, true, true, true, true, true, true, false, true, false, false, true, false, false, false, false, false, false, false] rfl rfl (by kernel_rfl) (fun _ _ _ h => h) (Or.inl ⟨by rfl, ?_⟩) hHeld ?_ ?_
  rotate_left
  · rintro w' ⟨s0, s1, s2, s3, s4, s5, s6, s7⟩
    go_simp
    with_reducible rfl
  rotate_left
  · simp only [Act.put, List.setIfInBounds_toArray, List.set_cons_zero, List.set_cons_succ, i64_w, i32_w]
    rfl
  refine take_ (i := 13) (N := some 28) (v := ?_) (a' := ?_) #[true, true, true, true, true, true, true, false, true, false, false, true, false, true, false, false, false, false, false] rfl rfl (by kernel_rfl) (fun _ _ _ h => h) (Or.inl ⟨by rfl, ?_⟩) hHeld ?_ ?_
  rotate_left
  · rintro w' ⟨s0, s1, s2, s3, s4, s5, s6, s7⟩
    go_simp
    with_reducible rfl
  rotate_left
  · simp only [Act.put, List.setIfInBounds_toArray, List.set_cons_zero, List.set_cons_succ, i64_w, i32_w]
    rfl
  refine one_ (i := 7) (N := some 22) #[true, true, true, true, true, true, true, true, true, false, false, true, false, true, false, false, false, false, false] rfl rfl (by kernel_rfl) (by decide) (fun K hK => ?_)
  refine goes_ Try.func10 (by kernel_rfl) rfl #[.agg #[q0, q1, q2, q3]] (by rfl) rfl rfl (by simp only [List.map_toArray, List.map_cons, List.map_nil]; rfl) ?_
  refine (C1.out _ HB.out).mono ?_
  rintro e w3 ⟨rfl, hb⟩
  refine ⟨_, rfl, ?_⟩
  have HB := Aside0.mk (HB.out.trans (hb.mono HB.out.size))
  clear hb
  refine hK.out _ _ ⟨(cell_of (HQ.out _ HB.out) rfl), (cell_of (HQ.out _ HB.out) rfl), (cell_of (HQ.out _ HB.out) rfl), (cell_of (HQ.out _ HB.out) rfl), (cell_of (HP.out _ HB.out) rfl), (cell_of (HP.out _ HB.out) rfl), (cell_of (HP.out _ HB.out) rfl), (cell_of (HP.out _ HB.out) rfl)⟩ (fun hHeld => ?_)
  clear hK K
  refine norm_ (a' := ?_) ?_ ?_
  rotate_left
  · show Act.put _ (some 22) _ = _
    simp only [Act.put, List.setIfInBounds_toArray, List.set_cons_zero, List.set_cons_succ, i64_w, i32_w]
    rfl
  refine one_ (i := 9) (N := some 24) #[true, true, true, true, true, true, true, true, true, true, false, true, false, true, false, false, false, false, false] rfl rfl (by kernel_rfl) (by decide) (fun K hK => ?_)
  refine goes_ Try.func10 (by kernel_rfl) rfl #[.agg #[p0, p1, p2, p3]] (by rfl) rfl rfl (by simp only [List.map_toArray, List.map_cons, List.map_nil]; rfl) ?_
  refine (C3.out _ HB.out).mono ?_
  rintro e w3 ⟨rfl, hb⟩
  refine ⟨_, rfl, ?_⟩
  have HB := Aside0.mk (HB.out.trans (hb.mono HB.out.size))
  clear hb
  refine hK.out _ _ ⟨(cell_of (HQ.out _ HB.out) rfl), (cell_of (HQ.out _ HB.out) rfl), (cell_of (HQ.out _ HB.out) rfl), (cell_of (HQ.out _ HB.out) rfl), (cell_of (HP.out _ HB.out) rfl), (cell_of (HP.out _ HB.out) rfl), (cell_of (HP.out _ HB.out) rfl), (cell_of (HP.out _ HB.out) rfl)⟩ (fun hHeld => ?_)
  clear hK K
  refine norm_ (a' := ?_) ?_ ?_
  rotate_left
  · show Act.put _ (some 24) _ = _
    simp only [Act.put, List.setIfInBounds_toArray, List.set_cons_zero, List.set_cons_succ, i64_w, i32_w]
    rfl
  refine pure_ (i := 10) (N := some 25) (v := ?_) (a' := ?_) #[true, true, true, true, true, true, true, true, true, true, true, true, false, true, false, false, false, false, false] rfl rfl (by kernel_rfl) (fun _ _ _ h => h) (Or.inl ⟨by rfl, ?_⟩) ?_ ?_
  rotate_left
  · intro w'
    go_simp
    with_reducible rfl
  rotate_left
  · simp only [Act.put, List.setIfInBounds_toArray, List.set_cons_zero, List.set_cons_succ, i64_w, i32_w]
    rfl
  refine one_ (i := 12) (N := some 27) #[true, true, true, true, true, true, true, true, true, true, true, true, true, true, false, false, false, false, false] rfl rfl (by kernel_rfl) (by decide) (fun K hK => ?_)
  refine goes_ Try.func11 (by kernel_rfl) rfl #[.agg #[q0, q1, q2, q3]] (by rfl) rfl rfl (by simp only [List.map_toArray, List.map_cons, List.map_nil]; rfl) ?_
  refine (C2.out _ HB.out).mono ?_
  rintro e w3 ⟨rfl, hb⟩
  refine ⟨_, rfl, ?_⟩
  have HB := Aside0.mk (HB.out.trans (hb.mono HB.out.size))
  clear hb
  refine hK.out _ _ ⟨(cell_of (HQ.out _ HB.out) rfl), (cell_of (HQ.out _ HB.out) rfl), (cell_of (HQ.out _ HB.out) rfl), (cell_of (HQ.out _ HB.out) rfl), (cell_of (HP.out _ HB.out) rfl), (cell_of (HP.out _ HB.out) rfl), (cell_of (HP.out _ HB.out) rfl), (cell_of (HP.out _ HB.out) rfl)⟩ (fun hHeld => ?_)
  clear hK K
  refine norm_ (a' := ?_) ?_ ?_
  rotate_left
  · show Act.put _ (some 27) _ = _
    simp only [Act.put, List.setIfInBounds_toArray, List.set_cons_zero, List.set_cons_succ, i64_w, i32_w]
    rfl
  refine one_ (i := 14) (N := some 29) #[true, true, true, true, true, true, true, true, true, true, true, true, true, true, true, false, false, false, false] rfl rfl (by kernel_rfl) (by decide) (fun K hK => ?_)
  refine goes_ Try.func11 (by kernel_rfl) rfl #[.agg #[p0, p1, p2, p3]] (by rfl) rfl rfl (by simp only [List.map_toArray, List.map_cons, List.map_nil]; rfl) ?_
  refine (C4.out _ HB.out).mono ?_
  rintro e w3 ⟨rfl, hb⟩
  refine ⟨_, rfl, ?_⟩
  have HB := Aside0.mk (HB.out.trans (hb.mono HB.out.size))
  clear hb
  refine hK.out _ _ ⟨(cell_of (HQ.out _ HB.out) rfl), (cell_of (HQ.out _ HB.out) rfl), (cell_of (HQ.out _ HB.out) rfl), (cell_of (HQ.out _ HB.out) rfl), (cell_of (HP.out _ HB.out) rfl), (cell_of (HP.out _ HB.out) rfl), (cell_of (HP.out _ HB.out) rfl), (cell_of (HP.out _ HB.out) rfl)⟩ (fun hHeld => ?_)
  clear hK K
  refine norm_ (a' := ?_) ?_ ?_
  rotate_left
  · show Act.put _ (some 29) _ = _
    simp only [Act.put, List.setIfInBounds_toArray, List.set_cons_zero, List.set_cons_succ, i64_w, i32_w]
    rfl
  refine pure_ (i := 15) (N := some 30) (v := ?_) (a' := ?_) #[true, true, true, true, true, true, true, true, true, true, true, true, true, true, true, true, false, false, false] rfl rfl (by kernel_rfl) (fun _ _ _ h => h) (Or.inl ⟨by rfl, ?_⟩) ?_ ?_
  rotate_left
  · intro w'
    go_simp
    with_reducible rfl
  rotate_left
  · simp only [Act.put, List.setIfInBounds_toArray, List.set_cons_zero, List.set_cons_succ, i64_w, i32_w]
    rfl
  refine pure_ (i := 16) (N := some 31) (v := ?_) (a' := ?_) #[true, true, true, true, true, true, true, true, true, true, true, true, true, true, true, true, true, false, false] rfl rfl (by kernel_rfl) (fun _ _ _ h => h) (Or.inl ⟨by rfl, ?_⟩) ?_ ?_
  rotate_left
  · intro w'
    go_simp
    with_reducible rfl
  rotate_left
  · simp only [Act.put, List.setIfInBounds_toArray, List.set_cons_zero, List.set_cons_succ, i64_w, i32_w]
    rfl
  refine pure_ (i := 17) (N := some 32) (v := ?_) (a' := ?_) #[true, true, true, true, true, true, true, true, true, true, true, true, true, true, true, true, true, true, false] rfl rfl (by kernel_rfl) (fun _ _ _ h => h) (Or.inl ⟨by rfl, ?_⟩) ?_ ?_
  rotate_left
  · intro w'
    go_simp
    with_reducible rfl
  rotate_left
  · simp only [Act.put, List.setIfInBounds_toArray, List.set_cons_zero, List.set_cons_succ, i64_w, i32_w]
    rfl
  refine pure_ (i := 18) (N := some 4) (v := ?_) (a' := ?_) #[true, true, true, true, true, true, true, true, true, true, true, true, true, true, true, true, true, true, true] rfl rfl (by kernel_rfl) (fun _ _ _ h => h) (Or.inl ⟨by rfl, ?_⟩) ?_ ?_
  rotate_left
  · intro w'
    go_simp
    with_reducible rfl
  rotate_left
  · simp only [Act.put, List.setIfInBounds_toArray, List.set_cons_zero, List.set_cons_succ, i64_w, i32_w]
    rfl
  refine done_ (by kernel_rfl) ?_
  go_wp2
  go_ret
  exact ⟨rfl, HW.out _ HB.out⟩
end Go.Proofs.Ytlnmnjbihgaliaa.Pr
