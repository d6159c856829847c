import Derived.Test.YtlnmnjbihgaliaaGreatPr0
set_option linter.unusedVariables false
set_option linter.unusedSimpArgs false
namespace Go.Proofs.YtlnmnjbihgaliaaGreat.Pr
open Go.RowKit Go.Proofs.YtlnmnjbihgaliaaGreatW.PrintWords Go.Proofs.YtlnmnjbihgaliaaGreatW.PrintLast Go.Proofs.YtlnmnjbihgaliaaGreatW.PrintMore
attribute [local go_sem] max2_int min2_int max_two min_two max_three min_three max_four min_four
def ambryref13_Heuristic.l0:Nat→Int→List Int→Int→Option (Bool)
 |0,_,_,_=>none
 |k+1,x0,x3,x4=>if x4 < (x3.length:Int) then (if 0≤x4 then (if (rd x3 x4)=x0 then (some true) else (ambryref13_Heuristic.l0 k x0 x3 (wrap64 (x4+1)))) else (none)) else (some false)
def ambryref13_Heuristic.f(k:Nat)(a0:Int):Option (Bool):=ambryref13_Heuristic.l0 k a0 (([200,203,204,300,301,308,404,405,410,414,501]:List Int)) 0
set_option maxHeartbeats 8000000 in
set_option maxRecDepth 100000 in
theorem ambryref13_Heuristic.calls(k:Nat)(a0:Int)(r:Bool)(w:World)(h:ambryref13_Heuristic.f k a0=some r):
  Calls Tryz.prog 34 #[.int .i64 a0] w fun e w'=>e=.returned (.bool r)∧Below w.heap.size w w':=by
 have HB:=mkA (Below.refl w.heap.size w)
 have H:(ambryref13_Heuristic.l0 k a0 (([200,203,204,300,301,308,404,405,410,414,501]:List Int)) 0)=some r:=h
 clear h
 obtain ⟨y236,hy236⟩:∃ y_:List Int,y_=(([200,203,204,300,301,308,404,405,410,414,501]:List Int)):=⟨_,rfl⟩
 replace H:(ambryref13_Heuristic.l0 k a0 y236 0)=some r:=by first|(rw [hy236];with_reducible exact H)|(have H2_:=(Option.bind_some _ _).symm.trans H;rw [hy236];with_reducible exact H2_)|(have H2_:=(Option.bind_some _ _).symm.trans H;with_reducible exact H2_)|with_reducible exact H|(rw [hy236];exact H)|exact H
 have Ny236:=mkA hy236
 clear hy236
 have H':=mkA H
 clear H
 go_enter Tryz.func34,Tryz.ntmps34
 go_wp2_with (first|((with_reducible refine gate_dst (N:=5) rfl ?_);refine Kd.R_lit (Kd.int .i64) _ 3 ?hg (N:=5) ?hd (xs:=([200,203,204,300,301,308,404,405,410,414,501]:List Int)) (inner:=[.int .i64 200,.int .i64 203,.int .i64 204,.int .i64 300,.int .i64 301,.int .i64 308,.int .i64 404,.int .i64 405,.int .i64 410,.int .i64 414,.int .i64 501]) (ok:=fun _=>True) (okp:=fun _=>True) ?hr ?hp (fun _ hk=>hk) trivial (Below.refl _ _) (Nat.le_refl _) (by simp) ?_;(case hd=>rfl);(case hg=>rfl);(case hr=>first|(go_simp;done)|(go_simp;rfl));(case hp=>exact (Reps.one (show Kd.M (Kd.int .i64) _ _ _ 200 [.int .i64 200] from rfl) (Reps.one (show Kd.M (Kd.int .i64) _ _ _ 203 [.int .i64 203] from rfl) (Reps.one (show Kd.M (Kd.int .i64) _ _ _ 204 [.int .i64 204] from rfl) (Reps.one (show Kd.M (Kd.int .i64) _ _ _ 300 [.int .i64 300] from rfl) (Reps.one (show Kd.M (Kd.int .i64) _ _ _ 301 [.int .i64 301] from rfl) (Reps.one (show Kd.M (Kd.int .i64) _ _ _ 308 [.int .i64 308] from rfl) (Reps.one (show Kd.M (Kd.int .i64) _ _ _ 404 [.int .i64 404] from rfl) (Reps.one (show Kd.M (Kd.int .i64) _ _ _ 405 [.int .i64 405] from rfl) (Reps.one (show Kd.M (Kd.int .i64) _ _ _ 410 [.int .i64 410] from rfl) (Reps.one (show Kd.M (Kd.int .i64) _ _ _ 414 [.int .i64 414] from rfl) (Reps.one (show Kd.M (Kd.int .i64) _ _ _ 501 [.int .i64 501] from rfl) (Reps.none _ _)))))))))))));intro v237 w2 ho3 hb hg_ hnew_;clear hg_ hnew_;(first|rw [← Ny236.out] at ho3|(simp only [Int.reduceToNat] at ho3;rw [← Ny236.out] at ho3));have n0_:=mkA (Kd.R_lower ho3 (below_size (by repeat (first|(with_reducible first|exact HB.out|apply below_alloc|apply pw_below_drewN|apply below_drew1)|exact HB.out))));have n1_:=mkA (below_step (by repeat (first|(with_reducible first|exact HB.out|apply below_alloc|apply pw_below_drewN|apply below_drew1)|exact HB.out)) hb);clear HB;have HO238:=n0_;have HB:=n1_;clear n0_ n1_;clear hb ho3))
 go_loopg [4] k (fun kq v4 w'=>∃ (x4_1:Int),v4=.int .i64 x4_1∧Aside0 (ambryref13_Heuristic.l0 kq a0 y236 x4_1=some r)∧Aside0 (kq≤k)∧Aside0 (Kd.R (Kd.int .i64) 3 w' w.heap.size (fun _=>True) v237 y236)∧Aside0 (Below w.heap.size w w'))
 case atStart=>exact ⟨(0),(by first|rfl|(simp;done)|(simp [*];done)),H',⟨Nat.le_refl _⟩,⟨by (with_reducible repeat (first|apply Kd.R_alloc|apply Kd.R_drewN|apply Kd.R_drew));exact HO238.out⟩,⟨by repeat (first|(with_reducible first|exact HB.out|apply below_alloc|apply pw_below_drewN|apply below_drew1)|exact HB.out)⟩⟩
 case round=>
  clear H'
  try clear p2
  try clear c3
  obtain ⟨x4_1,rfl,HA,HK1,HO_3,HB⟩:=hrel
  cases gk with
  |zero=>exact absurd HA.out (by simp [ambryref13_Heuristic.l0])
  |succ k1=>
   have H:=HA.out
   clear HA
   simp only [ambryref13_Heuristic.l0] at H
   by_cases c4:x4_1 < (y236.length:Int)
   ·rw [if_pos c4] at H
    have c4b0:decide (x4_1 < (y236.length:Int))=true:=decide_eq_true c4
    clear c4
    by_cases c5:0≤x4_1
    ·rw [if_pos c5] at H
     have c5b0:decide (0≤x4_1)=true:=decide_eq_true c5
     clear c5
     by_cases c6:(rd y236 x4_1)=a0
     ·rw [if_pos c6] at H
      have c6b0:((rd y236 x4_1) == a0)=true:=beq_iff_eq.mpr c6
      have c6b1:((rd y236 x4_1) != a0)=false:=bne_eq_false_iff_eq.mpr c6
      clear c6
      obtain rfl:=Option.some.inj H
      obtain ⟨Ao7,co7,eo7⟩:=Kd.R_slice HO_3.out
      subst eo7
      have p239:0≤(x4_1:Int):=of_decide_eq_true (by first|(with_reducible assumption)|assumption)
      have q239:x4_1 < (y236.length:Int):=of_decide_eq_true (by first|(with_reducible assumption)|assumption)
      obtain ⟨ad239,e239,hx239_0⟩:=Kd.at_int (Kd.R_reads' HO_3.out).2.2 x4_1 p239 q239
      cases e239
      replace p239:=eq_true p239
      replace q239:=eq_true q239
      go_wp2
      go_ret
      exact ⟨by first|rfl|(simp [errW_none,errW_some] <;> rfl)|(simp [*,errW_none,errW_some] <;> rfl),by repeat (first|(with_reducible first|exact HB.out|apply below_alloc|apply pw_below_drewN|apply below_drew1)|exact HB.out)⟩
     ·rw [if_neg c6] at H
      have c6b0:((rd y236 x4_1) == a0)=false:=beq_eq_false_iff_ne.mpr c6
      have c6b1:((rd y236 x4_1) != a0)=true:=bne_iff_ne.mpr c6
      have H':=mkA H
      clear H
      obtain ⟨Ao8,co8,eo8⟩:=Kd.R_slice HO_3.out
      subst eo8
      have p239:0≤(x4_1:Int):=of_decide_eq_true (by first|(with_reducible assumption)|assumption)
      have q239:x4_1 < (y236.length:Int):=of_decide_eq_true (by first|(with_reducible assumption)|assumption)
      obtain ⟨ad239,e239,hx239_0⟩:=Kd.at_int (Kd.R_reads' HO_3.out).2.2 x4_1 p239 q239
      cases e239
      replace p239:=eq_true p239
      replace q239:=eq_true q239
      go_wp2
      go_roundg k1
      case measure=>have:=HK1.out;omega
      case rel=>exact ⟨(wrap64 (x4_1+1)),(by first|rfl|(simp;done)|(simp [*];done)),H',⟨by have:=HK1.out;omega⟩,⟨by (with_reducible repeat (first|apply Kd.R_alloc|apply Kd.R_drewN|apply Kd.R_drew));exact HO_3.out⟩,⟨by repeat (first|(with_reducible first|exact HB.out|apply below_alloc|apply pw_below_drewN|apply below_drew1)|exact HB.out)⟩⟩
    ·rw [if_neg c5] at H
     exact absurd H (by simp)
   ·rw [if_neg c4] at H
    have c4b0:decide (x4_1 < (y236.length:Int))=false:=decide_eq_false c4
    clear c4
    obtain rfl:=Option.some.inj H
    obtain ⟨Ao9,co9,eo9⟩:=Kd.R_slice HO_3.out
    subst eo9
    go_wp2
    go_ret
    exact ⟨by first|rfl|(simp [errW_none,errW_some] <;> rfl)|(simp [*,errW_none,errW_some] <;> rfl),by repeat (first|(with_reducible first|exact HB.out|apply below_alloc|apply pw_below_drewN|apply below_drew1)|exact HB.out)⟩
end Go.Proofs.YtlnmnjbihgaliaaGreat.Pr
