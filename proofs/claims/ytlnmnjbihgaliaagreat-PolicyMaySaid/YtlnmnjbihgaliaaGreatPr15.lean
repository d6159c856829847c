import Derived.Test.YtlnmnjbihgaliaaGreatPr0
set_option linter.unusedVariables false
set_option linter.unusedSimpArgs false
namespace Go.Proofs.YtlnmnjbihgaliaaGreat.Pr
open Go.RowKit Go.Proofs.YtlnmnjbihgaliaaGreatW.PrintWords Go.Proofs.YtlnmnjbihgaliaaGreatW.PrintLast Go.Proofs.YtlnmnjbihgaliaaGreatW.PrintMore
attribute [local go_sem] max2_int min2_int max_two min_two max_three min_three max_four min_four
def ambryref13_Seconds.l0:Nat→ByteArray→Int→Int→Option (Int)
 |0,_,_,_=>none
 |k+1,x0,x3,x4=>if x4 < (x0.size:Int) then (if 0≤x4 then (if (bt x0 x4) < 48 then (some (-1)) else (if (bt x0 x4) > 57 then (some (-1)) else (ambryref13_Seconds.l0 k x0 (mn (wrap64 ((wrap64 (10 * x3))+(((bt x0 x4) - 48) % 256))) 2147483647) (wrap64 (x4+1))))) else (none)) else (some x3)
def ambryref13_Seconds.f(k:Nat)(a0:ByteArray):Option (Int):=if a0.toList=([]:List UInt8) then (some (-1)) else (ambryref13_Seconds.l0 k a0 0 0)
set_option maxHeartbeats 8000000 in
set_option maxRecDepth 100000 in
theorem ambryref13_Seconds.calls(k:Nat)(a0:ByteArray)(r:Int)(w:World)(h:ambryref13_Seconds.f k a0=some r):
  Calls Tryz.prog 78 #[.string a0] w fun e w'=>e=.returned (.int .i64 r)∧Below w.heap.size w w':=by
 have HB:=mkA (Below.refl w.heap.size w)
 have H:(if a0.toList=([]:List UInt8) then (some (-1)) else (ambryref13_Seconds.l0 k a0 0 0))=some r:=h
 clear h
 by_cases c2:a0.toList=([]:List UInt8)
 ·rw [if_pos c2] at H
  have c2b0:(a0.toList == ([]:List UInt8))=true:=beq_iff_eq.mpr c2
  have c2b1:(a0.toList != ([]:List UInt8))=false:=bne_eq_false_iff_eq.mpr c2
  clear c2
  obtain rfl:=Option.some.inj H
  go_enter Tryz.func78,Tryz.ntmps78
  go_wp2
  go_ret
  exact ⟨by first|rfl|(simp [errW_none,errW_some] <;> rfl)|(simp [*,errW_none,errW_some] <;> rfl),by repeat (first|(with_reducible first|exact HB.out|apply below_alloc|apply pw_below_drewN|apply below_drew1)|exact HB.out)⟩
 ·rw [if_neg c2] at H
  have c2b0:(a0.toList == ([]:List UInt8))=false:=beq_eq_false_iff_ne.mpr c2
  have c2b1:(a0.toList != ([]:List UInt8))=true:=bne_iff_ne.mpr c2
  have H':=mkA H
  clear H
  go_enter Tryz.func78,Tryz.ntmps78
  go_wp2
  go_loopg [3,4] k (fun kq v3 v4 w'=>∃ (x3_1:Int) (x4_1:Int),v3=.int .i64 x3_1∧v4=.int .i64 x4_1∧Aside0 (ambryref13_Seconds.l0 kq a0 x3_1 x4_1=some r)∧Aside0 (kq≤k)∧Aside0 (Below w.heap.size w w'))
  case atStart=>exact ⟨(0),(0),(by first|rfl|(simp;done)|(simp [*];done)),(by first|rfl|(simp;done)|(simp [*];done)),H',⟨Nat.le_refl _⟩,⟨by repeat (first|(with_reducible first|exact HB.out|apply below_alloc|apply pw_below_drewN|apply below_drew1)|exact HB.out)⟩⟩
  case round=>
   clear H'
   try clear c2
   try clear c2b0
   try clear c2b1
   try clear p2
   obtain ⟨x3_1,x4_1,rfl,rfl,HA,HK1,HB⟩:=hrel
   cases gk with
   |zero=>exact absurd HA.out (by simp [ambryref13_Seconds.l0])
   |succ k1=>
    have H:=HA.out
    clear HA
    simp only [ambryref13_Seconds.l0] at H
    by_cases c3:x4_1 < (a0.size:Int)
    ·rw [if_pos c3] at H
     have c3b0:decide (x4_1 < (a0.size:Int))=true:=decide_eq_true c3
     clear c3
     by_cases c4:0≤x4_1
     ·rw [if_pos c4] at H
      have c4b0:decide (0≤x4_1)=true:=decide_eq_true c4
      clear c4
      by_cases c6:(bt a0 x4_1) < 48
      ·rw [if_pos c6] at H
       have c6b0:decide ((bt a0 x4_1) < 48)=true:=decide_eq_true c6
       clear c6
       obtain rfl:=Option.some.inj H
       have p5:0≤(x4_1:Int):=of_decide_eq_true (by first|(with_reducible assumption)|assumption)
       have q5:x4_1 < (a0.size:Int):=of_decide_eq_true (by first|(with_reducible assumption)|assumption)
       have hx5:=bt_at a0 x4_1
       replace p5:=eq_true p5
       replace q5:=eq_true q5
       go_wp2
       go_ret
       exact ⟨by first|rfl|(simp [errW_none,errW_some] <;> rfl)|(simp [*,errW_none,errW_some] <;> rfl),by repeat (first|(with_reducible first|exact HB.out|apply below_alloc|apply pw_below_drewN|apply below_drew1)|exact HB.out)⟩
      ·rw [if_neg c6] at H
       have c6b0:decide ((bt a0 x4_1) < 48)=false:=decide_eq_false c6
       clear c6
       by_cases c8:(bt a0 x4_1) > 57
       ·rw [if_pos c8] at H
        have c8b0:decide (57 < (bt a0 x4_1))=true:=decide_eq_true c8
        clear c8
        obtain rfl:=Option.some.inj H
        have p5:0≤(x4_1:Int):=of_decide_eq_true (by first|(with_reducible assumption)|assumption)
        have q5:x4_1 < (a0.size:Int):=of_decide_eq_true (by first|(with_reducible assumption)|assumption)
        have hx5:=bt_at a0 x4_1
        replace p5:=eq_true p5
        replace q5:=eq_true q5
        have p7:0≤(x4_1:Int):=of_decide_eq_true (by first|(with_reducible assumption)|assumption)
        have q7:x4_1 < (a0.size:Int):=of_decide_eq_true (by first|(with_reducible assumption)|assumption)
        have hx7:=bt_at a0 x4_1
        replace p7:=eq_true p7
        replace q7:=eq_true q7
        go_wp2
        go_ret
        exact ⟨by first|rfl|(simp [errW_none,errW_some] <;> rfl)|(simp [*,errW_none,errW_some] <;> rfl),by repeat (first|(with_reducible first|exact HB.out|apply below_alloc|apply pw_below_drewN|apply below_drew1)|exact HB.out)⟩
       ·rw [if_neg c8] at H
        have c8b0:decide (57 < (bt a0 x4_1))=false:=decide_eq_false c8
        clear c8
        obtain ⟨ji10,hji10⟩:∃ j_:Int,(mn (wrap64 ((wrap64 (10 * x3_1))+(((bt a0 x4_1) - 48) % 256))) 2147483647)=j_:=⟨_,rfl⟩
        replace H:(ambryref13_Seconds.l0 k1 a0 ji10 (wrap64 (x4_1+1)))=some r:=by first|(rw [hji10] at H;exact H)|(simp only [hji10] at H ⊢;exact H)
        have hji10_:(if 2147483647 < (wrap64 ((wrap64 (10 * x3_1))+(((bt a0 x4_1) - 48) % 256))) then 2147483647 else (wrap64 ((wrap64 (10 * x3_1))+(((bt a0 x4_1) - 48) % 256))))=ji10:=hji10
        have H':=mkA H
        clear H
        have p5:0≤(x4_1:Int):=of_decide_eq_true (by first|(with_reducible assumption)|assumption)
        have q5:x4_1 < (a0.size:Int):=of_decide_eq_true (by first|(with_reducible assumption)|assumption)
        have hx5:=bt_at a0 x4_1
        replace p5:=eq_true p5
        replace q5:=eq_true q5
        have p7:0≤(x4_1:Int):=of_decide_eq_true (by first|(with_reducible assumption)|assumption)
        have q7:x4_1 < (a0.size:Int):=of_decide_eq_true (by first|(with_reducible assumption)|assumption)
        have hx7:=bt_at a0 x4_1
        replace p7:=eq_true p7
        replace q7:=eq_true q7
        have p9:0≤(x4_1:Int):=of_decide_eq_true (by first|(with_reducible assumption)|assumption)
        have q9:x4_1 < (a0.size:Int):=of_decide_eq_true (by first|(with_reducible assumption)|assumption)
        have hx9:=bt_at a0 x4_1
        replace p9:=eq_true p9
        replace q9:=eq_true q9
        go_wp2
        go_roundg k1
        case measure=>have:=HK1.out;omega
        case rel=>exact ⟨(ji10),(wrap64 (x4_1+1)),(by first|rfl|(simp;done)|(simp only [← hji10] <;> (first|rfl|simp))|(simp [*];done)),(by first|rfl|(simp;done)|(simp [*];done)),H',⟨by have:=HK1.out;omega⟩,⟨by repeat (first|(with_reducible first|exact HB.out|apply below_alloc|apply pw_below_drewN|apply below_drew1)|exact HB.out)⟩⟩
     ·rw [if_neg c4] at H
      exact absurd H (by simp)
    ·rw [if_neg c3] at H
     have c3b0:decide (x4_1 < (a0.size:Int))=false:=decide_eq_false c3
     clear c3
     obtain rfl:=Option.some.inj H
     go_wp2
     go_ret
     exact ⟨by first|rfl|(simp [errW_none,errW_some] <;> rfl)|(simp [*,errW_none,errW_some] <;> rfl),by repeat (first|(with_reducible first|exact HB.out|apply below_alloc|apply pw_below_drewN|apply below_drew1)|exact HB.out)⟩
def ambryref13_least.f(k:Nat)(a0:Int)(a1:ByteArray):Option (Int):=(ambryref13_Seconds.f k a1).bind fun t215=>(if a0 < 0 then (some (mx t215 0)) else (some (mn a0 (mx t215 0))))
set_option maxHeartbeats 8000000 in
set_option maxRecDepth 100000 in
theorem ambryref13_least.calls(k:Nat)(a0:Int)(a1:ByteArray)(r:Int)(w:World)(h:ambryref13_least.f k a0 a1=some r):
  Calls Tryz.prog 57 #[.int .i64 a0,.string a1] w fun e w'=>e=.returned (.int .i64 r)∧Below w.heap.size w w':=by
 have HB:=mkA (Below.refl w.heap.size w)
 have H:((ambryref13_Seconds.f k a1).bind fun t215=>(if a0 < 0 then (some (mx t215 0)) else (some (mn a0 (mx t215 0)))))=some r:=h
 clear h
 replace H:=Option.bind_eq_some_iff.mp H
 obtain ⟨t215,A30,H⟩:=H
 replace H:(if a0 < 0 then (some (mx t215 0)) else (some (mn a0 (mx t215 0))))=some r:=H
 have A3:=mkA A30
 clear A30
 obtain ⟨ji4,hji4⟩:∃ j_:Int,(mx t215 0)=j_:=⟨_,rfl⟩
 replace H:(if a0 < 0 then (some ji4) else (some (mn a0 (ji4))))=some r:=by first|(rw [hji4] at H;exact H)|(simp only [hji4] at H ⊢;exact H)
 (try rw [hji4] at A3)
 (try (have hji4l:0≤ji4:=by (rw [← hji4];unfold mx;(repeat' split) <;> omega)))
 (try (have hji4m:0≤ji4:=by omega))
 have hji4_:(if t215 < 0 then 0 else t215)=ji4:=hji4
 by_cases c5:a0 < 0
 ·rw [if_pos c5] at H
  have c5b0:decide (a0 < 0)=true:=decide_eq_true c5
  clear c5
  obtain rfl:=Option.some.inj H
  go_enter Tryz.func57,Tryz.ntmps57
  go_wp2_with (first|((with_reducible refine gate_callee (f:=78) rfl ?_);refine goesL_ (some 7) rfl rfl Tryz.func78 (by kernel_rfl) rfl #[.string a1] rfl (by (try simp only [List.map_toArray,List.map_cons,List.map_nil]);first|done|rfl|(simp only [List.length_drop,List.length_take];rfl)) ?_;(with_reducible refine (ambryref13_Seconds.calls k a1 t215 _ A3.out).mono ?_);rintro e w6 ⟨rfl,hb⟩;refine ⟨_,rfl,?_⟩;have n0_:=mkA (below_step (by repeat (first|(with_reducible first|exact HB.out|apply below_alloc|apply pw_below_drewN|apply below_drew1)|exact HB.out)) hb);clear HB;have HB:=n0_;clear n0_;(try clear hb);(try clear hb2);(try clear hk);(try clear hi)))
  go_ret
  exact ⟨by first|rfl|(simp [errW_none,errW_some] <;> rfl)|(simp only [← hji4];first|rfl|(simp [errW_none,errW_some] <;> rfl))|(simp [*,errW_none,errW_some] <;> rfl),by repeat (first|(with_reducible first|exact HB.out|apply below_alloc|apply pw_below_drewN|apply below_drew1)|exact HB.out)⟩
 ·rw [if_neg c5] at H
  have c5b0:decide (a0 < 0)=false:=decide_eq_false c5
  clear c5
  obtain ⟨ji7,hji7⟩:∃ j_:Int,(mn a0 (ji4))=j_:=⟨_,rfl⟩
  replace H:(some ji7)=some r:=by first|(rw [hji7] at H;exact H)|(simp only [hji7] at H ⊢;exact H)
  (try rw [hji7] at A3)
  have hji7_:(if (ji4) < a0 then (ji4) else a0)=ji7:=hji7
  obtain rfl:=Option.some.inj H
  go_enter Tryz.func57,Tryz.ntmps57
  go_wp2_with (first|((with_reducible refine gate_callee (f:=78) rfl ?_);refine goesL_ (some 7) rfl rfl Tryz.func78 (by kernel_rfl) rfl #[.string a1] rfl (by (try simp only [List.map_toArray,List.map_cons,List.map_nil]);first|done|rfl|(simp only [List.length_drop,List.length_take];rfl)) ?_;(with_reducible refine (ambryref13_Seconds.calls k a1 t215 _ A3.out).mono ?_);rintro e w8 ⟨rfl,hb⟩;refine ⟨_,rfl,?_⟩;have n0_:=mkA (below_step (by repeat (first|(with_reducible first|exact HB.out|apply below_alloc|apply pw_below_drewN|apply below_drew1)|exact HB.out)) hb);clear HB;have HB:=n0_;clear n0_;(try clear hb);(try clear hb2);(try clear hk);(try clear hi)))
  go_ret
  exact ⟨by first|rfl|(simp [errW_none,errW_some] <;> rfl)|(simp only [← hji4,← hji7];first|rfl|(simp [errW_none,errW_some] <;> rfl))|(simp [*,errW_none,errW_some] <;> rfl),by repeat (first|(with_reducible first|exact HB.out|apply below_alloc|apply pw_below_drewN|apply below_drew1)|exact HB.out)⟩
end Go.Proofs.YtlnmnjbihgaliaaGreat.Pr
