import Derived.Test.YtlnmnjbihgaliaaGreatPr0
set_option linter.unusedVariables false
set_option linter.unusedSimpArgs false
namespace Go.Proofs.YtlnmnjbihgaliaaGreat.Pr
open Go.RowKit Go.Proofs.YtlnmnjbihgaliaaGreatW.PrintWords Go.Proofs.YtlnmnjbihgaliaaGreatW.PrintLast Go.Proofs.YtlnmnjbihgaliaaGreatW.PrintMore
attribute [local go_sem] max2_int min2_int max_two min_two max_three min_three max_four min_four
def ambryref10_Bodiless.f(a0:Int)(a1:ByteArray):Option (Bool):=if a1.toList=([72,69,65,68]:List UInt8) then (some true) else (if a0=204 then (some true) else (if a0=304 then (some true) else (some (decide (a0 < 200)))))
set_option maxHeartbeats 8000000 in
set_option maxRecDepth 100000 in
theorem ambryref10_Bodiless.calls(a0:Int)(a1:ByteArray)(r:Bool)(w:World)(h:ambryref10_Bodiless.f a0 a1=some r):
  Calls Tryz.prog 17 #[.int .i64 a0,.string a1] w fun e w'=>e=.returned (.bool r)∧Drawn0 w w':=by
 have H:(if a1.toList=([72,69,65,68]:List UInt8) then (some true) else (if a0=204 then (some true) else (if a0=304 then (some true) else (some (decide (a0 < 200))))))=some r:=h
 clear h
 by_cases c3:a1.toList=([72,69,65,68]:List UInt8)
 ·rw [if_pos c3] at H
  have c3b0:(a1.toList == ([72,69,65,68]:List UInt8))=true:=beq_iff_eq.mpr c3
  have c3b1:(a1.toList != ([72,69,65,68]:List UInt8))=false:=bne_eq_false_iff_eq.mpr c3
  clear c3
  obtain rfl:=Option.some.inj H
  go_enter Tryz.func17,Tryz.ntmps17
  go_wp2
  go_ret
  exact ⟨by first|rfl|(simp;done)|(simp [*];done),by repeat (first|exact Drawn0.refl _|apply Drawn0.step)⟩
 ·rw [if_neg c3] at H
  have c3b0:(a1.toList == ([72,69,65,68]:List UInt8))=false:=beq_eq_false_iff_ne.mpr c3
  have c3b1:(a1.toList != ([72,69,65,68]:List UInt8))=true:=bne_iff_ne.mpr c3
  by_cases c4:a0=204
  ·rw [if_pos c4] at H
   have c4b0:(a0 == 204)=true:=beq_iff_eq.mpr c4
   have c4b1:(a0 != 204)=false:=bne_eq_false_iff_eq.mpr c4
   clear c4
   obtain rfl:=Option.some.inj H
   go_enter Tryz.func17,Tryz.ntmps17
   go_wp2
   go_ret
   exact ⟨by first|rfl|(simp;done)|(simp [*];done),by repeat (first|exact Drawn0.refl _|apply Drawn0.step)⟩
  ·rw [if_neg c4] at H
   have c4b0:(a0 == 204)=false:=beq_eq_false_iff_ne.mpr c4
   have c4b1:(a0 != 204)=true:=bne_iff_ne.mpr c4
   by_cases c5:a0=304
   ·rw [if_pos c5] at H
    have c5b0:(a0 == 304)=true:=beq_iff_eq.mpr c5
    have c5b1:(a0 != 304)=false:=bne_eq_false_iff_eq.mpr c5
    clear c5
    obtain rfl:=Option.some.inj H
    go_enter Tryz.func17,Tryz.ntmps17
    go_wp2
    go_ret
    exact ⟨by first|rfl|(simp;done)|(simp [*];done),by repeat (first|exact Drawn0.refl _|apply Drawn0.step)⟩
   ·rw [if_neg c5] at H
    have c5b0:(a0 == 304)=false:=beq_eq_false_iff_ne.mpr c5
    have c5b1:(a0 != 304)=true:=bne_iff_ne.mpr c5
    obtain rfl:=Option.some.inj H
    go_enter Tryz.func17,Tryz.ntmps17
    go_wp2
    go_ret
    exact ⟨by first|rfl|(simp;done)|(simp [*];done),by repeat (first|exact Drawn0.refl _|apply Drawn0.step)⟩
def ambryref10_blank.f(a0:Int):Option (Bool):=if a0=32 then (some true) else (some (a0 == 9))
set_option maxHeartbeats 8000000 in
set_option maxRecDepth 100000 in
theorem ambryref10_blank.calls(a0:Int)(r:Bool)(w:World)(h:ambryref10_blank.f a0=some r):
  Calls Tryz.prog 100 #[.int .u8 a0] w fun e w'=>e=.returned (.bool r)∧Drawn0 w w':=by
 have H:(if a0=32 then (some true) else (some (a0 == 9)))=some r:=h
 clear h
 by_cases c2:a0=32
 ·rw [if_pos c2] at H
  have c2b0:(a0 == 32)=true:=beq_iff_eq.mpr c2
  have c2b1:(a0 != 32)=false:=bne_eq_false_iff_eq.mpr c2
  clear c2
  obtain rfl:=Option.some.inj H
  go_enter Tryz.func100,Tryz.ntmps100
  go_wp2
  go_ret
  exact ⟨by first|rfl|(simp;done)|(simp [*];done),by repeat (first|exact Drawn0.refl _|apply Drawn0.step)⟩
 ·rw [if_neg c2] at H
  have c2b0:(a0 == 32)=false:=beq_eq_false_iff_ne.mpr c2
  have c2b1:(a0 != 32)=true:=bne_iff_ne.mpr c2
  obtain rfl:=Option.some.inj H
  go_enter Tryz.func100,Tryz.ntmps100
  go_wp2
  go_ret
  exact ⟨by first|rfl|(simp;done)|(simp [*];done),by repeat (first|exact Drawn0.refl _|apply Drawn0.step)⟩
mutual
def ambryref10_Trim.j1:Nat→ByteArray→Option (ByteArray)
 |0,_=>none
 |k+1,x0=>ambryref10_Trim.l1 k x0
def ambryref10_Trim.l1:Nat→ByteArray→Option (ByteArray)
 |0,_=>none
 |k+1,x0=>if (x0.size:Int) > 0 then (if 0≤(wrap64 ((x0.size:Int) - 1)) then (if (wrap64 ((x0.size:Int) - 1)) < (x0.size:Int) then ((ambryref10_blank.f (bt x0 (wrap64 ((x0.size:Int) - 1)))).bind fun t206=>(if t206=true then (if (wrap64 ((x0.size:Int) - 1))≤(x0.size:Int) then (ambryref10_Trim.l1 k (x0.extract 0 ((wrap64 ((x0.size:Int) - 1)):Int).toNat)) else (none)) else (some x0))) else (none)) else (none)) else (some x0)
def ambryref10_Trim.l0:Nat→ByteArray→Option (ByteArray)
 |0,_=>none
 |k+1,x0=>if (x0.size:Int) > 0 then (if 0 < (x0.size:Int) then ((ambryref10_blank.f (bt x0 0)).bind fun t205=>(if t205=true then (if 1≤(x0.size:Int) then (ambryref10_Trim.l0 k (x0.extract 1 x0.size)) else (none)) else (ambryref10_Trim.j1 k x0))) else (none)) else (ambryref10_Trim.j1 k x0)
end
def ambryref10_Trim.f(k:Nat)(a0:ByteArray):Option (ByteArray):=ambryref10_Trim.l0 k a0
set_option maxHeartbeats 8000000 in
set_option maxRecDepth 100000 in
theorem ambryref10_Trim.calls(k:Nat)(a0:ByteArray)(r:ByteArray)(w:World)(h:ambryref10_Trim.f k a0=some r):
  Calls Tryz.prog 77 #[.string a0] w fun e w'=>e=.returned (.string r)∧Drawn0 w w':=by
 have H:(ambryref10_Trim.l0 k a0)=some r:=h
 clear h
 have HC2:=mkA H
 clear H
 go_enter Tryz.func77,Tryz.ntmps77
 go_upto_block 0 with (fail)
 go_cut [0] (fun v0 wc=>∃ (kq:Nat) (x0_1:ByteArray),v0=.string x0_1∧Aside0 (ambryref10_Trim.j1 kq x0_1=some r)∧Aside0 (kq≤k)∧Drawn0 w wc)
 case first=>
  have H:=HC2.out
  clear HC2
  have H':=mkA H
  clear H
  go_wp2
  go_loopg [0] k (fun kq v0 w'=>∃ (x0_1:ByteArray),v0=.string x0_1∧Aside0 (ambryref10_Trim.l0 kq x0_1=some r)∧Aside0 (kq≤k)∧Drawn0 w w')
  case atStart=>exact ⟨(a0),(by first|rfl|(simp;done)|(simp [*];done)),H',⟨Nat.le_refl _⟩,by repeat (first|exact Drawn0.refl _|apply Drawn0.step)⟩
  case round=>
   clear H'
   try clear p2
   obtain ⟨x0_1,rfl,HA,HK1,⟨m1,rfl⟩⟩:=hrel
   cases gk with
   |zero=>exact absurd HA.out (by simp [ambryref10_Trim.l0])
   |succ k1=>
    have H:=HA.out
    clear HA
    simp only [ambryref10_Trim.l0] at H
    by_cases c3:(x0_1.size:Int) > 0
    ·rw [if_pos c3] at H
     have c3b0:decide (0 < (x0_1.size:Int))=true:=decide_eq_true c3
     have c3b1:decide (0 < x0_1.size)=true:=decide_eq_true (by omega)
     clear c3
     (first|rw [c3b0]|(simp only [i64_w,i32_w];rw [c3b0])|skip)
     by_cases c4:0 < (x0_1.size:Int)
     ·rw [if_pos c4] at H
      have c4b0:decide (0 < (x0_1.size:Int))=true:=decide_eq_true c4
      have c4b1:decide (0 < x0_1.size)=true:=decide_eq_true (by omega)
      clear c4
      replace H:=Option.bind_eq_some_iff.mp H
      obtain ⟨t205,A60,H⟩:=H
      replace H:(if t205=true then (if 1≤(x0_1.size:Int) then (ambryref10_Trim.l0 k1 (x0_1.extract 1 x0_1.size)) else (none)) else (ambryref10_Trim.j1 k1 x0_1))=some r:=H
      have A6:=mkA A60
      clear A60
      by_cases c7:t205=true
      ·subst c7
       have H1:(if 1≤(x0_1.size:Int) then (ambryref10_Trim.l0 k1 (x0_1.extract 1 x0_1.size)) else (none))=some r:=by rw [if_pos rfl] at H;exact H
       clear H
       have H:=H1
       clear H1
       by_cases c8:1≤(x0_1.size:Int)
       ·rw [if_pos c8] at H
        have c8b0:=eq_true c8
        have c8b1:decide (1≤(x0_1.size:Int))=true:=decide_eq_true c8
        clear c8
        have H':=mkA H
        clear H
        have p5:0≤(0:Int):=(by omega)
        have q5:0 < x0_1.size:=(by have:(0:Int) < (x0_1.size:Int):=of_decide_eq_true (by first|(with_reducible assumption)|assumption);omega)
        have hx5:∀ h:0 < x0_1.size,((x0_1[0]'h).toNat:Int)=bt x0_1 0:=bt_at x0_1 0
        clear p5
        have qi5:(0 < (x0_1.size:Int))=True:=eq_true (of_decide_eq_true (by first|(with_reducible assumption)|assumption))
        replace q5:=eq_true q5
        go_wp2_with (first|(go_at_call 100;(with_reducible refine (ambryref10_blank.calls (bt x0_1 0) true _ A6.out).mono ?_);rintro e w' ⟨rfl,⟨nd,rfl⟩⟩))
        go_roundg k1
        case measure=>have:=HK1.out;omega
        case rel=>exact ⟨(x0_1.extract 1 x0_1.size),(by first|rfl|(simp;done)|(simp [*];done)),H',⟨by have:=HK1.out;omega⟩,by repeat (first|exact Drawn0.refl _|apply Drawn0.step)⟩
       ·rw [if_neg c8] at H
        exact absurd H (by simp)
      ·replace c7:=Bool.eq_false_iff.mpr c7
       subst c7
       have H1:(ambryref10_Trim.j1 k1 x0_1)=some r:=by rw [if_neg (show ¬ (false=true) by decide)] at H;exact H
       clear H
       have H:=H1
       clear H1
       have H':=mkA H
       clear H
       have p5:0≤(0:Int):=(by omega)
       have q5:0 < x0_1.size:=(by have:(0:Int) < (x0_1.size:Int):=of_decide_eq_true (by first|(with_reducible assumption)|assumption);omega)
       have hx5:∀ h:0 < x0_1.size,((x0_1[0]'h).toNat:Int)=bt x0_1 0:=bt_at x0_1 0
       clear p5
       have qi5:(0 < (x0_1.size:Int))=True:=eq_true (of_decide_eq_true (by first|(with_reducible assumption)|assumption))
       replace q5:=eq_true q5
       go_wp2_with (first|(go_at_call 100;(with_reducible refine (ambryref10_blank.calls (bt x0_1 0) false _ A6.out).mono ?_);rintro e w' ⟨rfl,⟨nd,rfl⟩⟩))
       go_meet
       case rel=>exact ⟨_,(x0_1),(by first|rfl|(simp;done)|(simp [*];done)),H',⟨by have:=HK1.out;first|omega|exact Nat.le_refl _⟩,by repeat (first|exact Drawn0.refl _|apply Drawn0.step)⟩
     ·rw [if_neg c4] at H
      exact absurd H (by simp)
    ·rw [if_neg c3] at H
     have c3b0:decide (0 < (x0_1.size:Int))=false:=decide_eq_false c3
     have c3b1:decide (0 < x0_1.size)=false:=decide_eq_false (by omega)
     clear c3
     (first|rw [c3b0]|(simp only [i64_w,i32_w];rw [c3b0])|skip)
     have H':=mkA H
     clear H
     go_wp2
     go_meet
     case rel=>exact ⟨_,(x0_1),(by first|rfl|(simp;done)|(simp [*];done)),H',⟨by have:=HK1.out;first|omega|exact Nat.le_refl _⟩,by repeat (first|exact Drawn0.refl _|apply Drawn0.step)⟩
 case rest=>
  clear HC2
  try clear p2
  try clear c3
  try clear c3b0
  try clear c3b1
  try clear c4
  try clear c4b0
  try clear c4b1
  try clear p5
  try clear q5
  try clear hx5
  try clear qi5
  try clear c7
  try clear c8
  try clear c8b0
  try clear c8b1
  try clear p2
  try clear p5
  try clear q5
  obtain ⟨kq,x0_1,rfl,HA,HJ1,⟨mc1,rfl⟩⟩:=hcut
  cases kq with
  |zero=>exact absurd HA.out (by simp [ambryref10_Trim.j1])
  |succ kj1=>
   have H:=HA.out
   clear HA
   simp only [ambryref10_Trim.j1] at H
   have H':=mkA H
   clear H
   go_wp2
   go_loopg [0] kj1 (fun kq v0 w'=>∃ (x0_2:ByteArray),v0=.string x0_2∧Aside0 (ambryref10_Trim.l1 kq x0_2=some r)∧Aside0 (kq≤kj1)∧Drawn0 w w')
   case atStart=>exact ⟨(x0_1),(by first|rfl|(simp;done)|(simp [*];done)),H',⟨Nat.le_refl _⟩,by repeat (first|exact Drawn0.refl _|apply Drawn0.step)⟩
   case round=>
    clear H'
    try clear c1
    try clear p2
    try clear c3
    try clear c3b0
    try clear c3b1
    try clear c4
    try clear c4b0
    try clear c4b1
    try clear p5
    try clear q5
    try clear hx5
    try clear qi5
    try clear c7
    try clear c8
    try clear c8b0
    try clear c8b1
    try clear p2
    try clear p5
    try clear q5
    obtain ⟨x0_2,rfl,HA,HK2,⟨m2,rfl⟩⟩:=hrel
    cases gk with
    |zero=>exact absurd HA.out (by simp [ambryref10_Trim.l1])
    |succ k2=>
     have H:=HA.out
     clear HA
     simp only [ambryref10_Trim.l1] at H
     by_cases c9:(x0_2.size:Int) > 0
     ·rw [if_pos c9] at H
      have c9b0:decide (0 < (x0_2.size:Int))=true:=decide_eq_true c9
      have c9b1:decide (0 < x0_2.size)=true:=decide_eq_true (by omega)
      clear c9
      obtain ⟨ji10,hji10⟩:∃ j_:Int,(wrap64 ((x0_2.size:Int) - 1))=j_:=⟨_,rfl⟩
      replace H:(if 0≤(ji10) then (if (ji10) < (x0_2.size:Int) then ((ambryref10_blank.f (bt x0_2 (ji10))).bind fun t206=>(if t206=true then (if (ji10)≤(x0_2.size:Int) then (ambryref10_Trim.l1 k2 (x0_2.extract 0 ((ji10):Int).toNat)) else (none)) else (some x0_2))) else (none)) else (none))=some r:=by first|(rw [hji10] at H;exact H)|(simp only [hji10] at H ⊢;exact H)
      have hji10w:(IntKind.i64.wrap ((x0_2.size:Int) - 1))=ji10:=(i64_w _).trans hji10
      by_cases c11:0≤(ji10)
      ·rw [if_pos c11] at H
       have c11b0:decide (0≤(ji10))=true:=decide_eq_true c11
       clear c11
       by_cases c12:(ji10) < (x0_2.size:Int)
       ·rw [if_pos c12] at H
        have c12b0:decide ((ji10) < (x0_2.size:Int))=true:=decide_eq_true c12
        clear c12
        replace H:=Option.bind_eq_some_iff.mp H
        obtain ⟨t206,A140,H⟩:=H
        replace H:(if t206=true then (if (ji10)≤(x0_2.size:Int) then (ambryref10_Trim.l1 k2 (x0_2.extract 0 ((ji10):Int).toNat)) else (none)) else (some x0_2))=some r:=H
        have A14:=mkA A140
        clear A140
        by_cases c15:t206=true
        ·subst c15
         have H1:(if (ji10)≤(x0_2.size:Int) then (ambryref10_Trim.l1 k2 (x0_2.extract 0 ((ji10):Int).toNat)) else (none))=some r:=by rw [if_pos rfl] at H;exact H
         clear H
         have H:=H1
         clear H1
         have c16b0:=eq_true (of_decide_eq_true (by first|(with_reducible assumption)|assumption):0≤(ji10))
         by_cases c17:(ji10)≤(x0_2.size:Int)
         ·rw [if_pos c17] at H
          have c17b0:=eq_true c17
          have c17b1:decide ((ji10)≤(x0_2.size:Int))=true:=decide_eq_true c17
          clear c17
          have H':=mkA H
          clear H
          have p13:0≤((ji10):Int):=of_decide_eq_true (by first|(with_reducible assumption)|assumption)
          have q13:(ji10) < (x0_2.size:Int):=of_decide_eq_true (by first|(with_reducible assumption)|assumption)
          have hx13:=bt_at x0_2 (ji10)
          replace p13:=eq_true p13
          replace q13:=eq_true q13
          go_wp2_with (first|(go_at_call 100;(with_reducible refine (ambryref10_blank.calls (bt x0_2 (ji10)) true _ A14.out).mono ?_);rintro e w' ⟨rfl,⟨nd,rfl⟩⟩))
          go_roundg k2
          case measure=>have:=HJ1.out;have:=HK2.out;omega
          case rel=>exact ⟨(x0_2.extract 0 ((ji10):Int).toNat),(by first|rfl|(simp;done)|(simp only [← hji10] <;> (first|rfl|simp))|(simp [*];done)),H',⟨by have:=HJ1.out;have:=HK2.out;omega⟩,by repeat (first|exact Drawn0.refl _|apply Drawn0.step)⟩
         ·rw [if_neg c17] at H
          exact absurd H (by simp)
        ·replace c15:=Bool.eq_false_iff.mpr c15
         subst c15
         have H1:(some x0_2)=some r:=by rw [if_neg (show ¬ (false=true) by decide)] at H;exact H
         clear H
         have H:=H1
         clear H1
         obtain rfl:=Option.some.inj H
         have p13:0≤((ji10):Int):=of_decide_eq_true (by first|(with_reducible assumption)|assumption)
         have q13:(ji10) < (x0_2.size:Int):=of_decide_eq_true (by first|(with_reducible assumption)|assumption)
         have hx13:=bt_at x0_2 (ji10)
         replace p13:=eq_true p13
         replace q13:=eq_true q13
         go_wp2_with (first|(go_at_call 100;(with_reducible refine (ambryref10_blank.calls (bt x0_2 (ji10)) false _ A14.out).mono ?_);rintro e w' ⟨rfl,⟨nd,rfl⟩⟩))
         go_ret
         exact ⟨by first|rfl|(simp;done)|(simp only [← hji10] <;> (first|rfl|simp))|(simp [*];done),by repeat (first|exact Drawn0.refl _|apply Drawn0.step)⟩
       ·rw [if_neg c12] at H
        exact absurd H (by simp)
      ·rw [if_neg c11] at H
       exact absurd H (by simp)
     ·rw [if_neg c9] at H
      have c9b0:decide (0 < (x0_2.size:Int))=false:=decide_eq_false c9
      have c9b1:decide (0 < x0_2.size)=false:=decide_eq_false (by omega)
      clear c9
      obtain rfl:=Option.some.inj H
      go_wp2
      go_ret
      exact ⟨by first|rfl|(simp;done)|(simp [*];done),by repeat (first|exact Drawn0.refl _|apply Drawn0.step)⟩
end Go.Proofs.YtlnmnjbihgaliaaGreat.Pr
