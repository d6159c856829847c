import Derived.Test.YtlnmnjbihgaliaaGreatPr0
set_option linter.unusedVariables false
set_option linter.unusedSimpArgs false
namespace Go.Proofs.YtlnmnjbihgaliaaGreat.Pr
open Go.RowKit Go.Proofs.YtlnmnjbihgaliaaGreatW.PrintWords Go.Proofs.YtlnmnjbihgaliaaGreatW.PrintLast Go.Proofs.YtlnmnjbihgaliaaGreatW.PrintMore
attribute [local go_sem] max2_int min2_int max_two min_two max_three min_three max_four min_four
def ambryref13_Safe.f(a0:ByteArray):Option (Bool):=if a0.toList=([71,69,84]:List UInt8) then (some true) else (if a0.toList=([72,69,65,68]:List UInt8) then (some true) else (if a0.toList=([79,80,84,73,79,78,83]:List UInt8) then (some true) else (some (a0.toList == ([84,82,65,67,69]:List UInt8)))))
set_option maxHeartbeats 8000000 in
set_option maxRecDepth 100000 in
theorem ambryref13_Safe.calls(a0:ByteArray)(r:Bool)(w:World)(h:ambryref13_Safe.f a0=some r):
  Calls Tryz.prog 12 #[.string a0] w fun e w'=>e=.returned (.bool r)∧Drawn0 w w':=by
 have H:(if a0.toList=([71,69,84]:List UInt8) then (some true) else (if a0.toList=([72,69,65,68]:List UInt8) then (some true) else (if a0.toList=([79,80,84,73,79,78,83]:List UInt8) then (some true) else (some (a0.toList == ([84,82,65,67,69]:List UInt8))))))=some r:=h
 clear h
 by_cases c2:a0.toList=([71,69,84]:List UInt8)
 ·rw [if_pos c2] at H
  have c2b0:(a0.toList == ([71,69,84]:List UInt8))=true:=beq_iff_eq.mpr c2
  have c2b1:(a0.toList != ([71,69,84]:List UInt8))=false:=bne_eq_false_iff_eq.mpr c2
  clear c2
  obtain rfl:=Option.some.inj H
  go_enter Tryz.func12,Tryz.ntmps12
  go_wp2
  go_ret
  exact ⟨by first|rfl|(simp;done)|(simp [*];done),by repeat (first|exact Drawn0.refl _|apply Drawn0.step)⟩
 ·rw [if_neg c2] at H
  have c2b0:(a0.toList == ([71,69,84]:List UInt8))=false:=beq_eq_false_iff_ne.mpr c2
  have c2b1:(a0.toList != ([71,69,84]:List UInt8))=true:=bne_iff_ne.mpr c2
  by_cases c3:a0.toList=([72,69,65,68]:List UInt8)
  ·rw [if_pos c3] at H
   have c3b0:(a0.toList == ([72,69,65,68]:List UInt8))=true:=beq_iff_eq.mpr c3
   have c3b1:(a0.toList != ([72,69,65,68]:List UInt8))=false:=bne_eq_false_iff_eq.mpr c3
   clear c3
   obtain rfl:=Option.some.inj H
   go_enter Tryz.func12,Tryz.ntmps12
   go_wp2
   go_ret
   exact ⟨by first|rfl|(simp;done)|(simp [*];done),by repeat (first|exact Drawn0.refl _|apply Drawn0.step)⟩
  ·rw [if_neg c3] at H
   have c3b0:(a0.toList == ([72,69,65,68]:List UInt8))=false:=beq_eq_false_iff_ne.mpr c3
   have c3b1:(a0.toList != ([72,69,65,68]:List UInt8))=true:=bne_iff_ne.mpr c3
   by_cases c4:a0.toList=([79,80,84,73,79,78,83]:List UInt8)
   ·rw [if_pos c4] at H
    have c4b0:(a0.toList == ([79,80,84,73,79,78,83]:List UInt8))=true:=beq_iff_eq.mpr c4
    have c4b1:(a0.toList != ([79,80,84,73,79,78,83]:List UInt8))=false:=bne_eq_false_iff_eq.mpr c4
    clear c4
    obtain rfl:=Option.some.inj H
    go_enter Tryz.func12,Tryz.ntmps12
    go_wp2
    go_ret
    exact ⟨by first|rfl|(simp;done)|(simp [*];done),by repeat (first|exact Drawn0.refl _|apply Drawn0.step)⟩
   ·rw [if_neg c4] at H
    have c4b0:(a0.toList == ([79,80,84,73,79,78,83]:List UInt8))=false:=beq_eq_false_iff_ne.mpr c4
    have c4b1:(a0.toList != ([79,80,84,73,79,78,83]:List UInt8))=true:=bne_iff_ne.mpr c4
    obtain rfl:=Option.some.inj H
    go_enter Tryz.func12,Tryz.ntmps12
    go_wp2
    go_ret
    exact ⟨by first|rfl|(simp;done)|(simp [*];done),by repeat (first|exact Drawn0.refl _|apply Drawn0.step)⟩
end Go.Proofs.YtlnmnjbihgaliaaGreat.Pr
