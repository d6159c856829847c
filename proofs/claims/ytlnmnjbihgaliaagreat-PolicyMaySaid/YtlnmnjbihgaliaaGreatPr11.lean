import Derived.Test.YtlnmnjbihgaliaaGreatPr0
set_option linter.unusedVariables false
set_option linter.unusedSimpArgs false
namespace Go.Proofs.YtlnmnjbihgaliaaGreat.Pr
open Go.RowKit Go.Proofs.YtlnmnjbihgaliaaGreatW.PrintWords Go.Proofs.YtlnmnjbihgaliaaGreatW.PrintLast Go.Proofs.YtlnmnjbihgaliaaGreatW.PrintMore
attribute [local go_sem] max2_int min2_int max_two min_two max_three min_three max_four min_four
def ambryref9_days.f :Option (List ByteArray):=some (([(⟨#[83,117,110]⟩:ByteArray),(⟨#[77,111,110]⟩:ByteArray),(⟨#[84,117,101]⟩:ByteArray),(⟨#[87,101,100]⟩:ByteArray),(⟨#[84,104,117]⟩:ByteArray),(⟨#[70,114,105]⟩:ByteArray),(⟨#[83,97,116]⟩:ByteArray)]:List ByteArray))
set_option maxHeartbeats 8000000 in
set_option maxRecDepth 100000 in
theorem ambryref9_days.calls  (r:List ByteArray) (w:World) (h:ambryref9_days.f =some r) :
  Calls Tryz.prog 41 #[] w fun e w'=>∃ v0_:Value,e=.returned (v0_)∧Kd.R Kd.string 9 w' w.heap.size (fun _=>True) v0_ r∧Below w.heap.size w w':=by
 have HB:=mkA (Below.refl w.heap.size w)
 have H:(some (([(⟨#[83,117,110]⟩:ByteArray),(⟨#[77,111,110]⟩:ByteArray),(⟨#[84,117,101]⟩:ByteArray),(⟨#[87,101,100]⟩:ByteArray),(⟨#[84,104,117]⟩:ByteArray),(⟨#[70,114,105]⟩:ByteArray),(⟨#[83,97,116]⟩:ByteArray)]:List ByteArray)))=some r:=h
 clear h
 obtain ⟨y181,hy181⟩:∃ y_:List ByteArray,y_=(([(⟨#[83,117,110]⟩:ByteArray),(⟨#[77,111,110]⟩:ByteArray),(⟨#[84,117,101]⟩:ByteArray),(⟨#[87,101,100]⟩:ByteArray),(⟨#[84,104,117]⟩:ByteArray),(⟨#[70,114,105]⟩:ByteArray),(⟨#[83,97,116]⟩:ByteArray)]:List ByteArray)):=⟨_,rfl⟩
 replace H:(some y181)=some r:=by first|(rw [hy181];with_reducible exact H)|(have H2_:=(Option.bind_some _ _).symm.trans H;rw [hy181];with_reducible exact H2_)|(have H2_:=(Option.bind_some _ _).symm.trans H;with_reducible exact H2_)|with_reducible exact H|(rw [hy181];exact H)|exact H
 have Ny181:=mkA hy181
 clear hy181
 obtain rfl:=Option.some.inj H
 go_enter Tryz.func41,Tryz.ntmps41
 go_wp2_with (first|((with_reducible refine gate_dst (N:=1) rfl ?_);refine Kd.R_lit Kd.string _ 9 ?hg (N:=1) ?hd (xs:=([(⟨#[83,117,110]⟩:ByteArray),(⟨#[77,111,110]⟩:ByteArray),(⟨#[84,117,101]⟩:ByteArray),(⟨#[87,101,100]⟩:ByteArray),(⟨#[84,104,117]⟩:ByteArray),(⟨#[70,114,105]⟩:ByteArray),(⟨#[83,97,116]⟩:ByteArray)]:List ByteArray)) (inner:=[.string (⟨#[83,117,110]⟩:ByteArray),.string (⟨#[77,111,110]⟩:ByteArray),.string (⟨#[84,117,101]⟩:ByteArray),.string (⟨#[87,101,100]⟩:ByteArray),.string (⟨#[84,104,117]⟩:ByteArray),.string (⟨#[70,114,105]⟩:ByteArray),.string (⟨#[83,97,116]⟩:ByteArray)]) (ok:=fun _=>True) (okp:=fun _=>True) ?hr ?hp (fun _ hk=>hk) trivial (Below.refl _ _) (Nat.le_refl _) (by simp) ?_;(case hd=>rfl);(case hg=>rfl);(case hr=>first|(go_simp;done)|(go_simp;rfl));(case hp=>exact (Reps.one (show Kd.M Kd.string _ _ _ (⟨#[83,117,110]⟩:ByteArray) [.string (⟨#[83,117,110]⟩:ByteArray)] from rfl) (Reps.one (show Kd.M Kd.string _ _ _ (⟨#[77,111,110]⟩:ByteArray) [.string (⟨#[77,111,110]⟩:ByteArray)] from rfl) (Reps.one (show Kd.M Kd.string _ _ _ (⟨#[84,117,101]⟩:ByteArray) [.string (⟨#[84,117,101]⟩:ByteArray)] from rfl) (Reps.one (show Kd.M Kd.string _ _ _ (⟨#[87,101,100]⟩:ByteArray) [.string (⟨#[87,101,100]⟩:ByteArray)] from rfl) (Reps.one (show Kd.M Kd.string _ _ _ (⟨#[84,104,117]⟩:ByteArray) [.string (⟨#[84,104,117]⟩:ByteArray)] from rfl) (Reps.one (show Kd.M Kd.string _ _ _ (⟨#[70,114,105]⟩:ByteArray) [.string (⟨#[70,114,105]⟩:ByteArray)] from rfl) (Reps.one (show Kd.M Kd.string _ _ _ (⟨#[83,97,116]⟩:ByteArray) [.string (⟨#[83,97,116]⟩:ByteArray)] from rfl) (Reps.none _ _)))))))));intro v182 w1 ho2 hb hg_ hnew_;clear hg_ hnew_;(first|rw [← Ny181.out] at ho2|(simp only [Int.reduceToNat] at ho2;rw [← Ny181.out] at ho2));have n0_:=mkA (Kd.R_lower ho2 (below_size (by repeat (first|(with_reducible first|exact HB.out|apply below_alloc|apply pw_below_drewN|apply below_drew1)|exact HB.out))));have n1_:=mkA (below_step (by repeat (first|(with_reducible first|exact HB.out|apply below_alloc|apply pw_below_drewN|apply below_drew1)|exact HB.out)) hb);clear HB;have HO183:=n0_;have HB:=n1_;clear n0_ n1_;clear hb ho2))
 go_ret
 exact ⟨_,by first|rfl|(simp [errW_none,errW_some] <;> rfl)|(simp [*,errW_none,errW_some] <;> rfl),by (with_reducible repeat (first|apply Kd.R_alloc|apply Kd.R_drewN|apply Kd.R_drew));exact HO183.out,by repeat (first|(with_reducible first|exact HB.out|apply below_alloc|apply pw_below_drewN|apply below_drew1)|exact HB.out)⟩
def ambryref9_two.f(a0:Int):Option (ByteArray):=if 0≤(Int.tmod (wrap64 (Int.tdiv a0 10)) 10) then (if (Int.tmod (wrap64 (Int.tdiv a0 10)) 10)≤(wrap64 ((Int.tmod (wrap64 (Int.tdiv a0 10)) 10)+1)) then (if (wrap64 ((Int.tmod (wrap64 (Int.tdiv a0 10)) 10)+1))≤10 then (if 0≤(Int.tmod a0 10) then (if (Int.tmod a0 10)≤(wrap64 ((Int.tmod a0 10)+1)) then (if (wrap64 ((Int.tmod a0 10)+1))≤10 then (if ((⟨#[48,49,50,51,52,53,54,55,56,57]⟩:ByteArray).extract ((Int.tmod (wrap64 (Int.tdiv a0 10)) 10):Int).toNat ((wrap64 ((Int.tmod (wrap64 (Int.tdiv a0 10)) 10)+1)):Int).toNat).size+((⟨#[48,49,50,51,52,53,54,55,56,57]⟩:ByteArray).extract ((Int.tmod a0 10):Int).toNat ((wrap64 ((Int.tmod a0 10)+1)):Int).toNat).size≤9223372036854775807 then (some (((⟨#[48,49,50,51,52,53,54,55,56,57]⟩:ByteArray).extract ((Int.tmod (wrap64 (Int.tdiv a0 10)) 10):Int).toNat ((wrap64 ((Int.tmod (wrap64 (Int.tdiv a0 10)) 10)+1)):Int).toNat)++((⟨#[48,49,50,51,52,53,54,55,56,57]⟩:ByteArray).extract ((Int.tmod a0 10):Int).toNat ((wrap64 ((Int.tmod a0 10)+1)):Int).toNat))) else (none)) else (none)) else (none)) else (none)) else (none)) else (none)) else (none)
set_option maxHeartbeats 8000000 in
set_option maxRecDepth 100000 in
theorem ambryref9_two.calls(a0:Int)(r:ByteArray)(w:World)(h:ambryref9_two.f a0=some r):
  Calls Tryz.prog 42 #[.int .i64 a0] w fun e w'=>e=.returned (.string r)∧Drawn0 w w':=by
 have H:(if 0≤(Int.tmod (wrap64 (Int.tdiv a0 10)) 10) then (if (Int.tmod (wrap64 (Int.tdiv a0 10)) 10)≤(wrap64 ((Int.tmod (wrap64 (Int.tdiv a0 10)) 10)+1)) then (if (wrap64 ((Int.tmod (wrap64 (Int.tdiv a0 10)) 10)+1))≤10 then (if 0≤(Int.tmod a0 10) then (if (Int.tmod a0 10)≤(wrap64 ((Int.tmod a0 10)+1)) then (if (wrap64 ((Int.tmod a0 10)+1))≤10 then (if ((⟨#[48,49,50,51,52,53,54,55,56,57]⟩:ByteArray).extract ((Int.tmod (wrap64 (Int.tdiv a0 10)) 10):Int).toNat ((wrap64 ((Int.tmod (wrap64 (Int.tdiv a0 10)) 10)+1)):Int).toNat).size+((⟨#[48,49,50,51,52,53,54,55,56,57]⟩:ByteArray).extract ((Int.tmod a0 10):Int).toNat ((wrap64 ((Int.tmod a0 10)+1)):Int).toNat).size≤9223372036854775807 then (some (((⟨#[48,49,50,51,52,53,54,55,56,57]⟩:ByteArray).extract ((Int.tmod (wrap64 (Int.tdiv a0 10)) 10):Int).toNat ((wrap64 ((Int.tmod (wrap64 (Int.tdiv a0 10)) 10)+1)):Int).toNat)++((⟨#[48,49,50,51,52,53,54,55,56,57]⟩:ByteArray).extract ((Int.tmod a0 10):Int).toNat ((wrap64 ((Int.tmod a0 10)+1)):Int).toNat))) else (none)) else (none)) else (none)) else (none)) else (none)) else (none)) else (none))=some r:=h
 clear h
 obtain ⟨ji2,hji2⟩:∃ j_:Int,(Int.tmod (wrap64 (Int.tdiv a0 10)) 10)=j_:=⟨_,rfl⟩
 replace H:(if 0≤(ji2) then (if (ji2)≤(wrap64 ((ji2)+1)) then (if (wrap64 ((ji2)+1))≤10 then (if 0≤(Int.tmod a0 10) then (if (Int.tmod a0 10)≤(wrap64 ((Int.tmod a0 10)+1)) then (if (wrap64 ((Int.tmod a0 10)+1))≤10 then (if ((⟨#[48,49,50,51,52,53,54,55,56,57]⟩:ByteArray).extract ((ji2):Int).toNat ((wrap64 ((ji2)+1)):Int).toNat).size+((⟨#[48,49,50,51,52,53,54,55,56,57]⟩:ByteArray).extract ((Int.tmod a0 10):Int).toNat ((wrap64 ((Int.tmod a0 10)+1)):Int).toNat).size≤9223372036854775807 then (some (((⟨#[48,49,50,51,52,53,54,55,56,57]⟩:ByteArray).extract ((ji2):Int).toNat ((wrap64 ((ji2)+1)):Int).toNat)++((⟨#[48,49,50,51,52,53,54,55,56,57]⟩:ByteArray).extract ((Int.tmod a0 10):Int).toNat ((wrap64 ((Int.tmod a0 10)+1)):Int).toNat))) else (none)) else (none)) else (none)) else (none)) else (none)) else (none)) else (none))=some r:=by first|(rw [hji2] at H;exact H)|(simp only [hji2] at H ⊢;exact H)
 by_cases c3:0≤(ji2)
 ·rw [if_pos c3] at H
  have c3b0:=eq_true c3
  have c3b1:decide (0≤(ji2))=true:=decide_eq_true c3
  clear c3
  by_cases c4:(ji2)≤(wrap64 ((ji2)+1))
  ·rw [if_pos c4] at H
   have c4b0:=eq_true c4
   have c4b1:decide ((ji2)≤(wrap64 ((ji2)+1)))=true:=decide_eq_true c4
   by_cases c5:(wrap64 ((ji2)+1))≤10
   ·rw [if_pos c5] at H
    have c5b0:=eq_true c5
    have c5b1:decide ((wrap64 ((ji2)+1))≤10)=true:=decide_eq_true c5
    obtain ⟨ji6,hji6⟩:∃ j_:Int,(Int.tmod a0 10)=j_:=⟨_,rfl⟩
    replace H:(if 0≤(ji6) then (if (ji6)≤(wrap64 ((ji6)+1)) then (if (wrap64 ((ji6)+1))≤10 then (if ((⟨#[48,49,50,51,52,53,54,55,56,57]⟩:ByteArray).extract ((ji2):Int).toNat ((wrap64 ((ji2)+1)):Int).toNat).size+((⟨#[48,49,50,51,52,53,54,55,56,57]⟩:ByteArray).extract ((ji6):Int).toNat ((wrap64 ((ji6)+1)):Int).toNat).size≤9223372036854775807 then (some (((⟨#[48,49,50,51,52,53,54,55,56,57]⟩:ByteArray).extract ((ji2):Int).toNat ((wrap64 ((ji2)+1)):Int).toNat)++((⟨#[48,49,50,51,52,53,54,55,56,57]⟩:ByteArray).extract ((ji6):Int).toNat ((wrap64 ((ji6)+1)):Int).toNat))) else (none)) else (none)) else (none)) else (none))=some r:=by first|(rw [hji6] at H;exact H)|(simp only [hji6] at H ⊢;exact H)
    by_cases c7:0≤(ji6)
    ·rw [if_pos c7] at H
     have c7b0:=eq_true c7
     have c7b1:decide (0≤(ji6))=true:=decide_eq_true c7
     clear c7
     by_cases c8:(ji6)≤(wrap64 ((ji6)+1))
     ·rw [if_pos c8] at H
      have c8b0:=eq_true c8
      have c8b1:decide ((ji6)≤(wrap64 ((ji6)+1)))=true:=decide_eq_true c8
      by_cases c9:(wrap64 ((ji6)+1))≤10
      ·rw [if_pos c9] at H
       have c9b0:=eq_true c9
       have c9b1:decide ((wrap64 ((ji6)+1))≤10)=true:=decide_eq_true c9
       by_cases c10:((⟨#[48,49,50,51,52,53,54,55,56,57]⟩:ByteArray).extract ((ji2):Int).toNat ((wrap64 ((ji2)+1)):Int).toNat).size+((⟨#[48,49,50,51,52,53,54,55,56,57]⟩:ByteArray).extract ((ji6):Int).toNat ((wrap64 ((ji6)+1)):Int).toNat).size≤9223372036854775807
       ·rw [if_pos c10] at H
        have c10b0:=eq_true c10
        have c10b1:decide (((⟨#[48,49,50,51,52,53,54,55,56,57]⟩:ByteArray).extract ((ji2):Int).toNat ((wrap64 ((ji2)+1)):Int).toNat).size+((⟨#[48,49,50,51,52,53,54,55,56,57]⟩:ByteArray).extract ((ji6):Int).toNat ((wrap64 ((ji6)+1)):Int).toNat).size≤9223372036854775807)=true:=decide_eq_true c10
        try have c10b2:(9223372036854775807 < ((⟨#[48,49,50,51,52,53,54,55,56,57]⟩:ByteArray).extract ((ji2):Int).toNat ((wrap64 ((ji2)+1)):Int).toNat).size+((⟨#[48,49,50,51,52,53,54,55,56,57]⟩:ByteArray).extract ((ji6):Int).toNat ((wrap64 ((ji6)+1)):Int).toNat).size)=False:=eq_false (Nat.not_lt.2 c10)
        obtain rfl:=Option.some.inj H
        go_enter Tryz.func42,Tryz.ntmps42
        go_wp2
        repeat (go_quiet (fail);try go_wp2)
        go_ret
        exact ⟨by first|rfl|(simp;done)|(simp only [← hji2,← hji6] <;> (first|rfl|simp))|(simp [*];done),by repeat (first|exact Drawn0.refl _|apply Drawn0.step)⟩
       ·rw [if_neg c10] at H
        exact absurd H (by simp)
      ·rw [if_neg c9] at H
       exact absurd H (by simp)
     ·rw [if_neg c8] at H
      exact absurd H (by simp)
    ·rw [if_neg c7] at H
     exact absurd H (by simp)
   ·rw [if_neg c5] at H
    exact absurd H (by simp)
  ·rw [if_neg c4] at H
   exact absurd H (by simp)
 ·rw [if_neg c3] at H
  exact absurd H (by simp)
def ambryref9_months.f :Option (List ByteArray):=some (([(⟨#[74,97,110]⟩:ByteArray),(⟨#[70,101,98]⟩:ByteArray),(⟨#[77,97,114]⟩:ByteArray),(⟨#[65,112,114]⟩:ByteArray),(⟨#[77,97,121]⟩:ByteArray),(⟨#[74,117,110]⟩:ByteArray),(⟨#[74,117,108]⟩:ByteArray),(⟨#[65,117,103]⟩:ByteArray),(⟨#[83,101,112]⟩:ByteArray),(⟨#[79,99,116]⟩:ByteArray),(⟨#[78,111,118]⟩:ByteArray),(⟨#[68,101,99]⟩:ByteArray)]:List ByteArray))
set_option maxHeartbeats 8000000 in
set_option maxRecDepth 100000 in
theorem ambryref9_months.calls  (r:List ByteArray) (w:World) (h:ambryref9_months.f =some r) :
  Calls Tryz.prog 43 #[] w fun e w'=>∃ v0_:Value,e=.returned (v0_)∧Kd.R Kd.string 9 w' w.heap.size (fun _=>True) v0_ r∧Below w.heap.size w w':=by
 have HB:=mkA (Below.refl w.heap.size w)
 have H:(some (([(⟨#[74,97,110]⟩:ByteArray),(⟨#[70,101,98]⟩:ByteArray),(⟨#[77,97,114]⟩:ByteArray),(⟨#[65,112,114]⟩:ByteArray),(⟨#[77,97,121]⟩:ByteArray),(⟨#[74,117,110]⟩:ByteArray),(⟨#[74,117,108]⟩:ByteArray),(⟨#[65,117,103]⟩:ByteArray),(⟨#[83,101,112]⟩:ByteArray),(⟨#[79,99,116]⟩:ByteArray),(⟨#[78,111,118]⟩:ByteArray),(⟨#[68,101,99]⟩:ByteArray)]:List ByteArray)))=some r:=h
 clear h
 obtain ⟨y184,hy184⟩:∃ y_:List ByteArray,y_=(([(⟨#[74,97,110]⟩:ByteArray),(⟨#[70,101,98]⟩:ByteArray),(⟨#[77,97,114]⟩:ByteArray),(⟨#[65,112,114]⟩:ByteArray),(⟨#[77,97,121]⟩:ByteArray),(⟨#[74,117,110]⟩:ByteArray),(⟨#[74,117,108]⟩:ByteArray),(⟨#[65,117,103]⟩:ByteArray),(⟨#[83,101,112]⟩:ByteArray),(⟨#[79,99,116]⟩:ByteArray),(⟨#[78,111,118]⟩:ByteArray),(⟨#[68,101,99]⟩:ByteArray)]:List ByteArray)):=⟨_,rfl⟩
 replace H:(some y184)=some r:=by first|(rw [hy184];with_reducible exact H)|(have H2_:=(Option.bind_some _ _).symm.trans H;rw [hy184];with_reducible exact H2_)|(have H2_:=(Option.bind_some _ _).symm.trans H;with_reducible exact H2_)|with_reducible exact H|(rw [hy184];exact H)|exact H
 have Ny184:=mkA hy184
 clear hy184
 obtain rfl:=Option.some.inj H
 go_enter Tryz.func43,Tryz.ntmps43
 go_wp2_with (first|((with_reducible refine gate_dst (N:=1) rfl ?_);refine Kd.R_lit Kd.string _ 9 ?hg (N:=1) ?hd (xs:=([(⟨#[74,97,110]⟩:ByteArray),(⟨#[70,101,98]⟩:ByteArray),(⟨#[77,97,114]⟩:ByteArray),(⟨#[65,112,114]⟩:ByteArray),(⟨#[77,97,121]⟩:ByteArray),(⟨#[74,117,110]⟩:ByteArray),(⟨#[74,117,108]⟩:ByteArray),(⟨#[65,117,103]⟩:ByteArray),(⟨#[83,101,112]⟩:ByteArray),(⟨#[79,99,116]⟩:ByteArray),(⟨#[78,111,118]⟩:ByteArray),(⟨#[68,101,99]⟩:ByteArray)]:List ByteArray)) (inner:=[.string (⟨#[74,97,110]⟩:ByteArray),.string (⟨#[70,101,98]⟩:ByteArray),.string (⟨#[77,97,114]⟩:ByteArray),.string (⟨#[65,112,114]⟩:ByteArray),.string (⟨#[77,97,121]⟩:ByteArray),.string (⟨#[74,117,110]⟩:ByteArray),.string (⟨#[74,117,108]⟩:ByteArray),.string (⟨#[65,117,103]⟩:ByteArray),.string (⟨#[83,101,112]⟩:ByteArray),.string (⟨#[79,99,116]⟩:ByteArray),.string (⟨#[78,111,118]⟩:ByteArray),.string (⟨#[68,101,99]⟩:ByteArray)]) (ok:=fun _=>True) (okp:=fun _=>True) ?hr ?hp (fun _ hk=>hk) trivial (Below.refl _ _) (Nat.le_refl _) (by simp) ?_;(case hd=>rfl);(case hg=>rfl);(case hr=>first|(go_simp;done)|(go_simp;rfl));(case hp=>exact (Reps.one (show Kd.M Kd.string _ _ _ (⟨#[74,97,110]⟩:ByteArray) [.string (⟨#[74,97,110]⟩:ByteArray)] from rfl) (Reps.one (show Kd.M Kd.string _ _ _ (⟨#[70,101,98]⟩:ByteArray) [.string (⟨#[70,101,98]⟩:ByteArray)] from rfl) (Reps.one (show Kd.M Kd.string _ _ _ (⟨#[77,97,114]⟩:ByteArray) [.string (⟨#[77,97,114]⟩:ByteArray)] from rfl) (Reps.one (show Kd.M Kd.string _ _ _ (⟨#[65,112,114]⟩:ByteArray) [.string (⟨#[65,112,114]⟩:ByteArray)] from rfl) (Reps.one (show Kd.M Kd.string _ _ _ (⟨#[77,97,121]⟩:ByteArray) [.string (⟨#[77,97,121]⟩:ByteArray)] from rfl) (Reps.one (show Kd.M Kd.string _ _ _ (⟨#[74,117,110]⟩:ByteArray) [.string (⟨#[74,117,110]⟩:ByteArray)] from rfl) (Reps.one (show Kd.M Kd.string _ _ _ (⟨#[74,117,108]⟩:ByteArray) [.string (⟨#[74,117,108]⟩:ByteArray)] from rfl) (Reps.one (show Kd.M Kd.string _ _ _ (⟨#[65,117,103]⟩:ByteArray) [.string (⟨#[65,117,103]⟩:ByteArray)] from rfl) (Reps.one (show Kd.M Kd.string _ _ _ (⟨#[83,101,112]⟩:ByteArray) [.string (⟨#[83,101,112]⟩:ByteArray)] from rfl) (Reps.one (show Kd.M Kd.string _ _ _ (⟨#[79,99,116]⟩:ByteArray) [.string (⟨#[79,99,116]⟩:ByteArray)] from rfl) (Reps.one (show Kd.M Kd.string _ _ _ (⟨#[78,111,118]⟩:ByteArray) [.string (⟨#[78,111,118]⟩:ByteArray)] from rfl) (Reps.one (show Kd.M Kd.string _ _ _ (⟨#[68,101,99]⟩:ByteArray) [.string (⟨#[68,101,99]⟩:ByteArray)] from rfl) (Reps.none _ _))))))))))))));intro v185 w1 ho2 hb hg_ hnew_;clear hg_ hnew_;(first|rw [← Ny184.out] at ho2|(simp only [Int.reduceToNat] at ho2;rw [← Ny184.out] at ho2));have n0_:=mkA (Kd.R_lower ho2 (below_size (by repeat (first|(with_reducible first|exact HB.out|apply below_alloc|apply pw_below_drewN|apply below_drew1)|exact HB.out))));have n1_:=mkA (below_step (by repeat (first|(with_reducible first|exact HB.out|apply below_alloc|apply pw_below_drewN|apply below_drew1)|exact HB.out)) hb);clear HB;have HO186:=n0_;have HB:=n1_;clear n0_ n1_;clear hb ho2))
 go_ret
 exact ⟨_,by first|rfl|(simp [errW_none,errW_some] <;> rfl)|(simp [*,errW_none,errW_some] <;> rfl),by (with_reducible repeat (first|apply Kd.R_alloc|apply Kd.R_drewN|apply Kd.R_drew));exact HO186.out,by repeat (first|(with_reducible first|exact HB.out|apply below_alloc|apply pw_below_drewN|apply below_drew1)|exact HB.out)⟩
end Go.Proofs.YtlnmnjbihgaliaaGreat.Pr
