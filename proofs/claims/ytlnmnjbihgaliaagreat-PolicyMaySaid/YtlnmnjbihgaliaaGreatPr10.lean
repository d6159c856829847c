import Derived.Test.YtlnmnjbihgaliaaGreatPr0
import Derived.Test.YtlnmnjbihgaliaaGreatPr9
set_option linter.unusedVariables false
set_option linter.unusedSimpArgs false
namespace Go.Proofs.YtlnmnjbihgaliaaGreat.Pr
open Go.RowKit Go.Proofs.YtlnmnjbihgaliaaGreatW.PrintWords Go.Proofs.YtlnmnjbihgaliaaGreatW.PrintLast Go.Proofs.YtlnmnjbihgaliaaGreatW.PrintMore
attribute [local go_sem] max2_int min2_int max_two min_two max_three min_three max_four min_four
def ambryhelp_LightR.f(k:Nat)(a0_0:Int)(a0_1:ByteArray)(l0_2:List (S41))(l0_3:List Int):Option (Bool):=if (a0_1.size:Int)≤100 then ((ambryhelp_Light.f k l0_2 15).bind fun t171=>(if t171=true then (some (decide ((l0_3.length:Int)≤1000))) else (some false))) else (some false)
set_option maxHeartbeats 8000000 in
set_option maxRecDepth 100000 in
theorem ambryhelp_LightR.calls(k:Nat)(a0_0:Int)(a0_1:ByteArray)(A0_2:Option Addr)(c0_2:Nat)(l0_2:List (S41))(A0_3:Option Addr)(c0_3:Nat)(l0_3:List Int)(r:Bool)(w:World)(hr0_2:Kd.C k41 w A0_2 l0_2.length l0_2)(hc0_2:l0_2.length≤c0_2)(hr0_3:Kd.C (Kd.int .u8) w A0_3 l0_3.length l0_3)(hc0_3:l0_3.length≤c0_3)(h:ambryhelp_LightR.f k a0_0 a0_1 l0_2 l0_3=some r):
  Calls Tryz.prog 6 #[.agg #[.int .i64 a0_0,.string a0_1,.slice A0_2 l0_2.length c0_2,.slice A0_3 l0_3.length c0_3]] w fun e w'=>e=.returned (.bool r)∧Below w.heap.size w w':=by
 have hu27:=Tryz.underlying27
 have HR0_2:=mkA hr0_2
 have HC0_2:=mkA hc0_2
 clear hr0_2 hc0_2
 have HR0_3:=mkA hr0_3
 have HC0_3:=mkA hc0_3
 clear hr0_3 hc0_3
 have HB:=mkA (Below.refl w.heap.size w)
 have H:(if (a0_1.size:Int)≤100 then ((ambryhelp_Light.f k l0_2 15).bind fun t171=>(if t171=true then (some (decide ((l0_3.length:Int)≤1000))) else (some false))) else (some false))=some r:=h
 clear h
 by_cases c2:(a0_1.size:Int)≤100
 ·rw [if_pos c2] at H
  have c2b0:decide ((a0_1.size:Int)≤100)=true:=decide_eq_true c2
  have c2b1:decide (a0_1.size≤100)=true:=decide_eq_true (by omega)
  clear c2
  replace H:=Option.bind_eq_some_iff.mp H
  obtain ⟨t171,A30,H⟩:=H
  replace H:(if t171=true then (some (decide ((l0_3.length:Int)≤1000))) else (some false))=some r:=H
  have A3:=mkA A30
  clear A30
  by_cases c4:t171=true
  ·subst c4
   have H1:(some (decide ((l0_3.length:Int)≤1000)))=some r:=by rw [if_pos rfl] at H;exact H
   clear H
   have H:=H1
   clear H1
   obtain rfl:=Option.some.inj H
   go_enter Tryz.func6,Tryz.ntmps6
   go_wp2_with (first|((with_reducible refine gate_dst (N:=1) rfl ?_);(try (refine gate_guard (by rfl) ?_;dsimp only));refine box_event ?hg (N:=1) ?hd (cs:=#[.int .i64 a0_0,.string a0_1,.slice A0_2 l0_2.length c0_2,.slice A0_3 l0_3.length c0_3]) (t:=27) ?hr ?_;(case hd=>rfl);(case hg=>rfl);(case hr=>first|(go_simp;done)|(go_simp;rfl));intro gb170 hg w5 hbox hb;have n0_:=mkA (below_step (by repeat (first|(with_reducible first|exact HB.out|apply below_alloc|apply pw_below_drewN|apply below_drew1)|exact HB.out)) hb);have n1_:=mkA (hbox);have n2_:=mkA ((by rw [hg];exact (below_size (by repeat (first|(with_reducible first|exact HB.out|apply below_alloc|apply pw_below_drewN|apply below_drew1)|exact HB.out))):w.heap.size≤gb170));have n3_:=mkA ((by rw [hg];exact (below_size (by repeat (first|(with_reducible first|exact HB.out|apply below_alloc|apply pw_below_drewN|apply below_drew1)|exact HB.out))):w.heap.size≤gb170));clear HB;have HB:=n0_;have BK170:=n1_;have GW170:=n2_;have GE170:=n3_;clear n0_ n1_ n2_ n3_;clear hb hbox hg;have hcz6_0:w5.cell? ⟨gb170,0,none⟩=some (.int .i64 a0_0):=(blk_cell BK170.out 0).trans rfl;have hcz6_1:w5.cell? ⟨gb170,1,none⟩=some (.string a0_1):=(blk_cell BK170.out 1).trans rfl;have hcz6_2:w5.cell? ⟨gb170,2,none⟩=some (.slice A0_2 l0_2.length c0_2):=(blk_cell BK170.out 2).trans rfl;have hcz6_3:w5.cell? ⟨gb170,3,none⟩=some (.slice A0_3 l0_3.length c0_3):=(blk_cell BK170.out 3).trans rfl;have hfz6_0:=blk_frozen BK170.out 0;have hfz6_1:=blk_frozen BK170.out 1;have hfz6_2:=blk_frozen BK170.out 2;have hfz6_3:=blk_frozen BK170.out 3)|(go_at_call 15;(with_reducible refine (ambryhelp_Light.calls k _ _ l0_2 15 true _ ?side1 ?side2 A3.out).mono ?_);(case side1=>repeat (first|exact (Kd.C_below HR0_2.out HB.out)|(with_reducible refine Kd.C_alloc ?_ _)|(with_reducible refine Kd.C_drewN ?_ _)|(with_reducible refine Kd.C_drew ?_)));(case side2=>exact HC0_2.out);rintro e w' ⟨rfl,⟨nd,rfl⟩⟩))
   go_ret
   exact ⟨by first|rfl|(simp [errW_none,errW_some] <;> rfl)|(simp [*,errW_none,errW_some] <;> rfl),by repeat (first|(with_reducible first|exact HB.out|apply below_alloc|apply pw_below_drewN|apply below_drew1|refine below_set ?_ GE170.out)|exact HB.out)⟩
  ·replace c4:=Bool.eq_false_iff.mpr c4
   subst c4
   have H1:(some false)=some r:=by rw [if_neg (show ¬ (false=true) by decide)] at H;exact H
   clear H
   have H:=H1
   clear H1
   obtain rfl:=Option.some.inj H
   go_enter Tryz.func6,Tryz.ntmps6
   go_wp2_with (first|((with_reducible refine gate_dst (N:=1) rfl ?_);(try (refine gate_guard (by rfl) ?_;dsimp only));refine box_event ?hg (N:=1) ?hd (cs:=#[.int .i64 a0_0,.string a0_1,.slice A0_2 l0_2.length c0_2,.slice A0_3 l0_3.length c0_3]) (t:=27) ?hr ?_;(case hd=>rfl);(case hg=>rfl);(case hr=>first|(go_simp;done)|(go_simp;rfl));intro gb170 hg w7 hbox hb;have n0_:=mkA (below_step (by repeat (first|(with_reducible first|exact HB.out|apply below_alloc|apply pw_below_drewN|apply below_drew1)|exact HB.out)) hb);have n1_:=mkA (hbox);have n2_:=mkA ((by rw [hg];exact (below_size (by repeat (first|(with_reducible first|exact HB.out|apply below_alloc|apply pw_below_drewN|apply below_drew1)|exact HB.out))):w.heap.size≤gb170));have n3_:=mkA ((by rw [hg];exact (below_size (by repeat (first|(with_reducible first|exact HB.out|apply below_alloc|apply pw_below_drewN|apply below_drew1)|exact HB.out))):w.heap.size≤gb170));clear HB;have HB:=n0_;have BK170:=n1_;have GW170:=n2_;have GE170:=n3_;clear n0_ n1_ n2_ n3_;clear hb hbox hg;have hcz8_0:w7.cell? ⟨gb170,0,none⟩=some (.int .i64 a0_0):=(blk_cell BK170.out 0).trans rfl;have hcz8_1:w7.cell? ⟨gb170,1,none⟩=some (.string a0_1):=(blk_cell BK170.out 1).trans rfl;have hcz8_2:w7.cell? ⟨gb170,2,none⟩=some (.slice A0_2 l0_2.length c0_2):=(blk_cell BK170.out 2).trans rfl;have hcz8_3:w7.cell? ⟨gb170,3,none⟩=some (.slice A0_3 l0_3.length c0_3):=(blk_cell BK170.out 3).trans rfl;have hfz8_0:=blk_frozen BK170.out 0;have hfz8_1:=blk_frozen BK170.out 1;have hfz8_2:=blk_frozen BK170.out 2;have hfz8_3:=blk_frozen BK170.out 3)|(go_at_call 15;(with_reducible refine (ambryhelp_Light.calls k _ _ l0_2 15 false _ ?side1 ?side2 A3.out).mono ?_);(case side1=>repeat (first|exact (Kd.C_below HR0_2.out HB.out)|(with_reducible refine Kd.C_alloc ?_ _)|(with_reducible refine Kd.C_drewN ?_ _)|(with_reducible refine Kd.C_drew ?_)));(case side2=>exact HC0_2.out);rintro e w' ⟨rfl,⟨nd,rfl⟩⟩))
   go_ret
   exact ⟨by first|rfl|(simp [errW_none,errW_some] <;> rfl)|(simp [*,errW_none,errW_some] <;> rfl),by repeat (first|(with_reducible first|exact HB.out|apply below_alloc|apply pw_below_drewN|apply below_drew1|refine below_set ?_ GE170.out)|exact HB.out)⟩
 ·rw [if_neg c2] at H
  have c2b0:decide ((a0_1.size:Int)≤100)=false:=decide_eq_false c2
  have c2b1:decide (a0_1.size≤100)=false:=decide_eq_false (by omega)
  clear c2
  obtain rfl:=Option.some.inj H
  go_enter Tryz.func6,Tryz.ntmps6
  go_wp2_with (first|((with_reducible refine gate_dst (N:=1) rfl ?_);(try (refine gate_guard (by rfl) ?_;dsimp only));refine box_event ?hg (N:=1) ?hd (cs:=#[.int .i64 a0_0,.string a0_1,.slice A0_2 l0_2.length c0_2,.slice A0_3 l0_3.length c0_3]) (t:=27) ?hr ?_;(case hd=>rfl);(case hg=>rfl);(case hr=>first|(go_simp;done)|(go_simp;rfl));intro gb170 hg w9 hbox hb;have n0_:=mkA (below_step (by repeat (first|(with_reducible first|exact HB.out|apply below_alloc|apply pw_below_drewN|apply below_drew1)|exact HB.out)) hb);have n1_:=mkA (hbox);have n2_:=mkA ((by rw [hg];exact (below_size (by repeat (first|(with_reducible first|exact HB.out|apply below_alloc|apply pw_below_drewN|apply below_drew1)|exact HB.out))):w.heap.size≤gb170));have n3_:=mkA ((by rw [hg];exact (below_size (by repeat (first|(with_reducible first|exact HB.out|apply below_alloc|apply pw_below_drewN|apply below_drew1)|exact HB.out))):w.heap.size≤gb170));clear HB;have HB:=n0_;have BK170:=n1_;have GW170:=n2_;have GE170:=n3_;clear n0_ n1_ n2_ n3_;clear hb hbox hg;have hcz10_0:w9.cell? ⟨gb170,0,none⟩=some (.int .i64 a0_0):=(blk_cell BK170.out 0).trans rfl;have hcz10_1:w9.cell? ⟨gb170,1,none⟩=some (.string a0_1):=(blk_cell BK170.out 1).trans rfl;have hcz10_2:w9.cell? ⟨gb170,2,none⟩=some (.slice A0_2 l0_2.length c0_2):=(blk_cell BK170.out 2).trans rfl;have hcz10_3:w9.cell? ⟨gb170,3,none⟩=some (.slice A0_3 l0_3.length c0_3):=(blk_cell BK170.out 3).trans rfl;have hfz10_0:=blk_frozen BK170.out 0;have hfz10_1:=blk_frozen BK170.out 1;have hfz10_2:=blk_frozen BK170.out 2;have hfz10_3:=blk_frozen BK170.out 3))
  go_ret
  exact ⟨by first|rfl|(simp [errW_none,errW_some] <;> rfl)|(simp [*,errW_none,errW_some] <;> rfl),by repeat (first|(with_reducible first|exact HB.out|apply below_alloc|apply pw_below_drewN|apply below_drew1|refine below_set ?_ GE170.out)|exact HB.out)⟩
def ambryref9_ahead.f(a0:Int):Option (Int):=some (wrap64 ((wrap64 ((wrap64 (365 * (wrap64 (a0 - 1970))))+(wrap64 ((wrap64 ((wrap64 (Int.tdiv (wrap64 (a0 - 1)) 4)) - (wrap64 (Int.tdiv (wrap64 (a0 - 1)) 100))))+(wrap64 (Int.tdiv (wrap64 (a0 - 1)) 400)))))) - 477))
set_option maxHeartbeats 8000000 in
set_option maxRecDepth 100000 in
theorem ambryref9_ahead.calls(a0:Int)(r:Int)(w:World)(h:ambryref9_ahead.f a0=some r):
  Calls Tryz.prog 39 #[.int .i64 a0] w fun e w'=>e=.returned (.int .i64 r)∧Drawn0 w w':=by
 have H:(some (wrap64 ((wrap64 ((wrap64 (365 * (wrap64 (a0 - 1970))))+(wrap64 ((wrap64 ((wrap64 (Int.tdiv (wrap64 (a0 - 1)) 4)) - (wrap64 (Int.tdiv (wrap64 (a0 - 1)) 100))))+(wrap64 (Int.tdiv (wrap64 (a0 - 1)) 400)))))) - 477)))=some r:=h
 clear h
 obtain rfl:=Option.some.inj H
 go_enter Tryz.func39,Tryz.ntmps39
 go_wp2
 go_ret
 exact ⟨by first|rfl|(simp;done)|(simp [*];done),by repeat (first|exact Drawn0.refl _|apply Drawn0.step)⟩
def ambryref9_leap.f(a0:Int):Option (Bool):=if (Int.tmod a0 4)=0 then (if (Int.tmod a0 100)=0 then (some ((Int.tmod a0 400) == 0)) else (some true)) else (some false)
set_option maxHeartbeats 8000000 in
set_option maxRecDepth 100000 in
theorem ambryref9_leap.calls(a0:Int)(r:Bool)(w:World)(h:ambryref9_leap.f a0=some r):
  Calls Tryz.prog 65 #[.int .i64 a0] w fun e w'=>e=.returned (.bool r)∧Drawn0 w w':=by
 have H:(if (Int.tmod a0 4)=0 then (if (Int.tmod a0 100)=0 then (some ((Int.tmod a0 400) == 0)) else (some true)) else (some false))=some r:=h
 clear h
 by_cases c2:(Int.tmod a0 4)=0
 ·rw [if_pos c2] at H
  have c2b0:((Int.tmod a0 4) == 0)=true:=beq_iff_eq.mpr c2
  have c2b1:((Int.tmod a0 4) != 0)=false:=bne_eq_false_iff_eq.mpr c2
  clear c2
  by_cases c3:(Int.tmod a0 100)=0
  ·rw [if_pos c3] at H
   have c3b0:((Int.tmod a0 100) == 0)=true:=beq_iff_eq.mpr c3
   have c3b1:((Int.tmod a0 100) != 0)=false:=bne_eq_false_iff_eq.mpr c3
   clear c3
   obtain rfl:=Option.some.inj H
   go_enter Tryz.func65,Tryz.ntmps65
   go_wp2
   go_ret
   exact ⟨by first|rfl|(simp;done)|(simp [*];done),by repeat (first|exact Drawn0.refl _|apply Drawn0.step)⟩
  ·rw [if_neg c3] at H
   have c3b0:((Int.tmod a0 100) == 0)=false:=beq_eq_false_iff_ne.mpr c3
   have c3b1:((Int.tmod a0 100) != 0)=true:=bne_iff_ne.mpr c3
   obtain rfl:=Option.some.inj H
   go_enter Tryz.func65,Tryz.ntmps65
   go_wp2
   go_ret
   exact ⟨by first|rfl|(simp;done)|(simp [*];done),by repeat (first|exact Drawn0.refl _|apply Drawn0.step)⟩
 ·rw [if_neg c2] at H
  have c2b0:((Int.tmod a0 4) == 0)=false:=beq_eq_false_iff_ne.mpr c2
  have c2b1:((Int.tmod a0 4) != 0)=true:=bne_iff_ne.mpr c2
  obtain rfl:=Option.some.inj H
  go_enter Tryz.func65,Tryz.ntmps65
  go_wp2
  go_ret
  exact ⟨by first|rfl|(simp;done)|(simp [*];done),by repeat (first|exact Drawn0.refl _|apply Drawn0.step)⟩
def ambryref9_length.f(a0:Int)(a1:Int):Option (Int):=if a1=2 then ((ambryref9_leap.f a0).bind fun t172=>(if t172=true then (some 29) else ((some (([31,28,31,30,31,30,31,31,30,31,30,31]:List Int):List Int)).bind fun y173=>(if 0≤(wrap64 (a1 - 1)) then (if (wrap64 (a1 - 1)) < (y173.length:Int) then (some (rd y173 (wrap64 (a1 - 1)))) else (none)) else (none))))) else ((some (([31,28,31,30,31,30,31,31,30,31,30,31]:List Int):List Int)).bind fun y177=>(if 0≤(wrap64 (a1 - 1)) then (if (wrap64 (a1 - 1)) < (y177.length:Int) then (some (rd y177 (wrap64 (a1 - 1)))) else (none)) else (none)))
set_option maxHeartbeats 8000000 in
set_option maxRecDepth 100000 in
theorem ambryref9_length.calls(a0:Int)(a1:Int)(r:Int)(w:World)(h:ambryref9_length.f a0 a1=some r):
  Calls Tryz.prog 40 #[.int .i64 a0,.int .i64 a1] w fun e w'=>e=.returned (.int .i64 r)∧Below w.heap.size w w':=by
 have HB:=mkA (Below.refl w.heap.size w)
 have H:(if a1=2 then ((ambryref9_leap.f a0).bind fun t172=>(if t172=true then (some 29) else ((some (([31,28,31,30,31,30,31,31,30,31,30,31]:List Int):List Int)).bind fun y173=>(if 0≤(wrap64 (a1 - 1)) then (if (wrap64 (a1 - 1)) < (y173.length:Int) then (some (rd y173 (wrap64 (a1 - 1)))) else (none)) else (none))))) else ((some (([31,28,31,30,31,30,31,31,30,31,30,31]:List Int):List Int)).bind fun y177=>(if 0≤(wrap64 (a1 - 1)) then (if (wrap64 (a1 - 1)) < (y177.length:Int) then (some (rd y177 (wrap64 (a1 - 1)))) else (none)) else (none))))=some r:=h
 clear h
 by_cases c3:a1=2
 ·rw [if_pos c3] at H
  have c3b0:(a1 == 2)=true:=beq_iff_eq.mpr c3
  have c3b1:(a1 != 2)=false:=bne_eq_false_iff_eq.mpr c3
  clear c3
  replace H:=Option.bind_eq_some_iff.mp H
  obtain ⟨t172,A40,H⟩:=H
  replace H:(if t172=true then (some 29) else ((some (([31,28,31,30,31,30,31,31,30,31,30,31]:List Int):List Int)).bind fun y173=>(if 0≤(wrap64 (a1 - 1)) then (if (wrap64 (a1 - 1)) < (y173.length:Int) then (some (rd y173 (wrap64 (a1 - 1)))) else (none)) else (none))))=some r:=H
  have A4:=mkA A40
  clear A40
  by_cases c5:t172=true
  ·subst c5
   have H1:(some 29)=some r:=by rw [if_pos rfl] at H;exact H
   clear H
   have H:=H1
   clear H1
   obtain rfl:=Option.some.inj H
   go_enter Tryz.func40,Tryz.ntmps40
   go_wp2_with (first|(go_at_call 65;(with_reducible refine (ambryref9_leap.calls a0 true _ A4.out).mono ?_);rintro e w' ⟨rfl,⟨nd,rfl⟩⟩))
   go_ret
   exact ⟨by first|rfl|(simp [errW_none,errW_some] <;> rfl)|(simp [*,errW_none,errW_some] <;> rfl),by repeat (first|(with_reducible first|exact HB.out|apply below_alloc|apply pw_below_drewN|apply below_drew1)|exact HB.out)⟩
  ·replace c5:=Bool.eq_false_iff.mpr c5
   subst c5
   have H1:((some (([31,28,31,30,31,30,31,31,30,31,30,31]:List Int):List Int)).bind fun y173=>(if 0≤(wrap64 (a1 - 1)) then (if (wrap64 (a1 - 1)) < (y173.length:Int) then (some (rd y173 (wrap64 (a1 - 1)))) else (none)) else (none)))=some r:=by rw [if_neg (show ¬ (false=true) by decide)] at H;exact H
   clear H
   have H:=H1
   clear H1
   obtain ⟨y173,hy173⟩:∃ y_:List Int,y_=(([31,28,31,30,31,30,31,31,30,31,30,31]:List Int)):=⟨_,rfl⟩
   replace H:(if 0≤(wrap64 (a1 - 1)) then (if (wrap64 (a1 - 1)) < (y173.length:Int) then (some (rd y173 (wrap64 (a1 - 1)))) else (none)) else (none))=some r:=by first|(rw [hy173];with_reducible exact H)|(have H2_:=(Option.bind_some _ _).symm.trans H;rw [hy173];with_reducible exact H2_)|(have H2_:=(Option.bind_some _ _).symm.trans H;with_reducible exact H2_)|with_reducible exact H|(rw [hy173];exact H)|exact H
   have Ny173:=mkA hy173
   clear hy173
   obtain ⟨ji6,hji6⟩:∃ j_:Int,(wrap64 (a1 - 1))=j_:=⟨_,rfl⟩
   replace H:(if 0≤(ji6) then (if (ji6) < (y173.length:Int) then (some (rd y173 (ji6))) else (none)) else (none))=some r:=by first|(rw [hji6] at H;exact H)|(simp only [hji6] at H ⊢;exact H)
   (try rw [hji6] at A4)
   have hji6w:(IntKind.i64.wrap (a1 - 1))=ji6:=(i64_w _).trans hji6
   by_cases c7:0≤(ji6)
   ·rw [if_pos c7] at H
    have c7b0:decide (0≤(ji6))=true:=decide_eq_true c7
    clear c7
    by_cases c8:(ji6) < (y173.length:Int)
    ·rw [if_pos c8] at H
     have c8b0:decide ((ji6) < (y173.length:Int))=true:=decide_eq_true c8
     clear c8
     obtain rfl:=Option.some.inj H
     go_enter Tryz.func40,Tryz.ntmps40
     go_wp2_with (first|(go_at_call 65;(with_reducible refine (ambryref9_leap.calls a0 false _ A4.out).mono ?_);rintro e w' ⟨rfl,⟨nd,rfl⟩⟩)|((with_reducible refine gate_dst (N:=11) rfl ?_);refine Kd.R_lit (Kd.int .i64) _ 3 ?hg (N:=11) ?hd (xs:=([31,28,31,30,31,30,31,31,30,31,30,31]:List Int)) (inner:=[.int .i64 31,.int .i64 28,.int .i64 31,.int .i64 30,.int .i64 31,.int .i64 30,.int .i64 31,.int .i64 31,.int .i64 30,.int .i64 31,.int .i64 30,.int .i64 31]) (ok:=fun _=>True) (okp:=fun _=>True) ?hr ?hp (fun _ hk=>hk) trivial (Below.refl _ _) (Nat.le_refl _) (by simp) ?_;(case hd=>rfl);(case hg=>rfl);(case hr=>first|(go_simp;done)|(go_simp;rfl));(case hp=>exact (Reps.one (show Kd.M (Kd.int .i64) _ _ _ 31 [.int .i64 31] from rfl) (Reps.one (show Kd.M (Kd.int .i64) _ _ _ 28 [.int .i64 28] from rfl) (Reps.one (show Kd.M (Kd.int .i64) _ _ _ 31 [.int .i64 31] from rfl) (Reps.one (show Kd.M (Kd.int .i64) _ _ _ 30 [.int .i64 30] from rfl) (Reps.one (show Kd.M (Kd.int .i64) _ _ _ 31 [.int .i64 31] from rfl) (Reps.one (show Kd.M (Kd.int .i64) _ _ _ 30 [.int .i64 30] from rfl) (Reps.one (show Kd.M (Kd.int .i64) _ _ _ 31 [.int .i64 31] from rfl) (Reps.one (show Kd.M (Kd.int .i64) _ _ _ 31 [.int .i64 31] from rfl) (Reps.one (show Kd.M (Kd.int .i64) _ _ _ 30 [.int .i64 30] from rfl) (Reps.one (show Kd.M (Kd.int .i64) _ _ _ 31 [.int .i64 31] from rfl) (Reps.one (show Kd.M (Kd.int .i64) _ _ _ 30 [.int .i64 30] from rfl) (Reps.one (show Kd.M (Kd.int .i64) _ _ _ 31 [.int .i64 31] from rfl) (Reps.none _ _))))))))))))));intro v174 w9 ho10 hb hg_ hnew_;clear hg_ hnew_;(first|rw [← Ny173.out] at ho10|(simp only [Int.reduceToNat] at ho10;rw [← Ny173.out] at ho10));have n0_:=mkA (Kd.R_lower ho10 (below_size (by repeat (first|(with_reducible first|exact HB.out|apply below_alloc|apply pw_below_drewN|apply below_drew1)|exact HB.out))));have n1_:=mkA (below_step (by repeat (first|(with_reducible first|exact HB.out|apply below_alloc|apply pw_below_drewN|apply below_drew1)|exact HB.out)) hb);clear HB;have HO175:=n0_;have HB:=n1_;clear n0_ n1_;clear hb ho10;obtain ⟨Ao11,co11,eo11⟩:=Kd.R_slice HO175.out;subst eo11;have p176:0≤((ji6):Int):=of_decide_eq_true (by first|(with_reducible assumption)|assumption);have q176:(ji6) < (y173.length:Int):=of_decide_eq_true (by first|(with_reducible assumption)|assumption);obtain ⟨ad176,e176,hx176_0⟩:=Kd.at_int (Kd.R_reads' HO175.out).2.2 (ji6) p176 q176;cases e176;replace p176:=eq_true p176;replace q176:=eq_true q176))
     go_ret
     exact ⟨by first|rfl|(simp [errW_none,errW_some] <;> rfl)|(simp only [← hji6];first|rfl|(simp [errW_none,errW_some] <;> rfl))|(simp [*,errW_none,errW_some] <;> rfl),by repeat (first|(with_reducible first|exact HB.out|apply below_alloc|apply pw_below_drewN|apply below_drew1)|exact HB.out)⟩
    ·rw [if_neg c8] at H
     exact absurd H (by simp)
   ·rw [if_neg c7] at H
    exact absurd H (by simp)
 ·rw [if_neg c3] at H
  have c3b0:(a1 == 2)=false:=beq_eq_false_iff_ne.mpr c3
  have c3b1:(a1 != 2)=true:=bne_iff_ne.mpr c3
  obtain ⟨y177,hy177⟩:∃ y_:List Int,y_=(([31,28,31,30,31,30,31,31,30,31,30,31]:List Int)):=⟨_,rfl⟩
  replace H:(if 0≤(wrap64 (a1 - 1)) then (if (wrap64 (a1 - 1)) < (y177.length:Int) then (some (rd y177 (wrap64 (a1 - 1)))) else (none)) else (none))=some r:=by first|(rw [hy177];with_reducible exact H)|(have H2_:=(Option.bind_some _ _).symm.trans H;rw [hy177];with_reducible exact H2_)|(have H2_:=(Option.bind_some _ _).symm.trans H;with_reducible exact H2_)|with_reducible exact H|(rw [hy177];exact H)|exact H
  have Ny177:=mkA hy177
  clear hy177
  obtain ⟨ji12,hji12⟩:∃ j_:Int,(wrap64 (a1 - 1))=j_:=⟨_,rfl⟩
  replace H:(if 0≤(ji12) then (if (ji12) < (y177.length:Int) then (some (rd y177 (ji12))) else (none)) else (none))=some r:=by first|(rw [hji12] at H;exact H)|(simp only [hji12] at H ⊢;exact H)
  have hji12w:(IntKind.i64.wrap (a1 - 1))=ji12:=(i64_w _).trans hji12
  by_cases c13:0≤(ji12)
  ·rw [if_pos c13] at H
   have c13b0:decide (0≤(ji12))=true:=decide_eq_true c13
   clear c13
   by_cases c14:(ji12) < (y177.length:Int)
   ·rw [if_pos c14] at H
    have c14b0:decide ((ji12) < (y177.length:Int))=true:=decide_eq_true c14
    clear c14
    obtain rfl:=Option.some.inj H
    go_enter Tryz.func40,Tryz.ntmps40
    go_wp2_with (first|((with_reducible refine gate_dst (N:=11) rfl ?_);refine Kd.R_lit (Kd.int .i64) _ 3 ?hg (N:=11) ?hd (xs:=([31,28,31,30,31,30,31,31,30,31,30,31]:List Int)) (inner:=[.int .i64 31,.int .i64 28,.int .i64 31,.int .i64 30,.int .i64 31,.int .i64 30,.int .i64 31,.int .i64 31,.int .i64 30,.int .i64 31,.int .i64 30,.int .i64 31]) (ok:=fun _=>True) (okp:=fun _=>True) ?hr ?hp (fun _ hk=>hk) trivial (Below.refl _ _) (Nat.le_refl _) (by simp) ?_;(case hd=>rfl);(case hg=>rfl);(case hr=>first|(go_simp;done)|(go_simp;rfl));(case hp=>exact (Reps.one (show Kd.M (Kd.int .i64) _ _ _ 31 [.int .i64 31] from rfl) (Reps.one (show Kd.M (Kd.int .i64) _ _ _ 28 [.int .i64 28] from rfl) (Reps.one (show Kd.M (Kd.int .i64) _ _ _ 31 [.int .i64 31] from rfl) (Reps.one (show Kd.M (Kd.int .i64) _ _ _ 30 [.int .i64 30] from rfl) (Reps.one (show Kd.M (Kd.int .i64) _ _ _ 31 [.int .i64 31] from rfl) (Reps.one (show Kd.M (Kd.int .i64) _ _ _ 30 [.int .i64 30] from rfl) (Reps.one (show Kd.M (Kd.int .i64) _ _ _ 31 [.int .i64 31] from rfl) (Reps.one (show Kd.M (Kd.int .i64) _ _ _ 31 [.int .i64 31] from rfl) (Reps.one (show Kd.M (Kd.int .i64) _ _ _ 30 [.int .i64 30] from rfl) (Reps.one (show Kd.M (Kd.int .i64) _ _ _ 31 [.int .i64 31] from rfl) (Reps.one (show Kd.M (Kd.int .i64) _ _ _ 30 [.int .i64 30] from rfl) (Reps.one (show Kd.M (Kd.int .i64) _ _ _ 31 [.int .i64 31] from rfl) (Reps.none _ _))))))))))))));intro v178 w15 ho16 hb hg_ hnew_;clear hg_ hnew_;(first|rw [← Ny177.out] at ho16|(simp only [Int.reduceToNat] at ho16;rw [← Ny177.out] at ho16));have n0_:=mkA (Kd.R_lower ho16 (below_size (by repeat (first|(with_reducible first|exact HB.out|apply below_alloc|apply pw_below_drewN|apply below_drew1)|exact HB.out))));have n1_:=mkA (below_step (by repeat (first|(with_reducible first|exact HB.out|apply below_alloc|apply pw_below_drewN|apply below_drew1)|exact HB.out)) hb);clear HB;have HO179:=n0_;have HB:=n1_;clear n0_ n1_;clear hb ho16;obtain ⟨Ao17,co17,eo17⟩:=Kd.R_slice HO179.out;subst eo17;have p180:0≤((ji12):Int):=of_decide_eq_true (by first|(with_reducible assumption)|assumption);have q180:(ji12) < (y177.length:Int):=of_decide_eq_true (by first|(with_reducible assumption)|assumption);obtain ⟨ad180,e180,hx180_0⟩:=Kd.at_int (Kd.R_reads' HO179.out).2.2 (ji12) p180 q180;cases e180;replace p180:=eq_true p180;replace q180:=eq_true q180))
    go_ret
    exact ⟨by first|rfl|(simp [errW_none,errW_some] <;> rfl)|(simp only [← hji12];first|rfl|(simp [errW_none,errW_some] <;> rfl))|(simp [*,errW_none,errW_some] <;> rfl),by repeat (first|(with_reducible first|exact HB.out|apply below_alloc|apply pw_below_drewN|apply below_drew1)|exact HB.out)⟩
   ·rw [if_neg c14] at H
    exact absurd H (by simp)
  ·rw [if_neg c13] at H
   exact absurd H (by simp)
end Go.Proofs.YtlnmnjbihgaliaaGreat.Pr
