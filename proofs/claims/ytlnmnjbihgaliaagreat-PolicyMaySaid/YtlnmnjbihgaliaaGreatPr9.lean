import Derived.Test.YtlnmnjbihgaliaaGreatPr0
set_option linter.unusedVariables false
set_option linter.unusedSimpArgs false
namespace Go.Proofs.YtlnmnjbihgaliaaGreat.Pr
open Go.RowKit Go.Proofs.YtlnmnjbihgaliaaGreatW.PrintWords Go.Proofs.YtlnmnjbihgaliaaGreatW.PrintLast Go.Proofs.YtlnmnjbihgaliaaGreatW.PrintMore
attribute [local go_sem] max2_int min2_int max_two min_two max_three min_three max_four min_four
def ambryhelp_Light.l0:Nat→List (S41)→Int→Option (Bool)
 |0,_,_=>none
 |k+1,x0,x5=>if x5 < (x0.length:Int) then (if 0≤x5 then (if (((rd_T41 x0 x5).f0).size:Int) > 300 then (some false) else (if (((rd_T41 x0 x5).f1).size:Int) > 300 then (some false) else (ambryhelp_Light.l0 k x0 (wrap64 (x5+1))))) else (none)) else (some true)
def ambryhelp_Light.f(k:Nat)(l0:List (S41))(a1:Int):Option (Bool):=if (l0.length:Int) > a1 then (some false) else (ambryhelp_Light.l0 k l0 0)
set_option maxHeartbeats 8000000 in
set_option maxRecDepth 100000 in
theorem ambryhelp_Light.calls(k:Nat)(A0:Option Addr)(c0:Nat)(l0:List (S41))(a1:Int)(r:Bool)(w:World)(hr0:Kd.C k41 w A0 l0.length l0)(hc0:l0.length≤c0)(h:ambryhelp_Light.f k l0 a1=some r):
  Calls Tryz.prog 15 #[.slice A0 l0.length c0,.int .i64 a1] w fun e w'=>e=.returned (.bool r)∧Drawn0 w w':=by
 have HR0:=mkA hr0
 have HC0:=mkA hc0
 clear hr0 hc0
 have H:(if (l0.length:Int) > a1 then (some false) else (ambryhelp_Light.l0 k l0 0))=some r:=h
 clear h
 by_cases c3:(l0.length:Int) > a1
 ·rw [if_pos c3] at H
  have c3b0:decide (a1 < (l0.length:Int))=true:=decide_eq_true c3
  clear c3
  obtain rfl:=Option.some.inj H
  go_enter Tryz.func15,Tryz.ntmps15
  go_wp2
  go_ret
  exact ⟨by first|rfl|(simp;done)|(simp [*];done),by repeat (first|exact Drawn0.refl _|apply Drawn0.step)⟩
 ·rw [if_neg c3] at H
  have c3b0:decide (a1 < (l0.length:Int))=false:=decide_eq_false c3
  clear c3
  have H':=mkA H
  clear H
  go_enter Tryz.func15,Tryz.ntmps15
  go_wp2
  go_loopg [5] k (fun kq v5 w'=>∃ (x5_1:Int),v5=.int .i64 x5_1∧Aside0 (ambryhelp_Light.l0 kq l0 x5_1=some r)∧Aside0 (kq≤k)∧Drawn0 w w')
  case atStart=>exact ⟨(0),(by first|rfl|(simp;done)|(simp [*];done)),H',⟨Nat.le_refl _⟩,by repeat (first|exact Drawn0.refl _|apply Drawn0.step)⟩
  case round=>
   clear H'
   try clear c1
   try clear p2
   try clear c3
   try clear c3b0
   obtain ⟨x5_1,rfl,HA,HK1,⟨m1,rfl⟩⟩:=hrel
   cases gk with
   |zero=>exact absurd HA.out (by simp [ambryhelp_Light.l0])
   |succ k1=>
    have H:=HA.out
    clear HA
    simp only [ambryhelp_Light.l0] at H
    by_cases c4:x5_1 < (l0.length:Int)
    ·rw [if_pos c4] at H
     have c4b0:decide (x5_1 < (l0.length:Int))=true:=decide_eq_true c4
     clear c4
     by_cases c5:0≤x5_1
     ·rw [if_pos c5] at H
      have c5b0:decide (0≤x5_1)=true:=decide_eq_true c5
      clear c5
      by_cases c6:(((rd_T41 l0 x5_1).f0).size:Int) > 300
      ·rw [if_pos c6] at H
       have c6b0:decide (300 < (((rd_T41 l0 x5_1).f0).size:Int))=true:=decide_eq_true c6
       have c6b1:decide (300 < ((rd_T41 l0 x5_1).f0).size)=true:=decide_eq_true (by omega)
       clear c6
       obtain rfl:=Option.some.inj H
       have p166:0≤(x5_1:Int):=of_decide_eq_true (by first|(with_reducible assumption)|assumption)
       have q166:x5_1 < (l0.length:Int):=of_decide_eq_true (by first|(with_reducible assumption)|assumption)
       obtain ⟨ad166,e166,hx166_0,hx166_1⟩:=at_T41 HR0.out x5_1 p166 q166
       cases e166
       replace p166:=eq_true p166
       replace q166:=eq_true q166
       go_wp2
       go_ret
       exact ⟨by first|rfl|(simp;done)|(simp [*];done),by repeat (first|exact Drawn0.refl _|apply Drawn0.step)⟩
      ·rw [if_neg c6] at H
       have c6b0:decide (300 < (((rd_T41 l0 x5_1).f0).size:Int))=false:=decide_eq_false c6
       have c6b1:decide (300 < ((rd_T41 l0 x5_1).f0).size)=false:=decide_eq_false (by omega)
       clear c6
       by_cases c7:(((rd_T41 l0 x5_1).f1).size:Int) > 300
       ·rw [if_pos c7] at H
        have c7b0:decide (300 < (((rd_T41 l0 x5_1).f1).size:Int))=true:=decide_eq_true c7
        have c7b1:decide (300 < ((rd_T41 l0 x5_1).f1).size)=true:=decide_eq_true (by omega)
        clear c7
        obtain rfl:=Option.some.inj H
        have p166:0≤(x5_1:Int):=of_decide_eq_true (by first|(with_reducible assumption)|assumption)
        have q166:x5_1 < (l0.length:Int):=of_decide_eq_true (by first|(with_reducible assumption)|assumption)
        obtain ⟨ad166,e166,hx166_0,hx166_1⟩:=at_T41 HR0.out x5_1 p166 q166
        cases e166
        replace p166:=eq_true p166
        replace q166:=eq_true q166
        have p167:0≤(x5_1:Int):=of_decide_eq_true (by first|(with_reducible assumption)|assumption)
        have q167:x5_1 < (l0.length:Int):=of_decide_eq_true (by first|(with_reducible assumption)|assumption)
        obtain ⟨ad167,e167,hx167_0,hx167_1⟩:=at_T41 HR0.out x5_1 p167 q167
        obtain rfl:ad166=ad167:=(by injection e167)
        replace p167:=eq_true p167
        replace q167:=eq_true q167
        go_wp2
        go_ret
        exact ⟨by first|rfl|(simp;done)|(simp [*];done),by repeat (first|exact Drawn0.refl _|apply Drawn0.step)⟩
       ·rw [if_neg c7] at H
        have c7b0:decide (300 < (((rd_T41 l0 x5_1).f1).size:Int))=false:=decide_eq_false c7
        have c7b1:decide (300 < ((rd_T41 l0 x5_1).f1).size)=false:=decide_eq_false (by omega)
        clear c7
        have H':=mkA H
        clear H
        have p166:0≤(x5_1:Int):=of_decide_eq_true (by first|(with_reducible assumption)|assumption)
        have q166:x5_1 < (l0.length:Int):=of_decide_eq_true (by first|(with_reducible assumption)|assumption)
        obtain ⟨ad166,e166,hx166_0,hx166_1⟩:=at_T41 HR0.out x5_1 p166 q166
        cases e166
        replace p166:=eq_true p166
        replace q166:=eq_true q166
        have p167:0≤(x5_1:Int):=of_decide_eq_true (by first|(with_reducible assumption)|assumption)
        have q167:x5_1 < (l0.length:Int):=of_decide_eq_true (by first|(with_reducible assumption)|assumption)
        obtain ⟨ad167,e167,hx167_0,hx167_1⟩:=at_T41 HR0.out x5_1 p167 q167
        obtain rfl:ad166=ad167:=(by injection e167)
        replace p167:=eq_true p167
        replace q167:=eq_true q167
        go_wp2
        go_roundg k1
        case measure=>have:=HK1.out;omega
        case rel=>exact ⟨(wrap64 (x5_1+1)),(by first|rfl|(simp;done)|(simp [*];done)),H',⟨by have:=HK1.out;omega⟩,by repeat (first|exact Drawn0.refl _|apply Drawn0.step)⟩
     ·rw [if_neg c5] at H
      exact absurd H (by simp)
    ·rw [if_neg c4] at H
     have c4b0:decide (x5_1 < (l0.length:Int))=false:=decide_eq_false c4
     clear c4
     obtain rfl:=Option.some.inj H
     go_wp2
     go_ret
     exact ⟨by first|rfl|(simp;done)|(simp [*];done),by repeat (first|exact Drawn0.refl _|apply Drawn0.step)⟩
def ambryhelp_LightQ.f(k:Nat)(a0_0:ByteArray)(a0_1:ByteArray)(l0_2:List (S41))(l0_3:List Int):Option (Bool):=if (a0_0.size:Int)≤100 then (if (a0_1.size:Int)≤300 then ((ambryhelp_Light.f k l0_2 15).bind fun t169=>(if t169=true then (some (decide ((l0_3.length:Int)≤1000))) else (some false))) else (some false)) else (some false)
set_option maxHeartbeats 8000000 in
set_option maxRecDepth 100000 in
theorem ambryhelp_LightQ.calls(k:Nat)(a0_0:ByteArray)(a0_1:ByteArray)(A0_2:Option Addr)(c0_2:Nat)(l0_2:List (S41))(A0_3:Option Addr)(c0_3:Nat)(l0_3:List Int)(r:Bool)(w:World)(hr0_2:Kd.C k41 w A0_2 l0_2.length l0_2)(hc0_2:l0_2.length≤c0_2)(hr0_3:Kd.C (Kd.int .u8) w A0_3 l0_3.length l0_3)(hc0_3:l0_3.length≤c0_3)(h:ambryhelp_LightQ.f k a0_0 a0_1 l0_2 l0_3=some r):
  Calls Tryz.prog 5 #[.agg #[.string a0_0,.string a0_1,.slice A0_2 l0_2.length c0_2,.slice A0_3 l0_3.length c0_3]] w fun e w'=>e=.returned (.bool r)∧Below w.heap.size w w':=by
 have hu25:=Tryz.underlying25
 have HR0_2:=mkA hr0_2
 have HC0_2:=mkA hc0_2
 clear hr0_2 hc0_2
 have HR0_3:=mkA hr0_3
 have HC0_3:=mkA hc0_3
 clear hr0_3 hc0_3
 have HB:=mkA (Below.refl w.heap.size w)
 have H:(if (a0_0.size:Int)≤100 then (if (a0_1.size:Int)≤300 then ((ambryhelp_Light.f k l0_2 15).bind fun t169=>(if t169=true then (some (decide ((l0_3.length:Int)≤1000))) else (some false))) else (some false)) else (some false))=some r:=h
 clear h
 by_cases c2:(a0_0.size:Int)≤100
 ·rw [if_pos c2] at H
  have c2b0:decide ((a0_0.size:Int)≤100)=true:=decide_eq_true c2
  have c2b1:decide (a0_0.size≤100)=true:=decide_eq_true (by omega)
  clear c2
  by_cases c3:(a0_1.size:Int)≤300
  ·rw [if_pos c3] at H
   have c3b0:decide ((a0_1.size:Int)≤300)=true:=decide_eq_true c3
   have c3b1:decide (a0_1.size≤300)=true:=decide_eq_true (by omega)
   clear c3
   replace H:=Option.bind_eq_some_iff.mp H
   obtain ⟨t169,A40,H⟩:=H
   replace H:(if t169=true then (some (decide ((l0_3.length:Int)≤1000))) else (some false))=some r:=H
   have A4:=mkA A40
   clear A40
   by_cases c5:t169=true
   ·subst c5
    have H1:(some (decide ((l0_3.length:Int)≤1000)))=some r:=by rw [if_pos rfl] at H;exact H
    clear H
    have H:=H1
    clear H1
    obtain rfl:=Option.some.inj H
    go_enter Tryz.func5,Tryz.ntmps5
    go_wp2_with (first|((with_reducible refine gate_dst (N:=1) rfl ?_);(try (refine gate_guard (by rfl) ?_;dsimp only));refine box_event ?hg (N:=1) ?hd (cs:=#[.string a0_0,.string a0_1,.slice A0_2 l0_2.length c0_2,.slice A0_3 l0_3.length c0_3]) (t:=25) ?hr ?_;(case hd=>rfl);(case hg=>rfl);(case hr=>first|(go_simp;done)|(go_simp;rfl));intro gb168 hg w6 hbox hb;have n0_:=mkA (below_step (by repeat (first|(with_reducible first|exact HB.out|apply below_alloc|apply pw_below_drewN|apply below_drew1)|exact HB.out)) hb);have n1_:=mkA (hbox);have n2_:=mkA ((by rw [hg];exact (below_size (by repeat (first|(with_reducible first|exact HB.out|apply below_alloc|apply pw_below_drewN|apply below_drew1)|exact HB.out))):w.heap.size≤gb168));have n3_:=mkA ((by rw [hg];exact (below_size (by repeat (first|(with_reducible first|exact HB.out|apply below_alloc|apply pw_below_drewN|apply below_drew1)|exact HB.out))):w.heap.size≤gb168));clear HB;have HB:=n0_;have BK168:=n1_;have GW168:=n2_;have GE168:=n3_;clear n0_ n1_ n2_ n3_;clear hb hbox hg;have hcz7_0:w6.cell? ⟨gb168,0,none⟩=some (.string a0_0):=(blk_cell BK168.out 0).trans rfl;have hcz7_1:w6.cell? ⟨gb168,1,none⟩=some (.string a0_1):=(blk_cell BK168.out 1).trans rfl;have hcz7_2:w6.cell? ⟨gb168,2,none⟩=some (.slice A0_2 l0_2.length c0_2):=(blk_cell BK168.out 2).trans rfl;have hcz7_3:w6.cell? ⟨gb168,3,none⟩=some (.slice A0_3 l0_3.length c0_3):=(blk_cell BK168.out 3).trans rfl;have hfz7_0:=blk_frozen BK168.out 0;have hfz7_1:=blk_frozen BK168.out 1;have hfz7_2:=blk_frozen BK168.out 2;have hfz7_3:=blk_frozen BK168.out 3)|(go_at_call 15;(with_reducible refine (ambryhelp_Light.calls k _ _ l0_2 15 true _ ?side1 ?side2 A4.out).mono ?_);(case side1=>repeat (first|exact (Kd.C_below HR0_2.out HB.out)|(with_reducible refine Kd.C_alloc ?_ _)|(with_reducible refine Kd.C_drewN ?_ _)|(with_reducible refine Kd.C_drew ?_)));(case side2=>exact HC0_2.out);rintro e w' ⟨rfl,⟨nd,rfl⟩⟩))
    go_ret
    exact ⟨by first|rfl|(simp [errW_none,errW_some] <;> rfl)|(simp [*,errW_none,errW_some] <;> rfl),by repeat (first|(with_reducible first|exact HB.out|apply below_alloc|apply pw_below_drewN|apply below_drew1|refine below_set ?_ GE168.out)|exact HB.out)⟩
   ·replace c5:=Bool.eq_false_iff.mpr c5
    subst c5
    have H1:(some false)=some r:=by rw [if_neg (show ¬ (false=true) by decide)] at H;exact H
    clear H
    have H:=H1
    clear H1
    obtain rfl:=Option.some.inj H
    go_enter Tryz.func5,Tryz.ntmps5
    go_wp2_with (first|((with_reducible refine gate_dst (N:=1) rfl ?_);(try (refine gate_guard (by rfl) ?_;dsimp only));refine box_event ?hg (N:=1) ?hd (cs:=#[.string a0_0,.string a0_1,.slice A0_2 l0_2.length c0_2,.slice A0_3 l0_3.length c0_3]) (t:=25) ?hr ?_;(case hd=>rfl);(case hg=>rfl);(case hr=>first|(go_simp;done)|(go_simp;rfl));intro gb168 hg w8 hbox hb;have n0_:=mkA (below_step (by repeat (first|(with_reducible first|exact HB.out|apply below_alloc|apply pw_below_drewN|apply below_drew1)|exact HB.out)) hb);have n1_:=mkA (hbox);have n2_:=mkA ((by rw [hg];exact (below_size (by repeat (first|(with_reducible first|exact HB.out|apply below_alloc|apply pw_below_drewN|apply below_drew1)|exact HB.out))):w.heap.size≤gb168));have n3_:=mkA ((by rw [hg];exact (below_size (by repeat (first|(with_reducible first|exact HB.out|apply below_alloc|apply pw_below_drewN|apply below_drew1)|exact HB.out))):w.heap.size≤gb168));clear HB;have HB:=n0_;have BK168:=n1_;have GW168:=n2_;have GE168:=n3_;clear n0_ n1_ n2_ n3_;clear hb hbox hg;have hcz9_0:w8.cell? ⟨gb168,0,none⟩=some (.string a0_0):=(blk_cell BK168.out 0).trans rfl;have hcz9_1:w8.cell? ⟨gb168,1,none⟩=some (.string a0_1):=(blk_cell BK168.out 1).trans rfl;have hcz9_2:w8.cell? ⟨gb168,2,none⟩=some (.slice A0_2 l0_2.length c0_2):=(blk_cell BK168.out 2).trans rfl;have hcz9_3:w8.cell? ⟨gb168,3,none⟩=some (.slice A0_3 l0_3.length c0_3):=(blk_cell BK168.out 3).trans rfl;have hfz9_0:=blk_frozen BK168.out 0;have hfz9_1:=blk_frozen BK168.out 1;have hfz9_2:=blk_frozen BK168.out 2;have hfz9_3:=blk_frozen BK168.out 3)|(go_at_call 15;(with_reducible refine (ambryhelp_Light.calls k _ _ l0_2 15 false _ ?side1 ?side2 A4.out).mono ?_);(case side1=>repeat (first|exact (Kd.C_below HR0_2.out HB.out)|(with_reducible refine Kd.C_alloc ?_ _)|(with_reducible refine Kd.C_drewN ?_ _)|(with_reducible refine Kd.C_drew ?_)));(case side2=>exact HC0_2.out);rintro e w' ⟨rfl,⟨nd,rfl⟩⟩))
    go_ret
    exact ⟨by first|rfl|(simp [errW_none,errW_some] <;> rfl)|(simp [*,errW_none,errW_some] <;> rfl),by repeat (first|(with_reducible first|exact HB.out|apply below_alloc|apply pw_below_drewN|apply below_drew1|refine below_set ?_ GE168.out)|exact HB.out)⟩
  ·rw [if_neg c3] at H
   have c3b0:decide ((a0_1.size:Int)≤300)=false:=decide_eq_false c3
   have c3b1:decide (a0_1.size≤300)=false:=decide_eq_false (by omega)
   clear c3
   obtain rfl:=Option.some.inj H
   go_enter Tryz.func5,Tryz.ntmps5
   go_wp2_with (first|((with_reducible refine gate_dst (N:=1) rfl ?_);(try (refine gate_guard (by rfl) ?_;dsimp only));refine box_event ?hg (N:=1) ?hd (cs:=#[.string a0_0,.string a0_1,.slice A0_2 l0_2.length c0_2,.slice A0_3 l0_3.length c0_3]) (t:=25) ?hr ?_;(case hd=>rfl);(case hg=>rfl);(case hr=>first|(go_simp;done)|(go_simp;rfl));intro gb168 hg w10 hbox hb;have n0_:=mkA (below_step (by repeat (first|(with_reducible first|exact HB.out|apply below_alloc|apply pw_below_drewN|apply below_drew1)|exact HB.out)) hb);have n1_:=mkA (hbox);have n2_:=mkA ((by rw [hg];exact (below_size (by repeat (first|(with_reducible first|exact HB.out|apply below_alloc|apply pw_below_drewN|apply below_drew1)|exact HB.out))):w.heap.size≤gb168));have n3_:=mkA ((by rw [hg];exact (below_size (by repeat (first|(with_reducible first|exact HB.out|apply below_alloc|apply pw_below_drewN|apply below_drew1)|exact HB.out))):w.heap.size≤gb168));clear HB;have HB:=n0_;have BK168:=n1_;have GW168:=n2_;have GE168:=n3_;clear n0_ n1_ n2_ n3_;clear hb hbox hg;have hcz11_0:w10.cell? ⟨gb168,0,none⟩=some (.string a0_0):=(blk_cell BK168.out 0).trans rfl;have hcz11_1:w10.cell? ⟨gb168,1,none⟩=some (.string a0_1):=(blk_cell BK168.out 1).trans rfl;have hcz11_2:w10.cell? ⟨gb168,2,none⟩=some (.slice A0_2 l0_2.length c0_2):=(blk_cell BK168.out 2).trans rfl;have hcz11_3:w10.cell? ⟨gb168,3,none⟩=some (.slice A0_3 l0_3.length c0_3):=(blk_cell BK168.out 3).trans rfl;have hfz11_0:=blk_frozen BK168.out 0;have hfz11_1:=blk_frozen BK168.out 1;have hfz11_2:=blk_frozen BK168.out 2;have hfz11_3:=blk_frozen BK168.out 3))
   go_ret
   exact ⟨by first|rfl|(simp [errW_none,errW_some] <;> rfl)|(simp [*,errW_none,errW_some] <;> rfl),by repeat (first|(with_reducible first|exact HB.out|apply below_alloc|apply pw_below_drewN|apply below_drew1|refine below_set ?_ GE168.out)|exact HB.out)⟩
 ·rw [if_neg c2] at H
  have c2b0:decide ((a0_0.size:Int)≤100)=false:=decide_eq_false c2
  have c2b1:decide (a0_0.size≤100)=false:=decide_eq_false (by omega)
  clear c2
  obtain rfl:=Option.some.inj H
  go_enter Tryz.func5,Tryz.ntmps5
  go_wp2_with (first|((with_reducible refine gate_dst (N:=1) rfl ?_);(try (refine gate_guard (by rfl) ?_;dsimp only));refine box_event ?hg (N:=1) ?hd (cs:=#[.string a0_0,.string a0_1,.slice A0_2 l0_2.length c0_2,.slice A0_3 l0_3.length c0_3]) (t:=25) ?hr ?_;(case hd=>rfl);(case hg=>rfl);(case hr=>first|(go_simp;done)|(go_simp;rfl));intro gb168 hg w12 hbox hb;have n0_:=mkA (below_step (by repeat (first|(with_reducible first|exact HB.out|apply below_alloc|apply pw_below_drewN|apply below_drew1)|exact HB.out)) hb);have n1_:=mkA (hbox);have n2_:=mkA ((by rw [hg];exact (below_size (by repeat (first|(with_reducible first|exact HB.out|apply below_alloc|apply pw_below_drewN|apply below_drew1)|exact HB.out))):w.heap.size≤gb168));have n3_:=mkA ((by rw [hg];exact (below_size (by repeat (first|(with_reducible first|exact HB.out|apply below_alloc|apply pw_below_drewN|apply below_drew1)|exact HB.out))):w.heap.size≤gb168));clear HB;have HB:=n0_;have BK168:=n1_;have GW168:=n2_;have GE168:=n3_;clear n0_ n1_ n2_ n3_;clear hb hbox hg;have hcz13_0:w12.cell? ⟨gb168,0,none⟩=some (.string a0_0):=(blk_cell BK168.out 0).trans rfl;have hcz13_1:w12.cell? ⟨gb168,1,none⟩=some (.string a0_1):=(blk_cell BK168.out 1).trans rfl;have hcz13_2:w12.cell? ⟨gb168,2,none⟩=some (.slice A0_2 l0_2.length c0_2):=(blk_cell BK168.out 2).trans rfl;have hcz13_3:w12.cell? ⟨gb168,3,none⟩=some (.slice A0_3 l0_3.length c0_3):=(blk_cell BK168.out 3).trans rfl;have hfz13_0:=blk_frozen BK168.out 0;have hfz13_1:=blk_frozen BK168.out 1;have hfz13_2:=blk_frozen BK168.out 2;have hfz13_3:=blk_frozen BK168.out 3))
  go_ret
  exact ⟨by first|rfl|(simp [errW_none,errW_some] <;> rfl)|(simp [*,errW_none,errW_some] <;> rfl),by repeat (first|(with_reducible first|exact HB.out|apply below_alloc|apply pw_below_drewN|apply below_drew1|refine below_set ?_ GE168.out)|exact HB.out)⟩
end Go.Proofs.YtlnmnjbihgaliaaGreat.Pr
