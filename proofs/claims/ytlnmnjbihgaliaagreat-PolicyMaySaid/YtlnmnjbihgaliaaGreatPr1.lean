import Derived.Test.YtlnmnjbihgaliaaGreatPr0
set_option linter.unusedVariables false
set_option linter.unusedSimpArgs false
namespace Go.Proofs.YtlnmnjbihgaliaaGreat.Pr
open Go.RowKit Go.Proofs.YtlnmnjbihgaliaaGreatW.PrintWords Go.Proofs.YtlnmnjbihgaliaaGreatW.PrintLast Go.Proofs.YtlnmnjbihgaliaaGreatW.PrintMore
attribute [local go_sem] max2_int min2_int max_two min_two max_three min_three max_four min_four
def ctrl_none.f :Option (Bool × Bool × Bool × Bool × Bool × Bool × Bool × Bool × Int × Int × Int × Int):=some (false,false,false,false,false,false,false,false,(-1),(-1),(-1),(-1))
set_option maxHeartbeats 8000000 in
set_option maxRecDepth 100000 in
theorem ctrl_none.calls  (r1:Bool) (r2:Bool) (r3:Bool) (r4:Bool) (r5:Bool) (r6:Bool) (r7:Bool) (r8:Bool) (r9:Int) (r10:Int) (r11:Int) (r12:Int) (w:World) (h:ctrl_none.f =some (r1,r2,r3,r4,r5,r6,r7,r8,r9,r10,r11,r12)) :
  Calls Tryz.prog 44 #[] w fun e w'=>e=.returned (.agg #[.bool r1,.bool r2,.bool r3,.bool r4,.bool r5,.bool r6,.bool r7,.bool r8,.int .i64 r9,.int .i64 r10,.int .i64 r11,.int .i64 r12])∧Below w.heap.size w w':=by
 have hu51:=Tryz.underlying51
 have HB:=mkA (Below.refl w.heap.size w)
 have H:(some (false,false,false,false,false,false,false,false,(-1),(-1),(-1),(-1)))=some (r1,r2,r3,r4,r5,r6,r7,r8,r9,r10,r11,r12):=h
 clear h
 simp only [Option.some.injEq,Prod.mk.injEq] at H
 obtain ⟨rfl,rfl,rfl,rfl,rfl,rfl,rfl,rfl,rfl,rfl,rfl,rfl⟩:=H
 go_enter Tryz.func44,Tryz.ntmps44
 go_wp2_with (first|((with_reducible refine gate_dst (N:=0) rfl ?_);refine box_event ?hg (N:=0) ?hd (cs:=#[.bool false,.bool false,.bool false,.bool false,.bool false,.bool false,.bool false,.bool false,.int .i64 0,.int .i64 0,.int .i64 0,.int .i64 0]) (t:=51) ?hr ?_;(case hd=>rfl);(case hg=>rfl);(case hr=>first|(go_simp;done)|(go_simp;rfl));intro gb101 hg w1 hbox hb;have n0_:=mkA (below_step (by repeat (first|(with_reducible first|exact HB.out|apply below_alloc|apply pw_below_drewN|apply below_drew1)|exact HB.out)) hb);have n1_:=mkA (hbox);have n2_:=mkA ((by rw [hg];exact (below_size (by repeat (first|(with_reducible first|exact HB.out|apply below_alloc|apply pw_below_drewN|apply below_drew1)|exact HB.out))):w.heap.size≤gb101));have n3_:=mkA ((by rw [hg];exact (below_size (by repeat (first|(with_reducible first|exact HB.out|apply below_alloc|apply pw_below_drewN|apply below_drew1)|exact HB.out))):w.heap.size≤gb101));clear HB;have HB:=n0_;have BK101:=n1_;have GW101:=n2_;have GE101:=n3_;clear n0_ n1_ n2_ n3_;clear hb hbox hg;have hcz2_0:w1.cell? ⟨gb101,0,none⟩=some (.bool false):=(blk_cell BK101.out 0).trans rfl;have hcz2_1:w1.cell? ⟨gb101,1,none⟩=some (.bool false):=(blk_cell BK101.out 1).trans rfl;have hcz2_2:w1.cell? ⟨gb101,2,none⟩=some (.bool false):=(blk_cell BK101.out 2).trans rfl;have hcz2_3:w1.cell? ⟨gb101,3,none⟩=some (.bool false):=(blk_cell BK101.out 3).trans rfl;have hcz2_4:w1.cell? ⟨gb101,4,none⟩=some (.bool false):=(blk_cell BK101.out 4).trans rfl;have hcz2_5:w1.cell? ⟨gb101,5,none⟩=some (.bool false):=(blk_cell BK101.out 5).trans rfl;have hcz2_6:w1.cell? ⟨gb101,6,none⟩=some (.bool false):=(blk_cell BK101.out 6).trans rfl;have hcz2_7:w1.cell? ⟨gb101,7,none⟩=some (.bool false):=(blk_cell BK101.out 7).trans rfl;have hcz2_8:w1.cell? ⟨gb101,8,none⟩=some (.int .i64 0):=(blk_cell BK101.out 8).trans rfl;have hcz2_9:w1.cell? ⟨gb101,9,none⟩=some (.int .i64 0):=(blk_cell BK101.out 9).trans rfl;have hcz2_10:w1.cell? ⟨gb101,10,none⟩=some (.int .i64 0):=(blk_cell BK101.out 10).trans rfl;have hcz2_11:w1.cell? ⟨gb101,11,none⟩=some (.int .i64 0):=(blk_cell BK101.out 11).trans rfl;have hfz2_0:=blk_frozen BK101.out 0;have hfz2_1:=blk_frozen BK101.out 1;have hfz2_2:=blk_frozen BK101.out 2;have hfz2_3:=blk_frozen BK101.out 3;have hfz2_4:=blk_frozen BK101.out 4;have hfz2_5:=blk_frozen BK101.out 5;have hfz2_6:=blk_frozen BK101.out 6;have hfz2_7:=blk_frozen BK101.out 7;have hfz2_8:=blk_frozen BK101.out 8;have hfz2_9:=blk_frozen BK101.out 9;have hfz2_10:=blk_frozen BK101.out 10;have hfz2_11:=blk_frozen BK101.out 11))
 refine bodyPost_ret (results_cell_row rfl _ _ gb101 51 #[.bool false,.bool false,.bool false,.bool false,.bool false,.bool false,.bool false,.bool false,.int .i64 (-1),.int .i64 (-1),.int .i64 (-1),.int .i64 (-1)] (0,0) _ rfl (by (with_reducible repeat (first|refine blk_drewN ?_ _|refine blk_drew ?_|refine blk_alloc ?_ _));refine blk_put (cs:=#[.bool false,.bool false,.bool false,.bool false,.bool false,.bool false,.bool false,.bool false,.int .i64 (-1),.int .i64 (-1),.int .i64 (-1),.int .i64 0]) ?_ 11 _ rfl;(with_reducible repeat (first|refine blk_drewN ?_ _|refine blk_drew ?_|refine blk_alloc ?_ _));refine blk_put (cs:=#[.bool false,.bool false,.bool false,.bool false,.bool false,.bool false,.bool false,.bool false,.int .i64 (-1),.int .i64 (-1),.int .i64 0,.int .i64 0]) ?_ 10 _ rfl;(with_reducible repeat (first|refine blk_drewN ?_ _|refine blk_drew ?_|refine blk_alloc ?_ _));refine blk_put (cs:=#[.bool false,.bool false,.bool false,.bool false,.bool false,.bool false,.bool false,.bool false,.int .i64 (-1),.int .i64 0,.int .i64 0,.int .i64 0]) ?_ 9 _ rfl;(with_reducible repeat (first|refine blk_drewN ?_ _|refine blk_drew ?_|refine blk_alloc ?_ _));refine blk_put (cs:=#[.bool false,.bool false,.bool false,.bool false,.bool false,.bool false,.bool false,.bool false,.int .i64 0,.int .i64 0,.int .i64 0,.int .i64 0]) ?_ 8 _ rfl;(with_reducible repeat (first|refine blk_drewN ?_ _|refine blk_drew ?_|refine blk_alloc ?_ _));refine blk_put (cs:=#[.bool false,.bool false,.bool false,.bool false,.bool false,.bool false,.bool false,.bool false,.int .i64 0,.int .i64 0,.int .i64 0,.int .i64 0]) ?_ 7 _ rfl;(with_reducible repeat (first|refine blk_drewN ?_ _|refine blk_drew ?_|refine blk_alloc ?_ _));refine blk_put (cs:=#[.bool false,.bool false,.bool false,.bool false,.bool false,.bool false,.bool false,.bool false,.int .i64 0,.int .i64 0,.int .i64 0,.int .i64 0]) ?_ 6 _ rfl;(with_reducible repeat (first|refine blk_drewN ?_ _|refine blk_drew ?_|refine blk_alloc ?_ _));refine blk_put (cs:=#[.bool false,.bool false,.bool false,.bool false,.bool false,.bool false,.bool false,.bool false,.int .i64 0,.int .i64 0,.int .i64 0,.int .i64 0]) ?_ 5 _ rfl;(with_reducible repeat (first|refine blk_drewN ?_ _|refine blk_drew ?_|refine blk_alloc ?_ _));refine blk_put (cs:=#[.bool false,.bool false,.bool false,.bool false,.bool false,.bool false,.bool false,.bool false,.int .i64 0,.int .i64 0,.int .i64 0,.int .i64 0]) ?_ 4 _ rfl;(with_reducible repeat (first|refine blk_drewN ?_ _|refine blk_drew ?_|refine blk_alloc ?_ _));refine blk_put (cs:=#[.bool false,.bool false,.bool false,.bool false,.bool false,.bool false,.bool false,.bool false,.int .i64 0,.int .i64 0,.int .i64 0,.int .i64 0]) ?_ 3 _ rfl;(with_reducible repeat (first|refine blk_drewN ?_ _|refine blk_drew ?_|refine blk_alloc ?_ _));refine blk_put (cs:=#[.bool false,.bool false,.bool false,.bool false,.bool false,.bool false,.bool false,.bool false,.int .i64 0,.int .i64 0,.int .i64 0,.int .i64 0]) ?_ 2 _ rfl;(with_reducible repeat (first|refine blk_drewN ?_ _|refine blk_drew ?_|refine blk_alloc ?_ _));refine blk_put (cs:=#[.bool false,.bool false,.bool false,.bool false,.bool false,.bool false,.bool false,.bool false,.int .i64 0,.int .i64 0,.int .i64 0,.int .i64 0]) ?_ 1 _ rfl;(with_reducible repeat (first|refine blk_drewN ?_ _|refine blk_drew ?_|refine blk_alloc ?_ _));refine blk_put (cs:=#[.bool false,.bool false,.bool false,.bool false,.bool false,.bool false,.bool false,.bool false,.int .i64 0,.int .i64 0,.int .i64 0,.int .i64 0]) ?_ 0 _ rfl;(with_reducible repeat (first|refine blk_drewN ?_ _|refine blk_drew ?_|refine blk_alloc ?_ _));exact BK101.out) Tryz.underlying51 rfl (by kernel_rfl)) rfl ?_
 exact ⟨by first|rfl|(simp [errW_none,errW_some] <;> rfl)|(simp [*,errW_none,errW_some] <;> rfl),by repeat (first|(with_reducible first|exact HB.out|apply below_alloc|apply pw_below_drewN|apply below_drew1|refine below_set ?_ GE101.out)|exact HB.out)⟩
def head_small.f(a0:Int):Option (Int):=if a0 ≥ 65 then (if a0≤90 then (some ((((a0+97) % 256) - 65) % 256)) else (some a0)) else (some a0)
set_option maxHeartbeats 8000000 in
set_option maxRecDepth 100000 in
theorem head_small.calls(a0:Int)(r:Int)(w:World)(h:head_small.f a0=some r):
  Calls Tryz.prog 68 #[.int .u8 a0] w fun e w'=>e=.returned (.int .u8 r)∧Drawn0 w w':=by
 have H:(if a0 ≥ 65 then (if a0≤90 then (some ((((a0+97) % 256) - 65) % 256)) else (some a0)) else (some a0))=some r:=h
 clear h
 by_cases c2:a0 ≥ 65
 ·rw [if_pos c2] at H
  have c2b0:decide (65≤a0)=true:=decide_eq_true c2
  clear c2
  by_cases c3:a0≤90
  ·rw [if_pos c3] at H
   have c3b0:decide (a0≤90)=true:=decide_eq_true c3
   clear c3
   obtain rfl:=Option.some.inj H
   go_enter Tryz.func68,Tryz.ntmps68
   go_wp2
   go_ret
   exact ⟨by first|rfl|(simp;done)|(simp [*];done),by repeat (first|exact Drawn0.refl _|apply Drawn0.step)⟩
  ·rw [if_neg c3] at H
   have c3b0:decide (a0≤90)=false:=decide_eq_false c3
   clear c3
   obtain rfl:=Option.some.inj H
   go_enter Tryz.func68,Tryz.ntmps68
   go_wp2
   go_ret
   exact ⟨by first|rfl|(simp;done)|(simp [*];done),by repeat (first|exact Drawn0.refl _|apply Drawn0.step)⟩
 ·rw [if_neg c2] at H
  have c2b0:decide (65≤a0)=false:=decide_eq_false c2
  clear c2
  obtain rfl:=Option.some.inj H
  go_enter Tryz.func68,Tryz.ntmps68
  go_wp2
  go_ret
  exact ⟨by first|rfl|(simp;done)|(simp [*];done),by repeat (first|exact Drawn0.refl _|apply Drawn0.step)⟩
def head_Same.l0:Nat→ByteArray→ByteArray→Int→Int→Option (Bool)
 |0,_,_,_,_=>none
 |k+1,x0,x1,x12,x13=>if x13 < x12 then (if 0≤x13 then (if x13 < (x0.size:Int) then ((head_small.f (bt x0 x13)).bind fun t102=>(if x13 < (x1.size:Int) then ((head_small.f (bt x1 x13)).bind fun t103=>(if t102=t103 then (head_Same.l0 k x0 x1 x12 (wrap64 (x13+1))) else (some false))) else (none))) else (none)) else (none)) else (some true)
def head_Same.f(k:Nat)(a0:ByteArray)(a1:ByteArray):Option (Bool):=if (a0.size:Int)=(a1.size:Int) then (head_Same.l0 k a0 a1 (a0.size:Int) 0) else (some false)
theorem head_Same.mono_l:∀ k,(∀ y0 y1 y2 y3,LeO (head_Same.l0 k y0 y1 y2 y3) (head_Same.l0 (k+1) y0 y1 y2 y3))
 |0=>fun _ _ _ _ r h=>by simp [head_Same.l0] at h
 |k+1=>by
  have ih0:=head_Same.mono_l k
  ·intro y0 y1 y2 y3
   unfold head_Same.l0
   repeat' first
   |(with_reducible exact ih0 _ _ _ _)
   |(with_reducible exact LeO.refl _)
   |(with_reducible exact LeO.none _)
   |(with_reducible refine LeO.ite ?_ ?_)
   |(with_reducible refine LeO.bind ?_ (fun _=>?_))
   |exact ih0 _ _ _ _
   |exact LeO.none _
   |refine LeO.ite ?_ ?_
   |refine LeO.bind ?_ (fun _=>?_)
theorem head_Same.mono:∀ a0 a1 k,LeO (head_Same.f k a0 a1) (head_Same.f (k+1) a0 a1):=by
 intro a0 a1 k
 have ih0:=head_Same.mono_l k
 unfold head_Same.f
 repeat' first
   |(with_reducible exact ih0 _ _ _ _)
   |(with_reducible exact LeO.refl _)
   |(with_reducible exact LeO.none _)
   |(with_reducible refine LeO.ite ?_ ?_)
   |(with_reducible refine LeO.bind ?_ (fun _=>?_))
   |exact ih0 _ _ _ _
   |exact LeO.none _
   |refine LeO.ite ?_ ?_
   |refine LeO.bind ?_ (fun _=>?_)
set_option maxHeartbeats 8000000 in
set_option maxRecDepth 100000 in
theorem head_Same.calls(k:Nat)(a0:ByteArray)(a1:ByteArray)(r:Bool)(w:World)(h:head_Same.f k a0 a1=some r):
  Calls Tryz.prog 47 #[.string a0,.string a1] w fun e w'=>e=.returned (.bool r)∧Drawn0 w w':=by
 have H:(if (a0.size:Int)=(a1.size:Int) then (head_Same.l0 k a0 a1 (a0.size:Int) 0) else (some false))=some r:=h
 clear h
 by_cases c3:(a0.size:Int)=(a1.size:Int)
 ·rw [if_pos c3] at H
  have c3b0:((a0.size:Int) == (a1.size:Int))=true:=beq_iff_eq.mpr c3
  have c3b1:((a0.size:Int) != (a1.size:Int))=false:=bne_eq_false_iff_eq.mpr c3
  have c3b2:(a0.size == a1.size)=true:=by first|simpa using c3|(simp at c3 ⊢;omega)
  clear c3
  have H':=mkA H
  clear H
  go_enter Tryz.func47,Tryz.ntmps47
  go_wp2
  repeat (go_quiet (fail);try go_wp2)
  go_loopg [13] k (fun kq v13 w'=>∃ (x13_1:Int),v13=.int .i64 x13_1∧Aside0 (head_Same.l0 kq a0 a1 (a0.size:Int) x13_1=some r)∧Aside0 (kq≤k)∧Drawn0 w w')
  case atStart=>exact ⟨(0),(by first|rfl|(simp;done)|(simp [*];done)),H',⟨Nat.le_refl _⟩,by repeat (first|exact Drawn0.refl _|apply Drawn0.step)⟩
  case round=>
   clear H'
   try clear p2
   try clear c3
   try clear c3b0
   try clear c3b1
   try clear c3b2
   obtain ⟨x13_1,rfl,HA,HK1,⟨m1,rfl⟩⟩:=hrel
   cases gk with
   |zero=>exact absurd HA.out (by simp [head_Same.l0])
   |succ k1=>
    have H:=HA.out
    clear HA
    simp only [head_Same.l0] at H
    by_cases c4:x13_1 < (a0.size:Int)
    ·rw [if_pos c4] at H
     have c4b0:decide (x13_1 < (a0.size:Int))=true:=decide_eq_true c4
     clear c4
     by_cases c5:0≤x13_1
     ·rw [if_pos c5] at H
      have c5b0:decide (0≤x13_1)=true:=decide_eq_true c5
      clear c5
      by_cases c6:x13_1 < (a0.size:Int)
      ·rw [if_pos c6] at H
       have c6b0:decide (x13_1 < (a0.size:Int))=true:=decide_eq_true c6
       clear c6
       replace H:=Option.bind_eq_some_iff.mp H
       obtain ⟨t102,A80,H⟩:=H
       replace H:(if x13_1 < (a1.size:Int) then ((head_small.f (bt a1 x13_1)).bind fun t103=>(if t102=t103 then (head_Same.l0 k1 a0 a1 (a0.size:Int) (wrap64 (x13_1+1))) else (some false))) else (none))=some r:=H
       have A8:=mkA A80
       clear A80
       by_cases c9:x13_1 < (a1.size:Int)
       ·rw [if_pos c9] at H
        have c9b0:decide (x13_1 < (a1.size:Int))=true:=decide_eq_true c9
        clear c9
        replace H:=Option.bind_eq_some_iff.mp H
        obtain ⟨t103,A110,H⟩:=H
        replace H:(if t102=t103 then (head_Same.l0 k1 a0 a1 (a0.size:Int) (wrap64 (x13_1+1))) else (some false))=some r:=H
        have A11:=mkA A110
        clear A110
        by_cases c12:t102=t103
        ·rw [if_pos c12] at H
         have c12b0:(t102 == t103)=true:=beq_iff_eq.mpr c12
         have c12b1:(t102 != t103)=false:=bne_eq_false_iff_eq.mpr c12
         clear c12
         have H':=mkA H
         clear H
         have p7:0≤(x13_1:Int):=of_decide_eq_true (by first|(with_reducible assumption)|assumption)
         have q7:x13_1 < (a0.size:Int):=of_decide_eq_true (by first|(with_reducible assumption)|assumption)
         have hx7:=bt_at a0 x13_1
         replace p7:=eq_true p7
         replace q7:=eq_true q7
         go_wp2_with (first|(go_at_call 68;(with_reducible refine (head_small.calls (bt a0 x13_1) t102 _ A8.out).mono ?_);rintro e w' ⟨rfl,⟨nd,rfl⟩⟩;(try first|exact ⟨rfl,_,World.drewN_drewN _ _ _⟩|exact ⟨rfl,_,Eq.trans (World.drewN_drewN _ _ _) (congrArg (World.drewN _) (Nat.add_assoc _ _ _))⟩);have p10:0≤(x13_1:Int):=of_decide_eq_true (by first|(with_reducible assumption)|assumption);have q10:x13_1 < (a1.size:Int):=of_decide_eq_true (by first|(with_reducible assumption)|assumption);have hx10:=bt_at a1 x13_1;replace p10:=eq_true p10;replace q10:=eq_true q10)|(go_at_call 68;(with_reducible refine (head_small.calls (bt a1 x13_1) t103 _ A11.out).mono ?_);rintro e w' ⟨rfl,⟨nd,rfl⟩⟩;(try first|exact ⟨rfl,_,World.drewN_drewN _ _ _⟩|exact ⟨rfl,_,Eq.trans (World.drewN_drewN _ _ _) (congrArg (World.drewN _) (Nat.add_assoc _ _ _))⟩)))
         repeat (go_quiet (first|(go_at_call 68;(with_reducible refine (head_small.calls (bt a0 x13_1) t102 _ A8.out).mono ?_);rintro e w' ⟨rfl,⟨nd,rfl⟩⟩;(try first|exact ⟨rfl,_,World.drewN_drewN _ _ _⟩|exact ⟨rfl,_,Eq.trans (World.drewN_drewN _ _ _) (congrArg (World.drewN _) (Nat.add_assoc _ _ _))⟩);have p10:0≤(x13_1:Int):=of_decide_eq_true (by first|(with_reducible assumption)|assumption);have q10:x13_1 < (a1.size:Int):=of_decide_eq_true (by first|(with_reducible assumption)|assumption);have hx10:=bt_at a1 x13_1;replace p10:=eq_true p10;replace q10:=eq_true q10)|(go_at_call 68;(with_reducible refine (head_small.calls (bt a1 x13_1) t103 _ A11.out).mono ?_);rintro e w' ⟨rfl,⟨nd,rfl⟩⟩;(try first|exact ⟨rfl,_,World.drewN_drewN _ _ _⟩|exact ⟨rfl,_,Eq.trans (World.drewN_drewN _ _ _) (congrArg (World.drewN _) (Nat.add_assoc _ _ _))⟩)));try go_wp2_with (first|(go_at_call 68;(with_reducible refine (head_small.calls (bt a0 x13_1) t102 _ A8.out).mono ?_);rintro e w' ⟨rfl,⟨nd,rfl⟩⟩;(try first|exact ⟨rfl,_,World.drewN_drewN _ _ _⟩|exact ⟨rfl,_,Eq.trans (World.drewN_drewN _ _ _) (congrArg (World.drewN _) (Nat.add_assoc _ _ _))⟩);have p10:0≤(x13_1:Int):=of_decide_eq_true (by first|(with_reducible assumption)|assumption);have q10:x13_1 < (a1.size:Int):=of_decide_eq_true (by first|(with_reducible assumption)|assumption);have hx10:=bt_at a1 x13_1;replace p10:=eq_true p10;replace q10:=eq_true q10)|(go_at_call 68;(with_reducible refine (head_small.calls (bt a1 x13_1) t103 _ A11.out).mono ?_);rintro e w' ⟨rfl,⟨nd,rfl⟩⟩;(try first|exact ⟨rfl,_,World.drewN_drewN _ _ _⟩|exact ⟨rfl,_,Eq.trans (World.drewN_drewN _ _ _) (congrArg (World.drewN _) (Nat.add_assoc _ _ _))⟩))))
         go_roundg k1
         case measure=>have:=HK1.out;omega
         case rel=>exact ⟨(wrap64 (x13_1+1)),(by first|rfl|(simp;done)|(simp [*];done)),H',⟨by have:=HK1.out;omega⟩,by repeat (first|exact Drawn0.refl _|apply Drawn0.step)⟩
        ·rw [if_neg c12] at H
         have c12b0:(t102 == t103)=false:=beq_eq_false_iff_ne.mpr c12
         have c12b1:(t102 != t103)=true:=bne_iff_ne.mpr c12
         obtain rfl:=Option.some.inj H
         have p7:0≤(x13_1:Int):=of_decide_eq_true (by first|(with_reducible assumption)|assumption)
         have q7:x13_1 < (a0.size:Int):=of_decide_eq_true (by first|(with_reducible assumption)|assumption)
         have hx7:=bt_at a0 x13_1
         replace p7:=eq_true p7
         replace q7:=eq_true q7
         go_wp2_with (first|(go_at_call 68;(with_reducible refine (head_small.calls (bt a0 x13_1) t102 _ A8.out).mono ?_);rintro e w' ⟨rfl,⟨nd,rfl⟩⟩;(try first|exact ⟨rfl,_,World.drewN_drewN _ _ _⟩|exact ⟨rfl,_,Eq.trans (World.drewN_drewN _ _ _) (congrArg (World.drewN _) (Nat.add_assoc _ _ _))⟩);have p10:0≤(x13_1:Int):=of_decide_eq_true (by first|(with_reducible assumption)|assumption);have q10:x13_1 < (a1.size:Int):=of_decide_eq_true (by first|(with_reducible assumption)|assumption);have hx10:=bt_at a1 x13_1;replace p10:=eq_true p10;replace q10:=eq_true q10)|(go_at_call 68;(with_reducible refine (head_small.calls (bt a1 x13_1) t103 _ A11.out).mono ?_);rintro e w' ⟨rfl,⟨nd,rfl⟩⟩;(try first|exact ⟨rfl,_,World.drewN_drewN _ _ _⟩|exact ⟨rfl,_,Eq.trans (World.drewN_drewN _ _ _) (congrArg (World.drewN _) (Nat.add_assoc _ _ _))⟩)))
         repeat (go_quiet (first|(go_at_call 68;(with_reducible refine (head_small.calls (bt a0 x13_1) t102 _ A8.out).mono ?_);rintro e w' ⟨rfl,⟨nd,rfl⟩⟩;(try first|exact ⟨rfl,_,World.drewN_drewN _ _ _⟩|exact ⟨rfl,_,Eq.trans (World.drewN_drewN _ _ _) (congrArg (World.drewN _) (Nat.add_assoc _ _ _))⟩);have p10:0≤(x13_1:Int):=of_decide_eq_true (by first|(with_reducible assumption)|assumption);have q10:x13_1 < (a1.size:Int):=of_decide_eq_true (by first|(with_reducible assumption)|assumption);have hx10:=bt_at a1 x13_1;replace p10:=eq_true p10;replace q10:=eq_true q10)|(go_at_call 68;(with_reducible refine (head_small.calls (bt a1 x13_1) t103 _ A11.out).mono ?_);rintro e w' ⟨rfl,⟨nd,rfl⟩⟩;(try first|exact ⟨rfl,_,World.drewN_drewN _ _ _⟩|exact ⟨rfl,_,Eq.trans (World.drewN_drewN _ _ _) (congrArg (World.drewN _) (Nat.add_assoc _ _ _))⟩)));try go_wp2_with (first|(go_at_call 68;(with_reducible refine (head_small.calls (bt a0 x13_1) t102 _ A8.out).mono ?_);rintro e w' ⟨rfl,⟨nd,rfl⟩⟩;(try first|exact ⟨rfl,_,World.drewN_drewN _ _ _⟩|exact ⟨rfl,_,Eq.trans (World.drewN_drewN _ _ _) (congrArg (World.drewN _) (Nat.add_assoc _ _ _))⟩);have p10:0≤(x13_1:Int):=of_decide_eq_true (by first|(with_reducible assumption)|assumption);have q10:x13_1 < (a1.size:Int):=of_decide_eq_true (by first|(with_reducible assumption)|assumption);have hx10:=bt_at a1 x13_1;replace p10:=eq_true p10;replace q10:=eq_true q10)|(go_at_call 68;(with_reducible refine (head_small.calls (bt a1 x13_1) t103 _ A11.out).mono ?_);rintro e w' ⟨rfl,⟨nd,rfl⟩⟩;(try first|exact ⟨rfl,_,World.drewN_drewN _ _ _⟩|exact ⟨rfl,_,Eq.trans (World.drewN_drewN _ _ _) (congrArg (World.drewN _) (Nat.add_assoc _ _ _))⟩))))
         go_ret
         exact ⟨by first|rfl|(simp;done)|(simp [*];done),by repeat (first|exact Drawn0.refl _|apply Drawn0.step)⟩
       ·rw [if_neg c9] at H
        exact absurd H (by simp)
      ·rw [if_neg c6] at H
       exact absurd H (by simp)
     ·rw [if_neg c5] at H
      exact absurd H (by simp)
    ·rw [if_neg c4] at H
     have c4b0:decide (x13_1 < (a0.size:Int))=false:=decide_eq_false c4
     clear c4
     obtain rfl:=Option.some.inj H
     go_wp2
     repeat (go_quiet (fail);try go_wp2)
     go_ret
     exact ⟨by first|rfl|(simp;done)|(simp [*];done),by repeat (first|exact Drawn0.refl _|apply Drawn0.step)⟩
 ·rw [if_neg c3] at H
  have c3b0:((a0.size:Int) == (a1.size:Int))=false:=beq_eq_false_iff_ne.mpr c3
  have c3b1:((a0.size:Int) != (a1.size:Int))=true:=bne_iff_ne.mpr c3
  have c3b2:(a0.size == a1.size)=false:=by first|simpa using c3|(simp at c3 ⊢;omega)
  obtain rfl:=Option.some.inj H
  go_enter Tryz.func47,Tryz.ntmps47
  go_wp2
  repeat (go_quiet (fail);try go_wp2)
  go_ret
  exact ⟨by first|rfl|(simp;done)|(simp [*];done),by repeat (first|exact Drawn0.refl _|apply Drawn0.step)⟩
end Go.Proofs.YtlnmnjbihgaliaaGreat.Pr
