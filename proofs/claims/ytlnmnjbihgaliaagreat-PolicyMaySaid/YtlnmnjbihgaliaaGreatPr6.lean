import Derived.Test.YtlnmnjbihgaliaaGreatPr0
import Derived.Test.YtlnmnjbihgaliaaGreatPr1
set_option linter.unusedVariables false
set_option linter.unusedSimpArgs false
namespace Go.Proofs.YtlnmnjbihgaliaaGreat.Pr
open Go.RowKit Go.Proofs.YtlnmnjbihgaliaaGreatW.PrintWords Go.Proofs.YtlnmnjbihgaliaaGreatW.PrintLast Go.Proofs.YtlnmnjbihgaliaaGreatW.PrintMore
attribute [local go_sem] max2_int min2_int max_two min_two max_three min_three max_four min_four
def ctrl_Seconds.l0:Nat→ByteArray→Int→Int→Int→Option (Int)
 |0,_,_,_,_=>none
 |k+1,x0,x3,x6,x7=>if x7 < x6 then (if 0≤x7 then (if x7 < (x0.size:Int) then (if (bt x0 x7) < 48 then (some (-1)) else (if (bt x0 x7) > 57 then (some (-1)) else (ctrl_Seconds.l0 k x0 (mn (wrap64 ((wrap64 (10 * x3))+(((bt x0 x7) - 48) % 256))) 2147483647) x6 (wrap64 (x7+1))))) else (none)) else (none)) else (if x0.toList=([]:List UInt8) then (some (-1)) else (some x3))
def ctrl_Seconds.f(k:Nat)(a0:ByteArray):Option (Int):=ctrl_Seconds.l0 k a0 0 (a0.size:Int) 0
set_option maxHeartbeats 8000000 in
set_option maxRecDepth 100000 in
theorem ctrl_Seconds.calls(k:Nat)(a0:ByteArray)(r:Int)(w:World)(h:ctrl_Seconds.f k a0=some r):
  Calls Tryz.prog 88 #[.string a0] w fun e w'=>e=.returned (.int .i64 r)∧Below w.heap.size w w':=by
 have HB:=mkA (Below.refl w.heap.size w)
 have H:(ctrl_Seconds.l0 k a0 0 (a0.size:Int) 0)=some r:=h
 clear h
 have H':=mkA H
 clear H
 go_enter Tryz.func88,Tryz.ntmps88
 go_wp2
 go_loopg [3,7] k (fun kq v3 v7 w'=>∃ (x3_1:Int) (x7_1:Int),v3=.int .i64 x3_1∧v7=.int .i64 x7_1∧Aside0 (ctrl_Seconds.l0 kq a0 x3_1 (a0.size:Int) x7_1=some r)∧Aside0 (kq≤k)∧Aside0 (Below w.heap.size w w'))
 case atStart=>exact ⟨(0),(0),(by first|rfl|(simp;done)|(simp [*];done)),(by first|rfl|(simp;done)|(simp [*];done)),H',⟨Nat.le_refl _⟩,⟨by repeat (first|(with_reducible first|exact HB.out|apply below_alloc|apply pw_below_drewN|apply below_drew1)|exact HB.out)⟩⟩
 case round=>
  clear H'
  obtain ⟨x3_1,x7_1,rfl,rfl,HA,HK1,HB⟩:=hrel
  cases gk with
  |zero=>exact absurd HA.out (by simp [ctrl_Seconds.l0])
  |succ k1=>
   have H:=HA.out
   clear HA
   simp only [ctrl_Seconds.l0] at H
   by_cases c2:x7_1 < (a0.size:Int)
   ·rw [if_pos c2] at H
    have c2b0:decide (x7_1 < (a0.size:Int))=true:=decide_eq_true c2
    clear c2
    by_cases c3:0≤x7_1
    ·rw [if_pos c3] at H
     have c3b0:decide (0≤x7_1)=true:=decide_eq_true c3
     clear c3
     by_cases c4:x7_1 < (a0.size:Int)
     ·rw [if_pos c4] at H
      have c4b0:decide (x7_1 < (a0.size:Int))=true:=decide_eq_true c4
      clear c4
      by_cases c6:(bt a0 x7_1) < 48
      ·rw [if_pos c6] at H
       have c6b0:decide ((bt a0 x7_1) < 48)=true:=decide_eq_true c6
       clear c6
       obtain rfl:=Option.some.inj H
       have p5:0≤(x7_1:Int):=of_decide_eq_true (by first|(with_reducible assumption)|assumption)
       have q5:x7_1 < (a0.size:Int):=of_decide_eq_true (by first|(with_reducible assumption)|assumption)
       have hx5:=bt_at a0 x7_1
       replace p5:=eq_true p5
       replace q5:=eq_true q5
       go_wp2
       go_ret
       exact ⟨by first|rfl|(simp [errW_none,errW_some] <;> rfl)|(simp [*,errW_none,errW_some] <;> rfl),by repeat (first|(with_reducible first|exact HB.out|apply below_alloc|apply pw_below_drewN|apply below_drew1)|exact HB.out)⟩
      ·rw [if_neg c6] at H
       have c6b0:decide ((bt a0 x7_1) < 48)=false:=decide_eq_false c6
       clear c6
       by_cases c8:(bt a0 x7_1) > 57
       ·rw [if_pos c8] at H
        have c8b0:decide (57 < (bt a0 x7_1))=true:=decide_eq_true c8
        clear c8
        obtain rfl:=Option.some.inj H
        have p5:0≤(x7_1:Int):=of_decide_eq_true (by first|(with_reducible assumption)|assumption)
        have q5:x7_1 < (a0.size:Int):=of_decide_eq_true (by first|(with_reducible assumption)|assumption)
        have hx5:=bt_at a0 x7_1
        replace p5:=eq_true p5
        replace q5:=eq_true q5
        have p7:0≤(x7_1:Int):=of_decide_eq_true (by first|(with_reducible assumption)|assumption)
        have q7:x7_1 < (a0.size:Int):=of_decide_eq_true (by first|(with_reducible assumption)|assumption)
        have hx7:=bt_at a0 x7_1
        replace p7:=eq_true p7
        replace q7:=eq_true q7
        go_wp2
        go_ret
        exact ⟨by first|rfl|(simp [errW_none,errW_some] <;> rfl)|(simp [*,errW_none,errW_some] <;> rfl),by repeat (first|(with_reducible first|exact HB.out|apply below_alloc|apply pw_below_drewN|apply below_drew1)|exact HB.out)⟩
       ·rw [if_neg c8] at H
        have c8b0:decide (57 < (bt a0 x7_1))=false:=decide_eq_false c8
        clear c8
        obtain ⟨ji10,hji10⟩:∃ j_:Int,(mn (wrap64 ((wrap64 (10 * x3_1))+(((bt a0 x7_1) - 48) % 256))) 2147483647)=j_:=⟨_,rfl⟩
        replace H:(ctrl_Seconds.l0 k1 a0 ji10 (a0.size:Int) (wrap64 (x7_1+1)))=some r:=by first|(rw [hji10] at H;exact H)|(simp only [hji10] at H ⊢;exact H)
        have hji10_:(if 2147483647 < (wrap64 ((wrap64 (10 * x3_1))+(((bt a0 x7_1) - 48) % 256))) then 2147483647 else (wrap64 ((wrap64 (10 * x3_1))+(((bt a0 x7_1) - 48) % 256))))=ji10:=hji10
        have H':=mkA H
        clear H
        have p5:0≤(x7_1:Int):=of_decide_eq_true (by first|(with_reducible assumption)|assumption)
        have q5:x7_1 < (a0.size:Int):=of_decide_eq_true (by first|(with_reducible assumption)|assumption)
        have hx5:=bt_at a0 x7_1
        replace p5:=eq_true p5
        replace q5:=eq_true q5
        have p7:0≤(x7_1:Int):=of_decide_eq_true (by first|(with_reducible assumption)|assumption)
        have q7:x7_1 < (a0.size:Int):=of_decide_eq_true (by first|(with_reducible assumption)|assumption)
        have hx7:=bt_at a0 x7_1
        replace p7:=eq_true p7
        replace q7:=eq_true q7
        have p9:0≤(x7_1:Int):=of_decide_eq_true (by first|(with_reducible assumption)|assumption)
        have q9:x7_1 < (a0.size:Int):=of_decide_eq_true (by first|(with_reducible assumption)|assumption)
        have hx9:=bt_at a0 x7_1
        replace p9:=eq_true p9
        replace q9:=eq_true q9
        go_wp2
        go_roundg k1
        case measure=>have:=HK1.out;omega
        case rel=>exact ⟨(ji10),(wrap64 (x7_1+1)),(by first|rfl|(simp;done)|(simp only [← hji10] <;> (first|rfl|simp))|(simp [*];done)),(by first|rfl|(simp;done)|(simp [*];done)),H',⟨by have:=HK1.out;omega⟩,⟨by repeat (first|(with_reducible first|exact HB.out|apply below_alloc|apply pw_below_drewN|apply below_drew1)|exact HB.out)⟩⟩
     ·rw [if_neg c4] at H
      exact absurd H (by simp)
    ·rw [if_neg c3] at H
     exact absurd H (by simp)
   ·rw [if_neg c2] at H
    have c2b0:decide (x7_1 < (a0.size:Int))=false:=decide_eq_false c2
    clear c2
    by_cases c11:a0.toList=([]:List UInt8)
    ·rw [if_pos c11] at H
     have c11b0:(a0.toList == ([]:List UInt8))=true:=beq_iff_eq.mpr c11
     have c11b1:(a0.toList != ([]:List UInt8))=false:=bne_eq_false_iff_eq.mpr c11
     clear c11
     obtain rfl:=Option.some.inj H
     go_wp2
     go_ret
     exact ⟨by first|rfl|(simp [errW_none,errW_some] <;> rfl)|(simp [*,errW_none,errW_some] <;> rfl),by repeat (first|(with_reducible first|exact HB.out|apply below_alloc|apply pw_below_drewN|apply below_drew1)|exact HB.out)⟩
    ·rw [if_neg c11] at H
     have c11b0:(a0.toList == ([]:List UInt8))=false:=beq_eq_false_iff_ne.mpr c11
     have c11b1:(a0.toList != ([]:List UInt8))=true:=bne_iff_ne.mpr c11
     obtain rfl:=Option.some.inj H
     go_wp2
     go_ret
     exact ⟨by first|rfl|(simp [errW_none,errW_some] <;> rfl)|(simp [*,errW_none,errW_some] <;> rfl),by repeat (first|(with_reducible first|exact HB.out|apply below_alloc|apply pw_below_drewN|apply below_drew1)|exact HB.out)⟩
def ctrl_least.f(k:Nat)(a0:Int)(a1:ByteArray):Option (Int):=(ctrl_Seconds.f k a1).bind fun t130=>(if a0 ≥ 0 then (some (mn (mx t130 0) a0)) else (some (mx t130 0)))
set_option maxHeartbeats 8000000 in
set_option maxRecDepth 100000 in
theorem ctrl_least.calls(k:Nat)(a0:Int)(a1:ByteArray)(r:Int)(w:World)(h:ctrl_least.f k a0 a1=some r):
  Calls Tryz.prog 72 #[.int .i64 a0,.string a1] w fun e w'=>e=.returned (.int .i64 r)∧Below w.heap.size w w':=by
 have HB:=mkA (Below.refl w.heap.size w)
 have H:((ctrl_Seconds.f k a1).bind fun t130=>(if a0 ≥ 0 then (some (mn (mx t130 0) a0)) else (some (mx t130 0))))=some r:=h
 clear h
 replace H:=Option.bind_eq_some_iff.mp H
 obtain ⟨t130,A30,H⟩:=H
 replace H:(if a0 ≥ 0 then (some (mn (mx t130 0) a0)) else (some (mx t130 0)))=some r:=H
 have A3:=mkA A30
 clear A30
 obtain ⟨ji4,hji4⟩:∃ j_:Int,(mx t130 0)=j_:=⟨_,rfl⟩
 replace H:(if a0 ≥ 0 then (some (mn (ji4) a0)) else (some ji4))=some r:=by first|(rw [hji4] at H;exact H)|(simp only [hji4] at H ⊢;exact H)
 (try rw [hji4] at A3)
 (try (have hji4l:0≤ji4:=by (rw [← hji4];unfold mx;(repeat' split) <;> omega)))
 (try (have hji4m:0≤ji4:=by omega))
 have hji4_:(if t130 < 0 then 0 else t130)=ji4:=hji4
 by_cases c5:a0 ≥ 0
 ·rw [if_pos c5] at H
  have c5b0:decide (0≤a0)=true:=decide_eq_true c5
  clear c5
  obtain ⟨ji6,hji6⟩:∃ j_:Int,(mn (ji4) a0)=j_:=⟨_,rfl⟩
  replace H:(some ji6)=some r:=by first|(rw [hji6] at H;exact H)|(simp only [hji6] at H ⊢;exact H)
  (try rw [hji6] at A3)
  have hji6_:(if a0 < (ji4) then a0 else (ji4))=ji6:=hji6
  obtain rfl:=Option.some.inj H
  go_enter Tryz.func72,Tryz.ntmps72
  go_wp2_with (first|((with_reducible refine gate_callee (f:=88) rfl ?_);refine goesL_ (some 7) rfl rfl Tryz.func88 (by kernel_rfl) rfl #[.string a1] rfl (by (try simp only [List.map_toArray,List.map_cons,List.map_nil]);first|done|rfl|(simp only [List.length_drop,List.length_take];rfl)) ?_;(with_reducible refine (ctrl_Seconds.calls k a1 t130 _ A3.out).mono ?_);rintro e w7 ⟨rfl,hb⟩;refine ⟨_,rfl,?_⟩;have n0_:=mkA (below_step (by repeat (first|(with_reducible first|exact HB.out|apply below_alloc|apply pw_below_drewN|apply below_drew1)|exact HB.out)) hb);clear HB;have HB:=n0_;clear n0_;(try clear hb);(try clear hb2);(try clear hk);(try clear hi)))
  go_ret
  exact ⟨by first|rfl|(simp [errW_none,errW_some] <;> rfl)|(simp only [← hji4,← hji6];first|rfl|(simp [errW_none,errW_some] <;> rfl))|(simp [*,errW_none,errW_some] <;> rfl),by repeat (first|(with_reducible first|exact HB.out|apply below_alloc|apply pw_below_drewN|apply below_drew1)|exact HB.out)⟩
 ·rw [if_neg c5] at H
  have c5b0:decide (0≤a0)=false:=decide_eq_false c5
  clear c5
  obtain rfl:=Option.some.inj H
  go_enter Tryz.func72,Tryz.ntmps72
  go_wp2_with (first|((with_reducible refine gate_callee (f:=88) rfl ?_);refine goesL_ (some 7) rfl rfl Tryz.func88 (by kernel_rfl) rfl #[.string a1] rfl (by (try simp only [List.map_toArray,List.map_cons,List.map_nil]);first|done|rfl|(simp only [List.length_drop,List.length_take];rfl)) ?_;(with_reducible refine (ctrl_Seconds.calls k a1 t130 _ A3.out).mono ?_);rintro e w8 ⟨rfl,hb⟩;refine ⟨_,rfl,?_⟩;have n0_:=mkA (below_step (by repeat (first|(with_reducible first|exact HB.out|apply below_alloc|apply pw_below_drewN|apply below_drew1)|exact HB.out)) hb);clear HB;have HB:=n0_;clear n0_;(try clear hb);(try clear hb2);(try clear hk);(try clear hi)))
  go_ret
  exact ⟨by first|rfl|(simp [errW_none,errW_some] <;> rfl)|(simp only [← hji4];first|rfl|(simp [errW_none,errW_some] <;> rfl))|(simp [*,errW_none,errW_some] <;> rfl),by repeat (first|(with_reducible first|exact HB.out|apply below_alloc|apply pw_below_drewN|apply below_drew1)|exact HB.out)⟩
def head_Get.l0:Nat→ByteArray→List (S41)→Int→Int→Option (ByteArray × Bool)
 |0,_,_,_,_=>none
 |k+1,x1,x8,x9,x10=>if x10 < x9 then (if 0≤x10 then (if x10 < (x8.length:Int) then ((head_Same.f k ((rd_T41 x8 x10).f0) x1).bind fun t133=>(if t133=true then (some ((rd_T41 x8 x10).f1,true)) else (head_Get.l0 k x1 x8 x9 (wrap64 (x10+1))))) else (none)) else (none)) else (some ((⟨#[]⟩:ByteArray),false))
def head_Get.f(k:Nat)(l0:List (S41))(a1:ByteArray):Option (ByteArray × Bool):=head_Get.l0 k a1 l0 (l0.length:Int) 0
set_option maxHeartbeats 8000000 in
set_option maxRecDepth 100000 in
theorem head_Get.calls(k:Nat)(A0:Option Addr)(c0:Nat)(l0:List (S41))(a1:ByteArray)(r1:ByteArray)(r2:Bool)(w:World)(hr0:Kd.C k41 w A0 l0.length l0)(hc0:l0.length≤c0)(h:head_Get.f k l0 a1=some (r1,r2)):
  Calls Tryz.prog 19 #[.slice A0 l0.length c0,.string a1] w fun e w'=>e=.returned (.tuple #[.string r1,.bool r2])∧Below w.heap.size w w':=by
 have hu41:=Tryz.underlying41
 have HR0:=mkA hr0
 have HC0:=mkA hc0
 clear hr0 hc0
 have HB:=mkA (Below.refl w.heap.size w)
 have H:(head_Get.l0 k a1 l0 (l0.length:Int) 0)=some (r1,r2):=h
 clear h
 have H':=mkA H
 clear H
 go_enter Tryz.func19,Tryz.ntmps19
 go_wp2
 go_loopg [10] k (fun kq v10 w'=>∃ (x10_1:Int),v10=.int .i64 x10_1∧Aside0 (head_Get.l0 kq a1 l0 (l0.length:Int) x10_1=some (r1,r2))∧Aside0 (kq≤k)∧Aside0 (Below w.heap.size w w'))
 case atStart=>exact ⟨(0),(by first|rfl|(simp;done)|(simp [*];done)),H',⟨Nat.le_refl _⟩,⟨by repeat (first|(with_reducible first|exact HB.out|apply below_alloc|apply pw_below_drewN|apply below_drew1)|exact HB.out)⟩⟩
 case round=>
  clear H'
  try clear c1
  try clear p2
  obtain ⟨x10_1,rfl,HA,HK1,HB⟩:=hrel
  cases gk with
  |zero=>exact absurd HA.out (by simp [head_Get.l0])
  |succ k1=>
   have H:=HA.out
   clear HA
   simp only [head_Get.l0] at H
   by_cases c3:x10_1 < (l0.length:Int)
   ·rw [if_pos c3] at H
    have c3b0:decide (x10_1 < (l0.length:Int))=true:=decide_eq_true c3
    clear c3
    by_cases c4:0≤x10_1
    ·rw [if_pos c4] at H
     have c4b0:decide (0≤x10_1)=true:=decide_eq_true c4
     clear c4
     by_cases c5:x10_1 < (l0.length:Int)
     ·rw [if_pos c5] at H
      have c5b0:decide (x10_1 < (l0.length:Int))=true:=decide_eq_true c5
      clear c5
      replace H:=Option.bind_eq_some_iff.mp H
      obtain ⟨t133,A60,H⟩:=H
      replace H:(if t133=true then (some ((rd_T41 l0 x10_1).f1,true)) else (head_Get.l0 k1 a1 l0 (l0.length:Int) (wrap64 (x10_1+1))))=some (r1,r2):=H
      have A6:=mkA A60
      clear A60
      by_cases c7:t133=true
      ·subst c7
       have H1:(some ((rd_T41 l0 x10_1).f1,true))=some (r1,r2):=by rw [if_pos rfl] at H;exact H
       clear H
       have H:=H1
       clear H1
       simp only [Option.some.injEq,Prod.mk.injEq] at H
       obtain ⟨rfl,rfl⟩:=H
       have p131:0≤(x10_1:Int):=of_decide_eq_true (by first|(with_reducible assumption)|assumption)
       have q131:x10_1 < (l0.length:Int):=of_decide_eq_true (by first|(with_reducible assumption)|assumption)
       obtain ⟨ad131,e131,hx131_0,hx131_1⟩:=at_T41 HR0.out x10_1 p131 q131
       cases e131
       replace hx131_0:=(HB.out.cell (World.block_lt_of_cell? w _ hx131_0)).trans hx131_0
       replace hx131_1:=(HB.out.cell (World.block_lt_of_cell? w _ hx131_1)).trans hx131_1
       replace p131:=eq_true p131
       replace q131:=eq_true q131
       go_wp2_with (first|((with_reducible refine gate_dst (N:=7) rfl ?_);refine box_event ?hg (N:=7) ?hd (cs:=#[.string (⟨#[]⟩:ByteArray),.string (⟨#[]⟩:ByteArray)]) (t:=41) ?hr ?_;(case hd=>rfl);(case hg=>rfl);(case hr=>first|(go_simp;done)|(go_simp;rfl));intro gb132 hg w8 hbox hb;have n0_:=mkA (below_step (by repeat (first|(with_reducible first|exact HB.out|apply below_alloc|apply pw_below_drewN|apply below_drew1)|exact HB.out)) hb);have n1_:=mkA (hbox);have n2_:=mkA ((by rw [hg];exact (below_size (by repeat (first|(with_reducible first|exact HB.out|apply below_alloc|apply pw_below_drewN|apply below_drew1)|exact HB.out))):w.heap.size≤gb132));have n3_:=mkA ((by rw [hg];exact (below_size (by repeat (first|(with_reducible first|exact HB.out|apply below_alloc|apply pw_below_drewN|apply below_drew1)|exact HB.out))):w.heap.size≤gb132));clear HB;have HB:=n0_;have BK132:=n1_;have GW132:=n2_;have GE132:=n3_;clear n0_ n1_ n2_ n3_;clear hb hbox hg;have hcz9_0:w8.cell? ⟨gb132,0,none⟩=some (.string (⟨#[]⟩:ByteArray)):=(blk_cell BK132.out 0).trans rfl;have hcz9_1:w8.cell? ⟨gb132,1,none⟩=some (.string (⟨#[]⟩:ByteArray)):=(blk_cell BK132.out 1).trans rfl;have hfz9_0:=blk_frozen BK132.out 0;have hfz9_1:=blk_frozen BK132.out 1)|((with_reducible refine gate_callee (f:=47) rfl ?_);refine goesL_ (some 17) rfl rfl Tryz.func47 (by kernel_rfl) rfl #[.string ((rd_T41 l0 x10_1).f0),.string a1] rfl (by (try simp only [List.map_toArray,List.map_cons,List.map_nil]);first|done|rfl|(simp only [List.length_drop,List.length_take];rfl)) ?_;(with_reducible refine (head_Same.calls k1 ((rd_T41 l0 x10_1).f0) a1 true _ A6.out).mono ?_);rintro e w' ⟨rfl,⟨nd,rfl⟩⟩;refine ⟨_,rfl,?_⟩))
       go_ret2
       exact ⟨by first|rfl|(simp [errW_none,errW_some] <;> rfl)|(simp [*,errW_none,errW_some] <;> rfl),by repeat (first|(with_reducible first|exact HB.out|apply below_alloc|apply pw_below_drewN|apply below_drew1|refine below_set ?_ GE132.out)|exact HB.out)⟩
      ·replace c7:=Bool.eq_false_iff.mpr c7
       subst c7
       have H1:(head_Get.l0 k1 a1 l0 (l0.length:Int) (wrap64 (x10_1+1)))=some (r1,r2):=by rw [if_neg (show ¬ (false=true) by decide)] at H;exact H
       clear H
       have H:=H1
       clear H1
       have H':=mkA H
       clear H
       have p131:0≤(x10_1:Int):=of_decide_eq_true (by first|(with_reducible assumption)|assumption)
       have q131:x10_1 < (l0.length:Int):=of_decide_eq_true (by first|(with_reducible assumption)|assumption)
       obtain ⟨ad131,e131,hx131_0,hx131_1⟩:=at_T41 HR0.out x10_1 p131 q131
       cases e131
       replace hx131_0:=(HB.out.cell (World.block_lt_of_cell? w _ hx131_0)).trans hx131_0
       replace hx131_1:=(HB.out.cell (World.block_lt_of_cell? w _ hx131_1)).trans hx131_1
       replace p131:=eq_true p131
       replace q131:=eq_true q131
       go_wp2_with (first|((with_reducible refine gate_dst (N:=7) rfl ?_);refine box_event ?hg (N:=7) ?hd (cs:=#[.string (⟨#[]⟩:ByteArray),.string (⟨#[]⟩:ByteArray)]) (t:=41) ?hr ?_;(case hd=>rfl);(case hg=>rfl);(case hr=>first|(go_simp;done)|(go_simp;rfl));intro gb132 hg w10 hbox hb;have n0_:=mkA (below_step (by repeat (first|(with_reducible first|exact HB.out|apply below_alloc|apply pw_below_drewN|apply below_drew1)|exact HB.out)) hb);have n1_:=mkA (hbox);have n2_:=mkA ((by rw [hg];exact (below_size (by repeat (first|(with_reducible first|exact HB.out|apply below_alloc|apply pw_below_drewN|apply below_drew1)|exact HB.out))):w.heap.size≤gb132));have n3_:=mkA ((by rw [hg];exact (below_size (by repeat (first|(with_reducible first|exact HB.out|apply below_alloc|apply pw_below_drewN|apply below_drew1)|exact HB.out))):w.heap.size≤gb132));clear HB;have HB:=n0_;have BK132:=n1_;have GW132:=n2_;have GE132:=n3_;clear n0_ n1_ n2_ n3_;clear hb hbox hg;have hcz11_0:w10.cell? ⟨gb132,0,none⟩=some (.string (⟨#[]⟩:ByteArray)):=(blk_cell BK132.out 0).trans rfl;have hcz11_1:w10.cell? ⟨gb132,1,none⟩=some (.string (⟨#[]⟩:ByteArray)):=(blk_cell BK132.out 1).trans rfl;have hfz11_0:=blk_frozen BK132.out 0;have hfz11_1:=blk_frozen BK132.out 1)|((with_reducible refine gate_callee (f:=47) rfl ?_);refine goesL_ (some 17) rfl rfl Tryz.func47 (by kernel_rfl) rfl #[.string ((rd_T41 l0 x10_1).f0),.string a1] rfl (by (try simp only [List.map_toArray,List.map_cons,List.map_nil]);first|done|rfl|(simp only [List.length_drop,List.length_take];rfl)) ?_;(with_reducible refine (head_Same.calls k1 ((rd_T41 l0 x10_1).f0) a1 false _ A6.out).mono ?_);rintro e w' ⟨rfl,⟨nd,rfl⟩⟩;refine ⟨_,rfl,?_⟩))
       go_roundg k1
       case measure=>have:=HK1.out;omega
       case rel=>exact ⟨(wrap64 (x10_1+1)),(by first|rfl|(simp;done)|(simp [*];done)),H',⟨by have:=HK1.out;omega⟩,⟨by repeat (first|(with_reducible first|exact HB.out|apply below_alloc|apply pw_below_drewN|apply below_drew1|refine below_set ?_ GE132.out)|exact HB.out)⟩⟩
     ·rw [if_neg c5] at H
      exact absurd H (by simp)
    ·rw [if_neg c4] at H
     exact absurd H (by simp)
   ·rw [if_neg c3] at H
    have c3b0:decide (x10_1 < (l0.length:Int))=false:=decide_eq_false c3
    clear c3
    simp only [Option.some.injEq,Prod.mk.injEq] at H
    obtain ⟨rfl,rfl⟩:=H
    go_wp2
    go_ret2
    exact ⟨by first|rfl|(simp [errW_none,errW_some] <;> rfl)|(simp [*,errW_none,errW_some] <;> rfl),by repeat (first|(with_reducible first|exact HB.out|apply below_alloc|apply pw_below_drewN|apply below_drew1)|exact HB.out)⟩
end Go.Proofs.YtlnmnjbihgaliaaGreat.Pr
