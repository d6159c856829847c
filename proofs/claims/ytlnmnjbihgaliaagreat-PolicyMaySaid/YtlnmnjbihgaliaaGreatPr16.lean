import Derived.Test.YtlnmnjbihgaliaaGreatPr0
import Derived.Test.YtlnmnjbihgaliaaGreatPr7
import Derived.Test.YtlnmnjbihgaliaaGreatPr8
import Derived.Test.YtlnmnjbihgaliaaGreatPr14
import Derived.Test.YtlnmnjbihgaliaaGreatPr15
import Derived.Test.YtlnmnjbihgaliaaGreatValW
set_option linter.unusedVariables false
set_option linter.unusedSimpArgs false
namespace Go.Proofs.YtlnmnjbihgaliaaGreat.Pr
open Go.RowKit Go.Proofs.YtlnmnjbihgaliaaGreatW.PrintWords Go.Proofs.YtlnmnjbihgaliaaGreatW.PrintLast Go.Proofs.YtlnmnjbihgaliaaGreatW.PrintMore
attribute [local go_sem] max2_int min2_int max_two min_two max_three min_three max_four min_four
mutual
def ambryref13_Control.l0:Nat→List (S41)→List ByteArray→Int→Bool→Bool→Bool→Bool→Bool→Bool→Bool→Bool→Int→Int→Int→Int→Option (Bool × Bool × Bool × Bool × Bool × Bool × Bool × Bool × Int × Int × Int × Int)
 |0,_,_,_,_,_,_,_,_,_,_,_,_,_,_,_=>none
 |k+1,x0,x4,x5,x218000,x218001,x218002,x218003,x218004,x218005,x218006,x218007,x218008,x218009,x218010,x218011=>if x5 < (x4.length:Int) then (if 0≤x5 then ((ambryref13_value.f k (rdOf ByteArray.empty x4 x5)).bind fun bt222=>(if bt222.1.toList=([110,111,45,115,116,111,114,101]:List UInt8) then (ambryref13_Control.l0 k x0 x4 (wrap64 (x5+1)) true x218001 x218002 x218003 x218004 x218005 x218006 x218007 x218008 x218009 x218010 x218011) else (if bt222.1.toList=([110,111,45,99,97,99,104,101]:List UInt8) then (ambryref13_Control.l0 k x0 x4 (wrap64 (x5+1)) x218000 true x218002 x218003 x218004 x218005 x218006 x218007 x218008 x218009 x218010 x218011) else (if bt222.1.toList=([112,114,105,118,97,116,101]:List UInt8) then (ambryref13_Control.l0 k x0 x4 (wrap64 (x5+1)) x218000 x218001 true x218003 x218004 x218005 x218006 x218007 x218008 x218009 x218010 x218011) else (if bt222.1.toList=([112,117,98,108,105,99]:List UInt8) then (ambryref13_Control.l0 k x0 x4 (wrap64 (x5+1)) x218000 x218001 x218002 true x218004 x218005 x218006 x218007 x218008 x218009 x218010 x218011) else (if bt222.1.toList=([109,117,115,116,45,114,101,118,97,108,105,100,97,116,101]:List UInt8) then (ambryref13_Control.l0 k x0 x4 (wrap64 (x5+1)) x218000 x218001 x218002 x218003 true x218005 x218006 x218007 x218008 x218009 x218010 x218011) else (if bt222.1.toList=([112,114,111,120,121,45,114,101,118,97,108,105,100,97,116,101]:List UInt8) then (ambryref13_Control.l0 k x0 x4 (wrap64 (x5+1)) x218000 x218001 x218002 x218003 x218004 true x218006 x218007 x218008 x218009 x218010 x218011) else (if bt222.1.toList=([111,110,108,121,45,105,102,45,99,97,99,104,101,100]:List UInt8) then (ambryref13_Control.l0 k x0 x4 (wrap64 (x5+1)) x218000 x218001 x218002 x218003 x218004 x218005 true x218007 x218008 x218009 x218010 x218011) else (if bt222.1.toList=([109,97,120,45,97,103,101]:List UInt8) then ((ambryref13_least.f k x218008 bt222.2.1).bind fun t225=>(ambryref13_Control.l0 k x0 x4 (wrap64 (x5+1)) x218000 x218001 x218002 x218003 x218004 x218005 x218006 x218007 t225 x218009 x218010 x218011)) else (if bt222.1.toList=([115,45,109,97,120,97,103,101]:List UInt8) then ((ambryref13_least.f k x218009 bt222.2.1).bind fun t226=>(ambryref13_Control.l0 k x0 x4 (wrap64 (x5+1)) x218000 x218001 x218002 x218003 x218004 x218005 x218006 x218007 x218008 t226 x218010 x218011)) else (if bt222.1.toList=([109,105,110,45,102,114,101,115,104]:List UInt8) then ((ambryref13_least.f k x218010 bt222.2.1).bind fun t227=>(ambryref13_Control.l0 k x0 x4 (wrap64 (x5+1)) x218000 x218001 x218002 x218003 x218004 x218005 x218006 x218007 x218008 x218009 t227 x218011)) else (if bt222.1.toList=([109,97,120,45,115,116,97,108,101]:List UInt8) then (if bt222.2.2=true then ((ambryref13_least.f k x218011 bt222.2.1).bind fun t228=>(ambryref13_Control.l0 k x0 x4 (wrap64 (x5+1)) x218000 x218001 x218002 x218003 x218004 x218005 x218006 x218007 x218008 x218009 x218010 t228)) else (ambryref13_Control.l0 k x0 x4 (wrap64 (x5+1)) x218000 x218001 x218002 x218003 x218004 x218005 x218006 true x218008 x218009 x218010 x218011)) else (ambryref13_Control.l0 k x0 x4 (wrap64 (x5+1)) x218000 x218001 x218002 x218003 x218004 x218005 x218006 x218007 x218008 x218009 x218010 x218011))))))))))))) else (none)) else ((ambryref10_Get.f k x0 (⟨#[67,97,99,104,101,45,67,111,110,116,114,111,108]⟩:ByteArray)).bind fun bt229=>(if bt229.2=true then (some (x218000,x218001,x218002,x218003,x218004,x218005,x218006,x218007,x218008,x218009,x218010,x218011)) else ((ambryref10_List.f k x0 (⟨#[80,114,97,103,109,97]⟩:ByteArray)).bind fun t231=>(ambryref13_Control.l1 k t231 0 x218000 x218001 x218002 x218003 x218004 x218005 x218006 x218007 x218008 x218009 x218010 x218011))))
def ambryref13_Control.l1:Nat→List ByteArray→Int→Bool→Bool→Bool→Bool→Bool→Bool→Bool→Bool→Int→Int→Int→Int→Option (Bool × Bool × Bool × Bool × Bool × Bool × Bool × Bool × Int × Int × Int × Int)
 |0,_,_,_,_,_,_,_,_,_,_,_,_,_,_=>none
 |k+1,x11,x12,x218000,x218001,x218002,x218003,x218004,x218005,x218006,x218007,x218008,x218009,x218010,x218011=>if x12 < (x11.length:Int) then (if x218001=true then (ambryref13_Control.l1 k x11 (wrap64 (x12+1)) x218000 true x218002 x218003 x218004 x218005 x218006 x218007 x218008 x218009 x218010 x218011) else (if 0≤x12 then ((ambryref10_Same.f (rdOf ByteArray.empty x11 x12) (⟨#[110,111,45,99,97,99,104,101]⟩:ByteArray)).bind fun t235=>(ambryref13_Control.l1 k x11 (wrap64 (x12+1)) x218000 t235 x218002 x218003 x218004 x218005 x218006 x218007 x218008 x218009 x218010 x218011)) else (none))) else (some (x218000,x218001,x218002,x218003,x218004,x218005,x218006,x218007,x218008,x218009,x218010,x218011))
end
def ambryref13_Control.f(k:Nat)(l0:List (S41)):Option (Bool × Bool × Bool × Bool × Bool × Bool × Bool × Bool × Int × Int × Int × Int):=(ambryref10_List.f k l0 (⟨#[67,97,99,104,101,45,67,111,110,116,114,111,108]⟩:ByteArray)).bind fun t218=>(ambryref13_Control.l0 k l0 t218 0 false false false false false false false false (-1) (-1) (-1) (-1))
set_option maxHeartbeats 8000000 in
set_option maxRecDepth 100000 in
theorem ambryref13_Control.calls(k:Nat)(A0:Option Addr)(c0:Nat)(l0:List (S41))(r1:Bool)(r2:Bool)(r3:Bool)(r4:Bool)(r5:Bool)(r6:Bool)(r7:Bool)(r8:Bool)(r9:Int)(r10:Int)(r11:Int)(r12:Int)(w:World)(hr0:Kd.C k41 w A0 l0.length l0)(hc0:l0.length≤c0)(h:ambryref13_Control.f k l0=some (r1,r2,r3,r4,r5,r6,r7,r8,r9,r10,r11,r12)):
  Calls Tryz.prog 31 #[.slice A0 l0.length c0] w fun e w'=>e=.returned (.agg #[.bool r1,.bool r2,.bool r3,.bool r4,.bool r5,.bool r6,.bool r7,.bool r8,.int .i64 r9,.int .i64 r10,.int .i64 r11,.int .i64 r12])∧Below w.heap.size w w':=by
 have hu51:=Tryz.underlying51
 have HR0:=mkA hr0
 have HC0:=mkA hc0
 clear hr0 hc0
 have HB:=mkA (Below.refl w.heap.size w)
 have H:((ambryref10_List.f k l0 (⟨#[67,97,99,104,101,45,67,111,110,116,114,111,108]⟩:ByteArray)).bind fun t218=>(ambryref13_Control.l0 k l0 t218 0 false false false false false false false false (-1) (-1) (-1) (-1)))=some (r1,r2,r3,r4,r5,r6,r7,r8,r9,r10,r11,r12):=h
 clear h
 replace H:=Option.bind_eq_some_iff.mp H
 obtain ⟨t218,A20,H⟩:=H
 replace H:(ambryref13_Control.l0 k l0 t218 0 false false false false false false false false (-1) (-1) (-1) (-1))=some (r1,r2,r3,r4,r5,r6,r7,r8,r9,r10,r11,r12):=H
 have A2:=mkA A20
 clear A20
 have H':=mkA H
 clear H
 go_enter Tryz.func31,Tryz.ntmps31
 go_wp2_with (first|((with_reducible refine gate_dst (N:=2) rfl ?_);refine box_event ?hg (N:=2) ?hd (cs:=#[.bool false,.bool false,.bool false,.bool false,.bool false,.bool false,.bool false,.bool false,.int .i64 0,.int .i64 0,.int .i64 0,.int .i64 0]) (t:=51) ?hr ?_;(case hd=>rfl);(case hg=>rfl);(case hr=>first|(go_simp;done)|(go_simp;rfl));intro gb216 hg w3 hbox hb;have n0_:=mkA (below_step (by repeat (first|(with_reducible first|exact HB.out|apply below_alloc|apply pw_below_drewN|apply below_drew1)|exact HB.out)) hb);have n1_:=mkA (hbox);have n2_:=mkA ((by rw [hg];exact (below_size (by repeat (first|(with_reducible first|exact HB.out|apply below_alloc|apply pw_below_drewN|apply below_drew1)|exact HB.out))):w.heap.size≤gb216));have n3_:=mkA ((by rw [hg];exact (below_size (by repeat (first|(with_reducible first|exact HB.out|apply below_alloc|apply pw_below_drewN|apply below_drew1)|exact HB.out))):w.heap.size≤gb216));clear HB;have HB:=n0_;have BK216:=n1_;have GW216:=n2_;have GE216:=n3_;clear n0_ n1_ n2_ n3_;clear hb hbox hg)|((with_reducible refine gate_dst (N:=3) rfl ?_);refine box_event ?hg (N:=3) ?hd (cs:=#[.bool false,.bool false,.bool false,.bool false,.bool false,.bool false,.bool false,.bool false,.int .i64 0,.int .i64 0,.int .i64 0,.int .i64 0]) (t:=51) ?hr ?_;(case hd=>rfl);(case hg=>rfl);(case hr=>first|(go_simp;done)|(go_simp;rfl));intro gb217 hg w4 hbox hb;have n0_:=mkA (blk_below (g:=gb216) (o:=.cells #[.bool false,.bool false,.bool false,.bool false,.bool false,.bool false,.bool false,.bool false,.int .i64 0,.int .i64 0,.int .i64 0,.int .i64 0] 51 (0,0)) (by (with_reducible repeat (first|refine blk_drewN ?_ _|refine blk_drew ?_|refine blk_alloc ?_ _));exact BK216.out) hb);have n1_:=mkA (below_step (by repeat (first|(with_reducible first|exact HB.out|apply below_alloc|apply pw_below_drewN|apply below_drew1|refine below_set ?_ GE216.out)|exact HB.out)) hb);have n2_:=mkA (hbox);have n3_:=mkA ((by rw [hg];exact (below_size (by repeat (first|(with_reducible first|exact HB.out|apply below_alloc|apply pw_below_drewN|apply below_drew1|refine below_set ?_ GE216.out)|exact HB.out))):w.heap.size≤gb217));have n4_:=mkA ((by rw [hg];exact (below_size (by repeat (first|(with_reducible first|exact HB.out|apply below_alloc|apply pw_below_drewN|apply below_drew1|refine below_set ?_ GE216.out)|exact HB.out))):w.heap.size≤gb217));have n5_:=mkA ((by rw [hg];exact Nat.ne_of_lt (blk_lt (g:=gb216) (o:=.cells #[.bool false,.bool false,.bool false,.bool false,.bool false,.bool false,.bool false,.bool false,.int .i64 0,.int .i64 0,.int .i64 0,.int .i64 0] 51 (0,0)) (by (with_reducible repeat (first|refine blk_drewN ?_ _|refine blk_drew ?_|refine blk_alloc ?_ _));exact BK216.out)):gb216≠gb217));have n6_:=mkA ((by rw [hg];exact Nat.ne_of_gt (blk_lt (g:=gb216) (o:=.cells #[.bool false,.bool false,.bool false,.bool false,.bool false,.bool false,.bool false,.bool false,.int .i64 0,.int .i64 0,.int .i64 0,.int .i64 0] 51 (0,0)) (by (with_reducible repeat (first|refine blk_drewN ?_ _|refine blk_drew ?_|refine blk_alloc ?_ _));exact BK216.out)):gb217≠gb216));clear BK216;clear HB;have BK216:=n0_;have HB:=n1_;have BK217:=n2_;have GW217:=n3_;have GE217:=n4_;have NB216_217:=n5_;have NB217_216:=n6_;clear n0_ n1_ n2_ n3_ n4_ n5_ n6_;clear hb hbox hg;have hnb5:=NB217_216.out;have hnc5:=NB216_217.out;have hcz6_0:w4.cell? ⟨gb217,0,none⟩=some (.bool false):=(blk_cell BK217.out 0).trans rfl;have hcz6_1:w4.cell? ⟨gb217,1,none⟩=some (.bool false):=(blk_cell BK217.out 1).trans rfl;have hcz6_2:w4.cell? ⟨gb217,2,none⟩=some (.bool false):=(blk_cell BK217.out 2).trans rfl;have hcz6_3:w4.cell? ⟨gb217,3,none⟩=some (.bool false):=(blk_cell BK217.out 3).trans rfl;have hcz6_4:w4.cell? ⟨gb217,4,none⟩=some (.bool false):=(blk_cell BK217.out 4).trans rfl;have hcz6_5:w4.cell? ⟨gb217,5,none⟩=some (.bool false):=(blk_cell BK217.out 5).trans rfl;have hcz6_6:w4.cell? ⟨gb217,6,none⟩=some (.bool false):=(blk_cell BK217.out 6).trans rfl;have hcz6_7:w4.cell? ⟨gb217,7,none⟩=some (.bool false):=(blk_cell BK217.out 7).trans rfl;have hcz6_8:w4.cell? ⟨gb217,8,none⟩=some (.int .i64 0):=(blk_cell BK217.out 8).trans rfl;have hcz6_9:w4.cell? ⟨gb217,9,none⟩=some (.int .i64 0):=(blk_cell BK217.out 9).trans rfl;have hcz6_10:w4.cell? ⟨gb217,10,none⟩=some (.int .i64 0):=(blk_cell BK217.out 10).trans rfl;have hcz6_11:w4.cell? ⟨gb217,11,none⟩=some (.int .i64 0):=(blk_cell BK217.out 11).trans rfl;have hfz6_0:=blk_frozen BK217.out 0;have hfz6_1:=blk_frozen BK217.out 1;have hfz6_2:=blk_frozen BK217.out 2;have hfz6_3:=blk_frozen BK217.out 3;have hfz6_4:=blk_frozen BK217.out 4;have hfz6_5:=blk_frozen BK217.out 5;have hfz6_6:=blk_frozen BK217.out 6;have hfz6_7:=blk_frozen BK217.out 7;have hfz6_8:=blk_frozen BK217.out 8;have hfz6_9:=blk_frozen BK217.out 9;have hfz6_10:=blk_frozen BK217.out 10;have hfz6_11:=blk_frozen BK217.out 11)|((with_reducible refine gate_callee (f:=55) rfl ?_);refine goesL_ (some 15) rfl rfl Tryz.func55 (by kernel_rfl) rfl #[.slice A0 l0.length c0,.string (⟨#[67,97,99,104,101,45,67,111,110,116,114,111,108]⟩:ByteArray)] rfl (by (try simp only [List.map_toArray,List.map_cons,List.map_nil]);first|done|rfl|(simp only [List.length_drop,List.length_take];rfl)) ?_;(with_reducible refine (ambryref10_List.calls k _ _ l0 (⟨#[67,97,99,104,101,45,67,111,110,116,114,111,108]⟩:ByteArray) t218 _ ?side1 ?side2 A2.out).mono ?_);(case side1=>exact Kd.C_below HR0.out (by repeat (first|(with_reducible first|exact HB.out|apply below_alloc|apply pw_below_drewN|apply below_drew1|refine below_set ?_ GE216.out|refine below_set ?_ GE217.out)|exact HB.out)));(case side2=>exact HC0.out);rintro e w7 ⟨v219,rfl,ho0,hb⟩;refine ⟨_,rfl,?_⟩;have n0_:=mkA (Kd.R_lower ho0 (below_size (by repeat (first|(with_reducible first|exact HB.out|apply below_alloc|apply pw_below_drewN|apply below_drew1|refine below_set ?_ GE216.out|refine below_set ?_ GE217.out)|exact HB.out))));have n1_:=mkA (blk_below (g:=gb216) (o:=.cells #[.bool false,.bool false,.bool false,.bool false,.bool false,.bool false,.bool false,.bool false,.int .i64 0,.int .i64 0,.int .i64 0,.int .i64 0] 51 (0,0)) (by (with_reducible repeat (first|refine blk_drewN ?_ _|refine blk_drew ?_|refine blk_alloc ?_ _));refine blk_far ?_ NB216_217.out _;(with_reducible repeat (first|refine blk_drewN ?_ _|refine blk_drew ?_|refine blk_alloc ?_ _));refine blk_far ?_ NB216_217.out _;(with_reducible repeat (first|refine blk_drewN ?_ _|refine blk_drew ?_|refine blk_alloc ?_ _));refine blk_far ?_ NB216_217.out _;(with_reducible repeat (first|refine blk_drewN ?_ _|refine blk_drew ?_|refine blk_alloc ?_ _));refine blk_far ?_ NB216_217.out _;(with_reducible repeat (first|refine blk_drewN ?_ _|refine blk_drew ?_|refine blk_alloc ?_ _));refine blk_far ?_ NB216_217.out _;(with_reducible repeat (first|refine blk_drewN ?_ _|refine blk_drew ?_|refine blk_alloc ?_ _));refine blk_far ?_ NB216_217.out _;(with_reducible repeat (first|refine blk_drewN ?_ _|refine blk_drew ?_|refine blk_alloc ?_ _));refine blk_far ?_ NB216_217.out _;(with_reducible repeat (first|refine blk_drewN ?_ _|refine blk_drew ?_|refine blk_alloc ?_ _));refine blk_far ?_ NB216_217.out _;(with_reducible repeat (first|refine blk_drewN ?_ _|refine blk_drew ?_|refine blk_alloc ?_ _));refine blk_far ?_ NB216_217.out _;(with_reducible repeat (first|refine blk_drewN ?_ _|refine blk_drew ?_|refine blk_alloc ?_ _));refine blk_far ?_ NB216_217.out _;(with_reducible repeat (first|refine blk_drewN ?_ _|refine blk_drew ?_|refine blk_alloc ?_ _));refine blk_far ?_ NB216_217.out _;(with_reducible repeat (first|refine blk_drewN ?_ _|refine blk_drew ?_|refine blk_alloc ?_ _));refine blk_far ?_ NB216_217.out _;(with_reducible repeat (first|refine blk_drewN ?_ _|refine blk_drew ?_|refine blk_alloc ?_ _));exact BK216.out) hb);have n2_:=mkA (blk_below (g:=gb217) (o:=.cells #[.bool false,.bool false,.bool false,.bool false,.bool false,.bool false,.bool false,.bool false,.int .i64 (-1),.int .i64 (-1),.int .i64 (-1),.int .i64 (-1)] 51 (0,0)) (by (with_reducible repeat (first|refine blk_drewN ?_ _|refine blk_drew ?_|refine blk_alloc ?_ _));refine blk_put (cs:=#[.bool false,.bool false,.bool false,.bool false,.bool false,.bool false,.bool false,.bool false,.int .i64 (-1),.int .i64 (-1),.int .i64 (-1),.int .i64 0]) ?_ 11 _ rfl;(with_reducible repeat (first|refine blk_drewN ?_ _|refine blk_drew ?_|refine blk_alloc ?_ _));refine blk_put (cs:=#[.bool false,.bool false,.bool false,.bool false,.bool false,.bool false,.bool false,.bool false,.int .i64 (-1),.int .i64 (-1),.int .i64 0,.int .i64 0]) ?_ 10 _ rfl;(with_reducible repeat (first|refine blk_drewN ?_ _|refine blk_drew ?_|refine blk_alloc ?_ _));refine blk_put (cs:=#[.bool false,.bool false,.bool false,.bool false,.bool false,.bool false,.bool false,.bool false,.int .i64 (-1),.int .i64 0,.int .i64 0,.int .i64 0]) ?_ 9 _ rfl;(with_reducible repeat (first|refine blk_drewN ?_ _|refine blk_drew ?_|refine blk_alloc ?_ _));refine blk_put (cs:=#[.bool false,.bool false,.bool false,.bool false,.bool false,.bool false,.bool false,.bool false,.int .i64 0,.int .i64 0,.int .i64 0,.int .i64 0]) ?_ 8 _ rfl;(with_reducible repeat (first|refine blk_drewN ?_ _|refine blk_drew ?_|refine blk_alloc ?_ _));refine blk_put (cs:=#[.bool false,.bool false,.bool false,.bool false,.bool false,.bool false,.bool false,.bool false,.int .i64 0,.int .i64 0,.int .i64 0,.int .i64 0]) ?_ 7 _ rfl;(with_reducible repeat (first|refine blk_drewN ?_ _|refine blk_drew ?_|refine blk_alloc ?_ _));refine blk_put (cs:=#[.bool false,.bool false,.bool false,.bool false,.bool false,.bool false,.bool false,.bool false,.int .i64 0,.int .i64 0,.int .i64 0,.int .i64 0]) ?_ 6 _ rfl;(with_reducible repeat (first|refine blk_drewN ?_ _|refine blk_drew ?_|refine blk_alloc ?_ _));refine blk_put (cs:=#[.bool false,.bool false,.bool false,.bool false,.bool false,.bool false,.bool false,.bool false,.int .i64 0,.int .i64 0,.int .i64 0,.int .i64 0]) ?_ 5 _ rfl;(with_reducible repeat (first|refine blk_drewN ?_ _|refine blk_drew ?_|refine blk_alloc ?_ _));refine blk_put (cs:=#[.bool false,.bool false,.bool false,.bool false,.bool false,.bool false,.bool false,.bool false,.int .i64 0,.int .i64 0,.int .i64 0,.int .i64 0]) ?_ 4 _ rfl;(with_reducible repeat (first|refine blk_drewN ?_ _|refine blk_drew ?_|refine blk_alloc ?_ _));refine blk_put (cs:=#[.bool false,.bool false,.bool false,.bool false,.bool false,.bool false,.bool false,.bool false,.int .i64 0,.int .i64 0,.int .i64 0,.int .i64 0]) ?_ 3 _ rfl;(with_reducible repeat (first|refine blk_drewN ?_ _|refine blk_drew ?_|refine blk_alloc ?_ _));refine blk_put (cs:=#[.bool false,.bool false,.bool false,.bool false,.bool false,.bool false,.bool false,.bool false,.int .i64 0,.int .i64 0,.int .i64 0,.int .i64 0]) ?_ 2 _ rfl;(with_reducible repeat (first|refine blk_drewN ?_ _|refine blk_drew ?_|refine blk_alloc ?_ _));refine blk_put (cs:=#[.bool false,.bool false,.bool false,.bool false,.bool false,.bool false,.bool false,.bool false,.int .i64 0,.int .i64 0,.int .i64 0,.int .i64 0]) ?_ 1 _ rfl;(with_reducible repeat (first|refine blk_drewN ?_ _|refine blk_drew ?_|refine blk_alloc ?_ _));refine blk_put (cs:=#[.bool false,.bool false,.bool false,.bool false,.bool false,.bool false,.bool false,.bool false,.int .i64 0,.int .i64 0,.int .i64 0,.int .i64 0]) ?_ 0 _ rfl;(with_reducible repeat (first|refine blk_drewN ?_ _|refine blk_drew ?_|refine blk_alloc ?_ _));exact BK217.out) hb);have n3_:=mkA (below_step (by repeat (first|(with_reducible first|exact HB.out|apply below_alloc|apply pw_below_drewN|apply below_drew1|refine below_set ?_ GE216.out|refine below_set ?_ GE217.out)|exact HB.out)) hb);clear BK216;clear BK217;clear HB;have HO220:=n0_;have BK216:=n1_;have BK217:=n2_;have HB:=n3_;clear n0_ n1_ n2_ n3_;(try clear hb);(try clear hb2);(try clear hk);(try clear hi);(try clear ho0)))
 go_loopg [5] k (fun kq v5 w'=>∃ (x5_1:Int) (x218000_1:Bool) (x218001_1:Bool) (x218002_1:Bool) (x218003_1:Bool) (x218004_1:Bool) (x218005_1:Bool) (x218006_1:Bool) (x218007_1:Bool) (x218008_1:Int) (x218009_1:Int) (x218010_1:Int) (x218011_1:Int),v5=.int .i64 x5_1∧Aside0 (ambryref13_Control.l0 kq l0 t218 x5_1 x218000_1 x218001_1 x218002_1 x218003_1 x218004_1 x218005_1 x218006_1 x218007_1 x218008_1 x218009_1 x218010_1 x218011_1=some (r1,r2,r3,r4,r5,r6,r7,r8,r9,r10,r11,r12))∧Aside0 (kq≤k)∧Aside0 (Kd.R Kd.string 9 w' w.heap.size (fun _=>True) v219 t218)∧Aside0 (w'.heap[gb216]?=some (.cells #[.bool false,.bool false,.bool false,.bool false,.bool false,.bool false,.bool false,.bool false,.int .i64 0,.int .i64 0,.int .i64 0,.int .i64 0] 51 (0,0)))∧Aside0 (w'.heap[gb217]?=some (.cells #[.bool x218000_1,.bool x218001_1,.bool x218002_1,.bool x218003_1,.bool x218004_1,.bool x218005_1,.bool x218006_1,.bool x218007_1,.int .i64 x218008_1,.int .i64 x218009_1,.int .i64 x218010_1,.int .i64 x218011_1] 51 (0,0)))∧Aside0 (Below w.heap.size w w'))
 case atStart=>exact ⟨(0),(false),(false),(false),(false),(false),(false),(false),(false),((-1)),((-1)),((-1)),((-1)),(by first|rfl|(simp;done)|(simp [*];done)),H',⟨Nat.le_refl _⟩,⟨by (with_reducible repeat (first|apply Kd.R_alloc|apply Kd.R_drewN|apply Kd.R_drew));exact HO220.out⟩,⟨by (with_reducible repeat (first|refine blk_drewN ?_ _|refine blk_drew ?_|refine blk_alloc ?_ _));exact BK216.out⟩,⟨by (with_reducible repeat (first|refine blk_drewN ?_ _|refine blk_drew ?_|refine blk_alloc ?_ _));exact BK217.out⟩,⟨by repeat (first|(with_reducible first|exact HB.out|apply below_alloc|apply pw_below_drewN|apply below_drew1|refine below_set ?_ GE216.out|refine below_set ?_ GE217.out)|exact HB.out)⟩⟩
 case round=>
  clear H'
  try clear p2
  try clear c3
  try clear c5
  try clear hcz6_0
  try clear hcz6_1
  try clear hcz6_10
  try clear hcz6_11
  try clear hcz6_2
  try clear hcz6_3
  try clear hcz6_4
  try clear hcz6_5
  try clear hcz6_6
  try clear hcz6_7
  try clear hcz6_8
  try clear hcz6_9
  try clear hfz6_0
  try clear hfz6_1
  try clear hfz6_10
  try clear hfz6_11
  try clear hfz6_2
  try clear hfz6_3
  try clear hfz6_4
  try clear hfz6_5
  try clear hfz6_6
  try clear hfz6_7
  try clear hfz6_8
  try clear hfz6_9
  obtain ⟨x5_1,x218000_1,x218001_1,x218002_1,x218003_1,x218004_1,x218005_1,x218006_1,x218007_1,x218008_1,x218009_1,x218010_1,x218011_1,rfl,HA,HK1,HO_4,BK216,BK217,HB⟩:=hrel
  cases gk with
  |zero=>exact absurd HA.out (by simp [ambryref13_Control.l0])
  |succ k1=>
   have H:=HA.out
   clear HA
   simp only [ambryref13_Control.l0] at H
   by_cases c8:x5_1 < (t218.length:Int)
   ·rw [if_pos c8] at H
    have c8b0:decide (x5_1 < (t218.length:Int))=true:=decide_eq_true c8
    clear c8
    by_cases c9:0≤x5_1
    ·rw [if_pos c9] at H
     have c9b0:decide (0≤x5_1)=true:=decide_eq_true c9
     clear c9
     replace H:=Option.bind_eq_some_iff.mp H
     obtain ⟨⟨t222,t223,t224⟩,A100,H⟩:=H
     replace H:(if t222.toList=([110,111,45,115,116,111,114,101]:List UInt8) then (ambryref13_Control.l0 k1 l0 t218 (wrap64 (x5_1+1)) true x218001_1 x218002_1 x218003_1 x218004_1 x218005_1 x218006_1 x218007_1 x218008_1 x218009_1 x218010_1 x218011_1) else (if t222.toList=([110,111,45,99,97,99,104,101]:List UInt8) then (ambryref13_Control.l0 k1 l0 t218 (wrap64 (x5_1+1)) x218000_1 true x218002_1 x218003_1 x218004_1 x218005_1 x218006_1 x218007_1 x218008_1 x218009_1 x218010_1 x218011_1) else (if t222.toList=([112,114,105,118,97,116,101]:List UInt8) then (ambryref13_Control.l0 k1 l0 t218 (wrap64 (x5_1+1)) x218000_1 x218001_1 true x218003_1 x218004_1 x218005_1 x218006_1 x218007_1 x218008_1 x218009_1 x218010_1 x218011_1) else (if t222.toList=([112,117,98,108,105,99]:List UInt8) then (ambryref13_Control.l0 k1 l0 t218 (wrap64 (x5_1+1)) x218000_1 x218001_1 x218002_1 true x218004_1 x218005_1 x218006_1 x218007_1 x218008_1 x218009_1 x218010_1 x218011_1) else (if t222.toList=([109,117,115,116,45,114,101,118,97,108,105,100,97,116,101]:List UInt8) then (ambryref13_Control.l0 k1 l0 t218 (wrap64 (x5_1+1)) x218000_1 x218001_1 x218002_1 x218003_1 true x218005_1 x218006_1 x218007_1 x218008_1 x218009_1 x218010_1 x218011_1) else (if t222.toList=([112,114,111,120,121,45,114,101,118,97,108,105,100,97,116,101]:List UInt8) then (ambryref13_Control.l0 k1 l0 t218 (wrap64 (x5_1+1)) x218000_1 x218001_1 x218002_1 x218003_1 x218004_1 true x218006_1 x218007_1 x218008_1 x218009_1 x218010_1 x218011_1) else (if t222.toList=([111,110,108,121,45,105,102,45,99,97,99,104,101,100]:List UInt8) then (ambryref13_Control.l0 k1 l0 t218 (wrap64 (x5_1+1)) x218000_1 x218001_1 x218002_1 x218003_1 x218004_1 x218005_1 true x218007_1 x218008_1 x218009_1 x218010_1 x218011_1) else (if t222.toList=([109,97,120,45,97,103,101]:List UInt8) then ((ambryref13_least.f k1 x218008_1 t223).bind fun t225=>(ambryref13_Control.l0 k1 l0 t218 (wrap64 (x5_1+1)) x218000_1 x218001_1 x218002_1 x218003_1 x218004_1 x218005_1 x218006_1 x218007_1 t225 x218009_1 x218010_1 x218011_1)) else (if t222.toList=([115,45,109,97,120,97,103,101]:List UInt8) then ((ambryref13_least.f k1 x218009_1 t223).bind fun t226=>(ambryref13_Control.l0 k1 l0 t218 (wrap64 (x5_1+1)) x218000_1 x218001_1 x218002_1 x218003_1 x218004_1 x218005_1 x218006_1 x218007_1 x218008_1 t226 x218010_1 x218011_1)) else (if t222.toList=([109,105,110,45,102,114,101,115,104]:List UInt8) then ((ambryref13_least.f k1 x218010_1 t223).bind fun t227=>(ambryref13_Control.l0 k1 l0 t218 (wrap64 (x5_1+1)) x218000_1 x218001_1 x218002_1 x218003_1 x218004_1 x218005_1 x218006_1 x218007_1 x218008_1 x218009_1 t227 x218011_1)) else (if t222.toList=([109,97,120,45,115,116,97,108,101]:List UInt8) then (if t224=true then ((ambryref13_least.f k1 x218011_1 t223).bind fun t228=>(ambryref13_Control.l0 k1 l0 t218 (wrap64 (x5_1+1)) x218000_1 x218001_1 x218002_1 x218003_1 x218004_1 x218005_1 x218006_1 x218007_1 x218008_1 x218009_1 x218010_1 t228)) else (ambryref13_Control.l0 k1 l0 t218 (wrap64 (x5_1+1)) x218000_1 x218001_1 x218002_1 x218003_1 x218004_1 x218005_1 x218006_1 true x218008_1 x218009_1 x218010_1 x218011_1)) else (ambryref13_Control.l0 k1 l0 t218 (wrap64 (x5_1+1)) x218000_1 x218001_1 x218002_1 x218003_1 x218004_1 x218005_1 x218006_1 x218007_1 x218008_1 x218009_1 x218010_1 x218011_1))))))))))))=some (r1,r2,r3,r4,r5,r6,r7,r8,r9,r10,r11,r12):=H
     have A10:=mkA A100
     clear A100
     by_cases c11:t222.toList=([110,111,45,115,116,111,114,101]:List UInt8)
     ·rw [if_pos c11] at H
      have c11b0:(t222.toList == ([110,111,45,115,116,111,114,101]:List UInt8))=true:=beq_iff_eq.mpr c11
      have c11b1:(t222.toList != ([110,111,45,115,116,111,114,101]:List UInt8))=false:=bne_eq_false_iff_eq.mpr c11
      clear c11
      have H':=mkA H
      clear H
      obtain ⟨Ao12,co12,eo12⟩:=Kd.R_slice HO_4.out
      subst eo12
      have p221:0≤(x5_1:Int):=of_decide_eq_true (by first|(with_reducible assumption)|assumption)
      have q221:x5_1 < (t218.length:Int):=of_decide_eq_true (by first|(with_reducible assumption)|assumption)
      obtain ⟨ad221,e221,hx221_0⟩:=Kd.at_string (Kd.R_reads' HO_4.out).2.2 x5_1 p221 q221
      cases e221
      replace p221:=eq_true p221
      replace q221:=eq_true q221
      go_wp2_with (first|((with_reducible refine gate_callee (f:=56) rfl ?_);refine goesL_ (some 27) rfl rfl Tryz.func56 (by kernel_rfl) rfl #[.string (rdOf ByteArray.empty t218 x5_1)] rfl (by (try simp only [List.map_toArray,List.map_cons,List.map_nil]);first|done|rfl|(simp only [List.length_drop,List.length_take];rfl)) ?_;(with_reducible refine (ambryref13_value.calls k1 (rdOf ByteArray.empty t218 x5_1) t222 t223 t224 _ A10.out).mono ?_);rintro e w13 ⟨rfl,hb⟩;refine ⟨_,rfl,?_⟩;have n0_:=mkA (Kd.R_below (by (with_reducible repeat (first|apply Kd.R_alloc|apply Kd.R_drewN|apply Kd.R_drew));exact HO_4.out) hb);have n1_:=mkA (blk_below (g:=gb216) (o:=.cells #[.bool false,.bool false,.bool false,.bool false,.bool false,.bool false,.bool false,.bool false,.int .i64 0,.int .i64 0,.int .i64 0,.int .i64 0] 51 (0,0)) (by (with_reducible repeat (first|refine blk_drewN ?_ _|refine blk_drew ?_|refine blk_alloc ?_ _));exact BK216.out) hb);have n2_:=mkA (blk_below (g:=gb217) (o:=.cells #[.bool x218000_1,.bool x218001_1,.bool x218002_1,.bool x218003_1,.bool x218004_1,.bool x218005_1,.bool x218006_1,.bool x218007_1,.int .i64 x218008_1,.int .i64 x218009_1,.int .i64 x218010_1,.int .i64 x218011_1] 51 (0,0)) (by (with_reducible repeat (first|refine blk_drewN ?_ _|refine blk_drew ?_|refine blk_alloc ?_ _));exact BK217.out) hb);have n3_:=mkA (below_step (by repeat (first|(with_reducible first|exact HB.out|apply below_alloc|apply pw_below_drewN|apply below_drew1|refine below_set ?_ GE216.out|refine below_set ?_ GE217.out)|exact HB.out)) hb);clear HO_4;clear BK216;clear BK217;clear HB;have HO_4:=n0_;have BK216:=n1_;have BK217:=n2_;have HB:=n3_;clear n0_ n1_ n2_ n3_;(try clear hb);(try clear hb2);(try clear hk);(try clear hi);have hnb14:=NB217_216.out;have hnc14:=NB216_217.out;have hcz15_0:w13.cell? ⟨gb217,0,none⟩=some (.bool x218000_1):=(blk_cell BK217.out 0).trans rfl;have hcz15_1:w13.cell? ⟨gb217,1,none⟩=some (.bool x218001_1):=(blk_cell BK217.out 1).trans rfl;have hcz15_2:w13.cell? ⟨gb217,2,none⟩=some (.bool x218002_1):=(blk_cell BK217.out 2).trans rfl;have hcz15_3:w13.cell? ⟨gb217,3,none⟩=some (.bool x218003_1):=(blk_cell BK217.out 3).trans rfl;have hcz15_4:w13.cell? ⟨gb217,4,none⟩=some (.bool x218004_1):=(blk_cell BK217.out 4).trans rfl;have hcz15_5:w13.cell? ⟨gb217,5,none⟩=some (.bool x218005_1):=(blk_cell BK217.out 5).trans rfl;have hcz15_6:w13.cell? ⟨gb217,6,none⟩=some (.bool x218006_1):=(blk_cell BK217.out 6).trans rfl;have hcz15_7:w13.cell? ⟨gb217,7,none⟩=some (.bool x218007_1):=(blk_cell BK217.out 7).trans rfl;have hcz15_8:w13.cell? ⟨gb217,8,none⟩=some (.int .i64 x218008_1):=(blk_cell BK217.out 8).trans rfl;have hcz15_9:w13.cell? ⟨gb217,9,none⟩=some (.int .i64 x218009_1):=(blk_cell BK217.out 9).trans rfl;have hcz15_10:w13.cell? ⟨gb217,10,none⟩=some (.int .i64 x218010_1):=(blk_cell BK217.out 10).trans rfl;have hcz15_11:w13.cell? ⟨gb217,11,none⟩=some (.int .i64 x218011_1):=(blk_cell BK217.out 11).trans rfl;have hfz15_0:=blk_frozen BK217.out 0;have hfz15_1:=blk_frozen BK217.out 1;have hfz15_2:=blk_frozen BK217.out 2;have hfz15_3:=blk_frozen BK217.out 3;have hfz15_4:=blk_frozen BK217.out 4;have hfz15_5:=blk_frozen BK217.out 5;have hfz15_6:=blk_frozen BK217.out 6;have hfz15_7:=blk_frozen BK217.out 7;have hfz15_8:=blk_frozen BK217.out 8;have hfz15_9:=blk_frozen BK217.out 9;have hfz15_10:=blk_frozen BK217.out 10;have hfz15_11:=blk_frozen BK217.out 11))
      go_roundg k1
      case measure=>have:=HK1.out;omega
      case rel=>exact ⟨(wrap64 (x5_1+1)),(true),(x218001_1),(x218002_1),(x218003_1),(x218004_1),(x218005_1),(x218006_1),(x218007_1),(x218008_1),(x218009_1),(x218010_1),(x218011_1),(by first|rfl|(simp;done)|(simp [*];done)),H',⟨by have:=HK1.out;omega⟩,⟨by (with_reducible repeat (first|apply Kd.R_alloc|apply Kd.R_drewN|apply Kd.R_drew));exact Kd.R_mono (Kd.R_far (p:=⟨gb217,0,none⟩) (Kd.R_types HO_4.out BK217.out (by decide)) (fun _ hk=>hk.2) (.bool true)) (fun _ hk=>trivial)⟩,⟨by (with_reducible repeat (first|refine blk_drewN ?_ _|refine blk_drew ?_|refine blk_alloc ?_ _));refine blk_far ?_ NB216_217.out _;(with_reducible repeat (first|refine blk_drewN ?_ _|refine blk_drew ?_|refine blk_alloc ?_ _));exact BK216.out⟩,⟨by (with_reducible repeat (first|refine blk_drewN ?_ _|refine blk_drew ?_|refine blk_alloc ?_ _));refine blk_put (cs:=#[.bool x218000_1,.bool x218001_1,.bool x218002_1,.bool x218003_1,.bool x218004_1,.bool x218005_1,.bool x218006_1,.bool x218007_1,.int .i64 x218008_1,.int .i64 x218009_1,.int .i64 x218010_1,.int .i64 x218011_1]) ?_ 0 _ rfl;(with_reducible repeat (first|refine blk_drewN ?_ _|refine blk_drew ?_|refine blk_alloc ?_ _));exact BK217.out⟩,⟨by repeat (first|(with_reducible first|exact HB.out|apply below_alloc|apply pw_below_drewN|apply below_drew1|refine below_set ?_ GE216.out|refine below_set ?_ GE217.out)|exact HB.out)⟩⟩
     ·rw [if_neg c11] at H
      have c11b0:(t222.toList == ([110,111,45,115,116,111,114,101]:List UInt8))=false:=beq_eq_false_iff_ne.mpr c11
      have c11b1:(t222.toList != ([110,111,45,115,116,111,114,101]:List UInt8))=true:=bne_iff_ne.mpr c11
      by_cases c16:t222.toList=([110,111,45,99,97,99,104,101]:List UInt8)
      ·rw [if_pos c16] at H
       have c16b0:(t222.toList == ([110,111,45,99,97,99,104,101]:List UInt8))=true:=beq_iff_eq.mpr c16
       have c16b1:(t222.toList != ([110,111,45,99,97,99,104,101]:List UInt8))=false:=bne_eq_false_iff_eq.mpr c16
       clear c16
       have H':=mkA H
       clear H
       obtain ⟨Ao17,co17,eo17⟩:=Kd.R_slice HO_4.out
       subst eo17
       have p221:0≤(x5_1:Int):=of_decide_eq_true (by first|(with_reducible assumption)|assumption)
       have q221:x5_1 < (t218.length:Int):=of_decide_eq_true (by first|(with_reducible assumption)|assumption)
       obtain ⟨ad221,e221,hx221_0⟩:=Kd.at_string (Kd.R_reads' HO_4.out).2.2 x5_1 p221 q221
       cases e221
       replace p221:=eq_true p221
       replace q221:=eq_true q221
       go_wp2_with (first|((with_reducible refine gate_callee (f:=56) rfl ?_);refine goesL_ (some 27) rfl rfl Tryz.func56 (by kernel_rfl) rfl #[.string (rdOf ByteArray.empty t218 x5_1)] rfl (by (try simp only [List.map_toArray,List.map_cons,List.map_nil]);first|done|rfl|(simp only [List.length_drop,List.length_take];rfl)) ?_;(with_reducible refine (ambryref13_value.calls k1 (rdOf ByteArray.empty t218 x5_1) t222 t223 t224 _ A10.out).mono ?_);rintro e w18 ⟨rfl,hb⟩;refine ⟨_,rfl,?_⟩;have n0_:=mkA (Kd.R_below (by (with_reducible repeat (first|apply Kd.R_alloc|apply Kd.R_drewN|apply Kd.R_drew));exact HO_4.out) hb);have n1_:=mkA (blk_below (g:=gb216) (o:=.cells #[.bool false,.bool false,.bool false,.bool false,.bool false,.bool false,.bool false,.bool false,.int .i64 0,.int .i64 0,.int .i64 0,.int .i64 0] 51 (0,0)) (by (with_reducible repeat (first|refine blk_drewN ?_ _|refine blk_drew ?_|refine blk_alloc ?_ _));exact BK216.out) hb);have n2_:=mkA (blk_below (g:=gb217) (o:=.cells #[.bool x218000_1,.bool x218001_1,.bool x218002_1,.bool x218003_1,.bool x218004_1,.bool x218005_1,.bool x218006_1,.bool x218007_1,.int .i64 x218008_1,.int .i64 x218009_1,.int .i64 x218010_1,.int .i64 x218011_1] 51 (0,0)) (by (with_reducible repeat (first|refine blk_drewN ?_ _|refine blk_drew ?_|refine blk_alloc ?_ _));exact BK217.out) hb);have n3_:=mkA (below_step (by repeat (first|(with_reducible first|exact HB.out|apply below_alloc|apply pw_below_drewN|apply below_drew1|refine below_set ?_ GE216.out|refine below_set ?_ GE217.out)|exact HB.out)) hb);clear HO_4;clear BK216;clear BK217;clear HB;have HO_4:=n0_;have BK216:=n1_;have BK217:=n2_;have HB:=n3_;clear n0_ n1_ n2_ n3_;(try clear hb);(try clear hb2);(try clear hk);(try clear hi);have hnb19:=NB217_216.out;have hnc19:=NB216_217.out;have hcz20_0:w18.cell? ⟨gb217,0,none⟩=some (.bool x218000_1):=(blk_cell BK217.out 0).trans rfl;have hcz20_1:w18.cell? ⟨gb217,1,none⟩=some (.bool x218001_1):=(blk_cell BK217.out 1).trans rfl;have hcz20_2:w18.cell? ⟨gb217,2,none⟩=some (.bool x218002_1):=(blk_cell BK217.out 2).trans rfl;have hcz20_3:w18.cell? ⟨gb217,3,none⟩=some (.bool x218003_1):=(blk_cell BK217.out 3).trans rfl;have hcz20_4:w18.cell? ⟨gb217,4,none⟩=some (.bool x218004_1):=(blk_cell BK217.out 4).trans rfl;have hcz20_5:w18.cell? ⟨gb217,5,none⟩=some (.bool x218005_1):=(blk_cell BK217.out 5).trans rfl;have hcz20_6:w18.cell? ⟨gb217,6,none⟩=some (.bool x218006_1):=(blk_cell BK217.out 6).trans rfl;have hcz20_7:w18.cell? ⟨gb217,7,none⟩=some (.bool x218007_1):=(blk_cell BK217.out 7).trans rfl;have hcz20_8:w18.cell? ⟨gb217,8,none⟩=some (.int .i64 x218008_1):=(blk_cell BK217.out 8).trans rfl;have hcz20_9:w18.cell? ⟨gb217,9,none⟩=some (.int .i64 x218009_1):=(blk_cell BK217.out 9).trans rfl;have hcz20_10:w18.cell? ⟨gb217,10,none⟩=some (.int .i64 x218010_1):=(blk_cell BK217.out 10).trans rfl;have hcz20_11:w18.cell? ⟨gb217,11,none⟩=some (.int .i64 x218011_1):=(blk_cell BK217.out 11).trans rfl;have hfz20_0:=blk_frozen BK217.out 0;have hfz20_1:=blk_frozen BK217.out 1;have hfz20_2:=blk_frozen BK217.out 2;have hfz20_3:=blk_frozen BK217.out 3;have hfz20_4:=blk_frozen BK217.out 4;have hfz20_5:=blk_frozen BK217.out 5;have hfz20_6:=blk_frozen BK217.out 6;have hfz20_7:=blk_frozen BK217.out 7;have hfz20_8:=blk_frozen BK217.out 8;have hfz20_9:=blk_frozen BK217.out 9;have hfz20_10:=blk_frozen BK217.out 10;have hfz20_11:=blk_frozen BK217.out 11))
       go_roundg k1
       case measure=>have:=HK1.out;omega
       case rel=>exact ⟨(wrap64 (x5_1+1)),(x218000_1),(true),(x218002_1),(x218003_1),(x218004_1),(x218005_1),(x218006_1),(x218007_1),(x218008_1),(x218009_1),(x218010_1),(x218011_1),(by first|rfl|(simp;done)|(simp [*];done)),H',⟨by have:=HK1.out;omega⟩,⟨by (with_reducible repeat (first|apply Kd.R_alloc|apply Kd.R_drewN|apply Kd.R_drew));exact Kd.R_mono (Kd.R_far (p:=⟨gb217,1,none⟩) (Kd.R_types HO_4.out BK217.out (by decide)) (fun _ hk=>hk.2) (.bool true)) (fun _ hk=>trivial)⟩,⟨by (with_reducible repeat (first|refine blk_drewN ?_ _|refine blk_drew ?_|refine blk_alloc ?_ _));refine blk_far ?_ NB216_217.out _;(with_reducible repeat (first|refine blk_drewN ?_ _|refine blk_drew ?_|refine blk_alloc ?_ _));exact BK216.out⟩,⟨by (with_reducible repeat (first|refine blk_drewN ?_ _|refine blk_drew ?_|refine blk_alloc ?_ _));refine blk_put (cs:=#[.bool x218000_1,.bool x218001_1,.bool x218002_1,.bool x218003_1,.bool x218004_1,.bool x218005_1,.bool x218006_1,.bool x218007_1,.int .i64 x218008_1,.int .i64 x218009_1,.int .i64 x218010_1,.int .i64 x218011_1]) ?_ 1 _ rfl;(with_reducible repeat (first|refine blk_drewN ?_ _|refine blk_drew ?_|refine blk_alloc ?_ _));exact BK217.out⟩,⟨by repeat (first|(with_reducible first|exact HB.out|apply below_alloc|apply pw_below_drewN|apply below_drew1|refine below_set ?_ GE216.out|refine below_set ?_ GE217.out)|exact HB.out)⟩⟩
      ·rw [if_neg c16] at H
       have c16b0:(t222.toList == ([110,111,45,99,97,99,104,101]:List UInt8))=false:=beq_eq_false_iff_ne.mpr c16
       have c16b1:(t222.toList != ([110,111,45,99,97,99,104,101]:List UInt8))=true:=bne_iff_ne.mpr c16
       by_cases c21:t222.toList=([112,114,105,118,97,116,101]:List UInt8)
       ·rw [if_pos c21] at H
        have c21b0:(t222.toList == ([112,114,105,118,97,116,101]:List UInt8))=true:=beq_iff_eq.mpr c21
        have c21b1:(t222.toList != ([112,114,105,118,97,116,101]:List UInt8))=false:=bne_eq_false_iff_eq.mpr c21
        clear c21
        have H':=mkA H
        clear H
        obtain ⟨Ao22,co22,eo22⟩:=Kd.R_slice HO_4.out
        subst eo22
        have p221:0≤(x5_1:Int):=of_decide_eq_true (by first|(with_reducible assumption)|assumption)
        have q221:x5_1 < (t218.length:Int):=of_decide_eq_true (by first|(with_reducible assumption)|assumption)
        obtain ⟨ad221,e221,hx221_0⟩:=Kd.at_string (Kd.R_reads' HO_4.out).2.2 x5_1 p221 q221
        cases e221
        replace p221:=eq_true p221
        replace q221:=eq_true q221
        go_wp2_with (first|((with_reducible refine gate_callee (f:=56) rfl ?_);refine goesL_ (some 27) rfl rfl Tryz.func56 (by kernel_rfl) rfl #[.string (rdOf ByteArray.empty t218 x5_1)] rfl (by (try simp only [List.map_toArray,List.map_cons,List.map_nil]);first|done|rfl|(simp only [List.length_drop,List.length_take];rfl)) ?_;(with_reducible refine (ambryref13_value.calls k1 (rdOf ByteArray.empty t218 x5_1) t222 t223 t224 _ A10.out).mono ?_);rintro e w23 ⟨rfl,hb⟩;refine ⟨_,rfl,?_⟩;have n0_:=mkA (Kd.R_below (by (with_reducible repeat (first|apply Kd.R_alloc|apply Kd.R_drewN|apply Kd.R_drew));exact HO_4.out) hb);have n1_:=mkA (blk_below (g:=gb216) (o:=.cells #[.bool false,.bool false,.bool false,.bool false,.bool false,.bool false,.bool false,.bool false,.int .i64 0,.int .i64 0,.int .i64 0,.int .i64 0] 51 (0,0)) (by (with_reducible repeat (first|refine blk_drewN ?_ _|refine blk_drew ?_|refine blk_alloc ?_ _));exact BK216.out) hb);have n2_:=mkA (blk_below (g:=gb217) (o:=.cells #[.bool x218000_1,.bool x218001_1,.bool x218002_1,.bool x218003_1,.bool x218004_1,.bool x218005_1,.bool x218006_1,.bool x218007_1,.int .i64 x218008_1,.int .i64 x218009_1,.int .i64 x218010_1,.int .i64 x218011_1] 51 (0,0)) (by (with_reducible repeat (first|refine blk_drewN ?_ _|refine blk_drew ?_|refine blk_alloc ?_ _));exact BK217.out) hb);have n3_:=mkA (below_step (by repeat (first|(with_reducible first|exact HB.out|apply below_alloc|apply pw_below_drewN|apply below_drew1|refine below_set ?_ GE216.out|refine below_set ?_ GE217.out)|exact HB.out)) hb);clear HO_4;clear BK216;clear BK217;clear HB;have HO_4:=n0_;have BK216:=n1_;have BK217:=n2_;have HB:=n3_;clear n0_ n1_ n2_ n3_;(try clear hb);(try clear hb2);(try clear hk);(try clear hi);have hnb24:=NB217_216.out;have hnc24:=NB216_217.out;have hcz25_0:w23.cell? ⟨gb217,0,none⟩=some (.bool x218000_1):=(blk_cell BK217.out 0).trans rfl;have hcz25_1:w23.cell? ⟨gb217,1,none⟩=some (.bool x218001_1):=(blk_cell BK217.out 1).trans rfl;have hcz25_2:w23.cell? ⟨gb217,2,none⟩=some (.bool x218002_1):=(blk_cell BK217.out 2).trans rfl;have hcz25_3:w23.cell? ⟨gb217,3,none⟩=some (.bool x218003_1):=(blk_cell BK217.out 3).trans rfl;have hcz25_4:w23.cell? ⟨gb217,4,none⟩=some (.bool x218004_1):=(blk_cell BK217.out 4).trans rfl;have hcz25_5:w23.cell? ⟨gb217,5,none⟩=some (.bool x218005_1):=(blk_cell BK217.out 5).trans rfl;have hcz25_6:w23.cell? ⟨gb217,6,none⟩=some (.bool x218006_1):=(blk_cell BK217.out 6).trans rfl;have hcz25_7:w23.cell? ⟨gb217,7,none⟩=some (.bool x218007_1):=(blk_cell BK217.out 7).trans rfl;have hcz25_8:w23.cell? ⟨gb217,8,none⟩=some (.int .i64 x218008_1):=(blk_cell BK217.out 8).trans rfl;have hcz25_9:w23.cell? ⟨gb217,9,none⟩=some (.int .i64 x218009_1):=(blk_cell BK217.out 9).trans rfl;have hcz25_10:w23.cell? ⟨gb217,10,none⟩=some (.int .i64 x218010_1):=(blk_cell BK217.out 10).trans rfl;have hcz25_11:w23.cell? ⟨gb217,11,none⟩=some (.int .i64 x218011_1):=(blk_cell BK217.out 11).trans rfl;have hfz25_0:=blk_frozen BK217.out 0;have hfz25_1:=blk_frozen BK217.out 1;have hfz25_2:=blk_frozen BK217.out 2;have hfz25_3:=blk_frozen BK217.out 3;have hfz25_4:=blk_frozen BK217.out 4;have hfz25_5:=blk_frozen BK217.out 5;have hfz25_6:=blk_frozen BK217.out 6;have hfz25_7:=blk_frozen BK217.out 7;have hfz25_8:=blk_frozen BK217.out 8;have hfz25_9:=blk_frozen BK217.out 9;have hfz25_10:=blk_frozen BK217.out 10;have hfz25_11:=blk_frozen BK217.out 11))
        go_roundg k1
        case measure=>have:=HK1.out;omega
        case rel=>exact ⟨(wrap64 (x5_1+1)),(x218000_1),(x218001_1),(true),(x218003_1),(x218004_1),(x218005_1),(x218006_1),(x218007_1),(x218008_1),(x218009_1),(x218010_1),(x218011_1),(by first|rfl|(simp;done)|(simp [*];done)),H',⟨by have:=HK1.out;omega⟩,⟨by (with_reducible repeat (first|apply Kd.R_alloc|apply Kd.R_drewN|apply Kd.R_drew));exact Kd.R_mono (Kd.R_far (p:=⟨gb217,2,none⟩) (Kd.R_types HO_4.out BK217.out (by decide)) (fun _ hk=>hk.2) (.bool true)) (fun _ hk=>trivial)⟩,⟨by (with_reducible repeat (first|refine blk_drewN ?_ _|refine blk_drew ?_|refine blk_alloc ?_ _));refine blk_far ?_ NB216_217.out _;(with_reducible repeat (first|refine blk_drewN ?_ _|refine blk_drew ?_|refine blk_alloc ?_ _));exact BK216.out⟩,⟨by (with_reducible repeat (first|refine blk_drewN ?_ _|refine blk_drew ?_|refine blk_alloc ?_ _));refine blk_put (cs:=#[.bool x218000_1,.bool x218001_1,.bool x218002_1,.bool x218003_1,.bool x218004_1,.bool x218005_1,.bool x218006_1,.bool x218007_1,.int .i64 x218008_1,.int .i64 x218009_1,.int .i64 x218010_1,.int .i64 x218011_1]) ?_ 2 _ rfl;(with_reducible repeat (first|refine blk_drewN ?_ _|refine blk_drew ?_|refine blk_alloc ?_ _));exact BK217.out⟩,⟨by repeat (first|(with_reducible first|exact HB.out|apply below_alloc|apply pw_below_drewN|apply below_drew1|refine below_set ?_ GE216.out|refine below_set ?_ GE217.out)|exact HB.out)⟩⟩
       ·rw [if_neg c21] at H
        have c21b0:(t222.toList == ([112,114,105,118,97,116,101]:List UInt8))=false:=beq_eq_false_iff_ne.mpr c21
        have c21b1:(t222.toList != ([112,114,105,118,97,116,101]:List UInt8))=true:=bne_iff_ne.mpr c21
        by_cases c26:t222.toList=([112,117,98,108,105,99]:List UInt8)
        ·rw [if_pos c26] at H
         have c26b0:(t222.toList == ([112,117,98,108,105,99]:List UInt8))=true:=beq_iff_eq.mpr c26
         have c26b1:(t222.toList != ([112,117,98,108,105,99]:List UInt8))=false:=bne_eq_false_iff_eq.mpr c26
         clear c26
         have H':=mkA H
         clear H
         obtain ⟨Ao27,co27,eo27⟩:=Kd.R_slice HO_4.out
         subst eo27
         have p221:0≤(x5_1:Int):=of_decide_eq_true (by first|(with_reducible assumption)|assumption)
         have q221:x5_1 < (t218.length:Int):=of_decide_eq_true (by first|(with_reducible assumption)|assumption)
         obtain ⟨ad221,e221,hx221_0⟩:=Kd.at_string (Kd.R_reads' HO_4.out).2.2 x5_1 p221 q221
         cases e221
         replace p221:=eq_true p221
         replace q221:=eq_true q221
         go_wp2_with (first|((with_reducible refine gate_callee (f:=56) rfl ?_);refine goesL_ (some 27) rfl rfl Tryz.func56 (by kernel_rfl) rfl #[.string (rdOf ByteArray.empty t218 x5_1)] rfl (by (try simp only [List.map_toArray,List.map_cons,List.map_nil]);first|done|rfl|(simp only [List.length_drop,List.length_take];rfl)) ?_;(with_reducible refine (ambryref13_value.calls k1 (rdOf ByteArray.empty t218 x5_1) t222 t223 t224 _ A10.out).mono ?_);rintro e w28 ⟨rfl,hb⟩;refine ⟨_,rfl,?_⟩;have n0_:=mkA (Kd.R_below (by (with_reducible repeat (first|apply Kd.R_alloc|apply Kd.R_drewN|apply Kd.R_drew));exact HO_4.out) hb);have n1_:=mkA (blk_below (g:=gb216) (o:=.cells #[.bool false,.bool false,.bool false,.bool false,.bool false,.bool false,.bool false,.bool false,.int .i64 0,.int .i64 0,.int .i64 0,.int .i64 0] 51 (0,0)) (by (with_reducible repeat (first|refine blk_drewN ?_ _|refine blk_drew ?_|refine blk_alloc ?_ _));exact BK216.out) hb);have n2_:=mkA (blk_below (g:=gb217) (o:=.cells #[.bool x218000_1,.bool x218001_1,.bool x218002_1,.bool x218003_1,.bool x218004_1,.bool x218005_1,.bool x218006_1,.bool x218007_1,.int .i64 x218008_1,.int .i64 x218009_1,.int .i64 x218010_1,.int .i64 x218011_1] 51 (0,0)) (by (with_reducible repeat (first|refine blk_drewN ?_ _|refine blk_drew ?_|refine blk_alloc ?_ _));exact BK217.out) hb);have n3_:=mkA (below_step (by repeat (first|(with_reducible first|exact HB.out|apply below_alloc|apply pw_below_drewN|apply below_drew1|refine below_set ?_ GE216.out|refine below_set ?_ GE217.out)|exact HB.out)) hb);clear HO_4;clear BK216;clear BK217;clear HB;have HO_4:=n0_;have BK216:=n1_;have BK217:=n2_;have HB:=n3_;clear n0_ n1_ n2_ n3_;(try clear hb);(try clear hb2);(try clear hk);(try clear hi);have hnb29:=NB217_216.out;have hnc29:=NB216_217.out;have hcz30_0:w28.cell? ⟨gb217,0,none⟩=some (.bool x218000_1):=(blk_cell BK217.out 0).trans rfl;have hcz30_1:w28.cell? ⟨gb217,1,none⟩=some (.bool x218001_1):=(blk_cell BK217.out 1).trans rfl;have hcz30_2:w28.cell? ⟨gb217,2,none⟩=some (.bool x218002_1):=(blk_cell BK217.out 2).trans rfl;have hcz30_3:w28.cell? ⟨gb217,3,none⟩=some (.bool x218003_1):=(blk_cell BK217.out 3).trans rfl;have hcz30_4:w28.cell? ⟨gb217,4,none⟩=some (.bool x218004_1):=(blk_cell BK217.out 4).trans rfl;have hcz30_5:w28.cell? ⟨gb217,5,none⟩=some (.bool x218005_1):=(blk_cell BK217.out 5).trans rfl;have hcz30_6:w28.cell? ⟨gb217,6,none⟩=some (.bool x218006_1):=(blk_cell BK217.out 6).trans rfl;have hcz30_7:w28.cell? ⟨gb217,7,none⟩=some (.bool x218007_1):=(blk_cell BK217.out 7).trans rfl;have hcz30_8:w28.cell? ⟨gb217,8,none⟩=some (.int .i64 x218008_1):=(blk_cell BK217.out 8).trans rfl;have hcz30_9:w28.cell? ⟨gb217,9,none⟩=some (.int .i64 x218009_1):=(blk_cell BK217.out 9).trans rfl;have hcz30_10:w28.cell? ⟨gb217,10,none⟩=some (.int .i64 x218010_1):=(blk_cell BK217.out 10).trans rfl;have hcz30_11:w28.cell? ⟨gb217,11,none⟩=some (.int .i64 x218011_1):=(blk_cell BK217.out 11).trans rfl;have hfz30_0:=blk_frozen BK217.out 0;have hfz30_1:=blk_frozen BK217.out 1;have hfz30_2:=blk_frozen BK217.out 2;have hfz30_3:=blk_frozen BK217.out 3;have hfz30_4:=blk_frozen BK217.out 4;have hfz30_5:=blk_frozen BK217.out 5;have hfz30_6:=blk_frozen BK217.out 6;have hfz30_7:=blk_frozen BK217.out 7;have hfz30_8:=blk_frozen BK217.out 8;have hfz30_9:=blk_frozen BK217.out 9;have hfz30_10:=blk_frozen BK217.out 10;have hfz30_11:=blk_frozen BK217.out 11))
         go_roundg k1
         case measure=>have:=HK1.out;omega
         case rel=>exact ⟨(wrap64 (x5_1+1)),(x218000_1),(x218001_1),(x218002_1),(true),(x218004_1),(x218005_1),(x218006_1),(x218007_1),(x218008_1),(x218009_1),(x218010_1),(x218011_1),(by first|rfl|(simp;done)|(simp [*];done)),H',⟨by have:=HK1.out;omega⟩,⟨by (with_reducible repeat (first|apply Kd.R_alloc|apply Kd.R_drewN|apply Kd.R_drew));exact Kd.R_mono (Kd.R_far (p:=⟨gb217,3,none⟩) (Kd.R_types HO_4.out BK217.out (by decide)) (fun _ hk=>hk.2) (.bool true)) (fun _ hk=>trivial)⟩,⟨by (with_reducible repeat (first|refine blk_drewN ?_ _|refine blk_drew ?_|refine blk_alloc ?_ _));refine blk_far ?_ NB216_217.out _;(with_reducible repeat (first|refine blk_drewN ?_ _|refine blk_drew ?_|refine blk_alloc ?_ _));exact BK216.out⟩,⟨by (with_reducible repeat (first|refine blk_drewN ?_ _|refine blk_drew ?_|refine blk_alloc ?_ _));refine blk_put (cs:=#[.bool x218000_1,.bool x218001_1,.bool x218002_1,.bool x218003_1,.bool x218004_1,.bool x218005_1,.bool x218006_1,.bool x218007_1,.int .i64 x218008_1,.int .i64 x218009_1,.int .i64 x218010_1,.int .i64 x218011_1]) ?_ 3 _ rfl;(with_reducible repeat (first|refine blk_drewN ?_ _|refine blk_drew ?_|refine blk_alloc ?_ _));exact BK217.out⟩,⟨by repeat (first|(with_reducible first|exact HB.out|apply below_alloc|apply pw_below_drewN|apply below_drew1|refine below_set ?_ GE216.out|refine below_set ?_ GE217.out)|exact HB.out)⟩⟩
        ·rw [if_neg c26] at H
         have c26b0:(t222.toList == ([112,117,98,108,105,99]:List UInt8))=false:=beq_eq_false_iff_ne.mpr c26
         have c26b1:(t222.toList != ([112,117,98,108,105,99]:List UInt8))=true:=bne_iff_ne.mpr c26
         by_cases c31:t222.toList=([109,117,115,116,45,114,101,118,97,108,105,100,97,116,101]:List UInt8)
         ·rw [if_pos c31] at H
          have c31b0:(t222.toList == ([109,117,115,116,45,114,101,118,97,108,105,100,97,116,101]:List UInt8))=true:=beq_iff_eq.mpr c31
          have c31b1:(t222.toList != ([109,117,115,116,45,114,101,118,97,108,105,100,97,116,101]:List UInt8))=false:=bne_eq_false_iff_eq.mpr c31
          clear c31
          have H':=mkA H
          clear H
          obtain ⟨Ao32,co32,eo32⟩:=Kd.R_slice HO_4.out
          subst eo32
          have p221:0≤(x5_1:Int):=of_decide_eq_true (by first|(with_reducible assumption)|assumption)
          have q221:x5_1 < (t218.length:Int):=of_decide_eq_true (by first|(with_reducible assumption)|assumption)
          obtain ⟨ad221,e221,hx221_0⟩:=Kd.at_string (Kd.R_reads' HO_4.out).2.2 x5_1 p221 q221
          cases e221
          replace p221:=eq_true p221
          replace q221:=eq_true q221
          go_wp2_with (first|((with_reducible refine gate_callee (f:=56) rfl ?_);refine goesL_ (some 27) rfl rfl Tryz.func56 (by kernel_rfl) rfl #[.string (rdOf ByteArray.empty t218 x5_1)] rfl (by (try simp only [List.map_toArray,List.map_cons,List.map_nil]);first|done|rfl|(simp only [List.length_drop,List.length_take];rfl)) ?_;(with_reducible refine (ambryref13_value.calls k1 (rdOf ByteArray.empty t218 x5_1) t222 t223 t224 _ A10.out).mono ?_);rintro e w33 ⟨rfl,hb⟩;refine ⟨_,rfl,?_⟩;have n0_:=mkA (Kd.R_below (by (with_reducible repeat (first|apply Kd.R_alloc|apply Kd.R_drewN|apply Kd.R_drew));exact HO_4.out) hb);have n1_:=mkA (blk_below (g:=gb216) (o:=.cells #[.bool false,.bool false,.bool false,.bool false,.bool false,.bool false,.bool false,.bool false,.int .i64 0,.int .i64 0,.int .i64 0,.int .i64 0] 51 (0,0)) (by (with_reducible repeat (first|refine blk_drewN ?_ _|refine blk_drew ?_|refine blk_alloc ?_ _));exact BK216.out) hb);have n2_:=mkA (blk_below (g:=gb217) (o:=.cells #[.bool x218000_1,.bool x218001_1,.bool x218002_1,.bool x218003_1,.bool x218004_1,.bool x218005_1,.bool x218006_1,.bool x218007_1,.int .i64 x218008_1,.int .i64 x218009_1,.int .i64 x218010_1,.int .i64 x218011_1] 51 (0,0)) (by (with_reducible repeat (first|refine blk_drewN ?_ _|refine blk_drew ?_|refine blk_alloc ?_ _));exact BK217.out) hb);have n3_:=mkA (below_step (by repeat (first|(with_reducible first|exact HB.out|apply below_alloc|apply pw_below_drewN|apply below_drew1|refine below_set ?_ GE216.out|refine below_set ?_ GE217.out)|exact HB.out)) hb);clear HO_4;clear BK216;clear BK217;clear HB;have HO_4:=n0_;have BK216:=n1_;have BK217:=n2_;have HB:=n3_;clear n0_ n1_ n2_ n3_;(try clear hb);(try clear hb2);(try clear hk);(try clear hi);have hnb34:=NB217_216.out;have hnc34:=NB216_217.out;have hcz35_0:w33.cell? ⟨gb217,0,none⟩=some (.bool x218000_1):=(blk_cell BK217.out 0).trans rfl;have hcz35_1:w33.cell? ⟨gb217,1,none⟩=some (.bool x218001_1):=(blk_cell BK217.out 1).trans rfl;have hcz35_2:w33.cell? ⟨gb217,2,none⟩=some (.bool x218002_1):=(blk_cell BK217.out 2).trans rfl;have hcz35_3:w33.cell? ⟨gb217,3,none⟩=some (.bool x218003_1):=(blk_cell BK217.out 3).trans rfl;have hcz35_4:w33.cell? ⟨gb217,4,none⟩=some (.bool x218004_1):=(blk_cell BK217.out 4).trans rfl;have hcz35_5:w33.cell? ⟨gb217,5,none⟩=some (.bool x218005_1):=(blk_cell BK217.out 5).trans rfl;have hcz35_6:w33.cell? ⟨gb217,6,none⟩=some (.bool x218006_1):=(blk_cell BK217.out 6).trans rfl;have hcz35_7:w33.cell? ⟨gb217,7,none⟩=some (.bool x218007_1):=(blk_cell BK217.out 7).trans rfl;have hcz35_8:w33.cell? ⟨gb217,8,none⟩=some (.int .i64 x218008_1):=(blk_cell BK217.out 8).trans rfl;have hcz35_9:w33.cell? ⟨gb217,9,none⟩=some (.int .i64 x218009_1):=(blk_cell BK217.out 9).trans rfl;have hcz35_10:w33.cell? ⟨gb217,10,none⟩=some (.int .i64 x218010_1):=(blk_cell BK217.out 10).trans rfl;have hcz35_11:w33.cell? ⟨gb217,11,none⟩=some (.int .i64 x218011_1):=(blk_cell BK217.out 11).trans rfl;have hfz35_0:=blk_frozen BK217.out 0;have hfz35_1:=blk_frozen BK217.out 1;have hfz35_2:=blk_frozen BK217.out 2;have hfz35_3:=blk_frozen BK217.out 3;have hfz35_4:=blk_frozen BK217.out 4;have hfz35_5:=blk_frozen BK217.out 5;have hfz35_6:=blk_frozen BK217.out 6;have hfz35_7:=blk_frozen BK217.out 7;have hfz35_8:=blk_frozen BK217.out 8;have hfz35_9:=blk_frozen BK217.out 9;have hfz35_10:=blk_frozen BK217.out 10;have hfz35_11:=blk_frozen BK217.out 11))
          go_roundg k1
          case measure=>have:=HK1.out;omega
          case rel=>exact ⟨(wrap64 (x5_1+1)),(x218000_1),(x218001_1),(x218002_1),(x218003_1),(true),(x218005_1),(x218006_1),(x218007_1),(x218008_1),(x218009_1),(x218010_1),(x218011_1),(by first|rfl|(simp;done)|(simp [*];done)),H',⟨by have:=HK1.out;omega⟩,⟨by (with_reducible repeat (first|apply Kd.R_alloc|apply Kd.R_drewN|apply Kd.R_drew));exact Kd.R_mono (Kd.R_far (p:=⟨gb217,4,none⟩) (Kd.R_types HO_4.out BK217.out (by decide)) (fun _ hk=>hk.2) (.bool true)) (fun _ hk=>trivial)⟩,⟨by (with_reducible repeat (first|refine blk_drewN ?_ _|refine blk_drew ?_|refine blk_alloc ?_ _));refine blk_far ?_ NB216_217.out _;(with_reducible repeat (first|refine blk_drewN ?_ _|refine blk_drew ?_|refine blk_alloc ?_ _));exact BK216.out⟩,⟨by (with_reducible repeat (first|refine blk_drewN ?_ _|refine blk_drew ?_|refine blk_alloc ?_ _));refine blk_put (cs:=#[.bool x218000_1,.bool x218001_1,.bool x218002_1,.bool x218003_1,.bool x218004_1,.bool x218005_1,.bool x218006_1,.bool x218007_1,.int .i64 x218008_1,.int .i64 x218009_1,.int .i64 x218010_1,.int .i64 x218011_1]) ?_ 4 _ rfl;(with_reducible repeat (first|refine blk_drewN ?_ _|refine blk_drew ?_|refine blk_alloc ?_ _));exact BK217.out⟩,⟨by repeat (first|(with_reducible first|exact HB.out|apply below_alloc|apply pw_below_drewN|apply below_drew1|refine below_set ?_ GE216.out|refine below_set ?_ GE217.out)|exact HB.out)⟩⟩
         ·rw [if_neg c31] at H
          have c31b0:(t222.toList == ([109,117,115,116,45,114,101,118,97,108,105,100,97,116,101]:List UInt8))=false:=beq_eq_false_iff_ne.mpr c31
          have c31b1:(t222.toList != ([109,117,115,116,45,114,101,118,97,108,105,100,97,116,101]:List UInt8))=true:=bne_iff_ne.mpr c31
          by_cases c36:t222.toList=([112,114,111,120,121,45,114,101,118,97,108,105,100,97,116,101]:List UInt8)
          ·rw [if_pos c36] at H
           have c36b0:(t222.toList == ([112,114,111,120,121,45,114,101,118,97,108,105,100,97,116,101]:List UInt8))=true:=beq_iff_eq.mpr c36
           have c36b1:(t222.toList != ([112,114,111,120,121,45,114,101,118,97,108,105,100,97,116,101]:List UInt8))=false:=bne_eq_false_iff_eq.mpr c36
           clear c36
           have H':=mkA H
           clear H
           obtain ⟨Ao37,co37,eo37⟩:=Kd.R_slice HO_4.out
           subst eo37
           have p221:0≤(x5_1:Int):=of_decide_eq_true (by first|(with_reducible assumption)|assumption)
           have q221:x5_1 < (t218.length:Int):=of_decide_eq_true (by first|(with_reducible assumption)|assumption)
           obtain ⟨ad221,e221,hx221_0⟩:=Kd.at_string (Kd.R_reads' HO_4.out).2.2 x5_1 p221 q221
           cases e221
           replace p221:=eq_true p221
           replace q221:=eq_true q221
           go_wp2_with (first|((with_reducible refine gate_callee (f:=56) rfl ?_);refine goesL_ (some 27) rfl rfl Tryz.func56 (by kernel_rfl) rfl #[.string (rdOf ByteArray.empty t218 x5_1)] rfl (by (try simp only [List.map_toArray,List.map_cons,List.map_nil]);first|done|rfl|(simp only [List.length_drop,List.length_take];rfl)) ?_;(with_reducible refine (ambryref13_value.calls k1 (rdOf ByteArray.empty t218 x5_1) t222 t223 t224 _ A10.out).mono ?_);rintro e w38 ⟨rfl,hb⟩;refine ⟨_,rfl,?_⟩;have n0_:=mkA (Kd.R_below (by (with_reducible repeat (first|apply Kd.R_alloc|apply Kd.R_drewN|apply Kd.R_drew));exact HO_4.out) hb);have n1_:=mkA (blk_below (g:=gb216) (o:=.cells #[.bool false,.bool false,.bool false,.bool false,.bool false,.bool false,.bool false,.bool false,.int .i64 0,.int .i64 0,.int .i64 0,.int .i64 0] 51 (0,0)) (by (with_reducible repeat (first|refine blk_drewN ?_ _|refine blk_drew ?_|refine blk_alloc ?_ _));exact BK216.out) hb);have n2_:=mkA (blk_below (g:=gb217) (o:=.cells #[.bool x218000_1,.bool x218001_1,.bool x218002_1,.bool x218003_1,.bool x218004_1,.bool x218005_1,.bool x218006_1,.bool x218007_1,.int .i64 x218008_1,.int .i64 x218009_1,.int .i64 x218010_1,.int .i64 x218011_1] 51 (0,0)) (by (with_reducible repeat (first|refine blk_drewN ?_ _|refine blk_drew ?_|refine blk_alloc ?_ _));exact BK217.out) hb);have n3_:=mkA (below_step (by repeat (first|(with_reducible first|exact HB.out|apply below_alloc|apply pw_below_drewN|apply below_drew1|refine below_set ?_ GE216.out|refine below_set ?_ GE217.out)|exact HB.out)) hb);clear HO_4;clear BK216;clear BK217;clear HB;have HO_4:=n0_;have BK216:=n1_;have BK217:=n2_;have HB:=n3_;clear n0_ n1_ n2_ n3_;(try clear hb);(try clear hb2);(try clear hk);(try clear hi);have hnb39:=NB217_216.out;have hnc39:=NB216_217.out;have hcz40_0:w38.cell? ⟨gb217,0,none⟩=some (.bool x218000_1):=(blk_cell BK217.out 0).trans rfl;have hcz40_1:w38.cell? ⟨gb217,1,none⟩=some (.bool x218001_1):=(blk_cell BK217.out 1).trans rfl;have hcz40_2:w38.cell? ⟨gb217,2,none⟩=some (.bool x218002_1):=(blk_cell BK217.out 2).trans rfl;have hcz40_3:w38.cell? ⟨gb217,3,none⟩=some (.bool x218003_1):=(blk_cell BK217.out 3).trans rfl;have hcz40_4:w38.cell? ⟨gb217,4,none⟩=some (.bool x218004_1):=(blk_cell BK217.out 4).trans rfl;have hcz40_5:w38.cell? ⟨gb217,5,none⟩=some (.bool x218005_1):=(blk_cell BK217.out 5).trans rfl;have hcz40_6:w38.cell? ⟨gb217,6,none⟩=some (.bool x218006_1):=(blk_cell BK217.out 6).trans rfl;have hcz40_7:w38.cell? ⟨gb217,7,none⟩=some (.bool x218007_1):=(blk_cell BK217.out 7).trans rfl;have hcz40_8:w38.cell? ⟨gb217,8,none⟩=some (.int .i64 x218008_1):=(blk_cell BK217.out 8).trans rfl;have hcz40_9:w38.cell? ⟨gb217,9,none⟩=some (.int .i64 x218009_1):=(blk_cell BK217.out 9).trans rfl;have hcz40_10:w38.cell? ⟨gb217,10,none⟩=some (.int .i64 x218010_1):=(blk_cell BK217.out 10).trans rfl;have hcz40_11:w38.cell? ⟨gb217,11,none⟩=some (.int .i64 x218011_1):=(blk_cell BK217.out 11).trans rfl;have hfz40_0:=blk_frozen BK217.out 0;have hfz40_1:=blk_frozen BK217.out 1;have hfz40_2:=blk_frozen BK217.out 2;have hfz40_3:=blk_frozen BK217.out 3;have hfz40_4:=blk_frozen BK217.out 4;have hfz40_5:=blk_frozen BK217.out 5;have hfz40_6:=blk_frozen BK217.out 6;have hfz40_7:=blk_frozen BK217.out 7;have hfz40_8:=blk_frozen BK217.out 8;have hfz40_9:=blk_frozen BK217.out 9;have hfz40_10:=blk_frozen BK217.out 10;have hfz40_11:=blk_frozen BK217.out 11))
           go_roundg k1
           case measure=>have:=HK1.out;omega
           case rel=>exact ⟨(wrap64 (x5_1+1)),(x218000_1),(x218001_1),(x218002_1),(x218003_1),(x218004_1),(true),(x218006_1),(x218007_1),(x218008_1),(x218009_1),(x218010_1),(x218011_1),(by first|rfl|(simp;done)|(simp [*];done)),H',⟨by have:=HK1.out;omega⟩,⟨by (with_reducible repeat (first|apply Kd.R_alloc|apply Kd.R_drewN|apply Kd.R_drew));exact Kd.R_mono (Kd.R_far (p:=⟨gb217,5,none⟩) (Kd.R_types HO_4.out BK217.out (by decide)) (fun _ hk=>hk.2) (.bool true)) (fun _ hk=>trivial)⟩,⟨by (with_reducible repeat (first|refine blk_drewN ?_ _|refine blk_drew ?_|refine blk_alloc ?_ _));refine blk_far ?_ NB216_217.out _;(with_reducible repeat (first|refine blk_drewN ?_ _|refine blk_drew ?_|refine blk_alloc ?_ _));exact BK216.out⟩,⟨by (with_reducible repeat (first|refine blk_drewN ?_ _|refine blk_drew ?_|refine blk_alloc ?_ _));refine blk_put (cs:=#[.bool x218000_1,.bool x218001_1,.bool x218002_1,.bool x218003_1,.bool x218004_1,.bool x218005_1,.bool x218006_1,.bool x218007_1,.int .i64 x218008_1,.int .i64 x218009_1,.int .i64 x218010_1,.int .i64 x218011_1]) ?_ 5 _ rfl;(with_reducible repeat (first|refine blk_drewN ?_ _|refine blk_drew ?_|refine blk_alloc ?_ _));exact BK217.out⟩,⟨by repeat (first|(with_reducible first|exact HB.out|apply below_alloc|apply pw_below_drewN|apply below_drew1|refine below_set ?_ GE216.out|refine below_set ?_ GE217.out)|exact HB.out)⟩⟩
          ·rw [if_neg c36] at H
           have c36b0:(t222.toList == ([112,114,111,120,121,45,114,101,118,97,108,105,100,97,116,101]:List UInt8))=false:=beq_eq_false_iff_ne.mpr c36
           have c36b1:(t222.toList != ([112,114,111,120,121,45,114,101,118,97,108,105,100,97,116,101]:List UInt8))=true:=bne_iff_ne.mpr c36
           by_cases c41:t222.toList=([111,110,108,121,45,105,102,45,99,97,99,104,101,100]:List UInt8)
           ·rw [if_pos c41] at H
            have c41b0:(t222.toList == ([111,110,108,121,45,105,102,45,99,97,99,104,101,100]:List UInt8))=true:=beq_iff_eq.mpr c41
            have c41b1:(t222.toList != ([111,110,108,121,45,105,102,45,99,97,99,104,101,100]:List UInt8))=false:=bne_eq_false_iff_eq.mpr c41
            clear c41
            have H':=mkA H
            clear H
            obtain ⟨Ao42,co42,eo42⟩:=Kd.R_slice HO_4.out
            subst eo42
            have p221:0≤(x5_1:Int):=of_decide_eq_true (by first|(with_reducible assumption)|assumption)
            have q221:x5_1 < (t218.length:Int):=of_decide_eq_true (by first|(with_reducible assumption)|assumption)
            obtain ⟨ad221,e221,hx221_0⟩:=Kd.at_string (Kd.R_reads' HO_4.out).2.2 x5_1 p221 q221
            cases e221
            replace p221:=eq_true p221
            replace q221:=eq_true q221
            go_wp2_with (first|((with_reducible refine gate_callee (f:=56) rfl ?_);refine goesL_ (some 27) rfl rfl Tryz.func56 (by kernel_rfl) rfl #[.string (rdOf ByteArray.empty t218 x5_1)] rfl (by (try simp only [List.map_toArray,List.map_cons,List.map_nil]);first|done|rfl|(simp only [List.length_drop,List.length_take];rfl)) ?_;(with_reducible refine (ambryref13_value.calls k1 (rdOf ByteArray.empty t218 x5_1) t222 t223 t224 _ A10.out).mono ?_);rintro e w43 ⟨rfl,hb⟩;refine ⟨_,rfl,?_⟩;have n0_:=mkA (Kd.R_below (by (with_reducible repeat (first|apply Kd.R_alloc|apply Kd.R_drewN|apply Kd.R_drew));exact HO_4.out) hb);have n1_:=mkA (blk_below (g:=gb216) (o:=.cells #[.bool false,.bool false,.bool false,.bool false,.bool false,.bool false,.bool false,.bool false,.int .i64 0,.int .i64 0,.int .i64 0,.int .i64 0] 51 (0,0)) (by (with_reducible repeat (first|refine blk_drewN ?_ _|refine blk_drew ?_|refine blk_alloc ?_ _));exact BK216.out) hb);have n2_:=mkA (blk_below (g:=gb217) (o:=.cells #[.bool x218000_1,.bool x218001_1,.bool x218002_1,.bool x218003_1,.bool x218004_1,.bool x218005_1,.bool x218006_1,.bool x218007_1,.int .i64 x218008_1,.int .i64 x218009_1,.int .i64 x218010_1,.int .i64 x218011_1] 51 (0,0)) (by (with_reducible repeat (first|refine blk_drewN ?_ _|refine blk_drew ?_|refine blk_alloc ?_ _));exact BK217.out) hb);have n3_:=mkA (below_step (by repeat (first|(with_reducible first|exact HB.out|apply below_alloc|apply pw_below_drewN|apply below_drew1|refine below_set ?_ GE216.out|refine below_set ?_ GE217.out)|exact HB.out)) hb);clear HO_4;clear BK216;clear BK217;clear HB;have HO_4:=n0_;have BK216:=n1_;have BK217:=n2_;have HB:=n3_;clear n0_ n1_ n2_ n3_;(try clear hb);(try clear hb2);(try clear hk);(try clear hi);have hnb44:=NB217_216.out;have hnc44:=NB216_217.out;have hcz45_0:w43.cell? ⟨gb217,0,none⟩=some (.bool x218000_1):=(blk_cell BK217.out 0).trans rfl;have hcz45_1:w43.cell? ⟨gb217,1,none⟩=some (.bool x218001_1):=(blk_cell BK217.out 1).trans rfl;have hcz45_2:w43.cell? ⟨gb217,2,none⟩=some (.bool x218002_1):=(blk_cell BK217.out 2).trans rfl;have hcz45_3:w43.cell? ⟨gb217,3,none⟩=some (.bool x218003_1):=(blk_cell BK217.out 3).trans rfl;have hcz45_4:w43.cell? ⟨gb217,4,none⟩=some (.bool x218004_1):=(blk_cell BK217.out 4).trans rfl;have hcz45_5:w43.cell? ⟨gb217,5,none⟩=some (.bool x218005_1):=(blk_cell BK217.out 5).trans rfl;have hcz45_6:w43.cell? ⟨gb217,6,none⟩=some (.bool x218006_1):=(blk_cell BK217.out 6).trans rfl;have hcz45_7:w43.cell? ⟨gb217,7,none⟩=some (.bool x218007_1):=(blk_cell BK217.out 7).trans rfl;have hcz45_8:w43.cell? ⟨gb217,8,none⟩=some (.int .i64 x218008_1):=(blk_cell BK217.out 8).trans rfl;have hcz45_9:w43.cell? ⟨gb217,9,none⟩=some (.int .i64 x218009_1):=(blk_cell BK217.out 9).trans rfl;have hcz45_10:w43.cell? ⟨gb217,10,none⟩=some (.int .i64 x218010_1):=(blk_cell BK217.out 10).trans rfl;have hcz45_11:w43.cell? ⟨gb217,11,none⟩=some (.int .i64 x218011_1):=(blk_cell BK217.out 11).trans rfl;have hfz45_0:=blk_frozen BK217.out 0;have hfz45_1:=blk_frozen BK217.out 1;have hfz45_2:=blk_frozen BK217.out 2;have hfz45_3:=blk_frozen BK217.out 3;have hfz45_4:=blk_frozen BK217.out 4;have hfz45_5:=blk_frozen BK217.out 5;have hfz45_6:=blk_frozen BK217.out 6;have hfz45_7:=blk_frozen BK217.out 7;have hfz45_8:=blk_frozen BK217.out 8;have hfz45_9:=blk_frozen BK217.out 9;have hfz45_10:=blk_frozen BK217.out 10;have hfz45_11:=blk_frozen BK217.out 11))
            go_roundg k1
            case measure=>have:=HK1.out;omega
            case rel=>exact ⟨(wrap64 (x5_1+1)),(x218000_1),(x218001_1),(x218002_1),(x218003_1),(x218004_1),(x218005_1),(true),(x218007_1),(x218008_1),(x218009_1),(x218010_1),(x218011_1),(by first|rfl|(simp;done)|(simp [*];done)),H',⟨by have:=HK1.out;omega⟩,⟨by (with_reducible repeat (first|apply Kd.R_alloc|apply Kd.R_drewN|apply Kd.R_drew));exact Kd.R_mono (Kd.R_far (p:=⟨gb217,6,none⟩) (Kd.R_types HO_4.out BK217.out (by decide)) (fun _ hk=>hk.2) (.bool true)) (fun _ hk=>trivial)⟩,⟨by (with_reducible repeat (first|refine blk_drewN ?_ _|refine blk_drew ?_|refine blk_alloc ?_ _));refine blk_far ?_ NB216_217.out _;(with_reducible repeat (first|refine blk_drewN ?_ _|refine blk_drew ?_|refine blk_alloc ?_ _));exact BK216.out⟩,⟨by (with_reducible repeat (first|refine blk_drewN ?_ _|refine blk_drew ?_|refine blk_alloc ?_ _));refine blk_put (cs:=#[.bool x218000_1,.bool x218001_1,.bool x218002_1,.bool x218003_1,.bool x218004_1,.bool x218005_1,.bool x218006_1,.bool x218007_1,.int .i64 x218008_1,.int .i64 x218009_1,.int .i64 x218010_1,.int .i64 x218011_1]) ?_ 6 _ rfl;(with_reducible repeat (first|refine blk_drewN ?_ _|refine blk_drew ?_|refine blk_alloc ?_ _));exact BK217.out⟩,⟨by repeat (first|(with_reducible first|exact HB.out|apply below_alloc|apply pw_below_drewN|apply below_drew1|refine below_set ?_ GE216.out|refine below_set ?_ GE217.out)|exact HB.out)⟩⟩
           ·rw [if_neg c41] at H
            have c41b0:(t222.toList == ([111,110,108,121,45,105,102,45,99,97,99,104,101,100]:List UInt8))=false:=beq_eq_false_iff_ne.mpr c41
            have c41b1:(t222.toList != ([111,110,108,121,45,105,102,45,99,97,99,104,101,100]:List UInt8))=true:=bne_iff_ne.mpr c41
            by_cases c46:t222.toList=([109,97,120,45,97,103,101]:List UInt8)
            ·rw [if_pos c46] at H
             have c46b0:(t222.toList == ([109,97,120,45,97,103,101]:List UInt8))=true:=beq_iff_eq.mpr c46
             have c46b1:(t222.toList != ([109,97,120,45,97,103,101]:List UInt8))=false:=bne_eq_false_iff_eq.mpr c46
             clear c46
             replace H:=Option.bind_eq_some_iff.mp H
             obtain ⟨t225,A470,H⟩:=H
             replace H:(ambryref13_Control.l0 k1 l0 t218 (wrap64 (x5_1+1)) x218000_1 x218001_1 x218002_1 x218003_1 x218004_1 x218005_1 x218006_1 x218007_1 t225 x218009_1 x218010_1 x218011_1)=some (r1,r2,r3,r4,r5,r6,r7,r8,r9,r10,r11,r12):=H
             have A47:=mkA A470
             clear A470
             have H':=mkA H
             clear H
             obtain ⟨Ao48,co48,eo48⟩:=Kd.R_slice HO_4.out
             subst eo48
             have p221:0≤(x5_1:Int):=of_decide_eq_true (by first|(with_reducible assumption)|assumption)
             have q221:x5_1 < (t218.length:Int):=of_decide_eq_true (by first|(with_reducible assumption)|assumption)
             obtain ⟨ad221,e221,hx221_0⟩:=Kd.at_string (Kd.R_reads' HO_4.out).2.2 x5_1 p221 q221
             cases e221
             replace p221:=eq_true p221
             replace q221:=eq_true q221
             go_wp2_with (first|((with_reducible refine gate_callee (f:=56) rfl ?_);refine goesL_ (some 27) rfl rfl Tryz.func56 (by kernel_rfl) rfl #[.string (rdOf ByteArray.empty t218 x5_1)] rfl (by (try simp only [List.map_toArray,List.map_cons,List.map_nil]);first|done|rfl|(simp only [List.length_drop,List.length_take];rfl)) ?_;(with_reducible refine (ambryref13_value.calls k1 (rdOf ByteArray.empty t218 x5_1) t222 t223 t224 _ A10.out).mono ?_);rintro e w49 ⟨rfl,hb⟩;refine ⟨_,rfl,?_⟩;have n0_:=mkA (Kd.R_below (by (with_reducible repeat (first|apply Kd.R_alloc|apply Kd.R_drewN|apply Kd.R_drew));exact HO_4.out) hb);have n1_:=mkA (blk_below (g:=gb216) (o:=.cells #[.bool false,.bool false,.bool false,.bool false,.bool false,.bool false,.bool false,.bool false,.int .i64 0,.int .i64 0,.int .i64 0,.int .i64 0] 51 (0,0)) (by (with_reducible repeat (first|refine blk_drewN ?_ _|refine blk_drew ?_|refine blk_alloc ?_ _));exact BK216.out) hb);have n2_:=mkA (blk_below (g:=gb217) (o:=.cells #[.bool x218000_1,.bool x218001_1,.bool x218002_1,.bool x218003_1,.bool x218004_1,.bool x218005_1,.bool x218006_1,.bool x218007_1,.int .i64 x218008_1,.int .i64 x218009_1,.int .i64 x218010_1,.int .i64 x218011_1] 51 (0,0)) (by (with_reducible repeat (first|refine blk_drewN ?_ _|refine blk_drew ?_|refine blk_alloc ?_ _));exact BK217.out) hb);have n3_:=mkA (below_step (by repeat (first|(with_reducible first|exact HB.out|apply below_alloc|apply pw_below_drewN|apply below_drew1|refine below_set ?_ GE216.out|refine below_set ?_ GE217.out)|exact HB.out)) hb);clear HO_4;clear BK216;clear BK217;clear HB;have HO_4:=n0_;have BK216:=n1_;have BK217:=n2_;have HB:=n3_;clear n0_ n1_ n2_ n3_;(try clear hb);(try clear hb2);(try clear hk);(try clear hi);have hnb50:=NB217_216.out;have hnc50:=NB216_217.out;have hcz51_0:w49.cell? ⟨gb217,0,none⟩=some (.bool x218000_1):=(blk_cell BK217.out 0).trans rfl;have hcz51_1:w49.cell? ⟨gb217,1,none⟩=some (.bool x218001_1):=(blk_cell BK217.out 1).trans rfl;have hcz51_2:w49.cell? ⟨gb217,2,none⟩=some (.bool x218002_1):=(blk_cell BK217.out 2).trans rfl;have hcz51_3:w49.cell? ⟨gb217,3,none⟩=some (.bool x218003_1):=(blk_cell BK217.out 3).trans rfl;have hcz51_4:w49.cell? ⟨gb217,4,none⟩=some (.bool x218004_1):=(blk_cell BK217.out 4).trans rfl;have hcz51_5:w49.cell? ⟨gb217,5,none⟩=some (.bool x218005_1):=(blk_cell BK217.out 5).trans rfl;have hcz51_6:w49.cell? ⟨gb217,6,none⟩=some (.bool x218006_1):=(blk_cell BK217.out 6).trans rfl;have hcz51_7:w49.cell? ⟨gb217,7,none⟩=some (.bool x218007_1):=(blk_cell BK217.out 7).trans rfl;have hcz51_8:w49.cell? ⟨gb217,8,none⟩=some (.int .i64 x218008_1):=(blk_cell BK217.out 8).trans rfl;have hcz51_9:w49.cell? ⟨gb217,9,none⟩=some (.int .i64 x218009_1):=(blk_cell BK217.out 9).trans rfl;have hcz51_10:w49.cell? ⟨gb217,10,none⟩=some (.int .i64 x218010_1):=(blk_cell BK217.out 10).trans rfl;have hcz51_11:w49.cell? ⟨gb217,11,none⟩=some (.int .i64 x218011_1):=(blk_cell BK217.out 11).trans rfl;have hfz51_0:=blk_frozen BK217.out 0;have hfz51_1:=blk_frozen BK217.out 1;have hfz51_2:=blk_frozen BK217.out 2;have hfz51_3:=blk_frozen BK217.out 3;have hfz51_4:=blk_frozen BK217.out 4;have hfz51_5:=blk_frozen BK217.out 5;have hfz51_6:=blk_frozen BK217.out 6;have hfz51_7:=blk_frozen BK217.out 7;have hfz51_8:=blk_frozen BK217.out 8;have hfz51_9:=blk_frozen BK217.out 9;have hfz51_10:=blk_frozen BK217.out 10;have hfz51_11:=blk_frozen BK217.out 11)|((with_reducible refine gate_callee (f:=57) rfl ?_);refine goesL_ (some 58) rfl rfl Tryz.func57 (by kernel_rfl) rfl #[.int .i64 x218008_1,.string t223] rfl (by (try simp only [List.map_toArray,List.map_cons,List.map_nil]);first|done|rfl|(simp only [List.length_drop,List.length_take];rfl)) ?_;(with_reducible refine (ambryref13_least.calls k1 x218008_1 t223 t225 _ A47.out).mono ?_);rintro e w52 ⟨rfl,hb⟩;refine ⟨_,rfl,?_⟩;have n0_:=mkA (Kd.R_below (by (with_reducible repeat (first|apply Kd.R_alloc|apply Kd.R_drewN|apply Kd.R_drew));exact HO_4.out) hb);have n1_:=mkA (blk_below (g:=gb216) (o:=.cells #[.bool false,.bool false,.bool false,.bool false,.bool false,.bool false,.bool false,.bool false,.int .i64 0,.int .i64 0,.int .i64 0,.int .i64 0] 51 (0,0)) (by (with_reducible repeat (first|refine blk_drewN ?_ _|refine blk_drew ?_|refine blk_alloc ?_ _));exact BK216.out) hb);have n2_:=mkA (blk_below (g:=gb217) (o:=.cells #[.bool x218000_1,.bool x218001_1,.bool x218002_1,.bool x218003_1,.bool x218004_1,.bool x218005_1,.bool x218006_1,.bool x218007_1,.int .i64 x218008_1,.int .i64 x218009_1,.int .i64 x218010_1,.int .i64 x218011_1] 51 (0,0)) (by (with_reducible repeat (first|refine blk_drewN ?_ _|refine blk_drew ?_|refine blk_alloc ?_ _));exact BK217.out) hb);have n3_:=mkA (below_step (by repeat (first|(with_reducible first|exact HB.out|apply below_alloc|apply pw_below_drewN|apply below_drew1|refine below_set ?_ GE216.out|refine below_set ?_ GE217.out)|exact HB.out)) hb);clear HO_4;clear BK216;clear BK217;clear HB;have HO_4:=n0_;have BK216:=n1_;have BK217:=n2_;have HB:=n3_;clear n0_ n1_ n2_ n3_;(try clear hb);(try clear hb2);(try clear hk);(try clear hi);have hcz53_0:w52.cell? ⟨gb217,0,none⟩=some (.bool x218000_1):=(blk_cell BK217.out 0).trans rfl;have hcz53_1:w52.cell? ⟨gb217,1,none⟩=some (.bool x218001_1):=(blk_cell BK217.out 1).trans rfl;have hcz53_2:w52.cell? ⟨gb217,2,none⟩=some (.bool x218002_1):=(blk_cell BK217.out 2).trans rfl;have hcz53_3:w52.cell? ⟨gb217,3,none⟩=some (.bool x218003_1):=(blk_cell BK217.out 3).trans rfl;have hcz53_4:w52.cell? ⟨gb217,4,none⟩=some (.bool x218004_1):=(blk_cell BK217.out 4).trans rfl;have hcz53_5:w52.cell? ⟨gb217,5,none⟩=some (.bool x218005_1):=(blk_cell BK217.out 5).trans rfl;have hcz53_6:w52.cell? ⟨gb217,6,none⟩=some (.bool x218006_1):=(blk_cell BK217.out 6).trans rfl;have hcz53_7:w52.cell? ⟨gb217,7,none⟩=some (.bool x218007_1):=(blk_cell BK217.out 7).trans rfl;have hcz53_8:w52.cell? ⟨gb217,8,none⟩=some (.int .i64 x218008_1):=(blk_cell BK217.out 8).trans rfl;have hcz53_9:w52.cell? ⟨gb217,9,none⟩=some (.int .i64 x218009_1):=(blk_cell BK217.out 9).trans rfl;have hcz53_10:w52.cell? ⟨gb217,10,none⟩=some (.int .i64 x218010_1):=(blk_cell BK217.out 10).trans rfl;have hcz53_11:w52.cell? ⟨gb217,11,none⟩=some (.int .i64 x218011_1):=(blk_cell BK217.out 11).trans rfl;have hfz53_0:=blk_frozen BK217.out 0;have hfz53_1:=blk_frozen BK217.out 1;have hfz53_2:=blk_frozen BK217.out 2;have hfz53_3:=blk_frozen BK217.out 3;have hfz53_4:=blk_frozen BK217.out 4;have hfz53_5:=blk_frozen BK217.out 5;have hfz53_6:=blk_frozen BK217.out 6;have hfz53_7:=blk_frozen BK217.out 7;have hfz53_8:=blk_frozen BK217.out 8;have hfz53_9:=blk_frozen BK217.out 9;have hfz53_10:=blk_frozen BK217.out 10;have hfz53_11:=blk_frozen BK217.out 11))
             go_roundg k1
             case measure=>have:=HK1.out;omega
             case rel=>exact ⟨(wrap64 (x5_1+1)),(x218000_1),(x218001_1),(x218002_1),(x218003_1),(x218004_1),(x218005_1),(x218006_1),(x218007_1),(t225),(x218009_1),(x218010_1),(x218011_1),(by first|rfl|(simp;done)|(simp [*];done)),H',⟨by have:=HK1.out;omega⟩,⟨by (with_reducible repeat (first|apply Kd.R_alloc|apply Kd.R_drewN|apply Kd.R_drew));exact Kd.R_mono (Kd.R_far (p:=⟨gb217,8,none⟩) (Kd.R_types HO_4.out BK217.out (by decide)) (fun _ hk=>hk.2) (.int .i64 t225)) (fun _ hk=>trivial)⟩,⟨by (with_reducible repeat (first|refine blk_drewN ?_ _|refine blk_drew ?_|refine blk_alloc ?_ _));refine blk_far ?_ NB216_217.out _;(with_reducible repeat (first|refine blk_drewN ?_ _|refine blk_drew ?_|refine blk_alloc ?_ _));exact BK216.out⟩,⟨by (with_reducible repeat (first|refine blk_drewN ?_ _|refine blk_drew ?_|refine blk_alloc ?_ _));refine blk_put (cs:=#[.bool x218000_1,.bool x218001_1,.bool x218002_1,.bool x218003_1,.bool x218004_1,.bool x218005_1,.bool x218006_1,.bool x218007_1,.int .i64 x218008_1,.int .i64 x218009_1,.int .i64 x218010_1,.int .i64 x218011_1]) ?_ 8 _ rfl;(with_reducible repeat (first|refine blk_drewN ?_ _|refine blk_drew ?_|refine blk_alloc ?_ _));exact BK217.out⟩,⟨by repeat (first|(with_reducible first|exact HB.out|apply below_alloc|apply pw_below_drewN|apply below_drew1|refine below_set ?_ GE216.out|refine below_set ?_ GE217.out)|exact HB.out)⟩⟩
            ·rw [if_neg c46] at H
             have c46b0:(t222.toList == ([109,97,120,45,97,103,101]:List UInt8))=false:=beq_eq_false_iff_ne.mpr c46
             have c46b1:(t222.toList != ([109,97,120,45,97,103,101]:List UInt8))=true:=bne_iff_ne.mpr c46
             by_cases c54:t222.toList=([115,45,109,97,120,97,103,101]:List UInt8)
             ·rw [if_pos c54] at H
              have c54b0:(t222.toList == ([115,45,109,97,120,97,103,101]:List UInt8))=true:=beq_iff_eq.mpr c54
              have c54b1:(t222.toList != ([115,45,109,97,120,97,103,101]:List UInt8))=false:=bne_eq_false_iff_eq.mpr c54
              clear c54
              replace H:=Option.bind_eq_some_iff.mp H
              obtain ⟨t226,A550,H⟩:=H
              replace H:(ambryref13_Control.l0 k1 l0 t218 (wrap64 (x5_1+1)) x218000_1 x218001_1 x218002_1 x218003_1 x218004_1 x218005_1 x218006_1 x218007_1 x218008_1 t226 x218010_1 x218011_1)=some (r1,r2,r3,r4,r5,r6,r7,r8,r9,r10,r11,r12):=H
              have A55:=mkA A550
              clear A550
              have H':=mkA H
              clear H
              obtain ⟨Ao56,co56,eo56⟩:=Kd.R_slice HO_4.out
              subst eo56
              have p221:0≤(x5_1:Int):=of_decide_eq_true (by first|(with_reducible assumption)|assumption)
              have q221:x5_1 < (t218.length:Int):=of_decide_eq_true (by first|(with_reducible assumption)|assumption)
              obtain ⟨ad221,e221,hx221_0⟩:=Kd.at_string (Kd.R_reads' HO_4.out).2.2 x5_1 p221 q221
              cases e221
              replace p221:=eq_true p221
              replace q221:=eq_true q221
              go_wp2_with (first|((with_reducible refine gate_callee (f:=56) rfl ?_);refine goesL_ (some 27) rfl rfl Tryz.func56 (by kernel_rfl) rfl #[.string (rdOf ByteArray.empty t218 x5_1)] rfl (by (try simp only [List.map_toArray,List.map_cons,List.map_nil]);first|done|rfl|(simp only [List.length_drop,List.length_take];rfl)) ?_;(with_reducible refine (ambryref13_value.calls k1 (rdOf ByteArray.empty t218 x5_1) t222 t223 t224 _ A10.out).mono ?_);rintro e w57 ⟨rfl,hb⟩;refine ⟨_,rfl,?_⟩;have n0_:=mkA (Kd.R_below (by (with_reducible repeat (first|apply Kd.R_alloc|apply Kd.R_drewN|apply Kd.R_drew));exact HO_4.out) hb);have n1_:=mkA (blk_below (g:=gb216) (o:=.cells #[.bool false,.bool false,.bool false,.bool false,.bool false,.bool false,.bool false,.bool false,.int .i64 0,.int .i64 0,.int .i64 0,.int .i64 0] 51 (0,0)) (by (with_reducible repeat (first|refine blk_drewN ?_ _|refine blk_drew ?_|refine blk_alloc ?_ _));exact BK216.out) hb);have n2_:=mkA (blk_below (g:=gb217) (o:=.cells #[.bool x218000_1,.bool x218001_1,.bool x218002_1,.bool x218003_1,.bool x218004_1,.bool x218005_1,.bool x218006_1,.bool x218007_1,.int .i64 x218008_1,.int .i64 x218009_1,.int .i64 x218010_1,.int .i64 x218011_1] 51 (0,0)) (by (with_reducible repeat (first|refine blk_drewN ?_ _|refine blk_drew ?_|refine blk_alloc ?_ _));exact BK217.out) hb);have n3_:=mkA (below_step (by repeat (first|(with_reducible first|exact HB.out|apply below_alloc|apply pw_below_drewN|apply below_drew1|refine below_set ?_ GE216.out|refine below_set ?_ GE217.out)|exact HB.out)) hb);clear HO_4;clear BK216;clear BK217;clear HB;have HO_4:=n0_;have BK216:=n1_;have BK217:=n2_;have HB:=n3_;clear n0_ n1_ n2_ n3_;(try clear hb);(try clear hb2);(try clear hk);(try clear hi);have hnb58:=NB217_216.out;have hnc58:=NB216_217.out;have hcz59_0:w57.cell? ⟨gb217,0,none⟩=some (.bool x218000_1):=(blk_cell BK217.out 0).trans rfl;have hcz59_1:w57.cell? ⟨gb217,1,none⟩=some (.bool x218001_1):=(blk_cell BK217.out 1).trans rfl;have hcz59_2:w57.cell? ⟨gb217,2,none⟩=some (.bool x218002_1):=(blk_cell BK217.out 2).trans rfl;have hcz59_3:w57.cell? ⟨gb217,3,none⟩=some (.bool x218003_1):=(blk_cell BK217.out 3).trans rfl;have hcz59_4:w57.cell? ⟨gb217,4,none⟩=some (.bool x218004_1):=(blk_cell BK217.out 4).trans rfl;have hcz59_5:w57.cell? ⟨gb217,5,none⟩=some (.bool x218005_1):=(blk_cell BK217.out 5).trans rfl;have hcz59_6:w57.cell? ⟨gb217,6,none⟩=some (.bool x218006_1):=(blk_cell BK217.out 6).trans rfl;have hcz59_7:w57.cell? ⟨gb217,7,none⟩=some (.bool x218007_1):=(blk_cell BK217.out 7).trans rfl;have hcz59_8:w57.cell? ⟨gb217,8,none⟩=some (.int .i64 x218008_1):=(blk_cell BK217.out 8).trans rfl;have hcz59_9:w57.cell? ⟨gb217,9,none⟩=some (.int .i64 x218009_1):=(blk_cell BK217.out 9).trans rfl;have hcz59_10:w57.cell? ⟨gb217,10,none⟩=some (.int .i64 x218010_1):=(blk_cell BK217.out 10).trans rfl;have hcz59_11:w57.cell? ⟨gb217,11,none⟩=some (.int .i64 x218011_1):=(blk_cell BK217.out 11).trans rfl;have hfz59_0:=blk_frozen BK217.out 0;have hfz59_1:=blk_frozen BK217.out 1;have hfz59_2:=blk_frozen BK217.out 2;have hfz59_3:=blk_frozen BK217.out 3;have hfz59_4:=blk_frozen BK217.out 4;have hfz59_5:=blk_frozen BK217.out 5;have hfz59_6:=blk_frozen BK217.out 6;have hfz59_7:=blk_frozen BK217.out 7;have hfz59_8:=blk_frozen BK217.out 8;have hfz59_9:=blk_frozen BK217.out 9;have hfz59_10:=blk_frozen BK217.out 10;have hfz59_11:=blk_frozen BK217.out 11)|((with_reducible refine gate_callee (f:=57) rfl ?_);refine goesL_ (some 65) rfl rfl Tryz.func57 (by kernel_rfl) rfl #[.int .i64 x218009_1,.string t223] rfl (by (try simp only [List.map_toArray,List.map_cons,List.map_nil]);first|done|rfl|(simp only [List.length_drop,List.length_take];rfl)) ?_;(with_reducible refine (ambryref13_least.calls k1 x218009_1 t223 t226 _ A55.out).mono ?_);rintro e w60 ⟨rfl,hb⟩;refine ⟨_,rfl,?_⟩;have n0_:=mkA (Kd.R_below (by (with_reducible repeat (first|apply Kd.R_alloc|apply Kd.R_drewN|apply Kd.R_drew));exact HO_4.out) hb);have n1_:=mkA (blk_below (g:=gb216) (o:=.cells #[.bool false,.bool false,.bool false,.bool false,.bool false,.bool false,.bool false,.bool false,.int .i64 0,.int .i64 0,.int .i64 0,.int .i64 0] 51 (0,0)) (by (with_reducible repeat (first|refine blk_drewN ?_ _|refine blk_drew ?_|refine blk_alloc ?_ _));exact BK216.out) hb);have n2_:=mkA (blk_below (g:=gb217) (o:=.cells #[.bool x218000_1,.bool x218001_1,.bool x218002_1,.bool x218003_1,.bool x218004_1,.bool x218005_1,.bool x218006_1,.bool x218007_1,.int .i64 x218008_1,.int .i64 x218009_1,.int .i64 x218010_1,.int .i64 x218011_1] 51 (0,0)) (by (with_reducible repeat (first|refine blk_drewN ?_ _|refine blk_drew ?_|refine blk_alloc ?_ _));exact BK217.out) hb);have n3_:=mkA (below_step (by repeat (first|(with_reducible first|exact HB.out|apply below_alloc|apply pw_below_drewN|apply below_drew1|refine below_set ?_ GE216.out|refine below_set ?_ GE217.out)|exact HB.out)) hb);clear HO_4;clear BK216;clear BK217;clear HB;have HO_4:=n0_;have BK216:=n1_;have BK217:=n2_;have HB:=n3_;clear n0_ n1_ n2_ n3_;(try clear hb);(try clear hb2);(try clear hk);(try clear hi);have hcz61_0:w60.cell? ⟨gb217,0,none⟩=some (.bool x218000_1):=(blk_cell BK217.out 0).trans rfl;have hcz61_1:w60.cell? ⟨gb217,1,none⟩=some (.bool x218001_1):=(blk_cell BK217.out 1).trans rfl;have hcz61_2:w60.cell? ⟨gb217,2,none⟩=some (.bool x218002_1):=(blk_cell BK217.out 2).trans rfl;have hcz61_3:w60.cell? ⟨gb217,3,none⟩=some (.bool x218003_1):=(blk_cell BK217.out 3).trans rfl;have hcz61_4:w60.cell? ⟨gb217,4,none⟩=some (.bool x218004_1):=(blk_cell BK217.out 4).trans rfl;have hcz61_5:w60.cell? ⟨gb217,5,none⟩=some (.bool x218005_1):=(blk_cell BK217.out 5).trans rfl;have hcz61_6:w60.cell? ⟨gb217,6,none⟩=some (.bool x218006_1):=(blk_cell BK217.out 6).trans rfl;have hcz61_7:w60.cell? ⟨gb217,7,none⟩=some (.bool x218007_1):=(blk_cell BK217.out 7).trans rfl;have hcz61_8:w60.cell? ⟨gb217,8,none⟩=some (.int .i64 x218008_1):=(blk_cell BK217.out 8).trans rfl;have hcz61_9:w60.cell? ⟨gb217,9,none⟩=some (.int .i64 x218009_1):=(blk_cell BK217.out 9).trans rfl;have hcz61_10:w60.cell? ⟨gb217,10,none⟩=some (.int .i64 x218010_1):=(blk_cell BK217.out 10).trans rfl;have hcz61_11:w60.cell? ⟨gb217,11,none⟩=some (.int .i64 x218011_1):=(blk_cell BK217.out 11).trans rfl;have hfz61_0:=blk_frozen BK217.out 0;have hfz61_1:=blk_frozen BK217.out 1;have hfz61_2:=blk_frozen BK217.out 2;have hfz61_3:=blk_frozen BK217.out 3;have hfz61_4:=blk_frozen BK217.out 4;have hfz61_5:=blk_frozen BK217.out 5;have hfz61_6:=blk_frozen BK217.out 6;have hfz61_7:=blk_frozen BK217.out 7;have hfz61_8:=blk_frozen BK217.out 8;have hfz61_9:=blk_frozen BK217.out 9;have hfz61_10:=blk_frozen BK217.out 10;have hfz61_11:=blk_frozen BK217.out 11))
              go_roundg k1
              case measure=>have:=HK1.out;omega
              case rel=>exact ⟨(wrap64 (x5_1+1)),(x218000_1),(x218001_1),(x218002_1),(x218003_1),(x218004_1),(x218005_1),(x218006_1),(x218007_1),(x218008_1),(t226),(x218010_1),(x218011_1),(by first|rfl|(simp;done)|(simp [*];done)),H',⟨by have:=HK1.out;omega⟩,⟨by (with_reducible repeat (first|apply Kd.R_alloc|apply Kd.R_drewN|apply Kd.R_drew));exact Kd.R_mono (Kd.R_far (p:=⟨gb217,9,none⟩) (Kd.R_types HO_4.out BK217.out (by decide)) (fun _ hk=>hk.2) (.int .i64 t226)) (fun _ hk=>trivial)⟩,⟨by (with_reducible repeat (first|refine blk_drewN ?_ _|refine blk_drew ?_|refine blk_alloc ?_ _));refine blk_far ?_ NB216_217.out _;(with_reducible repeat (first|refine blk_drewN ?_ _|refine blk_drew ?_|refine blk_alloc ?_ _));exact BK216.out⟩,⟨by (with_reducible repeat (first|refine blk_drewN ?_ _|refine blk_drew ?_|refine blk_alloc ?_ _));refine blk_put (cs:=#[.bool x218000_1,.bool x218001_1,.bool x218002_1,.bool x218003_1,.bool x218004_1,.bool x218005_1,.bool x218006_1,.bool x218007_1,.int .i64 x218008_1,.int .i64 x218009_1,.int .i64 x218010_1,.int .i64 x218011_1]) ?_ 9 _ rfl;(with_reducible repeat (first|refine blk_drewN ?_ _|refine blk_drew ?_|refine blk_alloc ?_ _));exact BK217.out⟩,⟨by repeat (first|(with_reducible first|exact HB.out|apply below_alloc|apply pw_below_drewN|apply below_drew1|refine below_set ?_ GE216.out|refine below_set ?_ GE217.out)|exact HB.out)⟩⟩
             ·rw [if_neg c54] at H
              have c54b0:(t222.toList == ([115,45,109,97,120,97,103,101]:List UInt8))=false:=beq_eq_false_iff_ne.mpr c54
              have c54b1:(t222.toList != ([115,45,109,97,120,97,103,101]:List UInt8))=true:=bne_iff_ne.mpr c54
              by_cases c62:t222.toList=([109,105,110,45,102,114,101,115,104]:List UInt8)
              ·rw [if_pos c62] at H
               have c62b0:(t222.toList == ([109,105,110,45,102,114,101,115,104]:List UInt8))=true:=beq_iff_eq.mpr c62
               have c62b1:(t222.toList != ([109,105,110,45,102,114,101,115,104]:List UInt8))=false:=bne_eq_false_iff_eq.mpr c62
               clear c62
               replace H:=Option.bind_eq_some_iff.mp H
               obtain ⟨t227,A630,H⟩:=H
               replace H:(ambryref13_Control.l0 k1 l0 t218 (wrap64 (x5_1+1)) x218000_1 x218001_1 x218002_1 x218003_1 x218004_1 x218005_1 x218006_1 x218007_1 x218008_1 x218009_1 t227 x218011_1)=some (r1,r2,r3,r4,r5,r6,r7,r8,r9,r10,r11,r12):=H
               have A63:=mkA A630
               clear A630
               have H':=mkA H
               clear H
               obtain ⟨Ao64,co64,eo64⟩:=Kd.R_slice HO_4.out
               subst eo64
               have p221:0≤(x5_1:Int):=of_decide_eq_true (by first|(with_reducible assumption)|assumption)
               have q221:x5_1 < (t218.length:Int):=of_decide_eq_true (by first|(with_reducible assumption)|assumption)
               obtain ⟨ad221,e221,hx221_0⟩:=Kd.at_string (Kd.R_reads' HO_4.out).2.2 x5_1 p221 q221
               cases e221
               replace p221:=eq_true p221
               replace q221:=eq_true q221
               go_wp2_with (first|((with_reducible refine gate_callee (f:=56) rfl ?_);refine goesL_ (some 27) rfl rfl Tryz.func56 (by kernel_rfl) rfl #[.string (rdOf ByteArray.empty t218 x5_1)] rfl (by (try simp only [List.map_toArray,List.map_cons,List.map_nil]);first|done|rfl|(simp only [List.length_drop,List.length_take];rfl)) ?_;(with_reducible refine (ambryref13_value.calls k1 (rdOf ByteArray.empty t218 x5_1) t222 t223 t224 _ A10.out).mono ?_);rintro e w65 ⟨rfl,hb⟩;refine ⟨_,rfl,?_⟩;have n0_:=mkA (Kd.R_below (by (with_reducible repeat (first|apply Kd.R_alloc|apply Kd.R_drewN|apply Kd.R_drew));exact HO_4.out) hb);have n1_:=mkA (blk_below (g:=gb216) (o:=.cells #[.bool false,.bool false,.bool false,.bool false,.bool false,.bool false,.bool false,.bool false,.int .i64 0,.int .i64 0,.int .i64 0,.int .i64 0] 51 (0,0)) (by (with_reducible repeat (first|refine blk_drewN ?_ _|refine blk_drew ?_|refine blk_alloc ?_ _));exact BK216.out) hb);have n2_:=mkA (blk_below (g:=gb217) (o:=.cells #[.bool x218000_1,.bool x218001_1,.bool x218002_1,.bool x218003_1,.bool x218004_1,.bool x218005_1,.bool x218006_1,.bool x218007_1,.int .i64 x218008_1,.int .i64 x218009_1,.int .i64 x218010_1,.int .i64 x218011_1] 51 (0,0)) (by (with_reducible repeat (first|refine blk_drewN ?_ _|refine blk_drew ?_|refine blk_alloc ?_ _));exact BK217.out) hb);have n3_:=mkA (below_step (by repeat (first|(with_reducible first|exact HB.out|apply below_alloc|apply pw_below_drewN|apply below_drew1|refine below_set ?_ GE216.out|refine below_set ?_ GE217.out)|exact HB.out)) hb);clear HO_4;clear BK216;clear BK217;clear HB;have HO_4:=n0_;have BK216:=n1_;have BK217:=n2_;have HB:=n3_;clear n0_ n1_ n2_ n3_;(try clear hb);(try clear hb2);(try clear hk);(try clear hi);have hnb66:=NB217_216.out;have hnc66:=NB216_217.out;have hcz67_0:w65.cell? ⟨gb217,0,none⟩=some (.bool x218000_1):=(blk_cell BK217.out 0).trans rfl;have hcz67_1:w65.cell? ⟨gb217,1,none⟩=some (.bool x218001_1):=(blk_cell BK217.out 1).trans rfl;have hcz67_2:w65.cell? ⟨gb217,2,none⟩=some (.bool x218002_1):=(blk_cell BK217.out 2).trans rfl;have hcz67_3:w65.cell? ⟨gb217,3,none⟩=some (.bool x218003_1):=(blk_cell BK217.out 3).trans rfl;have hcz67_4:w65.cell? ⟨gb217,4,none⟩=some (.bool x218004_1):=(blk_cell BK217.out 4).trans rfl;have hcz67_5:w65.cell? ⟨gb217,5,none⟩=some (.bool x218005_1):=(blk_cell BK217.out 5).trans rfl;have hcz67_6:w65.cell? ⟨gb217,6,none⟩=some (.bool x218006_1):=(blk_cell BK217.out 6).trans rfl;have hcz67_7:w65.cell? ⟨gb217,7,none⟩=some (.bool x218007_1):=(blk_cell BK217.out 7).trans rfl;have hcz67_8:w65.cell? ⟨gb217,8,none⟩=some (.int .i64 x218008_1):=(blk_cell BK217.out 8).trans rfl;have hcz67_9:w65.cell? ⟨gb217,9,none⟩=some (.int .i64 x218009_1):=(blk_cell BK217.out 9).trans rfl;have hcz67_10:w65.cell? ⟨gb217,10,none⟩=some (.int .i64 x218010_1):=(blk_cell BK217.out 10).trans rfl;have hcz67_11:w65.cell? ⟨gb217,11,none⟩=some (.int .i64 x218011_1):=(blk_cell BK217.out 11).trans rfl;have hfz67_0:=blk_frozen BK217.out 0;have hfz67_1:=blk_frozen BK217.out 1;have hfz67_2:=blk_frozen BK217.out 2;have hfz67_3:=blk_frozen BK217.out 3;have hfz67_4:=blk_frozen BK217.out 4;have hfz67_5:=blk_frozen BK217.out 5;have hfz67_6:=blk_frozen BK217.out 6;have hfz67_7:=blk_frozen BK217.out 7;have hfz67_8:=blk_frozen BK217.out 8;have hfz67_9:=blk_frozen BK217.out 9;have hfz67_10:=blk_frozen BK217.out 10;have hfz67_11:=blk_frozen BK217.out 11)|((with_reducible refine gate_callee (f:=57) rfl ?_);refine goesL_ (some 72) rfl rfl Tryz.func57 (by kernel_rfl) rfl #[.int .i64 x218010_1,.string t223] rfl (by (try simp only [List.map_toArray,List.map_cons,List.map_nil]);first|done|rfl|(simp only [List.length_drop,List.length_take];rfl)) ?_;(with_reducible refine (ambryref13_least.calls k1 x218010_1 t223 t227 _ A63.out).mono ?_);rintro e w68 ⟨rfl,hb⟩;refine ⟨_,rfl,?_⟩;have n0_:=mkA (Kd.R_below (by (with_reducible repeat (first|apply Kd.R_alloc|apply Kd.R_drewN|apply Kd.R_drew));exact HO_4.out) hb);have n1_:=mkA (blk_below (g:=gb216) (o:=.cells #[.bool false,.bool false,.bool false,.bool false,.bool false,.bool false,.bool false,.bool false,.int .i64 0,.int .i64 0,.int .i64 0,.int .i64 0] 51 (0,0)) (by (with_reducible repeat (first|refine blk_drewN ?_ _|refine blk_drew ?_|refine blk_alloc ?_ _));exact BK216.out) hb);have n2_:=mkA (blk_below (g:=gb217) (o:=.cells #[.bool x218000_1,.bool x218001_1,.bool x218002_1,.bool x218003_1,.bool x218004_1,.bool x218005_1,.bool x218006_1,.bool x218007_1,.int .i64 x218008_1,.int .i64 x218009_1,.int .i64 x218010_1,.int .i64 x218011_1] 51 (0,0)) (by (with_reducible repeat (first|refine blk_drewN ?_ _|refine blk_drew ?_|refine blk_alloc ?_ _));exact BK217.out) hb);have n3_:=mkA (below_step (by repeat (first|(with_reducible first|exact HB.out|apply below_alloc|apply pw_below_drewN|apply below_drew1|refine below_set ?_ GE216.out|refine below_set ?_ GE217.out)|exact HB.out)) hb);clear HO_4;clear BK216;clear BK217;clear HB;have HO_4:=n0_;have BK216:=n1_;have BK217:=n2_;have HB:=n3_;clear n0_ n1_ n2_ n3_;(try clear hb);(try clear hb2);(try clear hk);(try clear hi);have hcz69_0:w68.cell? ⟨gb217,0,none⟩=some (.bool x218000_1):=(blk_cell BK217.out 0).trans rfl;have hcz69_1:w68.cell? ⟨gb217,1,none⟩=some (.bool x218001_1):=(blk_cell BK217.out 1).trans rfl;have hcz69_2:w68.cell? ⟨gb217,2,none⟩=some (.bool x218002_1):=(blk_cell BK217.out 2).trans rfl;have hcz69_3:w68.cell? ⟨gb217,3,none⟩=some (.bool x218003_1):=(blk_cell BK217.out 3).trans rfl;have hcz69_4:w68.cell? ⟨gb217,4,none⟩=some (.bool x218004_1):=(blk_cell BK217.out 4).trans rfl;have hcz69_5:w68.cell? ⟨gb217,5,none⟩=some (.bool x218005_1):=(blk_cell BK217.out 5).trans rfl;have hcz69_6:w68.cell? ⟨gb217,6,none⟩=some (.bool x218006_1):=(blk_cell BK217.out 6).trans rfl;have hcz69_7:w68.cell? ⟨gb217,7,none⟩=some (.bool x218007_1):=(blk_cell BK217.out 7).trans rfl;have hcz69_8:w68.cell? ⟨gb217,8,none⟩=some (.int .i64 x218008_1):=(blk_cell BK217.out 8).trans rfl;have hcz69_9:w68.cell? ⟨gb217,9,none⟩=some (.int .i64 x218009_1):=(blk_cell BK217.out 9).trans rfl;have hcz69_10:w68.cell? ⟨gb217,10,none⟩=some (.int .i64 x218010_1):=(blk_cell BK217.out 10).trans rfl;have hcz69_11:w68.cell? ⟨gb217,11,none⟩=some (.int .i64 x218011_1):=(blk_cell BK217.out 11).trans rfl;have hfz69_0:=blk_frozen BK217.out 0;have hfz69_1:=blk_frozen BK217.out 1;have hfz69_2:=blk_frozen BK217.out 2;have hfz69_3:=blk_frozen BK217.out 3;have hfz69_4:=blk_frozen BK217.out 4;have hfz69_5:=blk_frozen BK217.out 5;have hfz69_6:=blk_frozen BK217.out 6;have hfz69_7:=blk_frozen BK217.out 7;have hfz69_8:=blk_frozen BK217.out 8;have hfz69_9:=blk_frozen BK217.out 9;have hfz69_10:=blk_frozen BK217.out 10;have hfz69_11:=blk_frozen BK217.out 11))
               go_roundg k1
               case measure=>have:=HK1.out;omega
               case rel=>exact ⟨(wrap64 (x5_1+1)),(x218000_1),(x218001_1),(x218002_1),(x218003_1),(x218004_1),(x218005_1),(x218006_1),(x218007_1),(x218008_1),(x218009_1),(t227),(x218011_1),(by first|rfl|(simp;done)|(simp [*];done)),H',⟨by have:=HK1.out;omega⟩,⟨by (with_reducible repeat (first|apply Kd.R_alloc|apply Kd.R_drewN|apply Kd.R_drew));exact Kd.R_mono (Kd.R_far (p:=⟨gb217,10,none⟩) (Kd.R_types HO_4.out BK217.out (by decide)) (fun _ hk=>hk.2) (.int .i64 t227)) (fun _ hk=>trivial)⟩,⟨by (with_reducible repeat (first|refine blk_drewN ?_ _|refine blk_drew ?_|refine blk_alloc ?_ _));refine blk_far ?_ NB216_217.out _;(with_reducible repeat (first|refine blk_drewN ?_ _|refine blk_drew ?_|refine blk_alloc ?_ _));exact BK216.out⟩,⟨by (with_reducible repeat (first|refine blk_drewN ?_ _|refine blk_drew ?_|refine blk_alloc ?_ _));refine blk_put (cs:=#[.bool x218000_1,.bool x218001_1,.bool x218002_1,.bool x218003_1,.bool x218004_1,.bool x218005_1,.bool x218006_1,.bool x218007_1,.int .i64 x218008_1,.int .i64 x218009_1,.int .i64 x218010_1,.int .i64 x218011_1]) ?_ 10 _ rfl;(with_reducible repeat (first|refine blk_drewN ?_ _|refine blk_drew ?_|refine blk_alloc ?_ _));exact BK217.out⟩,⟨by repeat (first|(with_reducible first|exact HB.out|apply below_alloc|apply pw_below_drewN|apply below_drew1|refine below_set ?_ GE216.out|refine below_set ?_ GE217.out)|exact HB.out)⟩⟩
              ·rw [if_neg c62] at H
               have c62b0:(t222.toList == ([109,105,110,45,102,114,101,115,104]:List UInt8))=false:=beq_eq_false_iff_ne.mpr c62
               have c62b1:(t222.toList != ([109,105,110,45,102,114,101,115,104]:List UInt8))=true:=bne_iff_ne.mpr c62
               by_cases c70:t222.toList=([109,97,120,45,115,116,97,108,101]:List UInt8)
               ·rw [if_pos c70] at H
                have c70b0:(t222.toList == ([109,97,120,45,115,116,97,108,101]:List UInt8))=true:=beq_iff_eq.mpr c70
                have c70b1:(t222.toList != ([109,97,120,45,115,116,97,108,101]:List UInt8))=false:=bne_eq_false_iff_eq.mpr c70
                clear c70
                by_cases c71:t224=true
                ·subst c71
                 have H1:((ambryref13_least.f k1 x218011_1 t223).bind fun t228=>(ambryref13_Control.l0 k1 l0 t218 (wrap64 (x5_1+1)) x218000_1 x218001_1 x218002_1 x218003_1 x218004_1 x218005_1 x218006_1 x218007_1 x218008_1 x218009_1 x218010_1 t228))=some (r1,r2,r3,r4,r5,r6,r7,r8,r9,r10,r11,r12):=by rw [if_pos rfl] at H;exact H
                 clear H
                 have H:=H1
                 clear H1
                 replace H:=Option.bind_eq_some_iff.mp H
                 obtain ⟨t228,A720,H⟩:=H
                 replace H:(ambryref13_Control.l0 k1 l0 t218 (wrap64 (x5_1+1)) x218000_1 x218001_1 x218002_1 x218003_1 x218004_1 x218005_1 x218006_1 x218007_1 x218008_1 x218009_1 x218010_1 t228)=some (r1,r2,r3,r4,r5,r6,r7,r8,r9,r10,r11,r12):=H
                 have A72:=mkA A720
                 clear A720
                 have H':=mkA H
                 clear H
                 obtain ⟨Ao73,co73,eo73⟩:=Kd.R_slice HO_4.out
                 subst eo73
                 have p221:0≤(x5_1:Int):=of_decide_eq_true (by first|(with_reducible assumption)|assumption)
                 have q221:x5_1 < (t218.length:Int):=of_decide_eq_true (by first|(with_reducible assumption)|assumption)
                 obtain ⟨ad221,e221,hx221_0⟩:=Kd.at_string (Kd.R_reads' HO_4.out).2.2 x5_1 p221 q221
                 cases e221
                 replace p221:=eq_true p221
                 replace q221:=eq_true q221
                 go_wp2_with (first|((with_reducible refine gate_callee (f:=56) rfl ?_);refine goesL_ (some 27) rfl rfl Tryz.func56 (by kernel_rfl) rfl #[.string (rdOf ByteArray.empty t218 x5_1)] rfl (by (try simp only [List.map_toArray,List.map_cons,List.map_nil]);first|done|rfl|(simp only [List.length_drop,List.length_take];rfl)) ?_;(with_reducible refine (ambryref13_value.calls k1 (rdOf ByteArray.empty t218 x5_1) t222 t223 true _ A10.out).mono ?_);rintro e w74 ⟨rfl,hb⟩;refine ⟨_,rfl,?_⟩;have n0_:=mkA (Kd.R_below (by (with_reducible repeat (first|apply Kd.R_alloc|apply Kd.R_drewN|apply Kd.R_drew));exact HO_4.out) hb);have n1_:=mkA (blk_below (g:=gb216) (o:=.cells #[.bool false,.bool false,.bool false,.bool false,.bool false,.bool false,.bool false,.bool false,.int .i64 0,.int .i64 0,.int .i64 0,.int .i64 0] 51 (0,0)) (by (with_reducible repeat (first|refine blk_drewN ?_ _|refine blk_drew ?_|refine blk_alloc ?_ _));exact BK216.out) hb);have n2_:=mkA (blk_below (g:=gb217) (o:=.cells #[.bool x218000_1,.bool x218001_1,.bool x218002_1,.bool x218003_1,.bool x218004_1,.bool x218005_1,.bool x218006_1,.bool x218007_1,.int .i64 x218008_1,.int .i64 x218009_1,.int .i64 x218010_1,.int .i64 x218011_1] 51 (0,0)) (by (with_reducible repeat (first|refine blk_drewN ?_ _|refine blk_drew ?_|refine blk_alloc ?_ _));exact BK217.out) hb);have n3_:=mkA (below_step (by repeat (first|(with_reducible first|exact HB.out|apply below_alloc|apply pw_below_drewN|apply below_drew1|refine below_set ?_ GE216.out|refine below_set ?_ GE217.out)|exact HB.out)) hb);clear HO_4;clear BK216;clear BK217;clear HB;have HO_4:=n0_;have BK216:=n1_;have BK217:=n2_;have HB:=n3_;clear n0_ n1_ n2_ n3_;(try clear hb);(try clear hb2);(try clear hk);(try clear hi);have hnb75:=NB217_216.out;have hnc75:=NB216_217.out;have hcz76_0:w74.cell? ⟨gb217,0,none⟩=some (.bool x218000_1):=(blk_cell BK217.out 0).trans rfl;have hcz76_1:w74.cell? ⟨gb217,1,none⟩=some (.bool x218001_1):=(blk_cell BK217.out 1).trans rfl;have hcz76_2:w74.cell? ⟨gb217,2,none⟩=some (.bool x218002_1):=(blk_cell BK217.out 2).trans rfl;have hcz76_3:w74.cell? ⟨gb217,3,none⟩=some (.bool x218003_1):=(blk_cell BK217.out 3).trans rfl;have hcz76_4:w74.cell? ⟨gb217,4,none⟩=some (.bool x218004_1):=(blk_cell BK217.out 4).trans rfl;have hcz76_5:w74.cell? ⟨gb217,5,none⟩=some (.bool x218005_1):=(blk_cell BK217.out 5).trans rfl;have hcz76_6:w74.cell? ⟨gb217,6,none⟩=some (.bool x218006_1):=(blk_cell BK217.out 6).trans rfl;have hcz76_7:w74.cell? ⟨gb217,7,none⟩=some (.bool x218007_1):=(blk_cell BK217.out 7).trans rfl;have hcz76_8:w74.cell? ⟨gb217,8,none⟩=some (.int .i64 x218008_1):=(blk_cell BK217.out 8).trans rfl;have hcz76_9:w74.cell? ⟨gb217,9,none⟩=some (.int .i64 x218009_1):=(blk_cell BK217.out 9).trans rfl;have hcz76_10:w74.cell? ⟨gb217,10,none⟩=some (.int .i64 x218010_1):=(blk_cell BK217.out 10).trans rfl;have hcz76_11:w74.cell? ⟨gb217,11,none⟩=some (.int .i64 x218011_1):=(blk_cell BK217.out 11).trans rfl;have hfz76_0:=blk_frozen BK217.out 0;have hfz76_1:=blk_frozen BK217.out 1;have hfz76_2:=blk_frozen BK217.out 2;have hfz76_3:=blk_frozen BK217.out 3;have hfz76_4:=blk_frozen BK217.out 4;have hfz76_5:=blk_frozen BK217.out 5;have hfz76_6:=blk_frozen BK217.out 6;have hfz76_7:=blk_frozen BK217.out 7;have hfz76_8:=blk_frozen BK217.out 8;have hfz76_9:=blk_frozen BK217.out 9;have hfz76_10:=blk_frozen BK217.out 10;have hfz76_11:=blk_frozen BK217.out 11)|((with_reducible refine gate_callee (f:=57) rfl ?_);refine goesL_ (some 80) rfl rfl Tryz.func57 (by kernel_rfl) rfl #[.int .i64 x218011_1,.string t223] rfl (by (try simp only [List.map_toArray,List.map_cons,List.map_nil]);first|done|rfl|(simp only [List.length_drop,List.length_take];rfl)) ?_;(with_reducible refine (ambryref13_least.calls k1 x218011_1 t223 t228 _ A72.out).mono ?_);rintro e w77 ⟨rfl,hb⟩;refine ⟨_,rfl,?_⟩;have n0_:=mkA (Kd.R_below (by (with_reducible repeat (first|apply Kd.R_alloc|apply Kd.R_drewN|apply Kd.R_drew));exact HO_4.out) hb);have n1_:=mkA (blk_below (g:=gb216) (o:=.cells #[.bool false,.bool false,.bool false,.bool false,.bool false,.bool false,.bool false,.bool false,.int .i64 0,.int .i64 0,.int .i64 0,.int .i64 0] 51 (0,0)) (by (with_reducible repeat (first|refine blk_drewN ?_ _|refine blk_drew ?_|refine blk_alloc ?_ _));exact BK216.out) hb);have n2_:=mkA (blk_below (g:=gb217) (o:=.cells #[.bool x218000_1,.bool x218001_1,.bool x218002_1,.bool x218003_1,.bool x218004_1,.bool x218005_1,.bool x218006_1,.bool x218007_1,.int .i64 x218008_1,.int .i64 x218009_1,.int .i64 x218010_1,.int .i64 x218011_1] 51 (0,0)) (by (with_reducible repeat (first|refine blk_drewN ?_ _|refine blk_drew ?_|refine blk_alloc ?_ _));exact BK217.out) hb);have n3_:=mkA (below_step (by repeat (first|(with_reducible first|exact HB.out|apply below_alloc|apply pw_below_drewN|apply below_drew1|refine below_set ?_ GE216.out|refine below_set ?_ GE217.out)|exact HB.out)) hb);clear HO_4;clear BK216;clear BK217;clear HB;have HO_4:=n0_;have BK216:=n1_;have BK217:=n2_;have HB:=n3_;clear n0_ n1_ n2_ n3_;(try clear hb);(try clear hb2);(try clear hk);(try clear hi);have hcz78_0:w77.cell? ⟨gb217,0,none⟩=some (.bool x218000_1):=(blk_cell BK217.out 0).trans rfl;have hcz78_1:w77.cell? ⟨gb217,1,none⟩=some (.bool x218001_1):=(blk_cell BK217.out 1).trans rfl;have hcz78_2:w77.cell? ⟨gb217,2,none⟩=some (.bool x218002_1):=(blk_cell BK217.out 2).trans rfl;have hcz78_3:w77.cell? ⟨gb217,3,none⟩=some (.bool x218003_1):=(blk_cell BK217.out 3).trans rfl;have hcz78_4:w77.cell? ⟨gb217,4,none⟩=some (.bool x218004_1):=(blk_cell BK217.out 4).trans rfl;have hcz78_5:w77.cell? ⟨gb217,5,none⟩=some (.bool x218005_1):=(blk_cell BK217.out 5).trans rfl;have hcz78_6:w77.cell? ⟨gb217,6,none⟩=some (.bool x218006_1):=(blk_cell BK217.out 6).trans rfl;have hcz78_7:w77.cell? ⟨gb217,7,none⟩=some (.bool x218007_1):=(blk_cell BK217.out 7).trans rfl;have hcz78_8:w77.cell? ⟨gb217,8,none⟩=some (.int .i64 x218008_1):=(blk_cell BK217.out 8).trans rfl;have hcz78_9:w77.cell? ⟨gb217,9,none⟩=some (.int .i64 x218009_1):=(blk_cell BK217.out 9).trans rfl;have hcz78_10:w77.cell? ⟨gb217,10,none⟩=some (.int .i64 x218010_1):=(blk_cell BK217.out 10).trans rfl;have hcz78_11:w77.cell? ⟨gb217,11,none⟩=some (.int .i64 x218011_1):=(blk_cell BK217.out 11).trans rfl;have hfz78_0:=blk_frozen BK217.out 0;have hfz78_1:=blk_frozen BK217.out 1;have hfz78_2:=blk_frozen BK217.out 2;have hfz78_3:=blk_frozen BK217.out 3;have hfz78_4:=blk_frozen BK217.out 4;have hfz78_5:=blk_frozen BK217.out 5;have hfz78_6:=blk_frozen BK217.out 6;have hfz78_7:=blk_frozen BK217.out 7;have hfz78_8:=blk_frozen BK217.out 8;have hfz78_9:=blk_frozen BK217.out 9;have hfz78_10:=blk_frozen BK217.out 10;have hfz78_11:=blk_frozen BK217.out 11))
                 go_roundg k1
                 case measure=>have:=HK1.out;omega
                 case rel=>exact ⟨(wrap64 (x5_1+1)),(x218000_1),(x218001_1),(x218002_1),(x218003_1),(x218004_1),(x218005_1),(x218006_1),(x218007_1),(x218008_1),(x218009_1),(x218010_1),(t228),(by first|rfl|(simp;done)|(simp [*];done)),H',⟨by have:=HK1.out;omega⟩,⟨by (with_reducible repeat (first|apply Kd.R_alloc|apply Kd.R_drewN|apply Kd.R_drew));exact Kd.R_mono (Kd.R_far (p:=⟨gb217,11,none⟩) (Kd.R_types HO_4.out BK217.out (by decide)) (fun _ hk=>hk.2) (.int .i64 t228)) (fun _ hk=>trivial)⟩,⟨by (with_reducible repeat (first|refine blk_drewN ?_ _|refine blk_drew ?_|refine blk_alloc ?_ _));refine blk_far ?_ NB216_217.out _;(with_reducible repeat (first|refine blk_drewN ?_ _|refine blk_drew ?_|refine blk_alloc ?_ _));exact BK216.out⟩,⟨by (with_reducible repeat (first|refine blk_drewN ?_ _|refine blk_drew ?_|refine blk_alloc ?_ _));refine blk_put (cs:=#[.bool x218000_1,.bool x218001_1,.bool x218002_1,.bool x218003_1,.bool x218004_1,.bool x218005_1,.bool x218006_1,.bool x218007_1,.int .i64 x218008_1,.int .i64 x218009_1,.int .i64 x218010_1,.int .i64 x218011_1]) ?_ 11 _ rfl;(with_reducible repeat (first|refine blk_drewN ?_ _|refine blk_drew ?_|refine blk_alloc ?_ _));exact BK217.out⟩,⟨by repeat (first|(with_reducible first|exact HB.out|apply below_alloc|apply pw_below_drewN|apply below_drew1|refine below_set ?_ GE216.out|refine below_set ?_ GE217.out)|exact HB.out)⟩⟩
                ·replace c71:=Bool.eq_false_iff.mpr c71
                 subst c71
                 have H1:(ambryref13_Control.l0 k1 l0 t218 (wrap64 (x5_1+1)) x218000_1 x218001_1 x218002_1 x218003_1 x218004_1 x218005_1 x218006_1 true x218008_1 x218009_1 x218010_1 x218011_1)=some (r1,r2,r3,r4,r5,r6,r7,r8,r9,r10,r11,r12):=by rw [if_neg (show ¬ (false=true) by decide)] at H;exact H
                 clear H
                 have H:=H1
                 clear H1
                 have H':=mkA H
                 clear H
                 obtain ⟨Ao79,co79,eo79⟩:=Kd.R_slice HO_4.out
                 subst eo79
                 have p221:0≤(x5_1:Int):=of_decide_eq_true (by first|(with_reducible assumption)|assumption)
                 have q221:x5_1 < (t218.length:Int):=of_decide_eq_true (by first|(with_reducible assumption)|assumption)
                 obtain ⟨ad221,e221,hx221_0⟩:=Kd.at_string (Kd.R_reads' HO_4.out).2.2 x5_1 p221 q221
                 cases e221
                 replace p221:=eq_true p221
                 replace q221:=eq_true q221
                 go_wp2_with (first|((with_reducible refine gate_callee (f:=56) rfl ?_);refine goesL_ (some 27) rfl rfl Tryz.func56 (by kernel_rfl) rfl #[.string (rdOf ByteArray.empty t218 x5_1)] rfl (by (try simp only [List.map_toArray,List.map_cons,List.map_nil]);first|done|rfl|(simp only [List.length_drop,List.length_take];rfl)) ?_;(with_reducible refine (ambryref13_value.calls k1 (rdOf ByteArray.empty t218 x5_1) t222 t223 false _ A10.out).mono ?_);rintro e w80 ⟨rfl,hb⟩;refine ⟨_,rfl,?_⟩;have n0_:=mkA (Kd.R_below (by (with_reducible repeat (first|apply Kd.R_alloc|apply Kd.R_drewN|apply Kd.R_drew));exact HO_4.out) hb);have n1_:=mkA (blk_below (g:=gb216) (o:=.cells #[.bool false,.bool false,.bool false,.bool false,.bool false,.bool false,.bool false,.bool false,.int .i64 0,.int .i64 0,.int .i64 0,.int .i64 0] 51 (0,0)) (by (with_reducible repeat (first|refine blk_drewN ?_ _|refine blk_drew ?_|refine blk_alloc ?_ _));exact BK216.out) hb);have n2_:=mkA (blk_below (g:=gb217) (o:=.cells #[.bool x218000_1,.bool x218001_1,.bool x218002_1,.bool x218003_1,.bool x218004_1,.bool x218005_1,.bool x218006_1,.bool x218007_1,.int .i64 x218008_1,.int .i64 x218009_1,.int .i64 x218010_1,.int .i64 x218011_1] 51 (0,0)) (by (with_reducible repeat (first|refine blk_drewN ?_ _|refine blk_drew ?_|refine blk_alloc ?_ _));exact BK217.out) hb);have n3_:=mkA (below_step (by repeat (first|(with_reducible first|exact HB.out|apply below_alloc|apply pw_below_drewN|apply below_drew1|refine below_set ?_ GE216.out|refine below_set ?_ GE217.out)|exact HB.out)) hb);clear HO_4;clear BK216;clear BK217;clear HB;have HO_4:=n0_;have BK216:=n1_;have BK217:=n2_;have HB:=n3_;clear n0_ n1_ n2_ n3_;(try clear hb);(try clear hb2);(try clear hk);(try clear hi);have hnb81:=NB217_216.out;have hnc81:=NB216_217.out;have hcz82_0:w80.cell? ⟨gb217,0,none⟩=some (.bool x218000_1):=(blk_cell BK217.out 0).trans rfl;have hcz82_1:w80.cell? ⟨gb217,1,none⟩=some (.bool x218001_1):=(blk_cell BK217.out 1).trans rfl;have hcz82_2:w80.cell? ⟨gb217,2,none⟩=some (.bool x218002_1):=(blk_cell BK217.out 2).trans rfl;have hcz82_3:w80.cell? ⟨gb217,3,none⟩=some (.bool x218003_1):=(blk_cell BK217.out 3).trans rfl;have hcz82_4:w80.cell? ⟨gb217,4,none⟩=some (.bool x218004_1):=(blk_cell BK217.out 4).trans rfl;have hcz82_5:w80.cell? ⟨gb217,5,none⟩=some (.bool x218005_1):=(blk_cell BK217.out 5).trans rfl;have hcz82_6:w80.cell? ⟨gb217,6,none⟩=some (.bool x218006_1):=(blk_cell BK217.out 6).trans rfl;have hcz82_7:w80.cell? ⟨gb217,7,none⟩=some (.bool x218007_1):=(blk_cell BK217.out 7).trans rfl;have hcz82_8:w80.cell? ⟨gb217,8,none⟩=some (.int .i64 x218008_1):=(blk_cell BK217.out 8).trans rfl;have hcz82_9:w80.cell? ⟨gb217,9,none⟩=some (.int .i64 x218009_1):=(blk_cell BK217.out 9).trans rfl;have hcz82_10:w80.cell? ⟨gb217,10,none⟩=some (.int .i64 x218010_1):=(blk_cell BK217.out 10).trans rfl;have hcz82_11:w80.cell? ⟨gb217,11,none⟩=some (.int .i64 x218011_1):=(blk_cell BK217.out 11).trans rfl;have hfz82_0:=blk_frozen BK217.out 0;have hfz82_1:=blk_frozen BK217.out 1;have hfz82_2:=blk_frozen BK217.out 2;have hfz82_3:=blk_frozen BK217.out 3;have hfz82_4:=blk_frozen BK217.out 4;have hfz82_5:=blk_frozen BK217.out 5;have hfz82_6:=blk_frozen BK217.out 6;have hfz82_7:=blk_frozen BK217.out 7;have hfz82_8:=blk_frozen BK217.out 8;have hfz82_9:=blk_frozen BK217.out 9;have hfz82_10:=blk_frozen BK217.out 10;have hfz82_11:=blk_frozen BK217.out 11))
                 go_roundg k1
                 case measure=>have:=HK1.out;omega
                 case rel=>exact ⟨(wrap64 (x5_1+1)),(x218000_1),(x218001_1),(x218002_1),(x218003_1),(x218004_1),(x218005_1),(x218006_1),(true),(x218008_1),(x218009_1),(x218010_1),(x218011_1),(by first|rfl|(simp;done)|(simp [*];done)),H',⟨by have:=HK1.out;omega⟩,⟨by (with_reducible repeat (first|apply Kd.R_alloc|apply Kd.R_drewN|apply Kd.R_drew));exact Kd.R_mono (Kd.R_far (p:=⟨gb217,7,none⟩) (Kd.R_types HO_4.out BK217.out (by decide)) (fun _ hk=>hk.2) (.bool true)) (fun _ hk=>trivial)⟩,⟨by (with_reducible repeat (first|refine blk_drewN ?_ _|refine blk_drew ?_|refine blk_alloc ?_ _));refine blk_far ?_ NB216_217.out _;(with_reducible repeat (first|refine blk_drewN ?_ _|refine blk_drew ?_|refine blk_alloc ?_ _));exact BK216.out⟩,⟨by (with_reducible repeat (first|refine blk_drewN ?_ _|refine blk_drew ?_|refine blk_alloc ?_ _));refine blk_put (cs:=#[.bool x218000_1,.bool x218001_1,.bool x218002_1,.bool x218003_1,.bool x218004_1,.bool x218005_1,.bool x218006_1,.bool x218007_1,.int .i64 x218008_1,.int .i64 x218009_1,.int .i64 x218010_1,.int .i64 x218011_1]) ?_ 7 _ rfl;(with_reducible repeat (first|refine blk_drewN ?_ _|refine blk_drew ?_|refine blk_alloc ?_ _));exact BK217.out⟩,⟨by repeat (first|(with_reducible first|exact HB.out|apply below_alloc|apply pw_below_drewN|apply below_drew1|refine below_set ?_ GE216.out|refine below_set ?_ GE217.out)|exact HB.out)⟩⟩
               ·rw [if_neg c70] at H
                have c70b0:(t222.toList == ([109,97,120,45,115,116,97,108,101]:List UInt8))=false:=beq_eq_false_iff_ne.mpr c70
                have c70b1:(t222.toList != ([109,97,120,45,115,116,97,108,101]:List UInt8))=true:=bne_iff_ne.mpr c70
                have H':=mkA H
                clear H
                obtain ⟨Ao83,co83,eo83⟩:=Kd.R_slice HO_4.out
                subst eo83
                have p221:0≤(x5_1:Int):=of_decide_eq_true (by first|(with_reducible assumption)|assumption)
                have q221:x5_1 < (t218.length:Int):=of_decide_eq_true (by first|(with_reducible assumption)|assumption)
                obtain ⟨ad221,e221,hx221_0⟩:=Kd.at_string (Kd.R_reads' HO_4.out).2.2 x5_1 p221 q221
                cases e221
                replace p221:=eq_true p221
                replace q221:=eq_true q221
                go_wp2_with (first|((with_reducible refine gate_callee (f:=56) rfl ?_);refine goesL_ (some 27) rfl rfl Tryz.func56 (by kernel_rfl) rfl #[.string (rdOf ByteArray.empty t218 x5_1)] rfl (by (try simp only [List.map_toArray,List.map_cons,List.map_nil]);first|done|rfl|(simp only [List.length_drop,List.length_take];rfl)) ?_;(with_reducible refine (ambryref13_value.calls k1 (rdOf ByteArray.empty t218 x5_1) t222 t223 t224 _ A10.out).mono ?_);rintro e w84 ⟨rfl,hb⟩;refine ⟨_,rfl,?_⟩;have n0_:=mkA (Kd.R_below (by (with_reducible repeat (first|apply Kd.R_alloc|apply Kd.R_drewN|apply Kd.R_drew));exact HO_4.out) hb);have n1_:=mkA (blk_below (g:=gb216) (o:=.cells #[.bool false,.bool false,.bool false,.bool false,.bool false,.bool false,.bool false,.bool false,.int .i64 0,.int .i64 0,.int .i64 0,.int .i64 0] 51 (0,0)) (by (with_reducible repeat (first|refine blk_drewN ?_ _|refine blk_drew ?_|refine blk_alloc ?_ _));exact BK216.out) hb);have n2_:=mkA (blk_below (g:=gb217) (o:=.cells #[.bool x218000_1,.bool x218001_1,.bool x218002_1,.bool x218003_1,.bool x218004_1,.bool x218005_1,.bool x218006_1,.bool x218007_1,.int .i64 x218008_1,.int .i64 x218009_1,.int .i64 x218010_1,.int .i64 x218011_1] 51 (0,0)) (by (with_reducible repeat (first|refine blk_drewN ?_ _|refine blk_drew ?_|refine blk_alloc ?_ _));exact BK217.out) hb);have n3_:=mkA (below_step (by repeat (first|(with_reducible first|exact HB.out|apply below_alloc|apply pw_below_drewN|apply below_drew1|refine below_set ?_ GE216.out|refine below_set ?_ GE217.out)|exact HB.out)) hb);clear HO_4;clear BK216;clear BK217;clear HB;have HO_4:=n0_;have BK216:=n1_;have BK217:=n2_;have HB:=n3_;clear n0_ n1_ n2_ n3_;(try clear hb);(try clear hb2);(try clear hk);(try clear hi)))
                go_roundg k1
                case measure=>have:=HK1.out;omega
                case rel=>exact ⟨(wrap64 (x5_1+1)),(x218000_1),(x218001_1),(x218002_1),(x218003_1),(x218004_1),(x218005_1),(x218006_1),(x218007_1),(x218008_1),(x218009_1),(x218010_1),(x218011_1),(by first|rfl|(simp;done)|(simp [*];done)),H',⟨by have:=HK1.out;omega⟩,⟨by (with_reducible repeat (first|apply Kd.R_alloc|apply Kd.R_drewN|apply Kd.R_drew));exact HO_4.out⟩,⟨by (with_reducible repeat (first|refine blk_drewN ?_ _|refine blk_drew ?_|refine blk_alloc ?_ _));exact BK216.out⟩,⟨by (with_reducible repeat (first|refine blk_drewN ?_ _|refine blk_drew ?_|refine blk_alloc ?_ _));exact BK217.out⟩,⟨by repeat (first|(with_reducible first|exact HB.out|apply below_alloc|apply pw_below_drewN|apply below_drew1|refine below_set ?_ GE216.out|refine below_set ?_ GE217.out)|exact HB.out)⟩⟩
    ·rw [if_neg c9] at H
     exact absurd H (by simp)
   ·rw [if_neg c8] at H
    have c8b0:decide (x5_1 < (t218.length:Int))=false:=decide_eq_false c8
    clear c8
    replace H:=Option.bind_eq_some_iff.mp H
    obtain ⟨⟨t229,t230⟩,A850,H⟩:=H
    replace H:(if t230=true then (some (x218000_1,x218001_1,x218002_1,x218003_1,x218004_1,x218005_1,x218006_1,x218007_1,x218008_1,x218009_1,x218010_1,x218011_1)) else ((ambryref10_List.f k1 l0 (⟨#[80,114,97,103,109,97]⟩:ByteArray)).bind fun t231=>(ambryref13_Control.l1 k1 t231 0 x218000_1 x218001_1 x218002_1 x218003_1 x218004_1 x218005_1 x218006_1 x218007_1 x218008_1 x218009_1 x218010_1 x218011_1)))=some (r1,r2,r3,r4,r5,r6,r7,r8,r9,r10,r11,r12):=H
    have A85:=mkA A850
    clear A850
    by_cases c86:t230=true
    ·subst c86
     have H1:(some (x218000_1,x218001_1,x218002_1,x218003_1,x218004_1,x218005_1,x218006_1,x218007_1,x218008_1,x218009_1,x218010_1,x218011_1))=some (r1,r2,r3,r4,r5,r6,r7,r8,r9,r10,r11,r12):=by rw [if_pos rfl] at H;exact H
     clear H
     have H:=H1
     clear H1
     simp only [Option.some.injEq,Prod.mk.injEq] at H
     obtain ⟨rfl,rfl,rfl,rfl,rfl,rfl,rfl,rfl,rfl,rfl,rfl,rfl⟩:=H
     obtain ⟨Ao87,co87,eo87⟩:=Kd.R_slice HO_4.out
     subst eo87
     go_wp2_with (first|((with_reducible refine gate_callee (f:=33) rfl ?_);refine goesL_ (some 85) rfl rfl Tryz.func33 (by kernel_rfl) rfl #[.slice A0 l0.length c0,.string (⟨#[67,97,99,104,101,45,67,111,110,116,114,111,108]⟩:ByteArray)] rfl (by (try simp only [List.map_toArray,List.map_cons,List.map_nil]);first|done|rfl|(simp only [List.length_drop,List.length_take];rfl)) ?_;(with_reducible refine (ambryref10_Get.calls k1 _ _ l0 (⟨#[67,97,99,104,101,45,67,111,110,116,114,111,108]⟩:ByteArray) t229 true _ ?side1 ?side2 A85.out).mono ?_);(case side1=>repeat (first|exact (Kd.C_below HR0.out HB.out)|(with_reducible refine Kd.C_alloc ?_ _)|(with_reducible refine Kd.C_drewN ?_ _)|(with_reducible refine Kd.C_drew ?_)));(case side2=>exact HC0.out);rintro e w88 ⟨rfl,hb⟩;refine ⟨_,rfl,?_⟩;have n0_:=mkA (Kd.R_below (by (with_reducible repeat (first|apply Kd.R_alloc|apply Kd.R_drewN|apply Kd.R_drew));exact HO_4.out) hb);have n1_:=mkA (blk_below (g:=gb216) (o:=.cells #[.bool false,.bool false,.bool false,.bool false,.bool false,.bool false,.bool false,.bool false,.int .i64 0,.int .i64 0,.int .i64 0,.int .i64 0] 51 (0,0)) (by (with_reducible repeat (first|refine blk_drewN ?_ _|refine blk_drew ?_|refine blk_alloc ?_ _));exact BK216.out) hb);have n2_:=mkA (blk_below (g:=gb217) (o:=.cells #[.bool x218000_1,.bool x218001_1,.bool x218002_1,.bool x218003_1,.bool x218004_1,.bool x218005_1,.bool x218006_1,.bool x218007_1,.int .i64 x218008_1,.int .i64 x218009_1,.int .i64 x218010_1,.int .i64 x218011_1] 51 (0,0)) (by (with_reducible repeat (first|refine blk_drewN ?_ _|refine blk_drew ?_|refine blk_alloc ?_ _));exact BK217.out) hb);have n3_:=mkA (below_step (by repeat (first|(with_reducible first|exact HB.out|apply below_alloc|apply pw_below_drewN|apply below_drew1|refine below_set ?_ GE216.out|refine below_set ?_ GE217.out)|exact HB.out)) hb);clear HO_4;clear BK216;clear BK217;clear HB;have HO_4:=n0_;have BK216:=n1_;have BK217:=n2_;have HB:=n3_;clear n0_ n1_ n2_ n3_;(try clear hb);(try clear hb2);(try clear hk);(try clear hi);have hnb89:=NB217_216.out;have hnc89:=NB216_217.out;have hcz90_0:w88.cell? ⟨gb217,0,none⟩=some (.bool x218000_1):=(blk_cell BK217.out 0).trans rfl;have hcz90_1:w88.cell? ⟨gb217,1,none⟩=some (.bool x218001_1):=(blk_cell BK217.out 1).trans rfl;have hcz90_2:w88.cell? ⟨gb217,2,none⟩=some (.bool x218002_1):=(blk_cell BK217.out 2).trans rfl;have hcz90_3:w88.cell? ⟨gb217,3,none⟩=some (.bool x218003_1):=(blk_cell BK217.out 3).trans rfl;have hcz90_4:w88.cell? ⟨gb217,4,none⟩=some (.bool x218004_1):=(blk_cell BK217.out 4).trans rfl;have hcz90_5:w88.cell? ⟨gb217,5,none⟩=some (.bool x218005_1):=(blk_cell BK217.out 5).trans rfl;have hcz90_6:w88.cell? ⟨gb217,6,none⟩=some (.bool x218006_1):=(blk_cell BK217.out 6).trans rfl;have hcz90_7:w88.cell? ⟨gb217,7,none⟩=some (.bool x218007_1):=(blk_cell BK217.out 7).trans rfl;have hcz90_8:w88.cell? ⟨gb217,8,none⟩=some (.int .i64 x218008_1):=(blk_cell BK217.out 8).trans rfl;have hcz90_9:w88.cell? ⟨gb217,9,none⟩=some (.int .i64 x218009_1):=(blk_cell BK217.out 9).trans rfl;have hcz90_10:w88.cell? ⟨gb217,10,none⟩=some (.int .i64 x218010_1):=(blk_cell BK217.out 10).trans rfl;have hcz90_11:w88.cell? ⟨gb217,11,none⟩=some (.int .i64 x218011_1):=(blk_cell BK217.out 11).trans rfl;have hfz90_0:=blk_frozen BK217.out 0;have hfz90_1:=blk_frozen BK217.out 1;have hfz90_2:=blk_frozen BK217.out 2;have hfz90_3:=blk_frozen BK217.out 3;have hfz90_4:=blk_frozen BK217.out 4;have hfz90_5:=blk_frozen BK217.out 5;have hfz90_6:=blk_frozen BK217.out 6;have hfz90_7:=blk_frozen BK217.out 7;have hfz90_8:=blk_frozen BK217.out 8;have hfz90_9:=blk_frozen BK217.out 9;have hfz90_10:=blk_frozen BK217.out 10;have hfz90_11:=blk_frozen BK217.out 11;have hcz91_0:w88.cell? ⟨gb216,0,none⟩=some (.bool false):=(blk_cell BK216.out 0).trans rfl;have hcz91_1:w88.cell? ⟨gb216,1,none⟩=some (.bool false):=(blk_cell BK216.out 1).trans rfl;have hcz91_2:w88.cell? ⟨gb216,2,none⟩=some (.bool false):=(blk_cell BK216.out 2).trans rfl;have hcz91_3:w88.cell? ⟨gb216,3,none⟩=some (.bool false):=(blk_cell BK216.out 3).trans rfl;have hcz91_4:w88.cell? ⟨gb216,4,none⟩=some (.bool false):=(blk_cell BK216.out 4).trans rfl;have hcz91_5:w88.cell? ⟨gb216,5,none⟩=some (.bool false):=(blk_cell BK216.out 5).trans rfl;have hcz91_6:w88.cell? ⟨gb216,6,none⟩=some (.bool false):=(blk_cell BK216.out 6).trans rfl;have hcz91_7:w88.cell? ⟨gb216,7,none⟩=some (.bool false):=(blk_cell BK216.out 7).trans rfl;have hcz91_8:w88.cell? ⟨gb216,8,none⟩=some (.int .i64 0):=(blk_cell BK216.out 8).trans rfl;have hcz91_9:w88.cell? ⟨gb216,9,none⟩=some (.int .i64 0):=(blk_cell BK216.out 9).trans rfl;have hcz91_10:w88.cell? ⟨gb216,10,none⟩=some (.int .i64 0):=(blk_cell BK216.out 10).trans rfl;have hcz91_11:w88.cell? ⟨gb216,11,none⟩=some (.int .i64 0):=(blk_cell BK216.out 11).trans rfl;have hfz91_0:=blk_frozen BK216.out 0;have hfz91_1:=blk_frozen BK216.out 1;have hfz91_2:=blk_frozen BK216.out 2;have hfz91_3:=blk_frozen BK216.out 3;have hfz91_4:=blk_frozen BK216.out 4;have hfz91_5:=blk_frozen BK216.out 5;have hfz91_6:=blk_frozen BK216.out 6;have hfz91_7:=blk_frozen BK216.out 7;have hfz91_8:=blk_frozen BK216.out 8;have hfz91_9:=blk_frozen BK216.out 9;have hfz91_10:=blk_frozen BK216.out 10;have hfz91_11:=blk_frozen BK216.out 11))
     refine bodyPost_ret (results_cell_row rfl _ _ gb216 51 #[.bool x218000_1,.bool x218001_1,.bool x218002_1,.bool x218003_1,.bool x218004_1,.bool x218005_1,.bool x218006_1,.bool x218007_1,.int .i64 x218008_1,.int .i64 x218009_1,.int .i64 x218010_1,.int .i64 x218011_1] (0,0) _ rfl (by (with_reducible repeat (first|refine blk_drewN ?_ _|refine blk_drew ?_|refine blk_alloc ?_ _));refine blk_put (cs:=#[.bool x218000_1,.bool x218001_1,.bool x218002_1,.bool x218003_1,.bool x218004_1,.bool x218005_1,.bool x218006_1,.bool x218007_1,.int .i64 x218008_1,.int .i64 x218009_1,.int .i64 x218010_1,.int .i64 0]) ?_ 11 _ rfl;(with_reducible repeat (first|refine blk_drewN ?_ _|refine blk_drew ?_|refine blk_alloc ?_ _));refine blk_put (cs:=#[.bool x218000_1,.bool x218001_1,.bool x218002_1,.bool x218003_1,.bool x218004_1,.bool x218005_1,.bool x218006_1,.bool x218007_1,.int .i64 x218008_1,.int .i64 x218009_1,.int .i64 0,.int .i64 0]) ?_ 10 _ rfl;(with_reducible repeat (first|refine blk_drewN ?_ _|refine blk_drew ?_|refine blk_alloc ?_ _));refine blk_put (cs:=#[.bool x218000_1,.bool x218001_1,.bool x218002_1,.bool x218003_1,.bool x218004_1,.bool x218005_1,.bool x218006_1,.bool x218007_1,.int .i64 x218008_1,.int .i64 0,.int .i64 0,.int .i64 0]) ?_ 9 _ rfl;(with_reducible repeat (first|refine blk_drewN ?_ _|refine blk_drew ?_|refine blk_alloc ?_ _));refine blk_put (cs:=#[.bool x218000_1,.bool x218001_1,.bool x218002_1,.bool x218003_1,.bool x218004_1,.bool x218005_1,.bool x218006_1,.bool x218007_1,.int .i64 0,.int .i64 0,.int .i64 0,.int .i64 0]) ?_ 8 _ rfl;(with_reducible repeat (first|refine blk_drewN ?_ _|refine blk_drew ?_|refine blk_alloc ?_ _));refine blk_put (cs:=#[.bool x218000_1,.bool x218001_1,.bool x218002_1,.bool x218003_1,.bool x218004_1,.bool x218005_1,.bool x218006_1,.bool false,.int .i64 0,.int .i64 0,.int .i64 0,.int .i64 0]) ?_ 7 _ rfl;(with_reducible repeat (first|refine blk_drewN ?_ _|refine blk_drew ?_|refine blk_alloc ?_ _));refine blk_put (cs:=#[.bool x218000_1,.bool x218001_1,.bool x218002_1,.bool x218003_1,.bool x218004_1,.bool x218005_1,.bool false,.bool false,.int .i64 0,.int .i64 0,.int .i64 0,.int .i64 0]) ?_ 6 _ rfl;(with_reducible repeat (first|refine blk_drewN ?_ _|refine blk_drew ?_|refine blk_alloc ?_ _));refine blk_put (cs:=#[.bool x218000_1,.bool x218001_1,.bool x218002_1,.bool x218003_1,.bool x218004_1,.bool false,.bool false,.bool false,.int .i64 0,.int .i64 0,.int .i64 0,.int .i64 0]) ?_ 5 _ rfl;(with_reducible repeat (first|refine blk_drewN ?_ _|refine blk_drew ?_|refine blk_alloc ?_ _));refine blk_put (cs:=#[.bool x218000_1,.bool x218001_1,.bool x218002_1,.bool x218003_1,.bool false,.bool false,.bool false,.bool false,.int .i64 0,.int .i64 0,.int .i64 0,.int .i64 0]) ?_ 4 _ rfl;(with_reducible repeat (first|refine blk_drewN ?_ _|refine blk_drew ?_|refine blk_alloc ?_ _));refine blk_put (cs:=#[.bool x218000_1,.bool x218001_1,.bool x218002_1,.bool false,.bool false,.bool false,.bool false,.bool false,.int .i64 0,.int .i64 0,.int .i64 0,.int .i64 0]) ?_ 3 _ rfl;(with_reducible repeat (first|refine blk_drewN ?_ _|refine blk_drew ?_|refine blk_alloc ?_ _));refine blk_put (cs:=#[.bool x218000_1,.bool x218001_1,.bool false,.bool false,.bool false,.bool false,.bool false,.bool false,.int .i64 0,.int .i64 0,.int .i64 0,.int .i64 0]) ?_ 2 _ rfl;(with_reducible repeat (first|refine blk_drewN ?_ _|refine blk_drew ?_|refine blk_alloc ?_ _));refine blk_put (cs:=#[.bool x218000_1,.bool false,.bool false,.bool false,.bool false,.bool false,.bool false,.bool false,.int .i64 0,.int .i64 0,.int .i64 0,.int .i64 0]) ?_ 1 _ rfl;(with_reducible repeat (first|refine blk_drewN ?_ _|refine blk_drew ?_|refine blk_alloc ?_ _));refine blk_put (cs:=#[.bool false,.bool false,.bool false,.bool false,.bool false,.bool false,.bool false,.bool false,.int .i64 0,.int .i64 0,.int .i64 0,.int .i64 0]) ?_ 0 _ rfl;(with_reducible repeat (first|refine blk_drewN ?_ _|refine blk_drew ?_|refine blk_alloc ?_ _));exact BK216.out) Tryz.underlying51 rfl (by kernel_rfl)) rfl ?_
     exact ⟨by first|rfl|(simp [errW_none,errW_some] <;> rfl)|(simp [*,errW_none,errW_some] <;> rfl),by repeat (first|(with_reducible first|exact HB.out|apply below_alloc|apply pw_below_drewN|apply below_drew1|refine below_set ?_ GE216.out|refine below_set ?_ GE217.out)|exact HB.out)⟩
    ·replace c86:=Bool.eq_false_iff.mpr c86
     subst c86
     have H1:((ambryref10_List.f k1 l0 (⟨#[80,114,97,103,109,97]⟩:ByteArray)).bind fun t231=>(ambryref13_Control.l1 k1 t231 0 x218000_1 x218001_1 x218002_1 x218003_1 x218004_1 x218005_1 x218006_1 x218007_1 x218008_1 x218009_1 x218010_1 x218011_1))=some (r1,r2,r3,r4,r5,r6,r7,r8,r9,r10,r11,r12):=by rw [if_neg (show ¬ (false=true) by decide)] at H;exact H
     clear H
     have H:=H1
     clear H1
     replace H:=Option.bind_eq_some_iff.mp H
     obtain ⟨t231,A920,H⟩:=H
     replace H:(ambryref13_Control.l1 k1 t231 0 x218000_1 x218001_1 x218002_1 x218003_1 x218004_1 x218005_1 x218006_1 x218007_1 x218008_1 x218009_1 x218010_1 x218011_1)=some (r1,r2,r3,r4,r5,r6,r7,r8,r9,r10,r11,r12):=H
     have A92:=mkA A920
     clear A920
     have H':=mkA H
     clear H
     obtain ⟨Ao93,co93,eo93⟩:=Kd.R_slice HO_4.out
     subst eo93
     go_wp2_with (first|((with_reducible refine gate_callee (f:=33) rfl ?_);refine goesL_ (some 85) rfl rfl Tryz.func33 (by kernel_rfl) rfl #[.slice A0 l0.length c0,.string (⟨#[67,97,99,104,101,45,67,111,110,116,114,111,108]⟩:ByteArray)] rfl (by (try simp only [List.map_toArray,List.map_cons,List.map_nil]);first|done|rfl|(simp only [List.length_drop,List.length_take];rfl)) ?_;(with_reducible refine (ambryref10_Get.calls k1 _ _ l0 (⟨#[67,97,99,104,101,45,67,111,110,116,114,111,108]⟩:ByteArray) t229 false _ ?side1 ?side2 A85.out).mono ?_);(case side1=>repeat (first|exact (Kd.C_below HR0.out HB.out)|(with_reducible refine Kd.C_alloc ?_ _)|(with_reducible refine Kd.C_drewN ?_ _)|(with_reducible refine Kd.C_drew ?_)));(case side2=>exact HC0.out);rintro e w94 ⟨rfl,hb⟩;refine ⟨_,rfl,?_⟩;have n0_:=mkA (Kd.R_below (by (with_reducible repeat (first|apply Kd.R_alloc|apply Kd.R_drewN|apply Kd.R_drew));exact HO_4.out) hb);have n1_:=mkA (blk_below (g:=gb216) (o:=.cells #[.bool false,.bool false,.bool false,.bool false,.bool false,.bool false,.bool false,.bool false,.int .i64 0,.int .i64 0,.int .i64 0,.int .i64 0] 51 (0,0)) (by (with_reducible repeat (first|refine blk_drewN ?_ _|refine blk_drew ?_|refine blk_alloc ?_ _));exact BK216.out) hb);have n2_:=mkA (blk_below (g:=gb217) (o:=.cells #[.bool x218000_1,.bool x218001_1,.bool x218002_1,.bool x218003_1,.bool x218004_1,.bool x218005_1,.bool x218006_1,.bool x218007_1,.int .i64 x218008_1,.int .i64 x218009_1,.int .i64 x218010_1,.int .i64 x218011_1] 51 (0,0)) (by (with_reducible repeat (first|refine blk_drewN ?_ _|refine blk_drew ?_|refine blk_alloc ?_ _));exact BK217.out) hb);have n3_:=mkA (below_step (by repeat (first|(with_reducible first|exact HB.out|apply below_alloc|apply pw_below_drewN|apply below_drew1|refine below_set ?_ GE216.out|refine below_set ?_ GE217.out)|exact HB.out)) hb);clear HO_4;clear BK216;clear BK217;clear HB;have HO_4:=n0_;have BK216:=n1_;have BK217:=n2_;have HB:=n3_;clear n0_ n1_ n2_ n3_;(try clear hb);(try clear hb2);(try clear hk);(try clear hi))|((with_reducible refine gate_callee (f:=55) rfl ?_);refine goesL_ (some 91) rfl rfl Tryz.func55 (by kernel_rfl) rfl #[.slice A0 l0.length c0,.string (⟨#[80,114,97,103,109,97]⟩:ByteArray)] rfl (by (try simp only [List.map_toArray,List.map_cons,List.map_nil]);first|done|rfl|(simp only [List.length_drop,List.length_take];rfl)) ?_;(with_reducible refine (ambryref10_List.calls k1 _ _ l0 (⟨#[80,114,97,103,109,97]⟩:ByteArray) t231 _ ?side1 ?side2 A92.out).mono ?_);(case side1=>repeat (first|exact (Kd.C_below HR0.out HB.out)|(with_reducible refine Kd.C_alloc ?_ _)|(with_reducible refine Kd.C_drewN ?_ _)|(with_reducible refine Kd.C_drew ?_)));(case side2=>exact HC0.out);rintro e w95 ⟨v232,rfl,ho0,hb⟩;refine ⟨_,rfl,?_⟩;have n0_:=mkA (Kd.R_elder' (by (with_reducible repeat (first|apply Kd.R_alloc|apply Kd.R_drewN|apply Kd.R_drew));exact HO_4.out) (Kd.R_base ho0) hb);have n1_:=mkA (Kd.R_lower (Kd.R_new' ho0 (Kd.R_lt (by (with_reducible repeat (first|apply Kd.R_alloc|apply Kd.R_drewN|apply Kd.R_drew));exact HO_4.out))) (below_size (by repeat (first|(with_reducible first|exact HB.out|apply below_alloc|apply pw_below_drewN|apply below_drew1|refine below_set ?_ GE216.out|refine below_set ?_ GE217.out)|exact HB.out))));have n2_:=mkA (blk_below (g:=gb216) (o:=.cells #[.bool false,.bool false,.bool false,.bool false,.bool false,.bool false,.bool false,.bool false,.int .i64 0,.int .i64 0,.int .i64 0,.int .i64 0] 51 (0,0)) (by (with_reducible repeat (first|refine blk_drewN ?_ _|refine blk_drew ?_|refine blk_alloc ?_ _));exact BK216.out) hb);have n3_:=mkA (blk_below (g:=gb217) (o:=.cells #[.bool x218000_1,.bool x218001_1,.bool x218002_1,.bool x218003_1,.bool x218004_1,.bool x218005_1,.bool x218006_1,.bool x218007_1,.int .i64 x218008_1,.int .i64 x218009_1,.int .i64 x218010_1,.int .i64 x218011_1] 51 (0,0)) (by (with_reducible repeat (first|refine blk_drewN ?_ _|refine blk_drew ?_|refine blk_alloc ?_ _));exact BK217.out) hb);have n4_:=mkA (below_step (by repeat (first|(with_reducible first|exact HB.out|apply below_alloc|apply pw_below_drewN|apply below_drew1|refine below_set ?_ GE216.out|refine below_set ?_ GE217.out)|exact HB.out)) hb);clear HO_4;clear BK216;clear BK217;clear HB;have HO_4:=n0_;have HO233:=n1_;have BK216:=n2_;have BK217:=n3_;have HB:=n4_;clear n0_ n1_ n2_ n3_ n4_;(try clear hb);(try clear hb2);(try clear hk);(try clear hi);(try clear ho0)))
     go_loopg [12] k1 (fun kq v12 w'=>∃ (x12_2:Int) (x218001_2:Bool),v12=.int .i64 x12_2∧Aside0 (ambryref13_Control.l1 kq t231 x12_2 x218000_1 x218001_2 x218002_1 x218003_1 x218004_1 x218005_1 x218006_1 x218007_1 x218008_1 x218009_1 x218010_1 x218011_1=some (r1,r2,r3,r4,r5,r6,r7,r8,r9,r10,r11,r12))∧Aside0 (kq≤k1)∧Aside0 (Kd.R Kd.string 9 w' w.heap.size (fun _=>True) v232 t231)∧Aside0 (w'.heap[gb216]?=some (.cells #[.bool false,.bool false,.bool false,.bool false,.bool false,.bool false,.bool false,.bool false,.int .i64 0,.int .i64 0,.int .i64 0,.int .i64 0] 51 (0,0)))∧Aside0 (w'.heap[gb217]?=some (.cells #[.bool x218000_1,.bool x218001_2,.bool x218002_1,.bool x218003_1,.bool x218004_1,.bool x218005_1,.bool x218006_1,.bool x218007_1,.int .i64 x218008_1,.int .i64 x218009_1,.int .i64 x218010_1,.int .i64 x218011_1] 51 (0,0)))∧Aside0 (Below w.heap.size w w'))
     case atStart=>exact ⟨(0),(x218001_1),(by first|rfl|(simp;done)|(simp [*];done)),H',⟨Nat.le_refl _⟩,⟨by (with_reducible repeat (first|apply Kd.R_alloc|apply Kd.R_drewN|apply Kd.R_drew));exact Kd.R_mono HO233.out (fun _ hk=>trivial)⟩,⟨by (with_reducible repeat (first|refine blk_drewN ?_ _|refine blk_drew ?_|refine blk_alloc ?_ _));exact BK216.out⟩,⟨by (with_reducible repeat (first|refine blk_drewN ?_ _|refine blk_drew ?_|refine blk_alloc ?_ _));exact BK217.out⟩,⟨by repeat (first|(with_reducible first|exact HB.out|apply below_alloc|apply pw_below_drewN|apply below_drew1|refine below_set ?_ GE216.out|refine below_set ?_ GE217.out)|exact HB.out)⟩⟩
     case round=>
      clear H'
      try clear c1
      try clear c2
      try clear p2
      try clear q2
      try clear hx2
      try clear c3
      try clear c4
      try clear c5
      try clear c6
      try clear p6
      try clear c7
      try clear c8
      try clear c8b0
      try clear c9
      try clear c9b0
      try clear c11
      try clear c11b0
      try clear c11b1
      try clear c14
      try clear c16
      try clear c16b0
      try clear c16b1
      try clear c19
      try clear c21
      try clear c21b0
      try clear c21b1
      try clear p22
      try clear q22
      try clear hx22
      try clear c24
      try clear c26
      try clear c26b0
      try clear c26b1
      try clear c29
      try clear c31
      try clear c31b0
      try clear c31b1
      try clear c33
      try clear c34
      try clear c36
      try clear c36b0
      try clear c36b1
      try clear c39
      try clear c41
      try clear c41b0
      try clear c41b1
      try clear c44
      try clear c46
      try clear c46b0
      try clear c46b1
      try clear c50
      try clear c54
      try clear c54b0
      try clear c54b1
      try clear c55
      try clear c56
      try clear c57
      try clear c58
      try clear c62
      try clear c62b0
      try clear c62b1
      try clear p64
      try clear c66
      try clear c70
      try clear c70b0
      try clear c70b1
      try clear c71
      try clear c75
      try clear c81
      try clear c86
      try clear c89
      try clear hcz15_0
      try clear hcz15_1
      try clear hcz15_10
      try clear hcz15_11
      try clear hcz15_2
      try clear hcz15_3
      try clear hcz15_4
      try clear hcz15_5
      try clear hcz15_6
      try clear hcz15_7
      try clear hcz15_8
      try clear hcz15_9
      try clear hcz20_0
      try clear hcz20_1
      try clear hcz20_10
      try clear hcz20_11
      try clear hcz20_2
      try clear hcz20_3
      try clear hcz20_4
      try clear hcz20_5
      try clear hcz20_6
      try clear hcz20_7
      try clear hcz20_8
      try clear hcz20_9
      try clear hcz25_0
      try clear hcz25_1
      try clear hcz25_10
      try clear hcz25_11
      try clear hcz25_2
      try clear hcz25_3
      try clear hcz25_4
      try clear hcz25_5
      try clear hcz25_6
      try clear hcz25_7
      try clear hcz25_8
      try clear hcz25_9
      try clear hcz30_0
      try clear hcz30_1
      try clear hcz30_10
      try clear hcz30_11
      try clear hcz30_2
      try clear hcz30_3
      try clear hcz30_4
      try clear hcz30_5
      try clear hcz30_6
      try clear hcz30_7
      try clear hcz30_8
      try clear hcz30_9
      try clear hcz35_0
      try clear hcz35_1
      try clear hcz35_10
      try clear hcz35_11
      try clear hcz35_2
      try clear hcz35_3
      try clear hcz35_4
      try clear hcz35_5
      try clear hcz35_6
      try clear hcz35_7
      try clear hcz35_8
      try clear hcz35_9
      try clear hcz40_0
      try clear hcz40_1
      try clear hcz40_10
      try clear hcz40_11
      try clear hcz40_2
      try clear hcz40_3
      try clear hcz40_4
      try clear hcz40_5
      try clear hcz40_6
      try clear hcz40_7
      try clear hcz40_8
      try clear hcz40_9
      try clear hcz45_0
      try clear hcz45_1
      try clear hcz45_10
      try clear hcz45_11
      try clear hcz45_2
      try clear hcz45_3
      try clear hcz45_4
      try clear hcz45_5
      try clear hcz45_6
      try clear hcz45_7
      try clear hcz45_8
      try clear hcz45_9
      try clear hcz51_0
      try clear hcz51_1
      try clear hcz51_10
      try clear hcz51_11
      try clear hcz51_2
      try clear hcz51_3
      try clear hcz51_4
      try clear hcz51_5
      try clear hcz51_6
      try clear hcz51_7
      try clear hcz51_8
      try clear hcz51_9
      try clear hcz53_0
      try clear hcz53_1
      try clear hcz53_10
      try clear hcz53_11
      try clear hcz53_2
      try clear hcz53_3
      try clear hcz53_4
      try clear hcz53_5
      try clear hcz53_6
      try clear hcz53_7
      try clear hcz53_8
      try clear hcz53_9
      try clear hcz59_0
      try clear hcz59_1
      try clear hcz59_10
      try clear hcz59_11
      try clear hcz59_2
      try clear hcz59_3
      try clear hcz59_4
      try clear hcz59_5
      try clear hcz59_6
      try clear hcz59_7
      try clear hcz59_8
      try clear hcz59_9
      try clear hcz61_0
      try clear hcz61_1
      try clear hcz61_10
      try clear hcz61_11
      try clear hcz61_2
      try clear hcz61_3
      try clear hcz61_4
      try clear hcz61_5
      try clear hcz61_6
      try clear hcz61_7
      try clear hcz61_8
      try clear hcz61_9
      try clear hcz67_0
      try clear hcz67_1
      try clear hcz67_10
      try clear hcz67_11
      try clear hcz67_2
      try clear hcz67_3
      try clear hcz67_4
      try clear hcz67_5
      try clear hcz67_6
      try clear hcz67_7
      try clear hcz67_8
      try clear hcz67_9
      try clear hcz69_0
      try clear hcz69_1
      try clear hcz69_10
      try clear hcz69_11
      try clear hcz69_2
      try clear hcz69_3
      try clear hcz69_4
      try clear hcz69_5
      try clear hcz69_6
      try clear hcz69_7
      try clear hcz69_8
      try clear hcz69_9
      try clear hcz6_0
      try clear hcz6_1
      try clear hcz6_10
      try clear hcz6_11
      try clear hcz6_2
      try clear hcz6_3
      try clear hcz6_4
      try clear hcz6_5
      try clear hcz6_6
      try clear hcz6_7
      try clear hcz6_8
      try clear hcz6_9
      try clear hcz76_0
      try clear hcz76_1
      try clear hcz76_10
      try clear hcz76_11
      try clear hcz76_2
      try clear hcz76_3
      try clear hcz76_4
      try clear hcz76_5
      try clear hcz76_6
      try clear hcz76_7
      try clear hcz76_8
      try clear hcz76_9
      try clear hcz78_0
      try clear hcz78_1
      try clear hcz78_10
      try clear hcz78_11
      try clear hcz78_2
      try clear hcz78_3
      try clear hcz78_4
      try clear hcz78_5
      try clear hcz78_6
      try clear hcz78_7
      try clear hcz78_8
      try clear hcz78_9
      try clear hcz82_0
      try clear hcz82_1
      try clear hcz82_10
      try clear hcz82_11
      try clear hcz82_2
      try clear hcz82_3
      try clear hcz82_4
      try clear hcz82_5
      try clear hcz82_6
      try clear hcz82_7
      try clear hcz82_8
      try clear hcz82_9
      try clear hcz90_0
      try clear hcz90_1
      try clear hcz90_10
      try clear hcz90_11
      try clear hcz90_2
      try clear hcz90_3
      try clear hcz90_4
      try clear hcz90_5
      try clear hcz90_6
      try clear hcz90_7
      try clear hcz90_8
      try clear hcz90_9
      try clear hcz91_0
      try clear hcz91_1
      try clear hcz91_10
      try clear hcz91_11
      try clear hcz91_2
      try clear hcz91_3
      try clear hcz91_4
      try clear hcz91_5
      try clear hcz91_6
      try clear hcz91_7
      try clear hcz91_8
      try clear hcz91_9
      try clear hfz15_0
      try clear hfz15_1
      try clear hfz15_10
      try clear hfz15_11
      try clear hfz15_2
      try clear hfz15_3
      try clear hfz15_4
      try clear hfz15_5
      try clear hfz15_6
      try clear hfz15_7
      try clear hfz15_8
      try clear hfz15_9
      try clear hfz20_0
      try clear hfz20_1
      try clear hfz20_10
      try clear hfz20_11
      try clear hfz20_2
      try clear hfz20_3
      try clear hfz20_4
      try clear hfz20_5
      try clear hfz20_6
      try clear hfz20_7
      try clear hfz20_8
      try clear hfz20_9
      try clear hfz25_0
      try clear hfz25_1
      try clear hfz25_10
      try clear hfz25_11
      try clear hfz25_2
      try clear hfz25_3
      try clear hfz25_4
      try clear hfz25_5
      try clear hfz25_6
      try clear hfz25_7
      try clear hfz25_8
      try clear hfz25_9
      try clear hfz30_0
      try clear hfz30_1
      try clear hfz30_10
      try clear hfz30_11
      try clear hfz30_2
      try clear hfz30_3
      try clear hfz30_4
      try clear hfz30_5
      try clear hfz30_6
      try clear hfz30_7
      try clear hfz30_8
      try clear hfz30_9
      try clear hfz35_0
      try clear hfz35_1
      try clear hfz35_10
      try clear hfz35_11
      try clear hfz35_2
      try clear hfz35_3
      try clear hfz35_4
      try clear hfz35_5
      try clear hfz35_6
      try clear hfz35_7
      try clear hfz35_8
      try clear hfz35_9
      try clear hfz40_0
      try clear hfz40_1
      try clear hfz40_10
      try clear hfz40_11
      try clear hfz40_2
      try clear hfz40_3
      try clear hfz40_4
      try clear hfz40_5
      try clear hfz40_6
      try clear hfz40_7
      try clear hfz40_8
      try clear hfz40_9
      try clear hfz45_0
      try clear hfz45_1
      try clear hfz45_10
      try clear hfz45_11
      try clear hfz45_2
      try clear hfz45_3
      try clear hfz45_4
      try clear hfz45_5
      try clear hfz45_6
      try clear hfz45_7
      try clear hfz45_8
      try clear hfz45_9
      try clear hfz51_0
      try clear hfz51_1
      try clear hfz51_10
      try clear hfz51_11
      try clear hfz51_2
      try clear hfz51_3
      try clear hfz51_4
      try clear hfz51_5
      try clear hfz51_6
      try clear hfz51_7
      try clear hfz51_8
      try clear hfz51_9
      try clear hfz53_0
      try clear hfz53_1
      try clear hfz53_10
      try clear hfz53_11
      try clear hfz53_2
      try clear hfz53_3
      try clear hfz53_4
      try clear hfz53_5
      try clear hfz53_6
      try clear hfz53_7
      try clear hfz53_8
      try clear hfz53_9
      try clear hfz59_0
      try clear hfz59_1
      try clear hfz59_10
      try clear hfz59_11
      try clear hfz59_2
      try clear hfz59_3
      try clear hfz59_4
      try clear hfz59_5
      try clear hfz59_6
      try clear hfz59_7
      try clear hfz59_8
      try clear hfz59_9
      try clear hfz61_0
      try clear hfz61_1
      try clear hfz61_10
      try clear hfz61_11
      try clear hfz61_2
      try clear hfz61_3
      try clear hfz61_4
      try clear hfz61_5
      try clear hfz61_6
      try clear hfz61_7
      try clear hfz61_8
      try clear hfz61_9
      try clear hfz67_0
      try clear hfz67_1
      try clear hfz67_10
      try clear hfz67_11
      try clear hfz67_2
      try clear hfz67_3
      try clear hfz67_4
      try clear hfz67_5
      try clear hfz67_6
      try clear hfz67_7
      try clear hfz67_8
      try clear hfz67_9
      try clear hfz69_0
      try clear hfz69_1
      try clear hfz69_10
      try clear hfz69_11
      try clear hfz69_2
      try clear hfz69_3
      try clear hfz69_4
      try clear hfz69_5
      try clear hfz69_6
      try clear hfz69_7
      try clear hfz69_8
      try clear hfz69_9
      try clear hfz6_0
      try clear hfz6_1
      try clear hfz6_10
      try clear hfz6_11
      try clear hfz6_2
      try clear hfz6_3
      try clear hfz6_4
      try clear hfz6_5
      try clear hfz6_6
      try clear hfz6_7
      try clear hfz6_8
      try clear hfz6_9
      try clear hfz76_0
      try clear hfz76_1
      try clear hfz76_10
      try clear hfz76_11
      try clear hfz76_2
      try clear hfz76_3
      try clear hfz76_4
      try clear hfz76_5
      try clear hfz76_6
      try clear hfz76_7
      try clear hfz76_8
      try clear hfz76_9
      try clear hfz78_0
      try clear hfz78_1
      try clear hfz78_10
      try clear hfz78_11
      try clear hfz78_2
      try clear hfz78_3
      try clear hfz78_4
      try clear hfz78_5
      try clear hfz78_6
      try clear hfz78_7
      try clear hfz78_8
      try clear hfz78_9
      try clear hfz82_0
      try clear hfz82_1
      try clear hfz82_10
      try clear hfz82_11
      try clear hfz82_2
      try clear hfz82_3
      try clear hfz82_4
      try clear hfz82_5
      try clear hfz82_6
      try clear hfz82_7
      try clear hfz82_8
      try clear hfz82_9
      try clear hfz90_0
      try clear hfz90_1
      try clear hfz90_10
      try clear hfz90_11
      try clear hfz90_2
      try clear hfz90_3
      try clear hfz90_4
      try clear hfz90_5
      try clear hfz90_6
      try clear hfz90_7
      try clear hfz90_8
      try clear hfz90_9
      try clear hfz91_0
      try clear hfz91_1
      try clear hfz91_10
      try clear hfz91_11
      try clear hfz91_2
      try clear hfz91_3
      try clear hfz91_4
      try clear hfz91_5
      try clear hfz91_6
      try clear hfz91_7
      try clear hfz91_8
      try clear hfz91_9
      try clear hx221_0
      try clear p2
      try clear p221
      try clear q221
      obtain ⟨x12_2,x218001_2,rfl,HA,HK2,HO_11,BK216,BK217,HB⟩:=hrel
      cases gk with
      |zero=>exact absurd HA.out (by simp [ambryref13_Control.l1])
      |succ k2=>
       have H:=HA.out
       clear HA
       simp only [ambryref13_Control.l1] at H
       by_cases c96:x12_2 < (t231.length:Int)
       ·rw [if_pos c96] at H
        have c96b0:decide (x12_2 < (t231.length:Int))=true:=decide_eq_true c96
        clear c96
        by_cases c97:x218001_2=true
        ·subst c97
         have H1:(ambryref13_Control.l1 k2 t231 (wrap64 (x12_2+1)) x218000_1 true x218002_1 x218003_1 x218004_1 x218005_1 x218006_1 x218007_1 x218008_1 x218009_1 x218010_1 x218011_1)=some (r1,r2,r3,r4,r5,r6,r7,r8,r9,r10,r11,r12):=by rw [if_pos rfl] at H;exact H
         clear H
         have H:=H1
         clear H1
         have H':=mkA H
         clear H
         obtain ⟨Ao98,co98,eo98⟩:=Kd.R_slice HO_11.out
         subst eo98
         have hnb99:=NB217_216.out
         have hnc99:=NB216_217.out
         have hcz100_0:wr.cell? ⟨gb217,0,none⟩=some (.bool x218000_1):=(blk_cell BK217.out 0).trans rfl
         have hcz100_1:wr.cell? ⟨gb217,1,none⟩=some (.bool true):=(blk_cell BK217.out 1).trans rfl
         have hcz100_2:wr.cell? ⟨gb217,2,none⟩=some (.bool x218002_1):=(blk_cell BK217.out 2).trans rfl
         have hcz100_3:wr.cell? ⟨gb217,3,none⟩=some (.bool x218003_1):=(blk_cell BK217.out 3).trans rfl
         have hcz100_4:wr.cell? ⟨gb217,4,none⟩=some (.bool x218004_1):=(blk_cell BK217.out 4).trans rfl
         have hcz100_5:wr.cell? ⟨gb217,5,none⟩=some (.bool x218005_1):=(blk_cell BK217.out 5).trans rfl
         have hcz100_6:wr.cell? ⟨gb217,6,none⟩=some (.bool x218006_1):=(blk_cell BK217.out 6).trans rfl
         have hcz100_7:wr.cell? ⟨gb217,7,none⟩=some (.bool x218007_1):=(blk_cell BK217.out 7).trans rfl
         have hcz100_8:wr.cell? ⟨gb217,8,none⟩=some (.int .i64 x218008_1):=(blk_cell BK217.out 8).trans rfl
         have hcz100_9:wr.cell? ⟨gb217,9,none⟩=some (.int .i64 x218009_1):=(blk_cell BK217.out 9).trans rfl
         have hcz100_10:wr.cell? ⟨gb217,10,none⟩=some (.int .i64 x218010_1):=(blk_cell BK217.out 10).trans rfl
         have hcz100_11:wr.cell? ⟨gb217,11,none⟩=some (.int .i64 x218011_1):=(blk_cell BK217.out 11).trans rfl
         have hfz100_0:=blk_frozen BK217.out 0
         have hfz100_1:=blk_frozen BK217.out 1
         have hfz100_2:=blk_frozen BK217.out 2
         have hfz100_3:=blk_frozen BK217.out 3
         have hfz100_4:=blk_frozen BK217.out 4
         have hfz100_5:=blk_frozen BK217.out 5
         have hfz100_6:=blk_frozen BK217.out 6
         have hfz100_7:=blk_frozen BK217.out 7
         have hfz100_8:=blk_frozen BK217.out 8
         have hfz100_9:=blk_frozen BK217.out 9
         have hfz100_10:=blk_frozen BK217.out 10
         have hfz100_11:=blk_frozen BK217.out 11
         go_wp2
         go_roundg k2
         case measure=>have:=HK1.out;have:=HK2.out;omega
         case rel=>exact ⟨(wrap64 (x12_2+1)),(true),(by first|rfl|(simp;done)|(simp [*];done)),H',⟨by have:=HK1.out;have:=HK2.out;omega⟩,⟨by (with_reducible repeat (first|apply Kd.R_alloc|apply Kd.R_drewN|apply Kd.R_drew));exact Kd.R_mono (Kd.R_far (p:=⟨gb217,1,none⟩) (Kd.R_types HO_11.out BK217.out (by decide)) (fun _ hk=>hk.2) (.bool true)) (fun _ hk=>trivial)⟩,⟨by (with_reducible repeat (first|refine blk_drewN ?_ _|refine blk_drew ?_|refine blk_alloc ?_ _));refine blk_far ?_ NB216_217.out _;(with_reducible repeat (first|refine blk_drewN ?_ _|refine blk_drew ?_|refine blk_alloc ?_ _));exact BK216.out⟩,⟨by (with_reducible repeat (first|refine blk_drewN ?_ _|refine blk_drew ?_|refine blk_alloc ?_ _));refine blk_put (cs:=#[.bool x218000_1,.bool true,.bool x218002_1,.bool x218003_1,.bool x218004_1,.bool x218005_1,.bool x218006_1,.bool x218007_1,.int .i64 x218008_1,.int .i64 x218009_1,.int .i64 x218010_1,.int .i64 x218011_1]) ?_ 1 _ rfl;(with_reducible repeat (first|refine blk_drewN ?_ _|refine blk_drew ?_|refine blk_alloc ?_ _));exact BK217.out⟩,⟨by repeat (first|(with_reducible first|exact HB.out|apply below_alloc|apply pw_below_drewN|apply below_drew1|refine below_set ?_ GE216.out|refine below_set ?_ GE217.out)|exact HB.out)⟩⟩
        ·replace c97:=Bool.eq_false_iff.mpr c97
         subst c97
         have H1:(if 0≤x12_2 then ((ambryref10_Same.f (rdOf ByteArray.empty t231 x12_2) (⟨#[110,111,45,99,97,99,104,101]⟩:ByteArray)).bind fun t235=>(ambryref13_Control.l1 k2 t231 (wrap64 (x12_2+1)) x218000_1 t235 x218002_1 x218003_1 x218004_1 x218005_1 x218006_1 x218007_1 x218008_1 x218009_1 x218010_1 x218011_1)) else (none))=some (r1,r2,r3,r4,r5,r6,r7,r8,r9,r10,r11,r12):=by rw [if_neg (show ¬ (false=true) by decide)] at H;exact H
         clear H
         have H:=H1
         clear H1
         by_cases c101:0≤x12_2
         ·rw [if_pos c101] at H
          have c101b0:decide (0≤x12_2)=true:=decide_eq_true c101
          clear c101
          replace H:=Option.bind_eq_some_iff.mp H
          obtain ⟨t235,A1020,H⟩:=H
          replace H:(ambryref13_Control.l1 k2 t231 (wrap64 (x12_2+1)) x218000_1 t235 x218002_1 x218003_1 x218004_1 x218005_1 x218006_1 x218007_1 x218008_1 x218009_1 x218010_1 x218011_1)=some (r1,r2,r3,r4,r5,r6,r7,r8,r9,r10,r11,r12):=H
          have A102:=mkA A1020
          clear A1020
          have H':=mkA H
          clear H
          obtain ⟨Ao103,co103,eo103⟩:=Kd.R_slice HO_11.out
          subst eo103
          have hnb104:=NB217_216.out
          have hnc104:=NB216_217.out
          have hcz105_0:wr.cell? ⟨gb217,0,none⟩=some (.bool x218000_1):=(blk_cell BK217.out 0).trans rfl
          have hcz105_1:wr.cell? ⟨gb217,1,none⟩=some (.bool false):=(blk_cell BK217.out 1).trans rfl
          have hcz105_2:wr.cell? ⟨gb217,2,none⟩=some (.bool x218002_1):=(blk_cell BK217.out 2).trans rfl
          have hcz105_3:wr.cell? ⟨gb217,3,none⟩=some (.bool x218003_1):=(blk_cell BK217.out 3).trans rfl
          have hcz105_4:wr.cell? ⟨gb217,4,none⟩=some (.bool x218004_1):=(blk_cell BK217.out 4).trans rfl
          have hcz105_5:wr.cell? ⟨gb217,5,none⟩=some (.bool x218005_1):=(blk_cell BK217.out 5).trans rfl
          have hcz105_6:wr.cell? ⟨gb217,6,none⟩=some (.bool x218006_1):=(blk_cell BK217.out 6).trans rfl
          have hcz105_7:wr.cell? ⟨gb217,7,none⟩=some (.bool x218007_1):=(blk_cell BK217.out 7).trans rfl
          have hcz105_8:wr.cell? ⟨gb217,8,none⟩=some (.int .i64 x218008_1):=(blk_cell BK217.out 8).trans rfl
          have hcz105_9:wr.cell? ⟨gb217,9,none⟩=some (.int .i64 x218009_1):=(blk_cell BK217.out 9).trans rfl
          have hcz105_10:wr.cell? ⟨gb217,10,none⟩=some (.int .i64 x218010_1):=(blk_cell BK217.out 10).trans rfl
          have hcz105_11:wr.cell? ⟨gb217,11,none⟩=some (.int .i64 x218011_1):=(blk_cell BK217.out 11).trans rfl
          have hfz105_0:=blk_frozen BK217.out 0
          have hfz105_1:=blk_frozen BK217.out 1
          have hfz105_2:=blk_frozen BK217.out 2
          have hfz105_3:=blk_frozen BK217.out 3
          have hfz105_4:=blk_frozen BK217.out 4
          have hfz105_5:=blk_frozen BK217.out 5
          have hfz105_6:=blk_frozen BK217.out 6
          have hfz105_7:=blk_frozen BK217.out 7
          have hfz105_8:=blk_frozen BK217.out 8
          have hfz105_9:=blk_frozen BK217.out 9
          have hfz105_10:=blk_frozen BK217.out 10
          have hfz105_11:=blk_frozen BK217.out 11
          have p234:0≤(x12_2:Int):=of_decide_eq_true (by first|(with_reducible assumption)|assumption)
          have q234:x12_2 < (t231.length:Int):=of_decide_eq_true (by first|(with_reducible assumption)|assumption)
          obtain ⟨ad234,e234,hx234_0⟩:=Kd.at_string (Kd.R_reads' HO_11.out).2.2 x12_2 p234 q234
          cases e234
          replace p234:=eq_true p234
          replace q234:=eq_true q234
          go_wp2_with (first|(go_at_call 58;(with_reducible refine (ambryref10_Same.calls (rdOf ByteArray.empty t231 x12_2) (⟨#[110,111,45,99,97,99,104,101]⟩:ByteArray) t235 _ A102.out).mono ?_);rintro e w106 ⟨rfl,hb⟩;have n0_:=mkA (Kd.R_below (by (with_reducible repeat (first|apply Kd.R_alloc|apply Kd.R_drewN|apply Kd.R_drew));exact HO_11.out) hb);have n1_:=mkA (blk_below (g:=gb216) (o:=.cells #[.bool false,.bool false,.bool false,.bool false,.bool false,.bool false,.bool false,.bool false,.int .i64 0,.int .i64 0,.int .i64 0,.int .i64 0] 51 (0,0)) (by (with_reducible repeat (first|refine blk_drewN ?_ _|refine blk_drew ?_|refine blk_alloc ?_ _));exact BK216.out) hb);have n2_:=mkA (blk_below (g:=gb217) (o:=.cells #[.bool x218000_1,.bool false,.bool x218002_1,.bool x218003_1,.bool x218004_1,.bool x218005_1,.bool x218006_1,.bool x218007_1,.int .i64 x218008_1,.int .i64 x218009_1,.int .i64 x218010_1,.int .i64 x218011_1] 51 (0,0)) (by (with_reducible repeat (first|refine blk_drewN ?_ _|refine blk_drew ?_|refine blk_alloc ?_ _));exact BK217.out) hb);have n3_:=mkA (below_step (by repeat (first|(with_reducible first|exact HB.out|apply below_alloc|apply pw_below_drewN|apply below_drew1|refine below_set ?_ GE216.out|refine below_set ?_ GE217.out)|exact HB.out)) hb);clear HO_11;clear BK216;clear BK217;clear HB;have HO_11:=n0_;have BK216:=n1_;have BK217:=n2_;have HB:=n3_;clear n0_ n1_ n2_ n3_;(try clear hb);(try clear hb2);(try clear hk);(try clear hi);have hcz107_0:w106.cell? ⟨gb217,0,none⟩=some (.bool x218000_1):=(blk_cell BK217.out 0).trans rfl;have hcz107_1:w106.cell? ⟨gb217,1,none⟩=some (.bool false):=(blk_cell BK217.out 1).trans rfl;have hcz107_2:w106.cell? ⟨gb217,2,none⟩=some (.bool x218002_1):=(blk_cell BK217.out 2).trans rfl;have hcz107_3:w106.cell? ⟨gb217,3,none⟩=some (.bool x218003_1):=(blk_cell BK217.out 3).trans rfl;have hcz107_4:w106.cell? ⟨gb217,4,none⟩=some (.bool x218004_1):=(blk_cell BK217.out 4).trans rfl;have hcz107_5:w106.cell? ⟨gb217,5,none⟩=some (.bool x218005_1):=(blk_cell BK217.out 5).trans rfl;have hcz107_6:w106.cell? ⟨gb217,6,none⟩=some (.bool x218006_1):=(blk_cell BK217.out 6).trans rfl;have hcz107_7:w106.cell? ⟨gb217,7,none⟩=some (.bool x218007_1):=(blk_cell BK217.out 7).trans rfl;have hcz107_8:w106.cell? ⟨gb217,8,none⟩=some (.int .i64 x218008_1):=(blk_cell BK217.out 8).trans rfl;have hcz107_9:w106.cell? ⟨gb217,9,none⟩=some (.int .i64 x218009_1):=(blk_cell BK217.out 9).trans rfl;have hcz107_10:w106.cell? ⟨gb217,10,none⟩=some (.int .i64 x218010_1):=(blk_cell BK217.out 10).trans rfl;have hcz107_11:w106.cell? ⟨gb217,11,none⟩=some (.int .i64 x218011_1):=(blk_cell BK217.out 11).trans rfl;have hfz107_0:=blk_frozen BK217.out 0;have hfz107_1:=blk_frozen BK217.out 1;have hfz107_2:=blk_frozen BK217.out 2;have hfz107_3:=blk_frozen BK217.out 3;have hfz107_4:=blk_frozen BK217.out 4;have hfz107_5:=blk_frozen BK217.out 5;have hfz107_6:=blk_frozen BK217.out 6;have hfz107_7:=blk_frozen BK217.out 7;have hfz107_8:=blk_frozen BK217.out 8;have hfz107_9:=blk_frozen BK217.out 9;have hfz107_10:=blk_frozen BK217.out 10;have hfz107_11:=blk_frozen BK217.out 11))
          go_roundg k2
          case measure=>have:=HK1.out;have:=HK2.out;omega
          case rel=>exact ⟨(wrap64 (x12_2+1)),(t235),(by first|rfl|(simp;done)|(simp [*];done)),H',⟨by have:=HK1.out;have:=HK2.out;omega⟩,⟨by (with_reducible repeat (first|apply Kd.R_alloc|apply Kd.R_drewN|apply Kd.R_drew));exact Kd.R_mono (Kd.R_far (p:=⟨gb217,1,none⟩) (Kd.R_types HO_11.out BK217.out (by decide)) (fun _ hk=>hk.2) (.bool t235)) (fun _ hk=>trivial)⟩,⟨by (with_reducible repeat (first|refine blk_drewN ?_ _|refine blk_drew ?_|refine blk_alloc ?_ _));refine blk_far ?_ NB216_217.out _;(with_reducible repeat (first|refine blk_drewN ?_ _|refine blk_drew ?_|refine blk_alloc ?_ _));exact BK216.out⟩,⟨by (with_reducible repeat (first|refine blk_drewN ?_ _|refine blk_drew ?_|refine blk_alloc ?_ _));refine blk_put (cs:=#[.bool x218000_1,.bool false,.bool x218002_1,.bool x218003_1,.bool x218004_1,.bool x218005_1,.bool x218006_1,.bool x218007_1,.int .i64 x218008_1,.int .i64 x218009_1,.int .i64 x218010_1,.int .i64 x218011_1]) ?_ 1 _ rfl;(with_reducible repeat (first|refine blk_drewN ?_ _|refine blk_drew ?_|refine blk_alloc ?_ _));exact BK217.out⟩,⟨by repeat (first|(with_reducible first|exact HB.out|apply below_alloc|apply pw_below_drewN|apply below_drew1|refine below_set ?_ GE216.out|refine below_set ?_ GE217.out)|exact HB.out)⟩⟩
         ·rw [if_neg c101] at H
          exact absurd H (by simp)
       ·rw [if_neg c96] at H
        have c96b0:decide (x12_2 < (t231.length:Int))=false:=decide_eq_false c96
        clear c96
        simp only [Option.some.injEq,Prod.mk.injEq] at H
        obtain ⟨rfl,rfl,rfl,rfl,rfl,rfl,rfl,rfl,rfl,rfl,rfl,rfl⟩:=H
        obtain ⟨Ao108,co108,eo108⟩:=Kd.R_slice HO_11.out
        subst eo108
        have hnb109:=NB217_216.out
        have hnc109:=NB216_217.out
        have hcz110_0:wr.cell? ⟨gb217,0,none⟩=some (.bool x218000_1):=(blk_cell BK217.out 0).trans rfl
        have hcz110_1:wr.cell? ⟨gb217,1,none⟩=some (.bool x218001_2):=(blk_cell BK217.out 1).trans rfl
        have hcz110_2:wr.cell? ⟨gb217,2,none⟩=some (.bool x218002_1):=(blk_cell BK217.out 2).trans rfl
        have hcz110_3:wr.cell? ⟨gb217,3,none⟩=some (.bool x218003_1):=(blk_cell BK217.out 3).trans rfl
        have hcz110_4:wr.cell? ⟨gb217,4,none⟩=some (.bool x218004_1):=(blk_cell BK217.out 4).trans rfl
        have hcz110_5:wr.cell? ⟨gb217,5,none⟩=some (.bool x218005_1):=(blk_cell BK217.out 5).trans rfl
        have hcz110_6:wr.cell? ⟨gb217,6,none⟩=some (.bool x218006_1):=(blk_cell BK217.out 6).trans rfl
        have hcz110_7:wr.cell? ⟨gb217,7,none⟩=some (.bool x218007_1):=(blk_cell BK217.out 7).trans rfl
        have hcz110_8:wr.cell? ⟨gb217,8,none⟩=some (.int .i64 x218008_1):=(blk_cell BK217.out 8).trans rfl
        have hcz110_9:wr.cell? ⟨gb217,9,none⟩=some (.int .i64 x218009_1):=(blk_cell BK217.out 9).trans rfl
        have hcz110_10:wr.cell? ⟨gb217,10,none⟩=some (.int .i64 x218010_1):=(blk_cell BK217.out 10).trans rfl
        have hcz110_11:wr.cell? ⟨gb217,11,none⟩=some (.int .i64 x218011_1):=(blk_cell BK217.out 11).trans rfl
        have hfz110_0:=blk_frozen BK217.out 0
        have hfz110_1:=blk_frozen BK217.out 1
        have hfz110_2:=blk_frozen BK217.out 2
        have hfz110_3:=blk_frozen BK217.out 3
        have hfz110_4:=blk_frozen BK217.out 4
        have hfz110_5:=blk_frozen BK217.out 5
        have hfz110_6:=blk_frozen BK217.out 6
        have hfz110_7:=blk_frozen BK217.out 7
        have hfz110_8:=blk_frozen BK217.out 8
        have hfz110_9:=blk_frozen BK217.out 9
        have hfz110_10:=blk_frozen BK217.out 10
        have hfz110_11:=blk_frozen BK217.out 11
        have hcz111_0:wr.cell? ⟨gb216,0,none⟩=some (.bool false):=(blk_cell BK216.out 0).trans rfl
        have hcz111_1:wr.cell? ⟨gb216,1,none⟩=some (.bool false):=(blk_cell BK216.out 1).trans rfl
        have hcz111_2:wr.cell? ⟨gb216,2,none⟩=some (.bool false):=(blk_cell BK216.out 2).trans rfl
        have hcz111_3:wr.cell? ⟨gb216,3,none⟩=some (.bool false):=(blk_cell BK216.out 3).trans rfl
        have hcz111_4:wr.cell? ⟨gb216,4,none⟩=some (.bool false):=(blk_cell BK216.out 4).trans rfl
        have hcz111_5:wr.cell? ⟨gb216,5,none⟩=some (.bool false):=(blk_cell BK216.out 5).trans rfl
        have hcz111_6:wr.cell? ⟨gb216,6,none⟩=some (.bool false):=(blk_cell BK216.out 6).trans rfl
        have hcz111_7:wr.cell? ⟨gb216,7,none⟩=some (.bool false):=(blk_cell BK216.out 7).trans rfl
        have hcz111_8:wr.cell? ⟨gb216,8,none⟩=some (.int .i64 0):=(blk_cell BK216.out 8).trans rfl
        have hcz111_9:wr.cell? ⟨gb216,9,none⟩=some (.int .i64 0):=(blk_cell BK216.out 9).trans rfl
        have hcz111_10:wr.cell? ⟨gb216,10,none⟩=some (.int .i64 0):=(blk_cell BK216.out 10).trans rfl
        have hcz111_11:wr.cell? ⟨gb216,11,none⟩=some (.int .i64 0):=(blk_cell BK216.out 11).trans rfl
        have hfz111_0:=blk_frozen BK216.out 0
        have hfz111_1:=blk_frozen BK216.out 1
        have hfz111_2:=blk_frozen BK216.out 2
        have hfz111_3:=blk_frozen BK216.out 3
        have hfz111_4:=blk_frozen BK216.out 4
        have hfz111_5:=blk_frozen BK216.out 5
        have hfz111_6:=blk_frozen BK216.out 6
        have hfz111_7:=blk_frozen BK216.out 7
        have hfz111_8:=blk_frozen BK216.out 8
        have hfz111_9:=blk_frozen BK216.out 9
        have hfz111_10:=blk_frozen BK216.out 10
        have hfz111_11:=blk_frozen BK216.out 11
        go_wp2
        refine bodyPost_ret (results_cell_row rfl _ _ gb216 51 #[.bool x218000_1,.bool x218001_2,.bool x218002_1,.bool x218003_1,.bool x218004_1,.bool x218005_1,.bool x218006_1,.bool x218007_1,.int .i64 x218008_1,.int .i64 x218009_1,.int .i64 x218010_1,.int .i64 x218011_1] (0,0) _ rfl (by (with_reducible repeat (first|refine blk_drewN ?_ _|refine blk_drew ?_|refine blk_alloc ?_ _));refine blk_put (cs:=#[.bool x218000_1,.bool x218001_2,.bool x218002_1,.bool x218003_1,.bool x218004_1,.bool x218005_1,.bool x218006_1,.bool x218007_1,.int .i64 x218008_1,.int .i64 x218009_1,.int .i64 x218010_1,.int .i64 0]) ?_ 11 _ rfl;(with_reducible repeat (first|refine blk_drewN ?_ _|refine blk_drew ?_|refine blk_alloc ?_ _));refine blk_put (cs:=#[.bool x218000_1,.bool x218001_2,.bool x218002_1,.bool x218003_1,.bool x218004_1,.bool x218005_1,.bool x218006_1,.bool x218007_1,.int .i64 x218008_1,.int .i64 x218009_1,.int .i64 0,.int .i64 0]) ?_ 10 _ rfl;(with_reducible repeat (first|refine blk_drewN ?_ _|refine blk_drew ?_|refine blk_alloc ?_ _));refine blk_put (cs:=#[.bool x218000_1,.bool x218001_2,.bool x218002_1,.bool x218003_1,.bool x218004_1,.bool x218005_1,.bool x218006_1,.bool x218007_1,.int .i64 x218008_1,.int .i64 0,.int .i64 0,.int .i64 0]) ?_ 9 _ rfl;(with_reducible repeat (first|refine blk_drewN ?_ _|refine blk_drew ?_|refine blk_alloc ?_ _));refine blk_put (cs:=#[.bool x218000_1,.bool x218001_2,.bool x218002_1,.bool x218003_1,.bool x218004_1,.bool x218005_1,.bool x218006_1,.bool x218007_1,.int .i64 0,.int .i64 0,.int .i64 0,.int .i64 0]) ?_ 8 _ rfl;(with_reducible repeat (first|refine blk_drewN ?_ _|refine blk_drew ?_|refine blk_alloc ?_ _));refine blk_put (cs:=#[.bool x218000_1,.bool x218001_2,.bool x218002_1,.bool x218003_1,.bool x218004_1,.bool x218005_1,.bool x218006_1,.bool false,.int .i64 0,.int .i64 0,.int .i64 0,.int .i64 0]) ?_ 7 _ rfl;(with_reducible repeat (first|refine blk_drewN ?_ _|refine blk_drew ?_|refine blk_alloc ?_ _));refine blk_put (cs:=#[.bool x218000_1,.bool x218001_2,.bool x218002_1,.bool x218003_1,.bool x218004_1,.bool x218005_1,.bool false,.bool false,.int .i64 0,.int .i64 0,.int .i64 0,.int .i64 0]) ?_ 6 _ rfl;(with_reducible repeat (first|refine blk_drewN ?_ _|refine blk_drew ?_|refine blk_alloc ?_ _));refine blk_put (cs:=#[.bool x218000_1,.bool x218001_2,.bool x218002_1,.bool x218003_1,.bool x218004_1,.bool false,.bool false,.bool false,.int .i64 0,.int .i64 0,.int .i64 0,.int .i64 0]) ?_ 5 _ rfl;(with_reducible repeat (first|refine blk_drewN ?_ _|refine blk_drew ?_|refine blk_alloc ?_ _));refine blk_put (cs:=#[.bool x218000_1,.bool x218001_2,.bool x218002_1,.bool x218003_1,.bool false,.bool false,.bool false,.bool false,.int .i64 0,.int .i64 0,.int .i64 0,.int .i64 0]) ?_ 4 _ rfl;(with_reducible repeat (first|refine blk_drewN ?_ _|refine blk_drew ?_|refine blk_alloc ?_ _));refine blk_put (cs:=#[.bool x218000_1,.bool x218001_2,.bool x218002_1,.bool false,.bool false,.bool false,.bool false,.bool false,.int .i64 0,.int .i64 0,.int .i64 0,.int .i64 0]) ?_ 3 _ rfl;(with_reducible repeat (first|refine blk_drewN ?_ _|refine blk_drew ?_|refine blk_alloc ?_ _));refine blk_put (cs:=#[.bool x218000_1,.bool x218001_2,.bool false,.bool false,.bool false,.bool false,.bool false,.bool false,.int .i64 0,.int .i64 0,.int .i64 0,.int .i64 0]) ?_ 2 _ rfl;(with_reducible repeat (first|refine blk_drewN ?_ _|refine blk_drew ?_|refine blk_alloc ?_ _));refine blk_put (cs:=#[.bool x218000_1,.bool false,.bool false,.bool false,.bool false,.bool false,.bool false,.bool false,.int .i64 0,.int .i64 0,.int .i64 0,.int .i64 0]) ?_ 1 _ rfl;(with_reducible repeat (first|refine blk_drewN ?_ _|refine blk_drew ?_|refine blk_alloc ?_ _));refine blk_put (cs:=#[.bool false,.bool false,.bool false,.bool false,.bool false,.bool false,.bool false,.bool false,.int .i64 0,.int .i64 0,.int .i64 0,.int .i64 0]) ?_ 0 _ rfl;(with_reducible repeat (first|refine blk_drewN ?_ _|refine blk_drew ?_|refine blk_alloc ?_ _));exact BK216.out) Tryz.underlying51 rfl (by kernel_rfl)) rfl ?_
        exact ⟨by first|rfl|(simp [errW_none,errW_some] <;> rfl)|(simp [*,errW_none,errW_some] <;> rfl),by repeat (first|(with_reducible first|exact HB.out|apply below_alloc|apply pw_below_drewN|apply below_drew1|refine below_set ?_ GE216.out|refine below_set ?_ GE217.out)|exact HB.out)⟩
end Go.Proofs.YtlnmnjbihgaliaaGreat.Pr
