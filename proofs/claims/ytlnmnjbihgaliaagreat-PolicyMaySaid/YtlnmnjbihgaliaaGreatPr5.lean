import Derived.Test.YtlnmnjbihgaliaaGreatPr0
import Derived.Test.YtlnmnjbihgaliaaGreatPr2
import Derived.Test.YtlnmnjbihgaliaaGreatPr3
import Derived.Test.YtlnmnjbihgaliaaGreatPr4
set_option linter.unusedVariables false
set_option linter.unusedSimpArgs false
namespace Go.Proofs.YtlnmnjbihgaliaaGreat.Pr
open Go.RowKit Go.Proofs.YtlnmnjbihgaliaaGreatW.PrintWords Go.Proofs.YtlnmnjbihgaliaaGreatW.PrintLast Go.Proofs.YtlnmnjbihgaliaaGreatW.PrintMore
attribute [local go_sem] max2_int min2_int max_two min_two max_three min_three max_four min_four
mutual
def head_List.l0:Nat→List ByteArray→List ByteArray→Int→Int→Option (List ByteArray)
 |0,_,_,_,_=>none
 |k+1,x5,x12,x13,x14=>if x14 < x13 then (if 0≤x14 then (if x14 < (x12.length:Int) then ((head_cut.f k (rdOf ByteArray.empty x12 x14)).bind fun t122=>(head_List.l1 k x5 x12 x13 x14 t122 (t122.length:Int) 0)) else (none)) else (none)) else (some x5)
def head_List.l1:Nat→List ByteArray→List ByteArray→Int→Int→List ByteArray→Int→Int→Option (List ByteArray)
 |0,_,_,_,_,_,_,_=>none
 |k+1,x5,x12,x13,x14,x19,x20,x21=>if x21 < x20 then (if 0≤x21 then (if x21 < (x19.length:Int) then ((head_trim.f k (rdOf ByteArray.empty x19 x21)).bind fun t126=>(if t126.toList=([]:List UInt8) then (head_List.l1 k x5 x12 x13 x14 x19 x20 (wrap64 (x21+1))) else (if x5.length < 8796093022208 then (head_List.l1 k (x5++[t126]) x12 x13 x14 x19 x20 (wrap64 (x21+1))) else (none)))) else (none)) else (none)) else (head_List.l0 k x5 x12 x13 (wrap64 (x14+1)))
end
def head_List.f(k:Nat)(l0:List (S41))(a1:ByteArray):Option (List ByteArray):=(head_All.f k l0 a1).bind fun t118=>(head_List.l0 k ([]:List ByteArray) t118 (t118.length:Int) 0)
set_option maxHeartbeats 8000000 in
set_option maxRecDepth 100000 in
theorem head_List.calls(k:Nat)(A0:Option Addr)(c0:Nat)(l0:List (S41))(a1:ByteArray)(r:List ByteArray)(w:World)(hr0:Kd.C k41 w A0 l0.length l0)(hc0:l0.length≤c0)(h:head_List.f k l0 a1=some r):
  Calls Tryz.prog 46 #[.slice A0 l0.length c0,.string a1] w fun e w'=>∃ v0_:Value,e=.returned (v0_)∧Kd.R Kd.string 9 w' w.heap.size (fun _=>True) v0_ r∧Below w.heap.size w w':=by
 have HR0:=mkA hr0
 have HC0:=mkA hc0
 clear hr0 hc0
 have HB:=mkA (Below.refl w.heap.size w)
 have H:((head_All.f k l0 a1).bind fun t118=>(head_List.l0 k ([]:List ByteArray) t118 (t118.length:Int) 0))=some r:=h
 clear h
 replace H:=Option.bind_eq_some_iff.mp H
 obtain ⟨t118,A30,H⟩:=H
 replace H:(head_List.l0 k ([]:List ByteArray) t118 (t118.length:Int) 0)=some r:=H
 have A3:=mkA A30
 clear A30
 have H':=mkA H
 clear H
 go_enter Tryz.func46,Tryz.ntmps46
 go_wp2_with (first|((with_reducible refine gate_callee (f:=45) rfl ?_);refine goesL_ (some 12) rfl rfl Tryz.func45 (by kernel_rfl) rfl #[.slice A0 l0.length c0,.string a1] rfl (by (try simp only [List.map_toArray,List.map_cons,List.map_nil]);first|done|rfl|(simp only [List.length_drop,List.length_take];rfl)) ?_;(with_reducible refine (head_All.calls k _ _ l0 a1 t118 _ ?side1 ?side2 A3.out).mono ?_);(case side1=>repeat (first|exact HR0.out|(with_reducible refine Kd.C_alloc ?_ _)|(with_reducible refine Kd.C_drewN ?_ _)|(with_reducible refine Kd.C_drew ?_)));(case side2=>exact HC0.out);rintro e w4 ⟨v119,rfl,ho0,hb⟩;refine ⟨_,rfl,?_⟩;have n0_:=mkA (Kd.R_lower ho0 (below_size (by repeat (first|(with_reducible first|exact HB.out|apply below_alloc|apply pw_below_drewN|apply below_drew1)|exact HB.out))));have n1_:=mkA (below_step (by repeat (first|(with_reducible first|exact HB.out|apply below_alloc|apply pw_below_drewN|apply below_drew1)|exact HB.out)) hb);clear HB;have HO120:=n0_;have HB:=n1_;clear n0_ n1_;(try clear hb);(try clear hb2);(try clear hk);(try clear hi);(try clear ho0);obtain ⟨Ao5,co5,eo5⟩:=Kd.R_slice HO120.out;subst eo5))
 go_loopg [5,14] k (fun kq v5 v14 w'=>∃ (x5_1:List ByteArray) (x14_1:Int),v14=.int .i64 x14_1∧Aside0 (head_List.l0 kq x5_1 t118 (t118.length:Int) x14_1=some r)∧Aside0 (kq≤k)∧Aside0 (Kd.R Kd.string 9 w' w.heap.size (fun k_=>some k_≠((.slice Ao5 t118.length co5):Value).ownBlock) v5 x5_1)∧Aside0 (Kd.R Kd.string 9 w' w.heap.size (fun k_=>some k_≠(v5:Value).ownBlock) (.slice Ao5 t118.length co5) t118)∧Aside0 (Below w.heap.size w w'))
 case atStart=>exact ⟨(([]:List ByteArray)),(0),(by first|rfl|(simp;done)|(simp [*];done)),H',⟨Nat.le_refl _⟩,⟨by first|exact Kd.R_nil _ _ _ _ _|exact Kd.N_nil _ _ _ _ _|exact Kd.V_nil _ _ _ _ _|exact Kd.Q_nil _ _ _ _ _|exact Kd.S_nil _ _ _ _ _⟩,⟨by (with_reducible repeat (first|apply Kd.R_alloc|apply Kd.R_drewN|apply Kd.R_drew));exact Kd.R_mono HO120.out (fun _ hk=>(by simp [Value.ownBlock]))⟩,⟨by repeat (first|(with_reducible first|exact HB.out|apply below_alloc|apply pw_below_drewN|apply below_drew1)|exact HB.out)⟩⟩
 case round=>
  clear H'
  try clear p2
  try clear c4
  obtain ⟨x5_1,x14_1,rfl,HA,HK1,HO_5,HO_12,HB⟩:=hrel
  cases gk with
  |zero=>exact absurd HA.out (by simp [head_List.l0])
  |succ k1=>
   have H:=HA.out
   clear HA
   simp only [head_List.l0] at H
   by_cases c6:x14_1 < (t118.length:Int)
   ·rw [if_pos c6] at H
    have c6b0:decide (x14_1 < (t118.length:Int))=true:=decide_eq_true c6
    clear c6
    by_cases c7:0≤x14_1
    ·rw [if_pos c7] at H
     have c7b0:decide (0≤x14_1)=true:=decide_eq_true c7
     clear c7
     by_cases c8:x14_1 < (t118.length:Int)
     ·rw [if_pos c8] at H
      have c8b0:decide (x14_1 < (t118.length:Int))=true:=decide_eq_true c8
      clear c8
      replace H:=Option.bind_eq_some_iff.mp H
      obtain ⟨t122,A90,H⟩:=H
      replace H:(head_List.l1 k1 x5_1 t118 (t118.length:Int) x14_1 t122 (t122.length:Int) 0)=some r:=H
      have A9:=mkA A90
      clear A90
      have H':=mkA H
      clear H
      have p121:0≤(x14_1:Int):=of_decide_eq_true (by first|(with_reducible assumption)|assumption)
      have q121:x14_1 < (t118.length:Int):=of_decide_eq_true (by first|(with_reducible assumption)|assumption)
      obtain ⟨ad121,e121,hx121_0⟩:=Kd.at_string (Kd.R_reads' HO_12.out).2.2 x14_1 p121 q121
      cases e121
      replace p121:=eq_true p121
      replace q121:=eq_true q121
      go_wp2_with (first|((with_reducible refine gate_callee (f:=66) rfl ?_);refine goesL_ (some 19) rfl rfl Tryz.func66 (by kernel_rfl) rfl #[.string (rdOf ByteArray.empty t118 x14_1)] rfl (by (try simp only [List.map_toArray,List.map_cons,List.map_nil]);first|done|rfl|(simp only [List.length_drop,List.length_take];rfl)) ?_;(with_reducible refine (head_cut.calls k1 (rdOf ByteArray.empty t118 x14_1) t122 _ A9.out).mono ?_);rintro e w10 ⟨v123,rfl,ho0,hb⟩;refine ⟨_,rfl,?_⟩;have n0_:=mkA (Kd.R_elder' (by (with_reducible repeat (first|apply Kd.R_alloc|apply Kd.R_drewN|apply Kd.R_drew));exact HO_5.out) (Kd.R_base ho0) hb);have n1_:=mkA (Kd.R_elder' (by (with_reducible repeat (first|apply Kd.R_alloc|apply Kd.R_drewN|apply Kd.R_drew));exact HO_12.out) (Kd.R_base ho0) hb);have n2_:=mkA (Kd.R_lower (Kd.R_new' (Kd.R_new' ho0 (Kd.R_lt (by (with_reducible repeat (first|apply Kd.R_alloc|apply Kd.R_drewN|apply Kd.R_drew));exact HO_5.out))) (Kd.R_lt (by (with_reducible repeat (first|apply Kd.R_alloc|apply Kd.R_drewN|apply Kd.R_drew));exact HO_12.out))) (below_size (by repeat (first|(with_reducible first|exact HB.out|apply below_alloc|apply pw_below_drewN|apply below_drew1)|exact HB.out))));have n3_:=mkA (below_step (by repeat (first|(with_reducible first|exact HB.out|apply below_alloc|apply pw_below_drewN|apply below_drew1)|exact HB.out)) hb);clear HO_5;clear HO_12;clear HB;have HO_5:=n0_;have HO_12:=n1_;have HO124:=n2_;have HB:=n3_;clear n0_ n1_ n2_ n3_;(try clear hb);(try clear hb2);(try clear hk);(try clear hi);(try clear ho0);obtain ⟨Ao11,co11,eo11⟩:=Kd.R_slice HO124.out;subst eo11))
      go_loopg [5,21] k1 (fun kq v5 v21 w'=>∃ (x5_2:List ByteArray) (x21_2:Int),v21=.int .i64 x21_2∧Aside0 (head_List.l1 kq x5_2 t118 (t118.length:Int) x14_1 t122 (t122.length:Int) x21_2=some r)∧Aside0 (kq≤k1)∧Aside0 (Kd.R Kd.string 9 w' w.heap.size (fun k_=>some k_≠((.slice (some ad121) t118.length co5):Value).ownBlock∧some k_≠((.slice Ao11 t122.length co11):Value).ownBlock) v5 x5_2)∧Aside0 (Kd.R Kd.string 9 w' w.heap.size (fun k_=>some k_≠(v5:Value).ownBlock∧some k_≠((.slice Ao11 t122.length co11):Value).ownBlock) (.slice (some ad121) t118.length co5) t118)∧Aside0 (Kd.R Kd.string 9 w' w.heap.size (fun k_=>some k_≠(v5:Value).ownBlock∧some k_≠((.slice (some ad121) t118.length co5):Value).ownBlock) (.slice Ao11 t122.length co11) t122)∧Aside0 (Below w.heap.size w w'))
      case atStart=>exact ⟨(x5_1),(0),(by first|rfl|(simp;done)|(simp [*];done)),H',⟨Nat.le_refl _⟩,⟨by (with_reducible repeat (first|apply Kd.R_alloc|apply Kd.R_drewN|apply Kd.R_drew));exact HO_5.out⟩,⟨by (with_reducible repeat (first|apply Kd.R_alloc|apply Kd.R_drewN|apply Kd.R_drew));exact HO_12.out⟩,⟨by (with_reducible repeat (first|apply Kd.R_alloc|apply Kd.R_drewN|apply Kd.R_drew));exact Kd.R_mono HO124.out (fun _ hk=>⟨hk.1.2,hk.2⟩)⟩,⟨by repeat (first|(with_reducible first|exact HB.out|apply below_alloc|apply pw_below_drewN|apply below_drew1)|exact HB.out)⟩⟩
      case round=>
       clear H'
       try clear p1
       try clear q1
       try clear hx1
       try clear p2
       try clear c4
       try clear c6
       try clear c6b0
       try clear c7
       try clear c7b0
       try clear c8
       try clear c8b0
       try clear hx121_0
       try clear p121
       try clear p2
       try clear q121
       obtain ⟨x5_2,x21_2,rfl,HA,HK2,HO_5,HO_12,HO_19,HB⟩:=hrel
       cases gk with
       |zero=>exact absurd HA.out (by simp [head_List.l1])
       |succ k2=>
        have H:=HA.out
        clear HA
        simp only [head_List.l1] at H
        by_cases c12:x21_2 < (t122.length:Int)
        ·rw [if_pos c12] at H
         have c12b0:decide (x21_2 < (t122.length:Int))=true:=decide_eq_true c12
         clear c12
         by_cases c13:0≤x21_2
         ·rw [if_pos c13] at H
          have c13b0:decide (0≤x21_2)=true:=decide_eq_true c13
          clear c13
          by_cases c14:x21_2 < (t122.length:Int)
          ·rw [if_pos c14] at H
           have c14b0:decide (x21_2 < (t122.length:Int))=true:=decide_eq_true c14
           clear c14
           replace H:=Option.bind_eq_some_iff.mp H
           obtain ⟨t126,A150,H⟩:=H
           replace H:(if t126.toList=([]:List UInt8) then (head_List.l1 k2 x5_2 t118 (t118.length:Int) x14_1 t122 (t122.length:Int) (wrap64 (x21_2+1))) else (if x5_2.length < 8796093022208 then (head_List.l1 k2 (x5_2++[t126]) t118 (t118.length:Int) x14_1 t122 (t122.length:Int) (wrap64 (x21_2+1))) else (none)))=some r:=H
           have A15:=mkA A150
           clear A150
           by_cases c16:t126.toList=([]:List UInt8)
           ·rw [if_pos c16] at H
            have c16b0:(t126.toList == ([]:List UInt8))=true:=beq_iff_eq.mpr c16
            have c16b1:(t126.toList != ([]:List UInt8))=false:=bne_eq_false_iff_eq.mpr c16
            clear c16
            have H':=mkA H
            clear H
            have p125:0≤(x21_2:Int):=of_decide_eq_true (by first|(with_reducible assumption)|assumption)
            have q125:x21_2 < (t122.length:Int):=of_decide_eq_true (by first|(with_reducible assumption)|assumption)
            obtain ⟨ad125,e125,hx125_0⟩:=Kd.at_string (Kd.R_reads' HO_19.out).2.2 x21_2 p125 q125
            cases e125
            replace p125:=eq_true p125
            replace q125:=eq_true q125
            go_wp2_with (first|((with_reducible refine gate_callee (f:=67) rfl ?_);refine goesL_ (some 26) rfl rfl Tryz.func67 (by kernel_rfl) rfl #[.string (rdOf ByteArray.empty t122 x21_2)] rfl (by (try simp only [List.map_toArray,List.map_cons,List.map_nil]);first|done|rfl|(simp only [List.length_drop,List.length_take];rfl)) ?_;(with_reducible refine (head_trim.calls k2 (rdOf ByteArray.empty t122 x21_2) t126 _ A15.out).mono ?_);rintro e w' ⟨rfl,⟨nd,rfl⟩⟩;refine ⟨_,rfl,?_⟩))
            go_roundg k2
            case measure=>have:=HK1.out;have:=HK2.out;omega
            case rel=>exact ⟨(x5_2),(wrap64 (x21_2+1)),(by first|rfl|(simp;done)|(simp [*];done)),H',⟨by have:=HK1.out;have:=HK2.out;omega⟩,⟨by (with_reducible repeat (first|apply Kd.R_alloc|apply Kd.R_drewN|apply Kd.R_drew));exact HO_5.out⟩,⟨by (with_reducible repeat (first|apply Kd.R_alloc|apply Kd.R_drewN|apply Kd.R_drew));exact HO_12.out⟩,⟨by (with_reducible repeat (first|apply Kd.R_alloc|apply Kd.R_drewN|apply Kd.R_drew));exact HO_19.out⟩,⟨by repeat (first|(with_reducible first|exact HB.out|apply below_alloc|apply pw_below_drewN|apply below_drew1)|exact HB.out)⟩⟩
           ·rw [if_neg c16] at H
            have c16b0:(t126.toList == ([]:List UInt8))=false:=beq_eq_false_iff_ne.mpr c16
            have c16b1:(t126.toList != ([]:List UInt8))=true:=bne_iff_ne.mpr c16
            by_cases c17:x5_2.length < 8796093022208
            ·rw [if_pos c17] at H
             have LMc17:=mkA c17
             clear c17
             obtain ⟨y127,hy127⟩:∃ y_:List ByteArray,y_=(x5_2++[t126]):=⟨_,rfl⟩
             replace H:(head_List.l1 k2 y127 t118 (t118.length:Int) x14_1 t122 (t122.length:Int) (wrap64 (x21_2+1)))=some r:=by first|(rw [hy127];with_reducible exact H)|(have H2_:=(Option.bind_some _ _).symm.trans H;rw [hy127];with_reducible exact H2_)|(have H2_:=(Option.bind_some _ _).symm.trans H;with_reducible exact H2_)|with_reducible exact H|(rw [hy127];exact H)|exact H
             have Ny127:=mkA hy127
             clear hy127
             have H':=mkA H
             clear H
             have p125:0≤(x21_2:Int):=of_decide_eq_true (by first|(with_reducible assumption)|assumption)
             have q125:x21_2 < (t122.length:Int):=of_decide_eq_true (by first|(with_reducible assumption)|assumption)
             obtain ⟨ad125,e125,hx125_0⟩:=Kd.at_string (Kd.R_reads' HO_19.out).2.2 x21_2 p125 q125
             cases e125
             replace p125:=eq_true p125
             replace q125:=eq_true q125
             go_wp2_with (first|((with_reducible refine gate_callee (f:=67) rfl ?_);refine goesL_ (some 26) rfl rfl Tryz.func67 (by kernel_rfl) rfl #[.string (rdOf ByteArray.empty t122 x21_2)] rfl (by (try simp only [List.map_toArray,List.map_cons,List.map_nil]);first|done|rfl|(simp only [List.length_drop,List.length_take];rfl)) ?_;(with_reducible refine (head_trim.calls k2 (rdOf ByteArray.empty t122 x21_2) t126 _ A15.out).mono ?_);rintro e w' ⟨rfl,⟨nd,rfl⟩⟩;refine ⟨_,rfl,?_⟩)|((with_reducible refine gate_builtin (b:=.append) (xs:=#[.tmp 29,.tmp 31]) rfl ?_);at_builtin;refine Kd.R_append Kd.string (w0:=w) w.heap.size rfl (.tmp 29) (.tmp 31) 46 9 (.string ⟨#[]⟩) 16 rfl Tryz.underlying46 info9 rfl (by decide) (by omega) u5 x5_2 t126 [.string t126] (fun k_=>some k_≠(.slice (some ad121) t118.length co5:Value).ownBlock∧some k_≠(.slice (some ad125) t122.length co11:Value).ownBlock) (fun _=>False) rfl rfl ?aP (fun _ hk=>hk.elim) ?aF ?aO ?aB ?aS ?aL ?_;(case aP=>exact rfl);(case aB=>exact (by repeat (first|(with_reducible first|exact HB.out|apply below_alloc|apply pw_below_drewN|apply below_drew1)|exact HB.out)));(case aF=>exact (fun k_ hk=>⟨Kd.fresh' (Kd.R_lt (by (with_reducible repeat (first|apply Kd.R_alloc|apply Kd.R_drewN|apply Kd.R_drew));exact HO_12.out)) k_ hk,Kd.fresh' (Kd.R_lt (by (with_reducible repeat (first|apply Kd.R_alloc|apply Kd.R_drewN|apply Kd.R_drew));exact HO_19.out)) k_ hk⟩));(case aO=>exact (by (with_reducible repeat (first|apply Kd.R_alloc|apply Kd.R_drewN|apply Kd.R_drew));exact HO_5.out));(case aS=>exact (below_size (by repeat (first|(with_reducible first|exact HB.out|apply below_alloc|apply pw_below_drewN|apply below_drew1)|exact HB.out))));(case aL=>have:=LMc17.out;omega);intro v128 w18 ho hb hg hat;rw [← Ny127.out] at ho;have n0_:=mkA (Kd.R_after (ok:=(fun k_=>some k_≠(.slice (some ad125) t122.length co11:Value).ownBlock)) (by (with_reducible repeat (first|apply Kd.R_alloc|apply Kd.R_drewN|apply Kd.R_drew));exact Kd.R_mono HO_12.out (fun _ hk=>⟨hk.2,hk.1⟩)) hg hat);have n1_:=mkA (Kd.R_after (ok:=(fun k_=>some k_≠(.slice (some ad121) t118.length co5:Value).ownBlock)) (by (with_reducible repeat (first|apply Kd.R_alloc|apply Kd.R_drewN|apply Kd.R_drew));exact Kd.R_mono HO_19.out (fun _ hk=>⟨hk.2,hk.1⟩)) hg hat);have n2_:=mkA (hb);have n3_:=mkA (ho);clear HO_12;clear HO_19;clear HB;clear HO_5;have HO_12:=n0_;have HO_19:=n1_;have HB:=n2_;have HO129:=n3_;clear n0_ n1_ n2_ n3_;clear ho hb hg hat))
             go_roundg k2
             case measure=>have:=HK1.out;have:=HK2.out;omega
             case rel=>exact ⟨(y127),(wrap64 (x21_2+1)),(by first|rfl|(simp;done)|(simp [*];done)),H',⟨by have:=HK1.out;have:=HK2.out;omega⟩,⟨by (with_reducible repeat (first|apply Kd.R_alloc|apply Kd.R_drewN|apply Kd.R_drew));exact HO129.out⟩,⟨by (with_reducible repeat (first|apply Kd.R_alloc|apply Kd.R_drewN|apply Kd.R_drew));exact Kd.R_mono HO_12.out (fun _ hk=>⟨hk.2,hk.1⟩)⟩,⟨by (with_reducible repeat (first|apply Kd.R_alloc|apply Kd.R_drewN|apply Kd.R_drew));exact Kd.R_mono HO_19.out (fun _ hk=>⟨hk.2,hk.1⟩)⟩,⟨by repeat (first|(with_reducible first|exact HB.out|apply below_alloc|apply pw_below_drewN|apply below_drew1)|exact HB.out)⟩⟩
            ·rw [if_neg c17] at H
             exact absurd H (by simp)
          ·rw [if_neg c14] at H
           exact absurd H (by simp)
         ·rw [if_neg c13] at H
          exact absurd H (by simp)
        ·rw [if_neg c12] at H
         have c12b0:decide (x21_2 < (t122.length:Int))=false:=decide_eq_false c12
         clear c12
         have H':=mkA H
         clear H
         go_wp2
         go_roundg k2
         case measure=>have:=HK1.out;have:=HK2.out;omega
         case rel=>exact ⟨(x5_2),(wrap64 (x14_1+1)),(by first|rfl|(simp;done)|(simp [*];done)),H',⟨by have:=HK1.out;have:=HK2.out;omega⟩,⟨by (with_reducible repeat (first|apply Kd.R_alloc|apply Kd.R_drewN|apply Kd.R_drew));exact Kd.R_mono HO_5.out (fun _ hk=>hk.1)⟩,⟨by (with_reducible repeat (first|apply Kd.R_alloc|apply Kd.R_drewN|apply Kd.R_drew));exact Kd.R_mono HO_12.out (fun _ hk=>hk.1)⟩,⟨by repeat (first|(with_reducible first|exact HB.out|apply below_alloc|apply pw_below_drewN|apply below_drew1)|exact HB.out)⟩⟩
     ·rw [if_neg c8] at H
      exact absurd H (by simp)
    ·rw [if_neg c7] at H
     exact absurd H (by simp)
   ·rw [if_neg c6] at H
    have c6b0:decide (x14_1 < (t118.length:Int))=false:=decide_eq_false c6
    clear c6
    obtain rfl:=Option.some.inj H
    go_wp2
    go_ret
    exact ⟨_,by first|rfl|(simp [errW_none,errW_some] <;> rfl)|(simp [*,errW_none,errW_some] <;> rfl),by (with_reducible repeat (first|apply Kd.R_alloc|apply Kd.R_drewN|apply Kd.R_drew));exact Kd.R_mono HO_5.out (fun _ hk=>trivial),by repeat (first|(with_reducible first|exact HB.out|apply below_alloc|apply pw_below_drewN|apply below_drew1)|exact HB.out)⟩
end Go.Proofs.YtlnmnjbihgaliaaGreat.Pr
