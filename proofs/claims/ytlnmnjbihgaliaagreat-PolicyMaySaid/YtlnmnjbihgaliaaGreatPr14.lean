import Derived.Test.YtlnmnjbihgaliaaGreatPr0
import Derived.Test.YtlnmnjbihgaliaaGreatPr8
import Derived.Test.YtlnmnjbihgaliaaGreatPr13
set_option linter.unusedVariables false
set_option linter.unusedSimpArgs false
namespace Go.Proofs.YtlnmnjbihgaliaaGreat.Pr
open Go.RowKit Go.Proofs.YtlnmnjbihgaliaaGreatW.PrintWords Go.Proofs.YtlnmnjbihgaliaaGreatW.PrintLast Go.Proofs.YtlnmnjbihgaliaaGreatW.PrintMore
attribute [local go_sem] max2_int min2_int max_two min_two max_three min_three max_four min_four
mutual
def ambryref10_List.l0:Nat→List ByteArray→List ByteArray→Int→Option (List ByteArray)
 |0,_,_,_=>none
 |k+1,x5,x6,x7=>if x7 < (x6.length:Int) then (if 0≤x7 then (ambryref10_List.l1 k x5 x6 x7 (rdOf ByteArray.empty x6 x7) 0 false 0) else (none)) else (some x5)
def ambryref10_List.l1:Nat→List ByteArray→List ByteArray→Int→ByteArray→Int→Bool→Int→Option (List ByteArray)
 |0,_,_,_,_,_,_,_=>none
 |k+1,x5,x6,x7,x8,x9,x10,x11=>if x11≤(x8.size:Int) then (if x11 < (x8.size:Int) then (if 0≤x11 then (if (bt x8 x11)=44 then (ambryref10_List.j2 k x5 x6 x7 x8 x9 x10 x11 x10) else (ambryref10_List.j2 k x5 x6 x7 x8 x9 x10 x11 true)) else (none)) else (ambryref10_List.j2 k x5 x6 x7 x8 x9 x10 x11 false)) else (ambryref10_List.l0 k x5 x6 (wrap64 (x7+1)))
def ambryref10_List.j2:Nat→List ByteArray→List ByteArray→Int→ByteArray→Int→Bool→Int→Bool→Option (List ByteArray)
 |0,_,_,_,_,_,_,_,_=>none
 |k+1,x5,x6,x7,x8,x9,x10,x11,x44=>if x44=true then (if 0≤x11 then (if x11 < (x8.size:Int) then (if (bt x8 x11)=34 then (ambryref10_List.l1 k x5 x6 x7 x8 x9 (!x10) (wrap64 (x11+1))) else (if (bt x8 x11)=92 then (if x10=true then (ambryref10_List.j3 k x5 x6 x7 x8 x9 x10 x11 (decide ((wrap64 (x11+1)) < (x8.size:Int)))) else (ambryref10_List.j3 k x5 x6 x7 x8 x9 x10 x11 false)) else (ambryref10_List.j3 k x5 x6 x7 x8 x9 x10 x11 false))) else (none)) else (none)) else (if 0≤x9 then (if x9≤(mn x11 (x8.size:Int)) then (if (mn x11 (x8.size:Int))≤(x8.size:Int) then ((ambryref10_Trim.f k (x8.extract (x9:Int).toNat ((mn x11 (x8.size:Int)):Int).toNat)).bind fun t211=>(if t211.toList=([]:List UInt8) then (ambryref10_List.l1 k x5 x6 x7 x8 (wrap64 (x11+1)) x10 (wrap64 (x11+1))) else (if x5.length < 8796093022208 then (ambryref10_List.l1 k (x5++[t211]) x6 x7 x8 (wrap64 (x11+1)) x10 (wrap64 (x11+1))) else (none)))) else (none)) else (none)) else (none))
def ambryref10_List.j3:Nat→List ByteArray→List ByteArray→Int→ByteArray→Int→Bool→Int→Bool→Option (List ByteArray)
 |0,_,_,_,_,_,_,_,_=>none
 |k+1,x5,x6,x7,x8,x9,x10,x11,x52=>if x52=true then (ambryref10_List.l1 k x5 x6 x7 x8 x9 x10 (wrap64 ((wrap64 (x11+1))+1))) else (ambryref10_List.l1 k x5 x6 x7 x8 x9 x10 (wrap64 (x11+1)))
end
def ambryref10_List.f(k:Nat)(l0:List (S41))(a1:ByteArray):Option (List ByteArray):=(ambryref10_All.f k l0 a1).bind fun t207=>(ambryref10_List.l0 k ([]:List ByteArray) t207 0)
set_option maxHeartbeats 8000000 in
set_option maxRecDepth 100000 in
theorem ambryref10_List.calls(k:Nat)(A0:Option Addr)(c0:Nat)(l0:List (S41))(a1:ByteArray)(r:List ByteArray)(w:World)(hr0:Kd.C k41 w A0 l0.length l0)(hc0:l0.length≤c0)(h:ambryref10_List.f k l0 a1=some r):
  Calls Tryz.prog 55 #[.slice A0 l0.length c0,.string a1] w fun e w'=>∃ v0_:Value,e=.returned (v0_)∧Kd.R Kd.string 9 w' w.heap.size (fun _=>True) v0_ r∧Below w.heap.size w w':=by
 have HR0:=mkA hr0
 have HC0:=mkA hc0
 clear hr0 hc0
 have HB:=mkA (Below.refl w.heap.size w)
 have H:((ambryref10_All.f k l0 a1).bind fun t207=>(ambryref10_List.l0 k ([]:List ByteArray) t207 0))=some r:=h
 clear h
 replace H:=Option.bind_eq_some_iff.mp H
 obtain ⟨t207,A30,H⟩:=H
 replace H:(ambryref10_List.l0 k ([]:List ByteArray) t207 0)=some r:=H
 have A3:=mkA A30
 clear A30
 have H':=mkA H
 clear H
 go_enter Tryz.func55,Tryz.ntmps55
 go_wp2_with (first|((with_reducible refine gate_callee (f:=59) rfl ?_);refine goesL_ (some 15) rfl rfl Tryz.func59 (by kernel_rfl) rfl #[.slice A0 l0.length c0,.string a1] rfl (by (try simp only [List.map_toArray,List.map_cons,List.map_nil]);first|done|rfl|(simp only [List.length_drop,List.length_take];rfl)) ?_;(with_reducible refine (ambryref10_All.calls k _ _ l0 a1 t207 _ ?side1 ?side2 A3.out).mono ?_);(case side1=>repeat (first|exact HR0.out|(with_reducible refine Kd.C_alloc ?_ _)|(with_reducible refine Kd.C_drewN ?_ _)|(with_reducible refine Kd.C_drew ?_)));(case side2=>exact HC0.out);rintro e w4 ⟨v208,rfl,ho0,hb⟩;refine ⟨_,rfl,?_⟩;have n0_:=mkA (Kd.R_lower ho0 (below_size (by repeat (first|(with_reducible first|exact HB.out|apply below_alloc|apply pw_below_drewN|apply below_drew1)|exact HB.out))));have n1_:=mkA (below_step (by repeat (first|(with_reducible first|exact HB.out|apply below_alloc|apply pw_below_drewN|apply below_drew1)|exact HB.out)) hb);clear HB;have HO209:=n0_;have HB:=n1_;clear n0_ n1_;(try clear hb);(try clear hb2);(try clear hk);(try clear hi);(try clear ho0)))
 go_loopg [5,7] k (fun kq v5 v7 w'=>∃ (x5_1:List ByteArray) (x7_1:Int),v7=.int .i64 x7_1∧Aside0 (ambryref10_List.l0 kq x5_1 t207 x7_1=some r)∧Aside0 (kq≤k)∧Aside0 (Kd.R Kd.string 9 w' w.heap.size (fun k_=>some k_≠(v208:Value).ownBlock) v5 x5_1)∧Aside0 (Kd.R Kd.string 9 w' w.heap.size (fun k_=>some k_≠(v5:Value).ownBlock) v208 t207)∧Aside0 (Below w.heap.size w w'))
 case atStart=>exact ⟨(([]:List ByteArray)),(0),(by first|rfl|(simp;done)|(simp [*];done)),H',⟨Nat.le_refl _⟩,⟨by first|exact Kd.R_nil _ _ _ _ _|exact Kd.N_nil _ _ _ _ _|exact Kd.V_nil _ _ _ _ _|exact Kd.Q_nil _ _ _ _ _|exact Kd.S_nil _ _ _ _ _⟩,⟨by (with_reducible repeat (first|apply Kd.R_alloc|apply Kd.R_drewN|apply Kd.R_drew));exact Kd.R_mono HO209.out (fun _ hk=>(by simp [Value.ownBlock]))⟩,⟨by repeat (first|(with_reducible first|exact HB.out|apply below_alloc|apply pw_below_drewN|apply below_drew1)|exact HB.out)⟩⟩
 case round=>
  clear H'
  try clear p2
  obtain ⟨x5_1,x7_1,rfl,HA,HK1,HO_5,HO_6,HB⟩:=hrel
  cases gk with
  |zero=>exact absurd HA.out (by simp [ambryref10_List.l0])
  |succ k1=>
   have H:=HA.out
   clear HA
   simp only [ambryref10_List.l0] at H
   by_cases c5:x7_1 < (t207.length:Int)
   ·rw [if_pos c5] at H
    have c5b0:decide (x7_1 < (t207.length:Int))=true:=decide_eq_true c5
    clear c5
    by_cases c6:0≤x7_1
    ·rw [if_pos c6] at H
     have c6b0:decide (0≤x7_1)=true:=decide_eq_true c6
     clear c6
     have H':=mkA H
     clear H
     obtain ⟨Ao7,co7,eo7⟩:=Kd.R_slice HO_6.out
     subst eo7
     have p210:0≤(x7_1:Int):=of_decide_eq_true (by first|(with_reducible assumption)|assumption)
     have q210:x7_1 < (t207.length:Int):=of_decide_eq_true (by first|(with_reducible assumption)|assumption)
     obtain ⟨ad210,e210,hx210_0⟩:=Kd.at_string (Kd.R_reads' HO_6.out).2.2 x7_1 p210 q210
     cases e210
     replace p210:=eq_true p210
     replace q210:=eq_true q210
     go_wp2
     go_loopg [5,9,10,11] k1 (fun kq v5 v9 v10 v11 w'=>∃ (x5_2:List ByteArray) (x9_2:Int) (x10_2:Bool) (x11_2:Int),v9=.int .i64 x9_2∧v10=.bool x10_2∧v11=.int .i64 x11_2∧Aside0 (ambryref10_List.l1 kq x5_2 t207 x7_1 (rdOf ByteArray.empty t207 x7_1) x9_2 x10_2 x11_2=some r)∧Aside0 (kq≤k1)∧Aside0 (Kd.R Kd.string 9 w' w.heap.size (fun k_=>some k_≠((.slice (some ad210) t207.length co7):Value).ownBlock) v5 x5_2)∧Aside0 (Kd.R Kd.string 9 w' w.heap.size (fun k_=>some k_≠(v5:Value).ownBlock) (.slice (some ad210) t207.length co7) t207)∧Aside0 (Below w.heap.size w w'))
     case atStart=>exact ⟨(x5_1),(0),(false),(0),(by first|rfl|(simp;done)|(simp [*];done)),(by first|rfl|(simp;done)|(simp [*];done)),(by first|rfl|(simp;done)|(simp [*];done)),H',⟨Nat.le_refl _⟩,⟨by (with_reducible repeat (first|apply Kd.R_alloc|apply Kd.R_drewN|apply Kd.R_drew));exact HO_5.out⟩,⟨by (with_reducible repeat (first|apply Kd.R_alloc|apply Kd.R_drewN|apply Kd.R_drew));exact HO_6.out⟩,⟨by repeat (first|(with_reducible first|exact HB.out|apply below_alloc|apply pw_below_drewN|apply below_drew1)|exact HB.out)⟩⟩
     case round=>
      clear H'
      try clear p2
      try clear q2
      try clear hx2
      try clear c5
      try clear c5b0
      try clear c6
      try clear c6b0
      try clear hx210_0
      try clear p2
      try clear p210
      try clear q210
      obtain ⟨x5_2,x9_2,x10_2,x11_2,rfl,rfl,rfl,HA,HK2,HO_5,HO_6,HB⟩:=hrel
      cases gk with
      |zero=>exact absurd HA.out (by simp [ambryref10_List.l1])
      |succ k2=>
       have H:=HA.out
       clear HA
       simp only [ambryref10_List.l1] at H
       by_cases c8:x11_2≤((rdOf ByteArray.empty t207 x7_1).size:Int)
       ·rw [if_pos c8] at H
        have c8b0:decide (x11_2≤((rdOf ByteArray.empty t207 x7_1).size:Int))=true:=decide_eq_true c8
        clear c8
        have HC9:=mkA H
        clear H
        go_upto_region 11 with (fail)
        go_cut [44] (fun v44 wc=>∃ (kq:Nat) (x44_8:Bool),v44=.bool x44_8∧Aside0 (ambryref10_List.j2 kq x5_2 t207 x7_1 (rdOf ByteArray.empty t207 x7_1) x9_2 x10_2 x11_2 x44_8=some r)∧Aside0 (kq≤k2)∧Aside0 (Kd.R Kd.string 9 wc w.heap.size (fun k_=>some k_≠((.slice (some ad210) t207.length co7):Value).ownBlock) u5 x5_2)∧Aside0 (Kd.R Kd.string 9 wc w.heap.size (fun k_=>some k_≠(u5:Value).ownBlock) (.slice (some ad210) t207.length co7) t207)∧Aside0 (Below w.heap.size w wc))
        case first=>
         have H:=HC9.out
         clear HC9
         by_cases c10:x11_2 < ((rdOf ByteArray.empty t207 x7_1).size:Int)
         ·rw [if_pos c10] at H
          have c10b0:decide (x11_2 < ((rdOf ByteArray.empty t207 x7_1).size:Int))=true:=decide_eq_true c10
          clear c10
          (first|rw [c10b0]|(simp only [i64_w,i32_w];rw [c10b0])|skip)
          by_cases c11:0≤x11_2
          ·rw [if_pos c11] at H
           have c11b0:decide (0≤x11_2)=true:=decide_eq_true c11
           clear c11
           by_cases c13:(bt (rdOf ByteArray.empty t207 x7_1) x11_2)=44
           ·rw [if_pos c13] at H
            have c13b0:((bt (rdOf ByteArray.empty t207 x7_1) x11_2) == 44)=true:=beq_iff_eq.mpr c13
            have c13b1:((bt (rdOf ByteArray.empty t207 x7_1) x11_2) != 44)=false:=bne_eq_false_iff_eq.mpr c13
            clear c13
            have H':=mkA H
            clear H
            have p12:0≤(x11_2:Int):=of_decide_eq_true (by first|(with_reducible assumption)|assumption)
            have q12:x11_2 < ((rdOf ByteArray.empty t207 x7_1).size:Int):=of_decide_eq_true (by first|(with_reducible assumption)|assumption)
            have hx12:=bt_at (rdOf ByteArray.empty t207 x7_1) x11_2
            replace p12:=eq_true p12
            replace q12:=eq_true q12
            go_wp2
            go_meet
            case rel=>exact ⟨_,(x10_2),(by first|rfl|(simp;done)|(simp [*];done)),H',⟨by have:=HK1.out;have:=HK2.out;first|omega|exact Nat.le_refl _⟩,⟨by (with_reducible repeat (first|apply Kd.R_alloc|apply Kd.R_drewN|apply Kd.R_drew));exact HO_5.out⟩,⟨by (with_reducible repeat (first|apply Kd.R_alloc|apply Kd.R_drewN|apply Kd.R_drew));exact HO_6.out⟩,⟨by repeat (first|(with_reducible first|exact HB.out|apply below_alloc|apply pw_below_drewN|apply below_drew1)|exact HB.out)⟩⟩
           ·rw [if_neg c13] at H
            have c13b0:((bt (rdOf ByteArray.empty t207 x7_1) x11_2) == 44)=false:=beq_eq_false_iff_ne.mpr c13
            have c13b1:((bt (rdOf ByteArray.empty t207 x7_1) x11_2) != 44)=true:=bne_iff_ne.mpr c13
            have H':=mkA H
            clear H
            have p12:0≤(x11_2:Int):=of_decide_eq_true (by first|(with_reducible assumption)|assumption)
            have q12:x11_2 < ((rdOf ByteArray.empty t207 x7_1).size:Int):=of_decide_eq_true (by first|(with_reducible assumption)|assumption)
            have hx12:=bt_at (rdOf ByteArray.empty t207 x7_1) x11_2
            replace p12:=eq_true p12
            replace q12:=eq_true q12
            go_wp2
            go_meet
            case rel=>exact ⟨_,(true),(by first|rfl|(simp;done)|(simp [*];done)),H',⟨by have:=HK1.out;have:=HK2.out;first|omega|exact Nat.le_refl _⟩,⟨by (with_reducible repeat (first|apply Kd.R_alloc|apply Kd.R_drewN|apply Kd.R_drew));exact HO_5.out⟩,⟨by (with_reducible repeat (first|apply Kd.R_alloc|apply Kd.R_drewN|apply Kd.R_drew));exact HO_6.out⟩,⟨by repeat (first|(with_reducible first|exact HB.out|apply below_alloc|apply pw_below_drewN|apply below_drew1)|exact HB.out)⟩⟩
          ·rw [if_neg c11] at H
           exact absurd H (by simp)
         ·rw [if_neg c10] at H
          have c10b0:decide (x11_2 < ((rdOf ByteArray.empty t207 x7_1).size:Int))=false:=decide_eq_false c10
          clear c10
          (first|rw [c10b0]|(simp only [i64_w,i32_w];rw [c10b0])|skip)
          have H':=mkA H
          clear H
          go_wp2
          go_meet
          case rel=>exact ⟨_,(false),(by first|rfl|(simp;done)|(simp [*];done)),H',⟨by have:=HK1.out;have:=HK2.out;first|omega|exact Nat.le_refl _⟩,⟨by (with_reducible repeat (first|apply Kd.R_alloc|apply Kd.R_drewN|apply Kd.R_drew));exact HO_5.out⟩,⟨by (with_reducible repeat (first|apply Kd.R_alloc|apply Kd.R_drewN|apply Kd.R_drew));exact HO_6.out⟩,⟨by repeat (first|(with_reducible first|exact HB.out|apply below_alloc|apply pw_below_drewN|apply below_drew1)|exact HB.out)⟩⟩
        case rest=>
         clear HC9
         try clear c1
         try clear p1
         try clear q1
         try clear hx1
         try clear p2
         try clear q2
         try clear hx2
         try clear c5
         try clear c5b0
         try clear c6
         try clear c6b0
         try clear c8
         try clear c8b0
         try clear c10
         try clear c10b0
         try clear c11
         try clear c11b0
         try clear p12
         try clear q12
         try clear hx12
         try clear c13
         try clear c13b0
         try clear c13b1
         try clear hx210_0
         try clear p12
         try clear p2
         try clear p210
         try clear q12
         try clear q2
         try clear q210
         obtain ⟨kq,x44_8,rfl,HA,HJ8,HO_5,HO_6,HB⟩:=hcut
         cases kq with
         |zero=>exact absurd HA.out (by simp [ambryref10_List.j2])
         |succ kj8=>
          have H:=HA.out
          clear HA
          simp only [ambryref10_List.j2] at H
          by_cases c14:x44_8=true
          ·subst c14
           have H1:(if 0≤x11_2 then (if x11_2 < ((rdOf ByteArray.empty t207 x7_1).size:Int) then (if (bt (rdOf ByteArray.empty t207 x7_1) x11_2)=34 then (ambryref10_List.l1 kj8 x5_2 t207 x7_1 (rdOf ByteArray.empty t207 x7_1) x9_2 (!x10_2) (wrap64 (x11_2+1))) else (if (bt (rdOf ByteArray.empty t207 x7_1) x11_2)=92 then (if x10_2=true then (ambryref10_List.j3 kj8 x5_2 t207 x7_1 (rdOf ByteArray.empty t207 x7_1) x9_2 x10_2 x11_2 (decide ((wrap64 (x11_2+1)) < ((rdOf ByteArray.empty t207 x7_1).size:Int)))) else (ambryref10_List.j3 kj8 x5_2 t207 x7_1 (rdOf ByteArray.empty t207 x7_1) x9_2 x10_2 x11_2 false)) else (ambryref10_List.j3 kj8 x5_2 t207 x7_1 (rdOf ByteArray.empty t207 x7_1) x9_2 x10_2 x11_2 false))) else (none)) else (none))=some r:=by rw [if_pos rfl] at H;exact H
           clear H
           have H:=H1
           clear H1
           by_cases c15:0≤x11_2
           ·rw [if_pos c15] at H
            have c15b0:decide (0≤x11_2)=true:=decide_eq_true c15
            clear c15
            by_cases c16:x11_2 < ((rdOf ByteArray.empty t207 x7_1).size:Int)
            ·rw [if_pos c16] at H
             have c16b0:decide (x11_2 < ((rdOf ByteArray.empty t207 x7_1).size:Int))=true:=decide_eq_true c16
             clear c16
             by_cases c18:(bt (rdOf ByteArray.empty t207 x7_1) x11_2)=34
             ·rw [if_pos c18] at H
              have c18b0:((bt (rdOf ByteArray.empty t207 x7_1) x11_2) == 34)=true:=beq_iff_eq.mpr c18
              have c18b1:((bt (rdOf ByteArray.empty t207 x7_1) x11_2) != 34)=false:=bne_eq_false_iff_eq.mpr c18
              clear c18
              have H':=mkA H
              clear H
              have p17:0≤(x11_2:Int):=of_decide_eq_true (by first|(with_reducible assumption)|assumption)
              have q17:x11_2 < ((rdOf ByteArray.empty t207 x7_1).size:Int):=of_decide_eq_true (by first|(with_reducible assumption)|assumption)
              have hx17:=bt_at (rdOf ByteArray.empty t207 x7_1) x11_2
              replace p17:=eq_true p17
              replace q17:=eq_true q17
              go_wp2
              go_roundg kj8
              case measure=>have:=HK1.out;have:=HK2.out;have:=HJ8.out;omega
              case rel=>exact ⟨(x5_2),(x9_2),(!x10_2),(wrap64 (x11_2+1)),(by first|rfl|(simp;done)|(simp [*];done)),(by first|rfl|(simp;done)|(simp [*];done)),(by first|rfl|(simp;done)|(simp [*];done)),H',⟨by have:=HK1.out;have:=HK2.out;have:=HJ8.out;omega⟩,⟨by (with_reducible repeat (first|apply Kd.R_alloc|apply Kd.R_drewN|apply Kd.R_drew));exact HO_5.out⟩,⟨by (with_reducible repeat (first|apply Kd.R_alloc|apply Kd.R_drewN|apply Kd.R_drew));exact HO_6.out⟩,⟨by repeat (first|(with_reducible first|exact HB.out|apply below_alloc|apply pw_below_drewN|apply below_drew1)|exact HB.out)⟩⟩
             ·rw [if_neg c18] at H
              have c18b0:((bt (rdOf ByteArray.empty t207 x7_1) x11_2) == 34)=false:=beq_eq_false_iff_ne.mpr c18
              have c18b1:((bt (rdOf ByteArray.empty t207 x7_1) x11_2) != 34)=true:=bne_iff_ne.mpr c18
              have HC19:=mkA H
              clear H
              have p17:0≤(x11_2:Int):=of_decide_eq_true (by first|(with_reducible assumption)|assumption)
              have q17:x11_2 < ((rdOf ByteArray.empty t207 x7_1).size:Int):=of_decide_eq_true (by first|(with_reducible assumption)|assumption)
              have hx17:=bt_at (rdOf ByteArray.empty t207 x7_1) x11_2
              replace p17:=eq_true p17
              replace q17:=eq_true q17
              go_upto_region 14 with (fail)
              go_cut [52] (fun v52 wc=>∃ (kq:Nat) (x52_18:Bool),v52=.bool x52_18∧Aside0 (ambryref10_List.j3 kq x5_2 t207 x7_1 (rdOf ByteArray.empty t207 x7_1) x9_2 x10_2 x11_2 x52_18=some r)∧Aside0 (kq≤kj8)∧Aside0 (Kd.R Kd.string 9 wc w.heap.size (fun k_=>some k_≠((.slice (some ad210) t207.length co7):Value).ownBlock) u5 x5_2)∧Aside0 (Kd.R Kd.string 9 wc w.heap.size (fun k_=>some k_≠(u5:Value).ownBlock) (.slice (some ad210) t207.length co7) t207)∧Aside0 (Below w.heap.size w wc))
              case first=>
               have H:=HC19.out
               clear HC19
               by_cases c21:(bt (rdOf ByteArray.empty t207 x7_1) x11_2)=92
               ·rw [if_pos c21] at H
                have c21b0:((bt (rdOf ByteArray.empty t207 x7_1) x11_2) == 92)=true:=beq_iff_eq.mpr c21
                have c21b1:((bt (rdOf ByteArray.empty t207 x7_1) x11_2) != 92)=false:=bne_eq_false_iff_eq.mpr c21
                clear c21
                (first|rw [c21b0]|(simp only [i64_w,i32_w];rw [c21b0])|skip)
                by_cases c22:x10_2=true
                ·subst c22
                 have H1:(ambryref10_List.j3 kj8 x5_2 t207 x7_1 (rdOf ByteArray.empty t207 x7_1) x9_2 true x11_2 (decide ((wrap64 (x11_2+1)) < ((rdOf ByteArray.empty t207 x7_1).size:Int))))=some r:=by rw [if_pos rfl] at H;exact H
                 clear H
                 have H:=H1
                 clear H1
                 have H':=mkA H
                 clear H
                 have p20:0≤(x11_2:Int):=of_decide_eq_true (by first|(with_reducible assumption)|assumption)
                 have q20:x11_2 < ((rdOf ByteArray.empty t207 x7_1).size:Int):=of_decide_eq_true (by first|(with_reducible assumption)|assumption)
                 have hx20:=bt_at (rdOf ByteArray.empty t207 x7_1) x11_2
                 replace p20:=eq_true p20
                 replace q20:=eq_true q20
                 go_wp2
                 go_meet
                 case rel=>exact ⟨_,(decide ((wrap64 (x11_2+1)) < ((rdOf ByteArray.empty t207 x7_1).size:Int))),(by first|rfl|(simp;done)|(simp [*];done)),H',⟨by have:=HK1.out;have:=HK2.out;have:=HJ8.out;first|omega|exact Nat.le_refl _⟩,⟨by (with_reducible repeat (first|apply Kd.R_alloc|apply Kd.R_drewN|apply Kd.R_drew));exact HO_5.out⟩,⟨by (with_reducible repeat (first|apply Kd.R_alloc|apply Kd.R_drewN|apply Kd.R_drew));exact HO_6.out⟩,⟨by repeat (first|(with_reducible first|exact HB.out|apply below_alloc|apply pw_below_drewN|apply below_drew1)|exact HB.out)⟩⟩
                ·replace c22:=Bool.eq_false_iff.mpr c22
                 subst c22
                 have H1:(ambryref10_List.j3 kj8 x5_2 t207 x7_1 (rdOf ByteArray.empty t207 x7_1) x9_2 false x11_2 false)=some r:=by rw [if_neg (show ¬ (false=true) by decide)] at H;exact H
                 clear H
                 have H:=H1
                 clear H1
                 have H':=mkA H
                 clear H
                 have p20:0≤(x11_2:Int):=of_decide_eq_true (by first|(with_reducible assumption)|assumption)
                 have q20:x11_2 < ((rdOf ByteArray.empty t207 x7_1).size:Int):=of_decide_eq_true (by first|(with_reducible assumption)|assumption)
                 have hx20:=bt_at (rdOf ByteArray.empty t207 x7_1) x11_2
                 replace p20:=eq_true p20
                 replace q20:=eq_true q20
                 go_wp2
                 go_meet
                 case rel=>exact ⟨_,(false),(by first|rfl|(simp;done)|(simp [*];done)),H',⟨by have:=HK1.out;have:=HK2.out;have:=HJ8.out;first|omega|exact Nat.le_refl _⟩,⟨by (with_reducible repeat (first|apply Kd.R_alloc|apply Kd.R_drewN|apply Kd.R_drew));exact HO_5.out⟩,⟨by (with_reducible repeat (first|apply Kd.R_alloc|apply Kd.R_drewN|apply Kd.R_drew));exact HO_6.out⟩,⟨by repeat (first|(with_reducible first|exact HB.out|apply below_alloc|apply pw_below_drewN|apply below_drew1)|exact HB.out)⟩⟩
               ·rw [if_neg c21] at H
                have c21b0:((bt (rdOf ByteArray.empty t207 x7_1) x11_2) == 92)=false:=beq_eq_false_iff_ne.mpr c21
                have c21b1:((bt (rdOf ByteArray.empty t207 x7_1) x11_2) != 92)=true:=bne_iff_ne.mpr c21
                (first|rw [c21b0]|(simp only [i64_w,i32_w];rw [c21b0])|skip)
                have H':=mkA H
                clear H
                have p20:0≤(x11_2:Int):=of_decide_eq_true (by first|(with_reducible assumption)|assumption)
                have q20:x11_2 < ((rdOf ByteArray.empty t207 x7_1).size:Int):=of_decide_eq_true (by first|(with_reducible assumption)|assumption)
                have hx20:=bt_at (rdOf ByteArray.empty t207 x7_1) x11_2
                replace p20:=eq_true p20
                replace q20:=eq_true q20
                go_wp2
                go_meet
                case rel=>exact ⟨_,(false),(by first|rfl|(simp;done)|(simp [*];done)),H',⟨by have:=HK1.out;have:=HK2.out;have:=HJ8.out;first|omega|exact Nat.le_refl _⟩,⟨by (with_reducible repeat (first|apply Kd.R_alloc|apply Kd.R_drewN|apply Kd.R_drew));exact HO_5.out⟩,⟨by (with_reducible repeat (first|apply Kd.R_alloc|apply Kd.R_drewN|apply Kd.R_drew));exact HO_6.out⟩,⟨by repeat (first|(with_reducible first|exact HB.out|apply below_alloc|apply pw_below_drewN|apply below_drew1)|exact HB.out)⟩⟩
              case rest=>
               clear HC19
               try clear c1
               try clear p1
               try clear q1
               try clear hx1
               try clear c2
               try clear p2
               try clear q2
               try clear hx2
               try clear c5
               try clear c5b0
               try clear c6
               try clear c6b0
               try clear p6
               try clear c8
               try clear c8b0
               try clear c10
               try clear c10b0
               try clear c11
               try clear c11b0
               try clear p12
               try clear q12
               try clear hx12
               try clear c13
               try clear c13b0
               try clear c13b1
               try clear c14
               try clear c15
               try clear c15b0
               try clear c16
               try clear c16b0
               try clear p17
               try clear q17
               try clear hx17
               try clear c18
               try clear c18b0
               try clear c18b1
               try clear p20
               try clear q20
               try clear hx20
               try clear c21
               try clear c21b0
               try clear c21b1
               try clear p21
               try clear q21
               try clear hx21
               try clear c22
               try clear hx210_0
               try clear p1
               try clear p12
               try clear p17
               try clear p2
               try clear p20
               try clear p210
               try clear q1
               try clear q12
               try clear q17
               try clear q2
               try clear q20
               try clear q210
               obtain ⟨kq,x52_18,rfl,HA,HJ18,HO_5,HO_6,HB⟩:=hcut
               cases kq with
               |zero=>exact absurd HA.out (by simp [ambryref10_List.j3])
               |succ kj18=>
                have H:=HA.out
                clear HA
                simp only [ambryref10_List.j3] at H
                by_cases c23:x52_18=true
                ·subst c23
                 have H1:(ambryref10_List.l1 kj18 x5_2 t207 x7_1 (rdOf ByteArray.empty t207 x7_1) x9_2 x10_2 (wrap64 ((wrap64 (x11_2+1))+1)))=some r:=by rw [if_pos rfl] at H;exact H
                 clear H
                 have H:=H1
                 clear H1
                 have H':=mkA H
                 clear H
                 go_wp2
                 go_roundg kj18
                 case measure=>have:=HK1.out;have:=HK2.out;have:=HJ8.out;have:=HJ18.out;omega
                 case rel=>exact ⟨(x5_2),(x9_2),(x10_2),(wrap64 ((wrap64 (x11_2+1))+1)),(by first|rfl|(simp;done)|(simp [*];done)),(by first|rfl|(simp;done)|(simp [*];done)),(by first|rfl|(simp;done)|(simp [*];done)),H',⟨by have:=HK1.out;have:=HK2.out;have:=HJ8.out;have:=HJ18.out;omega⟩,⟨by (with_reducible repeat (first|apply Kd.R_alloc|apply Kd.R_drewN|apply Kd.R_drew));exact HO_5.out⟩,⟨by (with_reducible repeat (first|apply Kd.R_alloc|apply Kd.R_drewN|apply Kd.R_drew));exact HO_6.out⟩,⟨by repeat (first|(with_reducible first|exact HB.out|apply below_alloc|apply pw_below_drewN|apply below_drew1)|exact HB.out)⟩⟩
                ·replace c23:=Bool.eq_false_iff.mpr c23
                 subst c23
                 have H1:(ambryref10_List.l1 kj18 x5_2 t207 x7_1 (rdOf ByteArray.empty t207 x7_1) x9_2 x10_2 (wrap64 (x11_2+1)))=some r:=by rw [if_neg (show ¬ (false=true) by decide)] at H;exact H
                 clear H
                 have H:=H1
                 clear H1
                 have H':=mkA H
                 clear H
                 go_wp2
                 go_roundg kj18
                 case measure=>have:=HK1.out;have:=HK2.out;have:=HJ8.out;have:=HJ18.out;omega
                 case rel=>exact ⟨(x5_2),(x9_2),(x10_2),(wrap64 (x11_2+1)),(by first|rfl|(simp;done)|(simp [*];done)),(by first|rfl|(simp;done)|(simp [*];done)),(by first|rfl|(simp;done)|(simp [*];done)),H',⟨by have:=HK1.out;have:=HK2.out;have:=HJ8.out;have:=HJ18.out;omega⟩,⟨by (with_reducible repeat (first|apply Kd.R_alloc|apply Kd.R_drewN|apply Kd.R_drew));exact HO_5.out⟩,⟨by (with_reducible repeat (first|apply Kd.R_alloc|apply Kd.R_drewN|apply Kd.R_drew));exact HO_6.out⟩,⟨by repeat (first|(with_reducible first|exact HB.out|apply below_alloc|apply pw_below_drewN|apply below_drew1)|exact HB.out)⟩⟩
            ·rw [if_neg c16] at H
             exact absurd H (by simp)
           ·rw [if_neg c15] at H
            exact absurd H (by simp)
          ·replace c14:=Bool.eq_false_iff.mpr c14
           subst c14
           have H1:(if 0≤x9_2 then (if x9_2≤(mn x11_2 ((rdOf ByteArray.empty t207 x7_1).size:Int)) then (if (mn x11_2 ((rdOf ByteArray.empty t207 x7_1).size:Int))≤((rdOf ByteArray.empty t207 x7_1).size:Int) then ((ambryref10_Trim.f kj8 ((rdOf ByteArray.empty t207 x7_1).extract (x9_2:Int).toNat ((mn x11_2 ((rdOf ByteArray.empty t207 x7_1).size:Int)):Int).toNat)).bind fun t211=>(if t211.toList=([]:List UInt8) then (ambryref10_List.l1 kj8 x5_2 t207 x7_1 (rdOf ByteArray.empty t207 x7_1) (wrap64 (x11_2+1)) x10_2 (wrap64 (x11_2+1))) else (if x5_2.length < 8796093022208 then (ambryref10_List.l1 kj8 (x5_2++[t211]) t207 x7_1 (rdOf ByteArray.empty t207 x7_1) (wrap64 (x11_2+1)) x10_2 (wrap64 (x11_2+1))) else (none)))) else (none)) else (none)) else (none))=some r:=by rw [if_neg (show ¬ (false=true) by decide)] at H;exact H
           clear H
           have H:=H1
           clear H1
           obtain ⟨ji24,hji24⟩:∃ j_:Int,(mn x11_2 ((rdOf ByteArray.empty t207 x7_1).size:Int))=j_:=⟨_,rfl⟩
           replace H:(if 0≤x9_2 then (if x9_2≤(ji24) then (if (ji24)≤((rdOf ByteArray.empty t207 x7_1).size:Int) then ((ambryref10_Trim.f kj8 ((rdOf ByteArray.empty t207 x7_1).extract (x9_2:Int).toNat ((ji24):Int).toNat)).bind fun t211=>(if t211.toList=([]:List UInt8) then (ambryref10_List.l1 kj8 x5_2 t207 x7_1 (rdOf ByteArray.empty t207 x7_1) (wrap64 (x11_2+1)) x10_2 (wrap64 (x11_2+1))) else (if x5_2.length < 8796093022208 then (ambryref10_List.l1 kj8 (x5_2++[t211]) t207 x7_1 (rdOf ByteArray.empty t207 x7_1) (wrap64 (x11_2+1)) x10_2 (wrap64 (x11_2+1))) else (none)))) else (none)) else (none)) else (none))=some r:=by first|(rw [hji24] at H;exact H)|(simp only [hji24] at H ⊢;exact H)
           have hji24_:(if ((rdOf ByteArray.empty t207 x7_1).size:Int) < x11_2 then ((rdOf ByteArray.empty t207 x7_1).size:Int) else x11_2)=ji24:=hji24
           by_cases c25:0≤x9_2
           ·rw [if_pos c25] at H
            have c25b0:=eq_true c25
            have c25b1:decide (0≤x9_2)=true:=decide_eq_true c25
            clear c25
            by_cases c26:x9_2≤(ji24)
            ·rw [if_pos c26] at H
             have c26b0:=eq_true c26
             have c26b1:decide (x9_2≤(ji24))=true:=decide_eq_true c26
             clear c26
             by_cases c27:(ji24)≤((rdOf ByteArray.empty t207 x7_1).size:Int)
             ·rw [if_pos c27] at H
              have c27b0:=eq_true c27
              have c27b1:decide ((ji24)≤((rdOf ByteArray.empty t207 x7_1).size:Int))=true:=decide_eq_true c27
              clear c27
              replace H:=Option.bind_eq_some_iff.mp H
              obtain ⟨t211,A280,H⟩:=H
              replace H:(if t211.toList=([]:List UInt8) then (ambryref10_List.l1 kj8 x5_2 t207 x7_1 (rdOf ByteArray.empty t207 x7_1) (wrap64 (x11_2+1)) x10_2 (wrap64 (x11_2+1))) else (if x5_2.length < 8796093022208 then (ambryref10_List.l1 kj8 (x5_2++[t211]) t207 x7_1 (rdOf ByteArray.empty t207 x7_1) (wrap64 (x11_2+1)) x10_2 (wrap64 (x11_2+1))) else (none)))=some r:=H
              have A28:=mkA A280
              clear A280
              by_cases c29:t211.toList=([]:List UInt8)
              ·rw [if_pos c29] at H
               have c29b0:(t211.toList == ([]:List UInt8))=true:=beq_iff_eq.mpr c29
               have c29b1:(t211.toList != ([]:List UInt8))=false:=bne_eq_false_iff_eq.mpr c29
               clear c29
               have H':=mkA H
               clear H
               go_wp2_with (first|((with_reducible refine gate_callee (f:=77) rfl ?_);refine goesL_ (some 76) rfl rfl Tryz.func77 (by kernel_rfl) rfl #[.string ((rdOf ByteArray.empty t207 x7_1).extract (x9_2:Int).toNat ((ji24):Int).toNat)] rfl (by (try simp only [List.map_toArray,List.map_cons,List.map_nil]);first|done|(simp only [hji24];rfl)|rfl|(simp only [List.length_drop,List.length_take];rfl)) ?_;(with_reducible refine (ambryref10_Trim.calls kj8 ((rdOf ByteArray.empty t207 x7_1).extract (x9_2:Int).toNat ((ji24):Int).toNat) t211 _ A28.out).mono ?_);rintro e w' ⟨rfl,⟨nd,rfl⟩⟩;refine ⟨_,rfl,?_⟩))
               go_roundg kj8
               case measure=>have:=HK1.out;have:=HK2.out;have:=HJ8.out;omega
               case rel=>exact ⟨(x5_2),(wrap64 (x11_2+1)),(x10_2),(wrap64 (x11_2+1)),(by first|rfl|(simp;done)|(simp [*];done)),(by first|rfl|(simp;done)|(simp [*];done)),(by first|rfl|(simp;done)|(simp [*];done)),H',⟨by have:=HK1.out;have:=HK2.out;have:=HJ8.out;omega⟩,⟨by (with_reducible repeat (first|apply Kd.R_alloc|apply Kd.R_drewN|apply Kd.R_drew));exact HO_5.out⟩,⟨by (with_reducible repeat (first|apply Kd.R_alloc|apply Kd.R_drewN|apply Kd.R_drew));exact HO_6.out⟩,⟨by repeat (first|(with_reducible first|exact HB.out|apply below_alloc|apply pw_below_drewN|apply below_drew1)|exact HB.out)⟩⟩
              ·rw [if_neg c29] at H
               have c29b0:(t211.toList == ([]:List UInt8))=false:=beq_eq_false_iff_ne.mpr c29
               have c29b1:(t211.toList != ([]:List UInt8))=true:=bne_iff_ne.mpr c29
               by_cases c30:x5_2.length < 8796093022208
               ·rw [if_pos c30] at H
                have LMc30:=mkA c30
                clear c30
                obtain ⟨y212,hy212⟩:∃ y_:List ByteArray,y_=(x5_2++[t211]):=⟨_,rfl⟩
                replace H:(ambryref10_List.l1 kj8 y212 t207 x7_1 (rdOf ByteArray.empty t207 x7_1) (wrap64 (x11_2+1)) x10_2 (wrap64 (x11_2+1)))=some r:=by first|(rw [hy212];with_reducible exact H)|(have H2_:=(Option.bind_some _ _).symm.trans H;rw [hy212];with_reducible exact H2_)|(have H2_:=(Option.bind_some _ _).symm.trans H;with_reducible exact H2_)|with_reducible exact H|(rw [hy212];exact H)|exact H
                have Ny212:=mkA hy212
                clear hy212
                have H':=mkA H
                clear H
                go_wp2_with (first|((with_reducible refine gate_callee (f:=77) rfl ?_);refine goesL_ (some 76) rfl rfl Tryz.func77 (by kernel_rfl) rfl #[.string ((rdOf ByteArray.empty t207 x7_1).extract (x9_2:Int).toNat ((ji24):Int).toNat)] rfl (by (try simp only [List.map_toArray,List.map_cons,List.map_nil]);first|done|(simp only [hji24];rfl)|rfl|(simp only [List.length_drop,List.length_take];rfl)) ?_;(with_reducible refine (ambryref10_Trim.calls kj8 ((rdOf ByteArray.empty t207 x7_1).extract (x9_2:Int).toNat ((ji24):Int).toNat) t211 _ A28.out).mono ?_);rintro e w' ⟨rfl,⟨nd,rfl⟩⟩;refine ⟨_,rfl,?_⟩)|((with_reducible refine gate_builtin (b:=.append) (xs:=#[.tmp 79,.tmp 81]) rfl ?_);(try (refine gate_guard (by rfl) ?_;dsimp only));at_builtin;refine Kd.R_append Kd.string (w0:=w) w.heap.size rfl (.tmp 79) (.tmp 81) 46 9 (.string ⟨#[]⟩) 16 rfl Tryz.underlying46 info9 rfl (by decide) (by omega) u5 x5_2 t211 [.string t211] (fun k_=>some k_≠(.slice (some ad210) t207.length co7:Value).ownBlock) (fun _=>False) rfl rfl ?aP (fun _ hk=>hk.elim) ?aF ?aO ?aB ?aS ?aL ?_;(case aP=>exact rfl);(case aB=>exact (by repeat (first|(with_reducible first|exact HB.out|apply below_alloc|apply pw_below_drewN|apply below_drew1)|exact HB.out)));(case aF=>exact (fun k_ hk=>Kd.fresh' (Kd.R_lt (by (with_reducible repeat (first|apply Kd.R_alloc|apply Kd.R_drewN|apply Kd.R_drew));exact HO_6.out)) k_ hk));(case aO=>exact (by (with_reducible repeat (first|apply Kd.R_alloc|apply Kd.R_drewN|apply Kd.R_drew));exact HO_5.out));(case aS=>exact (below_size (by repeat (first|(with_reducible first|exact HB.out|apply below_alloc|apply pw_below_drewN|apply below_drew1)|exact HB.out))));(case aL=>have:=LMc30.out;omega);intro v213 w31 ho hb hg hat;rw [← Ny212.out] at ho;have n0_:=mkA (Kd.R_after (ok:=(fun _=>True)) (by (with_reducible repeat (first|apply Kd.R_alloc|apply Kd.R_drewN|apply Kd.R_drew));exact Kd.R_mono HO_6.out (fun _ hk=>⟨trivial,hk⟩)) hg hat);have n1_:=mkA (hb);have n2_:=mkA (ho);clear HO_6;clear HB;clear HO_5;have HO_6:=n0_;have HB:=n1_;have HO214:=n2_;clear n0_ n1_ n2_;clear ho hb hg hat))
                go_roundg kj8
                case measure=>have:=HK1.out;have:=HK2.out;have:=HJ8.out;omega
                case rel=>exact ⟨(y212),(wrap64 (x11_2+1)),(x10_2),(wrap64 (x11_2+1)),(by first|rfl|(simp;done)|(simp [*];done)),(by first|rfl|(simp;done)|(simp [*];done)),(by first|rfl|(simp;done)|(simp [*];done)),H',⟨by have:=HK1.out;have:=HK2.out;have:=HJ8.out;omega⟩,⟨by (with_reducible repeat (first|apply Kd.R_alloc|apply Kd.R_drewN|apply Kd.R_drew));exact HO214.out⟩,⟨by (with_reducible repeat (first|apply Kd.R_alloc|apply Kd.R_drewN|apply Kd.R_drew));exact Kd.R_mono HO_6.out (fun _ hk=>hk.2)⟩,⟨by repeat (first|(with_reducible first|exact HB.out|apply below_alloc|apply pw_below_drewN|apply below_drew1)|exact HB.out)⟩⟩
               ·rw [if_neg c30] at H
                exact absurd H (by simp)
             ·rw [if_neg c27] at H
              exact absurd H (by simp)
            ·rw [if_neg c26] at H
             exact absurd H (by simp)
           ·rw [if_neg c25] at H
            exact absurd H (by simp)
       ·rw [if_neg c8] at H
        have c8b0:decide (x11_2≤((rdOf ByteArray.empty t207 x7_1).size:Int))=false:=decide_eq_false c8
        clear c8
        have H':=mkA H
        clear H
        go_wp2
        go_roundg k2
        case measure=>have:=HK1.out;have:=HK2.out;omega
        case rel=>exact ⟨(x5_2),(wrap64 (x7_1+1)),(by first|rfl|(simp;done)|(simp [*];done)),H',⟨by have:=HK1.out;have:=HK2.out;omega⟩,⟨by (with_reducible repeat (first|apply Kd.R_alloc|apply Kd.R_drewN|apply Kd.R_drew));exact HO_5.out⟩,⟨by (with_reducible repeat (first|apply Kd.R_alloc|apply Kd.R_drewN|apply Kd.R_drew));exact HO_6.out⟩,⟨by repeat (first|(with_reducible first|exact HB.out|apply below_alloc|apply pw_below_drewN|apply below_drew1)|exact HB.out)⟩⟩
    ·rw [if_neg c6] at H
     exact absurd H (by simp)
   ·rw [if_neg c5] at H
    have c5b0:decide (x7_1 < (t207.length:Int))=false:=decide_eq_false c5
    clear c5
    obtain rfl:=Option.some.inj H
    obtain ⟨Ao32,co32,eo32⟩:=Kd.R_slice HO_6.out
    subst eo32
    go_wp2
    go_ret
    exact ⟨_,by first|rfl|(simp [errW_none,errW_some] <;> rfl)|(simp [*,errW_none,errW_some] <;> rfl),by (with_reducible repeat (first|apply Kd.R_alloc|apply Kd.R_drewN|apply Kd.R_drew));exact Kd.R_mono HO_5.out (fun _ hk=>trivial),by repeat (first|(with_reducible first|exact HB.out|apply below_alloc|apply pw_below_drewN|apply below_drew1)|exact HB.out)⟩
end Go.Proofs.YtlnmnjbihgaliaaGreat.Pr
