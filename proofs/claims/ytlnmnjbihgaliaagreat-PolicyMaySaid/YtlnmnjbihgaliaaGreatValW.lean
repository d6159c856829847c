import Derived.Test.YtlnmnjbihgaliaaGreatPr0
import Derived.Test.YtlnmnjbihgaliaaGreatPr7
set_option linter.unusedVariables false
set_option linter.unusedSimpArgs false
namespace Go.Proofs.YtlnmnjbihgaliaaGreat.Pr
open Go.RowKit Go.Proofs.YtlnmnjbihgaliaaGreatW.PrintWords Go.Proofs.YtlnmnjbihgaliaaGreatW.PrintLast Go.Proofs.YtlnmnjbihgaliaaGreatW.PrintMore
attribute [local go_sem] max2_int min2_int max_two min_two max_three min_three max_four min_four
mutual
def ambryref13_value.l0:Nat→ByteArray→Int→Option (ByteArray × ByteArray × Bool)
 |0,_,_=>none
 |k+1,x0,x5=>if x5 < (x0.size:Int) then (if 0≤x5 then (if (bt x0 x5)=61 then (if 0≤(wrap64 (x5+1)) then (if (wrap64 (x5+1))≤(x0.size:Int) then (if ((x0.extract ((wrap64 (x5+1)):Int).toNat x0.size).size:Int) ≥ 2 then (if 0 < ((x0.extract ((wrap64 (x5+1)):Int).toNat x0.size).size:Int) then (if (bt (x0.extract ((wrap64 (x5+1)):Int).toNat x0.size) 0)=34 then (if 0≤(wrap64 (((x0.extract ((wrap64 (x5+1)):Int).toNat x0.size).size:Int) - 1)) then (if (wrap64 (((x0.extract ((wrap64 (x5+1)):Int).toNat x0.size).size:Int) - 1)) < ((x0.extract ((wrap64 (x5+1)):Int).toNat x0.size).size:Int) then (ambryref13_value.j1 k x0 x5 (x0.extract ((wrap64 (x5+1)):Int).toNat x0.size) ((bt (x0.extract ((wrap64 (x5+1)):Int).toNat x0.size) (wrap64 (((x0.extract ((wrap64 (x5+1)):Int).toNat x0.size).size:Int) - 1))) == 34)) else (none)) else (none)) else (ambryref13_value.j1 k x0 x5 (x0.extract ((wrap64 (x5+1)):Int).toNat x0.size) false)) else (none)) else (ambryref13_value.j1 k x0 x5 (x0.extract ((wrap64 (x5+1)):Int).toNat x0.size) false)) else (none)) else (none)) else (ambryref13_value.l0 k x0 (wrap64 (x5+1)))) else (none)) else ((ambryref10_Low.f x0).bind fun t215=>(some (t215,(⟨#[]⟩:ByteArray),false)))
def ambryref13_value.j1:Nat→ByteArray→Int→ByteArray→Bool→Option (ByteArray × ByteArray × Bool)
 |0,_,_,_,_=>none
 |k+1,x0,x5,x6,x38=>if x38=true then (ambryref13_value.l1 k x0 x5 x6 ([]:List Int) 1) else (if 0≤x5 then (if x5≤(x0.size:Int) then ((ambryref10_Low.f (x0.extract 0 (x5:Int).toNat)).bind fun t226=>(some (t226,x6,true))) else (none)) else (none))
def ambryref13_value.l1:Nat→ByteArray→Int→ByteArray→List Int→Int→Option (ByteArray × ByteArray × Bool)
 |0,_,_,_,_,_=>none
 |k+1,x0,x5,x6,x7,x8=>if x8 < (wrap64 ((x6.size:Int) - 1)) then (if 0≤x8 then (if x8 < (x6.size:Int) then (if (bt x6 x8)=92 then (if (wrap64 (x8+1)) < (wrap64 ((x6.size:Int) - 1)) then (if 0≤(wrap64 (x8+1)) then (if (wrap64 (x8+1)) < (x6.size:Int) then (if x7.length < 140737488355328 then (ambryref13_value.l1 k x0 x5 x6 (x7++[bt x6 (wrap64 (x8+1))]) (wrap64 ((wrap64 (x8+1))+1))) else (none)) else (none)) else (none)) else (if x7.length < 140737488355328 then (ambryref13_value.l1 k x0 x5 x6 (x7++[bt x6 x8]) (wrap64 (x8+1))) else (none))) else (if x7.length < 140737488355328 then (ambryref13_value.l1 k x0 x5 x6 (x7++[bt x6 x8]) (wrap64 (x8+1))) else (none))) else (none)) else (none)) else (if 0≤x5 then (if x5≤(x0.size:Int) then ((ambryref10_Low.f (x0.extract 0 (x5:Int).toNat)).bind fun t225=>(some (t225,strOfNums x7,true))) else (none)) else (none))
end
def ambryref13_value.f(k:Nat)(a0:ByteArray):Option (ByteArray × ByteArray × Bool):=ambryref13_value.l0 k a0 0
set_option maxHeartbeats 8000000 in
set_option maxRecDepth 100000 in
theorem ambryref13_value.calls(k:Nat)(a0:ByteArray)(r1:ByteArray)(r2:ByteArray)(r3:Bool)(w:World)(h:ambryref13_value.f k a0=some (r1,r2,r3)):
  Calls Tryz.prog 56 #[.string a0] w fun e w'=>e=.returned (.tuple #[.string r1,.string r2,.bool r3])∧Below w.heap.size w w':=by
 have HB:=mkA (Below.refl w.heap.size w)
 have H:(ambryref13_value.l0 k a0 0)=some (r1,r2,r3):=h
 clear h
 have H':=mkA H
 clear H
 go_enter Tryz.func56,Tryz.ntmps56
 go_wp2
 go_loopg [5] k (fun kq v5 w'=>∃ (x5_1:Int),v5=.int .i64 x5_1∧Aside0 (ambryref13_value.l0 kq a0 x5_1=some (r1,r2,r3))∧Aside0 (kq≤k)∧Aside0 (Below w.heap.size w w'))
 case atStart=>exact ⟨(0),(by first|rfl|(simp;done)|(simp [*];done)),H',⟨Nat.le_refl _⟩,⟨by repeat (first|(with_reducible first|exact HB.out|apply below_alloc|apply pw_below_drewN|apply below_drew1)|exact HB.out)⟩⟩
 case round=>
  clear H'
  obtain ⟨x5_1,rfl,HA,HK1,HB⟩:=hrel
  cases gk with
  |zero=>exact absurd HA.out (by simp [ambryref13_value.l0])
  |succ k1=>
   have H:=HA.out
   clear HA
   simp only [ambryref13_value.l0] at H
   by_cases c2:x5_1 < (a0.size:Int)
   ·rw [if_pos c2] at H
    have c2b0:decide (x5_1 < (a0.size:Int))=true:=decide_eq_true c2
    clear c2
    by_cases c3:0≤x5_1
    ·rw [if_pos c3] at H
     have c3b0:decide (0≤x5_1)=true:=decide_eq_true c3
     clear c3
     by_cases c5:(bt a0 x5_1)=61
     ·rw [if_pos c5] at H
      have c5b0:((bt a0 x5_1) == 61)=true:=beq_iff_eq.mpr c5
      have c5b1:((bt a0 x5_1) != 61)=false:=bne_eq_false_iff_eq.mpr c5
      clear c5
      obtain ⟨ji6,hji6⟩:∃ j_:Int,(wrap64 (x5_1+1))=j_:=⟨_,rfl⟩
      replace H:(if 0≤(ji6) then (if (ji6)≤(a0.size:Int) then (if ((a0.extract ((ji6):Int).toNat a0.size).size:Int) ≥ 2 then (if 0 < ((a0.extract ((ji6):Int).toNat a0.size).size:Int) then (if (bt (a0.extract ((ji6):Int).toNat a0.size) 0)=34 then (if 0≤(wrap64 (((a0.extract ((ji6):Int).toNat a0.size).size:Int) - 1)) then (if (wrap64 (((a0.extract ((ji6):Int).toNat a0.size).size:Int) - 1)) < ((a0.extract ((ji6):Int).toNat a0.size).size:Int) then (ambryref13_value.j1 k1 a0 x5_1 (a0.extract ((ji6):Int).toNat a0.size) ((bt (a0.extract ((ji6):Int).toNat a0.size) (wrap64 (((a0.extract ((ji6):Int).toNat a0.size).size:Int) - 1))) == 34)) else (none)) else (none)) else (ambryref13_value.j1 k1 a0 x5_1 (a0.extract ((ji6):Int).toNat a0.size) false)) else (none)) else (ambryref13_value.j1 k1 a0 x5_1 (a0.extract ((ji6):Int).toNat a0.size) false)) else (none)) else (none))=some (r1,r2,r3):=by first|(rw [hji6] at H;exact H)|(simp only [hji6] at H ⊢;exact H)
      have hji6w:(IntKind.i64.wrap (x5_1+1))=ji6:=(i64_w _).trans hji6
      by_cases c7:0≤(ji6)
      ·rw [if_pos c7] at H
       have c7b0:=eq_true c7
       have c7b1:decide (0≤(ji6))=true:=decide_eq_true c7
       clear c7
       by_cases c8:(ji6)≤(a0.size:Int)
       ·rw [if_pos c8] at H
        have c8b0:=eq_true c8
        have c8b1:decide ((ji6)≤(a0.size:Int))=true:=decide_eq_true c8
        clear c8
        have HC9:=mkA H
        clear H
        have p4:0≤(x5_1:Int):=of_decide_eq_true (by first|(with_reducible assumption)|assumption)
        have q4:x5_1 < (a0.size:Int):=of_decide_eq_true (by first|(with_reducible assumption)|assumption)
        have hx4:=bt_at a0 x5_1
        replace p4:=eq_true p4
        replace q4:=eq_true q4
        go_upto_region 6 with (fail)
        generalize a0.extract ji6.toNat a0.size=vx at HC9 ⊢
        go_cut [38] (fun v38 wc=>∃ (kq:Nat) (x38_8:Bool),v38=.bool x38_8∧Aside0 (ambryref13_value.j1 kq a0 x5_1 vx x38_8=some (r1,r2,r3))∧Aside0 (kq≤k1)∧Aside0 (Below w.heap.size w wc))
        case first=>
         have H:=HC9.out
         clear HC9
         by_cases c10:(vx.size:Int) ≥ 2
         ·rw [if_pos c10] at H
          have c10b0:decide (2≤(vx.size:Int))=true:=decide_eq_true c10
          have c10b1:decide (2≤vx.size)=true:=decide_eq_true (by omega)
          clear c10
          (first|rw [c10b0]|(simp only [i64_w,i32_w];rw [c10b0])|skip)
          by_cases c11:0 < (vx.size:Int)
          ·rw [if_pos c11] at H
           have c11b0:decide (0 < (vx.size:Int))=true:=decide_eq_true c11
           have c11b1:decide (0 < vx.size)=true:=decide_eq_true (by omega)
           clear c11
           by_cases c13:(bt vx 0)=34
           ·rw [if_pos c13] at H
            have c13b0:((bt vx 0) == 34)=true:=beq_iff_eq.mpr c13
            have c13b1:((bt vx 0) != 34)=false:=bne_eq_false_iff_eq.mpr c13
            clear c13
            obtain ⟨ji14,hji14⟩:∃ j_:Int,(wrap64 ((vx.size:Int) - 1))=j_:=⟨_,rfl⟩
            replace H:(if 0≤(ji14) then (if (ji14) < (vx.size:Int) then (ambryref13_value.j1 k1 a0 x5_1 vx ((bt vx (ji14)) == 34)) else (none)) else (none))=some (r1,r2,r3):=by first|(rw [hji14] at H;exact H)|(simp only [hji14] at H ⊢;exact H)
            have hji14w:(IntKind.i64.wrap ((vx.size:Int) - 1))=ji14:=(i64_w _).trans hji14
            by_cases c15:0≤(ji14)
            ·rw [if_pos c15] at H
             have c15b0:decide (0≤(ji14))=true:=decide_eq_true c15
             clear c15
             by_cases c16:(ji14) < (vx.size:Int)
             ·rw [if_pos c16] at H
              have c16b0:decide ((ji14) < (vx.size:Int))=true:=decide_eq_true c16
              clear c16
              have H':=mkA H
              clear H
              have p12:0≤(0:Int):=(by omega)
              have q12:0 < vx.size:=(by have:(0:Int) < (vx.size:Int):=of_decide_eq_true (by first|(with_reducible assumption)|assumption);omega)
              have hx12:∀ h:0 < vx.size,((vx[0]'h).toNat:Int)=bt vx 0:=bt_at vx 0
              clear p12
              have qi12:(0 < (vx.size:Int))=True:=eq_true (of_decide_eq_true (by first|(with_reducible assumption)|assumption))
              replace q12:=eq_true q12
              have p17:0≤((ji14):Int):=of_decide_eq_true (by first|(with_reducible assumption)|assumption)
              have q17:(ji14) < (vx.size:Int):=of_decide_eq_true (by first|(with_reducible assumption)|assumption)
              have hx17:=bt_at vx (ji14)
              replace p17:=eq_true p17
              replace q17:=eq_true q17
              go_wp2
              go_meet
              case rel=>exact ⟨_,(((bt vx (ji14)) == 34)),(by first|rfl|(simp;done)|(simp only [← hji6,← hji14] <;> (first|rfl|simp))|(simp [*];done)),H',⟨by have:=HK1.out;first|omega|exact Nat.le_refl _⟩,⟨by repeat (first|(with_reducible first|exact HB.out|apply below_alloc|apply pw_below_drewN|apply below_drew1)|exact HB.out)⟩⟩
             ·rw [if_neg c16] at H
              exact absurd H (by simp)
            ·rw [if_neg c15] at H
             exact absurd H (by simp)
           ·rw [if_neg c13] at H
            have c13b0:((bt vx 0) == 34)=false:=beq_eq_false_iff_ne.mpr c13
            have c13b1:((bt vx 0) != 34)=true:=bne_iff_ne.mpr c13
            have H':=mkA H
            clear H
            have p12:0≤(0:Int):=(by omega)
            have q12:0 < vx.size:=(by have:(0:Int) < (vx.size:Int):=of_decide_eq_true (by first|(with_reducible assumption)|assumption);omega)
            have hx12:∀ h:0 < vx.size,((vx[0]'h).toNat:Int)=bt vx 0:=bt_at vx 0
            clear p12
            have qi12:(0 < (vx.size:Int))=True:=eq_true (of_decide_eq_true (by first|(with_reducible assumption)|assumption))
            replace q12:=eq_true q12
            go_wp2
            go_meet
            case rel=>exact ⟨_,(false),(by first|rfl|(simp;done)|(simp [*];done)),H',⟨by have:=HK1.out;first|omega|exact Nat.le_refl _⟩,⟨by repeat (first|(with_reducible first|exact HB.out|apply below_alloc|apply pw_below_drewN|apply below_drew1)|exact HB.out)⟩⟩
          ·rw [if_neg c11] at H
           exact absurd H (by simp)
         ·rw [if_neg c10] at H
          have c10b0:decide (2≤(vx.size:Int))=false:=decide_eq_false c10
          have c10b1:decide (2≤vx.size)=false:=decide_eq_false (by omega)
          clear c10
          (first|rw [c10b0]|(simp only [i64_w,i32_w];rw [c10b0])|skip)
          have H':=mkA H
          clear H
          go_wp2
          go_meet
          case rel=>exact ⟨_,(false),(by first|rfl|(simp;done)|(simp [*];done)),H',⟨by have:=HK1.out;first|omega|exact Nat.le_refl _⟩,⟨by repeat (first|(with_reducible first|exact HB.out|apply below_alloc|apply pw_below_drewN|apply below_drew1)|exact HB.out)⟩⟩
        case rest=>
         clear HC9
         try clear c1
         try clear p1
         try clear q1
         try clear hx1
         try clear qi1
         try clear c2
         try clear c2b0
         try clear p2
         try clear c3
         try clear c3b0
         try clear p4
         try clear q4
         try clear hx4
         try clear c5
         try clear c5b0
         try clear c5b1
         try clear p6
         try clear c7
         try clear c7b0
         try clear c7b1
         try clear c8
         try clear c8b0
         try clear c8b1
         try clear c10
         try clear c10b0
         try clear c10b1
         try clear c11
         try clear c11b0
         try clear c11b1
         try clear p12
         try clear q12
         try clear hx12
         try clear qi12
         try clear c13
         try clear c13b0
         try clear c13b1
         try clear c15
         try clear c15b0
         try clear c16
         try clear c16b0
         try clear p17
         try clear q17
         try clear hx17
         try clear p12
         try clear p17
         try clear p4
         try clear q12
         try clear q17
         try clear q4
         obtain ⟨kq,x38_8,rfl,HA,HJ8,HB⟩:=hcut
         cases kq with
         |zero=>exact absurd HA.out (by simp [ambryref13_value.j1])
         |succ kj8=>
          have H:=HA.out
          clear HA
          simp only [ambryref13_value.j1] at H
          by_cases c18:x38_8=true
          ·subst c18
           have H1:(ambryref13_value.l1 kj8 a0 x5_1 vx ([]:List Int) 1)=some (r1,r2,r3):=by rw [if_pos rfl] at H;exact H
           clear H
           have H:=H1
           clear H1
           have H':=mkA H
           clear H
           go_wp2
           go_loopg [7,8] kj8 (fun kq v7 v8 w'=>∃ (x7_3:List Int) (x8_3:Int),v8=.int .i64 x8_3∧Aside0 (ambryref13_value.l1 kq a0 x5_1 vx x7_3 x8_3=some (r1,r2,r3))∧Aside0 (kq≤kj8)∧Aside0 (Kd.R (Kd.int .u8) 5 w' w.heap.size (fun _=>True) v7 x7_3)∧Aside0 (Below w.heap.size w w'))
           case atStart=>exact ⟨(([]:List Int)),(1),(by first|rfl|(simp;done)|(simp [*];done)),H',⟨Nat.le_refl _⟩,⟨by first|exact Kd.R_nil _ _ _ _ _|exact Kd.N_nil _ _ _ _ _|exact Kd.V_nil _ _ _ _ _|exact Kd.Q_nil _ _ _ _ _|exact Kd.S_nil _ _ _ _ _⟩,⟨by repeat (first|(with_reducible first|exact HB.out|apply below_alloc|apply pw_below_drewN|apply below_drew1)|exact HB.out)⟩⟩
           case round=>
            clear H'
            try clear c1
            try clear p1
            try clear q1
            try clear hx1
            try clear qi1
            try clear c2
            try clear c2b0
            try clear p2
            try clear c3
            try clear c3b0
            try clear p4
            try clear q4
            try clear hx4
            try clear c5
            try clear c5b0
            try clear c5b1
            try clear p6
            try clear c7
            try clear c7b0
            try clear c7b1
            try clear c8
            try clear c8b0
            try clear c8b1
            try clear c10
            try clear c10b0
            try clear c10b1
            try clear c11
            try clear c11b0
            try clear c11b1
            try clear p12
            try clear q12
            try clear hx12
            try clear qi12
            try clear c13
            try clear c13b0
            try clear c13b1
            try clear c15
            try clear c15b0
            try clear c16
            try clear c16b0
            try clear p17
            try clear q17
            try clear hx17
            try clear c18
            try clear p1
            try clear p12
            try clear p17
            try clear p2
            try clear p4
            try clear p6
            try clear q1
            try clear q12
            try clear q17
            try clear q4
            obtain ⟨x7_3,x8_3,rfl,HA,HK3,HO_7,HB⟩:=hrel
            cases gk with
            |zero=>exact absurd HA.out (by simp [ambryref13_value.l1])
            |succ k3=>
             have H:=HA.out
             clear HA
             simp only [ambryref13_value.l1] at H
             by_cases c19:x8_3 < (wrap64 ((vx.size:Int) - 1))
             ·rw [if_pos c19] at H
              have c19b0:decide (x8_3 < (wrap64 ((vx.size:Int) - 1)))=true:=decide_eq_true c19
              clear c19
              by_cases c20:0≤x8_3
              ·rw [if_pos c20] at H
               have c20b0:decide (0≤x8_3)=true:=decide_eq_true c20
               clear c20
               by_cases c21:x8_3 < (vx.size:Int)
               ·rw [if_pos c21] at H
                have c21b0:decide (x8_3 < (vx.size:Int))=true:=decide_eq_true c21
                clear c21
                by_cases c23:(bt vx x8_3)=92
                ·rw [if_pos c23] at H
                 have c23b0:((bt vx x8_3) == 92)=true:=beq_iff_eq.mpr c23
                 have c23b1:((bt vx x8_3) != 92)=false:=bne_eq_false_iff_eq.mpr c23
                 clear c23
                 by_cases c24:(wrap64 (x8_3+1)) < (wrap64 ((vx.size:Int) - 1))
                 ·rw [if_pos c24] at H
                  have c24b0:decide ((wrap64 (x8_3+1)) < (wrap64 ((vx.size:Int) - 1)))=true:=decide_eq_true c24
                  clear c24
                  obtain ⟨ji25,hji25⟩:∃ j_:Int,(wrap64 (x8_3+1))=j_:=⟨_,rfl⟩
                  replace H:(if 0≤(ji25) then (if (ji25) < (vx.size:Int) then (if x7_3.length < 140737488355328 then (ambryref13_value.l1 k3 a0 x5_1 vx (x7_3++[bt vx (ji25)]) (wrap64 ((ji25)+1))) else (none)) else (none)) else (none))=some (r1,r2,r3):=by first|(rw [hji25] at H;exact H)|(simp only [hji25] at H ⊢;exact H)
                  (try rw [hji25] at c24b0)
                  have hji25w:(IntKind.i64.wrap (x8_3+1))=ji25:=(i64_w _).trans hji25
                  by_cases c26:0≤(ji25)
                  ·rw [if_pos c26] at H
                   have c26b0:decide (0≤(ji25))=true:=decide_eq_true c26
                   clear c26
                   by_cases c27:(ji25) < (vx.size:Int)
                   ·rw [if_pos c27] at H
                    have c27b0:decide ((ji25) < (vx.size:Int))=true:=decide_eq_true c27
                    clear c27
                    by_cases c29:x7_3.length < 140737488355328
                    ·rw [if_pos c29] at H
                     have LMc29:=mkA c29
                     clear c29
                     obtain ⟨y216,hy216⟩:∃ y_:List Int,y_=(x7_3++[bt vx (ji25)]):=⟨_,rfl⟩
                     replace H:(ambryref13_value.l1 k3 a0 x5_1 vx y216 (wrap64 ((ji25)+1)))=some (r1,r2,r3):=by first|(rw [hy216];with_reducible exact H)|(have H2_:=(Option.bind_some _ _).symm.trans H;rw [hy216];with_reducible exact H2_)|(have H2_:=(Option.bind_some _ _).symm.trans H;with_reducible exact H2_)|with_reducible exact H|(rw [hy216];exact H)|exact H
                     have Ny216:=mkA hy216
                     clear hy216
                     have H':=mkA H
                     clear H
                     have p22:0≤(x8_3:Int):=of_decide_eq_true (by first|(with_reducible assumption)|assumption)
                     have q22:x8_3 < (vx.size:Int):=of_decide_eq_true (by first|(with_reducible assumption)|assumption)
                     have hx22:=bt_at vx x8_3
                     replace p22:=eq_true p22
                     replace q22:=eq_true q22
                     have p28:0≤((ji25):Int):=of_decide_eq_true (by first|(with_reducible assumption)|assumption)
                     have q28:(ji25) < (vx.size:Int):=of_decide_eq_true (by first|(with_reducible assumption)|assumption)
                     have hx28:=bt_at vx (ji25)
                     replace p28:=eq_true p28
                     replace q28:=eq_true q28
                     go_wp2_with (first|((with_reducible refine gate_builtin (b:=.append) (xs:=#[.tmp 60,.tmp 64]) rfl ?_);(try (refine gate_guard (by rfl) ?_;dsimp only));at_builtin;refine Kd.R_append (Kd.int .u8) (w0:=w) w.heap.size rfl (.tmp 60) (.tmp 64) 23 5 (.int .u8 0) 1 rfl Tryz.underlying23 info5' rfl (by decide) (by omega) u7 x7_3 (bt vx (ji25)) [.int .u8 (bt vx (ji25))] (fun _=>True) (fun _=>False) rfl rfl ?aP (fun _ hk=>hk.elim) ?aF ?aO ?aB ?aS ?aL ?_;(case aP=>exact rfl);(case aB=>exact (by repeat (first|(with_reducible first|exact HB.out|apply below_alloc|apply pw_below_drewN|apply below_drew1)|exact HB.out)));(case aF=>exact (fun _ _=>trivial));(case aO=>exact (by (with_reducible repeat (first|apply Kd.R_alloc|apply Kd.R_drewN|apply Kd.R_drew));exact HO_7.out));(case aS=>exact (below_size (by repeat (first|(with_reducible first|exact HB.out|apply below_alloc|apply pw_below_drewN|apply below_drew1)|exact HB.out))));(case aL=>have:=LMc29.out;omega);intro v217 w30 ho hb hg hat;rw [← Ny216.out] at ho;have n0_:=mkA (hb);have n1_:=mkA (ho);clear HB;clear HO_7;have HB:=n0_;have HO218:=n1_;clear n0_ n1_;clear ho hb hg hat))
                     go_roundg k3
                     case measure=>have:=HK1.out;have:=HJ8.out;have:=HK3.out;omega
                     case rel=>exact ⟨(y216),(wrap64 ((ji25)+1)),(by first|rfl|(simp;done)|(simp only [← hji25] <;> (first|rfl|simp))|(simp [*];done)),H',⟨by have:=HK1.out;have:=HJ8.out;have:=HK3.out;omega⟩,⟨by (with_reducible repeat (first|apply Kd.R_alloc|apply Kd.R_drewN|apply Kd.R_drew));exact HO218.out⟩,⟨by repeat (first|(with_reducible first|exact HB.out|apply below_alloc|apply pw_below_drewN|apply below_drew1)|exact HB.out)⟩⟩
                    ·rw [if_neg c29] at H
                     exact absurd H (by simp)
                   ·rw [if_neg c27] at H
                    exact absurd H (by simp)
                  ·rw [if_neg c26] at H
                   exact absurd H (by simp)
                 ·rw [if_neg c24] at H
                  have c24b0:decide ((wrap64 (x8_3+1)) < (wrap64 ((vx.size:Int) - 1)))=false:=decide_eq_false c24
                  clear c24
                  by_cases c32:x7_3.length < 140737488355328
                  ·rw [if_pos c32] at H
                   have LMc32:=mkA c32
                   clear c32
                   obtain ⟨y219,hy219⟩:∃ y_:List Int,y_=(x7_3++[bt vx x8_3]):=⟨_,rfl⟩
                   replace H:(ambryref13_value.l1 k3 a0 x5_1 vx y219 (wrap64 (x8_3+1)))=some (r1,r2,r3):=by first|(rw [hy219];with_reducible exact H)|(have H2_:=(Option.bind_some _ _).symm.trans H;rw [hy219];with_reducible exact H2_)|(have H2_:=(Option.bind_some _ _).symm.trans H;with_reducible exact H2_)|with_reducible exact H|(rw [hy219];exact H)|exact H
                   have Ny219:=mkA hy219
                   clear hy219
                   have H':=mkA H
                   clear H
                   have p22:0≤(x8_3:Int):=of_decide_eq_true (by first|(with_reducible assumption)|assumption)
                   have q22:x8_3 < (vx.size:Int):=of_decide_eq_true (by first|(with_reducible assumption)|assumption)
                   have hx22:=bt_at vx x8_3
                   replace p22:=eq_true p22
                   replace q22:=eq_true q22
                   have p31:0≤(x8_3:Int):=of_decide_eq_true (by first|(with_reducible assumption)|assumption)
                   have q31:x8_3 < (vx.size:Int):=of_decide_eq_true (by first|(with_reducible assumption)|assumption)
                   have hx31:=bt_at vx x8_3
                   replace p31:=eq_true p31
                   replace q31:=eq_true q31
                   go_wp2_with (first|((with_reducible refine gate_builtin (b:=.append) (xs:=#[.tmp 60,.tmp 64]) rfl ?_);(try (refine gate_guard (by rfl) ?_;dsimp only));at_builtin;refine Kd.R_append (Kd.int .u8) (w0:=w) w.heap.size rfl (.tmp 60) (.tmp 64) 23 5 (.int .u8 0) 1 rfl Tryz.underlying23 info5' rfl (by decide) (by omega) u7 x7_3 (bt vx x8_3) [.int .u8 (bt vx x8_3)] (fun _=>True) (fun _=>False) rfl rfl ?aP (fun _ hk=>hk.elim) ?aF ?aO ?aB ?aS ?aL ?_;(case aP=>exact rfl);(case aB=>exact (by repeat (first|(with_reducible first|exact HB.out|apply below_alloc|apply pw_below_drewN|apply below_drew1)|exact HB.out)));(case aF=>exact (fun _ _=>trivial));(case aO=>exact (by (with_reducible repeat (first|apply Kd.R_alloc|apply Kd.R_drewN|apply Kd.R_drew));exact HO_7.out));(case aS=>exact (below_size (by repeat (first|(with_reducible first|exact HB.out|apply below_alloc|apply pw_below_drewN|apply below_drew1)|exact HB.out))));(case aL=>have:=LMc32.out;omega);intro v220 w33 ho hb hg hat;rw [← Ny219.out] at ho;have n0_:=mkA (hb);have n1_:=mkA (ho);clear HB;clear HO_7;have HB:=n0_;have HO221:=n1_;clear n0_ n1_;clear ho hb hg hat))
                   go_roundg k3
                   case measure=>have:=HK1.out;have:=HJ8.out;have:=HK3.out;omega
                   case rel=>exact ⟨(y219),(wrap64 (x8_3+1)),(by first|rfl|(simp;done)|(simp [*];done)),H',⟨by have:=HK1.out;have:=HJ8.out;have:=HK3.out;omega⟩,⟨by (with_reducible repeat (first|apply Kd.R_alloc|apply Kd.R_drewN|apply Kd.R_drew));exact HO221.out⟩,⟨by repeat (first|(with_reducible first|exact HB.out|apply below_alloc|apply pw_below_drewN|apply below_drew1)|exact HB.out)⟩⟩
                  ·rw [if_neg c32] at H
                   exact absurd H (by simp)
                ·rw [if_neg c23] at H
                 have c23b0:((bt vx x8_3) == 92)=false:=beq_eq_false_iff_ne.mpr c23
                 have c23b1:((bt vx x8_3) != 92)=true:=bne_iff_ne.mpr c23
                 by_cases c35:x7_3.length < 140737488355328
                 ·rw [if_pos c35] at H
                  have LMc35:=mkA c35
                  clear c35
                  obtain ⟨y222,hy222⟩:∃ y_:List Int,y_=(x7_3++[bt vx x8_3]):=⟨_,rfl⟩
                  replace H:(ambryref13_value.l1 k3 a0 x5_1 vx y222 (wrap64 (x8_3+1)))=some (r1,r2,r3):=by first|(rw [hy222];with_reducible exact H)|(have H2_:=(Option.bind_some _ _).symm.trans H;rw [hy222];with_reducible exact H2_)|(have H2_:=(Option.bind_some _ _).symm.trans H;with_reducible exact H2_)|with_reducible exact H|(rw [hy222];exact H)|exact H
                  have Ny222:=mkA hy222
                  clear hy222
                  have H':=mkA H
                  clear H
                  have p22:0≤(x8_3:Int):=of_decide_eq_true (by first|(with_reducible assumption)|assumption)
                  have q22:x8_3 < (vx.size:Int):=of_decide_eq_true (by first|(with_reducible assumption)|assumption)
                  have hx22:=bt_at vx x8_3
                  replace p22:=eq_true p22
                  replace q22:=eq_true q22
                  have p34:0≤(x8_3:Int):=of_decide_eq_true (by first|(with_reducible assumption)|assumption)
                  have q34:x8_3 < (vx.size:Int):=of_decide_eq_true (by first|(with_reducible assumption)|assumption)
                  have hx34:=bt_at vx x8_3
                  replace p34:=eq_true p34
                  replace q34:=eq_true q34
                  go_wp2_with (first|((with_reducible refine gate_builtin (b:=.append) (xs:=#[.tmp 60,.tmp 64]) rfl ?_);(try (refine gate_guard (by rfl) ?_;dsimp only));at_builtin;refine Kd.R_append (Kd.int .u8) (w0:=w) w.heap.size rfl (.tmp 60) (.tmp 64) 23 5 (.int .u8 0) 1 rfl Tryz.underlying23 info5' rfl (by decide) (by omega) u7 x7_3 (bt vx x8_3) [.int .u8 (bt vx x8_3)] (fun _=>True) (fun _=>False) rfl rfl ?aP (fun _ hk=>hk.elim) ?aF ?aO ?aB ?aS ?aL ?_;(case aP=>exact rfl);(case aB=>exact (by repeat (first|(with_reducible first|exact HB.out|apply below_alloc|apply pw_below_drewN|apply below_drew1)|exact HB.out)));(case aF=>exact (fun _ _=>trivial));(case aO=>exact (by (with_reducible repeat (first|apply Kd.R_alloc|apply Kd.R_drewN|apply Kd.R_drew));exact HO_7.out));(case aS=>exact (below_size (by repeat (first|(with_reducible first|exact HB.out|apply below_alloc|apply pw_below_drewN|apply below_drew1)|exact HB.out))));(case aL=>have:=LMc35.out;omega);intro v223 w36 ho hb hg hat;rw [← Ny222.out] at ho;have n0_:=mkA (hb);have n1_:=mkA (ho);clear HB;clear HO_7;have HB:=n0_;have HO224:=n1_;clear n0_ n1_;clear ho hb hg hat))
                  go_roundg k3
                  case measure=>have:=HK1.out;have:=HJ8.out;have:=HK3.out;omega
                  case rel=>exact ⟨(y222),(wrap64 (x8_3+1)),(by first|rfl|(simp;done)|(simp [*];done)),H',⟨by have:=HK1.out;have:=HJ8.out;have:=HK3.out;omega⟩,⟨by (with_reducible repeat (first|apply Kd.R_alloc|apply Kd.R_drewN|apply Kd.R_drew));exact HO224.out⟩,⟨by repeat (first|(with_reducible first|exact HB.out|apply below_alloc|apply pw_below_drewN|apply below_drew1)|exact HB.out)⟩⟩
                 ·rw [if_neg c35] at H
                  exact absurd H (by simp)
               ·rw [if_neg c21] at H
                exact absurd H (by simp)
              ·rw [if_neg c20] at H
               exact absurd H (by simp)
             ·rw [if_neg c19] at H
              have c19b0:decide (x8_3 < (wrap64 ((vx.size:Int) - 1)))=false:=decide_eq_false c19
              clear c19
              by_cases c37:0≤x5_1
              ·rw [if_pos c37] at H
               have c37b0:=eq_true c37
               have c37b1:decide (0≤x5_1)=true:=decide_eq_true c37
               clear c37
               by_cases c38:x5_1≤(a0.size:Int)
               ·rw [if_pos c38] at H
                have c38b0:=eq_true c38
                have c38b1:decide (x5_1≤(a0.size:Int))=true:=decide_eq_true c38
                clear c38
                replace H:=Option.bind_eq_some_iff.mp H
                obtain ⟨t225,A390,H⟩:=H
                replace H:(some (t225,strOfNums x7_3,true))=some (r1,r2,r3):=H
                have A39:=mkA A390
                clear A390
                simp only [Option.some.injEq,Prod.mk.injEq] at H
                obtain ⟨rfl,rfl,rfl⟩:=H
                have hcv40:=own_string (P:=Tryz.prog) Tryz.underlying23 Tryz.underlying5 Tryz.underlying9 (Kd.own_of_R HO_7.out)
                go_wp2_with (first|((with_reducible refine gate_callee (f:=38) rfl ?_);refine goesL_ (some 71) rfl rfl Tryz.func38 (by kernel_rfl) rfl #[.string (a0.extract 0 (x5_1:Int).toNat)] rfl (by (try simp only [List.map_toArray,List.map_cons,List.map_nil]);first|done|rfl|(simp only [List.length_drop,List.length_take];rfl)) ?_;(with_reducible refine (ambryref10_Low.calls (a0.extract 0 (x5_1:Int).toNat) t225 _ A39.out).mono ?_);rintro e w41 ⟨rfl,hb⟩;refine ⟨_,rfl,?_⟩;have n0_:=mkA (Kd.R_below (by (with_reducible repeat (first|apply Kd.R_alloc|apply Kd.R_drewN|apply Kd.R_drew));exact HO_7.out) hb);have n1_:=mkA (below_step (by repeat (first|(with_reducible first|exact HB.out|apply below_alloc|apply pw_below_drewN|apply below_drew1)|exact HB.out)) hb);clear HO_7;clear HB;have HO_7:=n0_;have HB:=n1_;clear n0_ n1_;(try clear hb);(try clear hb2);(try clear hk);(try clear hi)))
                go_ret3
                exact ⟨by first|rfl|(simp [errW_none,errW_some] <;> rfl)|(simp only [← hji6];first|rfl|(simp [errW_none,errW_some] <;> rfl))|(simp [*,errW_none,errW_some] <;> rfl),by repeat (first|(with_reducible first|exact HB.out|apply below_alloc|apply pw_below_drewN|apply below_drew1)|exact HB.out)⟩
               ·rw [if_neg c38] at H
                exact absurd H (by simp)
              ·rw [if_neg c37] at H
               exact absurd H (by simp)
          ·replace c18:=Bool.eq_false_iff.mpr c18
           subst c18
           have H1:(if 0≤x5_1 then (if x5_1≤(a0.size:Int) then ((ambryref10_Low.f (a0.extract 0 (x5_1:Int).toNat)).bind fun t226=>(some (t226,vx,true))) else (none)) else (none))=some (r1,r2,r3):=by rw [if_neg (show ¬ (false=true) by decide)] at H;exact H
           clear H
           have H:=H1
           clear H1
           by_cases c42:0≤x5_1
           ·rw [if_pos c42] at H
            have c42b0:=eq_true c42
            have c42b1:decide (0≤x5_1)=true:=decide_eq_true c42
            clear c42
            by_cases c43:x5_1≤(a0.size:Int)
            ·rw [if_pos c43] at H
             have c43b0:=eq_true c43
             have c43b1:decide (x5_1≤(a0.size:Int))=true:=decide_eq_true c43
             clear c43
             replace H:=Option.bind_eq_some_iff.mp H
             obtain ⟨t226,A440,H⟩:=H
             replace H:(some (t226,vx,true))=some (r1,r2,r3):=H
             have A44:=mkA A440
             clear A440
             simp only [Option.some.injEq,Prod.mk.injEq] at H
             obtain ⟨rfl,rfl,rfl⟩:=H
             go_wp2_with (first|((with_reducible refine gate_callee (f:=38) rfl ?_);refine goesL_ (some 71) rfl rfl Tryz.func38 (by kernel_rfl) rfl #[.string (a0.extract 0 (x5_1:Int).toNat)] rfl (by (try simp only [List.map_toArray,List.map_cons,List.map_nil]);first|done|rfl|(simp only [List.length_drop,List.length_take];rfl)) ?_;(with_reducible refine (ambryref10_Low.calls (a0.extract 0 (x5_1:Int).toNat) t226 _ A44.out).mono ?_);rintro e w45 ⟨rfl,hb⟩;refine ⟨_,rfl,?_⟩;have n0_:=mkA (below_step (by repeat (first|(with_reducible first|exact HB.out|apply below_alloc|apply pw_below_drewN|apply below_drew1)|exact HB.out)) hb);clear HB;have HB:=n0_;clear n0_;(try clear hb);(try clear hb2);(try clear hk);(try clear hi)))
             go_ret3
             exact ⟨by first|rfl|(simp [errW_none,errW_some] <;> rfl)|(simp only [← hji6];first|rfl|(simp [errW_none,errW_some] <;> rfl))|(simp [*,errW_none,errW_some] <;> rfl),by repeat (first|(with_reducible first|exact HB.out|apply below_alloc|apply pw_below_drewN|apply below_drew1)|exact HB.out)⟩
            ·rw [if_neg c43] at H
             exact absurd H (by simp)
           ·rw [if_neg c42] at H
            exact absurd H (by simp)
       ·rw [if_neg c8] at H
        exact absurd H (by simp)
      ·rw [if_neg c7] at H
       exact absurd H (by simp)
     ·rw [if_neg c5] at H
      have c5b0:((bt a0 x5_1) == 61)=false:=beq_eq_false_iff_ne.mpr c5
      have c5b1:((bt a0 x5_1) != 61)=true:=bne_iff_ne.mpr c5
      have H':=mkA H
      clear H
      have p4:0≤(x5_1:Int):=of_decide_eq_true (by first|(with_reducible assumption)|assumption)
      have q4:x5_1 < (a0.size:Int):=of_decide_eq_true (by first|(with_reducible assumption)|assumption)
      have hx4:=bt_at a0 x5_1
      replace p4:=eq_true p4
      replace q4:=eq_true q4
      go_wp2
      go_roundg k1
      case measure=>have:=HK1.out;omega
      case rel=>exact ⟨(wrap64 (x5_1+1)),(by first|rfl|(simp;done)|(simp [*];done)),H',⟨by have:=HK1.out;omega⟩,⟨by repeat (first|(with_reducible first|exact HB.out|apply below_alloc|apply pw_below_drewN|apply below_drew1)|exact HB.out)⟩⟩
    ·rw [if_neg c3] at H
     exact absurd H (by simp)
   ·rw [if_neg c2] at H
    have c2b0:decide (x5_1 < (a0.size:Int))=false:=decide_eq_false c2
    clear c2
    replace H:=Option.bind_eq_some_iff.mp H
    obtain ⟨t215,A460,H⟩:=H
    replace H:(some (t215,(⟨#[]⟩:ByteArray),false))=some (r1,r2,r3):=H
    have A46:=mkA A460
    clear A460
    simp only [Option.some.injEq,Prod.mk.injEq] at H
    obtain ⟨rfl,rfl,rfl⟩:=H
    go_wp2_with (first|((with_reducible refine gate_callee (f:=38) rfl ?_);refine goesL_ (some 74) rfl rfl Tryz.func38 (by kernel_rfl) rfl #[.string a0] rfl (by (try simp only [List.map_toArray,List.map_cons,List.map_nil]);first|done|rfl|(simp only [List.length_drop,List.length_take];rfl)) ?_;(with_reducible refine (ambryref10_Low.calls a0 t215 _ A46.out).mono ?_);rintro e w47 ⟨rfl,hb⟩;refine ⟨_,rfl,?_⟩;have n0_:=mkA (below_step (by repeat (first|(with_reducible first|exact HB.out|apply below_alloc|apply pw_below_drewN|apply below_drew1)|exact HB.out)) hb);clear HB;have HB:=n0_;clear n0_;(try clear hb);(try clear hb2);(try clear hk);(try clear hi)))
    go_ret3
    exact ⟨by first|rfl|(simp [errW_none,errW_some] <;> rfl)|(simp [*,errW_none,errW_some] <;> rfl),by repeat (first|(with_reducible first|exact HB.out|apply below_alloc|apply pw_below_drewN|apply below_drew1)|exact HB.out)⟩
end Go.Proofs.YtlnmnjbihgaliaaGreat.Pr
