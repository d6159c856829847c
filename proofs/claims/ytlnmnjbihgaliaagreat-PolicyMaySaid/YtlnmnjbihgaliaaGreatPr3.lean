import Derived.Test.YtlnmnjbihgaliaaGreatPr0
set_option linter.unusedVariables false
set_option linter.unusedSimpArgs false
namespace Go.Proofs.YtlnmnjbihgaliaaGreat.Pr
open Go.RowKit Go.Proofs.YtlnmnjbihgaliaaGreatW.PrintWords Go.Proofs.YtlnmnjbihgaliaaGreatW.PrintLast Go.Proofs.YtlnmnjbihgaliaaGreatW.PrintMore
attribute [local go_sem] max2_int min2_int max_two min_two max_three min_three max_four min_four
mutual
def head_cut.l0:Nat→ByteArray→List ByteArray→Int→Bool→Int→Option (List ByteArray)
 |0,_,_,_,_,_=>none
 |k+1,x0,x3,x4,x5,x6=>if x6 < (x0.size:Int) then (if 0≤x6 then (if x5=true then (head_cut.j1 k x0 x3 x4 x5 x6 (bt x0 x6) ((bt x0 x6) == 92)) else (head_cut.j1 k x0 x3 x4 x5 x6 (bt x0 x6) false)) else (none)) else (if 0≤x4 then (if x4≤(x0.size:Int) then (if x3.length < 8796093022208 then (some (x3++[x0.extract (x4:Int).toNat x0.size])) else (none)) else (none)) else (none))
def head_cut.j1:Nat→ByteArray→List ByteArray→Int→Bool→Int→Int→Bool→Option (List ByteArray)
 |0,_,_,_,_,_,_,_=>none
 |k+1,x0,x3,x4,x5,x6,x7,x17=>if x17=true then (head_cut.l0 k x0 x3 x4 x5 (wrap64 ((wrap64 (x6+1))+1))) else (if x7=34 then (head_cut.l0 k x0 x3 x4 (!x5) (wrap64 (x6+1))) else (if x7=44 then (if x5=true then (head_cut.l0 k x0 x3 x4 x5 (wrap64 (x6+1))) else (if 0≤x4 then (if x4≤x6 then (if x6≤(x0.size:Int) then (if x3.length < 8796093022208 then (head_cut.l0 k x0 (x3++[x0.extract (x4:Int).toNat (x6:Int).toNat]) (wrap64 (x6+1)) x5 (wrap64 (x6+1))) else (none)) else (none)) else (none)) else (none))) else (head_cut.l0 k x0 x3 x4 x5 (wrap64 (x6+1)))))
end
def head_cut.f(k:Nat)(a0:ByteArray):Option (List ByteArray):=head_cut.l0 k a0 ([]:List ByteArray) 0 false 0
set_option maxHeartbeats 8000000 in
set_option maxRecDepth 100000 in
theorem head_cut.calls(k:Nat)(a0:ByteArray)(r:List ByteArray)(w:World)(h:head_cut.f k a0=some r):
  Calls Tryz.prog 66 #[.string a0] w fun e w'=>∃ v0_:Value,e=.returned (v0_)∧Kd.R Kd.string 9 w' w.heap.size (fun _=>True) v0_ r∧Below w.heap.size w w':=by
 have HB:=mkA (Below.refl w.heap.size w)
 have H:(head_cut.l0 k a0 ([]:List ByteArray) 0 false 0)=some r:=h
 clear h
 have H':=mkA H
 clear H
 go_enter Tryz.func66,Tryz.ntmps66
 go_wp2
 go_loopg [3,4,5,6] k (fun kq v3 v4 v5 v6 w'=>∃ (x3_1:List ByteArray) (x4_1:Int) (x5_1:Bool) (x6_1:Int),v4=.int .i64 x4_1∧v5=.bool x5_1∧v6=.int .i64 x6_1∧Aside0 (head_cut.l0 kq a0 x3_1 x4_1 x5_1 x6_1=some r)∧Aside0 (kq≤k)∧Aside0 (Kd.R Kd.string 9 w' w.heap.size (fun _=>True) v3 x3_1)∧Aside0 (Below w.heap.size w w'))
 case atStart=>exact ⟨(([]:List ByteArray)),(0),(false),(0),(by first|rfl|(simp;done)|(simp [*];done)),(by first|rfl|(simp;done)|(simp [*];done)),(by first|rfl|(simp;done)|(simp [*];done)),H',⟨Nat.le_refl _⟩,⟨by first|exact Kd.R_nil _ _ _ _ _|exact Kd.N_nil _ _ _ _ _|exact Kd.V_nil _ _ _ _ _|exact Kd.Q_nil _ _ _ _ _|exact Kd.S_nil _ _ _ _ _⟩,⟨by repeat (first|(with_reducible first|exact HB.out|apply below_alloc|apply pw_below_drewN|apply below_drew1)|exact HB.out)⟩⟩
 case round=>
  clear H'
  obtain ⟨x3_1,x4_1,x5_1,x6_1,rfl,rfl,rfl,HA,HK1,HO_3,HB⟩:=hrel
  cases gk with
  |zero=>exact absurd HA.out (by simp [head_cut.l0])
  |succ k1=>
   have H:=HA.out
   clear HA
   simp only [head_cut.l0] at H
   by_cases c2:x6_1 < (a0.size:Int)
   ·rw [if_pos c2] at H
    have c2b0:decide (x6_1 < (a0.size:Int))=true:=decide_eq_true c2
    clear c2
    by_cases c3:0≤x6_1
    ·rw [if_pos c3] at H
     have c3b0:decide (0≤x6_1)=true:=decide_eq_true c3
     clear c3
     have HC5:=mkA H
     clear H
     have p4:0≤(x6_1:Int):=of_decide_eq_true (by first|(with_reducible assumption)|assumption)
     have q4:x6_1 < (a0.size:Int):=of_decide_eq_true (by first|(with_reducible assumption)|assumption)
     have hx4:=bt_at a0 x6_1
     replace p4:=eq_true p4
     replace q4:=eq_true q4
     go_upto_region 7 with (fail)
     go_cut [17] (fun v17 wc=>∃ (kq:Nat) (x17_4:Bool),v17=.bool x17_4∧Aside0 (head_cut.j1 kq a0 x3_1 x4_1 x5_1 x6_1 (bt a0 x6_1) x17_4=some r)∧Aside0 (kq≤k1)∧Aside0 (Kd.R Kd.string 9 wc w.heap.size (fun _=>True) u3 x3_1)∧Aside0 (Below w.heap.size w wc))
     case first=>
      have H:=HC5.out
      clear HC5
      by_cases c6:x5_1=true
      ·subst c6
       have H1:(head_cut.j1 k1 a0 x3_1 x4_1 true x6_1 (bt a0 x6_1) ((bt a0 x6_1) == 92))=some r:=by rw [if_pos rfl] at H;exact H
       clear H
       have H:=H1
       clear H1
       have H':=mkA H
       clear H
       go_wp2
       go_meet
       case rel=>exact ⟨_,(((bt a0 x6_1) == 92)),(by first|rfl|(simp;done)|(simp [*];done)),H',⟨by have:=HK1.out;first|omega|exact Nat.le_refl _⟩,⟨by (with_reducible repeat (first|apply Kd.R_alloc|apply Kd.R_drewN|apply Kd.R_drew));exact HO_3.out⟩,⟨by repeat (first|(with_reducible first|exact HB.out|apply below_alloc|apply pw_below_drewN|apply below_drew1)|exact HB.out)⟩⟩
      ·replace c6:=Bool.eq_false_iff.mpr c6
       subst c6
       have H1:(head_cut.j1 k1 a0 x3_1 x4_1 false x6_1 (bt a0 x6_1) false)=some r:=by rw [if_neg (show ¬ (false=true) by decide)] at H;exact H
       clear H
       have H:=H1
       clear H1
       have H':=mkA H
       clear H
       go_wp2
       go_meet
       case rel=>exact ⟨_,(false),(by first|rfl|(simp;done)|(simp [*];done)),H',⟨by have:=HK1.out;first|omega|exact Nat.le_refl _⟩,⟨by (with_reducible repeat (first|apply Kd.R_alloc|apply Kd.R_drewN|apply Kd.R_drew));exact HO_3.out⟩,⟨by repeat (first|(with_reducible first|exact HB.out|apply below_alloc|apply pw_below_drewN|apply below_drew1)|exact HB.out)⟩⟩
     case rest=>
      clear HC5
      try clear c2
      try clear c2b0
      try clear p2
      try clear c3
      try clear c3b0
      try clear p4
      try clear q4
      try clear hx4
      try clear c6
      try clear p4
      try clear q4
      obtain ⟨kq,x17_4,rfl,HA,HJ4,HO_3,HB⟩:=hcut
      cases kq with
      |zero=>exact absurd HA.out (by simp [head_cut.j1])
      |succ kj4=>
       have H:=HA.out
       clear HA
       simp only [head_cut.j1] at H
       by_cases c7:x17_4=true
       ·subst c7
        have H1:(head_cut.l0 kj4 a0 x3_1 x4_1 x5_1 (wrap64 ((wrap64 (x6_1+1))+1)))=some r:=by rw [if_pos rfl] at H;exact H
        clear H
        have H:=H1
        clear H1
        have H':=mkA H
        clear H
        go_wp2
        go_roundg kj4
        case measure=>have:=HK1.out;have:=HJ4.out;omega
        case rel=>exact ⟨(x3_1),(x4_1),(x5_1),(wrap64 ((wrap64 (x6_1+1))+1)),(by first|rfl|(simp;done)|(simp [*];done)),(by first|rfl|(simp;done)|(simp [*];done)),(by first|rfl|(simp;done)|(simp [*];done)),H',⟨by have:=HK1.out;have:=HJ4.out;omega⟩,⟨by (with_reducible repeat (first|apply Kd.R_alloc|apply Kd.R_drewN|apply Kd.R_drew));exact HO_3.out⟩,⟨by repeat (first|(with_reducible first|exact HB.out|apply below_alloc|apply pw_below_drewN|apply below_drew1)|exact HB.out)⟩⟩
       ·replace c7:=Bool.eq_false_iff.mpr c7
        subst c7
        have H1:(if (bt a0 x6_1)=34 then (head_cut.l0 kj4 a0 x3_1 x4_1 (!x5_1) (wrap64 (x6_1+1))) else (if (bt a0 x6_1)=44 then (if x5_1=true then (head_cut.l0 kj4 a0 x3_1 x4_1 x5_1 (wrap64 (x6_1+1))) else (if 0≤x4_1 then (if x4_1≤x6_1 then (if x6_1≤(a0.size:Int) then (if x3_1.length < 8796093022208 then (head_cut.l0 kj4 a0 (x3_1++[a0.extract (x4_1:Int).toNat (x6_1:Int).toNat]) (wrap64 (x6_1+1)) x5_1 (wrap64 (x6_1+1))) else (none)) else (none)) else (none)) else (none))) else (head_cut.l0 kj4 a0 x3_1 x4_1 x5_1 (wrap64 (x6_1+1)))))=some r:=by rw [if_neg (show ¬ (false=true) by decide)] at H;exact H
        clear H
        have H:=H1
        clear H1
        by_cases c8:(bt a0 x6_1)=34
        ·rw [if_pos c8] at H
         have c8b0:((bt a0 x6_1) == 34)=true:=beq_iff_eq.mpr c8
         have c8b1:((bt a0 x6_1) != 34)=false:=bne_eq_false_iff_eq.mpr c8
         clear c8
         have H':=mkA H
         clear H
         go_wp2
         go_roundg kj4
         case measure=>have:=HK1.out;have:=HJ4.out;omega
         case rel=>exact ⟨(x3_1),(x4_1),(!x5_1),(wrap64 (x6_1+1)),(by first|rfl|(simp;done)|(simp [*];done)),(by first|rfl|(simp;done)|(simp [*];done)),(by first|rfl|(simp;done)|(simp [*];done)),H',⟨by have:=HK1.out;have:=HJ4.out;omega⟩,⟨by (with_reducible repeat (first|apply Kd.R_alloc|apply Kd.R_drewN|apply Kd.R_drew));exact HO_3.out⟩,⟨by repeat (first|(with_reducible first|exact HB.out|apply below_alloc|apply pw_below_drewN|apply below_drew1)|exact HB.out)⟩⟩
        ·rw [if_neg c8] at H
         have c8b0:((bt a0 x6_1) == 34)=false:=beq_eq_false_iff_ne.mpr c8
         have c8b1:((bt a0 x6_1) != 34)=true:=bne_iff_ne.mpr c8
         by_cases c9:(bt a0 x6_1)=44
         ·rw [if_pos c9] at H
          have c9b0:((bt a0 x6_1) == 44)=true:=beq_iff_eq.mpr c9
          have c9b1:((bt a0 x6_1) != 44)=false:=bne_eq_false_iff_eq.mpr c9
          clear c9
          by_cases c10:x5_1=true
          ·subst c10
           have H1:(head_cut.l0 kj4 a0 x3_1 x4_1 true (wrap64 (x6_1+1)))=some r:=by rw [if_pos rfl] at H;exact H
           clear H
           have H:=H1
           clear H1
           have H':=mkA H
           clear H
           go_wp2
           go_roundg kj4
           case measure=>have:=HK1.out;have:=HJ4.out;omega
           case rel=>exact ⟨(x3_1),(x4_1),(true),(wrap64 (x6_1+1)),(by first|rfl|(simp;done)|(simp [*];done)),(by first|rfl|(simp;done)|(simp [*];done)),(by first|rfl|(simp;done)|(simp [*];done)),H',⟨by have:=HK1.out;have:=HJ4.out;omega⟩,⟨by (with_reducible repeat (first|apply Kd.R_alloc|apply Kd.R_drewN|apply Kd.R_drew));exact HO_3.out⟩,⟨by repeat (first|(with_reducible first|exact HB.out|apply below_alloc|apply pw_below_drewN|apply below_drew1)|exact HB.out)⟩⟩
          ·replace c10:=Bool.eq_false_iff.mpr c10
           subst c10
           have H1:(if 0≤x4_1 then (if x4_1≤x6_1 then (if x6_1≤(a0.size:Int) then (if x3_1.length < 8796093022208 then (head_cut.l0 kj4 a0 (x3_1++[a0.extract (x4_1:Int).toNat (x6_1:Int).toNat]) (wrap64 (x6_1+1)) false (wrap64 (x6_1+1))) else (none)) else (none)) else (none)) else (none))=some r:=by rw [if_neg (show ¬ (false=true) by decide)] at H;exact H
           clear H
           have H:=H1
           clear H1
           by_cases c11:0≤x4_1
           ·rw [if_pos c11] at H
            have c11b0:=eq_true c11
            have c11b1:decide (0≤x4_1)=true:=decide_eq_true c11
            clear c11
            by_cases c12:x4_1≤x6_1
            ·rw [if_pos c12] at H
             have c12b0:=eq_true c12
             have c12b1:decide (x4_1≤x6_1)=true:=decide_eq_true c12
             clear c12
             by_cases c13:x6_1≤(a0.size:Int)
             ·rw [if_pos c13] at H
              have c13b0:=eq_true c13
              have c13b1:decide (x6_1≤(a0.size:Int))=true:=decide_eq_true c13
              clear c13
              by_cases c14:x3_1.length < 8796093022208
              ·rw [if_pos c14] at H
               have LMc14:=mkA c14
               clear c14
               obtain ⟨y113,hy113⟩:∃ y_:List ByteArray,y_=(x3_1++[a0.extract (x4_1:Int).toNat (x6_1:Int).toNat]):=⟨_,rfl⟩
               replace H:(head_cut.l0 kj4 a0 y113 (wrap64 (x6_1+1)) false (wrap64 (x6_1+1)))=some r:=by first|(rw [hy113];with_reducible exact H)|(have H2_:=(Option.bind_some _ _).symm.trans H;rw [hy113];with_reducible exact H2_)|(have H2_:=(Option.bind_some _ _).symm.trans H;with_reducible exact H2_)|with_reducible exact H|(rw [hy113];exact H)|exact H
               have Ny113:=mkA hy113
               clear hy113
               have H':=mkA H
               clear H
               go_wp2_with (first|((with_reducible refine gate_builtin (b:=.append) (xs:=#[.tmp 37,.tmp 42]) rfl ?_);at_builtin;refine Kd.R_append Kd.string (w0:=w) w.heap.size rfl (.tmp 37) (.tmp 42) 46 9 (.string ⟨#[]⟩) 16 rfl Tryz.underlying46 info9 rfl (by decide) (by omega) u3 x3_1 (a0.extract (x4_1:Int).toNat (x6_1:Int).toNat) [.string (a0.extract (x4_1:Int).toNat (x6_1:Int).toNat)] (fun _=>True) (fun _=>False) rfl rfl ?aP (fun _ hk=>hk.elim) ?aF ?aO ?aB ?aS ?aL ?_;(case aP=>exact rfl);(case aB=>exact (by repeat (first|(with_reducible first|exact HB.out|apply below_alloc|apply pw_below_drewN|apply below_drew1)|exact HB.out)));(case aF=>exact (fun _ _=>trivial));(case aO=>exact (by (with_reducible repeat (first|apply Kd.R_alloc|apply Kd.R_drewN|apply Kd.R_drew));exact HO_3.out));(case aS=>exact (below_size (by repeat (first|(with_reducible first|exact HB.out|apply below_alloc|apply pw_below_drewN|apply below_drew1)|exact HB.out))));(case aL=>have:=LMc14.out;omega);intro v114 w15 ho hb hg hat;rw [← Ny113.out] at ho;have n0_:=mkA (hb);have n1_:=mkA (ho);clear HB;clear HO_3;have HB:=n0_;have HO115:=n1_;clear n0_ n1_;clear ho hb hg hat))
               go_roundg kj4
               case measure=>have:=HK1.out;have:=HJ4.out;omega
               case rel=>exact ⟨(y113),(wrap64 (x6_1+1)),(false),(wrap64 (x6_1+1)),(by first|rfl|(simp;done)|(simp [*];done)),(by first|rfl|(simp;done)|(simp [*];done)),(by first|rfl|(simp;done)|(simp [*];done)),H',⟨by have:=HK1.out;have:=HJ4.out;omega⟩,⟨by (with_reducible repeat (first|apply Kd.R_alloc|apply Kd.R_drewN|apply Kd.R_drew));exact HO115.out⟩,⟨by repeat (first|(with_reducible first|exact HB.out|apply below_alloc|apply pw_below_drewN|apply below_drew1)|exact HB.out)⟩⟩
              ·rw [if_neg c14] at H
               exact absurd H (by simp)
             ·rw [if_neg c13] at H
              exact absurd H (by simp)
            ·rw [if_neg c12] at H
             exact absurd H (by simp)
           ·rw [if_neg c11] at H
            exact absurd H (by simp)
         ·rw [if_neg c9] at H
          have c9b0:((bt a0 x6_1) == 44)=false:=beq_eq_false_iff_ne.mpr c9
          have c9b1:((bt a0 x6_1) != 44)=true:=bne_iff_ne.mpr c9
          have H':=mkA H
          clear H
          go_wp2
          go_roundg kj4
          case measure=>have:=HK1.out;have:=HJ4.out;omega
          case rel=>exact ⟨(x3_1),(x4_1),(x5_1),(wrap64 (x6_1+1)),(by first|rfl|(simp;done)|(simp [*];done)),(by first|rfl|(simp;done)|(simp [*];done)),(by first|rfl|(simp;done)|(simp [*];done)),H',⟨by have:=HK1.out;have:=HJ4.out;omega⟩,⟨by (with_reducible repeat (first|apply Kd.R_alloc|apply Kd.R_drewN|apply Kd.R_drew));exact HO_3.out⟩,⟨by repeat (first|(with_reducible first|exact HB.out|apply below_alloc|apply pw_below_drewN|apply below_drew1)|exact HB.out)⟩⟩
    ·rw [if_neg c3] at H
     exact absurd H (by simp)
   ·rw [if_neg c2] at H
    have c2b0:decide (x6_1 < (a0.size:Int))=false:=decide_eq_false c2
    clear c2
    by_cases c16:0≤x4_1
    ·rw [if_pos c16] at H
     have c16b0:=eq_true c16
     have c16b1:decide (0≤x4_1)=true:=decide_eq_true c16
     clear c16
     by_cases c17:x4_1≤(a0.size:Int)
     ·rw [if_pos c17] at H
      have c17b0:=eq_true c17
      have c17b1:decide (x4_1≤(a0.size:Int))=true:=decide_eq_true c17
      clear c17
      by_cases c18:x3_1.length < 8796093022208
      ·rw [if_pos c18] at H
       have LMc18:=mkA c18
       clear c18
       obtain ⟨y110,hy110⟩:∃ y_:List ByteArray,y_=(x3_1++[a0.extract (x4_1:Int).toNat a0.size]):=⟨_,rfl⟩
       replace H:(some y110)=some r:=by first|(rw [hy110];with_reducible exact H)|(have H2_:=(Option.bind_some _ _).symm.trans H;rw [hy110];with_reducible exact H2_)|(have H2_:=(Option.bind_some _ _).symm.trans H;with_reducible exact H2_)|with_reducible exact H|(rw [hy110];exact H)|exact H
       have Ny110:=mkA hy110
       clear hy110
       obtain rfl:=Option.some.inj H
       go_wp2_with (first|((with_reducible refine gate_builtin (b:=.append) (xs:=#[.tmp 46,.tmp 50]) rfl ?_);at_builtin;refine Kd.R_append Kd.string (w0:=w) w.heap.size rfl (.tmp 46) (.tmp 50) 46 9 (.string ⟨#[]⟩) 16 rfl Tryz.underlying46 info9 rfl (by decide) (by omega) u3 x3_1 (a0.extract (x4_1:Int).toNat a0.size) [.string (a0.extract (x4_1:Int).toNat a0.size)] (fun _=>True) (fun _=>False) rfl rfl ?aP (fun _ hk=>hk.elim) ?aF ?aO ?aB ?aS ?aL ?_;(case aP=>exact rfl);(case aB=>exact (by repeat (first|(with_reducible first|exact HB.out|apply below_alloc|apply pw_below_drewN|apply below_drew1)|exact HB.out)));(case aF=>exact (fun _ _=>trivial));(case aO=>exact (by (with_reducible repeat (first|apply Kd.R_alloc|apply Kd.R_drewN|apply Kd.R_drew));exact HO_3.out));(case aS=>exact (below_size (by repeat (first|(with_reducible first|exact HB.out|apply below_alloc|apply pw_below_drewN|apply below_drew1)|exact HB.out))));(case aL=>have:=LMc18.out;omega);intro v111 w19 ho hb hg hat;rw [← Ny110.out] at ho;have n0_:=mkA (hb);have n1_:=mkA (ho);clear HB;clear HO_3;have HB:=n0_;have HO112:=n1_;clear n0_ n1_;clear ho hb hg hat))
       go_ret
       exact ⟨_,by first|rfl|(simp [errW_none,errW_some] <;> rfl)|(simp [*,errW_none,errW_some] <;> rfl),by (with_reducible repeat (first|apply Kd.R_alloc|apply Kd.R_drewN|apply Kd.R_drew));exact HO112.out,by repeat (first|(with_reducible first|exact HB.out|apply below_alloc|apply pw_below_drewN|apply below_drew1)|exact HB.out)⟩
      ·rw [if_neg c18] at H
       exact absurd H (by simp)
     ·rw [if_neg c17] at H
      exact absurd H (by simp)
    ·rw [if_neg c16] at H
     exact absurd H (by simp)
def head_blank.f(a0:Int):Option (Bool):=if a0=32 then (some true) else (some (a0 == 9))
set_option maxHeartbeats 8000000 in
set_option maxRecDepth 100000 in
theorem head_blank.calls(a0:Int)(r:Bool)(w:World)(h:head_blank.f a0=some r):
  Calls Tryz.prog 84 #[.int .u8 a0] w fun e w'=>e=.returned (.bool r)∧Drawn0 w w':=by
 have H:(if a0=32 then (some true) else (some (a0 == 9)))=some r:=h
 clear h
 by_cases c2:a0=32
 ·rw [if_pos c2] at H
  have c2b0:(a0 == 32)=true:=beq_iff_eq.mpr c2
  have c2b1:(a0 != 32)=false:=bne_eq_false_iff_eq.mpr c2
  clear c2
  obtain rfl:=Option.some.inj H
  go_enter Tryz.func84,Tryz.ntmps84
  go_wp2
  go_ret
  exact ⟨by first|rfl|(simp;done)|(simp [*];done),by repeat (first|exact Drawn0.refl _|apply Drawn0.step)⟩
 ·rw [if_neg c2] at H
  have c2b0:(a0 == 32)=false:=beq_eq_false_iff_ne.mpr c2
  have c2b1:(a0 != 32)=true:=bne_iff_ne.mpr c2
  obtain rfl:=Option.some.inj H
  go_enter Tryz.func84,Tryz.ntmps84
  go_wp2
  go_ret
  exact ⟨by first|rfl|(simp;done)|(simp [*];done),by repeat (first|exact Drawn0.refl _|apply Drawn0.step)⟩
end Go.Proofs.YtlnmnjbihgaliaaGreat.Pr
