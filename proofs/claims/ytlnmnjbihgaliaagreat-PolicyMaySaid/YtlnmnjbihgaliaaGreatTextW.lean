import Derived.Test.YtlnmnjbihgaliaaGreatPr0
import Derived.Test.YtlnmnjbihgaliaaGreatPr10
import Derived.Test.YtlnmnjbihgaliaaGreatPr11
set_option linter.unusedVariables false
set_option linter.unusedSimpArgs false
namespace Go.Proofs.YtlnmnjbihgaliaaGreat.Pr
open Go.RowKit Go.Proofs.YtlnmnjbihgaliaaGreatW.PrintWords Go.Proofs.YtlnmnjbihgaliaaGreatW.PrintLast Go.Proofs.YtlnmnjbihgaliaaGreatW.PrintMore
attribute [local go_sem] max2_int min2_int max_two min_two max_three min_three max_four min_four
theorem anyLast_more{P:Program}{md:Region.Mode}{ops:Array Oper}{Q:Exit→Act→World→Prop}{S S':World→Prop}(hs:∀ w,S' w→S w):∀ (fuel:Nat) (listed:Array Bool) (a:Act) (w:World),S' w→wpAnyLast P md ops Q S' [] fuel listed a w→wpAnyLast P md ops Q S [] fuel listed a w
 |0,_,_,_,_,h=>h
 |fuel+1,_,_,w,h0,h=>⟨h.1,fun i hi=>wpOp_mono (fun a' w' h'=>⟨fun _ _=>hs w' (h'.1 (by simp) h0),anyLast_more hs fuel _ a' w' (h'.1 (by simp) h0) h'.2⟩) (h.2 i hi)⟩
mutual
def ambryref9_Text.l0:Nat→Int→Int→Int→Option (ByteArray)
 |0,_,_,_=>none
 |k+1,x3,x4,x5=>(ambryref9_ahead.f (wrap64 (x5+1))).bind fun t187=>(if t187≤x3 then (ambryref9_Text.l0 k x3 x4 (wrap64 (x5+1))) else ((ambryref9_ahead.f x5).bind fun t188=>(ambryref9_Text.l1 k x3 x4 x5 (wrap64 (x3 - t188)) 1)))
def ambryref9_Text.l1:Nat→Int→Int→Int→Int→Int→Option (ByteArray)
 |0,_,_,_,_,_=>none
 |k+1,x3,x4,x5,x6,x7=>(ambryref9_length.f x5 x7).bind fun t189=>(if x6 ≥ t189 then ((ambryref9_length.f x5 x7).bind fun t190=>(ambryref9_Text.l1 k x3 x4 x5 (wrap64 (x6 - t190)) (wrap64 (x7+1)))) else ((ambryref9_days.f).bind fun t191=>(if 0≤(Int.tmod (wrap64 (x3+4)) 7) then (if (Int.tmod (wrap64 (x3+4)) 7) < (t191.length:Int) then (if (rdOf ByteArray.empty t191 (Int.tmod (wrap64 (x3+4)) 7)).size+2≤9223372036854775807 then ((ambryref9_two.f (wrap64 (x6+1))).bind fun t195=>(if ((rdOf ByteArray.empty t191 (Int.tmod (wrap64 (x3+4)) 7))++(⟨#[44,32]⟩:ByteArray)).size+t195.size≤9223372036854775807 then (if (((rdOf ByteArray.empty t191 (Int.tmod (wrap64 (x3+4)) 7))++(⟨#[44,32]⟩:ByteArray))++t195).size+1≤9223372036854775807 then ((ambryref9_months.f).bind fun t196=>(if 0≤(wrap64 (x7 - 1)) then (if (wrap64 (x7 - 1)) < (t196.length:Int) then (if ((((rdOf ByteArray.empty t191 (Int.tmod (wrap64 (x3+4)) 7))++(⟨#[44,32]⟩:ByteArray))++t195)++(⟨#[32]⟩:ByteArray)).size+(rdOf ByteArray.empty t196 (wrap64 (x7 - 1))).size≤9223372036854775807 then (if (((((rdOf ByteArray.empty t191 (Int.tmod (wrap64 (x3+4)) 7))++(⟨#[44,32]⟩:ByteArray))++t195)++(⟨#[32]⟩:ByteArray))++(rdOf ByteArray.empty t196 (wrap64 (x7 - 1)))).size+1≤9223372036854775807 then ((ambryref9_two.f (wrap64 (Int.tdiv x5 100))).bind fun t200=>(if ((((((rdOf ByteArray.empty t191 (Int.tmod (wrap64 (x3+4)) 7))++(⟨#[44,32]⟩:ByteArray))++t195)++(⟨#[32]⟩:ByteArray))++(rdOf ByteArray.empty t196 (wrap64 (x7 - 1))))++(⟨#[32]⟩:ByteArray)).size+t200.size≤9223372036854775807 then ((ambryref9_two.f (Int.tmod x5 100)).bind fun t201=>(if (((((((rdOf ByteArray.empty t191 (Int.tmod (wrap64 (x3+4)) 7))++(⟨#[44,32]⟩:ByteArray))++t195)++(⟨#[32]⟩:ByteArray))++(rdOf ByteArray.empty t196 (wrap64 (x7 - 1))))++(⟨#[32]⟩:ByteArray))++t200).size+t201.size≤9223372036854775807 then (if ((((((((rdOf ByteArray.empty t191 (Int.tmod (wrap64 (x3+4)) 7))++(⟨#[44,32]⟩:ByteArray))++t195)++(⟨#[32]⟩:ByteArray))++(rdOf ByteArray.empty t196 (wrap64 (x7 - 1))))++(⟨#[32]⟩:ByteArray))++t200)++t201).size+1≤9223372036854775807 then ((ambryref9_two.f (wrap64 (Int.tdiv x4 3600))).bind fun t202=>(if (((((((((rdOf ByteArray.empty t191 (Int.tmod (wrap64 (x3+4)) 7))++(⟨#[44,32]⟩:ByteArray))++t195)++(⟨#[32]⟩:ByteArray))++(rdOf ByteArray.empty t196 (wrap64 (x7 - 1))))++(⟨#[32]⟩:ByteArray))++t200)++t201)++(⟨#[32]⟩:ByteArray)).size+t202.size≤9223372036854775807 then (if ((((((((((rdOf ByteArray.empty t191 (Int.tmod (wrap64 (x3+4)) 7))++(⟨#[44,32]⟩:ByteArray))++t195)++(⟨#[32]⟩:ByteArray))++(rdOf ByteArray.empty t196 (wrap64 (x7 - 1))))++(⟨#[32]⟩:ByteArray))++t200)++t201)++(⟨#[32]⟩:ByteArray))++t202).size+1≤9223372036854775807 then ((ambryref9_two.f (Int.tmod (wrap64 (Int.tdiv x4 60)) 60)).bind fun t203=>(if (((((((((((rdOf ByteArray.empty t191 (Int.tmod (wrap64 (x3+4)) 7))++(⟨#[44,32]⟩:ByteArray))++t195)++(⟨#[32]⟩:ByteArray))++(rdOf ByteArray.empty t196 (wrap64 (x7 - 1))))++(⟨#[32]⟩:ByteArray))++t200)++t201)++(⟨#[32]⟩:ByteArray))++t202)++(⟨#[58]⟩:ByteArray)).size+t203.size≤9223372036854775807 then (if ((((((((((((rdOf ByteArray.empty t191 (Int.tmod (wrap64 (x3+4)) 7))++(⟨#[44,32]⟩:ByteArray))++t195)++(⟨#[32]⟩:ByteArray))++(rdOf ByteArray.empty t196 (wrap64 (x7 - 1))))++(⟨#[32]⟩:ByteArray))++t200)++t201)++(⟨#[32]⟩:ByteArray))++t202)++(⟨#[58]⟩:ByteArray))++t203).size+1≤9223372036854775807 then ((ambryref9_two.f (Int.tmod x4 60)).bind fun t204=>(if (((((((((((((rdOf ByteArray.empty t191 (Int.tmod (wrap64 (x3+4)) 7))++(⟨#[44,32]⟩:ByteArray))++t195)++(⟨#[32]⟩:ByteArray))++(rdOf ByteArray.empty t196 (wrap64 (x7 - 1))))++(⟨#[32]⟩:ByteArray))++t200)++t201)++(⟨#[32]⟩:ByteArray))++t202)++(⟨#[58]⟩:ByteArray))++t203)++(⟨#[58]⟩:ByteArray)).size+t204.size≤9223372036854775807 then (if ((((((((((((((rdOf ByteArray.empty t191 (Int.tmod (wrap64 (x3+4)) 7))++(⟨#[44,32]⟩:ByteArray))++t195)++(⟨#[32]⟩:ByteArray))++(rdOf ByteArray.empty t196 (wrap64 (x7 - 1))))++(⟨#[32]⟩:ByteArray))++t200)++t201)++(⟨#[32]⟩:ByteArray))++t202)++(⟨#[58]⟩:ByteArray))++t203)++(⟨#[58]⟩:ByteArray))++t204).size+4≤9223372036854775807 then (some (((((((((((((((rdOf ByteArray.empty t191 (Int.tmod (wrap64 (x3+4)) 7))++(⟨#[44,32]⟩:ByteArray))++t195)++(⟨#[32]⟩:ByteArray))++(rdOf ByteArray.empty t196 (wrap64 (x7 - 1))))++(⟨#[32]⟩:ByteArray))++t200)++t201)++(⟨#[32]⟩:ByteArray))++t202)++(⟨#[58]⟩:ByteArray))++t203)++(⟨#[58]⟩:ByteArray))++t204)++(⟨#[32,71,77,84]⟩:ByteArray))) else (none)) else (none))) else (none)) else (none))) else (none)) else (none))) else (none)) else (none))) else (none))) else (none)) else (none)) else (none)) else (none))) else (none)) else (none))) else (none)) else (none)) else (none))))
end
def ambryref9_Text.f(k:Nat)(a0:Int):Option (ByteArray):=ambryref9_Text.l0 k ((mn (mx a0 0) 253402300799) / 86400) ((mn (mx a0 0) 253402300799) % 86400) (1970+(((mn (mx a0 0) 253402300799) / 86400) / 366))
def ambryref9_Text.T11:Bool × List (List Nat × List Nat):=(true,[([],[]),([],[]),([1],[1]),([2],[2]),([0,3],[0,3]),([4],[4]),([5],[5]),([],[]),([7],[7]),([8,0],[8]),([6,9],[6,9]),([10],[10]),([9],[]),([],[]),([13],[13]),([12,14],[12,14]),([15],[15]),([11,16],[11,16]),([17],[17]),([],[]),([19],[19]),([20,12],[20]),([18,21],[18,21]),([],[]),([23],[23]),([24,21],[24]),([22,25],[22,25]),([26],[26]),([],[]),([28],[28]),([29,25],[29]),([27,30],[27,30]),([31],[31]),([],[]),([33],[33]),([34],[34]),([35,30],[35]),([32,36],[32,36]),([37],[37]),([],[]),([39],[39]),([40,36],[40]),([38,41],[38,41]),([42],[42]),([43,41,0,1,2,3,4,5,6,7,8,9,10,11,12,13,14,15,16,17,18,19,20,21,22,23,24,25,26,27,28,29,30,31,32,33,34,35,36,37,38,39,40,41,42,43],[43])])
def ambryref9_Text.B11:List Nat:=[0,0,2,6,15,31,63,0,128,385,1023,2047,897,0,8192,29569,62337,131071,262143,0,524288,1577857,4194303,0,8388608,28840833,67108863,134217727,0,268435456,867701633,2147483647,4294967295,0,8589934592,25769803776,62070985601,137438953471,274877906943,0,549755813888,1780057904001,4398046511103,8796093022207,17592186044415]
theorem ambryref9_Text.tab11:rtab .any (opsOf Tryz.f16 11)=ambryref9_Text.T11:=by kernel_rfl
theorem ambryref9_Text.bits11:waitsOk ambryref9_Text.T11.2 ambryref9_Text.B11=true:=by kernel_rfl
set_option maxHeartbeats 8000000 in
set_option maxRecDepth 100000 in
theorem ambryref9_Text.calls(k:Nat)(a0:Int)(r:ByteArray)(w:World)(h:ambryref9_Text.f k a0=some r):
  Calls Tryz.prog 16 #[.int .i64 a0] w fun e w'=>e=.returned (.string r)∧Below w.heap.size w w':=by
 have HB:=mkA (Below.refl w.heap.size w)
 have H:(ambryref9_Text.l0 k ((mn (mx a0 0) 253402300799) / 86400) ((mn (mx a0 0) 253402300799) % 86400) (1970+(((mn (mx a0 0) 253402300799) / 86400) / 366)))=some r:=h
 clear h
 obtain ⟨ji2,hji2⟩:∃ j_:Int,(mx a0 0)=j_:=⟨_,rfl⟩
 replace H:(ambryref9_Text.l0 k ((mn (ji2) 253402300799) / 86400) ((mn (ji2) 253402300799) % 86400) (1970+(((mn (ji2) 253402300799) / 86400) / 366)))=some r:=by first|(rw [hji2] at H;exact H)|(simp only [hji2] at H ⊢;exact H)
 (try (have hji2l:0≤ji2:=by (rw [← hji2];unfold mx;(repeat' split) <;> omega)))
 (try (have hji2m:0≤ji2:=by omega))
 have hji2_:(if a0 < 0 then 0 else a0)=ji2:=hji2
 obtain ⟨ji3,hji3⟩:∃ j_:Int,(mn (ji2) 253402300799)=j_:=⟨_,rfl⟩
 replace H:(ambryref9_Text.l0 k ((ji3) / 86400) ((ji3) % 86400) (1970+(((ji3) / 86400) / 366)))=some r:=by first|(rw [hji3] at H;exact H)|(simp only [hji3] at H ⊢;exact H)
 have hji3_:(if 253402300799 < (ji2) then 253402300799 else (ji2))=ji3:=hji3
 have H':=mkA H
 clear H
 go_enter Tryz.func16,Tryz.ntmps16
 go_wp2
 go_loopg [5] k (fun kq v5 w'=>∃ (x5_1:Int),v5=.int .i64 x5_1∧Aside0 (ambryref9_Text.l0 kq ((ji3) / 86400) ((ji3) % 86400) x5_1=some r)∧Aside0 (kq≤k)∧Aside0 (Below w.heap.size w w'))
 case atStart=>exact ⟨(1970+(((ji3) / 86400) / 366)),(by first|rfl|(simp;done)|(simp only [← hji3] <;> (first|rfl|simp))|(simp [*];done)),H',⟨Nat.le_refl _⟩,⟨by repeat (first|(with_reducible first|exact HB.out|apply below_alloc|apply pw_below_drewN|apply below_drew1)|exact HB.out)⟩⟩
 case round=>
  clear H'
  try clear c1
  try clear p2
  obtain ⟨x5_1,rfl,HA,HK1,HB⟩:=hrel
  cases gk with
  |zero=>exact absurd HA.out (by simp [ambryref9_Text.l0])
  |succ k1=>
   have H:=HA.out
   clear HA
   simp only [ambryref9_Text.l0] at H
   replace H:=Option.bind_eq_some_iff.mp H
   obtain ⟨t187,A40,H⟩:=H
   replace H:(if t187≤((ji3) / 86400) then (ambryref9_Text.l0 k1 ((ji3) / 86400) ((ji3) % 86400) (wrap64 (x5_1+1))) else ((ambryref9_ahead.f x5_1).bind fun t188=>(ambryref9_Text.l1 k1 ((ji3) / 86400) ((ji3) % 86400) x5_1 (wrap64 (((ji3) / 86400) - t188)) 1)))=some r:=H
   have A4:=mkA A40
   clear A40
   by_cases c5:t187≤((ji3) / 86400)
   ·rw [if_pos c5] at H
    have c5b0:decide (t187≤((ji3) / 86400))=true:=decide_eq_true c5
    clear c5
    have H':=mkA H
    clear H
    go_wp2_with (first|((with_reducible refine gate_callee (f:=39) rfl ?_);refine goesL_ (some 20) rfl rfl Tryz.func39 (by kernel_rfl) rfl #[.int .i64 (wrap64 (x5_1+1))] rfl (by (try simp only [List.map_toArray,List.map_cons,List.map_nil]);first|done|rfl|(simp only [List.length_drop,List.length_take];rfl)) ?_;(with_reducible refine (ambryref9_ahead.calls (wrap64 (x5_1+1)) t187 _ A4.out).mono ?_);rintro e w' ⟨rfl,⟨nd,rfl⟩⟩;refine ⟨_,rfl,?_⟩))
    go_roundg k1
    case measure=>have:=HK1.out;omega
    case rel=>exact ⟨(wrap64 (x5_1+1)),(by first|rfl|(simp;done)|(simp [*];done)),H',⟨by have:=HK1.out;omega⟩,⟨by repeat (first|(with_reducible first|exact HB.out|apply below_alloc|apply pw_below_drewN|apply below_drew1)|exact HB.out)⟩⟩
   ·rw [if_neg c5] at H
    have c5b0:decide (t187≤((ji3) / 86400))=false:=decide_eq_false c5
    clear c5
    replace H:=Option.bind_eq_some_iff.mp H
    obtain ⟨t188,A60,H⟩:=H
    replace H:(ambryref9_Text.l1 k1 ((ji3) / 86400) ((ji3) % 86400) x5_1 (wrap64 (((ji3) / 86400) - t188)) 1)=some r:=H
    have A6:=mkA A60
    clear A60
    have H':=mkA H
    clear H
    go_wp2_with (first|((with_reducible refine gate_callee (f:=39) rfl ?_);refine goesL_ (some 20) rfl rfl Tryz.func39 (by kernel_rfl) rfl #[.int .i64 (wrap64 (x5_1+1))] rfl (by (try simp only [List.map_toArray,List.map_cons,List.map_nil]);first|done|rfl|(simp only [List.length_drop,List.length_take];rfl)) ?_;(with_reducible refine (ambryref9_ahead.calls (wrap64 (x5_1+1)) t187 _ A4.out).mono ?_);rintro e w' ⟨rfl,⟨nd,rfl⟩⟩;refine ⟨_,rfl,?_⟩)|((with_reducible refine gate_callee (f:=39) rfl ?_);refine goesL_ (some 27) rfl rfl Tryz.func39 (by kernel_rfl) rfl #[.int .i64 x5_1] rfl (by (try simp only [List.map_toArray,List.map_cons,List.map_nil]);first|done|rfl|(simp only [List.length_drop,List.length_take];rfl)) ?_;(with_reducible refine (ambryref9_ahead.calls x5_1 t188 _ A6.out).mono ?_);rintro e w' ⟨rfl,⟨nd,rfl⟩⟩;refine ⟨_,rfl,?_⟩))
    go_loopg [6,7] k1 (fun kq v6 v7 w'=>∃ (x6_2:Int) (x7_2:Int),v6=.int .i64 x6_2∧v7=.int .i64 x7_2∧Aside0 (ambryref9_Text.l1 kq ((ji3) / 86400) ((ji3) % 86400) x5_1 x6_2 x7_2=some r)∧Aside0 (kq≤k1)∧Aside0 (Below w.heap.size w w'))
    case atStart=>exact ⟨(wrap64 (((ji3) / 86400) - t188)),(1),(by first|rfl|(simp;done)|(simp only [← hji3] <;> (first|rfl|simp))|(simp [*];done)),(by first|rfl|(simp;done)|(simp [*];done)),H',⟨Nat.le_refl _⟩,⟨by repeat (first|(with_reducible first|exact HB.out|apply below_alloc|apply pw_below_drewN|apply below_drew1)|exact HB.out)⟩⟩
    case round=>
     clear H'
     try clear c1
     try clear p2
     try clear c3
     try clear c5
     try clear c5b0
     try clear p6
     try clear p2
     obtain ⟨x6_2,x7_2,rfl,rfl,HA,HK2,HB⟩:=hrel
     cases gk with
     |zero=>exact absurd HA.out (by simp [ambryref9_Text.l1])
     |succ k2=>
      have H:=HA.out
      clear HA
      simp only [ambryref9_Text.l1] at H
      replace H:=Option.bind_eq_some_iff.mp H
      obtain ⟨t189,A70,H⟩:=H
      replace H:(if x6_2 ≥ t189 then ((ambryref9_length.f x5_1 x7_2).bind fun t190=>(ambryref9_Text.l1 k2 ((ji3) / 86400) ((ji3) % 86400) x5_1 (wrap64 (x6_2 - t190)) (wrap64 (x7_2+1)))) else ((ambryref9_days.f).bind fun t191=>(if 0≤(Int.tmod (wrap64 (((ji3) / 86400)+4)) 7) then (if (Int.tmod (wrap64 (((ji3) / 86400)+4)) 7) < (t191.length:Int) then (if (rdOf ByteArray.empty t191 (Int.tmod (wrap64 (((ji3) / 86400)+4)) 7)).size+2≤9223372036854775807 then ((ambryref9_two.f (wrap64 (x6_2+1))).bind fun t195=>(if ((rdOf ByteArray.empty t191 (Int.tmod (wrap64 (((ji3) / 86400)+4)) 7))++(⟨#[44,32]⟩:ByteArray)).size+t195.size≤9223372036854775807 then (if (((rdOf ByteArray.empty t191 (Int.tmod (wrap64 (((ji3) / 86400)+4)) 7))++(⟨#[44,32]⟩:ByteArray))++t195).size+1≤9223372036854775807 then ((ambryref9_months.f).bind fun t196=>(if 0≤(wrap64 (x7_2 - 1)) then (if (wrap64 (x7_2 - 1)) < (t196.length:Int) then (if ((((rdOf ByteArray.empty t191 (Int.tmod (wrap64 (((ji3) / 86400)+4)) 7))++(⟨#[44,32]⟩:ByteArray))++t195)++(⟨#[32]⟩:ByteArray)).size+(rdOf ByteArray.empty t196 (wrap64 (x7_2 - 1))).size≤9223372036854775807 then (if (((((rdOf ByteArray.empty t191 (Int.tmod (wrap64 (((ji3) / 86400)+4)) 7))++(⟨#[44,32]⟩:ByteArray))++t195)++(⟨#[32]⟩:ByteArray))++(rdOf ByteArray.empty t196 (wrap64 (x7_2 - 1)))).size+1≤9223372036854775807 then ((ambryref9_two.f (wrap64 (Int.tdiv x5_1 100))).bind fun t200=>(if ((((((rdOf ByteArray.empty t191 (Int.tmod (wrap64 (((ji3) / 86400)+4)) 7))++(⟨#[44,32]⟩:ByteArray))++t195)++(⟨#[32]⟩:ByteArray))++(rdOf ByteArray.empty t196 (wrap64 (x7_2 - 1))))++(⟨#[32]⟩:ByteArray)).size+t200.size≤9223372036854775807 then ((ambryref9_two.f (Int.tmod x5_1 100)).bind fun t201=>(if (((((((rdOf ByteArray.empty t191 (Int.tmod (wrap64 (((ji3) / 86400)+4)) 7))++(⟨#[44,32]⟩:ByteArray))++t195)++(⟨#[32]⟩:ByteArray))++(rdOf ByteArray.empty t196 (wrap64 (x7_2 - 1))))++(⟨#[32]⟩:ByteArray))++t200).size+t201.size≤9223372036854775807 then (if ((((((((rdOf ByteArray.empty t191 (Int.tmod (wrap64 (((ji3) / 86400)+4)) 7))++(⟨#[44,32]⟩:ByteArray))++t195)++(⟨#[32]⟩:ByteArray))++(rdOf ByteArray.empty t196 (wrap64 (x7_2 - 1))))++(⟨#[32]⟩:ByteArray))++t200)++t201).size+1≤9223372036854775807 then ((ambryref9_two.f (wrap64 (Int.tdiv ((ji3) % 86400) 3600))).bind fun t202=>(if (((((((((rdOf ByteArray.empty t191 (Int.tmod (wrap64 (((ji3) / 86400)+4)) 7))++(⟨#[44,32]⟩:ByteArray))++t195)++(⟨#[32]⟩:ByteArray))++(rdOf ByteArray.empty t196 (wrap64 (x7_2 - 1))))++(⟨#[32]⟩:ByteArray))++t200)++t201)++(⟨#[32]⟩:ByteArray)).size+t202.size≤9223372036854775807 then (if ((((((((((rdOf ByteArray.empty t191 (Int.tmod (wrap64 (((ji3) / 86400)+4)) 7))++(⟨#[44,32]⟩:ByteArray))++t195)++(⟨#[32]⟩:ByteArray))++(rdOf ByteArray.empty t196 (wrap64 (x7_2 - 1))))++(⟨#[32]⟩:ByteArray))++t200)++t201)++(⟨#[32]⟩:ByteArray))++t202).size+1≤9223372036854775807 then ((ambryref9_two.f (Int.tmod (wrap64 (Int.tdiv ((ji3) % 86400) 60)) 60)).bind fun t203=>(if (((((((((((rdOf ByteArray.empty t191 (Int.tmod (wrap64 (((ji3) / 86400)+4)) 7))++(⟨#[44,32]⟩:ByteArray))++t195)++(⟨#[32]⟩:ByteArray))++(rdOf ByteArray.empty t196 (wrap64 (x7_2 - 1))))++(⟨#[32]⟩:ByteArray))++t200)++t201)++(⟨#[32]⟩:ByteArray))++t202)++(⟨#[58]⟩:ByteArray)).size+t203.size≤9223372036854775807 then (if ((((((((((((rdOf ByteArray.empty t191 (Int.tmod (wrap64 (((ji3) / 86400)+4)) 7))++(⟨#[44,32]⟩:ByteArray))++t195)++(⟨#[32]⟩:ByteArray))++(rdOf ByteArray.empty t196 (wrap64 (x7_2 - 1))))++(⟨#[32]⟩:ByteArray))++t200)++t201)++(⟨#[32]⟩:ByteArray))++t202)++(⟨#[58]⟩:ByteArray))++t203).size+1≤9223372036854775807 then ((ambryref9_two.f (Int.tmod ((ji3) % 86400) 60)).bind fun t204=>(if (((((((((((((rdOf ByteArray.empty t191 (Int.tmod (wrap64 (((ji3) / 86400)+4)) 7))++(⟨#[44,32]⟩:ByteArray))++t195)++(⟨#[32]⟩:ByteArray))++(rdOf ByteArray.empty t196 (wrap64 (x7_2 - 1))))++(⟨#[32]⟩:ByteArray))++t200)++t201)++(⟨#[32]⟩:ByteArray))++t202)++(⟨#[58]⟩:ByteArray))++t203)++(⟨#[58]⟩:ByteArray)).size+t204.size≤9223372036854775807 then (if ((((((((((((((rdOf ByteArray.empty t191 (Int.tmod (wrap64 (((ji3) / 86400)+4)) 7))++(⟨#[44,32]⟩:ByteArray))++t195)++(⟨#[32]⟩:ByteArray))++(rdOf ByteArray.empty t196 (wrap64 (x7_2 - 1))))++(⟨#[32]⟩:ByteArray))++t200)++t201)++(⟨#[32]⟩:ByteArray))++t202)++(⟨#[58]⟩:ByteArray))++t203)++(⟨#[58]⟩:ByteArray))++t204).size+4≤9223372036854775807 then (some (((((((((((((((rdOf ByteArray.empty t191 (Int.tmod (wrap64 (((ji3) / 86400)+4)) 7))++(⟨#[44,32]⟩:ByteArray))++t195)++(⟨#[32]⟩:ByteArray))++(rdOf ByteArray.empty t196 (wrap64 (x7_2 - 1))))++(⟨#[32]⟩:ByteArray))++t200)++t201)++(⟨#[32]⟩:ByteArray))++t202)++(⟨#[58]⟩:ByteArray))++t203)++(⟨#[58]⟩:ByteArray))++t204)++(⟨#[32,71,77,84]⟩:ByteArray))) else (none)) else (none))) else (none)) else (none))) else (none)) else (none))) else (none)) else (none))) else (none))) else (none)) else (none)) else (none)) else (none))) else (none)) else (none))) else (none)) else (none)) else (none))))=some r:=H
      have A7:=mkA A70
      clear A70
      by_cases c8:x6_2 ≥ t189
      ·rw [if_pos c8] at H
       have c8b0:decide (t189≤x6_2)=true:=decide_eq_true c8
       clear c8
       replace H:=Option.bind_eq_some_iff.mp H
       obtain ⟨t190,A90,H⟩:=H
       replace H:(ambryref9_Text.l1 k2 ((ji3) / 86400) ((ji3) % 86400) x5_1 (wrap64 (x6_2 - t190)) (wrap64 (x7_2+1)))=some r:=H
       have A9:=mkA A90
       clear A90
       have H':=mkA H
       clear H
       go_wp2_with (first|((with_reducible refine gate_callee (f:=40) rfl ?_);refine goesL_ (some 32) rfl rfl Tryz.func40 (by kernel_rfl) rfl #[.int .i64 x5_1,.int .i64 x7_2] rfl (by (try simp only [List.map_toArray,List.map_cons,List.map_nil]);first|done|rfl|(simp only [List.length_drop,List.length_take];rfl)) ?_;(with_reducible refine (ambryref9_length.calls x5_1 x7_2 t189 _ A7.out).mono ?_);rintro e w10 ⟨rfl,hb⟩;refine ⟨_,rfl,?_⟩;have n0_:=mkA (below_step (by repeat (first|(with_reducible first|exact HB.out|apply below_alloc|apply pw_below_drewN|apply below_drew1)|exact HB.out)) hb);clear HB;have HB:=n0_;clear n0_;(try clear hb);(try clear hb2);(try clear hk);(try clear hi))|((with_reducible refine gate_callee (f:=40) rfl ?_);refine goesL_ (some 37) rfl rfl Tryz.func40 (by kernel_rfl) rfl #[.int .i64 x5_1,.int .i64 x7_2] rfl (by (try simp only [List.map_toArray,List.map_cons,List.map_nil]);first|done|rfl|(simp only [List.length_drop,List.length_take];rfl)) ?_;(with_reducible refine (ambryref9_length.calls x5_1 x7_2 t190 _ A9.out).mono ?_);rintro e w11 ⟨rfl,hb⟩;refine ⟨_,rfl,?_⟩;have n0_:=mkA (below_step (by repeat (first|(with_reducible first|exact HB.out|apply below_alloc|apply pw_below_drewN|apply below_drew1)|exact HB.out)) hb);clear HB;have HB:=n0_;clear n0_;(try clear hb);(try clear hb2);(try clear hk);(try clear hi)))
       go_roundg k2
       case measure=>have:=HK1.out;have:=HK2.out;omega
       case rel=>exact ⟨(wrap64 (x6_2 - t190)),(wrap64 (x7_2+1)),(by first|rfl|(simp;done)|(simp [*];done)),(by first|rfl|(simp;done)|(simp [*];done)),H',⟨by have:=HK1.out;have:=HK2.out;omega⟩,⟨by repeat (first|(with_reducible first|exact HB.out|apply below_alloc|apply pw_below_drewN|apply below_drew1)|exact HB.out)⟩⟩
      ·rw [if_neg c8] at H
       have c8b0:decide (t189≤x6_2)=false:=decide_eq_false c8
       clear c8
       replace H:=Option.bind_eq_some_iff.mp H
       obtain ⟨t191,A120,H⟩:=H
       replace H:(if 0≤(Int.tmod (wrap64 (((ji3) / 86400)+4)) 7) then (if (Int.tmod (wrap64 (((ji3) / 86400)+4)) 7) < (t191.length:Int) then (if (rdOf ByteArray.empty t191 (Int.tmod (wrap64 (((ji3) / 86400)+4)) 7)).size+2≤9223372036854775807 then ((ambryref9_two.f (wrap64 (x6_2+1))).bind fun t195=>(if ((rdOf ByteArray.empty t191 (Int.tmod (wrap64 (((ji3) / 86400)+4)) 7))++(⟨#[44,32]⟩:ByteArray)).size+t195.size≤9223372036854775807 then (if (((rdOf ByteArray.empty t191 (Int.tmod (wrap64 (((ji3) / 86400)+4)) 7))++(⟨#[44,32]⟩:ByteArray))++t195).size+1≤9223372036854775807 then ((ambryref9_months.f).bind fun t196=>(if 0≤(wrap64 (x7_2 - 1)) then (if (wrap64 (x7_2 - 1)) < (t196.length:Int) then (if ((((rdOf ByteArray.empty t191 (Int.tmod (wrap64 (((ji3) / 86400)+4)) 7))++(⟨#[44,32]⟩:ByteArray))++t195)++(⟨#[32]⟩:ByteArray)).size+(rdOf ByteArray.empty t196 (wrap64 (x7_2 - 1))).size≤9223372036854775807 then (if (((((rdOf ByteArray.empty t191 (Int.tmod (wrap64 (((ji3) / 86400)+4)) 7))++(⟨#[44,32]⟩:ByteArray))++t195)++(⟨#[32]⟩:ByteArray))++(rdOf ByteArray.empty t196 (wrap64 (x7_2 - 1)))).size+1≤9223372036854775807 then ((ambryref9_two.f (wrap64 (Int.tdiv x5_1 100))).bind fun t200=>(if ((((((rdOf ByteArray.empty t191 (Int.tmod (wrap64 (((ji3) / 86400)+4)) 7))++(⟨#[44,32]⟩:ByteArray))++t195)++(⟨#[32]⟩:ByteArray))++(rdOf ByteArray.empty t196 (wrap64 (x7_2 - 1))))++(⟨#[32]⟩:ByteArray)).size+t200.size≤9223372036854775807 then ((ambryref9_two.f (Int.tmod x5_1 100)).bind fun t201=>(if (((((((rdOf ByteArray.empty t191 (Int.tmod (wrap64 (((ji3) / 86400)+4)) 7))++(⟨#[44,32]⟩:ByteArray))++t195)++(⟨#[32]⟩:ByteArray))++(rdOf ByteArray.empty t196 (wrap64 (x7_2 - 1))))++(⟨#[32]⟩:ByteArray))++t200).size+t201.size≤9223372036854775807 then (if ((((((((rdOf ByteArray.empty t191 (Int.tmod (wrap64 (((ji3) / 86400)+4)) 7))++(⟨#[44,32]⟩:ByteArray))++t195)++(⟨#[32]⟩:ByteArray))++(rdOf ByteArray.empty t196 (wrap64 (x7_2 - 1))))++(⟨#[32]⟩:ByteArray))++t200)++t201).size+1≤9223372036854775807 then ((ambryref9_two.f (wrap64 (Int.tdiv ((ji3) % 86400) 3600))).bind fun t202=>(if (((((((((rdOf ByteArray.empty t191 (Int.tmod (wrap64 (((ji3) / 86400)+4)) 7))++(⟨#[44,32]⟩:ByteArray))++t195)++(⟨#[32]⟩:ByteArray))++(rdOf ByteArray.empty t196 (wrap64 (x7_2 - 1))))++(⟨#[32]⟩:ByteArray))++t200)++t201)++(⟨#[32]⟩:ByteArray)).size+t202.size≤9223372036854775807 then (if ((((((((((rdOf ByteArray.empty t191 (Int.tmod (wrap64 (((ji3) / 86400)+4)) 7))++(⟨#[44,32]⟩:ByteArray))++t195)++(⟨#[32]⟩:ByteArray))++(rdOf ByteArray.empty t196 (wrap64 (x7_2 - 1))))++(⟨#[32]⟩:ByteArray))++t200)++t201)++(⟨#[32]⟩:ByteArray))++t202).size+1≤9223372036854775807 then ((ambryref9_two.f (Int.tmod (wrap64 (Int.tdiv ((ji3) % 86400) 60)) 60)).bind fun t203=>(if (((((((((((rdOf ByteArray.empty t191 (Int.tmod (wrap64 (((ji3) / 86400)+4)) 7))++(⟨#[44,32]⟩:ByteArray))++t195)++(⟨#[32]⟩:ByteArray))++(rdOf ByteArray.empty t196 (wrap64 (x7_2 - 1))))++(⟨#[32]⟩:ByteArray))++t200)++t201)++(⟨#[32]⟩:ByteArray))++t202)++(⟨#[58]⟩:ByteArray)).size+t203.size≤9223372036854775807 then (if ((((((((((((rdOf ByteArray.empty t191 (Int.tmod (wrap64 (((ji3) / 86400)+4)) 7))++(⟨#[44,32]⟩:ByteArray))++t195)++(⟨#[32]⟩:ByteArray))++(rdOf ByteArray.empty t196 (wrap64 (x7_2 - 1))))++(⟨#[32]⟩:ByteArray))++t200)++t201)++(⟨#[32]⟩:ByteArray))++t202)++(⟨#[58]⟩:ByteArray))++t203).size+1≤9223372036854775807 then ((ambryref9_two.f (Int.tmod ((ji3) % 86400) 60)).bind fun t204=>(if (((((((((((((rdOf ByteArray.empty t191 (Int.tmod (wrap64 (((ji3) / 86400)+4)) 7))++(⟨#[44,32]⟩:ByteArray))++t195)++(⟨#[32]⟩:ByteArray))++(rdOf ByteArray.empty t196 (wrap64 (x7_2 - 1))))++(⟨#[32]⟩:ByteArray))++t200)++t201)++(⟨#[32]⟩:ByteArray))++t202)++(⟨#[58]⟩:ByteArray))++t203)++(⟨#[58]⟩:ByteArray)).size+t204.size≤9223372036854775807 then (if ((((((((((((((rdOf ByteArray.empty t191 (Int.tmod (wrap64 (((ji3) / 86400)+4)) 7))++(⟨#[44,32]⟩:ByteArray))++t195)++(⟨#[32]⟩:ByteArray))++(rdOf ByteArray.empty t196 (wrap64 (x7_2 - 1))))++(⟨#[32]⟩:ByteArray))++t200)++t201)++(⟨#[32]⟩:ByteArray))++t202)++(⟨#[58]⟩:ByteArray))++t203)++(⟨#[58]⟩:ByteArray))++t204).size+4≤9223372036854775807 then (some (((((((((((((((rdOf ByteArray.empty t191 (Int.tmod (wrap64 (((ji3) / 86400)+4)) 7))++(⟨#[44,32]⟩:ByteArray))++t195)++(⟨#[32]⟩:ByteArray))++(rdOf ByteArray.empty t196 (wrap64 (x7_2 - 1))))++(⟨#[32]⟩:ByteArray))++t200)++t201)++(⟨#[32]⟩:ByteArray))++t202)++(⟨#[58]⟩:ByteArray))++t203)++(⟨#[58]⟩:ByteArray))++t204)++(⟨#[32,71,77,84]⟩:ByteArray))) else (none)) else (none))) else (none)) else (none))) else (none)) else (none))) else (none)) else (none))) else (none))) else (none)) else (none)) else (none)) else (none))) else (none)) else (none))) else (none)) else (none)) else (none))=some r:=H
       have A12:=mkA A120
       clear A120
       obtain ⟨ji13,hji13⟩:∃ j_:Int,(Int.tmod (wrap64 (((ji3) / 86400)+4)) 7)=j_:=⟨_,rfl⟩
       replace H:(if 0≤(ji13) then (if (ji13) < (t191.length:Int) then (if (rdOf ByteArray.empty t191 (ji13)).size+2≤9223372036854775807 then ((ambryref9_two.f (wrap64 (x6_2+1))).bind fun t195=>(if ((rdOf ByteArray.empty t191 (ji13))++(⟨#[44,32]⟩:ByteArray)).size+t195.size≤9223372036854775807 then (if (((rdOf ByteArray.empty t191 (ji13))++(⟨#[44,32]⟩:ByteArray))++t195).size+1≤9223372036854775807 then ((ambryref9_months.f).bind fun t196=>(if 0≤(wrap64 (x7_2 - 1)) then (if (wrap64 (x7_2 - 1)) < (t196.length:Int) then (if ((((rdOf ByteArray.empty t191 (ji13))++(⟨#[44,32]⟩:ByteArray))++t195)++(⟨#[32]⟩:ByteArray)).size+(rdOf ByteArray.empty t196 (wrap64 (x7_2 - 1))).size≤9223372036854775807 then (if (((((rdOf ByteArray.empty t191 (ji13))++(⟨#[44,32]⟩:ByteArray))++t195)++(⟨#[32]⟩:ByteArray))++(rdOf ByteArray.empty t196 (wrap64 (x7_2 - 1)))).size+1≤9223372036854775807 then ((ambryref9_two.f (wrap64 (Int.tdiv x5_1 100))).bind fun t200=>(if ((((((rdOf ByteArray.empty t191 (ji13))++(⟨#[44,32]⟩:ByteArray))++t195)++(⟨#[32]⟩:ByteArray))++(rdOf ByteArray.empty t196 (wrap64 (x7_2 - 1))))++(⟨#[32]⟩:ByteArray)).size+t200.size≤9223372036854775807 then ((ambryref9_two.f (Int.tmod x5_1 100)).bind fun t201=>(if (((((((rdOf ByteArray.empty t191 (ji13))++(⟨#[44,32]⟩:ByteArray))++t195)++(⟨#[32]⟩:ByteArray))++(rdOf ByteArray.empty t196 (wrap64 (x7_2 - 1))))++(⟨#[32]⟩:ByteArray))++t200).size+t201.size≤9223372036854775807 then (if ((((((((rdOf ByteArray.empty t191 (ji13))++(⟨#[44,32]⟩:ByteArray))++t195)++(⟨#[32]⟩:ByteArray))++(rdOf ByteArray.empty t196 (wrap64 (x7_2 - 1))))++(⟨#[32]⟩:ByteArray))++t200)++t201).size+1≤9223372036854775807 then ((ambryref9_two.f (wrap64 (Int.tdiv ((ji3) % 86400) 3600))).bind fun t202=>(if (((((((((rdOf ByteArray.empty t191 (ji13))++(⟨#[44,32]⟩:ByteArray))++t195)++(⟨#[32]⟩:ByteArray))++(rdOf ByteArray.empty t196 (wrap64 (x7_2 - 1))))++(⟨#[32]⟩:ByteArray))++t200)++t201)++(⟨#[32]⟩:ByteArray)).size+t202.size≤9223372036854775807 then (if ((((((((((rdOf ByteArray.empty t191 (ji13))++(⟨#[44,32]⟩:ByteArray))++t195)++(⟨#[32]⟩:ByteArray))++(rdOf ByteArray.empty t196 (wrap64 (x7_2 - 1))))++(⟨#[32]⟩:ByteArray))++t200)++t201)++(⟨#[32]⟩:ByteArray))++t202).size+1≤9223372036854775807 then ((ambryref9_two.f (Int.tmod (wrap64 (Int.tdiv ((ji3) % 86400) 60)) 60)).bind fun t203=>(if (((((((((((rdOf ByteArray.empty t191 (ji13))++(⟨#[44,32]⟩:ByteArray))++t195)++(⟨#[32]⟩:ByteArray))++(rdOf ByteArray.empty t196 (wrap64 (x7_2 - 1))))++(⟨#[32]⟩:ByteArray))++t200)++t201)++(⟨#[32]⟩:ByteArray))++t202)++(⟨#[58]⟩:ByteArray)).size+t203.size≤9223372036854775807 then (if ((((((((((((rdOf ByteArray.empty t191 (ji13))++(⟨#[44,32]⟩:ByteArray))++t195)++(⟨#[32]⟩:ByteArray))++(rdOf ByteArray.empty t196 (wrap64 (x7_2 - 1))))++(⟨#[32]⟩:ByteArray))++t200)++t201)++(⟨#[32]⟩:ByteArray))++t202)++(⟨#[58]⟩:ByteArray))++t203).size+1≤9223372036854775807 then ((ambryref9_two.f (Int.tmod ((ji3) % 86400) 60)).bind fun t204=>(if (((((((((((((rdOf ByteArray.empty t191 (ji13))++(⟨#[44,32]⟩:ByteArray))++t195)++(⟨#[32]⟩:ByteArray))++(rdOf ByteArray.empty t196 (wrap64 (x7_2 - 1))))++(⟨#[32]⟩:ByteArray))++t200)++t201)++(⟨#[32]⟩:ByteArray))++t202)++(⟨#[58]⟩:ByteArray))++t203)++(⟨#[58]⟩:ByteArray)).size+t204.size≤9223372036854775807 then (if ((((((((((((((rdOf ByteArray.empty t191 (ji13))++(⟨#[44,32]⟩:ByteArray))++t195)++(⟨#[32]⟩:ByteArray))++(rdOf ByteArray.empty t196 (wrap64 (x7_2 - 1))))++(⟨#[32]⟩:ByteArray))++t200)++t201)++(⟨#[32]⟩:ByteArray))++t202)++(⟨#[58]⟩:ByteArray))++t203)++(⟨#[58]⟩:ByteArray))++t204).size+4≤9223372036854775807 then (some (((((((((((((((rdOf ByteArray.empty t191 (ji13))++(⟨#[44,32]⟩:ByteArray))++t195)++(⟨#[32]⟩:ByteArray))++(rdOf ByteArray.empty t196 (wrap64 (x7_2 - 1))))++(⟨#[32]⟩:ByteArray))++t200)++t201)++(⟨#[32]⟩:ByteArray))++t202)++(⟨#[58]⟩:ByteArray))++t203)++(⟨#[58]⟩:ByteArray))++t204)++(⟨#[32,71,77,84]⟩:ByteArray))) else (none)) else (none))) else (none)) else (none))) else (none)) else (none))) else (none)) else (none))) else (none))) else (none)) else (none)) else (none)) else (none))) else (none)) else (none))) else (none)) else (none)) else (none))=some r:=by first|(rw [hji13] at H;exact H)|(simp only [hji13] at H ⊢;exact H)
       (try rw [hji13] at A7)
       (try rw [hji13] at A12)
       by_cases c14:0≤(ji13)
       ·rw [if_pos c14] at H
        have c14b0:decide (0≤(ji13))=true:=decide_eq_true c14
        clear c14
        by_cases c15:(ji13) < (t191.length:Int)
        ·rw [if_pos c15] at H
         have c15b0:decide ((ji13) < (t191.length:Int))=true:=decide_eq_true c15
         clear c15
         by_cases c16:(rdOf ByteArray.empty t191 (ji13)).size+2≤9223372036854775807
         ·rw [if_pos c16] at H
          have c16b0:=eq_true c16
          have c16b1:decide ((rdOf ByteArray.empty t191 (ji13)).size+2≤9223372036854775807)=true:=decide_eq_true c16
          try have c16b2:(9223372036854775807 < (rdOf ByteArray.empty t191 (ji13)).size+2)=False:=eq_false (Nat.not_lt.2 c16)
          replace H:=Option.bind_eq_some_iff.mp H
          obtain ⟨t195,A170,H⟩:=H
          replace H:(if ((rdOf ByteArray.empty t191 (ji13))++(⟨#[44,32]⟩:ByteArray)).size+t195.size≤9223372036854775807 then (if (((rdOf ByteArray.empty t191 (ji13))++(⟨#[44,32]⟩:ByteArray))++t195).size+1≤9223372036854775807 then ((ambryref9_months.f).bind fun t196=>(if 0≤(wrap64 (x7_2 - 1)) then (if (wrap64 (x7_2 - 1)) < (t196.length:Int) then (if ((((rdOf ByteArray.empty t191 (ji13))++(⟨#[44,32]⟩:ByteArray))++t195)++(⟨#[32]⟩:ByteArray)).size+(rdOf ByteArray.empty t196 (wrap64 (x7_2 - 1))).size≤9223372036854775807 then (if (((((rdOf ByteArray.empty t191 (ji13))++(⟨#[44,32]⟩:ByteArray))++t195)++(⟨#[32]⟩:ByteArray))++(rdOf ByteArray.empty t196 (wrap64 (x7_2 - 1)))).size+1≤9223372036854775807 then ((ambryref9_two.f (wrap64 (Int.tdiv x5_1 100))).bind fun t200=>(if ((((((rdOf ByteArray.empty t191 (ji13))++(⟨#[44,32]⟩:ByteArray))++t195)++(⟨#[32]⟩:ByteArray))++(rdOf ByteArray.empty t196 (wrap64 (x7_2 - 1))))++(⟨#[32]⟩:ByteArray)).size+t200.size≤9223372036854775807 then ((ambryref9_two.f (Int.tmod x5_1 100)).bind fun t201=>(if (((((((rdOf ByteArray.empty t191 (ji13))++(⟨#[44,32]⟩:ByteArray))++t195)++(⟨#[32]⟩:ByteArray))++(rdOf ByteArray.empty t196 (wrap64 (x7_2 - 1))))++(⟨#[32]⟩:ByteArray))++t200).size+t201.size≤9223372036854775807 then (if ((((((((rdOf ByteArray.empty t191 (ji13))++(⟨#[44,32]⟩:ByteArray))++t195)++(⟨#[32]⟩:ByteArray))++(rdOf ByteArray.empty t196 (wrap64 (x7_2 - 1))))++(⟨#[32]⟩:ByteArray))++t200)++t201).size+1≤9223372036854775807 then ((ambryref9_two.f (wrap64 (Int.tdiv ((ji3) % 86400) 3600))).bind fun t202=>(if (((((((((rdOf ByteArray.empty t191 (ji13))++(⟨#[44,32]⟩:ByteArray))++t195)++(⟨#[32]⟩:ByteArray))++(rdOf ByteArray.empty t196 (wrap64 (x7_2 - 1))))++(⟨#[32]⟩:ByteArray))++t200)++t201)++(⟨#[32]⟩:ByteArray)).size+t202.size≤9223372036854775807 then (if ((((((((((rdOf ByteArray.empty t191 (ji13))++(⟨#[44,32]⟩:ByteArray))++t195)++(⟨#[32]⟩:ByteArray))++(rdOf ByteArray.empty t196 (wrap64 (x7_2 - 1))))++(⟨#[32]⟩:ByteArray))++t200)++t201)++(⟨#[32]⟩:ByteArray))++t202).size+1≤9223372036854775807 then ((ambryref9_two.f (Int.tmod (wrap64 (Int.tdiv ((ji3) % 86400) 60)) 60)).bind fun t203=>(if (((((((((((rdOf ByteArray.empty t191 (ji13))++(⟨#[44,32]⟩:ByteArray))++t195)++(⟨#[32]⟩:ByteArray))++(rdOf ByteArray.empty t196 (wrap64 (x7_2 - 1))))++(⟨#[32]⟩:ByteArray))++t200)++t201)++(⟨#[32]⟩:ByteArray))++t202)++(⟨#[58]⟩:ByteArray)).size+t203.size≤9223372036854775807 then (if ((((((((((((rdOf ByteArray.empty t191 (ji13))++(⟨#[44,32]⟩:ByteArray))++t195)++(⟨#[32]⟩:ByteArray))++(rdOf ByteArray.empty t196 (wrap64 (x7_2 - 1))))++(⟨#[32]⟩:ByteArray))++t200)++t201)++(⟨#[32]⟩:ByteArray))++t202)++(⟨#[58]⟩:ByteArray))++t203).size+1≤9223372036854775807 then ((ambryref9_two.f (Int.tmod ((ji3) % 86400) 60)).bind fun t204=>(if (((((((((((((rdOf ByteArray.empty t191 (ji13))++(⟨#[44,32]⟩:ByteArray))++t195)++(⟨#[32]⟩:ByteArray))++(rdOf ByteArray.empty t196 (wrap64 (x7_2 - 1))))++(⟨#[32]⟩:ByteArray))++t200)++t201)++(⟨#[32]⟩:ByteArray))++t202)++(⟨#[58]⟩:ByteArray))++t203)++(⟨#[58]⟩:ByteArray)).size+t204.size≤9223372036854775807 then (if ((((((((((((((rdOf ByteArray.empty t191 (ji13))++(⟨#[44,32]⟩:ByteArray))++t195)++(⟨#[32]⟩:ByteArray))++(rdOf ByteArray.empty t196 (wrap64 (x7_2 - 1))))++(⟨#[32]⟩:ByteArray))++t200)++t201)++(⟨#[32]⟩:ByteArray))++t202)++(⟨#[58]⟩:ByteArray))++t203)++(⟨#[58]⟩:ByteArray))++t204).size+4≤9223372036854775807 then (some (((((((((((((((rdOf ByteArray.empty t191 (ji13))++(⟨#[44,32]⟩:ByteArray))++t195)++(⟨#[32]⟩:ByteArray))++(rdOf ByteArray.empty t196 (wrap64 (x7_2 - 1))))++(⟨#[32]⟩:ByteArray))++t200)++t201)++(⟨#[32]⟩:ByteArray))++t202)++(⟨#[58]⟩:ByteArray))++t203)++(⟨#[58]⟩:ByteArray))++t204)++(⟨#[32,71,77,84]⟩:ByteArray))) else (none)) else (none))) else (none)) else (none))) else (none)) else (none))) else (none)) else (none))) else (none))) else (none)) else (none)) else (none)) else (none))) else (none)) else (none))=some r:=H
          have A17:=mkA A170
          clear A170
          by_cases c18:((rdOf ByteArray.empty t191 (ji13))++(⟨#[44,32]⟩:ByteArray)).size+t195.size≤9223372036854775807
          ·rw [if_pos c18] at H
           have c18b0:=eq_true c18
           have c18b1:decide (((rdOf ByteArray.empty t191 (ji13))++(⟨#[44,32]⟩:ByteArray)).size+t195.size≤9223372036854775807)=true:=decide_eq_true c18
           try have c18b2:(9223372036854775807 < ((rdOf ByteArray.empty t191 (ji13))++(⟨#[44,32]⟩:ByteArray)).size+t195.size)=False:=eq_false (Nat.not_lt.2 c18)
           by_cases c19:(((rdOf ByteArray.empty t191 (ji13))++(⟨#[44,32]⟩:ByteArray))++t195).size+1≤9223372036854775807
           ·rw [if_pos c19] at H
            have c19b0:=eq_true c19
            have c19b1:decide ((((rdOf ByteArray.empty t191 (ji13))++(⟨#[44,32]⟩:ByteArray))++t195).size+1≤9223372036854775807)=true:=decide_eq_true c19
            try have c19b2:(9223372036854775807 < (((rdOf ByteArray.empty t191 (ji13))++(⟨#[44,32]⟩:ByteArray))++t195).size+1)=False:=eq_false (Nat.not_lt.2 c19)
            replace H:=Option.bind_eq_some_iff.mp H
            obtain ⟨t196,A200,H⟩:=H
            replace H:(if 0≤(wrap64 (x7_2 - 1)) then (if (wrap64 (x7_2 - 1)) < (t196.length:Int) then (if ((((rdOf ByteArray.empty t191 (ji13))++(⟨#[44,32]⟩:ByteArray))++t195)++(⟨#[32]⟩:ByteArray)).size+(rdOf ByteArray.empty t196 (wrap64 (x7_2 - 1))).size≤9223372036854775807 then (if (((((rdOf ByteArray.empty t191 (ji13))++(⟨#[44,32]⟩:ByteArray))++t195)++(⟨#[32]⟩:ByteArray))++(rdOf ByteArray.empty t196 (wrap64 (x7_2 - 1)))).size+1≤9223372036854775807 then ((ambryref9_two.f (wrap64 (Int.tdiv x5_1 100))).bind fun t200=>(if ((((((rdOf ByteArray.empty t191 (ji13))++(⟨#[44,32]⟩:ByteArray))++t195)++(⟨#[32]⟩:ByteArray))++(rdOf ByteArray.empty t196 (wrap64 (x7_2 - 1))))++(⟨#[32]⟩:ByteArray)).size+t200.size≤9223372036854775807 then ((ambryref9_two.f (Int.tmod x5_1 100)).bind fun t201=>(if (((((((rdOf ByteArray.empty t191 (ji13))++(⟨#[44,32]⟩:ByteArray))++t195)++(⟨#[32]⟩:ByteArray))++(rdOf ByteArray.empty t196 (wrap64 (x7_2 - 1))))++(⟨#[32]⟩:ByteArray))++t200).size+t201.size≤9223372036854775807 then (if ((((((((rdOf ByteArray.empty t191 (ji13))++(⟨#[44,32]⟩:ByteArray))++t195)++(⟨#[32]⟩:ByteArray))++(rdOf ByteArray.empty t196 (wrap64 (x7_2 - 1))))++(⟨#[32]⟩:ByteArray))++t200)++t201).size+1≤9223372036854775807 then ((ambryref9_two.f (wrap64 (Int.tdiv ((ji3) % 86400) 3600))).bind fun t202=>(if (((((((((rdOf ByteArray.empty t191 (ji13))++(⟨#[44,32]⟩:ByteArray))++t195)++(⟨#[32]⟩:ByteArray))++(rdOf ByteArray.empty t196 (wrap64 (x7_2 - 1))))++(⟨#[32]⟩:ByteArray))++t200)++t201)++(⟨#[32]⟩:ByteArray)).size+t202.size≤9223372036854775807 then (if ((((((((((rdOf ByteArray.empty t191 (ji13))++(⟨#[44,32]⟩:ByteArray))++t195)++(⟨#[32]⟩:ByteArray))++(rdOf ByteArray.empty t196 (wrap64 (x7_2 - 1))))++(⟨#[32]⟩:ByteArray))++t200)++t201)++(⟨#[32]⟩:ByteArray))++t202).size+1≤9223372036854775807 then ((ambryref9_two.f (Int.tmod (wrap64 (Int.tdiv ((ji3) % 86400) 60)) 60)).bind fun t203=>(if (((((((((((rdOf ByteArray.empty t191 (ji13))++(⟨#[44,32]⟩:ByteArray))++t195)++(⟨#[32]⟩:ByteArray))++(rdOf ByteArray.empty t196 (wrap64 (x7_2 - 1))))++(⟨#[32]⟩:ByteArray))++t200)++t201)++(⟨#[32]⟩:ByteArray))++t202)++(⟨#[58]⟩:ByteArray)).size+t203.size≤9223372036854775807 then (if ((((((((((((rdOf ByteArray.empty t191 (ji13))++(⟨#[44,32]⟩:ByteArray))++t195)++(⟨#[32]⟩:ByteArray))++(rdOf ByteArray.empty t196 (wrap64 (x7_2 - 1))))++(⟨#[32]⟩:ByteArray))++t200)++t201)++(⟨#[32]⟩:ByteArray))++t202)++(⟨#[58]⟩:ByteArray))++t203).size+1≤9223372036854775807 then ((ambryref9_two.f (Int.tmod ((ji3) % 86400) 60)).bind fun t204=>(if (((((((((((((rdOf ByteArray.empty t191 (ji13))++(⟨#[44,32]⟩:ByteArray))++t195)++(⟨#[32]⟩:ByteArray))++(rdOf ByteArray.empty t196 (wrap64 (x7_2 - 1))))++(⟨#[32]⟩:ByteArray))++t200)++t201)++(⟨#[32]⟩:ByteArray))++t202)++(⟨#[58]⟩:ByteArray))++t203)++(⟨#[58]⟩:ByteArray)).size+t204.size≤9223372036854775807 then (if ((((((((((((((rdOf ByteArray.empty t191 (ji13))++(⟨#[44,32]⟩:ByteArray))++t195)++(⟨#[32]⟩:ByteArray))++(rdOf ByteArray.empty t196 (wrap64 (x7_2 - 1))))++(⟨#[32]⟩:ByteArray))++t200)++t201)++(⟨#[32]⟩:ByteArray))++t202)++(⟨#[58]⟩:ByteArray))++t203)++(⟨#[58]⟩:ByteArray))++t204).size+4≤9223372036854775807 then (some (((((((((((((((rdOf ByteArray.empty t191 (ji13))++(⟨#[44,32]⟩:ByteArray))++t195)++(⟨#[32]⟩:ByteArray))++(rdOf ByteArray.empty t196 (wrap64 (x7_2 - 1))))++(⟨#[32]⟩:ByteArray))++t200)++t201)++(⟨#[32]⟩:ByteArray))++t202)++(⟨#[58]⟩:ByteArray))++t203)++(⟨#[58]⟩:ByteArray))++t204)++(⟨#[32,71,77,84]⟩:ByteArray))) else (none)) else (none))) else (none)) else (none))) else (none)) else (none))) else (none)) else (none))) else (none))) else (none)) else (none)) else (none)) else (none))=some r:=H
            have A20:=mkA A200
            clear A200
            obtain ⟨ji21,hji21⟩:∃ j_:Int,(wrap64 (x7_2 - 1))=j_:=⟨_,rfl⟩
            replace H:(if 0≤(ji21) then (if (ji21) < (t196.length:Int) then (if ((((rdOf ByteArray.empty t191 (ji13))++(⟨#[44,32]⟩:ByteArray))++t195)++(⟨#[32]⟩:ByteArray)).size+(rdOf ByteArray.empty t196 (ji21)).size≤9223372036854775807 then (if (((((rdOf ByteArray.empty t191 (ji13))++(⟨#[44,32]⟩:ByteArray))++t195)++(⟨#[32]⟩:ByteArray))++(rdOf ByteArray.empty t196 (ji21))).size+1≤9223372036854775807 then ((ambryref9_two.f (wrap64 (Int.tdiv x5_1 100))).bind fun t200=>(if ((((((rdOf ByteArray.empty t191 (ji13))++(⟨#[44,32]⟩:ByteArray))++t195)++(⟨#[32]⟩:ByteArray))++(rdOf ByteArray.empty t196 (ji21)))++(⟨#[32]⟩:ByteArray)).size+t200.size≤9223372036854775807 then ((ambryref9_two.f (Int.tmod x5_1 100)).bind fun t201=>(if (((((((rdOf ByteArray.empty t191 (ji13))++(⟨#[44,32]⟩:ByteArray))++t195)++(⟨#[32]⟩:ByteArray))++(rdOf ByteArray.empty t196 (ji21)))++(⟨#[32]⟩:ByteArray))++t200).size+t201.size≤9223372036854775807 then (if ((((((((rdOf ByteArray.empty t191 (ji13))++(⟨#[44,32]⟩:ByteArray))++t195)++(⟨#[32]⟩:ByteArray))++(rdOf ByteArray.empty t196 (ji21)))++(⟨#[32]⟩:ByteArray))++t200)++t201).size+1≤9223372036854775807 then ((ambryref9_two.f (wrap64 (Int.tdiv ((ji3) % 86400) 3600))).bind fun t202=>(if (((((((((rdOf ByteArray.empty t191 (ji13))++(⟨#[44,32]⟩:ByteArray))++t195)++(⟨#[32]⟩:ByteArray))++(rdOf ByteArray.empty t196 (ji21)))++(⟨#[32]⟩:ByteArray))++t200)++t201)++(⟨#[32]⟩:ByteArray)).size+t202.size≤9223372036854775807 then (if ((((((((((rdOf ByteArray.empty t191 (ji13))++(⟨#[44,32]⟩:ByteArray))++t195)++(⟨#[32]⟩:ByteArray))++(rdOf ByteArray.empty t196 (ji21)))++(⟨#[32]⟩:ByteArray))++t200)++t201)++(⟨#[32]⟩:ByteArray))++t202).size+1≤9223372036854775807 then ((ambryref9_two.f (Int.tmod (wrap64 (Int.tdiv ((ji3) % 86400) 60)) 60)).bind fun t203=>(if (((((((((((rdOf ByteArray.empty t191 (ji13))++(⟨#[44,32]⟩:ByteArray))++t195)++(⟨#[32]⟩:ByteArray))++(rdOf ByteArray.empty t196 (ji21)))++(⟨#[32]⟩:ByteArray))++t200)++t201)++(⟨#[32]⟩:ByteArray))++t202)++(⟨#[58]⟩:ByteArray)).size+t203.size≤9223372036854775807 then (if ((((((((((((rdOf ByteArray.empty t191 (ji13))++(⟨#[44,32]⟩:ByteArray))++t195)++(⟨#[32]⟩:ByteArray))++(rdOf ByteArray.empty t196 (ji21)))++(⟨#[32]⟩:ByteArray))++t200)++t201)++(⟨#[32]⟩:ByteArray))++t202)++(⟨#[58]⟩:ByteArray))++t203).size+1≤9223372036854775807 then ((ambryref9_two.f (Int.tmod ((ji3) % 86400) 60)).bind fun t204=>(if (((((((((((((rdOf ByteArray.empty t191 (ji13))++(⟨#[44,32]⟩:ByteArray))++t195)++(⟨#[32]⟩:ByteArray))++(rdOf ByteArray.empty t196 (ji21)))++(⟨#[32]⟩:ByteArray))++t200)++t201)++(⟨#[32]⟩:ByteArray))++t202)++(⟨#[58]⟩:ByteArray))++t203)++(⟨#[58]⟩:ByteArray)).size+t204.size≤9223372036854775807 then (if ((((((((((((((rdOf ByteArray.empty t191 (ji13))++(⟨#[44,32]⟩:ByteArray))++t195)++(⟨#[32]⟩:ByteArray))++(rdOf ByteArray.empty t196 (ji21)))++(⟨#[32]⟩:ByteArray))++t200)++t201)++(⟨#[32]⟩:ByteArray))++t202)++(⟨#[58]⟩:ByteArray))++t203)++(⟨#[58]⟩:ByteArray))++t204).size+4≤9223372036854775807 then (some (((((((((((((((rdOf ByteArray.empty t191 (ji13))++(⟨#[44,32]⟩:ByteArray))++t195)++(⟨#[32]⟩:ByteArray))++(rdOf ByteArray.empty t196 (ji21)))++(⟨#[32]⟩:ByteArray))++t200)++t201)++(⟨#[32]⟩:ByteArray))++t202)++(⟨#[58]⟩:ByteArray))++t203)++(⟨#[58]⟩:ByteArray))++t204)++(⟨#[32,71,77,84]⟩:ByteArray))) else (none)) else (none))) else (none)) else (none))) else (none)) else (none))) else (none)) else (none))) else (none))) else (none)) else (none)) else (none)) else (none))=some r:=by first|(rw [hji21] at H;exact H)|(simp only [hji21] at H ⊢;exact H)
            (try rw [hji21] at A7)
            (try rw [hji21] at A12)
            (try rw [hji21] at A17)
            (try rw [hji21] at A20)
            have hji21w:(IntKind.i64.wrap (x7_2 - 1))=ji21:=(i64_w _).trans hji21
            by_cases c22:0≤(ji21)
            ·rw [if_pos c22] at H
             have c22b0:decide (0≤(ji21))=true:=decide_eq_true c22
             clear c22
             by_cases c23:(ji21) < (t196.length:Int)
             ·rw [if_pos c23] at H
              have c23b0:decide ((ji21) < (t196.length:Int))=true:=decide_eq_true c23
              clear c23
              by_cases c24:((((rdOf ByteArray.empty t191 (ji13))++(⟨#[44,32]⟩:ByteArray))++t195)++(⟨#[32]⟩:ByteArray)).size+(rdOf ByteArray.empty t196 (ji21)).size≤9223372036854775807
              ·rw [if_pos c24] at H
               have c24b0:=eq_true c24
               have c24b1:decide (((((rdOf ByteArray.empty t191 (ji13))++(⟨#[44,32]⟩:ByteArray))++t195)++(⟨#[32]⟩:ByteArray)).size+(rdOf ByteArray.empty t196 (ji21)).size≤9223372036854775807)=true:=decide_eq_true c24
               try have c24b2:(9223372036854775807 < ((((rdOf ByteArray.empty t191 (ji13))++(⟨#[44,32]⟩:ByteArray))++t195)++(⟨#[32]⟩:ByteArray)).size+(rdOf ByteArray.empty t196 (ji21)).size)=False:=eq_false (Nat.not_lt.2 c24)
               by_cases c25:(((((rdOf ByteArray.empty t191 (ji13))++(⟨#[44,32]⟩:ByteArray))++t195)++(⟨#[32]⟩:ByteArray))++(rdOf ByteArray.empty t196 (ji21))).size+1≤9223372036854775807
               ·rw [if_pos c25] at H
                have c25b0:=eq_true c25
                have c25b1:decide ((((((rdOf ByteArray.empty t191 (ji13))++(⟨#[44,32]⟩:ByteArray))++t195)++(⟨#[32]⟩:ByteArray))++(rdOf ByteArray.empty t196 (ji21))).size+1≤9223372036854775807)=true:=decide_eq_true c25
                try have c25b2:(9223372036854775807 < (((((rdOf ByteArray.empty t191 (ji13))++(⟨#[44,32]⟩:ByteArray))++t195)++(⟨#[32]⟩:ByteArray))++(rdOf ByteArray.empty t196 (ji21))).size+1)=False:=eq_false (Nat.not_lt.2 c25)
                replace H:=Option.bind_eq_some_iff.mp H
                obtain ⟨t200,A260,H⟩:=H
                replace H:(if ((((((rdOf ByteArray.empty t191 (ji13))++(⟨#[44,32]⟩:ByteArray))++t195)++(⟨#[32]⟩:ByteArray))++(rdOf ByteArray.empty t196 (ji21)))++(⟨#[32]⟩:ByteArray)).size+t200.size≤9223372036854775807 then ((ambryref9_two.f (Int.tmod x5_1 100)).bind fun t201=>(if (((((((rdOf ByteArray.empty t191 (ji13))++(⟨#[44,32]⟩:ByteArray))++t195)++(⟨#[32]⟩:ByteArray))++(rdOf ByteArray.empty t196 (ji21)))++(⟨#[32]⟩:ByteArray))++t200).size+t201.size≤9223372036854775807 then (if ((((((((rdOf ByteArray.empty t191 (ji13))++(⟨#[44,32]⟩:ByteArray))++t195)++(⟨#[32]⟩:ByteArray))++(rdOf ByteArray.empty t196 (ji21)))++(⟨#[32]⟩:ByteArray))++t200)++t201).size+1≤9223372036854775807 then ((ambryref9_two.f (wrap64 (Int.tdiv ((ji3) % 86400) 3600))).bind fun t202=>(if (((((((((rdOf ByteArray.empty t191 (ji13))++(⟨#[44,32]⟩:ByteArray))++t195)++(⟨#[32]⟩:ByteArray))++(rdOf ByteArray.empty t196 (ji21)))++(⟨#[32]⟩:ByteArray))++t200)++t201)++(⟨#[32]⟩:ByteArray)).size+t202.size≤9223372036854775807 then (if ((((((((((rdOf ByteArray.empty t191 (ji13))++(⟨#[44,32]⟩:ByteArray))++t195)++(⟨#[32]⟩:ByteArray))++(rdOf ByteArray.empty t196 (ji21)))++(⟨#[32]⟩:ByteArray))++t200)++t201)++(⟨#[32]⟩:ByteArray))++t202).size+1≤9223372036854775807 then ((ambryref9_two.f (Int.tmod (wrap64 (Int.tdiv ((ji3) % 86400) 60)) 60)).bind fun t203=>(if (((((((((((rdOf ByteArray.empty t191 (ji13))++(⟨#[44,32]⟩:ByteArray))++t195)++(⟨#[32]⟩:ByteArray))++(rdOf ByteArray.empty t196 (ji21)))++(⟨#[32]⟩:ByteArray))++t200)++t201)++(⟨#[32]⟩:ByteArray))++t202)++(⟨#[58]⟩:ByteArray)).size+t203.size≤9223372036854775807 then (if ((((((((((((rdOf ByteArray.empty t191 (ji13))++(⟨#[44,32]⟩:ByteArray))++t195)++(⟨#[32]⟩:ByteArray))++(rdOf ByteArray.empty t196 (ji21)))++(⟨#[32]⟩:ByteArray))++t200)++t201)++(⟨#[32]⟩:ByteArray))++t202)++(⟨#[58]⟩:ByteArray))++t203).size+1≤9223372036854775807 then ((ambryref9_two.f (Int.tmod ((ji3) % 86400) 60)).bind fun t204=>(if (((((((((((((rdOf ByteArray.empty t191 (ji13))++(⟨#[44,32]⟩:ByteArray))++t195)++(⟨#[32]⟩:ByteArray))++(rdOf ByteArray.empty t196 (ji21)))++(⟨#[32]⟩:ByteArray))++t200)++t201)++(⟨#[32]⟩:ByteArray))++t202)++(⟨#[58]⟩:ByteArray))++t203)++(⟨#[58]⟩:ByteArray)).size+t204.size≤9223372036854775807 then (if ((((((((((((((rdOf ByteArray.empty t191 (ji13))++(⟨#[44,32]⟩:ByteArray))++t195)++(⟨#[32]⟩:ByteArray))++(rdOf ByteArray.empty t196 (ji21)))++(⟨#[32]⟩:ByteArray))++t200)++t201)++(⟨#[32]⟩:ByteArray))++t202)++(⟨#[58]⟩:ByteArray))++t203)++(⟨#[58]⟩:ByteArray))++t204).size+4≤9223372036854775807 then (some (((((((((((((((rdOf ByteArray.empty t191 (ji13))++(⟨#[44,32]⟩:ByteArray))++t195)++(⟨#[32]⟩:ByteArray))++(rdOf ByteArray.empty t196 (ji21)))++(⟨#[32]⟩:ByteArray))++t200)++t201)++(⟨#[32]⟩:ByteArray))++t202)++(⟨#[58]⟩:ByteArray))++t203)++(⟨#[58]⟩:ByteArray))++t204)++(⟨#[32,71,77,84]⟩:ByteArray))) else (none)) else (none))) else (none)) else (none))) else (none)) else (none))) else (none)) else (none))) else (none))=some r:=H
                have A26:=mkA A260
                clear A260
                by_cases c27:((((((rdOf ByteArray.empty t191 (ji13))++(⟨#[44,32]⟩:ByteArray))++t195)++(⟨#[32]⟩:ByteArray))++(rdOf ByteArray.empty t196 (ji21)))++(⟨#[32]⟩:ByteArray)).size+t200.size≤9223372036854775807
                ·rw [if_pos c27] at H
                 have c27b0:=eq_true c27
                 have c27b1:decide (((((((rdOf ByteArray.empty t191 (ji13))++(⟨#[44,32]⟩:ByteArray))++t195)++(⟨#[32]⟩:ByteArray))++(rdOf ByteArray.empty t196 (ji21)))++(⟨#[32]⟩:ByteArray)).size+t200.size≤9223372036854775807)=true:=decide_eq_true c27
                 try have c27b2:(9223372036854775807 < ((((((rdOf ByteArray.empty t191 (ji13))++(⟨#[44,32]⟩:ByteArray))++t195)++(⟨#[32]⟩:ByteArray))++(rdOf ByteArray.empty t196 (ji21)))++(⟨#[32]⟩:ByteArray)).size+t200.size)=False:=eq_false (Nat.not_lt.2 c27)
                 replace H:=Option.bind_eq_some_iff.mp H
                 obtain ⟨t201,A280,H⟩:=H
                 replace H:(if (((((((rdOf ByteArray.empty t191 (ji13))++(⟨#[44,32]⟩:ByteArray))++t195)++(⟨#[32]⟩:ByteArray))++(rdOf ByteArray.empty t196 (ji21)))++(⟨#[32]⟩:ByteArray))++t200).size+t201.size≤9223372036854775807 then (if ((((((((rdOf ByteArray.empty t191 (ji13))++(⟨#[44,32]⟩:ByteArray))++t195)++(⟨#[32]⟩:ByteArray))++(rdOf ByteArray.empty t196 (ji21)))++(⟨#[32]⟩:ByteArray))++t200)++t201).size+1≤9223372036854775807 then ((ambryref9_two.f (wrap64 (Int.tdiv ((ji3) % 86400) 3600))).bind fun t202=>(if (((((((((rdOf ByteArray.empty t191 (ji13))++(⟨#[44,32]⟩:ByteArray))++t195)++(⟨#[32]⟩:ByteArray))++(rdOf ByteArray.empty t196 (ji21)))++(⟨#[32]⟩:ByteArray))++t200)++t201)++(⟨#[32]⟩:ByteArray)).size+t202.size≤9223372036854775807 then (if ((((((((((rdOf ByteArray.empty t191 (ji13))++(⟨#[44,32]⟩:ByteArray))++t195)++(⟨#[32]⟩:ByteArray))++(rdOf ByteArray.empty t196 (ji21)))++(⟨#[32]⟩:ByteArray))++t200)++t201)++(⟨#[32]⟩:ByteArray))++t202).size+1≤9223372036854775807 then ((ambryref9_two.f (Int.tmod (wrap64 (Int.tdiv ((ji3) % 86400) 60)) 60)).bind fun t203=>(if (((((((((((rdOf ByteArray.empty t191 (ji13))++(⟨#[44,32]⟩:ByteArray))++t195)++(⟨#[32]⟩:ByteArray))++(rdOf ByteArray.empty t196 (ji21)))++(⟨#[32]⟩:ByteArray))++t200)++t201)++(⟨#[32]⟩:ByteArray))++t202)++(⟨#[58]⟩:ByteArray)).size+t203.size≤9223372036854775807 then (if ((((((((((((rdOf ByteArray.empty t191 (ji13))++(⟨#[44,32]⟩:ByteArray))++t195)++(⟨#[32]⟩:ByteArray))++(rdOf ByteArray.empty t196 (ji21)))++(⟨#[32]⟩:ByteArray))++t200)++t201)++(⟨#[32]⟩:ByteArray))++t202)++(⟨#[58]⟩:ByteArray))++t203).size+1≤9223372036854775807 then ((ambryref9_two.f (Int.tmod ((ji3) % 86400) 60)).bind fun t204=>(if (((((((((((((rdOf ByteArray.empty t191 (ji13))++(⟨#[44,32]⟩:ByteArray))++t195)++(⟨#[32]⟩:ByteArray))++(rdOf ByteArray.empty t196 (ji21)))++(⟨#[32]⟩:ByteArray))++t200)++t201)++(⟨#[32]⟩:ByteArray))++t202)++(⟨#[58]⟩:ByteArray))++t203)++(⟨#[58]⟩:ByteArray)).size+t204.size≤9223372036854775807 then (if ((((((((((((((rdOf ByteArray.empty t191 (ji13))++(⟨#[44,32]⟩:ByteArray))++t195)++(⟨#[32]⟩:ByteArray))++(rdOf ByteArray.empty t196 (ji21)))++(⟨#[32]⟩:ByteArray))++t200)++t201)++(⟨#[32]⟩:ByteArray))++t202)++(⟨#[58]⟩:ByteArray))++t203)++(⟨#[58]⟩:ByteArray))++t204).size+4≤9223372036854775807 then (some (((((((((((((((rdOf ByteArray.empty t191 (ji13))++(⟨#[44,32]⟩:ByteArray))++t195)++(⟨#[32]⟩:ByteArray))++(rdOf ByteArray.empty t196 (ji21)))++(⟨#[32]⟩:ByteArray))++t200)++t201)++(⟨#[32]⟩:ByteArray))++t202)++(⟨#[58]⟩:ByteArray))++t203)++(⟨#[58]⟩:ByteArray))++t204)++(⟨#[32,71,77,84]⟩:ByteArray))) else (none)) else (none))) else (none)) else (none))) else (none)) else (none))) else (none)) else (none))=some r:=H
                 have A28:=mkA A280
                 clear A280
                 by_cases c29:(((((((rdOf ByteArray.empty t191 (ji13))++(⟨#[44,32]⟩:ByteArray))++t195)++(⟨#[32]⟩:ByteArray))++(rdOf ByteArray.empty t196 (ji21)))++(⟨#[32]⟩:ByteArray))++t200).size+t201.size≤9223372036854775807
                 ·rw [if_pos c29] at H
                  have c29b0:=eq_true c29
                  have c29b1:decide ((((((((rdOf ByteArray.empty t191 (ji13))++(⟨#[44,32]⟩:ByteArray))++t195)++(⟨#[32]⟩:ByteArray))++(rdOf ByteArray.empty t196 (ji21)))++(⟨#[32]⟩:ByteArray))++t200).size+t201.size≤9223372036854775807)=true:=decide_eq_true c29
                  try have c29b2:(9223372036854775807 < (((((((rdOf ByteArray.empty t191 (ji13))++(⟨#[44,32]⟩:ByteArray))++t195)++(⟨#[32]⟩:ByteArray))++(rdOf ByteArray.empty t196 (ji21)))++(⟨#[32]⟩:ByteArray))++t200).size+t201.size)=False:=eq_false (Nat.not_lt.2 c29)
                  by_cases c30:((((((((rdOf ByteArray.empty t191 (ji13))++(⟨#[44,32]⟩:ByteArray))++t195)++(⟨#[32]⟩:ByteArray))++(rdOf ByteArray.empty t196 (ji21)))++(⟨#[32]⟩:ByteArray))++t200)++t201).size+1≤9223372036854775807
                  ·rw [if_pos c30] at H
                   have c30b0:=eq_true c30
                   have c30b1:decide (((((((((rdOf ByteArray.empty t191 (ji13))++(⟨#[44,32]⟩:ByteArray))++t195)++(⟨#[32]⟩:ByteArray))++(rdOf ByteArray.empty t196 (ji21)))++(⟨#[32]⟩:ByteArray))++t200)++t201).size+1≤9223372036854775807)=true:=decide_eq_true c30
                   try have c30b2:(9223372036854775807 < ((((((((rdOf ByteArray.empty t191 (ji13))++(⟨#[44,32]⟩:ByteArray))++t195)++(⟨#[32]⟩:ByteArray))++(rdOf ByteArray.empty t196 (ji21)))++(⟨#[32]⟩:ByteArray))++t200)++t201).size+1)=False:=eq_false (Nat.not_lt.2 c30)
                   replace H:=Option.bind_eq_some_iff.mp H
                   obtain ⟨t202,A310,H⟩:=H
                   replace H:(if (((((((((rdOf ByteArray.empty t191 (ji13))++(⟨#[44,32]⟩:ByteArray))++t195)++(⟨#[32]⟩:ByteArray))++(rdOf ByteArray.empty t196 (ji21)))++(⟨#[32]⟩:ByteArray))++t200)++t201)++(⟨#[32]⟩:ByteArray)).size+t202.size≤9223372036854775807 then (if ((((((((((rdOf ByteArray.empty t191 (ji13))++(⟨#[44,32]⟩:ByteArray))++t195)++(⟨#[32]⟩:ByteArray))++(rdOf ByteArray.empty t196 (ji21)))++(⟨#[32]⟩:ByteArray))++t200)++t201)++(⟨#[32]⟩:ByteArray))++t202).size+1≤9223372036854775807 then ((ambryref9_two.f (Int.tmod (wrap64 (Int.tdiv ((ji3) % 86400) 60)) 60)).bind fun t203=>(if (((((((((((rdOf ByteArray.empty t191 (ji13))++(⟨#[44,32]⟩:ByteArray))++t195)++(⟨#[32]⟩:ByteArray))++(rdOf ByteArray.empty t196 (ji21)))++(⟨#[32]⟩:ByteArray))++t200)++t201)++(⟨#[32]⟩:ByteArray))++t202)++(⟨#[58]⟩:ByteArray)).size+t203.size≤9223372036854775807 then (if ((((((((((((rdOf ByteArray.empty t191 (ji13))++(⟨#[44,32]⟩:ByteArray))++t195)++(⟨#[32]⟩:ByteArray))++(rdOf ByteArray.empty t196 (ji21)))++(⟨#[32]⟩:ByteArray))++t200)++t201)++(⟨#[32]⟩:ByteArray))++t202)++(⟨#[58]⟩:ByteArray))++t203).size+1≤9223372036854775807 then ((ambryref9_two.f (Int.tmod ((ji3) % 86400) 60)).bind fun t204=>(if (((((((((((((rdOf ByteArray.empty t191 (ji13))++(⟨#[44,32]⟩:ByteArray))++t195)++(⟨#[32]⟩:ByteArray))++(rdOf ByteArray.empty t196 (ji21)))++(⟨#[32]⟩:ByteArray))++t200)++t201)++(⟨#[32]⟩:ByteArray))++t202)++(⟨#[58]⟩:ByteArray))++t203)++(⟨#[58]⟩:ByteArray)).size+t204.size≤9223372036854775807 then (if ((((((((((((((rdOf ByteArray.empty t191 (ji13))++(⟨#[44,32]⟩:ByteArray))++t195)++(⟨#[32]⟩:ByteArray))++(rdOf ByteArray.empty t196 (ji21)))++(⟨#[32]⟩:ByteArray))++t200)++t201)++(⟨#[32]⟩:ByteArray))++t202)++(⟨#[58]⟩:ByteArray))++t203)++(⟨#[58]⟩:ByteArray))++t204).size+4≤9223372036854775807 then (some (((((((((((((((rdOf ByteArray.empty t191 (ji13))++(⟨#[44,32]⟩:ByteArray))++t195)++(⟨#[32]⟩:ByteArray))++(rdOf ByteArray.empty t196 (ji21)))++(⟨#[32]⟩:ByteArray))++t200)++t201)++(⟨#[32]⟩:ByteArray))++t202)++(⟨#[58]⟩:ByteArray))++t203)++(⟨#[58]⟩:ByteArray))++t204)++(⟨#[32,71,77,84]⟩:ByteArray))) else (none)) else (none))) else (none)) else (none))) else (none)) else (none))=some r:=H
                   have A31:=mkA A310
                   clear A310
                   by_cases c32:(((((((((rdOf ByteArray.empty t191 (ji13))++(⟨#[44,32]⟩:ByteArray))++t195)++(⟨#[32]⟩:ByteArray))++(rdOf ByteArray.empty t196 (ji21)))++(⟨#[32]⟩:ByteArray))++t200)++t201)++(⟨#[32]⟩:ByteArray)).size+t202.size≤9223372036854775807
                   ·rw [if_pos c32] at H
                    have c32b0:=eq_true c32
                    have c32b1:decide ((((((((((rdOf ByteArray.empty t191 (ji13))++(⟨#[44,32]⟩:ByteArray))++t195)++(⟨#[32]⟩:ByteArray))++(rdOf ByteArray.empty t196 (ji21)))++(⟨#[32]⟩:ByteArray))++t200)++t201)++(⟨#[32]⟩:ByteArray)).size+t202.size≤9223372036854775807)=true:=decide_eq_true c32
                    try have c32b2:(9223372036854775807 < (((((((((rdOf ByteArray.empty t191 (ji13))++(⟨#[44,32]⟩:ByteArray))++t195)++(⟨#[32]⟩:ByteArray))++(rdOf ByteArray.empty t196 (ji21)))++(⟨#[32]⟩:ByteArray))++t200)++t201)++(⟨#[32]⟩:ByteArray)).size+t202.size)=False:=eq_false (Nat.not_lt.2 c32)
                    by_cases c33:((((((((((rdOf ByteArray.empty t191 (ji13))++(⟨#[44,32]⟩:ByteArray))++t195)++(⟨#[32]⟩:ByteArray))++(rdOf ByteArray.empty t196 (ji21)))++(⟨#[32]⟩:ByteArray))++t200)++t201)++(⟨#[32]⟩:ByteArray))++t202).size+1≤9223372036854775807
                    ·rw [if_pos c33] at H
                     have c33b0:=eq_true c33
                     have c33b1:decide (((((((((((rdOf ByteArray.empty t191 (ji13))++(⟨#[44,32]⟩:ByteArray))++t195)++(⟨#[32]⟩:ByteArray))++(rdOf ByteArray.empty t196 (ji21)))++(⟨#[32]⟩:ByteArray))++t200)++t201)++(⟨#[32]⟩:ByteArray))++t202).size+1≤9223372036854775807)=true:=decide_eq_true c33
                     try have c33b2:(9223372036854775807 < ((((((((((rdOf ByteArray.empty t191 (ji13))++(⟨#[44,32]⟩:ByteArray))++t195)++(⟨#[32]⟩:ByteArray))++(rdOf ByteArray.empty t196 (ji21)))++(⟨#[32]⟩:ByteArray))++t200)++t201)++(⟨#[32]⟩:ByteArray))++t202).size+1)=False:=eq_false (Nat.not_lt.2 c33)
                     replace H:=Option.bind_eq_some_iff.mp H
                     obtain ⟨t203,A340,H⟩:=H
                     replace H:(if (((((((((((rdOf ByteArray.empty t191 (ji13))++(⟨#[44,32]⟩:ByteArray))++t195)++(⟨#[32]⟩:ByteArray))++(rdOf ByteArray.empty t196 (ji21)))++(⟨#[32]⟩:ByteArray))++t200)++t201)++(⟨#[32]⟩:ByteArray))++t202)++(⟨#[58]⟩:ByteArray)).size+t203.size≤9223372036854775807 then (if ((((((((((((rdOf ByteArray.empty t191 (ji13))++(⟨#[44,32]⟩:ByteArray))++t195)++(⟨#[32]⟩:ByteArray))++(rdOf ByteArray.empty t196 (ji21)))++(⟨#[32]⟩:ByteArray))++t200)++t201)++(⟨#[32]⟩:ByteArray))++t202)++(⟨#[58]⟩:ByteArray))++t203).size+1≤9223372036854775807 then ((ambryref9_two.f (Int.tmod ((ji3) % 86400) 60)).bind fun t204=>(if (((((((((((((rdOf ByteArray.empty t191 (ji13))++(⟨#[44,32]⟩:ByteArray))++t195)++(⟨#[32]⟩:ByteArray))++(rdOf ByteArray.empty t196 (ji21)))++(⟨#[32]⟩:ByteArray))++t200)++t201)++(⟨#[32]⟩:ByteArray))++t202)++(⟨#[58]⟩:ByteArray))++t203)++(⟨#[58]⟩:ByteArray)).size+t204.size≤9223372036854775807 then (if ((((((((((((((rdOf ByteArray.empty t191 (ji13))++(⟨#[44,32]⟩:ByteArray))++t195)++(⟨#[32]⟩:ByteArray))++(rdOf ByteArray.empty t196 (ji21)))++(⟨#[32]⟩:ByteArray))++t200)++t201)++(⟨#[32]⟩:ByteArray))++t202)++(⟨#[58]⟩:ByteArray))++t203)++(⟨#[58]⟩:ByteArray))++t204).size+4≤9223372036854775807 then (some (((((((((((((((rdOf ByteArray.empty t191 (ji13))++(⟨#[44,32]⟩:ByteArray))++t195)++(⟨#[32]⟩:ByteArray))++(rdOf ByteArray.empty t196 (ji21)))++(⟨#[32]⟩:ByteArray))++t200)++t201)++(⟨#[32]⟩:ByteArray))++t202)++(⟨#[58]⟩:ByteArray))++t203)++(⟨#[58]⟩:ByteArray))++t204)++(⟨#[32,71,77,84]⟩:ByteArray))) else (none)) else (none))) else (none)) else (none))=some r:=H
                     have A34:=mkA A340
                     clear A340
                     by_cases c35:(((((((((((rdOf ByteArray.empty t191 (ji13))++(⟨#[44,32]⟩:ByteArray))++t195)++(⟨#[32]⟩:ByteArray))++(rdOf ByteArray.empty t196 (ji21)))++(⟨#[32]⟩:ByteArray))++t200)++t201)++(⟨#[32]⟩:ByteArray))++t202)++(⟨#[58]⟩:ByteArray)).size+t203.size≤9223372036854775807
                     ·rw [if_pos c35] at H
                      have c35b0:=eq_true c35
                      have c35b1:decide ((((((((((((rdOf ByteArray.empty t191 (ji13))++(⟨#[44,32]⟩:ByteArray))++t195)++(⟨#[32]⟩:ByteArray))++(rdOf ByteArray.empty t196 (ji21)))++(⟨#[32]⟩:ByteArray))++t200)++t201)++(⟨#[32]⟩:ByteArray))++t202)++(⟨#[58]⟩:ByteArray)).size+t203.size≤9223372036854775807)=true:=decide_eq_true c35
                      try have c35b2:(9223372036854775807 < (((((((((((rdOf ByteArray.empty t191 (ji13))++(⟨#[44,32]⟩:ByteArray))++t195)++(⟨#[32]⟩:ByteArray))++(rdOf ByteArray.empty t196 (ji21)))++(⟨#[32]⟩:ByteArray))++t200)++t201)++(⟨#[32]⟩:ByteArray))++t202)++(⟨#[58]⟩:ByteArray)).size+t203.size)=False:=eq_false (Nat.not_lt.2 c35)
                      by_cases c36:((((((((((((rdOf ByteArray.empty t191 (ji13))++(⟨#[44,32]⟩:ByteArray))++t195)++(⟨#[32]⟩:ByteArray))++(rdOf ByteArray.empty t196 (ji21)))++(⟨#[32]⟩:ByteArray))++t200)++t201)++(⟨#[32]⟩:ByteArray))++t202)++(⟨#[58]⟩:ByteArray))++t203).size+1≤9223372036854775807
                      ·rw [if_pos c36] at H
                       have c36b0:=eq_true c36
                       have c36b1:decide (((((((((((((rdOf ByteArray.empty t191 (ji13))++(⟨#[44,32]⟩:ByteArray))++t195)++(⟨#[32]⟩:ByteArray))++(rdOf ByteArray.empty t196 (ji21)))++(⟨#[32]⟩:ByteArray))++t200)++t201)++(⟨#[32]⟩:ByteArray))++t202)++(⟨#[58]⟩:ByteArray))++t203).size+1≤9223372036854775807)=true:=decide_eq_true c36
                       try have c36b2:(9223372036854775807 < ((((((((((((rdOf ByteArray.empty t191 (ji13))++(⟨#[44,32]⟩:ByteArray))++t195)++(⟨#[32]⟩:ByteArray))++(rdOf ByteArray.empty t196 (ji21)))++(⟨#[32]⟩:ByteArray))++t200)++t201)++(⟨#[32]⟩:ByteArray))++t202)++(⟨#[58]⟩:ByteArray))++t203).size+1)=False:=eq_false (Nat.not_lt.2 c36)
                       replace H:=Option.bind_eq_some_iff.mp H
                       obtain ⟨t204,A370,H⟩:=H
                       replace H:(if (((((((((((((rdOf ByteArray.empty t191 (ji13))++(⟨#[44,32]⟩:ByteArray))++t195)++(⟨#[32]⟩:ByteArray))++(rdOf ByteArray.empty t196 (ji21)))++(⟨#[32]⟩:ByteArray))++t200)++t201)++(⟨#[32]⟩:ByteArray))++t202)++(⟨#[58]⟩:ByteArray))++t203)++(⟨#[58]⟩:ByteArray)).size+t204.size≤9223372036854775807 then (if ((((((((((((((rdOf ByteArray.empty t191 (ji13))++(⟨#[44,32]⟩:ByteArray))++t195)++(⟨#[32]⟩:ByteArray))++(rdOf ByteArray.empty t196 (ji21)))++(⟨#[32]⟩:ByteArray))++t200)++t201)++(⟨#[32]⟩:ByteArray))++t202)++(⟨#[58]⟩:ByteArray))++t203)++(⟨#[58]⟩:ByteArray))++t204).size+4≤9223372036854775807 then (some (((((((((((((((rdOf ByteArray.empty t191 (ji13))++(⟨#[44,32]⟩:ByteArray))++t195)++(⟨#[32]⟩:ByteArray))++(rdOf ByteArray.empty t196 (ji21)))++(⟨#[32]⟩:ByteArray))++t200)++t201)++(⟨#[32]⟩:ByteArray))++t202)++(⟨#[58]⟩:ByteArray))++t203)++(⟨#[58]⟩:ByteArray))++t204)++(⟨#[32,71,77,84]⟩:ByteArray))) else (none)) else (none))=some r:=H
                       have A37:=mkA A370
                       clear A370
                       by_cases c38:(((((((((((((rdOf ByteArray.empty t191 (ji13))++(⟨#[44,32]⟩:ByteArray))++t195)++(⟨#[32]⟩:ByteArray))++(rdOf ByteArray.empty t196 (ji21)))++(⟨#[32]⟩:ByteArray))++t200)++t201)++(⟨#[32]⟩:ByteArray))++t202)++(⟨#[58]⟩:ByteArray))++t203)++(⟨#[58]⟩:ByteArray)).size+t204.size≤9223372036854775807
                       ·rw [if_pos c38] at H
                        have c38b0:=eq_true c38
                        have c38b1:decide ((((((((((((((rdOf ByteArray.empty t191 (ji13))++(⟨#[44,32]⟩:ByteArray))++t195)++(⟨#[32]⟩:ByteArray))++(rdOf ByteArray.empty t196 (ji21)))++(⟨#[32]⟩:ByteArray))++t200)++t201)++(⟨#[32]⟩:ByteArray))++t202)++(⟨#[58]⟩:ByteArray))++t203)++(⟨#[58]⟩:ByteArray)).size+t204.size≤9223372036854775807)=true:=decide_eq_true c38
                        try have c38b2:(9223372036854775807 < (((((((((((((rdOf ByteArray.empty t191 (ji13))++(⟨#[44,32]⟩:ByteArray))++t195)++(⟨#[32]⟩:ByteArray))++(rdOf ByteArray.empty t196 (ji21)))++(⟨#[32]⟩:ByteArray))++t200)++t201)++(⟨#[32]⟩:ByteArray))++t202)++(⟨#[58]⟩:ByteArray))++t203)++(⟨#[58]⟩:ByteArray)).size+t204.size)=False:=eq_false (Nat.not_lt.2 c38)
                        by_cases c39:((((((((((((((rdOf ByteArray.empty t191 (ji13))++(⟨#[44,32]⟩:ByteArray))++t195)++(⟨#[32]⟩:ByteArray))++(rdOf ByteArray.empty t196 (ji21)))++(⟨#[32]⟩:ByteArray))++t200)++t201)++(⟨#[32]⟩:ByteArray))++t202)++(⟨#[58]⟩:ByteArray))++t203)++(⟨#[58]⟩:ByteArray))++t204).size+4≤9223372036854775807
                        ·rw [if_pos c39] at H
                         have c39b0:=eq_true c39
                         have c39b1:decide (((((((((((((((rdOf ByteArray.empty t191 (ji13))++(⟨#[44,32]⟩:ByteArray))++t195)++(⟨#[32]⟩:ByteArray))++(rdOf ByteArray.empty t196 (ji21)))++(⟨#[32]⟩:ByteArray))++t200)++t201)++(⟨#[32]⟩:ByteArray))++t202)++(⟨#[58]⟩:ByteArray))++t203)++(⟨#[58]⟩:ByteArray))++t204).size+4≤9223372036854775807)=true:=decide_eq_true c39
                         try have c39b2:(9223372036854775807 < ((((((((((((((rdOf ByteArray.empty t191 (ji13))++(⟨#[44,32]⟩:ByteArray))++t195)++(⟨#[32]⟩:ByteArray))++(rdOf ByteArray.empty t196 (ji21)))++(⟨#[32]⟩:ByteArray))++t200)++t201)++(⟨#[32]⟩:ByteArray))++t202)++(⟨#[58]⟩:ByteArray))++t203)++(⟨#[58]⟩:ByteArray))++t204).size+4)=False:=eq_false (Nat.not_lt.2 c39)
                         obtain rfl:=Option.some.inj H
                         try go_wp2_with (first|((with_reducible refine gate_callee (f:=40) rfl ?_);refine goesL_ (some 32) rfl rfl Tryz.func40 (by kernel_rfl) rfl #[.int .i64 x5_1,.int .i64 x7_2] rfl (by (try simp only [List.map_toArray,List.map_cons,List.map_nil]);first|done|rfl|(simp only [List.length_drop,List.length_take];rfl)) ?_;(with_reducible refine (ambryref9_length.calls x5_1 x7_2 t189 _ A7.out).mono ?_);rintro e w40 ⟨rfl,hb⟩;refine ⟨_,rfl,?_⟩;have n0_:=mkA (below_step (by repeat (first|(with_reducible first|exact HB.out|apply below_alloc|apply pw_below_drewN|apply below_drew1)|exact HB.out)) hb);clear HB;have HB:=n0_;clear n0_;(try clear hb);(try clear hb2);(try clear hk);(try clear hi)))
                         have n0_:=mkA (below_drew1 HB.out)
                         clear HB
                         have HB:=n0_
                         clear n0_
                         have hz_:(rdOf ByteArray.empty t191 (ji13)).size+2+t195.size+1+(rdOf ByteArray.empty t196 (ji21)).size+1+t200.size+t201.size+1+t202.size+1+t203.size+1+t204.size+4≤9223372036854775807:=by have h_:=c39;simp only [ByteArray.size_append] at h_;exact h_
                         have z0_:(9223372036854775807 < (rdOf ByteArray.empty t191 (ji13)).size+2)=False:=eq_false (by omega)
                         have z1_:(9223372036854775807 < (rdOf ByteArray.empty t191 (ji13)).size+2+t195.size)=False:=eq_false (by omega)
                         have z2_:(9223372036854775807 < (rdOf ByteArray.empty t191 (ji13)).size+2+t195.size+1)=False:=eq_false (by omega)
                         have z3_:(9223372036854775807 < (rdOf ByteArray.empty t191 (ji13)).size+2+t195.size+1+(rdOf ByteArray.empty t196 (ji21)).size)=False:=eq_false (by omega)
                         have z4_:(9223372036854775807 < (rdOf ByteArray.empty t191 (ji13)).size+2+t195.size+1+(rdOf ByteArray.empty t196 (ji21)).size+1)=False:=eq_false (by omega)
                         have z5_:(9223372036854775807 < (rdOf ByteArray.empty t191 (ji13)).size+2+t195.size+1+(rdOf ByteArray.empty t196 (ji21)).size+1+t200.size)=False:=eq_false (by omega)
                         have z6_:(9223372036854775807 < (rdOf ByteArray.empty t191 (ji13)).size+2+t195.size+1+(rdOf ByteArray.empty t196 (ji21)).size+1+t200.size+t201.size)=False:=eq_false (by omega)
                         have z7_:(9223372036854775807 < (rdOf ByteArray.empty t191 (ji13)).size+2+t195.size+1+(rdOf ByteArray.empty t196 (ji21)).size+1+t200.size+t201.size+1)=False:=eq_false (by omega)
                         have z8_:(9223372036854775807 < (rdOf ByteArray.empty t191 (ji13)).size+2+t195.size+1+(rdOf ByteArray.empty t196 (ji21)).size+1+t200.size+t201.size+1+t202.size)=False:=eq_false (by omega)
                         have z9_:(9223372036854775807 < (rdOf ByteArray.empty t191 (ji13)).size+2+t195.size+1+(rdOf ByteArray.empty t196 (ji21)).size+1+t200.size+t201.size+1+t202.size+1)=False:=eq_false (by omega)
                         have z10_:(9223372036854775807 < (rdOf ByteArray.empty t191 (ji13)).size+2+t195.size+1+(rdOf ByteArray.empty t196 (ji21)).size+1+t200.size+t201.size+1+t202.size+1+t203.size)=False:=eq_false (by omega)
                         have z11_:(9223372036854775807 < (rdOf ByteArray.empty t191 (ji13)).size+2+t195.size+1+(rdOf ByteArray.empty t196 (ji21)).size+1+t200.size+t201.size+1+t202.size+1+t203.size+1)=False:=eq_false (by omega)
                         have z12_:(9223372036854775807 < (rdOf ByteArray.empty t191 (ji13)).size+2+t195.size+1+(rdOf ByteArray.empty t196 (ji21)).size+1+t200.size+t201.size+1+t202.size+1+t203.size+1+t204.size)=False:=eq_false (by omega)
                         have z13_:(9223372036854775807 < (rdOf ByteArray.empty t191 (ji13)).size+2+t195.size+1+(rdOf ByteArray.empty t196 (ji21)).size+1+t200.size+t201.size+1+t202.size+1+t203.size+1+t204.size+4)=False:=eq_false (by omega)
                         clear hz_
                         refine start_ (n:=45) (S:=fun w'=>True) (ds:=[]) #[qf,qf,qf,qf,qf,qf,qf,qf,qf,qf,qf,qf,qf,qf,qf,qf,qf,qf,qf,qf,qf,qf,qf,qf,qf,qf,qf,qf,qf,qf,qf,qf,qf,qf,qf,qf,qf,qf,qf,qf,qf,qf,qf,qf,qf] (by kernel_rfl) rfl rfl trivial (fun hHeld=>?_);refine with_tabW ambryref9_Text.tab11 ambryref9_Text.bits11 (fun HT_ HW_=>?_)
                         generalize w40.drew=w41 at HB ⊢
                         refine pure_ (i:=1) (N:=some 42) (v:=?_) (a':=?_) #[qf,qt,qf,qf,qf,qf,qf,qf,qf,qf,qf,qf,qf,qf,qf,qf,qf,qf,qf,qf,qf,qf,qf,qf,qf,qf,qf,qf,qf,qf,qf,qf,qf,qf,qf,qf,qf,qf,qf,qf,qf,qf,qf,qf,qf] rfl rfl (any_of HT_.out (by kernel_rfl)) (fun _ _ _ h=>h) (Or.inl ⟨by rfl,?_⟩) ?_ ?_
                         rotate_left
                         ·intro w'
                          go_simp
                          with_reducible rfl
                         rotate_left
                         ·simp only [Act.put,sAx,sBx,sCx,i64_w,i32_w]
                          rfl
                         refine pure_ (i:=2) (N:=some 43) (v:=?_) (a':=?_) #[qf,qt,qt,qf,qf,qf,qf,qf,qf,qf,qf,qf,qf,qf,qf,qf,qf,qf,qf,qf,qf,qf,qf,qf,qf,qf,qf,qf,qf,qf,qf,qf,qf,qf,qf,qf,qf,qf,qf,qf,qf,qf,qf,qf,qf] rfl rfl (any_of HT_.out (by kernel_rfl)) (fun _ _ _ h=>h) (Or.inl ⟨by rfl,?_⟩) ?_ ?_
                         rotate_left
                         ·intro w'
                          go_simp
                          with_reducible rfl
                         rotate_left
                         ·simp only [Act.put,sAx,sBx,sCx,i64_w,i32_w]
                          rfl
                         refine pure_ (i:=3) (N:=some 44) (v:=?_) (a':=?_) #[qf,qt,qt,qt,qf,qf,qf,qf,qf,qf,qf,qf,qf,qf,qf,qf,qf,qf,qf,qf,qf,qf,qf,qf,qf,qf,qf,qf,qf,qf,qf,qf,qf,qf,qf,qf,qf,qf,qf,qf,qf,qf,qf,qf,qf] rfl rfl (any_of HT_.out (by kernel_rfl)) (fun _ _ _ h=>h) (Or.inl ⟨by rfl,?_⟩) ?_ ?_
                         rotate_left
                         ·intro w'
                          go_simp
                          with_reducible rfl
                         rotate_left
                         ·simp only [Act.put,sAx,sBx,sCx,i64_w,i32_w]
                          rfl
                         refine pure_ (i:=7) (N:=some 48) (v:=?_) (a':=?_) #[qf,qt,qt,qt,qf,qf,qf,qt,qf,qf,qf,qf,qf,qf,qf,qf,qf,qf,qf,qf,qf,qf,qf,qf,qf,qf,qf,qf,qf,qf,qf,qf,qf,qf,qf,qf,qf,qf,qf,qf,qf,qf,qf,qf,qf] rfl rfl (any_of HT_.out (by kernel_rfl)) (fun _ _ _ h=>h) (Or.inl ⟨by rfl,?_⟩) ?_ ?_
                         rotate_left
                         ·intro w'
                          go_simp
                          with_reducible rfl
                         rotate_left
                         ·simp only [Act.put,sAx,sBx,sCx,i64_w,i32_w]
                          rfl
                         refine pure_ (i:=8) (N:=some 49) (v:=?_) (a':=?_) #[qf,qt,qt,qt,qf,qf,qf,qt,qt,qf,qf,qf,qf,qf,qf,qf,qf,qf,qf,qf,qf,qf,qf,qf,qf,qf,qf,qf,qf,qf,qf,qf,qf,qf,qf,qf,qf,qf,qf,qf,qf,qf,qf,qf,qf] rfl rfl (any_of HT_.out (by kernel_rfl)) (fun _ _ _ h=>h) (Or.inl ⟨by rfl,?_⟩) ?_ ?_
                         rotate_left
                         ·intro w'
                          go_simp
                          with_reducible rfl
                         rotate_left
                         ·simp only [Act.put,sAx,sBx,sCx,i64_w,i32_w]
                          rfl
                         refine pure_ (i:=13) (N:=some 54) (v:=?_) (a':=?_) #[qf,qt,qt,qt,qf,qf,qf,qt,qt,qf,qf,qf,qf,qt,qf,qf,qf,qf,qf,qf,qf,qf,qf,qf,qf,qf,qf,qf,qf,qf,qf,qf,qf,qf,qf,qf,qf,qf,qf,qf,qf,qf,qf,qf,qf] rfl rfl (any_of HT_.out (by kernel_rfl)) (fun _ _ _ h=>h) (Or.inl ⟨by rfl,?_⟩) ?_ ?_
                         rotate_left
                         ·intro w'
                          go_simp
                          with_reducible rfl
                         rotate_left
                         ·simp only [Act.put,sAx,sBx,sCx,i64_w,i32_w]
                          rfl
                         refine pure_ (i:=14) (N:=some 55) (v:=?_) (a':=?_) #[qf,qt,qt,qt,qf,qf,qf,qt,qt,qf,qf,qf,qf,qt,qt,qf,qf,qf,qf,qf,qf,qf,qf,qf,qf,qf,qf,qf,qf,qf,qf,qf,qf,qf,qf,qf,qf,qf,qf,qf,qf,qf,qf,qf,qf] rfl rfl (any_of HT_.out (by kernel_rfl)) (fun _ _ _ h=>h) (Or.inl ⟨by rfl,?_⟩) ?_ ?_
                         rotate_left
                         ·intro w'
                          go_simp
                          with_reducible rfl
                         rotate_left
                         ·simp only [Act.put,sAx,sBx,sCx,i64_w,i32_w]
                          rfl
                         refine pure_ (i:=19) (N:=some 60) (v:=?_) (a':=?_) #[qf,qt,qt,qt,qf,qf,qf,qt,qt,qf,qf,qf,qf,qt,qt,qf,qf,qf,qf,qt,qf,qf,qf,qf,qf,qf,qf,qf,qf,qf,qf,qf,qf,qf,qf,qf,qf,qf,qf,qf,qf,qf,qf,qf,qf] rfl rfl (any_of HT_.out (by kernel_rfl)) (fun _ _ _ h=>h) (Or.inl ⟨by rfl,?_⟩) ?_ ?_
                         rotate_left
                         ·intro w'
                          go_simp
                          with_reducible rfl
                         rotate_left
                         ·simp only [Act.put,sAx,sBx,sCx,i64_w,i32_w]
                          rfl
                         refine pure_ (i:=20) (N:=some 61) (v:=?_) (a':=?_) #[qf,qt,qt,qt,qf,qf,qf,qt,qt,qf,qf,qf,qf,qt,qt,qf,qf,qf,qf,qt,qt,qf,qf,qf,qf,qf,qf,qf,qf,qf,qf,qf,qf,qf,qf,qf,qf,qf,qf,qf,qf,qf,qf,qf,qf] rfl rfl (any_of HT_.out (by kernel_rfl)) (fun _ _ _ h=>h) (Or.inl ⟨by rfl,?_⟩) ?_ ?_
                         rotate_left
                         ·intro w'
                          go_simp
                          with_reducible rfl
                         rotate_left
                         ·simp only [Act.put,sAx,sBx,sCx,i64_w,i32_w]
                          rfl
                         refine pure_ (i:=23) (N:=some 64) (v:=?_) (a':=?_) #[qf,qt,qt,qt,qf,qf,qf,qt,qt,qf,qf,qf,qf,qt,qt,qf,qf,qf,qf,qt,qt,qf,qf,qt,qf,qf,qf,qf,qf,qf,qf,qf,qf,qf,qf,qf,qf,qf,qf,qf,qf,qf,qf,qf,qf] rfl rfl (any_of HT_.out (by kernel_rfl)) (fun _ _ _ h=>h) (Or.inl ⟨by rfl,?_⟩) ?_ ?_
                         rotate_left
                         ·intro w'
                          go_simp
                          with_reducible rfl
                         rotate_left
                         ·simp only [Act.put,sAx,sBx,sCx,i64_w,i32_w]
                          rfl
                         refine pure_ (i:=24) (N:=some 65) (v:=?_) (a':=?_) #[qf,qt,qt,qt,qf,qf,qf,qt,qt,qf,qf,qf,qf,qt,qt,qf,qf,qf,qf,qt,qt,qf,qf,qt,qt,qf,qf,qf,qf,qf,qf,qf,qf,qf,qf,qf,qf,qf,qf,qf,qf,qf,qf,qf,qf] rfl rfl (any_of HT_.out (by kernel_rfl)) (fun _ _ _ h=>h) (Or.inl ⟨by rfl,?_⟩) ?_ ?_
                         rotate_left
                         ·intro w'
                          go_simp
                          with_reducible rfl
                         rotate_left
                         ·simp only [Act.put,sAx,sBx,sCx,i64_w,i32_w]
                          rfl
                         refine pure_ (i:=28) (N:=some 69) (v:=?_) (a':=?_) #[qf,qt,qt,qt,qf,qf,qf,qt,qt,qf,qf,qf,qf,qt,qt,qf,qf,qf,qf,qt,qt,qf,qf,qt,qt,qf,qf,qf,qt,qf,qf,qf,qf,qf,qf,qf,qf,qf,qf,qf,qf,qf,qf,qf,qf] rfl rfl (any_of HT_.out (by kernel_rfl)) (fun _ _ _ h=>h) (Or.inl ⟨by rfl,?_⟩) ?_ ?_
                         rotate_left
                         ·intro w'
                          go_simp
                          with_reducible rfl
                         rotate_left
                         ·simp only [Act.put,sAx,sBx,sCx,i64_w,i32_w]
                          rfl
                         refine pure_ (i:=29) (N:=some 70) (v:=?_) (a':=?_) #[qf,qt,qt,qt,qf,qf,qf,qt,qt,qf,qf,qf,qf,qt,qt,qf,qf,qf,qf,qt,qt,qf,qf,qt,qt,qf,qf,qf,qt,qt,qf,qf,qf,qf,qf,qf,qf,qf,qf,qf,qf,qf,qf,qf,qf] rfl rfl (any_of HT_.out (by kernel_rfl)) (fun _ _ _ h=>h) (Or.inl ⟨by rfl,?_⟩) ?_ ?_
                         rotate_left
                         ·intro w'
                          go_simp
                          with_reducible rfl
                         rotate_left
                         ·simp only [Act.put,sAx,sBx,sCx,i64_w,i32_w]
                          rfl
                         refine pure_ (i:=33) (N:=some 74) (v:=?_) (a':=?_) #[qf,qt,qt,qt,qf,qf,qf,qt,qt,qf,qf,qf,qf,qt,qt,qf,qf,qf,qf,qt,qt,qf,qf,qt,qt,qf,qf,qf,qt,qt,qf,qf,qf,qt,qf,qf,qf,qf,qf,qf,qf,qf,qf,qf,qf] rfl rfl (any_of HT_.out (by kernel_rfl)) (fun _ _ _ h=>h) (Or.inl ⟨by rfl,?_⟩) ?_ ?_
                         rotate_left
                         ·intro w'
                          go_simp
                          with_reducible rfl
                         rotate_left
                         ·simp only [Act.put,sAx,sBx,sCx,i64_w,i32_w]
                          rfl
                         refine pure_ (i:=34) (N:=some 75) (v:=?_) (a':=?_) #[qf,qt,qt,qt,qf,qf,qf,qt,qt,qf,qf,qf,qf,qt,qt,qf,qf,qf,qf,qt,qt,qf,qf,qt,qt,qf,qf,qf,qt,qt,qf,qf,qf,qt,qt,qf,qf,qf,qf,qf,qf,qf,qf,qf,qf] rfl rfl (any_of HT_.out (by kernel_rfl)) (fun _ _ _ h=>h) (Or.inl ⟨by rfl,?_⟩) ?_ ?_
                         rotate_left
                         ·intro w'
                          go_simp
                          with_reducible rfl
                         rotate_left
                         ·simp only [Act.put,sAx,sBx,sCx,i64_w,i32_w]
                          rfl
                         refine pure_ (i:=35) (N:=some 76) (v:=?_) (a':=?_) #[qf,qt,qt,qt,qf,qf,qf,qt,qt,qf,qf,qf,qf,qt,qt,qf,qf,qf,qf,qt,qt,qf,qf,qt,qt,qf,qf,qf,qt,qt,qf,qf,qf,qt,qt,qt,qf,qf,qf,qf,qf,qf,qf,qf,qf] rfl rfl (any_of HT_.out (by kernel_rfl)) (fun _ _ _ h=>h) (Or.inl ⟨by rfl,?_⟩) ?_ ?_
                         rotate_left
                         ·intro w'
                          go_simp
                          with_reducible rfl
                         rotate_left
                         ·simp only [Act.put,sAx,sBx,sCx,i64_w,i32_w]
                          rfl
                         refine pure_ (i:=39) (N:=some 80) (v:=?_) (a':=?_) #[qf,qt,qt,qt,qf,qf,qf,qt,qt,qf,qf,qf,qf,qt,qt,qf,qf,qf,qf,qt,qt,qf,qf,qt,qt,qf,qf,qf,qt,qt,qf,qf,qf,qt,qt,qt,qf,qf,qf,qt,qf,qf,qf,qf,qf] rfl rfl (any_of HT_.out (by kernel_rfl)) (fun _ _ _ h=>h) (Or.inl ⟨by rfl,?_⟩) ?_ ?_
                         rotate_left
                         ·intro w'
                          go_simp
                          with_reducible rfl
                         rotate_left
                         ·simp only [Act.put,sAx,sBx,sCx,i64_w,i32_w]
                          rfl
                         refine pure_ (i:=40) (N:=some 81) (v:=?_) (a':=?_) #[qf,qt,qt,qt,qf,qf,qf,qt,qt,qf,qf,qf,qf,qt,qt,qf,qf,qf,qf,qt,qt,qf,qf,qt,qt,qf,qf,qf,qt,qt,qf,qf,qf,qt,qt,qt,qf,qf,qf,qt,qt,qf,qf,qf,qf] rfl rfl (any_of HT_.out (by kernel_rfl)) (fun _ _ _ h=>h) (Or.inl ⟨by rfl,?_⟩) ?_ ?_
                         rotate_left
                         ·intro w'
                          go_simp
                          with_reducible rfl
                         rotate_left
                         ·simp only [Act.put,sAx,sBx,sCx,i64_w,i32_w]
                          rfl
                         refine one_ (i:=0) (N:=some 41) #[qt,qt,qt,qt,qf,qf,qf,qt,qt,qf,qf,qf,qf,qt,qt,qf,qf,qf,qf,qt,qt,qf,qf,qt,qt,qf,qf,qf,qt,qt,qf,qf,qf,qt,qt,qt,qf,qf,qf,qt,qt,qf,qf,qf,qf] rfl rfl (one_of HT_.out (by kernel_rfl)) (by decide) (fun K hK=>?_)
                         refine goes_ Tryz.func41 (by kernel_rfl) rfl #[] (by rfl) rfl rfl (by (try simp only [List.map_toArray,List.map_cons,List.map_nil]);first|done|rfl|(simp only [List.length_drop,List.length_take];rfl)) ?_
                         with_reducible refine (ambryref9_days.calls  t191 _ A12.out).mono ?_
                         rintro e w42 ⟨v192,rfl,ho0,hb⟩
                         refine ⟨_,rfl,?_⟩
                         have n0_:=mkA (Kd.R_lower ho0 (below_size (by repeat (first|(with_reducible first|exact HB.out|apply below_alloc|apply pw_below_drewN|apply below_drew1)|exact HB.out))))
                         have n1_:=mkA (below_step (by repeat (first|(with_reducible first|exact HB.out|apply below_alloc|apply pw_below_drewN|apply below_drew1)|exact HB.out)) hb)
                         clear HB
                         have HO193:=n0_
                         have HB:=n1_
                         clear n0_ n1_
                         (try clear hb)
                         (try clear hb2)
                         (try clear hk)
                         (try clear hi)
                         (try clear ho0)
                         obtain ⟨Ao43,co43,eo43⟩:=Kd.R_slice HO193.out
                         (first|subst eo43|(injection eo43 with f1_ f2_ f3_;have f4_:=f1_.symm;have f5_:=f3_.symm;clear f1_ f2_ f3_;subst f4_;subst f5_))
                         have p194:0≤((ji13):Int):=of_decide_eq_true (by first|(with_reducible assumption)|assumption)
                         have q194:(ji13) < (t191.length:Int):=of_decide_eq_true (by first|(with_reducible assumption)|assumption)
                         obtain ⟨ad194,e194,hx194_0⟩:=Kd.at_string (Kd.R_reads' HO193.out).2.2 (ji13) p194 q194
                         cases e194
                         replace p194:=eq_true p194
                         replace q194:=eq_true q194
                         refine hK.out _ _ trivial (fun hHeld=>?_)
                         clear hK K
                         refine norm_ (a':=?_) ?_ ?_
                         rotate_left
                         ·show Act.put _ (some 41) _=_
                          simp only [Act.put,sAx,sBx,sCx,i64_w,i32_w]
                          rfl
                         refine anyLast_more (S':=fun w'=>w'.cell? (ad194.add ((ji13)).toNat)=some (.string (rdOf ByteArray.empty t191 (ji13)))) (fun _ _=>trivial) _ _ _ _ hx194_0 ?_
                         clear hHeld
                         have hHeld:=hx194_0
                         refine pure_ (i:=4) (N:=some 45) (v:=?_) (a':=?_) #[qt,qt,qt,qt,qt,qf,qf,qt,qt,qf,qf,qf,qf,qt,qt,qf,qf,qf,qf,qt,qt,qf,qf,qt,qt,qf,qf,qf,qt,qt,qf,qf,qf,qt,qt,qt,qf,qf,qf,qt,qt,qf,qf,qf,qf] rfl rfl (any_of HT_.out (by kernel_rfl)) (fun _ _ _ h=>h) (Or.inl ⟨by rfl,?_⟩) ?_ ?_
                         rotate_left
                         ·intro w'
                          go_simp
                          with_reducible rfl
                         rotate_left
                         ·simp only [Act.put,sAx,sBx,sCx,i64_w,i32_w]
                          rfl
                         refine take_ (i:=5) (N:=some 46) (v:=?_) (a':=?_) #[qt,qt,qt,qt,qt,qt,qf,qt,qt,qf,qf,qf,qf,qt,qt,qf,qf,qf,qf,qt,qt,qf,qf,qt,qt,qf,qf,qf,qt,qt,qf,qf,qf,qt,qt,qt,qf,qf,qf,qt,qt,qf,qf,qf,qf] rfl rfl (take_ofW HT_.out HW_.out (by kernel_rfl)) (fun _ _ _ h=>h) (Or.inl ⟨by rfl,?_⟩) hHeld ?_ ?_
                         rotate_left
                         ·intro w' s0
                          go_simp
                          with_reducible rfl
                         rotate_left
                         ·simp only [Act.put,sAx,sBx,sCx,i64_w,i32_w]
                          rfl
                         refine pure_ (i:=6) (N:=some 47) (v:=?_) (a':=?_) #[qt,qt,qt,qt,qt,qt,qt,qt,qt,qf,qf,qf,qf,qt,qt,qf,qf,qf,qf,qt,qt,qf,qf,qt,qt,qf,qf,qf,qt,qt,qf,qf,qf,qt,qt,qt,qf,qf,qf,qt,qt,qf,qf,qf,qf] rfl rfl (any_of HT_.out (by kernel_rfl)) (fun _ _ _ h=>h) (Or.inl ⟨by rfl,?_⟩) ?_ ?_
                         rotate_left
                         ·intro w'
                          go_simp
                          with_reducible rfl
                         rotate_left
                         ·simp only [Act.put,sAx,sBx,sCx,i64_w,i32_w]
                          rfl
                         refine one_ (i:=9) (N:=some 50) #[qt,qt,qt,qt,qt,qt,qt,qt,qt,qt,qf,qf,qf,qt,qt,qf,qf,qf,qf,qt,qt,qf,qf,qt,qt,qf,qf,qf,qt,qt,qf,qf,qf,qt,qt,qt,qf,qf,qf,qt,qt,qf,qf,qf,qf] rfl rfl (one_of HT_.out (by kernel_rfl)) (by decide) (fun K hK=>?_)
                         refine goes_ Tryz.func42 (by kernel_rfl) rfl #[.int .i64 (wrap64 (x6_2+1))] (by rfl) rfl rfl (by (try simp only [List.map_toArray,List.map_cons,List.map_nil]);first|done|rfl|(simp only [List.length_drop,List.length_take];rfl)) ?_
                         with_reducible refine (ambryref9_two.calls (wrap64 (x6_2+1)) t195 _ A17.out).mono ?_
                         rintro e w' ⟨rfl,⟨nd,rfl⟩⟩
                         refine ⟨_,rfl,?_⟩
                         refine hK.out _ _ hHeld (fun hHeld=>?_)
                         clear hK K
                         refine norm_ (a':=?_) ?_ ?_
                         rotate_left
                         ·show Act.put _ (some 50) _=_
                          simp only [Act.put,sAx,sBx,sCx,i64_w,i32_w]
                          rfl
                         refine pure_ (i:=10) (N:=some 51) (v:=?_) (a':=?_) #[qt,qt,qt,qt,qt,qt,qt,qt,qt,qt,qt,qf,qf,qt,qt,qf,qf,qf,qf,qt,qt,qf,qf,qt,qt,qf,qf,qf,qt,qt,qf,qf,qf,qt,qt,qt,qf,qf,qf,qt,qt,qf,qf,qf,qf] rfl rfl (any_of HT_.out (by kernel_rfl)) (fun _ _ _ h=>h) (Or.inl ⟨by rfl,?_⟩) ?_ ?_
                         rotate_left
                         ·intro w'
                          go_simp
                          with_reducible rfl
                         rotate_left
                         ·simp only [Act.put,sAx,sBx,sCx,i64_w,i32_w]
                          rfl
                         refine pure_ (i:=11) (N:=some 52) (v:=?_) (a':=?_) #[qt,qt,qt,qt,qt,qt,qt,qt,qt,qt,qt,qt,qf,qt,qt,qf,qf,qf,qf,qt,qt,qf,qf,qt,qt,qf,qf,qf,qt,qt,qf,qf,qf,qt,qt,qt,qf,qf,qf,qt,qt,qf,qf,qf,qf] rfl rfl (any_of HT_.out (by kernel_rfl)) (fun _ _ _ h=>h) (Or.inl ⟨by rfl,?_⟩) ?_ ?_
                         rotate_left
                         ·intro w'
                          go_simp
                          with_reducible rfl
                         rotate_left
                         ·simp only [Act.put,sAx,sBx,sCx,i64_w,i32_w]
                          rfl
                         refine one_ (i:=12) (N:=some 53) #[qt,qt,qt,qt,qt,qt,qt,qt,qt,qt,qt,qt,qt,qt,qt,qf,qf,qf,qf,qt,qt,qf,qf,qt,qt,qf,qf,qf,qt,qt,qf,qf,qf,qt,qt,qt,qf,qf,qf,qt,qt,qf,qf,qf,qf] rfl rfl (one_of HT_.out (by kernel_rfl)) (by decide) (fun K hK=>?_)
                         refine goes_ Tryz.func43 (by kernel_rfl) rfl #[] (by rfl) rfl rfl (by (try simp only [List.map_toArray,List.map_cons,List.map_nil]);first|done|rfl|(simp only [List.length_drop,List.length_take];rfl)) ?_
                         with_reducible refine (ambryref9_months.calls  t196 _ A20.out).mono ?_
                         rintro e w44 ⟨v197,rfl,ho0,hb⟩
                         have HS0_:=(hb.cell (World.block_lt_of_cell? _ _ hHeld)).trans hHeld
                         refine ⟨_,rfl,?_⟩
                         have n0_:=mkA (Kd.R_elder' (by (with_reducible repeat (first|apply Kd.R_alloc|apply Kd.R_drewN|apply Kd.R_drew));exact HO193.out) (Kd.R_base ho0) hb)
                         have n1_:=mkA (Kd.R_lower (Kd.R_new' ho0 (Kd.R_lt (by (with_reducible repeat (first|apply Kd.R_alloc|apply Kd.R_drewN|apply Kd.R_drew));exact HO193.out))) (below_size (by repeat (first|(with_reducible first|exact HB.out|apply below_alloc|apply pw_below_drewN|apply below_drew1)|exact HB.out))))
                         have n2_:=mkA (below_step (by repeat (first|(with_reducible first|exact HB.out|apply below_alloc|apply pw_below_drewN|apply below_drew1)|exact HB.out)) hb)
                         clear HO193
                         clear HB
                         have HO193:=n0_
                         have HO198:=n1_
                         have HB:=n2_
                         clear n0_ n1_ n2_
                         (try clear hb)
                         (try clear hb2)
                         (try clear hk)
                         (try clear hi)
                         (try clear ho0)
                         obtain ⟨Ao45,co45,eo45⟩:=Kd.R_slice HO198.out
                         (first|subst eo45|(injection eo45 with f1_ f2_ f3_;have f4_:=f1_.symm;have f5_:=f3_.symm;clear f1_ f2_ f3_;subst f4_;subst f5_))
                         have p199:0≤((ji21):Int):=of_decide_eq_true (by first|(with_reducible assumption)|assumption)
                         have q199:(ji21) < (t196.length:Int):=of_decide_eq_true (by first|(with_reducible assumption)|assumption)
                         obtain ⟨ad199,e199,hx199_0⟩:=Kd.at_string (Kd.R_reads' HO198.out).2.2 (ji21) p199 q199
                         cases e199
                         replace p199:=eq_true p199
                         replace q199:=eq_true q199
                         refine hK.out _ _ HS0_ (fun hHeld=>?_)
                         clear hK K
                         refine norm_ (a':=?_) ?_ ?_
                         rotate_left
                         ·show Act.put _ (some 53) _=_
                          simp only [Act.put,sAx,sBx,sCx,i64_w,i32_w]
                          rfl
                         refine anyLast_more (S':=fun w'=>w'.cell? (ad194.add ((ji13)).toNat)=some (.string (rdOf ByteArray.empty t191 (ji13)))∧w'.cell? (ad199.add ((ji21)).toNat)=some (.string (rdOf ByteArray.empty t196 (ji21)))) (fun _ h_=>h_.1) _ _ _ _ ⟨hHeld,hx199_0⟩ ?_
                         replace hHeld:=And.intro hHeld hx199_0
                         refine pure_ (i:=15) (N:=some 56) (v:=?_) (a':=?_) #[qt,qt,qt,qt,qt,qt,qt,qt,qt,qt,qt,qt,qt,qt,qt,qt,qf,qf,qf,qt,qt,qf,qf,qt,qt,qf,qf,qf,qt,qt,qf,qf,qf,qt,qt,qt,qf,qf,qf,qt,qt,qf,qf,qf,qf] rfl rfl (any_of HT_.out (by kernel_rfl)) (fun _ _ _ h=>h) (Or.inl ⟨by rfl,?_⟩) ?_ ?_
                         rotate_left
                         ·intro w'
                          go_simp
                          with_reducible rfl
                         rotate_left
                         ·simp only [Act.put,sAx,sBx,sCx,i64_w,i32_w]
                          rfl
                         refine take_ (i:=16) (N:=some 57) (v:=?_) (a':=?_) #[qt,qt,qt,qt,qt,qt,qt,qt,qt,qt,qt,qt,qt,qt,qt,qt,qt,qf,qf,qt,qt,qf,qf,qt,qt,qf,qf,qf,qt,qt,qf,qf,qf,qt,qt,qt,qf,qf,qf,qt,qt,qf,qf,qf,qf] rfl rfl (take_ofW HT_.out HW_.out (by kernel_rfl)) (fun _ _ _ h=>h) (Or.inl ⟨by rfl,?_⟩) hHeld ?_ ?_
                         rotate_left
                         ·rintro w' ⟨s0,s1⟩
                          go_simp
                          with_reducible rfl
                         rotate_left
                         ·simp only [Act.put,sAx,sBx,sCx,i64_w,i32_w]
                          rfl
                         refine pure_ (i:=17) (N:=some 58) (v:=?_) (a':=?_) #[qt,qt,qt,qt,qt,qt,qt,qt,qt,qt,qt,qt,qt,qt,qt,qt,qt,qt,qf,qt,qt,qf,qf,qt,qt,qf,qf,qf,qt,qt,qf,qf,qf,qt,qt,qt,qf,qf,qf,qt,qt,qf,qf,qf,qf] rfl rfl (any_of HT_.out (by kernel_rfl)) (fun _ _ _ h=>h) (Or.inl ⟨by rfl,?_⟩) ?_ ?_
                         rotate_left
                         ·intro w'
                          go_simp
                          with_reducible rfl
                         rotate_left
                         ·simp only [Act.put,sAx,sBx,sCx,i64_w,i32_w]
                          rfl
                         refine pure_ (i:=18) (N:=some 59) (v:=?_) (a':=?_) #[qt,qt,qt,qt,qt,qt,qt,qt,qt,qt,qt,qt,qt,qt,qt,qt,qt,qt,qt,qt,qt,qf,qf,qt,qt,qf,qf,qf,qt,qt,qf,qf,qf,qt,qt,qt,qf,qf,qf,qt,qt,qf,qf,qf,qf] rfl rfl (any_of HT_.out (by kernel_rfl)) (fun _ _ _ h=>h) (Or.inl ⟨by rfl,?_⟩) ?_ ?_
                         rotate_left
                         ·intro w'
                          go_simp
                          with_reducible rfl
                         rotate_left
                         ·simp only [Act.put,sAx,sBx,sCx,i64_w,i32_w]
                          rfl
                         refine one_ (i:=21) (N:=some 62) #[qt,qt,qt,qt,qt,qt,qt,qt,qt,qt,qt,qt,qt,qt,qt,qt,qt,qt,qt,qt,qt,qt,qf,qt,qt,qf,qf,qf,qt,qt,qf,qf,qf,qt,qt,qt,qf,qf,qf,qt,qt,qf,qf,qf,qf] rfl rfl (one_of HT_.out (by kernel_rfl)) (by decide) (fun K hK=>?_)
                         refine goes_ Tryz.func42 (by kernel_rfl) rfl #[.int .i64 (wrap64 (Int.tdiv x5_1 100))] (by rfl) rfl rfl (by (try simp only [List.map_toArray,List.map_cons,List.map_nil]);first|done|rfl|(simp only [List.length_drop,List.length_take];rfl)) ?_
                         with_reducible refine (ambryref9_two.calls (wrap64 (Int.tdiv x5_1 100)) t200 _ A26.out).mono ?_
                         rintro e w' ⟨rfl,⟨nd,rfl⟩⟩
                         refine ⟨_,rfl,?_⟩
                         refine hK.out _ _ ⟨hHeld.1,hHeld.2⟩ (fun hHeld=>?_)
                         clear hK K
                         refine norm_ (a':=?_) ?_ ?_
                         rotate_left
                         ·show Act.put _ (some 62) _=_
                          simp only [Act.put,sAx,sBx,sCx,i64_w,i32_w]
                          rfl
                         refine pure_ (i:=22) (N:=some 63) (v:=?_) (a':=?_) #[qt,qt,qt,qt,qt,qt,qt,qt,qt,qt,qt,qt,qt,qt,qt,qt,qt,qt,qt,qt,qt,qt,qt,qt,qt,qf,qf,qf,qt,qt,qf,qf,qf,qt,qt,qt,qf,qf,qf,qt,qt,qf,qf,qf,qf] rfl rfl (any_of HT_.out (by kernel_rfl)) (fun _ _ _ h=>h) (Or.inl ⟨by rfl,?_⟩) ?_ ?_
                         rotate_left
                         ·intro w'
                          go_simp
                          with_reducible rfl
                         rotate_left
                         ·simp only [Act.put,sAx,sBx,sCx,i64_w,i32_w]
                          rfl
                         refine one_ (i:=25) (N:=some 66) #[qt,qt,qt,qt,qt,qt,qt,qt,qt,qt,qt,qt,qt,qt,qt,qt,qt,qt,qt,qt,qt,qt,qt,qt,qt,qt,qf,qf,qt,qt,qf,qf,qf,qt,qt,qt,qf,qf,qf,qt,qt,qf,qf,qf,qf] rfl rfl (one_of HT_.out (by kernel_rfl)) (by decide) (fun K hK=>?_)
                         refine goes_ Tryz.func42 (by kernel_rfl) rfl #[.int .i64 (Int.tmod x5_1 100)] (by rfl) rfl rfl (by (try simp only [List.map_toArray,List.map_cons,List.map_nil]);first|done|rfl|(simp only [List.length_drop,List.length_take];rfl)) ?_
                         with_reducible refine (ambryref9_two.calls (Int.tmod x5_1 100) t201 _ A28.out).mono ?_
                         rintro e w' ⟨rfl,⟨nd,rfl⟩⟩
                         refine ⟨_,rfl,?_⟩
                         refine hK.out _ _ ⟨hHeld.1,hHeld.2⟩ (fun hHeld=>?_)
                         clear hK K
                         refine norm_ (a':=?_) ?_ ?_
                         rotate_left
                         ·show Act.put _ (some 66) _=_
                          simp only [Act.put,sAx,sBx,sCx,i64_w,i32_w]
                          rfl
                         refine pure_ (i:=26) (N:=some 67) (v:=?_) (a':=?_) #[qt,qt,qt,qt,qt,qt,qt,qt,qt,qt,qt,qt,qt,qt,qt,qt,qt,qt,qt,qt,qt,qt,qt,qt,qt,qt,qt,qf,qt,qt,qf,qf,qf,qt,qt,qt,qf,qf,qf,qt,qt,qf,qf,qf,qf] rfl rfl (any_of HT_.out (by kernel_rfl)) (fun _ _ _ h=>h) (Or.inl ⟨by rfl,?_⟩) ?_ ?_
                         rotate_left
                         ·intro w'
                          go_simp
                          with_reducible rfl
                         rotate_left
                         ·simp only [Act.put,sAx,sBx,sCx,i64_w,i32_w]
                          rfl
                         refine pure_ (i:=27) (N:=some 68) (v:=?_) (a':=?_) #[qt,qt,qt,qt,qt,qt,qt,qt,qt,qt,qt,qt,qt,qt,qt,qt,qt,qt,qt,qt,qt,qt,qt,qt,qt,qt,qt,qt,qt,qt,qf,qf,qf,qt,qt,qt,qf,qf,qf,qt,qt,qf,qf,qf,qf] rfl rfl (any_of HT_.out (by kernel_rfl)) (fun _ _ _ h=>h) (Or.inl ⟨by rfl,?_⟩) ?_ ?_
                         rotate_left
                         ·intro w'
                          go_simp
                          with_reducible rfl
                         rotate_left
                         ·simp only [Act.put,sAx,sBx,sCx,i64_w,i32_w]
                          rfl
                         refine one_ (i:=30) (N:=some 71) #[qt,qt,qt,qt,qt,qt,qt,qt,qt,qt,qt,qt,qt,qt,qt,qt,qt,qt,qt,qt,qt,qt,qt,qt,qt,qt,qt,qt,qt,qt,qt,qf,qf,qt,qt,qt,qf,qf,qf,qt,qt,qf,qf,qf,qf] rfl rfl (one_of HT_.out (by kernel_rfl)) (by decide) (fun K hK=>?_)
                         refine goes_ Tryz.func42 (by kernel_rfl) rfl #[.int .i64 (wrap64 (Int.tdiv ((ji3) % 86400) 3600))] (by rfl) rfl rfl (by (try simp only [List.map_toArray,List.map_cons,List.map_nil]);first|done|(simp only [hji3];rfl)|rfl|(simp only [List.length_drop,List.length_take];rfl)) ?_
                         with_reducible refine (ambryref9_two.calls (wrap64 (Int.tdiv ((ji3) % 86400) 3600)) t202 _ A31.out).mono ?_
                         rintro e w' ⟨rfl,⟨nd,rfl⟩⟩
                         refine ⟨_,rfl,?_⟩
                         refine hK.out _ _ ⟨hHeld.1,hHeld.2⟩ (fun hHeld=>?_)
                         clear hK K
                         refine norm_ (a':=?_) ?_ ?_
                         rotate_left
                         ·show Act.put _ (some 71) _=_
                          simp only [Act.put,sAx,sBx,sCx,i64_w,i32_w]
                          rfl
                         refine pure_ (i:=31) (N:=some 72) (v:=?_) (a':=?_) #[qt,qt,qt,qt,qt,qt,qt,qt,qt,qt,qt,qt,qt,qt,qt,qt,qt,qt,qt,qt,qt,qt,qt,qt,qt,qt,qt,qt,qt,qt,qt,qt,qf,qt,qt,qt,qf,qf,qf,qt,qt,qf,qf,qf,qf] rfl rfl (any_of HT_.out (by kernel_rfl)) (fun _ _ _ h=>h) (Or.inl ⟨by rfl,?_⟩) ?_ ?_
                         rotate_left
                         ·intro w'
                          go_simp
                          with_reducible rfl
                         rotate_left
                         ·simp only [Act.put,sAx,sBx,sCx,i64_w,i32_w]
                          rfl
                         refine pure_ (i:=32) (N:=some 73) (v:=?_) (a':=?_) #[qt,qt,qt,qt,qt,qt,qt,qt,qt,qt,qt,qt,qt,qt,qt,qt,qt,qt,qt,qt,qt,qt,qt,qt,qt,qt,qt,qt,qt,qt,qt,qt,qt,qt,qt,qt,qf,qf,qf,qt,qt,qf,qf,qf,qf] rfl rfl (any_of HT_.out (by kernel_rfl)) (fun _ _ _ h=>h) (Or.inl ⟨by rfl,?_⟩) ?_ ?_
                         rotate_left
                         ·intro w'
                          go_simp
                          with_reducible rfl
                         rotate_left
                         ·simp only [Act.put,sAx,sBx,sCx,i64_w,i32_w]
                          rfl
                         refine one_ (i:=36) (N:=some 77) #[qt,qt,qt,qt,qt,qt,qt,qt,qt,qt,qt,qt,qt,qt,qt,qt,qt,qt,qt,qt,qt,qt,qt,qt,qt,qt,qt,qt,qt,qt,qt,qt,qt,qt,qt,qt,qt,qf,qf,qt,qt,qf,qf,qf,qf] rfl rfl (one_of HT_.out (by kernel_rfl)) (by decide) (fun K hK=>?_)
                         refine goes_ Tryz.func42 (by kernel_rfl) rfl #[.int .i64 (Int.tmod (wrap64 (Int.tdiv ((ji3) % 86400) 60)) 60)] (by rfl) rfl rfl (by (try simp only [List.map_toArray,List.map_cons,List.map_nil]);first|done|(simp only [hji3];rfl)|rfl|(simp only [List.length_drop,List.length_take];rfl)) ?_
                         with_reducible refine (ambryref9_two.calls (Int.tmod (wrap64 (Int.tdiv ((ji3) % 86400) 60)) 60) t203 _ A34.out).mono ?_
                         rintro e w' ⟨rfl,⟨nd,rfl⟩⟩
                         refine ⟨_,rfl,?_⟩
                         refine hK.out _ _ ⟨hHeld.1,hHeld.2⟩ (fun hHeld=>?_)
                         clear hK K
                         refine norm_ (a':=?_) ?_ ?_
                         rotate_left
                         ·show Act.put _ (some 77) _=_
                          simp only [Act.put,sAx,sBx,sCx,i64_w,i32_w]
                          rfl
                         refine pure_ (i:=37) (N:=some 78) (v:=?_) (a':=?_) #[qt,qt,qt,qt,qt,qt,qt,qt,qt,qt,qt,qt,qt,qt,qt,qt,qt,qt,qt,qt,qt,qt,qt,qt,qt,qt,qt,qt,qt,qt,qt,qt,qt,qt,qt,qt,qt,qt,qf,qt,qt,qf,qf,qf,qf] rfl rfl (any_of HT_.out (by kernel_rfl)) (fun _ _ _ h=>h) (Or.inl ⟨by rfl,?_⟩) ?_ ?_
                         rotate_left
                         ·intro w'
                          go_simp
                          with_reducible rfl
                         rotate_left
                         ·simp only [Act.put,sAx,sBx,sCx,i64_w,i32_w]
                          rfl
                         refine pure_ (i:=38) (N:=some 79) (v:=?_) (a':=?_) #[qt,qt,qt,qt,qt,qt,qt,qt,qt,qt,qt,qt,qt,qt,qt,qt,qt,qt,qt,qt,qt,qt,qt,qt,qt,qt,qt,qt,qt,qt,qt,qt,qt,qt,qt,qt,qt,qt,qt,qt,qt,qf,qf,qf,qf] rfl rfl (any_of HT_.out (by kernel_rfl)) (fun _ _ _ h=>h) (Or.inl ⟨by rfl,?_⟩) ?_ ?_
                         rotate_left
                         ·intro w'
                          go_simp
                          with_reducible rfl
                         rotate_left
                         ·simp only [Act.put,sAx,sBx,sCx,i64_w,i32_w]
                          rfl
                         refine one_ (i:=41) (N:=some 82) #[qt,qt,qt,qt,qt,qt,qt,qt,qt,qt,qt,qt,qt,qt,qt,qt,qt,qt,qt,qt,qt,qt,qt,qt,qt,qt,qt,qt,qt,qt,qt,qt,qt,qt,qt,qt,qt,qt,qt,qt,qt,qt,qf,qf,qf] rfl rfl (one_of HT_.out (by kernel_rfl)) (by decide) (fun K hK=>?_)
                         refine goes_ Tryz.func42 (by kernel_rfl) rfl #[.int .i64 (Int.tmod ((ji3) % 86400) 60)] (by rfl) rfl rfl (by (try simp only [List.map_toArray,List.map_cons,List.map_nil]);first|done|(simp only [hji3];rfl)|rfl|(simp only [List.length_drop,List.length_take];rfl)) ?_
                         with_reducible refine (ambryref9_two.calls (Int.tmod ((ji3) % 86400) 60) t204 _ A37.out).mono ?_
                         rintro e w' ⟨rfl,⟨nd,rfl⟩⟩
                         refine ⟨_,rfl,?_⟩
                         refine hK.out _ _ ⟨hHeld.1,hHeld.2⟩ (fun hHeld=>?_)
                         clear hK K
                         refine norm_ (a':=?_) ?_ ?_
                         rotate_left
                         ·show Act.put _ (some 82) _=_
                          simp only [Act.put,sAx,sBx,sCx,i64_w,i32_w]
                          rfl
                         refine pure_ (i:=42) (N:=some 83) (v:=?_) (a':=?_) #[qt,qt,qt,qt,qt,qt,qt,qt,qt,qt,qt,qt,qt,qt,qt,qt,qt,qt,qt,qt,qt,qt,qt,qt,qt,qt,qt,qt,qt,qt,qt,qt,qt,qt,qt,qt,qt,qt,qt,qt,qt,qt,qt,qf,qf] rfl rfl (any_of HT_.out (by kernel_rfl)) (fun _ _ _ h=>h) (Or.inl ⟨by rfl,?_⟩) ?_ ?_
                         rotate_left
                         ·intro w'
                          go_simp
                          with_reducible rfl
                         rotate_left
                         ·simp only [Act.put,sAx,sBx,sCx,i64_w,i32_w]
                          rfl
                         refine pure_ (i:=43) (N:=some 84) (v:=?_) (a':=?_) #[qt,qt,qt,qt,qt,qt,qt,qt,qt,qt,qt,qt,qt,qt,qt,qt,qt,qt,qt,qt,qt,qt,qt,qt,qt,qt,qt,qt,qt,qt,qt,qt,qt,qt,qt,qt,qt,qt,qt,qt,qt,qt,qt,qt,qf] rfl rfl (any_of HT_.out (by kernel_rfl)) (fun _ _ _ h=>h) (Or.inl ⟨by rfl,?_⟩) ?_ ?_
                         rotate_left
                         ·intro w'
                          go_simp
                          with_reducible rfl
                         rotate_left
                         ·simp only [Act.put,sAx,sBx,sCx,i64_w,i32_w]
                          rfl
                         refine pure_ (i:=44) (N:=some 2) (v:=?_) (a':=?_) #[qt,qt,qt,qt,qt,qt,qt,qt,qt,qt,qt,qt,qt,qt,qt,qt,qt,qt,qt,qt,qt,qt,qt,qt,qt,qt,qt,qt,qt,qt,qt,qt,qt,qt,qt,qt,qt,qt,qt,qt,qt,qt,qt,qt,qt] rfl rfl (any_of HT_.out (by kernel_rfl)) (fun _ _ _ h=>h) (Or.inl ⟨by rfl,?_⟩) ?_ ?_
                         rotate_left
                         ·intro w'
                          go_simp
                          with_reducible rfl
                         rotate_left
                         ·simp only [Act.put,sAx,sBx,sCx,i64_w,i32_w]
                          rfl
                         refine done_ (done_of HT_.out (by kernel_rfl)) ?_
                         try go_wp2
                         go_ret
                         exact ⟨by first|rfl|(simp [errW_none,errW_some] <;> rfl)|(simp only [← hji2,← hji3,← hji13,← hji21];first|rfl|(simp [errW_none,errW_some] <;> rfl))|(simp [*,errW_none,errW_some] <;> rfl),by repeat (first|(with_reducible first|exact HB.out|apply below_alloc|apply pw_below_drewN|apply below_drew1)|exact HB.out)⟩
                        ·rw [if_neg c39] at H
                         exact absurd H (by simp)
                       ·rw [if_neg c38] at H
                        exact absurd H (by simp)
                      ·rw [if_neg c36] at H
                       exact absurd H (by simp)
                     ·rw [if_neg c35] at H
                      exact absurd H (by simp)
                    ·rw [if_neg c33] at H
                     exact absurd H (by simp)
                   ·rw [if_neg c32] at H
                    exact absurd H (by simp)
                  ·rw [if_neg c30] at H
                   exact absurd H (by simp)
                 ·rw [if_neg c29] at H
                  exact absurd H (by simp)
                ·rw [if_neg c27] at H
                 exact absurd H (by simp)
               ·rw [if_neg c25] at H
                exact absurd H (by simp)
              ·rw [if_neg c24] at H
               exact absurd H (by simp)
             ·rw [if_neg c23] at H
              exact absurd H (by simp)
            ·rw [if_neg c22] at H
             exact absurd H (by simp)
           ·rw [if_neg c19] at H
            exact absurd H (by simp)
          ·rw [if_neg c18] at H
           exact absurd H (by simp)
         ·rw [if_neg c16] at H
          exact absurd H (by simp)
        ·rw [if_neg c15] at H
         exact absurd H (by simp)
       ·rw [if_neg c14] at H
        exact absurd H (by simp)
end Go.Proofs.YtlnmnjbihgaliaaGreat.Pr
