import Derived.Test.YtlnmnjbihgaliaaGreatPr0
set_option linter.unusedVariables false
set_option linter.unusedSimpArgs false
namespace Go.Proofs.YtlnmnjbihgaliaaGreat.Pr
open Go.RowKit Go.Proofs.YtlnmnjbihgaliaaGreatW.PrintWords Go.Proofs.YtlnmnjbihgaliaaGreatW.PrintLast Go.Proofs.YtlnmnjbihgaliaaGreatW.PrintMore
attribute [local go_sem] max2_int min2_int max_two min_two max_three min_three max_four min_four
def slices_Index_string_string.l0:Nat→List ByteArray→ByteArray→Int→Int→Option (Int)
 |0,_,_,_,_=>none
 |k+1,x0,x1,x7,x8=>if x8 < x7 then (if 0≤x8 then (if x8 < (x0.length:Int) then (if x1.toList=(rdOf ByteArray.empty x0 x8).toList then (some x8) else (slices_Index_string_string.l0 k x0 x1 x7 (wrap64 (x8+1)))) else (none)) else (none)) else (some (-1))
def slices_Index_string_string.f(k:Nat)(l0:List ByteArray)(a1:ByteArray):Option (Int):=slices_Index_string_string.l0 k l0 a1 (l0.length:Int) 0
set_option maxHeartbeats 8000000 in
set_option maxRecDepth 100000 in
theorem slices_Index_string_string.calls(k:Nat)(A0:Option Addr)(c0:Nat)(l0:List ByteArray)(a1:ByteArray)(r:Int)(w:World)(hr0:Kd.C Kd.string w A0 l0.length l0)(hc0:l0.length≤c0)(h:slices_Index_string_string.f k l0 a1=some r):
  Calls Tryz.prog 60 #[.slice A0 l0.length c0,.string a1] w fun e w'=>e=.returned (.int .i64 r)∧Drawn0 w w':=by
 have HR0:=mkA hr0
 have HC0:=mkA hc0
 clear hr0 hc0
 have H:(slices_Index_string_string.l0 k l0 a1 (l0.length:Int) 0)=some r:=h
 clear h
 have H':=mkA H
 clear H
 go_enter Tryz.func60,Tryz.ntmps60
 go_wp2
 go_loopg [8] k (fun kq v8 w'=>∃ (x8_1:Int),v8=.int .i64 x8_1∧Aside0 (slices_Index_string_string.l0 kq l0 a1 (l0.length:Int) x8_1=some r)∧Aside0 (kq≤k)∧Drawn0 w w')
 case atStart=>exact ⟨(0),(by first|rfl|(simp;done)|(simp [*];done)),H',⟨Nat.le_refl _⟩,by repeat (first|exact Drawn0.refl _|apply Drawn0.step)⟩
 case round=>
  clear H'
  try clear p2
  obtain ⟨x8_1,rfl,HA,HK1,⟨m1,rfl⟩⟩:=hrel
  cases gk with
  |zero=>exact absurd HA.out (by simp [slices_Index_string_string.l0])
  |succ k1=>
   have H:=HA.out
   clear HA
   simp only [slices_Index_string_string.l0] at H
   by_cases c3:x8_1 < (l0.length:Int)
   ·rw [if_pos c3] at H
    have c3b0:decide (x8_1 < (l0.length:Int))=true:=decide_eq_true c3
    clear c3
    by_cases c4:0≤x8_1
    ·rw [if_pos c4] at H
     have c4b0:decide (0≤x8_1)=true:=decide_eq_true c4
     clear c4
     by_cases c5:x8_1 < (l0.length:Int)
     ·rw [if_pos c5] at H
      have c5b0:decide (x8_1 < (l0.length:Int))=true:=decide_eq_true c5
      clear c5
      by_cases c6:a1.toList=(rdOf ByteArray.empty l0 x8_1).toList
      ·rw [if_pos c6] at H
       have c6b0:(a1.toList == (rdOf ByteArray.empty l0 x8_1).toList)=true:=beq_iff_eq.mpr c6
       have c6b1:(a1.toList != (rdOf ByteArray.empty l0 x8_1).toList)=false:=bne_eq_false_iff_eq.mpr c6
       clear c6
       obtain rfl:=Option.some.inj H
       have p148:0≤(x8_1:Int):=of_decide_eq_true (by first|(with_reducible assumption)|assumption)
       have q148:x8_1 < (l0.length:Int):=of_decide_eq_true (by first|(with_reducible assumption)|assumption)
       obtain ⟨ad148,e148,hx148_0⟩:=Kd.at_string HR0.out x8_1 p148 q148
       cases e148
       replace p148:=eq_true p148
       replace q148:=eq_true q148
       go_wp2
       go_ret
       exact ⟨by first|rfl|(simp;done)|(simp [*];done),by repeat (first|exact Drawn0.refl _|apply Drawn0.step)⟩
      ·rw [if_neg c6] at H
       have c6b0:(a1.toList == (rdOf ByteArray.empty l0 x8_1).toList)=false:=beq_eq_false_iff_ne.mpr c6
       have c6b1:(a1.toList != (rdOf ByteArray.empty l0 x8_1).toList)=true:=bne_iff_ne.mpr c6
       have H':=mkA H
       clear H
       have p148:0≤(x8_1:Int):=of_decide_eq_true (by first|(with_reducible assumption)|assumption)
       have q148:x8_1 < (l0.length:Int):=of_decide_eq_true (by first|(with_reducible assumption)|assumption)
       obtain ⟨ad148,e148,hx148_0⟩:=Kd.at_string HR0.out x8_1 p148 q148
       cases e148
       replace p148:=eq_true p148
       replace q148:=eq_true q148
       go_wp2
       go_roundg k1
       case measure=>have:=HK1.out;omega
       case rel=>exact ⟨(wrap64 (x8_1+1)),(by first|rfl|(simp;done)|(simp [*];done)),H',⟨by have:=HK1.out;omega⟩,by repeat (first|exact Drawn0.refl _|apply Drawn0.step)⟩
     ·rw [if_neg c5] at H
      exact absurd H (by simp)
    ·rw [if_neg c4] at H
     exact absurd H (by simp)
   ·rw [if_neg c3] at H
    have c3b0:decide (x8_1 < (l0.length:Int))=false:=decide_eq_false c3
    clear c3
    obtain rfl:=Option.some.inj H
    go_wp2
    go_ret
    exact ⟨by first|rfl|(simp;done)|(simp [*];done),by repeat (first|exact Drawn0.refl _|apply Drawn0.step)⟩
def slices_Contains_string_string.f(k:Nat)(l0:List ByteArray)(a1:ByteArray):Option (Bool):=(slices_Index_string_string.f k l0 a1).bind fun t149=>(some (decide (t149 ≥ 0)))
set_option maxHeartbeats 8000000 in
set_option maxRecDepth 100000 in
theorem slices_Contains_string_string.calls(k:Nat)(A0:Option Addr)(c0:Nat)(l0:List ByteArray)(a1:ByteArray)(r:Bool)(w:World)(hr0:Kd.C Kd.string w A0 l0.length l0)(hc0:l0.length≤c0)(h:slices_Contains_string_string.f k l0 a1=some r):
  Calls Tryz.prog 35 #[.slice A0 l0.length c0,.string a1] w fun e w'=>e=.returned (.bool r)∧Drawn0 w w':=by
 have HR0:=mkA hr0
 have HC0:=mkA hc0
 clear hr0 hc0
 have H:((slices_Index_string_string.f k l0 a1).bind fun t149=>(some (decide (t149 ≥ 0))))=some r:=h
 clear h
 replace H:=Option.bind_eq_some_iff.mp H
 obtain ⟨t149,A30,H⟩:=H
 replace H:(some (decide (t149 ≥ 0)))=some r:=H
 have A3:=mkA A30
 clear A30
 obtain rfl:=Option.some.inj H
 go_enter Tryz.func35,Tryz.ntmps35
 go_wp2_with (first|((with_reducible refine gate_callee (f:=60) rfl ?_);refine goesL_ (some 7) rfl rfl Tryz.func60 (by kernel_rfl) rfl #[.slice A0 l0.length c0,.string a1] rfl (by (try simp only [List.map_toArray,List.map_cons,List.map_nil]);first|done|rfl|(simp only [List.length_drop,List.length_take];rfl)) ?_;(with_reducible refine (slices_Index_string_string.calls k _ _ l0 a1 t149 _ ?side1 ?side2 A3.out).mono ?_);(case side1=>repeat (first|exact HR0.out|(with_reducible refine Kd.C_alloc ?_ _)|(with_reducible refine Kd.C_drewN ?_ _)|(with_reducible refine Kd.C_drew ?_)));(case side2=>exact HC0.out);rintro e w' ⟨rfl,⟨nd,rfl⟩⟩;refine ⟨_,rfl,?_⟩))
 go_ret
 exact ⟨by first|rfl|(simp;done)|(simp [*];done),by repeat (first|exact Drawn0.refl _|apply Drawn0.step)⟩
def policy_Safe.f(k:Nat)(a0:ByteArray):Option (Bool):=(slices_Contains_string_string.f k (([(⟨#[71,69,84]⟩:ByteArray),(⟨#[72,69,65,68]⟩:ByteArray),(⟨#[79,80,84,73,79,78,83]⟩:ByteArray),(⟨#[84,82,65,67,69]⟩:ByteArray)]:List ByteArray)) a0).bind fun t153=>(some t153)
set_option maxHeartbeats 8000000 in
set_option maxRecDepth 100000 in
theorem policy_Safe.calls(k:Nat)(a0:ByteArray)(r:Bool)(w:World)(h:policy_Safe.f k a0=some r):
  Calls Tryz.prog 11 #[.string a0] w fun e w'=>e=.returned (.bool r)∧Below w.heap.size w w':=by
 have HB:=mkA (Below.refl w.heap.size w)
 have H:((slices_Contains_string_string.f k (([(⟨#[71,69,84]⟩:ByteArray),(⟨#[72,69,65,68]⟩:ByteArray),(⟨#[79,80,84,73,79,78,83]⟩:ByteArray),(⟨#[84,82,65,67,69]⟩:ByteArray)]:List ByteArray)) a0).bind fun t153=>(some t153))=some r:=h
 clear h
 obtain ⟨y150,hy150⟩:∃ y_:List ByteArray,y_=(([(⟨#[71,69,84]⟩:ByteArray),(⟨#[72,69,65,68]⟩:ByteArray),(⟨#[79,80,84,73,79,78,83]⟩:ByteArray),(⟨#[84,82,65,67,69]⟩:ByteArray)]:List ByteArray)):=⟨_,rfl⟩
 replace H:((slices_Contains_string_string.f k y150 a0).bind fun t153=>(some t153))=some r:=by first|(rw [hy150];with_reducible exact H)|(have H2_:=(Option.bind_some _ _).symm.trans H;rw [hy150];with_reducible exact H2_)|(have H2_:=(Option.bind_some _ _).symm.trans H;with_reducible exact H2_)|with_reducible exact H|(rw [hy150];exact H)|exact H
 have Ny150:=mkA hy150
 clear hy150
 replace H:=Option.bind_eq_some_iff.mp H
 obtain ⟨t153,A20,H⟩:=H
 replace H:(some t153)=some r:=H
 have A2:=mkA A20
 clear A20
 obtain rfl:=Option.some.inj H
 go_enter Tryz.func11,Tryz.ntmps11
 go_wp2_with (first|((with_reducible refine gate_dst (N:=3) rfl ?_);refine Kd.R_lit Kd.string _ 9 ?hg (N:=3) ?hd (xs:=([(⟨#[71,69,84]⟩:ByteArray),(⟨#[72,69,65,68]⟩:ByteArray),(⟨#[79,80,84,73,79,78,83]⟩:ByteArray),(⟨#[84,82,65,67,69]⟩:ByteArray)]:List ByteArray)) (inner:=[.string (⟨#[71,69,84]⟩:ByteArray),.string (⟨#[72,69,65,68]⟩:ByteArray),.string (⟨#[79,80,84,73,79,78,83]⟩:ByteArray),.string (⟨#[84,82,65,67,69]⟩:ByteArray)]) (ok:=fun _=>True) (okp:=fun _=>True) ?hr ?hp (fun _ hk=>hk) trivial (Below.refl _ _) (Nat.le_refl _) (by simp) ?_;(case hd=>rfl);(case hg=>rfl);(case hr=>first|(go_simp;done)|(go_simp;rfl));(case hp=>exact (Reps.one (show Kd.M Kd.string _ _ _ (⟨#[71,69,84]⟩:ByteArray) [.string (⟨#[71,69,84]⟩:ByteArray)] from rfl) (Reps.one (show Kd.M Kd.string _ _ _ (⟨#[72,69,65,68]⟩:ByteArray) [.string (⟨#[72,69,65,68]⟩:ByteArray)] from rfl) (Reps.one (show Kd.M Kd.string _ _ _ (⟨#[79,80,84,73,79,78,83]⟩:ByteArray) [.string (⟨#[79,80,84,73,79,78,83]⟩:ByteArray)] from rfl) (Reps.one (show Kd.M Kd.string _ _ _ (⟨#[84,82,65,67,69]⟩:ByteArray) [.string (⟨#[84,82,65,67,69]⟩:ByteArray)] from rfl) (Reps.none _ _))))));intro v151 w3 ho4 hb hg_ hnew_;clear hg_ hnew_;(first|rw [← Ny150.out] at ho4|(simp only [Int.reduceToNat] at ho4;rw [← Ny150.out] at ho4));have n0_:=mkA (Kd.R_lower ho4 (below_size (by repeat (first|(with_reducible first|exact HB.out|apply below_alloc|apply pw_below_drewN|apply below_drew1)|exact HB.out))));have n1_:=mkA (below_step (by repeat (first|(with_reducible first|exact HB.out|apply below_alloc|apply pw_below_drewN|apply below_drew1)|exact HB.out)) hb);clear HB;have HO152:=n0_;have HB:=n1_;clear n0_ n1_;clear hb ho4;obtain ⟨Ao5,co5,eo5⟩:=Kd.R_slice HO152.out;subst eo5)|((with_reducible refine gate_callee (f:=35) rfl ?_);refine goesL_ (some 5) rfl rfl Tryz.func35 (by kernel_rfl) rfl #[.slice Ao5 y150.length co5,.string a0] rfl (by (try simp only [List.map_toArray,List.map_cons,List.map_nil]);first|done|rfl|(simp only [List.length_drop,List.length_take];rfl)) ?_;(with_reducible refine (slices_Contains_string_string.calls k _ _ y150 a0 t153 _ ?side1 ?side2 A2.out).mono ?_);(case side1=>repeat (first|exact (Kd.R_reads' HO152.out).2.2|(with_reducible refine Kd.C_alloc ?_ _)|(with_reducible refine Kd.C_drewN ?_ _)|(with_reducible refine Kd.C_drew ?_)));(case side2=>exact (Kd.R_reads' HO152.out).2.1);rintro e w' ⟨rfl,⟨nd,rfl⟩⟩;refine ⟨_,rfl,?_⟩))
 go_ret
 exact ⟨by first|rfl|(simp [errW_none,errW_some] <;> rfl)|(simp [*,errW_none,errW_some] <;> rfl),by repeat (first|(with_reducible first|exact HB.out|apply below_alloc|apply pw_below_drewN|apply below_drew1)|exact HB.out)⟩
def ambryref10_Low.f(a0:ByteArray):Option ByteArray:=lowF a0
theorem ambryref10_Low.calls(a0:ByteArray)(r:ByteArray)(w:World)(h:ambryref10_Low.f a0=some r):
  Calls Tryz.prog 38 #[.string a0] w fun e w'=>e=.returned (.string r)∧Below w.heap.size w w':=by
 obtain ⟨hs,rfl⟩:a0.size≤9223372036854775807∧lowS a0=r:=by
  unfold ambryref10_Low.f lowF at h
  split at h
  ·exact ⟨by assumption,Option.some.inj h⟩
  ·cases h
 exact Low_calls a0 w hs
def ambryref10_Same.f(a0:ByteArray)(a1:ByteArray):Option (Bool):=if (a0.size:Int)=(a1.size:Int) then ((ambryref10_Low.f a0).bind fun t154=>((ambryref10_Low.f a1).bind fun t155=>(some (t154.toList == t155.toList)))) else (some false)
set_option maxHeartbeats 8000000 in
set_option maxRecDepth 100000 in
theorem ambryref10_Same.calls(a0:ByteArray)(a1:ByteArray)(r:Bool)(w:World)(h:ambryref10_Same.f a0 a1=some r):
  Calls Tryz.prog 58 #[.string a0,.string a1] w fun e w'=>e=.returned (.bool r)∧Below w.heap.size w w':=by
 have HB:=mkA (Below.refl w.heap.size w)
 have H:(if (a0.size:Int)=(a1.size:Int) then ((ambryref10_Low.f a0).bind fun t154=>((ambryref10_Low.f a1).bind fun t155=>(some (t154.toList == t155.toList)))) else (some false))=some r:=h
 clear h
 by_cases c3:(a0.size:Int)=(a1.size:Int)
 ·rw [if_pos c3] at H
  have c3b0:((a0.size:Int) == (a1.size:Int))=true:=beq_iff_eq.mpr c3
  have c3b1:((a0.size:Int) != (a1.size:Int))=false:=bne_eq_false_iff_eq.mpr c3
  have c3b2:(a0.size == a1.size)=true:=by first|simpa using c3|(simp at c3 ⊢;omega)
  clear c3
  replace H:=Option.bind_eq_some_iff.mp H
  obtain ⟨t154,A40,H⟩:=H
  replace H:((ambryref10_Low.f a1).bind fun t155=>(some (t154.toList == t155.toList)))=some r:=H
  have A4:=mkA A40
  clear A40
  replace H:=Option.bind_eq_some_iff.mp H
  obtain ⟨t155,A50,H⟩:=H
  replace H:(some (t154.toList == t155.toList))=some r:=H
  have A5:=mkA A50
  clear A50
  obtain rfl:=Option.some.inj H
  go_enter Tryz.func58,Tryz.ntmps58
  go_wp2_with (first|(go_at_call 38;(with_reducible refine (ambryref10_Low.calls a0 t154 _ A4.out).mono ?_);rintro e w6 ⟨rfl,hb⟩;have n0_:=mkA (below_step (by repeat (first|(with_reducible first|exact HB.out|apply below_alloc|apply pw_below_drewN|apply below_drew1)|exact HB.out)) hb);clear HB;have HB:=n0_;clear n0_;(try clear hb);(try clear hb2);(try clear hk);(try clear hi))|(go_at_call 38;(with_reducible refine (ambryref10_Low.calls a1 t155 _ A5.out).mono ?_);rintro e w7 ⟨rfl,hb⟩;have n0_:=mkA (below_step (by repeat (first|(with_reducible first|exact HB.out|apply below_alloc|apply pw_below_drewN|apply below_drew1)|exact HB.out)) hb);clear HB;have HB:=n0_;clear n0_;(try clear hb);(try clear hb2);(try clear hk);(try clear hi)))
  go_ret
  exact ⟨by first|rfl|(simp [errW_none,errW_some] <;> rfl)|(simp [*,errW_none,errW_some] <;> rfl),by repeat (first|(with_reducible first|exact HB.out|apply below_alloc|apply pw_below_drewN|apply below_drew1)|exact HB.out)⟩
 ·rw [if_neg c3] at H
  have c3b0:((a0.size:Int) == (a1.size:Int))=false:=beq_eq_false_iff_ne.mpr c3
  have c3b1:((a0.size:Int) != (a1.size:Int))=true:=bne_iff_ne.mpr c3
  have c3b2:(a0.size == a1.size)=false:=by first|simpa using c3|(simp at c3 ⊢;omega)
  obtain rfl:=Option.some.inj H
  go_enter Tryz.func58,Tryz.ntmps58
  go_wp2
  go_ret
  exact ⟨by first|rfl|(simp [errW_none,errW_some] <;> rfl)|(simp [*,errW_none,errW_some] <;> rfl),by repeat (first|(with_reducible first|exact HB.out|apply below_alloc|apply pw_below_drewN|apply below_drew1)|exact HB.out)⟩
end Go.Proofs.YtlnmnjbihgaliaaGreat.Pr
