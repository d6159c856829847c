import Derived.Test.YtlnmnjbihgaliaaGreatPr17
import Derived.Test.YtlnmnjbihgaliaaGreatNamesR
import Derived.Test.YtlnmnjbihgaliaaGreatGRf
import Derived.Test.YtlnmnjbihgaliaaGreatGMay
import Derived.Test.YtlnmnjbihgaliaaGreatPr19
import Derived.Test.YtlnmnjbihgaliaaGreatPr7
set_option linter.unusedVariables false
set_option linter.unusedSimpArgs false
open Go.RowKit Go.Proofs.YtlnmnjbihgaliaaGreatW.PrintWords
namespace Go.Proofs.YtlnmnjbihgaliaaGreat.Pr
theorem rheur_loop(st:Int):∀ m i k,heurL.length=i+m→m+1≤k→ambryref13_Heuristic.l0 k st heurL (i:Int)=some ((heurL.drop i).contains st):=by
 intro m
 induction m with
 |zero=>
  intro i k hi hk
  obtain ⟨k,rfl⟩:∃ q,k=q+1:=⟨k - 1,by omega⟩
  unfold ambryref13_Heuristic.l0
  rw [if_neg (by omega),List.drop_eq_nil_of_le (by omega)]
  rfl
 |succ m ih=>
  intro i k hi hk
  obtain ⟨k,rfl⟩:∃ q,k=q+1:=⟨k - 1,by omega⟩
  have hlt:i < heurL.length:=by omega
  have h11:heurL.length=11:=rfl
  have hw:wrap64 ((i:Int)+1)=((i+1:Nat):Int):=w64_nat i (by omega)
  have hrd:rd heurL (i:Int)=heurL[i]:=by simp [rd,hlt]
  unfold ambryref13_Heuristic.l0
  rw [if_pos (by omega),if_pos (by omega),hrd,List.drop_eq_getElem_cons hlt,List.contains_cons,hw,ih (i+1) k (by omega) (by omega)]
  by_cases e:heurL[i]=st
  ·rw [if_pos e,e];simp
  ·rw [if_neg e]
   have:(st == heurL[i])=false:=by simpa using fun h=>e h.symm
   rw [this,Bool.false_or]
theorem rheur_is(st:Int)(k:Nat)(hk:12≤k):ambryref13_Heuristic.f k st=some (heurL.contains st):=by
 have:=rheur_loop st 11 0 k rfl (by omega)
 exact this
theorem rnames_is(a0:Int)(a1:ByteArray)(l:List S41)(b:List Int)(h:LightL l 40)(k:Nat)(hk:50000≤k):
  ambryref13_Names.f k a0 a1 l b=some (namesR (listL l varyN),(listL l varyN).any isStar):=by
 have hs:((listL l varyN).all fun p=>decide (p.size≤300))=true:=by
  rw [List.all_eq_true]
  intro p hp
  have:=listL_size l varyN h.2.1 p hp
  exact decide_eq_true (by omega)
 unfold ambryref13_Names.f
 rw [show ambryref10_List.f k l ⟨#[86,97,114,121]⟩=some (listL l varyN) from rlist_is l varyN h (by decide) k hk,Option.bind_some,if_pos ⟨Nat.le_trans (listL_len l varyN h) (by omega),hs⟩]
def safeL:List ByteArray:=[(⟨#[71,69,84]⟩:ByteArray),(⟨#[72,69,65,68]⟩:ByteArray),(⟨#[79,80,84,73,79,78,83]⟩:ByteArray),(⟨#[84,82,65,67,69]⟩:ByteArray)]
theorem sidx_step(m c:ByteArray)(k i:Nat)(hi:i < 4)(hc:safeL.getD i ByteArray.empty=c):slices_Index_string_string.l0 (k+1) safeL m 4 (i:Int)=if m.toList=c.toList then some (i:Int) else slices_Index_string_string.l0 k safeL m 4 ((i+1:Nat):Int):=by
 have hl:(safeL.length:Int)=4:=rfl
 rw [slices_Index_string_string.l0,if_pos (by omega),if_pos (by omega),if_pos (by omega),w64_nat i (by omega)]
 have:rdOf ByteArray.empty safeL (i:Int)=c:=by rw [← hc];simp [rdOf]
 rw [this]
theorem sidx_end(m:ByteArray)(k:Nat):slices_Index_string_string.l0 (k+1) safeL m 4 ((4:Nat):Int)=some (-1):=by
 rw [slices_Index_string_string.l0,if_neg (by omega)]
theorem safe_is(m:ByteArray)(k:Nat)(hk:10≤k):∃ b,policy_Safe.f k m=some b∧ambryref13_Safe.f m=some b:=by
 obtain ⟨k,rfl⟩:∃ q,k=q+1+1+1+1+1:=⟨k - 5,by omega⟩
 have h0:policy_Safe.f (k+1+1+1+1+1) m=((slices_Index_string_string.l0 (k+1+1+1+1+1) safeL m 4 ((0:Nat):Int)).bind fun t=>some (decide (t ≥ 0))).bind fun t=>some t:=rfl
 rw [h0,sidx_step m ⟨#[71,69,84]⟩ _ 0 (by omega) rfl,sidx_step m ⟨#[72,69,65,68]⟩ _ 1 (by omega) rfl,sidx_step m ⟨#[79,80,84,73,79,78,83]⟩ _ 2 (by omega) rfl,sidx_step m ⟨#[84,82,65,67,69]⟩ _ 3 (by omega) rfl,sidx_end]
 unfold ambryref13_Safe.f
 rw [show (⟨#[71,69,84]⟩:ByteArray).toList=[71,69,84] from by decide +kernel,show (⟨#[72,69,65,68]⟩:ByteArray).toList=[72,69,65,68] from by decide +kernel,show (⟨#[79,80,84,73,79,78,83]⟩:ByteArray).toList=[79,80,84,73,79,78,83] from by decide +kernel,show (⟨#[84,82,65,67,69]⟩:ByteArray).toList=[84,82,65,67,69] from by decide +kernel]
 by_cases g0:m.toList=([71,69,84]:List UInt8)
 ·exact ⟨true,by rw [if_pos g0];rfl,by rw [if_pos g0]⟩
 ·rw [if_neg g0,if_neg g0]
  by_cases g1:m.toList=([72,69,65,68]:List UInt8)
  ·exact ⟨true,by rw [if_pos g1];rfl,by rw [if_pos g1]⟩
  ·rw [if_neg g1,if_neg g1]
   by_cases g2:m.toList=([79,80,84,73,79,78,83]:List UInt8)
   ·exact ⟨true,by rw [if_pos g2];rfl,by rw [if_pos g2]⟩
   ·rw [if_neg g2,if_neg g2]
    by_cases g3:m.toList=([84,82,65,67,69]:List UInt8)
    ·exact ⟨true,by rw [if_pos g3];rfl,by rw [beq_iff_eq.2 g3]⟩
    ·exact ⟨false,by rw [if_neg g3];rfl,by rw [beq_eq_false_iff_ne.2 g3]⟩
end Go.Proofs.YtlnmnjbihgaliaaGreat.Pr
