import Derived.Test.YtlnmnjbihgaliaaGreatPr6
import Derived.Test.YtlnmnjbihgaliaaGreatPr8
import Derived.Test.YtlnmnjbihgaliaaGreatGCtl
set_option linter.unusedVariables false
set_option linter.unusedSimpArgs false
open Go.RowKit Go.Proofs.YtlnmnjbihgaliaaGreatW.PrintWords
namespace Go.Proofs.YtlnmnjbihgaliaaGreat.Pr
/-- More rounds tell the same. -/
theorem more{α:Type}{f:Nat→Option α}(h:∀ k,LeO (f k) (f (k+1))){k k2:Nat}{r:α}(hk:k≤k2)(hf:f k=some r):f k2=some r:=by
 obtain ⟨d,rfl⟩:∃ d,k2=k+d:=⟨k2 - k,by omega⟩
 clear hk
 induction d with
 |zero=>exact hf
 |succ d ih=>exact h _ _ ih
theorem lowB_range(c:Int)(h:0≤c∧c≤255):0≤lowB c∧lowB c≤255:=by unfold lowB;split <;> (try split) <;> omega
theorem bytes_strOf(l:List Int)(h:∀ c∈l,0≤c∧c≤255):bytesOf (strOfNums l)=l:=by
 unfold bytesOf
 rw [strOfNums_data,List.map_map]
 have:l.map ((fun b:UInt8=>(b.toNat:Int)) ∘ fun n=>UInt8.ofNat n.toNat)=l.map id:=List.map_congr_left fun c hc=>by
  have:=h c hc
  simp only [Function.comp,id,UInt8.toNat_ofNat']
  omega
 rw [List.map_id] at this
 exact this
theorem low_range(a:ByteArray):∀ c∈(bytesOf a).map lowB,0≤c∧c≤255:=by
 intro c hc
 obtain ⟨d,hd,rfl⟩:=List.mem_map.1 hc
 refine lowB_range d ?_
 unfold bytesOf at hd
 obtain ⟨u,_,rfl⟩:=List.mem_map.1 hd
 have:=u.toNat_lt
 omega
theorem toList_inj{a b:ByteArray}(h:a.toList=b.toList):a=b:=by
 rw [ByteArray.toList_eq,ByteArray.toList_eq] at h
 obtain ⟨⟨x⟩⟩:=a
 obtain ⟨⟨y⟩⟩:=b
 simpa using h
/-- The first field of that name, capitals or not. -/
def getL(l:List S41)(nm:ByteArray):ByteArray × Bool:=match l.find? (fun f=>sameB f.f0 nm) with|some f=>(f.f1,true)|none=>(⟨#[]⟩,false)
theorem getL_cons(x:S41)(l:List S41)(nm:ByteArray):getL (x :: l) nm=if sameB x.f0 nm=true then (x.f1,true) else getL l nm:=by
 unfold getL
 rw [List.find?_cons]
 cases sameB x.f0 nm <;> rfl
theorem same_at(k:Nat)(a b:ByteArray)(hs:a.size≤9223372036854775000)(hk:a.size+1≤k):head_Same.f k a b=some (sameB a b):=more (fun k=>head_Same.mono a b k) hk (same_total a b hs)
theorem get_loop(l:List S41)(nm:ByteArray)(M:Nat)(hM:M≤9223372036854775000)(hl:∀ f∈l,f.f0.size≤M)(hn:l.length≤4611686018427387904):∀ m j k,l.length=j+m→M+2+m≤k →
  head_Get.l0 k nm l (l.length:Int) (j:Int)=some (getL (l.drop j) nm):=by
 intro m
 induction m with
 |zero=>
  intro j k hj hk
  obtain ⟨k,rfl⟩:∃ q,k=q+1:=⟨k - 1,by omega⟩
  unfold head_Get.l0
  rw [if_neg (by omega),List.drop_eq_nil_of_le (by omega)]
  rfl
 |succ m ih=>
  intro j k hj hk
  obtain ⟨k,rfl⟩:∃ q,k=q+1:=⟨k - 1,by omega⟩
  have hlt:j < l.length:=by omega
  have hrd:rd_T41 l (j:Int)=l[j]:=by simp [rd_T41,hlt]
  have hw:wrap64 ((j:Int)+1)=((j+1:Nat):Int):=by unfold wrap64;omega
  have hsz:=hl _ (List.getElem_mem hlt)
  unfold head_Get.l0
  rw [if_pos (by omega),if_pos (by omega),if_pos (by omega),hrd,same_at k _ _ (by omega) (by omega),Option.bind_some,List.drop_eq_getElem_cons hlt]
  by_cases e:sameB l[j].f0 nm=true
  ·rw [if_pos e,getL_cons,if_pos e]
  ·rw [if_neg e,hw,ih (j+1) k (by omega) (by omega),getL_cons,if_neg e]
theorem get_total(l:List S41)(nm:ByteArray)(M k:Nat)(hM:M≤9223372036854775000)(hl:∀ f∈l,f.f0.size≤M)(hn:l.length≤4611686018427387904)(hk:M+2+l.length≤k):head_Get.f k l nm=some (getL l nm):=by
 have:=get_loop l nm M hM hl hn l.length 0 k (by omega) hk
 simpa [head_Get.f] using this
theorem lowS_beq(a b:ByteArray):((lowS a).toList == (lowS b).toList)=sameB a b:=by
 rw [Bool.eq_iff_iff,beq_iff_eq,sameB,beq_iff_eq]
 constructor
 ·intro h
  have hab:lowS a=lowS b:=toList_inj h
  have:=congrArg bytesOf hab
  rw [lowS,lowS,bytes_strOf _ (low_range a),bytes_strOf _ (low_range b)] at this
  exact this
 ·intro h
  rw [lowS,lowS,h]
theorem ref_same(a b:ByteArray)(ha:a.size≤9223372036854775000)(hb:b.size≤9223372036854775000):ambryref10_Same.f a b=some (sameB a b):=by
 unfold ambryref10_Same.f ambryref10_Low.f lowF
 by_cases h:a.size=b.size
 ·rw [if_pos (by omega),if_pos (by omega),if_pos (by omega),Option.bind_some,Option.bind_some,lowS_beq]
 ·rw [if_neg (by omega)]
  have:¬ (bytesOf a).map lowB=(bytesOf b).map lowB:=fun e=>h (by have:=congrArg List.length e;simpa [bytesOf_length] using this)
  rw [sameB,beq_eq_false_iff_ne.mpr this]
def allL(l:List S41)(nm:ByteArray):List ByteArray:=(l.filter fun f=>sameB f.f0 nm).map (·.f1)
theorem all_loop(l:List S41)(nm:ByteArray)(hl:∀ f∈l,f.f0.size≤9223372036854775000)(hnm:nm.size≤9223372036854775000)(hn:l.length≤4611686018427):∀ m j k acc,l.length=j+m→m+1≤k→acc.length≤j →
  ambryref10_All.l0 k l nm acc (j:Int)=some (acc++allL (l.drop j) nm):=by
 intro m
 induction m with
 |zero=>
  intro j k acc hj hk ha
  obtain ⟨k,rfl⟩:∃ q,k=q+1:=⟨k - 1,by omega⟩
  unfold ambryref10_All.l0
  rw [if_neg (by omega),List.drop_eq_nil_of_le (by omega)]
  simp [allL]
 |succ m ih=>
  intro j k acc hj hk ha
  obtain ⟨k,rfl⟩:∃ q,k=q+1:=⟨k - 1,by omega⟩
  have hlt:j < l.length:=by omega
  have hrd:rd_T41 l (j:Int)=l[j]:=by simp [rd_T41,hlt]
  have hw:wrap64 ((j:Int)+1)=((j+1:Nat):Int):=by unfold wrap64;omega
  have hsz:=hl _ (List.getElem_mem hlt)
  unfold ambryref10_All.l0
  rw [if_pos (by omega),if_pos (by omega),hrd,ref_same _ _ hsz hnm,Option.bind_some,List.drop_eq_getElem_cons hlt]
  by_cases e:sameB l[j].f0 nm=true
  ·rw [if_pos e,if_pos (by omega),hw,ih (j+1) k _ (by omega) (by omega) (by simp;omega)]
   simp only [allL,List.filter_cons,if_pos e,List.map_cons,List.append_assoc,List.singleton_append]
  ·rw [if_neg e,hw,ih (j+1) k _ (by omega) (by omega) (by omega)]
   simp only [allL,List.filter_cons,if_neg e]
theorem allL_get(l:List S41)(nm:ByteArray):getL l nm=match allL l nm with|[]=>(⟨#[]⟩,false)|x :: _=>(x,true):=by
 induction l with
 |nil=>rfl
 |cons x l ih=>
  rw [getL_cons]
  by_cases e:sameB x.f0 nm=true
  ·simp only [if_pos e,allL,List.filter_cons,List.map_cons]
  ·rw [if_neg e,ih]
   simp only [allL,List.filter_cons,if_neg e]
theorem refget_total(l:List S41)(nm:ByteArray)(k:Nat)(hl:∀ f∈l,f.f0.size≤9223372036854775000)(hnm:nm.size≤9223372036854775000)(hn:l.length≤4611686018427)(hk:l.length+1≤k):ambryref10_Get.f k l nm=some (getL l nm):=by
 have h:=all_loop l nm hl hnm hn l.length 0 k [] (by omega) hk (by simp)
 rw [show ((0:Nat):Int)=0 from rfl] at h
 unfold ambryref10_Get.f ambryref10_All.f
 rw [h,Option.bind_some,allL_get,List.drop_zero,List.nil_append]
 cases allL l nm with
 |nil=>rfl
 |cons x xs=>
  rw [if_neg (by simp;omega),if_pos (by simp)]
  rfl
end Go.Proofs.YtlnmnjbihgaliaaGreat.Pr
