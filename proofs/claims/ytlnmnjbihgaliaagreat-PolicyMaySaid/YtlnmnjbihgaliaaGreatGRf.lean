import Derived.Test.YtlnmnjbihgaliaaGreatGWd
import Derived.Test.YtlnmnjbihgaliaaGreatPr16
import Derived.Lib.LazyBuf
import Derived.Lib.Strings
set_option linter.unusedVariables false
set_option linter.unusedSimpArgs false
section
open Go.RowKit Go.Proofs.YtlnmnjbihgaliaaGreatW.PrintWords
namespace Go.Proofs.YtlnmnjbihgaliaaGreat.Pr
theorem rblank_is(c:Int):ambryref10_blank.f c=head_blank.f c:=rfl
theorem rtrim1_total:∀ n (s:ByteArray),s.size=n→n≤1000000→∃ r:ByteArray,(∀ k,n+1≤k→head_trim.l1 k s=some r)∧(∀ k,n+1≤k→ambryref10_Trim.l1 k s=some r)∧r.size≤s.size:=by
 intro n
 induction n with
 |zero=>
  intro s hs hn
  refine ⟨s,fun k hk=>?_,fun k hk=>?_,Nat.le_refl _⟩
  ·obtain ⟨k,rfl⟩:∃ j,k=j+1:=⟨k - 1,by omega⟩
   unfold head_trim.l1
   rw [if_pos ((toList_nil s).2 hs)]
  ·obtain ⟨k,rfl⟩:∃ j,k=j+1:=⟨k - 1,by omega⟩
   unfold ambryref10_Trim.l1
   rw [if_neg (by omega)]
 |succ n ih=>
  intro s hs hn
  have hne:¬ s.toList=[]:=fun e=>by have:=(toList_nil s).1 e;omega
  have hw:wrap64 ((s.size:Int) - 1)=((n:Nat):Int):=by rw [w64_in] <;> omega
  cases hb:(bt s ((n:Nat):Int) == 32 || bt s ((n:Nat):Int) == 9) with
  |true=>
   obtain ⟨r,r1,r3,r2⟩:=ih (s.extract 0 n) (by rw [ByteArray.size_extract];omega) (by omega)
   have hbl:head_blank.f (bt s ((n:Nat):Int))=some true:=by
    unfold head_blank.f
    split
    ·rfl
    ·rename_i h;simp [h] at hb;simp [hb]
   refine ⟨r,fun k hk=>?_,fun k hk=>?_,by rw [ByteArray.size_extract] at r2;omega⟩
   ·obtain ⟨k,rfl⟩:∃ j,k=j+1:=⟨k - 1,by omega⟩
    unfold head_trim.l1
    rw [if_neg hne,hw,if_pos (by omega),if_pos (by omega),hbl,Option.bind_some,if_pos rfl,if_pos (by omega),show ((n:Nat):Int).toNat=n from by omega]
    exact r1 k (by omega)
   ·obtain ⟨k,rfl⟩:∃ j,k=j+1:=⟨k - 1,by omega⟩
    unfold ambryref10_Trim.l1
    rw [if_pos (by omega),hw,if_pos (by omega),if_pos (by omega),rblank_is,hbl,Option.bind_some,if_pos rfl,if_pos (by omega),show ((n:Nat):Int).toNat=n from by omega]
    exact r3 k (by omega)
  |false=>
   have hbl:head_blank.f (bt s ((n:Nat):Int))=some false:=by
    unfold head_blank.f
    simp at hb
    rw [if_neg hb.1];simp [hb.2]
   refine ⟨s,fun k hk=>?_,fun k hk=>?_,Nat.le_refl _⟩
   ·obtain ⟨k,rfl⟩:∃ j,k=j+1:=⟨k - 1,by omega⟩
    unfold head_trim.l1
    rw [if_neg hne,hw,if_pos (by omega),if_pos (by omega),hbl,Option.bind_some,if_neg (by decide)]
   ·obtain ⟨k,rfl⟩:∃ j,k=j+1:=⟨k - 1,by omega⟩
    unfold ambryref10_Trim.l1
    rw [if_pos (by omega),hw,if_pos (by omega),if_pos (by omega),rblank_is,hbl,Option.bind_some,if_neg (by decide)]
theorem rtrim0_total:∀ n (s:ByteArray),s.size=n→n≤1000000→∃ r:ByteArray,(∀ k,2 * n+4≤k→head_trim.l0 k s=some r)∧(∀ k,2 * n+4≤k→ambryref10_Trim.l0 k s=some r):=by
 have down:∀ (s:ByteArray) (n:Nat),s.size=n→n≤1000000→∃ r:ByteArray,(∀ k,n+2≤k→head_trim.j1 k s=some r)∧(∀ k,n+2≤k→ambryref10_Trim.j1 k s=some r):=by
  intro s n hs hn
  obtain ⟨r,r1,r2,_⟩:=rtrim1_total n s hs hn
  refine ⟨r,fun k hk=>?_,fun k hk=>?_⟩
  ·obtain ⟨k,rfl⟩:∃ j,k=j+1:=⟨k - 1,by omega⟩
   unfold head_trim.j1
   exact r1 k (by omega)
  ·obtain ⟨k,rfl⟩:∃ j,k=j+1:=⟨k - 1,by omega⟩
   unfold ambryref10_Trim.j1
   exact r2 k (by omega)
 intro n
 induction n with
 |zero=>
  intro s hs hn
  obtain ⟨r,r1,r2⟩:=down s 0 hs hn
  refine ⟨r,fun k hk=>?_,fun k hk=>?_⟩
  ·obtain ⟨k,rfl⟩:∃ j,k=j+1:=⟨k - 1,by omega⟩
   unfold head_trim.l0
   rw [if_pos ((toList_nil s).2 hs)]
   exact r1 k (by omega)
  ·obtain ⟨k,rfl⟩:∃ j,k=j+1:=⟨k - 1,by omega⟩
   unfold ambryref10_Trim.l0
   rw [if_neg (by omega)]
   exact r2 k (by omega)
 |succ n ih=>
  intro s hs hn
  have hne:¬ s.toList=[]:=fun e=>by have:=(toList_nil s).1 e;omega
  cases hb:(bt s 0 == 32 || bt s 0 == 9) with
  |true=>
   obtain ⟨r,r1,r2⟩:=ih (s.extract 1 s.size) (by rw [ByteArray.size_extract];omega) (by omega)
   have hbl:head_blank.f (bt s 0)=some true:=by
    unfold head_blank.f
    split
    ·rfl
    ·rename_i h;simp [h] at hb;simp [hb]
   refine ⟨r,fun k hk=>?_,fun k hk=>?_⟩
   ·obtain ⟨k,rfl⟩:∃ j,k=j+1:=⟨k - 1,by omega⟩
    unfold head_trim.l0
    rw [if_neg hne,if_pos (by omega),hbl,Option.bind_some,if_pos rfl,if_pos (by omega)]
    exact r1 k (by omega)
   ·obtain ⟨k,rfl⟩:∃ j,k=j+1:=⟨k - 1,by omega⟩
    unfold ambryref10_Trim.l0
    rw [if_pos (by omega),if_pos (by omega),rblank_is,hbl,Option.bind_some,if_pos rfl,if_pos (by omega)]
    exact r2 k (by omega)
  |false=>
   have hbl:head_blank.f (bt s 0)=some false:=by
    unfold head_blank.f
    simp at hb
    rw [if_neg hb.1];simp [hb.2]
   obtain ⟨r,r1,r2⟩:=down s (n+1) hs hn
   refine ⟨r,fun k hk=>?_,fun k hk=>?_⟩
   ·obtain ⟨k,rfl⟩:∃ j,k=j+1:=⟨k - 1,by omega⟩
    unfold head_trim.l0
    rw [if_neg hne,if_pos (by omega),hbl,Option.bind_some,if_neg (by decide)]
    exact r1 k (by omega)
   ·obtain ⟨k,rfl⟩:∃ j,k=j+1:=⟨k - 1,by omega⟩
    unfold ambryref10_Trim.l0
    rw [if_pos (by omega),if_pos (by omega),rblank_is,hbl,Option.bind_some,if_neg (by decide)]
    exact r2 k (by omega)
theorem rtrim_is(s:ByteArray)(hs:s.size≤1000000)(k:Nat)(hk:2 * s.size+4≤k):ambryref10_Trim.f k s=some (trimR s):=by
 obtain ⟨r,r1,r2⟩:=rtrim0_total s.size s rfl hs
 have h:=(trimR_is s hs).1 (2 * s.size+4) (Nat.le_refl _)
 unfold head_trim.f at h
 rw [r1 _ (Nat.le_refl _)] at h
 unfold ambryref10_Trim.f
 rw [r2 k hk,h]
def cutP(x:ByteArray):Nat→Nat→Bool→Nat→List ByteArray
 |0,b,_,_=>[x.extract b x.size]
 |m+1,b,q,i=>if i < x.size then
   (if q=true∧bt x (i:Int)=92 then cutP x m b q (i+2) else if bt x (i:Int)=34 then cutP x m b (!q) (i+1)
    else if bt x (i:Int)=44 then (if q=true then cutP x m b q (i+1) else x.extract b i :: cutP x m (i+1) q (i+1)) else cutP x m b q (i+1))
   else [x.extract b x.size]
theorem cutP_end(x:ByteArray)(m b:Nat)(q:Bool)(i:Nat)(h:x.size≤i):cutP x m b q i=[x.extract b x.size]:=by
 cases m with
 |zero=>rfl
 |succ m=>unfold cutP;rw [if_neg (by omega)]
theorem cutP_is(x:ByteArray)(hx:x.size≤1000000):∀ m (acc:List ByteArray) (b i:Nat) (q:Bool),x.size+1≤i+m→b≤i→b≤x.size→i≤x.size+2→acc.length≤i →
  ∀ k,2 * m+2≤k→head_cut.l0 k x acc (b:Int) q (i:Int)=some (acc++cutP x m b q i):=by
 intro m
 induction m with
 |zero=>
  intro acc b i q h1 h2 h3 h4 h5 k hk
  obtain ⟨k,rfl⟩:∃ j,k=j+1:=⟨k - 1,by omega⟩
  unfold head_cut.l0
  rw [if_neg (by omega),if_pos (by omega),if_pos (by omega),if_pos (by omega)]
  simp [cutP]
 |succ m ih=>
  intro acc b i q h1 h2 h3 h4 h5 k hk
  by_cases hi:i < x.size
  ·have hw:wrap64 ((i:Int)+1)=((i+1:Nat):Int):=by rw [w64_in] <;> omega
   have hw2:wrap64 (((i+1:Nat):Int)+1)=((i+2:Nat):Int):=by rw [w64_in] <;> omega
   obtain ⟨k,rfl⟩:∃ j,k=j+2:=⟨k - 2,by omega⟩
   unfold cutP
   rw [if_pos hi]
   have jstep:∀ e:Bool,(e=true↔(q=true∧bt x (i:Int)=92))→head_cut.j1 (k+1) x acc (b:Int) q (i:Int) (bt x (i:Int)) e=some (acc++(if q=true∧bt x (i:Int)=92 then cutP x m b q (i+2) else if bt x (i:Int)=34 then cutP x m b (!q) (i+1)
    else if bt x (i:Int)=44 then (if q=true then cutP x m b q (i+1) else x.extract b i :: cutP x m (i+1) q (i+1)) else cutP x m b q (i+1))):=by
    intro e he
    unfold head_cut.j1
    by_cases h92:q=true∧bt x (i:Int)=92
    ·rw [if_pos (he.2 h92),if_pos h92,hw,hw2,ih acc b (i+2) q (by omega) (by omega) h3 (by omega) (by omega) k (by omega)]
    ·rw [if_neg (fun h=>h92 (he.1 h)),if_neg h92]
     by_cases c1:bt x (i:Int)=34
     ·rw [if_pos c1,if_pos c1,hw,ih acc b (i+1) (!q) (by omega) (by omega) h3 (by omega) (by omega) k (by omega)]
     ·rw [if_neg c1,if_neg c1]
      by_cases c2:bt x (i:Int)=44
      ·rw [if_pos c2,if_pos c2]
       cases q with
       |true=>rw [if_pos rfl,if_pos rfl,hw,ih acc b (i+1) true (by omega) (by omega) h3 (by omega) (by omega) k (by omega)]
       |false=>
        simp only [Bool.false_eq_true,if_false]
        rw [if_pos (by omega),if_pos (by omega),if_pos (by omega),if_pos (by omega),hw,show ((b:Nat):Int).toNat=b from by omega,show ((i:Nat):Int).toNat=i from by omega,
         ih (acc++[x.extract b i]) (i+1) (i+1) false (by omega) (by omega) (by omega) (by omega) (by simp;omega) k (by omega)]
        simp
      ·rw [if_neg c2,if_neg c2,hw,ih acc b (i+1) q (by omega) (by omega) h3 (by omega) (by omega) k (by omega)]
   unfold head_cut.l0
   rw [if_pos (by omega),if_pos (by omega)]
   cases q with
   |true=>rw [if_pos rfl];exact jstep _ (by simp)
   |false=>rw [if_neg (by decide)];exact jstep _ (by simp)
  ·obtain ⟨k,rfl⟩:∃ j,k=j+1:=⟨k - 1,by omega⟩
   unfold head_cut.l0
   rw [if_neg (by omega),if_pos (by omega),if_pos (by omega),if_pos (by omega),cutP_end x _ b q i (by omega)]
   simp
theorem cutR_P(x:ByteArray)(hx:x.size≤1000000):cutR x=cutP x (x.size+1) 0 false 0:=by
 refine cutR_eq x (2 * x.size+10) _ hx (Nat.le_refl _) ?_
 have:=cutP_is x hx (x.size+1) [] 0 0 false (by omega) (by omega) (by omega) (by omega) (by simp) (2 * x.size+10) (by omega)
 simpa [head_cut.f] using this
noncomputable def trimF(l:List ByteArray):List ByteArray:=(l.map trimR).filter fun t=>!(t.size == 0)
theorem trimF_cons(p:ByteArray)(l:List ByteArray):trimF (p :: l)=if (trimR p).size=0 then trimF l else trimR p :: trimF l:=by
 unfold trimF
 rw [List.map_cons,List.filter_cons]
 by_cases h:(trimR p).size=0
 ·rw [if_pos h,if_neg (by simp [h])]
 ·rw [if_neg h,if_pos (by simp [h])]
theorem trimF_len(l:List ByteArray):(trimF l).length≤l.length:=Nat.le_trans (List.length_filter_le _ _) (by rw [List.length_map];exact Nat.le_refl _)
theorem cutP_at(x:ByteArray)(m b:Nat)(q:Bool)(i:Nat)(h:i < x.size):cutP x (m+1) b q i=if q=true∧bt x (i:Int)=92 then cutP x m b q (i+2) else if bt x (i:Int)=34 then cutP x m b (!q) (i+1)
    else if bt x (i:Int)=44 then (if q=true then cutP x m b q (i+1) else x.extract b i :: cutP x m (i+1) q (i+1)) else cutP x m b q (i+1):=by
 conv=>lhs;unfold cutP
 rw [if_pos h]
set_option maxHeartbeats 2000000 in
theorem rlist1_loop(x:ByteArray)(hx:x.size≤300)(vals:List ByteArray)(v:Int):∀ m (acc:List ByteArray) (b i k:Nat) (q:Bool),x.size+1≤i+m→b≤i→b≤x.size→i≤x.size→acc.length+m≤100000000→3 * m+2 * x.size+20≤k →
  ∃ k',k≤k'+3 * m+3∧ambryref10_List.l1 k acc vals v x (b:Int) q (i:Int)=ambryref10_List.l0 k' (acc++trimF (cutP x m b q i)) vals (wrap64 (v+1)):=by
 intro m
 induction m with
 |zero=>intro acc b i k q h1 h2 h3 h4 h5 h6;omega
 |succ m ih=>
  intro acc b i k q h1 h2 h3 h4 h5 h6
  obtain ⟨k,rfl⟩:∃ j,k=j+3:=⟨k - 3,by omega⟩
  have hw:wrap64 ((i:Int)+1)=((i+1:Nat):Int):=by rw [w64_in] <;> omega
  have hw2:wrap64 (((i+1:Nat):Int)+1)=((i+2:Nat):Int):=by rw [w64_in] <;> omega
  have piece:∀ (K:Nat),2 * x.size+8≤K→ambryref10_List.j2 (K+1) acc vals v x (b:Int) q (i:Int) false=ambryref10_List.l1 K (acc++trimF [x.extract b i]) vals v x ((i+1:Nat):Int) q ((i+1:Nat):Int):=by
   intro K hK
   have hmn:mn (i:Int) (x.size:Int)=(i:Int):=by unfold mn;split <;> omega
   rw [ambryref10_List.j2]
   rw [if_neg (by decide),hmn,if_pos (by omega),if_pos (by omega),if_pos (by omega),show ((b:Nat):Int).toNat=b from by omega,show ((i:Nat):Int).toNat=i from by omega]
   have hsz:(x.extract b i).size≤300:=by rw [ByteArray.size_extract];omega
   rw [rtrim_is _ (by omega) K (by rw [ByteArray.size_extract];omega),Option.bind_some,trimF_cons]
   by_cases e:(trimR (x.extract b i)).toList=[]
   ·rw [if_pos e,if_pos ((toList_nil _).1 e),hw]
    simp [trimF]
   ·rw [if_neg e,if_neg (fun h=>e ((toList_nil _).2 h)),if_pos (by omega),hw]
    simp [trimF]
  by_cases hi:i < x.size
  ·rw [ambryref10_List.l1,if_pos (by omega),if_pos (by omega),if_pos (by omega),cutP_at x m b q i hi]
   have tail:∀ (q2:Bool) (i2 K:Nat),i < i2→i2≤x.size→k≤K→K≤k+1→∃ k',k+3≤k'+3 * (m+1)+3∧ambryref10_List.l1 K acc vals v x (b:Int) q2 (i2:Int)=ambryref10_List.l0 k' (acc++trimF (cutP x m b q2 i2)) vals (wrap64 (v+1)):=by
    intro q2 i2 K g1 g2 g3 g4
    obtain ⟨k',e1,e2⟩:=ih acc b i2 K q2 (by omega) (by omega) h3 g2 (by omega) (by omega)
    exact ⟨k',by omega,e2⟩
   by_cases c44:bt x (i:Int)=44
   ·have n92:¬ (q=true∧bt x (i:Int)=92):=fun h=>by omega
    rw [if_pos c44,if_neg n92,if_neg (by omega:¬ bt x (i:Int)=34),if_pos c44]
    cases q with
    |true=>
     rw [if_pos rfl]
     rw [ambryref10_List.j2,if_pos rfl,if_pos (by omega),if_pos (by omega),if_neg (by omega:¬ bt x (i:Int)=34),if_neg (by omega:¬ bt x (i:Int)=92),ambryref10_List.j3,if_neg (by decide),hw]
     exact tail true (i+1) k (by omega) (by omega) (by omega) (by omega)
    |false=>
     simp only [Bool.false_eq_true,if_false]
     rw [piece (k+1) (by omega)]
     obtain ⟨k',e1,e2⟩:=ih (acc++trimF [x.extract b i]) (i+1) (i+1) (k+1) false (by omega) (by omega) (by omega) (by omega) (by have:=trimF_len [x.extract b i];simp at this ⊢;omega) (by omega)
     refine ⟨k',by omega,?_⟩
     rw [e2]
     congr 1
     rw [List.append_assoc]
     congr 1
     rw [trimF_cons,trimF_cons]
     split <;> simp [trimF]
   ·rw [if_neg c44,if_neg c44]
    rw [ambryref10_List.j2,if_pos rfl,if_pos (by omega),if_pos (by omega)]
    by_cases c34:bt x (i:Int)=34
    ·have n92:¬ (q=true∧bt x (i:Int)=92):=fun h=>by omega
     rw [if_pos c34,if_neg n92,if_pos c34,hw]
     exact tail (!q) (i+1) (k+1) (by omega) (by omega) (by omega) (by omega)
    ·rw [if_neg c34,if_neg c34]
     by_cases c92:bt x (i:Int)=92
     ·rw [if_pos c92]
      cases q with
      |true=>
       rw [if_pos rfl,if_pos ⟨rfl,c92⟩]
       by_cases hl:i+1 < x.size
       ·have:decide (wrap64 ((i:Int)+1) < (x.size:Int))=true:=decide_eq_true (by rw [hw];omega)
        rw [this,ambryref10_List.j3,if_pos rfl,hw,hw2]
        exact tail true (i+2) k (by omega) (by omega) (by omega) (by omega)
       ·have:decide (wrap64 ((i:Int)+1) < (x.size:Int))=false:=decide_eq_false (by rw [hw];omega)
        rw [this,ambryref10_List.j3,if_neg (by decide),hw]
        have:=tail true (i+1) k (by omega) (by omega) (by omega) (by omega)
        rw [cutP_end x m b true (i+1) (by omega)] at this
        rw [cutP_end x m b true (i+2) (by omega)]
        exact this
      |false=>
       simp only [Bool.false_eq_true,if_false,false_and]
       rw [ambryref10_List.j3,if_neg (by decide),hw]
       exact tail false (i+1) k (by omega) (by omega) (by omega) (by omega)
     ·have n92:¬ (q=true∧bt x (i:Int)=92):=fun h=>c92 h.2
      rw [if_neg c92,if_neg n92,ambryref10_List.j3,if_neg (by decide),hw]
      exact tail q (i+1) k (by omega) (by omega) (by omega) (by omega)
  ·have hie:i=x.size:=by omega
   rw [ambryref10_List.l1,if_pos (by omega),if_neg (by omega),piece (k+1) (by omega),cutP_end x _ b q i (by omega)]
   rw [ambryref10_List.l1,if_neg (by omega)]
   refine ⟨k,by omega,?_⟩
   rw [hie]
end Go.Proofs.YtlnmnjbihgaliaaGreat.Pr
end
section
open Go.RowKit Go.Proofs.YtlnmnjbihgaliaaGreatW.PrintWords
namespace Go.Proofs.YtlnmnjbihgaliaaGreat.Pr
set_option maxRecDepth 20000 in
theorem rlist_loop(vals:List ByteArray)(hv:∀ v∈vals,v.size≤300)(hn:vals.length≤1000):
  ∀ m (acc:List ByteArray) (i k:Nat),vals.length=i+m→acc.length+m * 302≤90000000→m * 1000+2000≤k →
   ambryref10_List.l0 k acc vals (i:Int)=some (acc++(vals.drop i).flatMap partsR):=by
 intro m
 induction m with
 |zero=>
  intro acc i k hi ha hk
  obtain ⟨k,rfl⟩:∃ q,k=q+1:=⟨k - 1,by omega⟩
  rw [ambryref10_List.l0,if_neg (by omega),List.drop_eq_nil_of_le (by omega)]
  simp
 |succ m ih=>
  intro acc i k hi ha hk
  obtain ⟨k,rfl⟩:∃ q,k=q+1:=⟨k - 1,by omega⟩
  have hlt:i < vals.length:=by omega
  have hrd:rdOf ByteArray.empty vals (i:Int)=vals[i]:=by simp [rdOf,hlt]
  have hw:wrap64 ((i:Int)+1)=((i+1:Nat):Int):=by rw [w64_in] <;> omega
  have hsz:=hv _ (List.getElem_mem hlt)
  have hp:trimF (cutP vals[i] (vals[i].size+1) 0 false 0)=partsR vals[i]:=by rw [← cutR_P _ (by omega)];rfl
  have hpl:=partsR_len vals[i] (by omega)
  rw [ambryref10_List.l0,if_pos (by omega),if_pos (by omega),hrd]
  obtain ⟨k',e1,e2⟩:=rlist1_loop vals[i] hsz vals (i:Int) (vals[i].size+1) acc 0 0 k false (by omega) (Nat.le_refl _) (Nat.zero_le _) (Nat.zero_le _) (by omega) (by omega)
  rw [show ((0:Nat):Int)=0 from rfl] at e2
  rw [e2,hp,hw,ih _ (i+1) k' (by omega) (by rw [List.length_append];omega) (by omega),List.drop_eq_getElem_cons hlt,List.flatMap_cons,List.append_assoc]
set_option maxRecDepth 20000 in
theorem rall_is(l:List S41)(nm:ByteArray)(h:LightL l 40)(hnm:nm.size≤300)(k:Nat)(hk:50≤k):ambryref10_All.f k l nm=some (allL l nm):=by
 have h2:=h.2.2
 have:=all_loop l nm (fun f hf=>by have:=h.1 f hf;omega) (by omega) (by omega) l.length 0 k [] (by omega) (by omega) (by simp)
 simpa [ambryref10_All.f] using this
set_option maxRecDepth 20000 in
theorem rlist_is(l:List S41)(nm:ByteArray)(h:LightL l 40)(hnm:nm.size≤300)(k:Nat)(hk:50000≤k):ambryref10_List.f k l nm=some (listL l nm):=by
 have ha:=allL_len l nm
 have h2:=h.2.2
 unfold ambryref10_List.f
 rw [rall_is l nm h hnm k (by omega),Option.bind_some]
 have:=rlist_loop (allL l nm) (allL_size l nm 300 h.2.1) (by omega) (allL l nm).length [] 0 k (by omega) (by simp;omega) (by omega)
 simpa [listL] using this
theorem idx_spec(c:UInt8):∀ l:List UInt8,(Lib.indexByte l c=-1∧∀ i:Nat,l[i]?≠some c)∨∃ j:Nat,Lib.indexByte l c=(j:Int)∧l[j]?=some c∧∀ i:Nat,i < j→l[i]?≠some c
 |[]=>.inl ⟨rfl,fun i=>by simp⟩
 |b :: l=>by
  unfold Lib.indexByte
  by_cases hb:b=c
  ·refine .inr ⟨0,?_,by simp [hb],fun i hi=>absurd hi (by omega)⟩
   rw [if_pos (by simp [hb])];rfl
  ·rw [if_neg (by simp [hb])]
   rcases idx_spec c l with ⟨h1,h2⟩|⟨j,h1,h2,h3⟩
   ·refine .inl ⟨by rw [h1];rfl,fun i=>?_⟩
    cases i with
    |zero=>simp [hb]
    |succ i=>simpa using h2 i
   ·refine .inr ⟨j+1,?_,by simpa using h2,fun i hi=>?_⟩
    ·rw [h1,if_neg (by simp)];omega
    ·cases i with
     |zero=>simp [hb]
     |succ i=>simpa using h3 i (by omega)
theorem bt_get(s:ByteArray)(i:Nat)(h:i < s.size)(c:UInt8):bt s (i:Int)=(c.toNat:Int)↔s.data.toList[i]?=some c:=by
 obtain ⟨d,h1,h2⟩:=bt_list s i h
 have hd:s.data.toList[i]?=some d:=by
  have:=congrArg List.head? h1
  rw [List.head?_drop] at this
  simpa using this
 rw [h2,hd]
 constructor
 ·intro e
  have:d=c:=UInt8.toNat_inj.1 (by omega)
  rw [this]
 ·intro e
  injection e with e
  rw [e]
theorem eq_spec(s:ByteArray):(eqAt s=-1∧∀ i,i < s.size→bt s (i:Int)≠61)∨∃ j:Nat,eqAt s=(j:Int)∧j < s.size∧bt s (j:Int)=61∧∀ i,i < j→bt s (i:Int)≠61:=by
 unfold eqAt
 rcases idx_spec 61 s.data.toList with ⟨h1,h2⟩|⟨j,h1,h2,h3⟩
 ·exact .inl ⟨h1,fun i hi e=>h2 i ((bt_get s i hi 61).1 e)⟩
 ·have hj:j < s.size:=by
   have:=(List.getElem?_eq_some_iff.1 h2).1
   rwa [data_length] at this
  exact .inr ⟨j,h1,hj,(bt_get s j hj 61).2 h2,fun i hi e=>h3 i hi ((bt_get s i (by omega) 61).1 e)⟩
theorem seek(s:ByteArray)(hs:s.size≤300)(j:Nat)(hj:j≤s.size)(h:∀ i,i < j→bt s (i:Int)≠61):∀ m i k,i+m=j→ambryref13_value.l0 (k+m) s (i:Int)=ambryref13_value.l0 k s (j:Int):=by
 intro m
 induction m with
 |zero=>intro i k hi;rw [← hi];rfl
 |succ m ih=>
  intro i k hi
  have hw:wrap64 ((i:Int)+1)=((i+1:Nat):Int):=by rw [w64_in] <;> omega
  rw [show k+(m+1)=(k+m)+1 from by omega,ambryref13_value.l0,if_pos (by omega),if_pos (by omega),if_neg (h i (by omega)),hw]
  exact ih (i+1) k (by omega)
theorem bt_ext(v:ByteArray)(q:Nat)(h:q+2 < v.size):bt (v.extract 1 (v.size - 1)) (q:Int)=bt v ((q+1:Nat):Int):=by
 have hs:(v.extract 1 (v.size - 1)).size=v.size - 2:=by rw [ByteArray.size_extract];omega
 obtain ⟨c,h1,h2⟩:=bt_list v (q+1) (by omega)
 rw [h2]
 refine (bt_get _ q (by omega) c).2 ?_
 rw [Lib.extract_data,List.getElem?_take,if_pos (by omega),List.getElem?_drop]
 have:=congrArg List.head? h1
 rw [List.head?_drop] at this
 rw [show 1+q=q+1 from by omega]
 simpa using this
theorem w64_nat(n:Nat)(h:n≤1000000):wrap64 ((n:Int)+1)=((n+1:Nat):Int):=by rw [w64_in] <;> omega
theorem unq_nil:unq []=[]:=by simp [unq]
/-- The quoted text, its backslashes taken away. -/
theorem unq_loop(s v t:ByteArray)(hts:t.size=v.size - 2)(hbt:∀ q:Nat,q+2 < v.size→bt t (q:Int)=bt v ((q+1:Nat):Int))(e:Nat)(hs:s.size≤300)(he:e≤s.size)(hv:v.size≤300)(h2:2≤v.size):∀ m (acc:List Int) (q k:Nat),q+m=v.size - 2→acc.length≤q→m+1≤k →
  ambryref13_value.l1 k s (e:Int) v acc ((q+1:Nat):Int)=some (lowS (s.extract 0 e),strOfNums (acc++(unq (t.data.toList.drop q)).map fun b=>(b.toNat:Int)),true):=by
 have HWL:=mkA (show wrap64 ((v.size:Int) - 1)=((v.size - 1:Nat):Int) by rw [w64_in] <;> omega)
 have fin:∀ (acc:List Int) (k:Nat),1≤k→ambryref13_value.l1 k s (e:Int) v acc ((v.size - 1:Nat):Int)=some (lowS (s.extract 0 e),strOfNums acc,true):=by
  intro acc k hk
  obtain ⟨k,rfl⟩:∃ q,k=q+1:=⟨k - 1,by omega⟩
  rw [ambryref13_value.l1,HWL.out,if_neg (by omega),if_pos (by omega),if_pos (by omega),show ((e:Nat):Int).toNat=e from by omega]
  unfold ambryref10_Low.f lowF
  rw [if_pos (by rw [ByteArray.size_extract];omega),Option.bind_some]
 intro m
 induction m using Nat.strongRecOn with
 |ind m ih=>
  intro acc q k hq ha hk
  by_cases h0:m=0
  ·have hq1:q+1=v.size - 1:=by omega
   have hnil:t.data.toList.drop q=[]:=List.drop_eq_nil_of_le (by rw [data_length,hts];omega)
   rw [hq1,fin acc k (by omega),hnil,unq_nil,List.map_nil,List.append_nil]
  ·obtain ⟨k,rfl⟩:∃ q,k=q+1:=⟨k - 1,by omega⟩
   have hq3:q≤300:=by omega
   have b1:q+1≤1000000:=by omega
   have b2:q+1+1≤1000000:=by omega
   obtain ⟨c,c1,c2⟩:=bt_list t q (by omega)
   have c3:bt v ((q+1:Nat):Int)=(c.toNat:Int):=by rw [← hbt q (by omega)];exact c2
   rw [ambryref13_value.l1,HWL.out,if_pos (by omega),if_pos (by omega),if_pos (by omega),c3,w64_nat (q+1) b1]
   by_cases c92:c=92
   ·subst c92
    rw [if_pos (show (((92:UInt8).toNat:Nat):Int)=92 from by decide)]
    by_cases hl:q+1 < v.size - 2
    ·obtain ⟨d,d1,d2⟩:=bt_list t (q+1) (by omega)
     have d3:bt v ((q+1+1:Nat):Int)=(d.toNat:Int):=by rw [← hbt (q+1) (by omega)];exact d2
     rw [if_pos (by omega),if_pos (by omega),if_pos (by omega),if_pos (by omega),d3,w64_nat (q+1+1) b2,ih (m - 2) (by omega) _ (q+1+1) k (by omega) (by simp;omega) (by omega),c1,d1,unq_esc]
     simp
    ·rw [if_neg (by omega),if_pos (by omega),ih (m - 1) (by omega) _ (q+1) k (by omega) (by simp;omega) (by omega),c1,unq_one _ _ (.inr (List.drop_eq_nil_of_le (by rw [data_length,hts];omega)))]
     simp
   ·rw [if_neg (fun h=>c92 (UInt8.toNat_inj.1 (by have:(92:UInt8).toNat=92:=rfl;omega))),if_pos (by omega),ih (m - 1) (by omega) _ (q+1) k (by omega) (by simp;omega) (by omega),c1,unq_one _ _ (.inl c92)]
    simp
theorem value_is(s:ByteArray)(hs:s.size≤300)(k:Nat)(hk:1000≤k):ambryref13_value.f k s=some (lowS (cutName s),plainF (cutVal s),decide (0≤eqAt s)):=by
 unfold ambryref13_value.f
 rcases eq_spec s with ⟨h1,h2⟩|⟨j,h1,hj,h2,h3⟩
 ·obtain ⟨k,rfl⟩:∃ q,k=(q+1)+s.size:=⟨k - s.size - 1,by omega⟩
  have:=seek s hs s.size (Nat.le_refl _) h2 s.size 0 (k+1) (by omega)
  rw [show ((0:Nat):Int)=0 from rfl] at this
  rw [this,ambryref13_value.l0,if_neg (by omega)]
  unfold ambryref10_Low.f lowF cutName cutVal
  rw [if_pos (by omega),Option.bind_some,h1,if_neg (by omega),if_neg (by omega)]
  have:plainF ⟨#[]⟩=⟨#[]⟩:=by decide +kernel
  rw [this]
  rfl
 ·obtain ⟨k,rfl⟩:∃ q,k=(q+2)+j:=⟨k - j - 2,by omega⟩
  have:=seek s hs j (by omega) h3 j 0 (k+2) (by omega)
  rw [show ((0:Nat):Int)=0 from rfl] at this
  have bj:j≤1000000:=by omega
  have hcv:cutVal s=s.extract (j+1) s.size:=by unfold cutVal;rw [h1,if_pos (by omega),show ((j:Nat):Int).toNat=j from by omega]
  have hcn:cutName s=s.extract 0 j:=by unfold cutName;rw [h1,if_pos (by omega),show ((j:Nat):Int).toNat=j from by omega]
  have hvs:(s.extract (j+1) s.size).size≤300:=by rw [ByteArray.size_extract];omega
  rw [this,ambryref13_value.l0,if_pos (by omega),if_pos (by omega),if_pos h2,w64_nat j bj,if_pos (by omega),if_pos (by omega),show ((j+1:Nat):Int).toNat=j+1 from by omega,hcv,hcn,h1]
  have hd:decide ((0:Int)≤(j:Int))=true:=decide_eq_true (by omega)
  rw [hd]
  generalize s.extract (j+1) s.size=v at hvs
  have jf:ambryref13_value.j1 (k+1) s (j:Int) v false=some (lowS (s.extract 0 j),v,true):=by
   rw [ambryref13_value.j1,if_neg (by decide),if_pos (by omega),if_pos (by omega),show ((j:Nat):Int).toNat=j from by omega]
   unfold ambryref10_Low.f lowF
   rw [if_pos (by rw [ByteArray.size_extract];omega),Option.bind_some]
  by_cases g1:v.size < 2
  ·rw [if_neg (by omega),jf]
   unfold plainF
   rw [if_pos (.inl g1)]
  ·have HWL:=mkA (show wrap64 ((v.size:Int) - 1)=((v.size - 1:Nat):Int) by rw [w64_in] <;> omega)
   rw [if_pos (by omega),if_pos (by omega)]
   by_cases g2:bt v 0=34
   ·rw [if_pos g2,HWL.out,if_pos (by omega),if_pos (by omega)]
    by_cases g3:bt v ((v.size - 1:Nat):Int)=34
    ·have:(bt v ((v.size - 1:Nat):Int) == 34)=true:=beq_iff_eq.2 g3
     rw [this,ambryref13_value.j1,if_pos rfl]
     have hu:=unq_loop s v (v.extract 1 (v.size - 1)) (by rw [ByteArray.size_extract];omega) (fun q hq=>bt_ext v q hq) j hs (by omega) hvs (by omega) (v.size - 2) [] 0 k (by omega) (by simp) (by omega)
     rw [show ((0+1:Nat):Int)=1 from rfl] at hu
     rw [hu,List.nil_append,List.drop_zero,Lib.Lz.strOfNums_map]
     unfold plainF
     rw [if_neg (fun h=>h.elim g1 (fun h=>h.elim (fun h=>h g2) (fun h=>h (by rw [show ((v.size:Int) - 1)=((v.size - 1:Nat):Int) from by omega];exact g3))))]
    ·have:(bt v ((v.size - 1:Nat):Int) == 34)=false:=beq_eq_false_iff_ne.2 g3
     rw [this,jf]
     unfold plainF
     rw [if_pos (.inr (.inr (by rw [show ((v.size:Int) - 1)=((v.size - 1:Nat):Int) from by omega];exact g3)))]
   ·rw [if_neg g2,jf]
    unfold plainF
    rw [if_pos (.inr (.inl g2))]
end Go.Proofs.YtlnmnjbihgaliaaGreat.Pr
end
section
open Go.RowKit Go.Proofs.YtlnmnjbihgaliaaGreatW.PrintWords
namespace Go.Proofs.YtlnmnjbihgaliaaGreat.Pr
theorem rsec_loop(x:ByteArray)(hx:x.size≤300):∀ m (j k:Nat) (n:Int),x.size=j+m→m+1≤k→0≤n→n≤2147483647→ambryref13_Seconds.l0 k x n (j:Int)=some (secL n ((bytesOf x).drop j)):=by
 intro m
 induction m with
 |zero=>
  intro j k n hj hk h0 h1
  obtain ⟨k,rfl⟩:∃ q,k=q+1:=⟨k - 1,by omega⟩
  rw [ambryref13_Seconds.l0,if_neg (by omega),List.drop_eq_nil_of_le (by rw [bytesOf_length];omega)]
  rfl
 |succ m ih=>
  intro j k n hj hk h0 h1
  obtain ⟨k,rfl⟩:∃ q,k=q+1:=⟨k - 1,by omega⟩
  have hb:=bt_range x (j:Int)
  have bj:j≤1000000:=by omega
  rw [ambryref13_Seconds.l0,if_pos (by omega),if_pos (by omega),bt_drop x j (by omega)]
  unfold secL
  generalize bt x (j:Int)=c at hb
  by_cases c1:c < 48
  ·rw [if_pos c1,if_pos c1]
  ·rw [if_neg c1,if_neg c1]
   by_cases c2:c > 57
   ·rw [if_pos c2,if_pos c2]
   ·rw [if_neg c2,if_neg c2,w64_nat j bj,show (c - 48) % 256=c - 48 from by omega,w64_in (10 * n) (by omega) (by omega),w64_in (10 * n+(c - 48)) (by omega) (by omega)]
    refine ih (j+1) k _ (by omega) (by omega) ?_ ?_
    ·unfold mn;split <;> omega
    ·unfold mn;split <;> omega
theorem rsec_is(x:ByteArray)(hx:x.size≤300)(k:Nat)(hk:400≤k):ambryref13_Seconds.f k x=some (secondsF x):=by
 unfold ambryref13_Seconds.f secondsF
 by_cases h:x.size=0
 ·rw [if_pos ((toList_nil x).2 h),if_pos h]
 ·rw [if_neg (fun e=>h ((toList_nil x).1 e)),if_neg h]
  have:=rsec_loop x hx x.size 0 k 0 (by omega) (by omega) (by omega) (by omega)
  simpa using this
theorem rleast_is(a:Int)(x:ByteArray)(hx:x.size≤300)(k:Nat)(hk:400≤k):ambryref13_least.f k a x=some (leastF a x):=by
 unfold ambryref13_least.f leastF
 rw [rsec_is x hx k hk,Option.bind_some]
 by_cases h:a < 0
 ·rw [if_pos h,if_neg (by omega)]
 ·rw [if_neg h,if_pos (by omega)]
  congr 1
  generalize mx (secondsF x) 0=y
  unfold mn
  split <;> split <;> omega
theorem low_lit(nm b:ByteArray)(L:List UInt8)(hb:lowS b=b)(hL:b.toList=L):((lowS nm).toList=L)=(sameB nm b=true):=by
 rw [← lowS_beq,hb,hL,beq_iff_eq]
set_option maxHeartbeats 2000000 in
theorem con_step(k:Nat)(hk:1000≤k)(x:List S41)(parts:List ByteArray)(hl:parts.length≤1000000)(i:Nat)(hi:i < parts.length)(hp:parts[i].size≤300)(c:Ctl):
  ambryref13_Control.l0 (k+1) x parts (i:Int) c.noStore c.noCache c.priv c.pub c.must c.proxy c.only c.any c.maxAge c.sMax c.minFresh c.maxStale=ambryref13_Control.l0 k x parts ((i+1:Nat):Int) (sayF c parts[i]).noStore (sayF c parts[i]).noCache (sayF c parts[i]).priv (sayF c parts[i]).pub (sayF c parts[i]).must (sayF c parts[i]).proxy (sayF c parts[i]).only (sayF c parts[i]).any (sayF c parts[i]).maxAge (sayF c parts[i]).sMax (sayF c parts[i]).minFresh (sayF c parts[i]).maxStale:=by
 have hrd:rdOf ByteArray.empty parts (i:Int)=parts[i]:=by simp [rdOf,hi]
 have bi:i≤1000000:=by omega
 have hv:(plainF (cutVal parts[i])).size≤300:=Nat.le_trans (plainF_size _) (Nat.le_trans (cutVal_size _) hp)
 rw [ambryref13_Control.l0,if_pos (by omega),if_pos (by omega),hrd,value_is parts[i] hp k hk,Option.bind_some,w64_nat i bi]
 unfold sayF
 generalize cutName parts[i]=nm
 generalize plainF (cutVal parts[i])=v at hv
 generalize decide (0≤eqAt parts[i])=has
 simp only
 have e0:=low_lit nm ⟨#[110,111,45,115,116,111,114,101]⟩ [110,111,45,115,116,111,114,101] (by decide +kernel) (by decide +kernel)
 have e1:=low_lit nm ⟨#[110,111,45,99,97,99,104,101]⟩ [110,111,45,99,97,99,104,101] (by decide +kernel) (by decide +kernel)
 have e2:=low_lit nm ⟨#[112,114,105,118,97,116,101]⟩ [112,114,105,118,97,116,101] (by decide +kernel) (by decide +kernel)
 have e3:=low_lit nm ⟨#[112,117,98,108,105,99]⟩ [112,117,98,108,105,99] (by decide +kernel) (by decide +kernel)
 have e4:=low_lit nm ⟨#[109,117,115,116,45,114,101,118,97,108,105,100,97,116,101]⟩ [109,117,115,116,45,114,101,118,97,108,105,100,97,116,101] (by decide +kernel) (by decide +kernel)
 have e5:=low_lit nm ⟨#[112,114,111,120,121,45,114,101,118,97,108,105,100,97,116,101]⟩ [112,114,111,120,121,45,114,101,118,97,108,105,100,97,116,101] (by decide +kernel) (by decide +kernel)
 have e6:=low_lit nm ⟨#[111,110,108,121,45,105,102,45,99,97,99,104,101,100]⟩ [111,110,108,121,45,105,102,45,99,97,99,104,101,100] (by decide +kernel) (by decide +kernel)
 have e7:=low_lit nm ⟨#[109,97,120,45,97,103,101]⟩ [109,97,120,45,97,103,101] (by decide +kernel) (by decide +kernel)
 have e8:=low_lit nm ⟨#[115,45,109,97,120,97,103,101]⟩ [115,45,109,97,120,97,103,101] (by decide +kernel) (by decide +kernel)
 have e9:=low_lit nm ⟨#[109,105,110,45,102,114,101,115,104]⟩ [109,105,110,45,102,114,101,115,104] (by decide +kernel) (by decide +kernel)
 have e10:=low_lit nm ⟨#[109,97,120,45,115,116,97,108,101]⟩ [109,97,120,45,115,116,97,108,101] (by decide +kernel) (by decide +kernel)
 simp only [e0,e1,e2,e3,e4,e5,e6,e7,e8,e9,e10]
 unfold sayG
 by_cases h0:sameB nm ⟨#[110,111,45,115,116,111,114,101]⟩=true
 ·simp only [if_pos h0]
 simp only [if_neg h0]
 by_cases h1:sameB nm ⟨#[110,111,45,99,97,99,104,101]⟩=true
 ·simp only [if_pos h1]
 simp only [if_neg h1]
 by_cases h2:sameB nm ⟨#[112,114,105,118,97,116,101]⟩=true
 ·simp only [if_pos h2]
 simp only [if_neg h2]
 by_cases h3:sameB nm ⟨#[112,117,98,108,105,99]⟩=true
 ·simp only [if_pos h3]
 simp only [if_neg h3]
 by_cases h4:sameB nm ⟨#[109,117,115,116,45,114,101,118,97,108,105,100,97,116,101]⟩=true
 ·simp only [if_pos h4]
 simp only [if_neg h4]
 by_cases h5:sameB nm ⟨#[112,114,111,120,121,45,114,101,118,97,108,105,100,97,116,101]⟩=true
 ·simp only [if_pos h5]
 simp only [if_neg h5]
 by_cases h6:sameB nm ⟨#[111,110,108,121,45,105,102,45,99,97,99,104,101,100]⟩=true
 ·simp only [if_pos h6]
 simp only [if_neg h6]
 by_cases h7:sameB nm ⟨#[109,97,120,45,97,103,101]⟩=true
 ·simp only [if_pos h7,rleast_is _ v hv k (by omega),Option.bind_some]
 simp only [if_neg h7]
 by_cases h8:sameB nm ⟨#[115,45,109,97,120,97,103,101]⟩=true
 ·simp only [if_pos h8,rleast_is _ v hv k (by omega),Option.bind_some]
 simp only [if_neg h8]
 by_cases h9:sameB nm ⟨#[109,105,110,45,102,114,101,115,104]⟩=true
 ·simp only [if_pos h9,rleast_is _ v hv k (by omega),Option.bind_some]
 simp only [if_neg h9]
 by_cases h10:sameB nm ⟨#[109,97,120,45,115,116,97,108,101]⟩=true
 ·cases has <;> simp only [if_pos h10,rleast_is _ v hv k (by omega),Option.bind_some,if_true,Bool.false_eq_true,if_false]
 simp only [if_neg h10]
theorem con_loop(x:List S41)(parts:List ByteArray)(hl:parts.length≤1000000)(hp:∀ p∈parts,p.size≤300):∀ m (i k:Nat) (c:Ctl),parts.length=i+m→1000≤k →
  ambryref13_Control.l0 (k+m) x parts (i:Int) c.noStore c.noCache c.priv c.pub c.must c.proxy c.only c.any c.maxAge c.sMax c.minFresh c.maxStale=ambryref13_Control.l0 k x parts (parts.length:Int) ((parts.drop i).foldl sayF c).noStore ((parts.drop i).foldl sayF c).noCache ((parts.drop i).foldl sayF c).priv ((parts.drop i).foldl sayF c).pub ((parts.drop i).foldl sayF c).must ((parts.drop i).foldl sayF c).proxy ((parts.drop i).foldl sayF c).only ((parts.drop i).foldl sayF c).any ((parts.drop i).foldl sayF c).maxAge ((parts.drop i).foldl sayF c).sMax ((parts.drop i).foldl sayF c).minFresh ((parts.drop i).foldl sayF c).maxStale:=by
 intro m
 induction m with
 |zero=>intro i k c hi hk;rw [show i=parts.length from by omega,List.drop_length];rfl
 |succ m ih=>
  intro i k c hi hk
  have hlt:i < parts.length:=by omega
  rw [show k+(m+1)=(k+m)+1 from by omega,con_step (k+m) (by omega) x parts hl i hlt (hp _ (List.getElem_mem hlt)) c,ih (i+1) k (sayF c parts[i]) (by omega) hk,List.drop_eq_getElem_cons hlt,List.foldl_cons]
def ncB:ByteArray:=⟨#[110,111,45,99,97,99,104,101]⟩
theorem prag_loop(parts:List ByteArray)(hl:parts.length≤1000000)(hp:∀ p∈parts,p.size≤300)(a c d e f g h:Bool)(p q r t:Int):∀ m (i k:Nat) (b:Bool),parts.length=i+m→m+1≤k →
  ambryref13_Control.l1 k parts (i:Int) a b c d e f g h p q r t=some (a,b || pragma (parts.drop i),c,d,e,f,g,h,p,q,r,t):=by
 intro m
 induction m with
 |zero=>
  intro i k b hi hk
  obtain ⟨k,rfl⟩:∃ q,k=q+1:=⟨k - 1,by omega⟩
  rw [ambryref13_Control.l1,if_neg (by omega),List.drop_eq_nil_of_le (by omega)]
  simp [pragma]
 |succ m ih=>
  intro i k b hi hk
  obtain ⟨k,rfl⟩:∃ q,k=q+1:=⟨k - 1,by omega⟩
  have hlt:i < parts.length:=by omega
  have bi:i≤1000000:=by omega
  have hrd:rdOf ByteArray.empty parts (i:Int)=parts[i]:=by simp [rdOf,hlt]
  have hsz:=hp _ (List.getElem_mem hlt)
  have hd:pragma (parts.drop i)=(sameB parts[i] ncB || pragma (parts.drop (i+1))):=by
   rw [List.drop_eq_getElem_cons hlt];rfl
  rw [ambryref13_Control.l1,if_pos (by omega),w64_nat i bi,hd]
  cases b with
  |true=>
   rw [if_pos rfl,ih (i+1) k true (by omega) (by omega)]
   simp
  |false=>
   rw [if_neg (by decide),if_pos (by omega),hrd,show (⟨#[110,111,45,99,97,99,104,101]⟩:ByteArray)=ncB from rfl,ref_same _ _ (by omega) (by decide),Option.bind_some,ih (i+1) k _ (by omega) (by omega)]
   simp
set_option maxRecDepth 20000 in
theorem control_is(l:List S41)(h:LightL l 40)(k:Nat)(hk:80000≤k):ambryref13_Control.f k l=some (parC l).tup:=by
 have hlen:=listL_len l ccN h
 have hlp:=listL_len l pragN h
 have hsz:=listL_size l ccN h.2.1
 have hsp:=listL_size l pragN h.2.1
 have h40:=h.2.2
 unfold ambryref13_Control.f
 rw [show (⟨#[67,97,99,104,101,45,67,111,110,116,114,111,108]⟩:ByteArray)=ccN from rfl,rlist_is l ccN h (by decide) k (by omega),Option.bind_some]
 obtain ⟨n,hn⟩:∃ n,(listL l ccN).length=n:=⟨_,rfl⟩
 obtain ⟨k,rfl⟩:∃ q,k=(q+1)+n:=⟨k - 1 - n,by omega⟩
 have hc:=con_loop l (listL l ccN) (by omega) hsz n 0 (k+1) ctl0 (by omega) (by omega)
 rw [show ((0:Nat):Int)=0 from rfl,List.drop_zero] at hc
 refine Eq.trans hc ?_
 have hg:=refget_total l ccN k (fun f hf=>by have:=h.1 f hf;omega) (by decide) (by omega) (by omega)
 rw [ambryref13_Control.l0,if_neg (by omega),show (⟨#[67,97,99,104,101,45,67,111,110,116,114,111,108]⟩:ByteArray)=ccN from rfl,hg,Option.bind_some,allL_get]
 unfold parC
 cases ha:allL l ccN with
 |nil=>
  have hnil:listL l ccN=[]:=by unfold listL;rw [ha];rfl
  simp only [Bool.false_eq_true,if_false]
  rw [if_pos (by rfl),hnil]
  rw [show (⟨#[80,114,97,103,109,97]⟩:ByteArray)=pragN from rfl,rlist_is l pragN h (by decide) k (by omega),Option.bind_some]
  have hp:=prag_loop (listL l pragN) (by omega) hsp false false false false false false false (-1) (-1) (-1) (-1) (listL l pragN).length 0 k false (by omega) (by omega)
  rw [show ((0:Nat):Int)=0 from rfl,List.drop_zero,Bool.false_or] at hp
  exact hp
 |cons v vs=>
  simp only [if_true]
  rw [if_neg (by simp)]
  rfl
end Go.Proofs.YtlnmnjbihgaliaaGreat.Pr
end
