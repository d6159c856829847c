import Derived.Test.YtlnmnjbihgaliaaGreatGets
import Derived.Test.YtlnmnjbihgaliaaGreatPr5
import Derived.Test.YtlnmnjbihgaliaaGreatGCtl
import Derived.Test.YtlnmnjbihgaliaaGreatGMay
set_option linter.unusedVariables false
set_option linter.unusedSimpArgs false
section
open Go.RowKit Go.Proofs.YtlnmnjbihgaliaaGreatW.PrintWords
namespace Go.Proofs.YtlnmnjbihgaliaaGreat.Pr
theorem w64_in(x:Int)(h1:-9223372036854775808≤x)(h2:x≤9223372036854775807):wrap64 x=x:=by unfold wrap64;omega
theorem cut_loop(x:ByteArray)(hx:x.size≤1000000):∀ m (acc:List ByteArray) (b i:Nat) (q:Bool),x.size+1≤i+m→b≤i→b≤x.size→i≤x.size+2→acc.length≤i →
  ∃ parts:List ByteArray,(∀ k,2 * m+2≤k→head_cut.l0 k x acc (b:Int) q (i:Int)=some (acc++parts))∧parts.length≤m+1∧∀ p∈parts,p.size≤x.size:=by
 intro m
 induction m with
 |zero=>
  intro acc b i q h1 h2 h3 h4 h5
  refine ⟨[x.extract b x.size],fun k hk=>?_,by simp,fun p hp=>?_⟩
  ·obtain ⟨k,rfl⟩:∃ j,k=j+1:=⟨k - 1,by omega⟩
   unfold head_cut.l0
   rw [if_neg (by omega),if_pos (by omega),if_pos (by omega),if_pos (by omega)]
   simp
  ·simp only [List.mem_singleton] at hp
   subst hp
   rw [ByteArray.size_extract];omega
 |succ m ih=>
  intro acc b i q h1 h2 h3 h4 h5
  by_cases hi:i < x.size
  ·have hw:wrap64 ((i:Int)+1)=((i+1:Nat):Int):=by rw [w64_in] <;> omega
   have hw2:wrap64 (((i+1:Nat):Int)+1)=((i+2:Nat):Int):=by rw [w64_in] <;> omega
   have step:∀ e:Bool,∃ parts:List ByteArray,(∀ k,2 * m+3≤k→head_cut.j1 k x acc (b:Int) q (i:Int) (bt x (i:Int)) e=some (acc++parts))∧parts.length≤m+2∧∀ p∈parts,p.size≤x.size:=by
    intro e
    cases e with
    |true=>
     obtain ⟨parts,p1,p2,p3⟩:=ih acc b (i+2) q (by omega) (by omega) h3 (by omega) (by omega)
     refine ⟨parts,fun k hk=>?_,by omega,p3⟩
     obtain ⟨k,rfl⟩:∃ j,k=j+1:=⟨k - 1,by omega⟩
     unfold head_cut.j1
     rw [if_pos rfl,hw,hw2]
     exact p1 k (by omega)
    |false=>
     by_cases c1:bt x (i:Int)=34
     ·obtain ⟨parts,p1,p2,p3⟩:=ih acc b (i+1) (!q) (by omega) (by omega) h3 (by omega) (by omega)
      refine ⟨parts,fun k hk=>?_,by omega,p3⟩
      obtain ⟨k,rfl⟩:∃ j,k=j+1:=⟨k - 1,by omega⟩
      unfold head_cut.j1
      rw [if_neg (by decide),if_pos c1,hw]
      exact p1 k (by omega)
     ·by_cases c2:bt x (i:Int)=44
      ·cases q with
       |true=>
        obtain ⟨parts,p1,p2,p3⟩:=ih acc b (i+1) true (by omega) (by omega) h3 (by omega) (by omega)
        refine ⟨parts,fun k hk=>?_,by omega,p3⟩
        obtain ⟨k,rfl⟩:∃ j,k=j+1:=⟨k - 1,by omega⟩
        unfold head_cut.j1
        rw [if_neg (by decide),if_neg c1,if_pos c2,if_pos rfl,hw]
        exact p1 k (by omega)
       |false=>
        obtain ⟨parts,p1,p2,p3⟩:=ih (acc++[x.extract b i]) (i+1) (i+1) false (by omega) (by omega) (by omega) (by omega) (by simp;omega)
        refine ⟨x.extract b i :: parts,fun k hk=>?_,by simp;omega,fun p hp=>?_⟩
        ·obtain ⟨k,rfl⟩:∃ j,k=j+1:=⟨k - 1,by omega⟩
         unfold head_cut.j1
         rw [if_neg (by decide),if_neg c1,if_pos c2,if_neg (by decide),if_pos (by omega),if_pos (by omega),if_pos (by omega),if_pos (by omega),hw]
         rw [show ((b:Nat):Int).toNat=b from by omega,show ((i:Nat):Int).toNat=i from by omega,p1 k (by omega)]
         simp
        ·rcases List.mem_cons.1 hp with rfl|hp
         ·rw [ByteArray.size_extract];omega
         ·exact p3 p hp
      ·obtain ⟨parts,p1,p2,p3⟩:=ih acc b (i+1) q (by omega) (by omega) h3 (by omega) (by omega)
       refine ⟨parts,fun k hk=>?_,by omega,p3⟩
       obtain ⟨k,rfl⟩:∃ j,k=j+1:=⟨k - 1,by omega⟩
       unfold head_cut.j1
       rw [if_neg (by decide),if_neg c1,if_neg c2,hw]
       exact p1 k (by omega)
   obtain ⟨parts,p1,p2,p3⟩:=step (if q=true then bt x (i:Int) == 92 else false)
   refine ⟨parts,fun k hk=>?_,by omega,p3⟩
   obtain ⟨k,rfl⟩:∃ j,k=j+1:=⟨k - 1,by omega⟩
   unfold head_cut.l0
   rw [if_pos (by omega),if_pos (by omega)]
   have:=p1 k (by omega)
   cases q with
   |true=>rw [if_pos rfl];exact this
   |false=>rw [if_neg (by decide)];exact this
  ·obtain ⟨parts,p1,p2,p3⟩:∃ parts:List ByteArray,(∀ k,1≤k→head_cut.l0 k x acc (b:Int) q (i:Int)=some (acc++parts))∧parts.length≤1∧∀ p∈parts,p.size≤x.size:=by
    refine ⟨[x.extract b x.size],fun k hk=>?_,by simp,fun p hp=>?_⟩
    ·obtain ⟨k,rfl⟩:∃ j,k=j+1:=⟨k - 1,by omega⟩
     unfold head_cut.l0
     rw [if_neg (by omega),if_pos (by omega),if_pos (by omega),if_pos (by omega)]
     simp
    ·simp only [List.mem_singleton] at hp
     subst hp
     rw [ByteArray.size_extract];omega
   exact ⟨parts,fun k hk=>p1 k (by omega),by omega,p3⟩
theorem cut_total(x:ByteArray)(hx:x.size≤1000000):∃ parts:List ByteArray,(∀ k,2 * x.size+10≤k→head_cut.f k x=some parts)∧parts.length≤x.size+2∧∀ p∈parts,p.size≤x.size:=by
 obtain ⟨parts,p1,p2,p3⟩:=cut_loop x hx (x.size+1) [] 0 0 false (by omega) (by omega) (by omega) (by omega) (by simp)
 refine ⟨parts,fun k hk=>?_,by omega,p3⟩
 have:=p1 k (by omega)
 simpa [head_cut.f] using this
theorem toList_nil(s:ByteArray):s.toList=[]↔s.size=0:=by
 rw [ByteArray.toList_eq]
 obtain ⟨⟨x⟩⟩:=s
 simp [ByteArray.size]
theorem trim1_total:∀ n (s:ByteArray),s.size=n→n≤1000000→∃ r:ByteArray,(∀ k,n+1≤k→head_trim.l1 k s=some r)∧r.size≤s.size:=by
 intro n
 induction n with
 |zero=>
  intro s hs hn
  refine ⟨s,fun k hk=>?_,Nat.le_refl _⟩
  obtain ⟨k,rfl⟩:∃ j,k=j+1:=⟨k - 1,by omega⟩
  unfold head_trim.l1
  rw [if_pos ((toList_nil s).2 hs)]
 |succ n ih=>
  intro s hs hn
  have hne:¬ s.toList=[]:=fun e=>by have:=(toList_nil s).1 e;omega
  have hw:wrap64 ((s.size:Int) - 1)=((n:Nat):Int):=by rw [w64_in] <;> omega
  cases hb:(bt s ((n:Nat):Int) == 32 || bt s ((n:Nat):Int) == 9) with
  |true=>
   obtain ⟨r,r1,r2⟩:=ih (s.extract 0 n) (by rw [ByteArray.size_extract];omega) (by omega)
   refine ⟨r,fun k hk=>?_,by rw [ByteArray.size_extract] at r2;omega⟩
   obtain ⟨k,rfl⟩:∃ j,k=j+1:=⟨k - 1,by omega⟩
   unfold head_trim.l1
   rw [if_neg hne,hw,if_pos (by omega),if_pos (by omega)]
   have:head_blank.f (bt s ((n:Nat):Int))=some true:=by
    unfold head_blank.f
    split
    ·rfl
    ·rename_i h;simp [h] at hb;simp [hb]
   rw [this,Option.bind_some,if_pos rfl,if_pos (by omega),show ((n:Nat):Int).toNat=n from by omega]
   exact r1 k (by omega)
  |false=>
   refine ⟨s,fun k hk=>?_,Nat.le_refl _⟩
   obtain ⟨k,rfl⟩:∃ j,k=j+1:=⟨k - 1,by omega⟩
   unfold head_trim.l1
   rw [if_neg hne,hw,if_pos (by omega),if_pos (by omega)]
   have:head_blank.f (bt s ((n:Nat):Int))=some false:=by
    unfold head_blank.f
    simp at hb
    rw [if_neg hb.1];simp [hb.2]
   rw [this,Option.bind_some,if_neg (by decide)]
theorem trim0_total:∀ n (s:ByteArray),s.size=n→n≤1000000→∃ r:ByteArray,(∀ k,2 * n+4≤k→head_trim.l0 k s=some r)∧r.size≤s.size:=by
 have down:∀ (s:ByteArray) (n:Nat),s.size=n→n≤1000000→∃ r:ByteArray,(∀ k,n+2≤k→head_trim.j1 k s=some r)∧r.size≤s.size:=by
  intro s n hs hn
  obtain ⟨r,r1,r2⟩:=trim1_total n s hs hn
  refine ⟨r,fun k hk=>?_,r2⟩
  obtain ⟨k,rfl⟩:∃ j,k=j+1:=⟨k - 1,by omega⟩
  unfold head_trim.j1
  exact r1 k (by omega)
 intro n
 induction n with
 |zero=>
  intro s hs hn
  obtain ⟨r,r1,r2⟩:=down s 0 hs hn
  refine ⟨r,fun k hk=>?_,r2⟩
  obtain ⟨k,rfl⟩:∃ j,k=j+1:=⟨k - 1,by omega⟩
  unfold head_trim.l0
  rw [if_pos ((toList_nil s).2 hs)]
  exact r1 k (by omega)
 |succ n ih=>
  intro s hs hn
  have hne:¬ s.toList=[]:=fun e=>by have:=(toList_nil s).1 e;omega
  cases hb:(bt s 0 == 32 || bt s 0 == 9) with
  |true=>
   obtain ⟨r,r1,r2⟩:=ih (s.extract 1 s.size) (by rw [ByteArray.size_extract];omega) (by omega)
   refine ⟨r,fun k hk=>?_,by rw [ByteArray.size_extract] at r2;omega⟩
   obtain ⟨k,rfl⟩:∃ j,k=j+1:=⟨k - 1,by omega⟩
   unfold head_trim.l0
   rw [if_neg hne,if_pos (by omega)]
   have:head_blank.f (bt s 0)=some true:=by
    unfold head_blank.f
    split
    ·rfl
    ·rename_i h;simp [h] at hb;simp [hb]
   rw [this,Option.bind_some,if_pos rfl,if_pos (by omega)]
   exact r1 k (by omega)
  |false=>
   obtain ⟨r,r1,r2⟩:=down s (n+1) hs hn
   refine ⟨r,fun k hk=>?_,r2⟩
   obtain ⟨k,rfl⟩:∃ j,k=j+1:=⟨k - 1,by omega⟩
   unfold head_trim.l0
   rw [if_neg hne,if_pos (by omega)]
   have:head_blank.f (bt s 0)=some false:=by
    unfold head_blank.f
    simp at hb
    rw [if_neg hb.1];simp [hb.2]
   rw [this,Option.bind_some,if_neg (by decide)]
   exact r1 k (by omega)
theorem trim_total(s:ByteArray)(hs:s.size≤1000000):∃ r:ByteArray,(∀ k,2 * s.size+4≤k→head_trim.f k s=some r)∧r.size≤s.size:=trim0_total s.size s rfl hs
open Classical in
/-- What cut and trim come to (they come to an end). -/
noncomputable def cutR(s:ByteArray):List ByteArray:=if h:s.size≤1000000 then Classical.choose (cut_total s h) else []
open Classical in
noncomputable def trimR(s:ByteArray):ByteArray:=if h:s.size≤1000000 then Classical.choose (trim_total s h) else s
theorem cutR_is(s:ByteArray)(hs:s.size≤1000000):(∀ k,2 * s.size+10≤k→head_cut.f k s=some (cutR s))∧(cutR s).length≤s.size+2∧∀ p∈cutR s,p.size≤s.size:=by
 unfold cutR
 rw [dif_pos hs]
 exact Classical.choose_spec (cut_total s hs)
theorem trimR_is(s:ByteArray)(hs:s.size≤1000000):(∀ k,2 * s.size+4≤k→head_trim.f k s=some (trimR s))∧(trimR s).size≤s.size:=by
 unfold trimR
 rw [dif_pos hs]
 exact Classical.choose_spec (trim_total s hs)
/-- The parts of one value. -/
noncomputable def partsR(v:ByteArray):List ByteArray:=((cutR v).map trimR).filter fun t=>!(t.size == 0)
theorem list1_loop(M:Nat)(hM:M≤1000)(vals:List ByteArray)(n:Int)(i:Int)(ps:List ByteArray)(hps:∀ p∈ps,p.size≤M)(hl:ps.length≤100000):
  ∀ m (acc:List ByteArray) (j k:Nat),ps.length=j+m→acc.length+m≤1000000000→m+2 * M+5≤k→∃ k',k=k'+m ∧
   head_List.l1 k acc vals n i ps (ps.length:Int) (j:Int)=(head_List.l1 k' (acc++(((ps.drop j).map trimR).filter fun t=>!(t.size == 0))) vals n i ps (ps.length:Int) (ps.length:Int)):=by
 intro m
 induction m with
 |zero=>
  intro acc j k hj ha hk
  have:j=ps.length:=by omega
  subst this
  exact ⟨k,rfl,by rw [List.drop_length];simp⟩
 |succ m ih=>
  intro acc j k hj ha hk
  obtain ⟨k,rfl⟩:∃ q,k=q+1:=⟨k - 1,by omega⟩
  have hlt:j < ps.length:=by omega
  have hrd:rdOf ByteArray.empty ps (j:Int)=ps[j]:=by simp [rdOf,hlt]
  have hw:wrap64 ((j:Int)+1)=((j+1:Nat):Int):=by rw [w64_in] <;> omega
  have hsz:=hps _ (List.getElem_mem hlt)
  have ht:=(trimR_is ps[j] (by omega)).1 k (by omega)
  have hstep:head_List.l1 (k+1) acc vals n i ps (ps.length:Int) (j:Int)=if (trimR ps[j]).toList=[] then head_List.l1 k acc vals n i ps (ps.length:Int) ((j+1:Nat):Int) else head_List.l1 k (acc++[trimR ps[j]]) vals n i ps (ps.length:Int) ((j+1:Nat):Int):=by
   rw [head_List.l1,if_pos (by omega),if_pos (by omega),if_pos (by omega),hrd,ht,Option.bind_some,hw]
   by_cases e:(trimR ps[j]).toList=[]
   ·rw [if_pos e,if_pos e]
   ·rw [if_neg e,if_neg e,if_pos (by omega)]
  rw [hstep,List.drop_eq_getElem_cons hlt,List.map_cons,List.filter_cons]
  by_cases e:(trimR ps[j]).toList=[]
  ·have e0:=(toList_nil _).1 e
   rw [if_pos e]
   obtain ⟨k',rfl,h⟩:=ih acc (j+1) k (by omega) (by omega) (by omega)
   refine ⟨k',by omega,?_⟩
   rw [h,if_neg (by simp [e0])]
  ·have e0:¬ (trimR ps[j]).size=0:=fun h=>e ((toList_nil _).2 h)
   rw [if_neg e]
   obtain ⟨k',rfl,h⟩:=ih (acc++[trimR ps[j]]) (j+1) k (by omega) (by simp;omega) (by omega)
   refine ⟨k',by omega,?_⟩
   rw [h,if_pos (by simp [e0]),List.append_assoc,List.singleton_append]
theorem partsR_len(v:ByteArray)(hv:v.size≤1000000):(partsR v).length≤v.size+2:=Nat.le_trans (List.length_filter_le _ _) (by rw [List.length_map];exact (cutR_is v hv).2.1)
theorem partsR_size(v:ByteArray)(hv:v.size≤1000000):∀ p∈partsR v,p.size≤v.size:=by
 intro p hp
 obtain ⟨hp,_⟩:=List.mem_filter.1 hp
 obtain ⟨c,hc,rfl⟩:=List.mem_map.1 hp
 have h1:=(cutR_is v hv).2.2 c hc
 exact Nat.le_trans (trimR_is c (by omega)).2 h1
theorem list_loop(M:Nat)(hM:M≤1000)(vals:List ByteArray)(hv:∀ v∈vals,v.size≤M)(hn:vals.length≤1000):
  ∀ m (acc:List ByteArray) (i k:Nat),vals.length=i+m→acc.length+m * (M+2)≤100000000→m * (M+4)+2 * M+12≤k →
   head_List.l0 k acc vals (vals.length:Int) (i:Int)=some (acc++(vals.drop i).flatMap partsR):=by
 intro m
 induction m with
 |zero=>
  intro acc i k hi ha hk
  obtain ⟨k,rfl⟩:∃ q,k=q+1:=⟨k - 1,by omega⟩
  unfold head_List.l0
  rw [if_neg (by omega),List.drop_eq_nil_of_le (by omega)]
  simp
 |succ m ih=>
  intro acc i k hi ha hk
  obtain ⟨k,rfl⟩:∃ q,k=q+1:=⟨k - 1,by omega⟩
  have hlt:i < vals.length:=by omega
  have hrd:rdOf ByteArray.empty vals (i:Int)=vals[i]:=by simp [rdOf,hlt]
  have hw:wrap64 ((i:Int)+1)=((i+1:Nat):Int):=by rw [w64_in] <;> omega
  have hsz:=hv _ (List.getElem_mem hlt)
  have hmul:(m+1) * (M+4)=m * (M+4)+(M+4):=by rw [Nat.add_mul,Nat.one_mul]
  have hmul2:(m+1) * (M+2)=m * (M+2)+(M+2):=by rw [Nat.add_mul,Nat.one_mul]
  obtain ⟨c1,c2,c3⟩:=cutR_is vals[i] (by omega)
  unfold head_List.l0
  rw [if_pos (by omega),if_pos (by omega),if_pos (by omega),hrd,c1 k (by omega),Option.bind_some]
  obtain ⟨k',rfl,h⟩:=list1_loop M hM vals (vals.length:Int) (i:Int) (cutR vals[i]) (fun p hp=>Nat.le_trans (c3 p hp) hsz) (by omega) (cutR vals[i]).length acc 0 k (by omega) (by omega) (by omega)
  rw [show ((0:Nat):Int)=0 from rfl] at h
  rw [h]
  obtain ⟨k2,rfl⟩:∃ q,k'=q+1:=⟨k' - 1,by omega⟩
  unfold head_List.l1
  rw [if_neg (by omega),hw,List.drop_zero]
  have hp:=partsR_len vals[i] (by omega)
  rw [ih _ (i+1) k2 (by omega) (by rw [List.length_append];unfold partsR at hp;omega) (by omega),List.drop_eq_getElem_cons hlt,List.flatMap_cons,List.append_assoc]
  rfl
theorem hall_loop(l:List S41)(nm:ByteArray)(M:Nat)(hM:M≤9223372036854775000)(hl:∀ f∈l,f.f0.size≤M)(hn:l.length≤4611686018427):∀ m j k acc,l.length=j+m→M+2+m≤k→acc.length≤j →
  head_All.l0 k nm acc l (l.length:Int) (j:Int)=some (acc++allL (l.drop j) nm):=by
 intro m
 induction m with
 |zero=>
  intro j k acc hj hk ha
  obtain ⟨k,rfl⟩:∃ q,k=q+1:=⟨k - 1,by omega⟩
  unfold head_All.l0
  rw [if_neg (by omega),List.drop_eq_nil_of_le (by omega)]
  simp [allL]
 |succ m ih=>
  intro j k acc hj hk ha
  obtain ⟨k,rfl⟩:∃ q,k=q+1:=⟨k - 1,by omega⟩
  have hlt:j < l.length:=by omega
  have hrd:rd_T41 l (j:Int)=l[j]:=by simp [rd_T41,hlt]
  have hw:wrap64 ((j:Int)+1)=((j+1:Nat):Int):=by unfold wrap64;omega
  have hsz:=hl _ (List.getElem_mem hlt)
  unfold head_All.l0
  rw [if_pos (by omega),if_pos (by omega),if_pos (by omega),hrd,same_at k _ _ (by omega) (by omega),Option.bind_some,List.drop_eq_getElem_cons hlt]
  by_cases e:sameB l[j].f0 nm=true
  ·rw [if_pos e,if_pos (by omega),hw,ih (j+1) k _ (by omega) (by omega) (by simp;omega)]
   simp only [allL,List.filter_cons,if_pos e,List.map_cons,List.append_assoc,List.singleton_append]
  ·rw [if_neg e,hw,ih (j+1) k _ (by omega) (by omega) (by omega)]
   simp only [allL,List.filter_cons,if_neg e]
theorem hall_total(l:List S41)(nm:ByteArray)(M k:Nat)(hM:M≤9223372036854775000)(hl:∀ f∈l,f.f0.size≤M)(hn:l.length≤4611686018427)(hk:M+2+l.length≤k):head_All.f k l nm=some (allL l nm):=by
 have:=hall_loop l nm M hM hl hn l.length 0 k [] (by omega) hk (by simp)
 simpa [head_All.f] using this
noncomputable def listL(l:List S41)(nm:ByteArray):List ByteArray:=(allL l nm).flatMap partsR
theorem allL_len(l:List S41)(nm:ByteArray):(allL l nm).length≤l.length:=by unfold allL;rw [List.length_map];exact List.length_filter_le _ _
theorem allL_size(l:List S41)(nm:ByteArray)(M:Nat)(h:∀ f∈l,f.f1.size≤M):∀ v∈allL l nm,v.size≤M:=by
 intro v hv
 obtain ⟨f,hf,rfl⟩:=List.mem_map.1 hv
 exact h f (List.mem_filter.1 hf).1
theorem hlist_total(l:List S41)(nm:ByteArray)(k:Nat)(h0:∀ f∈l,f.f0.size≤300)(h1:∀ f∈l,f.f1.size≤300)(hn:l.length≤40)(hk:20000≤k):head_List.f k l nm=some (listL l nm):=by
 have ha:=allL_len l nm
 unfold head_List.f
 rw [hall_total l nm 300 k (by decide) h0 (by omega) (by omega),Option.bind_some]
 have h:=list_loop 300 (by decide) (allL l nm) (allL_size l nm 300 h1) (by omega) (allL l nm).length [] 0 k (by omega) (by simp;omega) (by omega)
 simpa [listL] using h
theorem listL_size(l:List S41)(nm:ByteArray)(h1:∀ f∈l,f.f1.size≤300):∀ p∈listL l nm,p.size≤300:=by
 intro p hp
 obtain ⟨v,hv,hp⟩:=List.mem_flatMap.1 hp
 have hs:=allL_size l nm 300 h1 v hv
 exact Nat.le_trans (partsR_size v (by omega) p hp) hs
theorem parse_total(l:List S41)(k:Nat)(h0:∀ f∈l,f.f0.size≤300)(h1:∀ f∈l,f.f1.size≤300)(hn:l.length≤40)(hk:20000≤k):
  ctrl_Parse.f k l=some (if (allL l ⟨#[67,97,99,104,101,45,67,111,110,116,114,111,108]⟩).length=0 then (pragC (pragma (listL l ⟨#[80,114,97,103,109,97]⟩))).tup else (sayAll (listL l ⟨#[67,97,99,104,101,45,67,111,110,116,114,111,108]⟩)).tup):=by
 unfold ctrl_Parse.f
 rw [hall_total l _ 300 k (by decide) h0 (by omega) (by omega),Option.bind_some]
 have hf:∀ nm,fits (listL l nm)=true:=fun nm=>by
  unfold fits
  rw [List.all_eq_true]
  intro p hp
  have:=listL_size l nm h1 p hp
  exact decide_eq_true (by omega)
 split
 ·rw [hlist_total l _ k h0 h1 hn hk,Option.bind_some,if_pos (hf _)]
 ·rw [hlist_total l _ k h0 h1 hn hk,Option.bind_some,if_pos (hf _)]
end Go.Proofs.YtlnmnjbihgaliaaGreat.Pr
end
section
open Go.RowKit Go.Proofs.YtlnmnjbihgaliaaGreatW.PrintWords
namespace Go.Proofs.YtlnmnjbihgaliaaGreat.Pr
def ccN:ByteArray:=⟨#[67,97,99,104,101,45,67,111,110,116,114,111,108]⟩
def varyN:ByteArray:=⟨#[86,97,114,121]⟩
def pragN:ByteArray:=⟨#[80,114,97,103,109,97]⟩
noncomputable def parC(l:List S41):Ctl:=if (allL l ccN).length=0 then pragC (pragma (listL l pragN)) else sayAll (listL l ccN)
/-- Fields that are light. -/
def LightL(l:List S41)(n:Nat):Prop:=(∀ f∈l,f.f0.size≤300)∧(∀ f∈l,f.f1.size≤300)∧l.length≤n
theorem parse_is(l:List S41)(h:LightL l 40)(k:Nat)(hk:20000≤k):ctrl_Parse.f k l=some (parC l).tup:=by
 rw [parse_total l k h.1 h.2.1 h.2.2 hk]
 unfold parC ccN pragN
 split <;> rfl
set_option maxRecDepth 20000 in
theorem listL_len(l:List S41)(nm:ByteArray)(h:LightL l 40):(listL l nm).length≤40 * 302:=by
 have h2:=allL_len l nm
 have h3:=allL_size l nm 300 h.2.1
 have h4:=h.2.2
 unfold listL
 generalize allL l nm=vs at h2 h3
 have:∀ vs:List ByteArray,(∀ v∈vs,v.size≤300)→(vs.flatMap partsR).length≤vs.length * 302:=by
  intro vs
  induction vs with
  |nil=>intro _;simp
  |cons v vs ih=>
   intro hv
   have h5:=hv v (by simp)
   have h6:=partsR_len v (by omega)
   have h7:=ih (fun x hx=>hv x (by simp [hx]))
   rw [List.flatMap_cons,List.length_append,List.length_cons,Nat.add_mul]
   omega
 have h8:=this vs h3
 have h9:vs.length * 302≤40 * 302:=Nat.mul_le_mul_right _ (by omega)
 omega
set_option maxRecDepth 20000 in
theorem names_is(a0:Int)(a1:ByteArray)(l:List S41)(b:List Int)(h:LightL l 40)(k:Nat)(hk:20000≤k):
  ∃ r,vary_Names.f k a0 a1 l b=some (r,(listL l varyN).any isStar):=by
 unfold vary_Names.f
 have hl:=listL_len l varyN h
 have hf:fits (listL l varyN)=true:=by
  unfold fits
  rw [List.all_eq_true]
  intro p hp
  have:=listL_size l varyN h.2.1 p hp
  exact decide_eq_true (by omega)
 rw [show head_List.f k l ⟨#[86,97,114,121]⟩=some (listL l varyN) from hlist_total l varyN k h.1 h.2.1 h.2.2 hk,Option.bind_some,if_pos ⟨hf,by omega⟩]
 cases hs:(listL l varyN).any isStar with
 |true=>rw [if_pos rfl];exact ⟨_,rfl⟩
 |false=>rw [if_neg (by decide)];exact ⟨_,rfl⟩
theorem may_total(q0 q1:ByteArray)(lq:List S41)(bq:List Int)(r0:Int)(r1:ByteArray)(lr:List S41)(br:List Int)(hq:LightL lq 40)(hr:LightL lr 40)(k:Nat)(hk:20000≤k):
  policy_May.f k q0 q1 lq bq r0 r1 lr br=some (mayF q0 r0 (parC lq).noStore (parC lr).noStore (parC lr).priv (parC lr).pub (parC lr).must (parC lr).maxAge (parC lr).sMax (getL lq authB).2 (getL lr expB).2 ((listL lr varyN).any isStar) br.length):=by
 have h1:=hq.2.2
 have h2:=hr.2.2
 obtain ⟨r,hn⟩:=names_is r0 r1 lr br hr k hk
 unfold policy_May.f
 rw [parse_is lq hq k hk,Option.bind_some,parse_is lr hr k hk,Option.bind_some,get_total lq authB 300 k (by decide) hq.1 (by omega) (by omega),Option.bind_some,get_total lr expB 300 k (by decide) hr.1 (by omega) (by omega),Option.bind_some,hn,Option.bind_some]
 rfl
theorem cutR_eq(v:ByteArray)(k:Nat)(ps:List ByteArray)(hv:v.size≤1000000)(hk:2 * v.size+10≤k)(h:head_cut.f k v=some ps):cutR v=ps:=by
 have:=(cutR_is v hv).1 k hk
 rw [this] at h
 exact Option.some.inj h
end Go.Proofs.YtlnmnjbihgaliaaGreat.Pr
end
