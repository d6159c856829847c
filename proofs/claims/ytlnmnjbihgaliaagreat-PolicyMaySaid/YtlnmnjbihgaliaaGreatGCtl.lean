import Derived.Test.YtlnmnjbihgaliaaGreatPr1
import Derived.Test.YtlnmnjbihgaliaaGreatPr6
import Derived.Test.YtlnmnjbihgaliaaGreatGCut
import Derived.Test.YtlnmnjbihgaliaaGreatPr5
set_option linter.unusedVariables false
set_option linter.unusedSimpArgs false
section
open Go.RowKit Go.Proofs.YtlnmnjbihgaliaaGreatW.PrintWords
namespace Go.Proofs.YtlnmnjbihgaliaaGreat.Pr
/-- Alike but for capitals. -/
def sameB(a b:ByteArray):Bool:=(bytesOf a).map lowB == (bytesOf b).map lowB
theorem small_total(c:Int)(h:0≤c∧c≤255):head_small.f c=some (lowB c):=by
 unfold head_small.f lowB
 by_cases h1:65≤c
 ·by_cases h2:c≤90
  ·rw [if_pos h1,if_pos h2,if_pos h1,if_pos h2];congr 1;omega
  ·rw [if_pos h1,if_neg h2,if_pos h1,if_neg h2]
 ·rw [if_neg h1,if_neg h1]
theorem bt_drop(s:ByteArray)(j:Nat)(h:j < s.size):(bytesOf s).drop j=bt s (j:Int) :: (bytesOf s).drop (j+1):=by
 have h':j < (bytesOf s).length:=by rw [bytesOf_length];exact h
 rw [List.drop_eq_getElem_cons h']
 congr 1
 have h2:((j:Int)).toNat < s.size:=by omega
 rw [← bt_at s (j:Int) h2]
 simp only [bytesOf,List.getElem_map]
 rfl
theorem same_loop(a b:ByteArray)(hab:a.size=b.size)(hs:a.size≤9223372036854775000):∀ m j,a.size=j+m →
  head_Same.l0 (m+1) a b (a.size:Int) (j:Int)=some (((bytesOf a).drop j).map lowB == ((bytesOf b).drop j).map lowB):=by
 intro m
 induction m with
 |zero=>
  intro j hj
  unfold head_Same.l0
  rw [if_neg (by omega),List.drop_eq_nil_of_le (by rw [bytesOf_length];omega),List.drop_eq_nil_of_le (by rw [bytesOf_length];omega)]
  rfl
 |succ m ih=>
  intro j hj
  unfold head_Same.l0
  rw [if_pos (by omega),if_pos (by omega),if_pos (by omega),small_total _ (bt_range a _),Option.bind_some,if_pos (by omega),small_total _ (bt_range b _),Option.bind_some,bt_drop a j (by omega),bt_drop b j (by omega)]
  have hw:wrap64 ((j:Int)+1)=((j+1:Nat):Int):=by unfold wrap64;omega
  by_cases e:lowB (bt a (j:Int))=lowB (bt b (j:Int))
  ·rw [if_pos e,hw,ih (j+1) (by omega)]
   simp [e]
  ·rw [if_neg e]
   simp [e]
theorem same_total(a b:ByteArray)(hs:a.size≤9223372036854775000):head_Same.f (a.size+1) a b=some (sameB a b):=by
 unfold head_Same.f sameB
 by_cases h:a.size=b.size
 ·rw [if_pos (by omega)]
  have:=same_loop a b h hs a.size 0 (by omega)
  simpa using this
 ·rw [if_neg (by omega)]
  have:¬ (bytesOf a).map lowB=(bytesOf b).map lowB:=fun e=>h (by have:=congrArg List.length e;simpa [bytesOf_length] using this)
  rw [beq_eq_false_iff_ne.mpr this]
theorem same_calls(a b:ByteArray)(w:World)(hs:a.size≤9223372036854775000):Calls Tryz.prog 47 #[.string a,.string b] w fun e w'=>e=.returned (.bool (sameB a b))∧Drawn0 w w':=
 head_Same.calls (a.size+1) a b _ w (same_total a b hs)
end Go.Proofs.YtlnmnjbihgaliaaGreat.Pr
end
section
open Go.RowKit Go.Proofs.YtlnmnjbihgaliaaGreatW.PrintWords
namespace Go.Proofs.YtlnmnjbihgaliaaGreat.Pr
/-- A number's digits, held at the most; -1: another sign. -/
def secL:Int→List Int→Int
 |n,[]=>n
 |n,c :: r=>if c < 48 then -1 else if c > 57 then -1 else secL (mn (10 * n+(c - 48)) 2147483647) r
def secondsF(s:ByteArray):Int:=if s.size=0 then -1 else secL 0 (bytesOf s)
theorem seconds_loop(s:ByteArray)(h0:s.size≠0)(hs:s.size≤9223372036854775000):∀ m j n,s.size=j+m→0≤n→n≤2147483647 →
  ctrl_Seconds.l0 (m+1) s n (s.size:Int) (j:Int)=some (secL n ((bytesOf s).drop j)):=by
 intro m
 induction m with
 |zero=>
  intro j n hj hn0 hn1
  unfold ctrl_Seconds.l0
  rw [if_neg (by omega),List.drop_eq_nil_of_le (by rw [bytesOf_length];omega),if_neg]
  ·rfl
  ·intro h
   apply h0
   rw [← data_length]
   have:s.toList=s.data.toList:=ByteArray.toList_eq s
   rw [← this,h];rfl
 |succ m ih=>
  intro j n hj hn0 hn1
  have hb:=bt_range s (j:Int)
  unfold ctrl_Seconds.l0
  rw [if_pos (by omega),if_pos (by omega),if_pos (by omega),bt_drop s j (by omega)]
  unfold secL
  by_cases h1:bt s (j:Int) < 48
  ·rw [if_pos h1,if_pos h1]
  ·rw [if_neg h1,if_neg h1]
   by_cases h2:bt s (j:Int) > 57
   ·rw [if_pos h2,if_pos h2]
   ·rw [if_neg h2,if_neg h2]
    have e1:wrap64 ((j:Int)+1)=((j+1:Nat):Int):=by unfold wrap64;omega
    have e2:wrap64 (wrap64 (10 * n)+(bt s (j:Int) - 48) % 256)=10 * n+(bt s (j:Int) - 48):=by unfold wrap64;omega
    rw [e1,e2]
    exact ih (j+1) _ (by omega) (by unfold mn;split <;> omega) (by unfold mn;split <;> omega)
theorem seconds_total(s:ByteArray)(hs:s.size≤9223372036854775000):ctrl_Seconds.f (s.size+1) s=some (secondsF s):=by
 unfold ctrl_Seconds.f secondsF
 by_cases h:s.size=0
 ·rw [if_pos h]
  unfold ctrl_Seconds.l0
  rw [if_neg (by omega),if_pos]
  have:s.toList=s.data.toList:=ByteArray.toList_eq s
  rw [this]
  exact List.eq_nil_of_length_eq_zero (by rw [data_length];exact h)
 ·rw [if_neg h]
  have:=seconds_loop s h hs s.size 0 0 (by omega) (by omega) (by omega)
  simpa using this
def leastF(old:Int)(v:ByteArray):Int:=if old ≥ 0 then mn (mx (secondsF v) 0) old else mx (secondsF v) 0
theorem least_total(old:Int)(v:ByteArray)(hs:v.size≤9223372036854775000):ctrl_least.f (v.size+1) old v=some (leastF old v):=by
 unfold ctrl_least.f leastF
 rw [seconds_total v hs,Option.bind_some]
 split <;> rfl
theorem least_calls(old:Int)(v:ByteArray)(w:World)(hs:v.size≤9223372036854775000):Calls Tryz.prog 72 #[.int .i64 old,.string v] w fun e w'=>e=.returned (.int .i64 (leastF old v))∧Below w.heap.size w w':=
 ctrl_least.calls (v.size+1) old v _ w (least_total old v hs)
end Go.Proofs.YtlnmnjbihgaliaaGreat.Pr
end
section
open Go.RowKit Go.Proofs.YtlnmnjbihgaliaaGreatW.PrintWords
namespace Go.Proofs.YtlnmnjbihgaliaaGreat.Pr
/-- What Cache-Control says. -/
structure Ctl where
 noStore:Bool
 noCache:Bool
 priv:Bool
 pub:Bool
 must:Bool
 proxy:Bool
 only:Bool
 any:Bool
 maxAge:Int
 sMax:Int
 minFresh:Int
 maxStale:Int
def Ctl.cells(c:Ctl):Array Value:=#[.bool c.noStore,.bool c.noCache,.bool c.priv,.bool c.pub,.bool c.must,.bool c.proxy,.bool c.only,.bool c.any,.int .i64 c.maxAge,.int .i64 c.sMax,.int .i64 c.minFresh,.int .i64 c.maxStale]
def sayG(c:Ctl)(nm v:ByteArray)(has:Bool):Ctl:=
 if sameB nm ⟨#[110,111,45,115,116,111,114,101]⟩=true then { c with noStore:=true }
 else if sameB nm ⟨#[110,111,45,99,97,99,104,101]⟩=true then { c with noCache:=true }
 else if sameB nm ⟨#[112,114,105,118,97,116,101]⟩=true then { c with priv:=true }
 else if sameB nm ⟨#[112,117,98,108,105,99]⟩=true then { c with pub:=true }
 else if sameB nm ⟨#[109,117,115,116,45,114,101,118,97,108,105,100,97,116,101]⟩=true then { c with must:=true }
 else if sameB nm ⟨#[112,114,111,120,121,45,114,101,118,97,108,105,100,97,116,101]⟩=true then { c with proxy:=true }
 else if sameB nm ⟨#[111,110,108,121,45,105,102,45,99,97,99,104,101,100]⟩=true then { c with only:=true }
 else if sameB nm ⟨#[109,97,120,45,97,103,101]⟩=true then { c with maxAge:=leastF c.maxAge v }
 else if sameB nm ⟨#[115,45,109,97,120,97,103,101]⟩=true then { c with sMax:=leastF c.sMax v }
 else if sameB nm ⟨#[109,105,110,45,102,114,101,115,104]⟩=true then { c with minFresh:=leastF c.minFresh v }
 else if sameB nm ⟨#[109,97,120,45,115,116,97,108,101]⟩=true then
  (if has=true then { c with maxStale:=leastF c.maxStale v } else { c with any:=true })
 else c
def sayF(c:Ctl)(p:ByteArray):Ctl:=sayG c (cutName p) (plainF (cutVal p)) (decide (0≤eqAt p))
theorem cutName_size(p:ByteArray):(cutName p).size≤p.size:=by
 unfold cutName;split
 ·rw [ByteArray.size_extract];omega
 ·exact Nat.le_refl _
theorem cutVal_size(p:ByteArray):(cutVal p).size≤p.size:=by
 unfold cutVal;split
 ·rw [ByteArray.size_extract];omega
 ·exact Nat.zero_le _
theorem unq_size:∀ (n:Nat) (l:List UInt8),l.length≤n→(unq l).length≤l.length:=by
 intro n
 induction n with
 |zero=>
  intro l h
  obtain rfl:l=[]:=List.eq_nil_of_length_eq_zero (by omega)
  exact Nat.le_refl _
 |succ n ih=>
  intro l h
  match l,h with
  |[],_=>exact Nat.le_refl _
  |[c],_=>exact Nat.le_refl _
  |c :: d :: r,h=>
   simp only [List.length_cons] at h
   unfold unq
   split
   ·have:=ih r (by omega);simp only [List.length_cons];omega
   ·have:=ih (d :: r) (by simp only [List.length_cons];omega);simp only [List.length_cons] at this ⊢;omega
theorem plainF_size(s:ByteArray):(plainF s).size≤s.size:=by
 unfold plainF
 split
 ·exact Nat.le_refl _
 ·have h:=unq_size _ (s.extract 1 (s.size - 1)).data.toList (Nat.le_refl _)
  rw [data_length,ByteArray.size_extract] at h
  show (unq (s.extract 1 (s.size - 1)).data.toList).toArray.size≤_
  rw [List.size_toArray];omega
theorem drawn_below{B:Nat}{w w1:World}(h:Drawn0 w w1):Below B w w1:=by obtain ⟨q,rfl⟩:=h;exact pw_below_drewN (Below.refl _ _) q
theorem drawn_heap{w w1:World}(h:Drawn0 w w1):w1.heap=w.heap:=by obtain ⟨q,rfl⟩:=h;rfl
set_option maxRecDepth 100000 in
set_option maxHeartbeats 4000000 in
theorem is_calls(B:Nat)(nm s:ByteArray)(w:World)(hc:w.cell? ⟨B,0,none⟩=some (.string nm))(hs:nm.size≤9223372036854775000):
  Calls Tryz.prog 71 #[.string s,.pointer (some ⟨B,0,none⟩)] w fun e w'=>e=.returned (.bool (sameB nm s))∧Drawn0 w w':=by
 have HS:=mkA (fun W=>same_calls nm s W hs)
 clear hs
 go_enter Tryz.func71,Tryz.ntmps71
 go_wp2_with (go_at_call 47;refine (HS.out _).mono ?_;rintro e w1 ⟨rfl,hd⟩)
 go_ret
 exact ⟨rfl,hd⟩
theorem drawn_cell{w w1:World}{a:Addr}{v:Value}(h:Drawn0 w w1)(hc:w.cell? a=some v):w1.cell? a=some v:=by obtain ⟨q,rfl⟩:=h;exact hc
theorem drawn_blk{w w1:World}{g:Nat}{o:Obj}(h:Drawn0 w w1)(hc:w.heap[g]?=some o):w1.heap[g]?=some o:=by obtain ⟨q,rfl⟩:=h;exact hc
theorem drawn_bel{w0 w w1:World}(h:Drawn0 w w1)(hb:Below w0.heap.size w0 w):Below w0.heap.size w0 w1:=by obtain ⟨q,rfl⟩:=h;exact pw_below_drewN hb q
theorem say_none{g:Nat}{w w2:World}(h:Below w.heap.size w w2):w.grownBy w2 (some g):=⟨h.os,h.tape,h.output,h.size,fun k hk _=>h.block k hk⟩
theorem say_put{g:Nat}{w w2:World}(h:Below w.heap.size w w2)(i:Nat)(v:Value):w.grownBy (w2.setCell ⟨g,i,none⟩ v) (some g):=by
 refine ⟨h.os,h.tape,h.output,by simpa [World.setCell] using h.size,fun k hk hne=>?_⟩
 rw [Below.heap_setCell _ _ _ k (by rintro rfl;exact hne rfl)]
 exact h.block k hk
set_option maxRecDepth 100000 in
set_option maxHeartbeats 8000000 in
theorem say_calls(g:Nat)(c:Ctl)(p:ByteArray)(w:World)(hg0:w.heap[g]?=some (.cells c.cells 51 (0,0)))(hp:p.size≤140737488355300):
  Calls Tryz.prog 48 #[.pointer (some ⟨g,0,none⟩),.string p] w fun e w'=>e=.returned (.tuple #[])∧w'.heap[g]?=some (.cells (sayF c p).cells 51 (0,0))∧w.grownBy w' (some g):=by
 have HG:=mkA hg0
 clear hg0
 obtain ⟨nm,hnm⟩:∃ nm,cutName p=nm:=⟨_,rfl⟩
 obtain ⟨v0,hv0⟩:∃ v0,cutVal p=v0:=⟨_,rfl⟩
 obtain ⟨v,hv⟩:∃ v,plainF v0=v:=⟨_,rfl⟩
 obtain ⟨has,hhas⟩:∃ has,decide (0≤eqAt p)=has:=⟨_,rfl⟩
 have HS1:=mkA (show nm.size≤9223372036854775000 by have:=cutName_size p;rw [hnm] at this;omega)
 have HS2:=mkA (show v0.size≤140737488355300 by have:=cutVal_size p;rw [hv0] at this;omega)
 have HS3:=mkA (show v.size≤9223372036854775000 by have:=cutVal_size p;have h2:=plainF_size v0;rw [hv0] at this;rw [hv] at h2;omega)
 have HC:=mkA (fun W=>cut_calls p W (by omega))
 have HP:=mkA (fun W=>plain_calls v0 W HS2.out)
 rw [hv] at HP
 rw [hnm,hv0,hhas] at HC
 unfold sayF
 rw [hnm,hv0,hv,hhas]
 clear hnm hv0 hv hhas
 go_enter Tryz.func48,Tryz.ntmps48
 go_wp2_with (first|(go_at_call 69;refine (HC.out _).mono ?_;rintro e w1 ⟨rfl,hd1⟩;have HD1:=mkA hd1;clear hd1)|(go_at_call 70;refine (HP.out _).mono ?_;rintro e w2 ⟨rfl,hb2⟩;have HB2:=mkA hb2;clear hb2)|fail)
 have hb3:Below w1.heap.size w1 w2:=by
  refine Below.trans ?_ (HB2.out.mono ?_)
  ·first|exact (Below.refl _ w1).alloc (Nat.le_refl _) _|exact Below.setCell ((Below.refl _ w1).alloc (Nat.le_refl _) _) (p:=⟨w1.heap.size,0,none⟩) (Nat.le_refl _) _
  ·simp
 have hcell:w2.cell? ⟨w1.heap.size,0,none⟩=some (.string nm):=by
  refine (HB2.out.cell ?_).trans ?_
  ·simp
  ·first|exact (blk_cell (heap_alloc_new w1 _) 0).trans rfl|exact (blk_cell (blk_set (heap_alloc_new w1 _) 0 _) 0).trans rfl
 have HCL:=mkA hcell
 have HGW:=mkA (show w2.heap[g]?=some (.cells c.cells 51 (0,0)) from (hb3.block _ (by rw [drawn_heap HD1.out];exact blk_lt HG.out)).trans (by rw [drawn_heap HD1.out];exact HG.out))
 have HBW:=mkA (show Below w.heap.size w w2 from (drawn_below HD1.out).trans (hb3.mono (by rw [drawn_heap HD1.out];exact Nat.le_refl _)))
 clear hb3 hcell HB2
 generalize w1.heap.size=B at HCL ⊢
 clear HC HP HD1 HG
 cases h0:sameB nm ⟨#[110,111,45,115,116,111,114,101]⟩ with
 |true=>
  have HR:=mkA (show sayG c nm v has={ c with noStore:=true } by unfold sayG;simp only [h0];rfl)
  have hz:w2.frozen? ⟨g,0,none⟩=false:=blk_frozen HGW.out 0
  have hy:w2.cell? ⟨g,0,none⟩=some (.bool c.noStore):=(blk_cell HGW.out 0).trans rfl
  refine (is_calls B nm _ _ HCL.out HS1.out).mono ?_
  rintro e w4 ⟨rfl,hd⟩
  replace HCL:=mkA (drawn_cell hd HCL.out)
  replace HGW:=mkA (drawn_blk hd HGW.out)
  replace HBW:=mkA (drawn_bel hd HBW.out)
  clear hd
  replace hz:w4.frozen? ⟨g,0,none⟩=false:=blk_frozen HGW.out 0
  replace hy:w4.cell? ⟨g,0,none⟩=some (.bool c.noStore):=(blk_cell HGW.out 0).trans rfl
  go_wp2_with (first|(go_at_call 71;refine (is_calls B nm _ _ HCL.out HS1.out).mono ?_;rintro e w4 ⟨rfl,hd⟩;replace HCL:=mkA (drawn_cell hd HCL.out);replace HGW:=mkA (drawn_blk hd HGW.out);replace HBW:=mkA (drawn_bel hd HBW.out);clear hd;replace hz:w4.frozen? ⟨g,0,none⟩=false:=blk_frozen HGW.out 0;replace hy:w4.cell? ⟨g,0,none⟩=some (.bool c.noStore):=(blk_cell HGW.out 0).trans rfl)|(go_at_call 72;refine (least_calls _ v _ HS3.out).mono ?_;rintro e w5 ⟨rfl,hb5⟩;replace HGW:=mkA ((hb5.block _ (blk_lt HGW.out)).trans HGW.out);replace HBW:=mkA (HBW.out.trans (hb5.mono HBW.out.size));clear hb5;replace hz:w5.frozen? ⟨g,0,none⟩=false:=blk_frozen HGW.out 0;replace hy:w5.cell? ⟨g,0,none⟩=some (.bool c.noStore):=(blk_cell HGW.out 0).trans rfl)|fail)
  go_end0
  exact ⟨rfl,by rw [HR.out];exact blk_set HGW.out 0 _,say_put HBW.out 0 _⟩
 |false=>
  cases h1:sameB nm ⟨#[110,111,45,99,97,99,104,101]⟩ with
  |true=>
   have HR:=mkA (show sayG c nm v has={ c with noCache:=true } by unfold sayG;simp only [h0,h1];rfl)
   have hz:w2.frozen? ⟨g,1,none⟩=false:=blk_frozen HGW.out 1
   have hy:w2.cell? ⟨g,1,none⟩=some (.bool c.noCache):=(blk_cell HGW.out 1).trans rfl
   refine (is_calls B nm _ _ HCL.out HS1.out).mono ?_
   rintro e w4 ⟨rfl,hd⟩
   replace HCL:=mkA (drawn_cell hd HCL.out)
   replace HGW:=mkA (drawn_blk hd HGW.out)
   replace HBW:=mkA (drawn_bel hd HBW.out)
   clear hd
   replace hz:w4.frozen? ⟨g,1,none⟩=false:=blk_frozen HGW.out 1
   replace hy:w4.cell? ⟨g,1,none⟩=some (.bool c.noCache):=(blk_cell HGW.out 1).trans rfl
   go_wp2_with (first|(go_at_call 71;refine (is_calls B nm _ _ HCL.out HS1.out).mono ?_;rintro e w4 ⟨rfl,hd⟩;replace HCL:=mkA (drawn_cell hd HCL.out);replace HGW:=mkA (drawn_blk hd HGW.out);replace HBW:=mkA (drawn_bel hd HBW.out);clear hd;replace hz:w4.frozen? ⟨g,1,none⟩=false:=blk_frozen HGW.out 1;replace hy:w4.cell? ⟨g,1,none⟩=some (.bool c.noCache):=(blk_cell HGW.out 1).trans rfl)|(go_at_call 72;refine (least_calls _ v _ HS3.out).mono ?_;rintro e w5 ⟨rfl,hb5⟩;replace HGW:=mkA ((hb5.block _ (blk_lt HGW.out)).trans HGW.out);replace HBW:=mkA (HBW.out.trans (hb5.mono HBW.out.size));clear hb5;replace hz:w5.frozen? ⟨g,1,none⟩=false:=blk_frozen HGW.out 1;replace hy:w5.cell? ⟨g,1,none⟩=some (.bool c.noCache):=(blk_cell HGW.out 1).trans rfl)|fail)
   go_end0
   exact ⟨rfl,by rw [HR.out];exact blk_set HGW.out 1 _,say_put HBW.out 1 _⟩
  |false=>
   cases h2:sameB nm ⟨#[112,114,105,118,97,116,101]⟩ with
   |true=>
    have HR:=mkA (show sayG c nm v has={ c with priv:=true } by unfold sayG;simp only [h0,h1,h2];rfl)
    have hz:w2.frozen? ⟨g,2,none⟩=false:=blk_frozen HGW.out 2
    have hy:w2.cell? ⟨g,2,none⟩=some (.bool c.priv):=(blk_cell HGW.out 2).trans rfl
    refine (is_calls B nm _ _ HCL.out HS1.out).mono ?_
    rintro e w4 ⟨rfl,hd⟩
    replace HCL:=mkA (drawn_cell hd HCL.out)
    replace HGW:=mkA (drawn_blk hd HGW.out)
    replace HBW:=mkA (drawn_bel hd HBW.out)
    clear hd
    replace hz:w4.frozen? ⟨g,2,none⟩=false:=blk_frozen HGW.out 2
    replace hy:w4.cell? ⟨g,2,none⟩=some (.bool c.priv):=(blk_cell HGW.out 2).trans rfl
    go_wp2_with (first|(go_at_call 71;refine (is_calls B nm _ _ HCL.out HS1.out).mono ?_;rintro e w4 ⟨rfl,hd⟩;replace HCL:=mkA (drawn_cell hd HCL.out);replace HGW:=mkA (drawn_blk hd HGW.out);replace HBW:=mkA (drawn_bel hd HBW.out);clear hd;replace hz:w4.frozen? ⟨g,2,none⟩=false:=blk_frozen HGW.out 2;replace hy:w4.cell? ⟨g,2,none⟩=some (.bool c.priv):=(blk_cell HGW.out 2).trans rfl)|(go_at_call 72;refine (least_calls _ v _ HS3.out).mono ?_;rintro e w5 ⟨rfl,hb5⟩;replace HGW:=mkA ((hb5.block _ (blk_lt HGW.out)).trans HGW.out);replace HBW:=mkA (HBW.out.trans (hb5.mono HBW.out.size));clear hb5;replace hz:w5.frozen? ⟨g,2,none⟩=false:=blk_frozen HGW.out 2;replace hy:w5.cell? ⟨g,2,none⟩=some (.bool c.priv):=(blk_cell HGW.out 2).trans rfl)|fail)
    go_end0
    exact ⟨rfl,by rw [HR.out];exact blk_set HGW.out 2 _,say_put HBW.out 2 _⟩
   |false=>
    cases h3:sameB nm ⟨#[112,117,98,108,105,99]⟩ with
    |true=>
     have HR:=mkA (show sayG c nm v has={ c with pub:=true } by unfold sayG;simp only [h0,h1,h2,h3];rfl)
     have hz:w2.frozen? ⟨g,3,none⟩=false:=blk_frozen HGW.out 3
     have hy:w2.cell? ⟨g,3,none⟩=some (.bool c.pub):=(blk_cell HGW.out 3).trans rfl
     refine (is_calls B nm _ _ HCL.out HS1.out).mono ?_
     rintro e w4 ⟨rfl,hd⟩
     replace HCL:=mkA (drawn_cell hd HCL.out)
     replace HGW:=mkA (drawn_blk hd HGW.out)
     replace HBW:=mkA (drawn_bel hd HBW.out)
     clear hd
     replace hz:w4.frozen? ⟨g,3,none⟩=false:=blk_frozen HGW.out 3
     replace hy:w4.cell? ⟨g,3,none⟩=some (.bool c.pub):=(blk_cell HGW.out 3).trans rfl
     go_wp2_with (first|(go_at_call 71;refine (is_calls B nm _ _ HCL.out HS1.out).mono ?_;rintro e w4 ⟨rfl,hd⟩;replace HCL:=mkA (drawn_cell hd HCL.out);replace HGW:=mkA (drawn_blk hd HGW.out);replace HBW:=mkA (drawn_bel hd HBW.out);clear hd;replace hz:w4.frozen? ⟨g,3,none⟩=false:=blk_frozen HGW.out 3;replace hy:w4.cell? ⟨g,3,none⟩=some (.bool c.pub):=(blk_cell HGW.out 3).trans rfl)|(go_at_call 72;refine (least_calls _ v _ HS3.out).mono ?_;rintro e w5 ⟨rfl,hb5⟩;replace HGW:=mkA ((hb5.block _ (blk_lt HGW.out)).trans HGW.out);replace HBW:=mkA (HBW.out.trans (hb5.mono HBW.out.size));clear hb5;replace hz:w5.frozen? ⟨g,3,none⟩=false:=blk_frozen HGW.out 3;replace hy:w5.cell? ⟨g,3,none⟩=some (.bool c.pub):=(blk_cell HGW.out 3).trans rfl)|fail)
     go_end0
     exact ⟨rfl,by rw [HR.out];exact blk_set HGW.out 3 _,say_put HBW.out 3 _⟩
    |false=>
     cases h4:sameB nm ⟨#[109,117,115,116,45,114,101,118,97,108,105,100,97,116,101]⟩ with
     |true=>
      have HR:=mkA (show sayG c nm v has={ c with must:=true } by unfold sayG;simp only [h0,h1,h2,h3,h4];rfl)
      have hz:w2.frozen? ⟨g,4,none⟩=false:=blk_frozen HGW.out 4
      have hy:w2.cell? ⟨g,4,none⟩=some (.bool c.must):=(blk_cell HGW.out 4).trans rfl
      refine (is_calls B nm _ _ HCL.out HS1.out).mono ?_
      rintro e w4 ⟨rfl,hd⟩
      replace HCL:=mkA (drawn_cell hd HCL.out)
      replace HGW:=mkA (drawn_blk hd HGW.out)
      replace HBW:=mkA (drawn_bel hd HBW.out)
      clear hd
      replace hz:w4.frozen? ⟨g,4,none⟩=false:=blk_frozen HGW.out 4
      replace hy:w4.cell? ⟨g,4,none⟩=some (.bool c.must):=(blk_cell HGW.out 4).trans rfl
      go_wp2_with (first|(go_at_call 71;refine (is_calls B nm _ _ HCL.out HS1.out).mono ?_;rintro e w4 ⟨rfl,hd⟩;replace HCL:=mkA (drawn_cell hd HCL.out);replace HGW:=mkA (drawn_blk hd HGW.out);replace HBW:=mkA (drawn_bel hd HBW.out);clear hd;replace hz:w4.frozen? ⟨g,4,none⟩=false:=blk_frozen HGW.out 4;replace hy:w4.cell? ⟨g,4,none⟩=some (.bool c.must):=(blk_cell HGW.out 4).trans rfl)|(go_at_call 72;refine (least_calls _ v _ HS3.out).mono ?_;rintro e w5 ⟨rfl,hb5⟩;replace HGW:=mkA ((hb5.block _ (blk_lt HGW.out)).trans HGW.out);replace HBW:=mkA (HBW.out.trans (hb5.mono HBW.out.size));clear hb5;replace hz:w5.frozen? ⟨g,4,none⟩=false:=blk_frozen HGW.out 4;replace hy:w5.cell? ⟨g,4,none⟩=some (.bool c.must):=(blk_cell HGW.out 4).trans rfl)|fail)
      go_end0
      exact ⟨rfl,by rw [HR.out];exact blk_set HGW.out 4 _,say_put HBW.out 4 _⟩
     |false=>
      cases h5:sameB nm ⟨#[112,114,111,120,121,45,114,101,118,97,108,105,100,97,116,101]⟩ with
      |true=>
       have HR:=mkA (show sayG c nm v has={ c with proxy:=true } by unfold sayG;simp only [h0,h1,h2,h3,h4,h5];rfl)
       have hz:w2.frozen? ⟨g,5,none⟩=false:=blk_frozen HGW.out 5
       have hy:w2.cell? ⟨g,5,none⟩=some (.bool c.proxy):=(blk_cell HGW.out 5).trans rfl
       refine (is_calls B nm _ _ HCL.out HS1.out).mono ?_
       rintro e w4 ⟨rfl,hd⟩
       replace HCL:=mkA (drawn_cell hd HCL.out)
       replace HGW:=mkA (drawn_blk hd HGW.out)
       replace HBW:=mkA (drawn_bel hd HBW.out)
       clear hd
       replace hz:w4.frozen? ⟨g,5,none⟩=false:=blk_frozen HGW.out 5
       replace hy:w4.cell? ⟨g,5,none⟩=some (.bool c.proxy):=(blk_cell HGW.out 5).trans rfl
       go_wp2_with (first|(go_at_call 71;refine (is_calls B nm _ _ HCL.out HS1.out).mono ?_;rintro e w4 ⟨rfl,hd⟩;replace HCL:=mkA (drawn_cell hd HCL.out);replace HGW:=mkA (drawn_blk hd HGW.out);replace HBW:=mkA (drawn_bel hd HBW.out);clear hd;replace hz:w4.frozen? ⟨g,5,none⟩=false:=blk_frozen HGW.out 5;replace hy:w4.cell? ⟨g,5,none⟩=some (.bool c.proxy):=(blk_cell HGW.out 5).trans rfl)|(go_at_call 72;refine (least_calls _ v _ HS3.out).mono ?_;rintro e w5 ⟨rfl,hb5⟩;replace HGW:=mkA ((hb5.block _ (blk_lt HGW.out)).trans HGW.out);replace HBW:=mkA (HBW.out.trans (hb5.mono HBW.out.size));clear hb5;replace hz:w5.frozen? ⟨g,5,none⟩=false:=blk_frozen HGW.out 5;replace hy:w5.cell? ⟨g,5,none⟩=some (.bool c.proxy):=(blk_cell HGW.out 5).trans rfl)|fail)
       go_end0
       exact ⟨rfl,by rw [HR.out];exact blk_set HGW.out 5 _,say_put HBW.out 5 _⟩
      |false=>
       cases h6:sameB nm ⟨#[111,110,108,121,45,105,102,45,99,97,99,104,101,100]⟩ with
       |true=>
        have HR:=mkA (show sayG c nm v has={ c with only:=true } by unfold sayG;simp only [h0,h1,h2,h3,h4,h5,h6];rfl)
        have hz:w2.frozen? ⟨g,6,none⟩=false:=blk_frozen HGW.out 6
        have hy:w2.cell? ⟨g,6,none⟩=some (.bool c.only):=(blk_cell HGW.out 6).trans rfl
        refine (is_calls B nm _ _ HCL.out HS1.out).mono ?_
        rintro e w4 ⟨rfl,hd⟩
        replace HCL:=mkA (drawn_cell hd HCL.out)
        replace HGW:=mkA (drawn_blk hd HGW.out)
        replace HBW:=mkA (drawn_bel hd HBW.out)
        clear hd
        replace hz:w4.frozen? ⟨g,6,none⟩=false:=blk_frozen HGW.out 6
        replace hy:w4.cell? ⟨g,6,none⟩=some (.bool c.only):=(blk_cell HGW.out 6).trans rfl
        go_wp2_with (first|(go_at_call 71;refine (is_calls B nm _ _ HCL.out HS1.out).mono ?_;rintro e w4 ⟨rfl,hd⟩;replace HCL:=mkA (drawn_cell hd HCL.out);replace HGW:=mkA (drawn_blk hd HGW.out);replace HBW:=mkA (drawn_bel hd HBW.out);clear hd;replace hz:w4.frozen? ⟨g,6,none⟩=false:=blk_frozen HGW.out 6;replace hy:w4.cell? ⟨g,6,none⟩=some (.bool c.only):=(blk_cell HGW.out 6).trans rfl)|(go_at_call 72;refine (least_calls _ v _ HS3.out).mono ?_;rintro e w5 ⟨rfl,hb5⟩;replace HGW:=mkA ((hb5.block _ (blk_lt HGW.out)).trans HGW.out);replace HBW:=mkA (HBW.out.trans (hb5.mono HBW.out.size));clear hb5;replace hz:w5.frozen? ⟨g,6,none⟩=false:=blk_frozen HGW.out 6;replace hy:w5.cell? ⟨g,6,none⟩=some (.bool c.only):=(blk_cell HGW.out 6).trans rfl)|fail)
        go_end0
        exact ⟨rfl,by rw [HR.out];exact blk_set HGW.out 6 _,say_put HBW.out 6 _⟩
       |false=>
        cases h7:sameB nm ⟨#[109,97,120,45,97,103,101]⟩ with
        |true=>
         have HR:=mkA (show sayG c nm v has={ c with maxAge:=leastF c.maxAge v } by unfold sayG;simp only [h0,h1,h2,h3,h4,h5,h6,h7];rfl)
         have hz:w2.frozen? ⟨g,8,none⟩=false:=blk_frozen HGW.out 8
         have hy:w2.cell? ⟨g,8,none⟩=some (.int .i64 c.maxAge):=(blk_cell HGW.out 8).trans rfl
         refine (is_calls B nm _ _ HCL.out HS1.out).mono ?_
         rintro e w4 ⟨rfl,hd⟩
         replace HCL:=mkA (drawn_cell hd HCL.out)
         replace HGW:=mkA (drawn_blk hd HGW.out)
         replace HBW:=mkA (drawn_bel hd HBW.out)
         clear hd
         replace hz:w4.frozen? ⟨g,8,none⟩=false:=blk_frozen HGW.out 8
         replace hy:w4.cell? ⟨g,8,none⟩=some (.int .i64 c.maxAge):=(blk_cell HGW.out 8).trans rfl
         go_wp2_with (first|(go_at_call 71;refine (is_calls B nm _ _ HCL.out HS1.out).mono ?_;rintro e w4 ⟨rfl,hd⟩;replace HCL:=mkA (drawn_cell hd HCL.out);replace HGW:=mkA (drawn_blk hd HGW.out);replace HBW:=mkA (drawn_bel hd HBW.out);clear hd;replace hz:w4.frozen? ⟨g,8,none⟩=false:=blk_frozen HGW.out 8;replace hy:w4.cell? ⟨g,8,none⟩=some (.int .i64 c.maxAge):=(blk_cell HGW.out 8).trans rfl)|(go_at_call 72;refine (least_calls _ v _ HS3.out).mono ?_;rintro e w5 ⟨rfl,hb5⟩;replace HGW:=mkA ((hb5.block _ (blk_lt HGW.out)).trans HGW.out);replace HBW:=mkA (HBW.out.trans (hb5.mono HBW.out.size));clear hb5;replace hz:w5.frozen? ⟨g,8,none⟩=false:=blk_frozen HGW.out 8;replace hy:w5.cell? ⟨g,8,none⟩=some (.int .i64 c.maxAge):=(blk_cell HGW.out 8).trans rfl)|fail)
         go_end0
         exact ⟨rfl,by rw [HR.out];exact blk_set HGW.out 8 _,say_put HBW.out 8 _⟩
        |false=>
         cases h8:sameB nm ⟨#[115,45,109,97,120,97,103,101]⟩ with
         |true=>
          have HR:=mkA (show sayG c nm v has={ c with sMax:=leastF c.sMax v } by unfold sayG;simp only [h0,h1,h2,h3,h4,h5,h6,h7,h8];rfl)
          have hz:w2.frozen? ⟨g,9,none⟩=false:=blk_frozen HGW.out 9
          have hy:w2.cell? ⟨g,9,none⟩=some (.int .i64 c.sMax):=(blk_cell HGW.out 9).trans rfl
          refine (is_calls B nm _ _ HCL.out HS1.out).mono ?_
          rintro e w4 ⟨rfl,hd⟩
          replace HCL:=mkA (drawn_cell hd HCL.out)
          replace HGW:=mkA (drawn_blk hd HGW.out)
          replace HBW:=mkA (drawn_bel hd HBW.out)
          clear hd
          replace hz:w4.frozen? ⟨g,9,none⟩=false:=blk_frozen HGW.out 9
          replace hy:w4.cell? ⟨g,9,none⟩=some (.int .i64 c.sMax):=(blk_cell HGW.out 9).trans rfl
          go_wp2_with (first|(go_at_call 71;refine (is_calls B nm _ _ HCL.out HS1.out).mono ?_;rintro e w4 ⟨rfl,hd⟩;replace HCL:=mkA (drawn_cell hd HCL.out);replace HGW:=mkA (drawn_blk hd HGW.out);replace HBW:=mkA (drawn_bel hd HBW.out);clear hd;replace hz:w4.frozen? ⟨g,9,none⟩=false:=blk_frozen HGW.out 9;replace hy:w4.cell? ⟨g,9,none⟩=some (.int .i64 c.sMax):=(blk_cell HGW.out 9).trans rfl)|(go_at_call 72;refine (least_calls _ v _ HS3.out).mono ?_;rintro e w5 ⟨rfl,hb5⟩;replace HGW:=mkA ((hb5.block _ (blk_lt HGW.out)).trans HGW.out);replace HBW:=mkA (HBW.out.trans (hb5.mono HBW.out.size));clear hb5;replace hz:w5.frozen? ⟨g,9,none⟩=false:=blk_frozen HGW.out 9;replace hy:w5.cell? ⟨g,9,none⟩=some (.int .i64 c.sMax):=(blk_cell HGW.out 9).trans rfl)|fail)
          go_end0
          exact ⟨rfl,by rw [HR.out];exact blk_set HGW.out 9 _,say_put HBW.out 9 _⟩
         |false=>
          cases h9:sameB nm ⟨#[109,105,110,45,102,114,101,115,104]⟩ with
          |true=>
           have HR:=mkA (show sayG c nm v has={ c with minFresh:=leastF c.minFresh v } by unfold sayG;simp only [h0,h1,h2,h3,h4,h5,h6,h7,h8,h9];rfl)
           have hz:w2.frozen? ⟨g,10,none⟩=false:=blk_frozen HGW.out 10
           have hy:w2.cell? ⟨g,10,none⟩=some (.int .i64 c.minFresh):=(blk_cell HGW.out 10).trans rfl
           refine (is_calls B nm _ _ HCL.out HS1.out).mono ?_
           rintro e w4 ⟨rfl,hd⟩
           replace HCL:=mkA (drawn_cell hd HCL.out)
           replace HGW:=mkA (drawn_blk hd HGW.out)
           replace HBW:=mkA (drawn_bel hd HBW.out)
           clear hd
           replace hz:w4.frozen? ⟨g,10,none⟩=false:=blk_frozen HGW.out 10
           replace hy:w4.cell? ⟨g,10,none⟩=some (.int .i64 c.minFresh):=(blk_cell HGW.out 10).trans rfl
           go_wp2_with (first|(go_at_call 71;refine (is_calls B nm _ _ HCL.out HS1.out).mono ?_;rintro e w4 ⟨rfl,hd⟩;replace HCL:=mkA (drawn_cell hd HCL.out);replace HGW:=mkA (drawn_blk hd HGW.out);replace HBW:=mkA (drawn_bel hd HBW.out);clear hd;replace hz:w4.frozen? ⟨g,10,none⟩=false:=blk_frozen HGW.out 10;replace hy:w4.cell? ⟨g,10,none⟩=some (.int .i64 c.minFresh):=(blk_cell HGW.out 10).trans rfl)|(go_at_call 72;refine (least_calls _ v _ HS3.out).mono ?_;rintro e w5 ⟨rfl,hb5⟩;replace HGW:=mkA ((hb5.block _ (blk_lt HGW.out)).trans HGW.out);replace HBW:=mkA (HBW.out.trans (hb5.mono HBW.out.size));clear hb5;replace hz:w5.frozen? ⟨g,10,none⟩=false:=blk_frozen HGW.out 10;replace hy:w5.cell? ⟨g,10,none⟩=some (.int .i64 c.minFresh):=(blk_cell HGW.out 10).trans rfl)|fail)
           go_end0
           exact ⟨rfl,by rw [HR.out];exact blk_set HGW.out 10 _,say_put HBW.out 10 _⟩
          |false=>
           cases h10:sameB nm ⟨#[109,97,120,45,115,116,97,108,101]⟩ with
           |true=>
            cases hhas:has with
            |true=>
             have HR:=mkA (show sayG c nm v has={ c with maxStale:=leastF c.maxStale v } by unfold sayG;simp only [h0,h1,h2,h3,h4,h5,h6,h7,h8,h9,h10,hhas];rfl)
             have hz:w2.frozen? ⟨g,11,none⟩=false:=blk_frozen HGW.out 11
             have hy:w2.cell? ⟨g,11,none⟩=some (.int .i64 c.maxStale):=(blk_cell HGW.out 11).trans rfl
             refine (is_calls B nm _ _ HCL.out HS1.out).mono ?_
             rintro e w4 ⟨rfl,hd⟩
             replace HCL:=mkA (drawn_cell hd HCL.out)
             replace HGW:=mkA (drawn_blk hd HGW.out)
             replace HBW:=mkA (drawn_bel hd HBW.out)
             clear hd
             replace hz:w4.frozen? ⟨g,11,none⟩=false:=blk_frozen HGW.out 11
             replace hy:w4.cell? ⟨g,11,none⟩=some (.int .i64 c.maxStale):=(blk_cell HGW.out 11).trans rfl
             go_wp2_with (first|(go_at_call 71;refine (is_calls B nm _ _ HCL.out HS1.out).mono ?_;rintro e w4 ⟨rfl,hd⟩;replace HCL:=mkA (drawn_cell hd HCL.out);replace HGW:=mkA (drawn_blk hd HGW.out);replace HBW:=mkA (drawn_bel hd HBW.out);clear hd;replace hz:w4.frozen? ⟨g,11,none⟩=false:=blk_frozen HGW.out 11;replace hy:w4.cell? ⟨g,11,none⟩=some (.int .i64 c.maxStale):=(blk_cell HGW.out 11).trans rfl)|(go_at_call 72;refine (least_calls _ v _ HS3.out).mono ?_;rintro e w5 ⟨rfl,hb5⟩;replace HGW:=mkA ((hb5.block _ (blk_lt HGW.out)).trans HGW.out);replace HBW:=mkA (HBW.out.trans (hb5.mono HBW.out.size));clear hb5;replace hz:w5.frozen? ⟨g,11,none⟩=false:=blk_frozen HGW.out 11;replace hy:w5.cell? ⟨g,11,none⟩=some (.int .i64 c.maxStale):=(blk_cell HGW.out 11).trans rfl)|fail)
             go_end0
             exact ⟨rfl,by rw [HR.out];exact blk_set HGW.out 11 _,say_put HBW.out 11 _⟩
            |false=>
             have HR:=mkA (show sayG c nm v has={ c with any:=true } by unfold sayG;simp only [h0,h1,h2,h3,h4,h5,h6,h7,h8,h9,h10,hhas];rfl)
             have hz:w2.frozen? ⟨g,7,none⟩=false:=blk_frozen HGW.out 7
             have hy:w2.cell? ⟨g,7,none⟩=some (.bool c.any):=(blk_cell HGW.out 7).trans rfl
             refine (is_calls B nm _ _ HCL.out HS1.out).mono ?_
             rintro e w4 ⟨rfl,hd⟩
             replace HCL:=mkA (drawn_cell hd HCL.out)
             replace HGW:=mkA (drawn_blk hd HGW.out)
             replace HBW:=mkA (drawn_bel hd HBW.out)
             clear hd
             replace hz:w4.frozen? ⟨g,7,none⟩=false:=blk_frozen HGW.out 7
             replace hy:w4.cell? ⟨g,7,none⟩=some (.bool c.any):=(blk_cell HGW.out 7).trans rfl
             go_wp2_with (first|(go_at_call 71;refine (is_calls B nm _ _ HCL.out HS1.out).mono ?_;rintro e w4 ⟨rfl,hd⟩;replace HCL:=mkA (drawn_cell hd HCL.out);replace HGW:=mkA (drawn_blk hd HGW.out);replace HBW:=mkA (drawn_bel hd HBW.out);clear hd;replace hz:w4.frozen? ⟨g,7,none⟩=false:=blk_frozen HGW.out 7;replace hy:w4.cell? ⟨g,7,none⟩=some (.bool c.any):=(blk_cell HGW.out 7).trans rfl)|(go_at_call 72;refine (least_calls _ v _ HS3.out).mono ?_;rintro e w5 ⟨rfl,hb5⟩;replace HGW:=mkA ((hb5.block _ (blk_lt HGW.out)).trans HGW.out);replace HBW:=mkA (HBW.out.trans (hb5.mono HBW.out.size));clear hb5;replace hz:w5.frozen? ⟨g,7,none⟩=false:=blk_frozen HGW.out 7;replace hy:w5.cell? ⟨g,7,none⟩=some (.bool c.any):=(blk_cell HGW.out 7).trans rfl)|fail)
             go_end0
             exact ⟨rfl,by rw [HR.out];exact blk_set HGW.out 7 _,say_put HBW.out 7 _⟩
           |false=>
            have HR:=mkA (show sayG c nm v has=c by unfold sayG;simp only [h0,h1,h2,h3,h4,h5,h6,h7,h8,h9,h10];rfl)
            refine (is_calls B nm _ _ HCL.out HS1.out).mono ?_
            rintro e w4 ⟨rfl,hd⟩
            replace HCL:=mkA (drawn_cell hd HCL.out)
            replace HGW:=mkA (drawn_blk hd HGW.out)
            replace HBW:=mkA (drawn_bel hd HBW.out)
            clear hd
            go_wp2_with (first|(go_at_call 71;refine (is_calls B nm _ _ HCL.out HS1.out).mono ?_;rintro e w4 ⟨rfl,hd⟩;replace HCL:=mkA (drawn_cell hd HCL.out);replace HGW:=mkA (drawn_blk hd HGW.out);replace HBW:=mkA (drawn_bel hd HBW.out);clear hd)|(go_at_call 72;refine (least_calls _ v _ HS3.out).mono ?_;rintro e w5 ⟨rfl,hb5⟩;replace HGW:=mkA ((hb5.block _ (blk_lt HGW.out)).trans HGW.out);replace HBW:=mkA (HBW.out.trans (hb5.mono HBW.out.size));clear hb5)|fail)
            go_end0
            exact ⟨rfl,by rw [HR.out];exact HGW.out,say_none HBW.out⟩
end Go.Proofs.YtlnmnjbihgaliaaGreat.Pr
end
section
open Go.RowKit Go.Proofs.YtlnmnjbihgaliaaGreatW.PrintWords
namespace Go.Proofs.YtlnmnjbihgaliaaGreat.Pr
def ctl0:Ctl:=⟨false,false,false,false,false,false,false,false,-1,-1,-1,-1⟩
def Ctl.tup(c:Ctl):Bool × Bool × Bool × Bool × Bool × Bool × Bool × Bool × Int × Int × Int × Int:=(c.noStore,c.noCache,c.priv,c.pub,c.must,c.proxy,c.only,c.any,c.maxAge,c.sMax,c.minFresh,c.maxStale)
/-- Each part is no longer than a string may be. -/
def fits(l:List ByteArray):Bool:=l.all fun s=>decide (s.size≤140737488355300)
theorem fits_at{l:List ByteArray}(h:fits l=true)(k:Nat)(hk:k < l.length):l[k].size≤140737488355300:=by
 have:=List.all_eq_true.1 h l[k] (List.getElem_mem hk)
 simpa using this
def zeroC:Ctl:=⟨false,false,false,false,false,false,false,false,0,0,0,0⟩
def sayAll(l:List ByteArray):Ctl:=l.foldl sayF ctl0
theorem sayAll_take(l:List ByteArray)(k:Nat)(hk:k < l.length):(l.take (k+1)).foldl sayF ctl0=sayF ((l.take k).foldl sayF ctl0) l[k]:=by
 rw [List.take_succ_eq_append_getElem hk,List.foldl_append];rfl
def pragma(l:List ByteArray):Bool:=l.any fun s=>sameB s ⟨#[110,111,45,99,97,99,104,101]⟩
def pragC(b:Bool):Ctl:={ ctl0 with noCache:=b }
theorem pragma_take(l:List ByteArray)(k:Nat)(hk:k < l.length):pragma (l.take (k+1))=(pragma (l.take k) || sameB l[k] ⟨#[110,111,45,99,97,99,104,101]⟩):=by
 unfold pragma
 rw [List.take_succ_eq_append_getElem hk,List.any_append];simp
def ctrl_Parse.f(k:Nat)(l0:List S41):Option (Bool × Bool × Bool × Bool × Bool × Bool × Bool × Bool × Int × Int × Int × Int):=
 (head_All.f k l0 ⟨#[67,97,99,104,101,45,67,111,110,116,114,111,108]⟩).bind fun a=>
  if a.length=0 then (head_List.f k l0 ⟨#[80,114,97,103,109,97]⟩).bind fun p=>if fits p=true then some (pragC (pragma p)).tup else none
  else (head_List.f k l0 ⟨#[67,97,99,104,101,45,67,111,110,116,114,111,108]⟩).bind fun q=>if fits q=true then some (sayAll q).tup else none
theorem cells_one(c:Ctl):c.cells.all (·.oneCell')=true:=by simp [Ctl.cells,Value.oneCell']
/-- A row that lies apart from a block. -/
theorem row_grown{w w1:World}{base g:Nat}{v:Value}{l:List ByteArray}(h:Kd.R Kd.string 9 w base (fun _=>True) v l)(hg:w.grownBy w1 (some g))(hb:g < base):Kd.R Kd.string 9 w1 base (fun _=>True) v l:=
 Kd.R_mono (Kd.R_move (Kd.R_bound h) (fun k hk=>hg.block k hk.2.2.1 (fun e=>by injection e with e;have:=hk.2.1;omega))) (fun _ _=>trivial)
set_option maxRecDepth 100000 in
set_option maxHeartbeats 8000000 in
theorem ctrl_Parse.calls(k:Nat)(A0:Option Addr)(c0:Nat)(l0:List S41)(r1 r2 r3 r4 r5 r6 r7 r8:Bool)(r9 r10 r11 r12:Int)(w:World)(hr0:Kd.C k41 w A0 l0.length l0)(hc0:l0.length≤c0)(h:ctrl_Parse.f k l0=some (r1,r2,r3,r4,r5,r6,r7,r8,r9,r10,r11,r12)):
  Calls Tryz.prog 18 #[.slice A0 l0.length c0] w fun e w'=>e=.returned (.agg #[.bool r1,.bool r2,.bool r3,.bool r4,.bool r5,.bool r6,.bool r7,.bool r8,.int .i64 r9,.int .i64 r10,.int .i64 r11,.int .i64 r12])∧Below w.heap.size w w':=by
 unfold ctrl_Parse.f at h
 obtain ⟨a,ha,h⟩:=Option.bind_eq_some_iff.mp h
 have HA:=mkA (fun W hb=>head_All.calls k A0 c0 l0 _ a W (Kd.C_below hr0 hb) hc0 ha)
 have HN:=mkA (fun W=>ctrl_none.calls false false false false false false false false (-1) (-1) (-1) (-1) W rfl)
 have HZ:=mkA (fun (C:Ctl)=>show (Tryz.prog.info? 51).map (·.size)=some C.cells.size by kernel_rfl)
 by_cases hl:a.length=0
 ·rw [if_pos hl] at h
  obtain ⟨p,hq,h⟩:=Option.bind_eq_some_iff.mp h
  have HQ:=mkA (fun W hb=>head_List.calls k A0 c0 l0 _ p W (Kd.C_below hr0 hb) hc0 hq)
  by_cases hf:fits p=true
  ·rw [if_pos hf] at h
   have HF:=mkA hf
   have HT:=mkA (Option.some.inj h)
   have hlb:((a.length:Int) == 0)=true:=beq_iff_eq.mpr (by omega)
   clear h hf ha hq hr0 hc0
   go_enter Tryz.func18,Tryz.ntmps18
   go_wp2_with (first|(go_at_call 44;refine (HN.out _).mono ?_;rintro e w1 ⟨rfl,hd⟩;have HD1:=mkA hd;clear hd;have HX:=mkA (fun (o:Obj)=>show Below w.heap.size w (w1.alloc o) from ((((Below.refl _ w).alloc (Nat.le_refl _) _).trans (HD1.out.mono (by simp))).alloc (by have:=HD1.out.size;simp at this;omega) o));have HS1:=mkA (show w.heap.size < w1.heap.size by have:=HD1.out.size;simp at this;omega))|(go_at_call 45;refine (HA.out _ (HX.out _)).mono ?_;rintro e w2 ⟨v2,rfl,hr2,hb2⟩;have HB2:=mkA hb2;clear hb2;obtain ⟨A2,c2,rfl,_,_⟩:=Kd.R_reads hr2;have HX2:=mkA (show Below w.heap.size w w2 from (HX.out _).trans (HB2.out.mono (by have:=HS1.out;simp;omega))))|(go_at_call 46;refine (HQ.out _ HX2.out).mono ?_;rintro e w3 ⟨v3,rfl,hr3,hb3⟩;have HR3:=mkA hr3;have HB3:=mkA hb3;clear hb3;obtain ⟨A3,c3,rfl,_,_⟩:=Kd.R_reads hr3;clear hr3)|fail)
   have HGZ:=mkA (show w1.heap[w.heap.size]?=some (.cells (zeroC.cells) 51 (0,0)) from (HD1.out.block _ (by simp)).trans ((heap_alloc_new _ _).trans (by rfl)))
   have HG1:=mkA (show w2.heap[w1.heap.size]?=some (.cells (pragC false).cells 51 (0,0)) from (HB2.out.block _ (by simp)).trans ((heap_alloc_new _ _).trans (by rfl)))
   have HG3:=mkA (show w3.heap[w1.heap.size]?=some (.cells (pragC false).cells 51 (0,0)) from (HB3.out.block _ (blk_lt HG1.out)).trans HG1.out)
   have HS2:=mkA (show w1.heap.size < w2.heap.size from blk_lt HG1.out)
   have HZ3:=mkA (show w3.heap[w.heap.size]?=some (.cells zeroC.cells 51 (0,0)) from (HB3.out.block _ (by have:=HS1.out;have:=HS2.out;omega)).trans ((HB2.out.block _ (by have:=HS1.out;simp;omega)).trans ((Below.heap_alloc _ _ _ HS1.out).trans HGZ.out)))
   have HX3:=mkA (show Below w.heap.size w w3 from HX2.out.trans (HB3.out.mono HX2.out.size))
   have hcl:=mkA (show w1.heap.size≠w.heap.size by have:=HS1.out;omega)
   have hbs:=mkA (show w.heap.size≤w1.heap.size by have:=HS1.out;omega)
   clear HD1 HX HB2 HX2 HS1 HGZ HG1 HB3
   generalize w1.heap.size=gc at HG3 HS2 hcl hbs ⊢
   generalize w2.heap.size=base at HR3 HS2 ⊢
   go_loopw [16] (fun i wr=>∃ (j:Nat),j≤p.length∧i=.int .i64 j∧Aside0 (wr.heap[gc]?=some (.cells (pragC (pragma (p.take j))).cells 51 (0,0)))∧Aside0 (Kd.R Kd.string 9 wr base (fun _=>True) (.slice A3 p.length c3) p)∧Aside0 (wr.heap[w.heap.size]?=some (.cells zeroC.cells 51 (0,0)))∧Aside0 (Below w.heap.size w wr)) (fun i _=>p.length - (intOf i).toNat)
   case atStart=>exact ⟨0,Nat.zero_le _,rfl,HG3,HR3,HZ3,HX3⟩
   case round=>
    clear HG3 HR3 HZ3 HX3
    obtain ⟨j,hj,rfl,HG,HR,HZ',HB⟩:=hrel
    obtain ⟨_,hc3,hC⟩:=Kd.R_reads' HR.out
    have hql:p.length≤9223372036854775807:=hC.2.1
    by_cases hlt:j < p.length
    ·
     obtain ⟨ad,rfl,hcell⟩:=Kd.at_string hC (j:Int) (by omega) (by omega)
     have hp:rdOf ByteArray.empty p (j:Int)=p[j]:=by simp [rdOf,hlt]
     rw [hp,show ((j:Int)).toNat=j from by omega] at hcell
     have i0:(0:Int)≤(j:Int):=by omega
     have i1:(j:Int) < (p.length:Int):=by omega
     have ht1:(j:Int).toNat=j:=by omega
     have hsame:=fun W=>same_calls p[j] ⟨#[110,111,45,99,97,99,104,101]⟩ W (Nat.le_trans (fits_at HF.out j hlt) (by omega))
     have hpt:=pragma_take p j hlt
     generalize p[j]=s at hcell hsame hpt
     have HSM:=mkA hsame
     have HPT:=mkA hpt
     have HLT:=mkA hlt
     have hy:wr.cell? ⟨gc,1,none⟩=some (.bool (pragma (p.take j))):=(blk_cell HG.out 1).trans rfl
     have hz:wr.frozen? ⟨gc,1,none⟩=false:=blk_frozen HG.out 1
     clear hsame hpt hp hlt hC hc3
     cases hb:pragma (p.take j) with
     |true=>
      rw [hb] at hy
      have HPB:=mkA hb
      go_wp2
      go_roundw
      case rel=>exact ⟨j+1,HLT.out,by go_num,⟨by rw [HPT.out,HPB.out];have:=HG.out;rw [HPB.out] at this;exact blk_set this 1 _⟩,⟨row_grown HR.out (say_put (Below.refl _ _) 1 _) HS2.out⟩,⟨blk_gb HZ'.out (say_put (Below.refl _ _) 1 _) (by have:=hcl.out;simp;omega)⟩,⟨HB.out.setCell hbs.out _⟩⟩
      case measure=>have:=HLT.out;simp [intOf];omega
     |false=>
      rw [hb] at hy
      have HPB:=mkA hb
      go_wp2_with (go_at_call 47;refine (HSM.out _).mono ?_;rintro e w5 ⟨rfl,hd⟩;have HD5:=mkA hd;replace hy:=drawn_cell hd hy;replace hz:w5.frozen? ⟨gc,1,none⟩=false:=blk_frozen (drawn_blk hd HG.out) 1;clear hd)
      go_roundw
      case rel=>exact ⟨j+1,HLT.out,by go_num,⟨by rw [HPT.out,HPB.out,Bool.false_or];have:=drawn_blk HD5.out HG.out;rw [HPB.out] at this;exact blk_set this 1 _⟩,⟨row_grown HR.out (say_put (drawn_below HD5.out) 1 _) HS2.out⟩,⟨blk_gb HZ'.out (say_put (drawn_below HD5.out) 1 _) (by have:=hcl.out;simp;omega)⟩,⟨(drawn_bel HD5.out HB.out).setCell hbs.out _⟩⟩
      case measure=>have:=HLT.out;simp [intOf];omega
    ·
     have hjq:j=p.length:=by omega
     have HGQ:=mkA (show wr.heap[gc]?=some (.cells (pragC (pragma p)).cells 51 (0,0)) by have:=HG.out;rw [hjq,List.take_length] at this;exact this)
     clear hC hc3
     go_wp2_with (first|(with_reducible refine wpList_load_row rfl 51 _ rfl gc rfl 51 (pragC (pragma p)).cells (0,0) _ HGQ.out Tryz.underlying51 rfl (HZ.out _) ?_)|(with_reducible refine wpList_store_row rfl 51 _ _ rfl w.heap.size (pragC (pragma p)).cells rfl rfl 51 _ HZ'.out (HZ.out _) rfl (cells_one _) ?_))
     exact bodyPost_ret (results_cell_row rfl _ _ w.heap.size 51 (pragC (pragma p)).cells (0,0) _ rfl (setRow_heap _ _ _ _ _ _ HZ'.out) Tryz.underlying51 rfl (HZ.out _)) rfl ⟨by have:=HT.out;unfold Ctl.tup at this;unfold Ctl.cells;simp only [Prod.mk.injEq] at this;obtain ⟨rfl,rfl,rfl,rfl,rfl,rfl,rfl,rfl,rfl,rfl,rfl,rfl⟩:=this;rfl,below_setRow HB.out (Nat.le_refl _) _⟩
  ·rw [if_neg hf] at h;cases h
 ·rw [if_neg hl] at h
  obtain ⟨q,hq,h⟩:=Option.bind_eq_some_iff.mp h
  have HQ:=mkA (fun W hb=>head_List.calls k A0 c0 l0 _ q W (Kd.C_below hr0 hb) hc0 hq)
  by_cases hf:fits q=true
  ·rw [if_pos hf] at h
   have HF:=mkA hf
   have HT:=mkA (Option.some.inj h)
   have hlb:((a.length:Int) == 0)=false:=beq_eq_false_iff_ne.mpr (by omega)
   clear h hf ha hq hr0 hc0
   go_enter Tryz.func18,Tryz.ntmps18
   go_wp2_with (first|(go_at_call 44;refine (HN.out _).mono ?_;rintro e w1 ⟨rfl,hd⟩;have HD1:=mkA hd;clear hd;have HX:=mkA (fun (o:Obj)=>show Below w.heap.size w (w1.alloc o) from ((((Below.refl _ w).alloc (Nat.le_refl _) _).trans (HD1.out.mono (by simp))).alloc (by have:=HD1.out.size;simp at this;omega) o));have HS1:=mkA (show w.heap.size < w1.heap.size by have:=HD1.out.size;simp at this;omega))|(go_at_call 45;refine (HA.out _ (HX.out _)).mono ?_;rintro e w2 ⟨v2,rfl,hr2,hb2⟩;have HB2:=mkA hb2;clear hb2;obtain ⟨A2,c2,rfl,_,_⟩:=Kd.R_reads hr2;have HX2:=mkA (show Below w.heap.size w w2 from (HX.out _).trans (HB2.out.mono (by have:=HS1.out;simp;omega))))|(go_at_call 46;refine (HQ.out _ HX2.out).mono ?_;rintro e w3 ⟨v3,rfl,hr3,hb3⟩;have HR3:=mkA hr3;have HB3:=mkA hb3;clear hb3;obtain ⟨A3,c3,rfl,_,_⟩:=Kd.R_reads hr3;clear hr3)|fail)
   have HGZ:=mkA (show w1.heap[w.heap.size]?=some (.cells (zeroC.cells) 51 (0,0)) from (HD1.out.block _ (by simp)).trans ((heap_alloc_new _ _).trans (by rfl)))
   have HG1:=mkA (show w2.heap[w1.heap.size]?=some (.cells ctl0.cells 51 (0,0)) from (HB2.out.block _ (by simp)).trans ((heap_alloc_new _ _).trans (by rfl)))
   have HG3:=mkA (show w3.heap[w1.heap.size]?=some (.cells ctl0.cells 51 (0,0)) from (HB3.out.block _ (blk_lt HG1.out)).trans HG1.out)
   have HS2:=mkA (show w1.heap.size < w2.heap.size from blk_lt HG1.out)
   have HZ3:=mkA (show w3.heap[w.heap.size]?=some (.cells zeroC.cells 51 (0,0)) from (HB3.out.block _ (by have:=HS1.out;have:=HS2.out;omega)).trans ((HB2.out.block _ (by have:=HS1.out;simp;omega)).trans ((Below.heap_alloc _ _ _ HS1.out).trans HGZ.out)))
   have HX3:=mkA (show Below w.heap.size w w3 from HX2.out.trans (HB3.out.mono HX2.out.size))
   have hcl:=mkA (show w1.heap.size≠w.heap.size by have:=HS1.out;omega)
   have hbs:=mkA (show w.heap.size≤w1.heap.size by have:=HS1.out;omega)
   clear HD1 HX HB2 HX2 HS1 HGZ HG1 HB3
   generalize w1.heap.size=gc at HG3 HS2 hcl hbs ⊢
   generalize w2.heap.size=base at HR3 HS2 ⊢
   go_loopw [32] (fun i wr=>∃ (j:Nat),j≤q.length∧i=.int .i64 j∧Aside0 (wr.heap[gc]?=some (.cells ((q.take j).foldl sayF ctl0).cells 51 (0,0)))∧Aside0 (Kd.R Kd.string 9 wr base (fun _=>True) (.slice A3 q.length c3) q)∧Aside0 (wr.heap[w.heap.size]?=some (.cells zeroC.cells 51 (0,0)))∧Aside0 (Below w.heap.size w wr)) (fun i _=>q.length - (intOf i).toNat)
   case atStart=>exact ⟨0,Nat.zero_le _,rfl,HG3,HR3,HZ3,HX3⟩
   case round=>
    clear HG3 HR3 HZ3 HX3
    obtain ⟨j,hj,rfl,HG,HR,HZ',HB⟩:=hrel
    obtain ⟨_,hc3,hC⟩:=Kd.R_reads' HR.out
    have hql:q.length≤9223372036854775807:=hC.2.1
    by_cases hlt:j < q.length
    ·
     obtain ⟨ad,rfl,hcell⟩:=Kd.at_string hC (j:Int) (by omega) (by omega)
     have hp:rdOf ByteArray.empty q (j:Int)=q[j]:=by simp [rdOf,hlt]
     rw [hp,show ((j:Int)).toNat=j from by omega] at hcell
     have i0:(0:Int)≤(j:Int):=by omega
     have i1:(j:Int) < (q.length:Int):=by omega
     have ht1:(j:Int).toNat=j:=by omega
     have hsay:=say_calls gc ((q.take j).foldl sayF ctl0) q[j] wr HG.out (fits_at HF.out j hlt)
     rw [← sayAll_take q j hlt] at hsay
     generalize q[j]=p at hcell hsay
     have HSY:=mkA hsay
     have HLT:=mkA hlt
     have HSZ:=mkA (show gc < wr.heap.size from blk_lt HG.out)
     clear hsay hp hlt hC hc3
     go_wp2_with (go_at_call 48;refine HSY.out.mono ?_;rintro e w5 ⟨rfl,hg5,hgr⟩;have HG5:=mkA hg5;have HGR:=mkA hgr;clear hg5 hgr)
     go_roundw
     case rel=>exact ⟨j+1,HLT.out,by go_num,HG5,⟨row_grown HR.out HGR.out HS2.out⟩,⟨blk_gb HZ'.out HGR.out (by have:=hcl.out;simp;omega)⟩,⟨HB.out.grown HGR.out HB.out.size (fun k hk=>by have:=hbs.out;injection hk with hk;omega)⟩⟩
     case measure=>have:=HLT.out;simp [intOf];omega
    ·
     have hjq:j=q.length:=by omega
     have HGQ:=mkA (show wr.heap[gc]?=some (.cells (sayAll q).cells 51 (0,0)) by have:=HG.out;rw [hjq,List.take_length] at this;exact this)
     clear hC hc3
     go_wp2_with (first|(with_reducible refine wpList_load_row rfl 51 _ rfl gc rfl 51 (sayAll q).cells (0,0) _ HGQ.out Tryz.underlying51 rfl (HZ.out _) ?_)|(with_reducible refine wpList_store_row rfl 51 _ _ rfl w.heap.size (sayAll q).cells rfl rfl 51 _ HZ'.out (HZ.out _) rfl (cells_one _) ?_))
     exact bodyPost_ret (results_cell_row rfl _ _ w.heap.size 51 (sayAll q).cells (0,0) _ rfl (setRow_heap _ _ _ _ _ _ HZ'.out) Tryz.underlying51 rfl (HZ.out _)) rfl ⟨by have:=HT.out;unfold Ctl.tup at this;unfold Ctl.cells;simp only [Prod.mk.injEq] at this;obtain ⟨rfl,rfl,rfl,rfl,rfl,rfl,rfl,rfl,rfl,rfl,rfl,rfl⟩:=this;rfl,below_setRow HB.out (Nat.le_refl _) _⟩
  ·rw [if_neg hf] at h;cases h
end Go.Proofs.YtlnmnjbihgaliaaGreat.Pr
end
