import Derived.Test.YtlnmnjbihgaliaaGreatGCut
import Derived.Lib.Bytealg
import Derived.Sort.OwnSorted
import Derived.Lib.OwnBridge
import Derived.Lib.SortBridge
import Derived.Lib.RowBridge
import Derived.Test.YtlnmnjbihgaliaaGreatGCtl
set_option linter.unusedVariables false
set_option linter.unusedSimpArgs false
section
open Go.RowKit Go.Shelf Go.Sort Go.Lib
namespace Go.Proofs.YtlnmnjbihgaliaaGreat
theorem cb_self:∀ a:List UInt8,compareBytes a a=0
 |[]=>by simp [compareBytes]
 |c :: r=>by
  unfold compareBytes
  rw [if_neg (UInt8.lt_irrefl c),if_neg (UInt8.lt_irrefl c)]
  exact cb_self r
theorem cb_eq:∀ a b:List UInt8,compareBytes a b=0→a=b
 |[],[],_=>rfl
 |[],_ :: _,h=>by simp [compareBytes] at h
 |_ :: _,[],h=>by simp [compareBytes] at h
 |c :: r,d :: s,h=>by
  unfold compareBytes at h
  split at h
  ·cases h
  ·split at h
   ·cases h
   ·have e:c=d:=by
     apply UInt8.toNat_inj.1
     rename_i h1 h2
     rw [UInt8.lt_iff_toNat_lt] at h1 h2
     omega
    rw [e,cb_eq r s h]
theorem cb_anti:∀ a b:List UInt8,compareBytes a b=- compareBytes b a
 |[],[]=>by simp [compareBytes]
 |[],_ :: _=>by simp [compareBytes]
 |_ :: _,[]=>by simp [compareBytes]
 |c :: r,d :: s=>by
  unfold compareBytes
  have:=cb_anti r s
  simp only [UInt8.lt_iff_toNat_lt]
  split
  ·rw [if_neg (by omega)];all_goals (split <;> omega)
  ·split
   ·rfl
   ·rw [this]
theorem cb_trans:∀ a b c:List UInt8,compareBytes a b < 0→compareBytes b c < 0→compareBytes a c < 0
 |[],[],c,h,_=>by simp [compareBytes] at h
 |[],_ :: _,[],_,h=>by simp [compareBytes] at h
 |[],_ :: _,_ :: _,_,_=>by simp [compareBytes]
 |_ :: _,[],_,h,_=>by simp [compareBytes] at h
 |_ :: _,_ :: _,[],_,h=>by simp [compareBytes] at h
 |x :: r,y :: s,z :: t,h1,h2=>by
  unfold compareBytes at h1 h2 ⊢
  have ih:=cb_trans r s t
  simp only [UInt8.lt_iff_toNat_lt] at h1 h2 ⊢
  split at h1 <;> split at h2
  ·rw [if_pos (by omega)];decide
  ·split at h2
   ·omega
   ·rw [if_pos (by omega)];decide
  ·split at h1
   ·omega
   ·rw [if_pos (by omega)];decide
  ·split at h1
   ·omega
   ·split at h2
    ·omega
    ·rw [if_neg (by omega),if_neg (by omega)];exact ih h1 h2
theorem cb_lt(x y:List UInt8):ltOf compareBytes x y=decide (compareBytes x y < 0):=rfl
theorem cb_swo:SWO (ltOf compareBytes) where
 irrefl x:=by rw [cb_lt,cb_self];rfl
 trans x y z h1 h2:=by
  rw [cb_lt] at *
  simp only [decide_eq_true_eq] at *
  exact cb_trans x y z h1 h2
 ntrans x y z h1 h2:=by
  rw [cb_lt] at *
  simp only [decide_eq_false_iff_not] at *
  intro h
  have a1:=cb_anti x y
  have a2:=cb_anti y z
  by_cases e1:compareBytes x y=0
  ·have:=cb_eq x y e1;subst this;exact h2 h
  ·by_cases e2:compareBytes y z=0
   ·have:=cb_eq y z e2;subst this;exact h1 h
   ·have h3:compareBytes z y < 0:=by omega
    have h4:compareBytes y x < 0:=by omega
    have h5:=cb_trans z y x h3 h4
    have a3:=cb_anti x z
    omega
theorem cb_tot(x y:List UInt8)(h1:ltOf compareBytes x y=false)(h2:ltOf compareBytes y x=false):x=y:=by
 rw [cb_lt] at *
 simp only [decide_eq_false_iff_not] at *
 have:=cb_anti x y
 exact cb_eq x y (by omega)
/-- Sorted, each once. -/
def sortL(ss:List (List UInt8)):List (List UInt8):=ss.mergeSort fun x y=>!(ltOf compareBytes) y x
def namesL(ss:List (List UInt8)):List (List UInt8):=Lib.compact (sortL ss)
theorem sortL_len(ss:List (List UInt8)):(sortL ss).length=ss.length:=List.length_mergeSort ss
theorem cmp_lays(blk off size:Nat)(w:World):CmpLays1 Tryz.prog 51 #[] encStr compareBytes blk off size w:=fun m os dk _ x y=>
 (Tryz.strings_Compare ⟨x.toArray⟩ ⟨y.toArray⟩ _).mono fun e w' h=>⟨h.1,0,#[],by rw [h.2,grow_empty];rfl⟩
theorem encStr_one:OneCell encStr:=fun _=>rfl
theorem sort_calls{base cap:Nat}{g:Nat}(ss:List (List UInt8))(w:World)(hown:w.ownsRow base 9 1 (.slice (some ⟨g,0,none⟩) ss.length cap) ss.length (ss.map encStr))(hsz:ss.length < 4611686018427387904):
  Calls Tryz.prog 50 #[.slice (some ⟨g,0,none⟩) ss.length cap,.func (.func 51) #[] #[]] w fun e w'=>e=.returned (.tuple #[])∧w'.ownsRow base 9 1 (.slice (some ⟨g,0,none⟩) ss.length cap) ss.length ((sortL ss).map encStr)∧w.grownBy w' (some g):=by
 obtain ⟨g',cap',hv,hbg,hgl,hncap,hcm,_,hH⟩:=Lib.holds_of_ownsRow hown (by intro h;cases h)
 cases hv
 have h:=Tryz.slices_SortFunc_total encStr encStr_one compareBytes cb_swo 51 #[] g 0 cap ss.toArray w (enters_of Tryz.func51 (by kernel_rfl) rfl) (cmp_lays g 0 _ w) hH hgl (by simpa using hsz) cb_tot
 simp only [List.size_toArray] at h
 refine h.mono ?_
 rintro e w' ⟨rfl,n,os,rfl⟩
 rcases hown.2 with ⟨h0,_⟩|⟨g',cap',cur,hv,hbase,hb,h1,h2,h3,h4⟩
 ·cases h0
 cases hv
 exact ⟨rfl,ownsRow_sorted (n:=n) (os:=os) (ts:=sortL ss) (sortL_len ss) hbase hb h1 h2 h3,grownBy_sorted _⟩
theorem comp_calls{base cap:Nat}{g:Nat}(ss:List (List UInt8))(w:World)(hown:w.ownsRow base 9 1 (.slice (some ⟨g,0,none⟩) ss.length cap) ss.length (ss.map encStr)):
  Calls Tryz.prog 52 #[.slice (some ⟨g,0,none⟩) ss.length cap] w fun e w'=>∃ v,e=.returned v∧w'.ownsRow base 9 1 v (Lib.compact ss).length ((Lib.compact ss).map encStr)∧w.grownBy w' (some g):=by
 obtain ⟨g',cap',hv,hbg,hgl,hncap,hcm,_,hH⟩:=Lib.holds_of_ownsRow hown (by intro h;cases h)
 cases hv
 refine (Tryz.slices_Compact_string g 0 cap ss w hH (by unfold maxLen at hcm;omega) hncap).mono ?_
 rintro e w' ⟨rfl,q,rfl⟩
 have hle:=Lib.compact_length_le ss
 have hc:=Lib.ownsRow_putRow (q:=q) (k:=(Lib.compact ss).length) (ys:=Lib.compact ss++List.replicate (ss.length - (Lib.compact ss).length) []) hown (by simp;omega) (by omega)
 rw [List.take_left] at hc
 refine ⟨_,rfl,hc,?_⟩
 have:=grownBy_sorted (w:=w) (g:=g) (n:=q) (os:=#[]) (Lib.compact ss++List.replicate (ss.length - (Lib.compact ss).length) []).toArray
 rwa [grow_empty] at this
end Go.Proofs.YtlnmnjbihgaliaaGreat
end
section
open Go.RowKit Go.Proofs.YtlnmnjbihgaliaaGreatW.PrintWords Go.Proofs.YtlnmnjbihgaliaaGreatW.PrintMore Go.Proofs.YtlnmnjbihgaliaaGreatW.PrintLast
open Go.Sort Go.Lib
namespace Go.Proofs.YtlnmnjbihgaliaaGreat.Pr
def isStar(s:ByteArray):Bool:=s.toList == ([42]:List UInt8)
def namesF(l:List ByteArray):List ByteArray:=(namesL ((l.map lowS).map (·.data.toList))).map fun x=>⟨x.toArray⟩
def vary_Names.f(k:Nat)(a0_0:Int)(a0_1:ByteArray)(l0_2:List S41)(l0_3:List Int):Option (List ByteArray × Bool):=
 (head_List.f k l0_2 ⟨#[86,97,114,121]⟩).bind fun l=>
  if fits l=true∧l.length < 8796093022208 then (if l.any isStar=true then some ([],true) else some (namesF l,false)) else none
theorem any_take(l:List ByteArray)(j:Nat)(hj:j < l.length):(l.take (j+1)).any isStar=((l.take j).any isStar || isStar l[j]):=by
 rw [List.take_succ_eq_append_getElem hj,List.any_append];simp
theorem enc_lists(l:List ByteArray):l.map Value.string=(l.map (·.data.toList)).map encStr:=by
 rw [List.map_map]
 exact List.map_congr_left fun s _=>by simp [encStr]
theorem namesL_nil:namesL []=[]:=by unfold namesL sortL;rw [List.mergeSort_nil];rfl
theorem comp2_calls{base cap:Nat}{g:Nat}(ss:List (List UInt8))(w:World)(hown:w.ownsRow base 9 1 (.slice (some ⟨g,0,none⟩) ss.length cap) ss.length ((sortL ss).map encStr)):
  Calls Tryz.prog 52 #[.slice (some ⟨g,0,none⟩) ss.length cap] w fun e w'=>∃ v,e=.returned v∧w'.ownsRow base 9 1 v (namesL ss).length ((namesL ss).map encStr)∧w.grownBy w' (some g):=by
 have h:=comp_calls (base:=base) (cap:=cap) (g:=g) (sortL ss) w (by rw [sortL_len];exact hown)
 rw [sortL_len] at h
 exact h
theorem own_less{w:World}{b b':Nat}{e:TypeId}{z:Nat}{v:Value}{n:Nat}{xs:List Value}(h:w.ownsRow b e z v n xs)(hb:b'≤b):w.ownsRow b' e z v n xs:=by
 obtain ⟨h1,h2⟩:=h
 refine ⟨h1,?_⟩
 rcases h2 with h2|⟨g,cap,cur,h3,h4,h5⟩
 ·exact .inl h2
 ·exact .inr ⟨g,cap,cur,h3,Nat.le_trans hb h4,h5⟩
set_option maxRecDepth 100000 in
set_option maxHeartbeats 8000000 in
theorem vary_Names.calls(k:Nat)(a0_0:Int)(a0_1:ByteArray)(A0_2:Option Addr)(c0_2:Nat)(l0_2:List S41)(A0_3:Option Addr)(c0_3:Nat)(l0_3:List Int)(r1:List ByteArray)(r2:Bool)(w:World)(hr0_2:Kd.C k41 w A0_2 l0_2.length l0_2)(hc0_2:l0_2.length≤c0_2)(hr0_3:Kd.C (Kd.int .u8) w A0_3 l0_3.length l0_3)(hc0_3:l0_3.length≤c0_3)(h:vary_Names.f k a0_0 a0_1 l0_2 l0_3=some (r1,r2)):
  Calls Tryz.prog 20 #[.agg #[.int .i64 a0_0,.string a0_1,.slice A0_2 l0_2.length c0_2,.slice A0_3 l0_3.length c0_3]] w fun e w'=>∃ v0_:Value,e=.returned (.tuple #[v0_,.bool r2])∧Kd.R Kd.string 9 w' w.heap.size (fun _=>True) v0_ r1∧Below w.heap.size w w':=by
 unfold vary_Names.f at h
 obtain ⟨l,hl,h⟩:=Option.bind_eq_some_iff.mp h
 by_cases hg:fits l=true∧l.length < 8796093022208
 ·rw [if_pos hg] at h
  have HF:=mkA hg.1
  have HN:=mkA hg.2
  have HL:=mkA (fun W hb=>head_List.calls k A0_2 c0_2 l0_2 _ l W (Kd.C_below hr0_2 hb) hc0_2 hl)
  have HH:=mkA h
  clear h hg hl hr0_2 hc0_2 hr0_3 hc0_3
  go_enter Tryz.func20,Tryz.ntmps20
  go_wp2_with (first|(go_at_call 46;refine (HL.out _ (below_alloc (Below.refl _ _) _)).mono ?_;rintro e w3 ⟨v3,rfl,hr3,hb3⟩;have HR3:=mkA hr3;have HB3:=mkA hb3;clear hb3;obtain ⟨A3,c3,rfl,_,_⟩:=Kd.R_reads hr3;clear hr3)|fail)
  have hX3:Below w.heap.size w w3:=((Below.refl w.heap.size w).alloc (Nat.le_refl _) _).trans (HB3.out.mono (by simp))
  have HX3:=mkA hX3
  obtain ⟨_,hc3,hC⟩:=Kd.R_reads' HR3.out
  have HC3:=mkA hC
  have hln:l.length < 8796093022208:=HN.out
  clear hX3 hC HR3 HB3 HL
  go_loopw [4,11] (fun v i wr=>∃ (j:Nat),j≤l.length∧i=.int .i64 j∧Aside0 ((l.take j).any isStar=false)∧Aside0 (Kd.R Kd.string 9 wr w3.heap.size (fun _=>True) v ((l.take j).map lowS))∧Aside0 (Below w3.heap.size w3 wr)) (fun _ i _=>l.length - (intOf i).toNat)
  case atStart=>exact ⟨0,Nat.zero_le _,rfl,⟨rfl⟩,⟨Kd.R_nil _ _ _ _ _⟩,⟨Below.refl _ _⟩⟩
  case round=>
   obtain ⟨j,hj,rfl,HST,HO,HB⟩:=hrel
   by_cases hlt:j < l.length
   ·
    obtain ⟨ad,rfl,hcell⟩:=Kd.at_string (Kd.C_below HC3.out HB.out) (j:Int) (by omega) (by omega)
    have hp:rdOf ByteArray.empty l (j:Int)=l[j]:=by simp [rdOf,hlt]
    rw [hp,show ((j:Int)).toNat=j from by omega] at hcell
    have i0:(0:Int)≤(j:Int):=by omega
    have i1:(j:Int) < (l.length:Int):=by omega
    have ht1:(j:Int).toNat=j:=by omega
    have hfit:=fits_at HF.out j hlt
    have hat:=any_take l j hlt
    have hall:isStar l[j]=true→l.any isStar=true:=fun hs=>List.any_eq_true.2 ⟨l[j],List.getElem_mem hlt,hs⟩
    have hlow:(l.take (j+1)).map lowS=(l.take j).map lowS++[lowS l[j]]:=by rw [List.take_succ_eq_append_getElem hlt,List.map_append];rfl
    generalize l[j]=s at hcell hfit hat hall hlow
    have HSM:=mkA (fun W=>small_calls s W (Nat.le_trans hfit (by omega)))
    have HAT:=mkA hat
    have HLOW:=mkA hlow
    have HLT:=mkA hlt
    have HALL:=mkA hall
    have hlen:((l.take j).map lowS).length=j:=by simp;omega
    have HLEN:=mkA hlen
    clear hp hlt hfit hat hlow hall hlen
    cases hs:isStar s with
    |true=>
     have hsb:(s.toList == [42])=true:=hs
     have HR:=mkA (HALL.out hs)
     go_wp2
     go_ret2
     have hh:=HH.out
     rw [if_pos HR.out] at hh
     injection hh with hh
     cases hh
     exact ⟨_,rfl,Kd.R_nil _ _ _ _ _,HX3.out.trans (HB.out.mono HX3.out.size)⟩
    |false=>
     have hsb:(s.toList == [42])=false:=hs
     have HS0:=mkA hs
     go_wp2_with (first|(go_at_call 49;refine (HSM.out _).mono ?_;rintro e w5 ⟨rfl,hb5⟩;have HO5:=mkA (Kd.R_below HO.out hb5);have HB5:=mkA (below_then HB.out HB.out.size hb5);clear hb5)|(at_builtin;(with_reducible refine gate_builtin (b:=.append) (xs:=#[.tmp 17,.tmp 20]) rfl ?_);refine Kd.R_append Kd.string (w0:=w3) w3.heap.size rfl (.tmp 17) (.tmp 20) 46 9 (.string ⟨#[]⟩) 16 rfl Tryz.underlying46 info9 rfl (by decide) (by omega) u4 ((l.take j).map lowS) (lowS s) [.string (lowS s)] (fun _=>True) (fun _=>False) rfl rfl ?aP (fun _ hk=>hk.elim) ?aF ?aO ?aB ?aS ?aL ?_;(case aP=>exact rfl);(case aF=>exact fun _ _=>trivial);(case aO=>exact HO5.out);(case aB=>exact HB5.out);(case aS=>exact HB5.out.size);(case aL=>have:=HLEN.out;omega);intro v6 w6 ho hb hg hat;have HO6:=mkA ho;have HB6:=mkA hb;clear ho hb hg hat)|fail)
     go_roundw
     case rel=>exact ⟨j+1,HLT.out,by go_num,⟨by rw [HAT.out,HST.out,HS0.out];rfl⟩,⟨by rw [HLOW.out];exact HO6.out⟩,HB6⟩
     case measure=>have:=HLT.out;simp [intOf];omega
   ·
    have hjl:j=l.length:=by omega
    have hst:l.any isStar=false:=by have:=HST.out;rwa [hjl,List.take_length] at this
    have hO:Kd.R Kd.string 9 wr w3.heap.size (fun _=>True) u4 (l.map lowS):=by have:=HO.out;rwa [hjl,List.take_length] at this
    have hown:=Kd.own_of_R hO
    rw [show encs Value.string (l.map lowS)=((l.map lowS).map (·.data.toList)).map encStr from enc_lists _] at hown
    obtain ⟨ss,hss⟩:∃ ss,(l.map lowS).map (·.data.toList)=ss:=⟨_,rfl⟩
    have hsl:(l.map lowS).length=ss.length:=by rw [← hss];simp
    have hll:ss.length=l.length:=by rw [← hsl];simp
    rw [hss,hsl] at hown
    have hh:=HH.out
    rw [if_neg (by rw [hst];decide)] at hh
    injection hh with hh
    have hr1:r1=(namesL ss).map fun x=>⟨x.toArray⟩:=by have:=(Prod.mk.inj hh).1;rw [← this];unfold namesF;rw [hss]
    have hr2:r2=false:=(Prod.mk.inj hh).2.symm
    have HR1:=mkA hr1
    have HR2:=mkA hr2
    clear hh hst hO hss hsl hr1 hr2 hjl
    have hown2:=hown
    rcases hown.2 with ⟨hv,h0⟩|⟨g,cap,cur,hv,hbg,hbk,h1,h2,h3,h4⟩
    ·subst hv
     have hs0:ss=[]:=List.eq_nil_of_length_eq_zero h0
     subst hs0
     clear hown hown2 HO
     go_wp2_with (first|(go_at_call 50;refine (Tryz.slices_SortFunc_none (α:=Int) none 0 _ _).mono ?_;rintro e w7 ⟨rfl,rfl⟩)|(go_at_call 52;refine (Tryz.slices_Compact_string_empty none 0 _).mono ?_;rintro e w8 ⟨rfl,rfl⟩)|fail)
     go_ret2
     refine ⟨_,by rw [HR2.out];rfl,?_,HX3.out.trans (HB.out.mono HX3.out.size)⟩
     rw [HR1.out,namesL_nil]
     exact Kd.R_nil _ _ _ _ _
    ·subst hv
     have HS:=mkA (sort_calls ss wr hown2 (by omega))
     have HBG:=mkA hbg
     clear hown hown2 HO hbk h1 h2 h3 h4 hll
     go_wp2_with (first|(go_at_call 50;refine HS.out.mono ?_;rintro e w7 ⟨rfl,ho7,hg7⟩;have HG7:=mkA hg7;have HC7:=mkA (comp2_calls (base:=w3.heap.size) (cap:=cap) (g:=g) ss w7 ho7);clear ho7 hg7)|(go_at_call 52;refine HC7.out.mono ?_;rintro e w8 ⟨v8,rfl,ho8,hg8⟩;have HO8:=mkA ho8;have HG8:=mkA hg8;clear ho8 hg8)|fail)
     go_ret2
     refine ⟨_,by rw [HR2.out];rfl,?_,?_⟩
     ·rw [HR1.out]
      refine Kd.R_of_own (h1:=fun _=>rfl) ?_ (fun _ _=>trivial)
      have:=own_less HO8.out (show w.heap.size≤w3.heap.size from HX3.out.size)
      rw [List.length_map]
      rw [show encs Value.string ((namesL ss).map fun x=>(⟨x.toArray⟩:ByteArray))=(namesL ss).map encStr from by unfold encs;rw [List.map_map];rfl]
      exact this
     ·have hb1:=HX3.out.trans (HB.out.mono HX3.out.size)
      have hgb:w.heap.size≤g:=Nat.le_trans HX3.out.size HBG.out
      exact (hb1.grown HG7.out hb1.size (fun k hk=>by injection hk with hk;omega)).grown HG8.out (Nat.le_trans hb1.size HG7.out.size) (fun k hk=>by injection hk with hk;omega)
 ·rw [if_neg hg] at h;cases h
end Go.Proofs.YtlnmnjbihgaliaaGreat.Pr
end
section
open Go.RowKit Go.Proofs.YtlnmnjbihgaliaaGreatW.PrintWords
namespace Go.Proofs.YtlnmnjbihgaliaaGreat.Pr
set_option maxRecDepth 100000 in
set_option maxHeartbeats 4000000 in
theorem index_calls(b n:Nat)(vals:Nat→Value)(p:Nat→Bool)(w:World)(hn:n≤100)
  (hb:b < w.heap.size) (hc:∀ j,j < n→w.cell? ⟨b,j,none⟩=some (vals j))
  (hp:∀ j,j < n→∀ W,Below w.heap.size w W→Calls Tryz.prog 30 #[vals j] W fun e w'=>e=.returned (.bool (p j))∧Below w.heap.size w w') :
  Calls Tryz.prog 54 #[.slice (some ⟨b,0,none⟩) n n,.func (.func 30) #[] #[]] w fun e w'=>∃ i:Int,e=.returned (.int .i64 i)∧decide (0≤i)=(List.range n).any p∧Below w.heap.size w w':=by
 have HC:=mkA hc
 have HP:=mkA hp
 clear hc hp
 go_enter Tryz.func54,Tryz.ntmps54
 go_wp2
 go_loopw [5,8] (fun _ i wr=>∃ (j:Nat),j≤n∧i=.int .i64 j∧Aside0 (∀ i,i < j→p i=false)∧Aside0 (Below w.heap.size w wr)) (fun _ i _=>n - (intOf i).toNat)
 case atStart=>exact ⟨0,Nat.zero_le _,rfl,⟨fun i hi=>absurd hi (by omega)⟩,⟨Below.refl _ _⟩⟩
 case round=>
  obtain ⟨j,hj,rfl,HF,HD⟩:=hrel
  by_cases hlt:j < n
  ·have hcell:wr.cell? ⟨b,j,none⟩=some (vals j):=(HD.out.cell (p:=⟨b,j,none⟩) hb).trans (HC.out j hlt)
   have HPJ:=mkA (HP.out j hlt wr HD.out)
   have i0:(0:Int)≤(j:Int):=by omega
   have i1:(j:Int) < (n:Int):=by omega
   have HLT:=mkA hlt
   clear hlt
   cases hpj:p j with
   |true=>
    have HPT:=mkA hpj
    rw [hpj] at HPJ
    go_wp2_with (first|(go_at_call 30;refine HPJ.out.mono ?_;rintro e w2 ⟨rfl,hd⟩;have HD2:=mkA hd;clear hd)|fail)
    go_ret
    exact ⟨_,rfl,by rw [decide_eq_true i0];exact (List.any_eq_true.2 ⟨j,List.mem_range.2 HLT.out,HPT.out⟩).symm,HD2.out⟩
   |false=>
    have HPT:=mkA hpj
    rw [hpj] at HPJ
    go_wp2_with (first|(go_at_call 30;refine HPJ.out.mono ?_;rintro e w2 ⟨rfl,hd⟩;have HD2:=mkA hd;clear hd)|fail)
    go_roundw
    case rel=>exact ⟨j+1,HLT.out,by go_num,⟨fun i hi=>(Nat.lt_or_eq_of_le (Nat.le_of_lt_succ hi)).elim (HF.out i) (fun e=>by rw [e];exact HPT.out)⟩,⟨HD2.out⟩⟩
    case measure=>have:=HLT.out;simp [intOf];omega
  ·have hjn:j=n:=by omega
   have HA:=mkA (show (List.range n).any p=false by rw [List.any_eq_false];intro i hi;rw [HF.out i (by have:=List.mem_range.1 hi;omega)];decide)
   clear hjn
   go_wp2
   go_ret
   exact ⟨-1,rfl,by rw [HA.out];rfl,HD.out⟩
set_option maxRecDepth 100000 in
theorem contains_calls(b n:Nat)(vals:Nat→Value)(p:Nat→Bool)(w:World)(hn:n≤100)
  (hb:b < w.heap.size) (hc:∀ j,j < n→w.cell? ⟨b,j,none⟩=some (vals j))
  (hp:∀ j,j < n→∀ W,Below w.heap.size w W→Calls Tryz.prog 30 #[vals j] W fun e w'=>e=.returned (.bool (p j))∧Below w.heap.size w w') :
  Calls Tryz.prog 29 #[.slice (some ⟨b,0,none⟩) n n,.func (.func 30) #[] #[]] w fun e w'=>e=.returned (.bool ((List.range n).any p))∧Below w.heap.size w w':=by
 have HI:=mkA (index_calls b n vals p w hn hb hc hp)
 clear hc hp
 go_enter Tryz.func29,Tryz.ntmps29
 go_wp2_with (go_at_call 54;refine HI.out.mono ?_;rintro e w2 ⟨i,rfl,hi,hd⟩;have HX:=mkA hi;have HD:=mkA hd;clear hi hd)
 go_ret
 exact ⟨by rw [← HX.out];rfl,HD.out⟩
end Go.Proofs.YtlnmnjbihgaliaaGreat.Pr
end
