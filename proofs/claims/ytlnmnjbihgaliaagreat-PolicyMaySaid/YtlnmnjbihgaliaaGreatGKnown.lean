import Derived.Test.YtlnmnjbihgaliaaGreatGMay
import Derived.Test.YtlnmnjbihgaliaaGreatGKey
import Derived.Test.YtlnmnjbihgaliaaGreatPr6
import Derived.Test.YtlnmnjbihgaliaaGreatPr8
import Derived.Laws.CopyOwn
import Derived.Laws.Rows
import Derived.Laws.IdiomStrings
import Derived.Test.YtlnmnjbihgaliaaGreatPr7
import Derived.ChangeKeysEq
set_option linter.unusedVariables false
set_option linter.unusedSimpArgs false
section
open Go.RowKit Go.Proofs.YtlnmnjbihgaliaaGreatW.PrintWords Go.Proofs.YtlnmnjbihgaliaaGreatW.PrintMore Go.Proofs.YtlnmnjbihgaliaaGreatW.PrintLast
namespace Go.Proofs.YtlnmnjbihgaliaaGreat.Pr
theorem sumR_len2(bs:List Int):(sumR bs).length=32:=by rw [← sums_eq];exact sumP_len bs
def getB:ByteArray:=⟨#[71,69,84]⟩
def hostB:ByteArray:=⟨#[72,111,115,116]⟩
theorem three_reads(w:World)(x y z:ByteArray):Kd.C Kd.string (w.alloc (.cells #[.string x,.string y,.string z] 9)) (some ⟨w.heap.size,0,none⟩) 3 [x,y,z]:=by
 refine Kd.C_of_reads (enc:=Value.string) (d:=ByteArray.empty) (h1:=fun _=>rfl) ⟨rfl,by decide,fun _=>⟨_,rfl,fun j hj=>?_⟩⟩
 rw [add_plain]
 have h:(w.alloc (.cells #[.string x,.string y,.string z] 9)).heap[w.heap.size]?=some (.cells #[.string x,.string y,.string z] 9 (0,0)):=heap_alloc_new _ _
 match j,hj with
 |0,_=>exact mk_cell h 0
 |1,_=>exact mk_cell h 1
 |2,_=>exact mk_cell h 2
set_option maxRecDepth 100000 in
set_option maxHeartbeats 8000000 in
theorem policyKey_calls(k:Nat)(a0_0:ByteArray)(a0_1:ByteArray)(A0_2:Option Addr)(c0_2:Nat)(l0_2:List S41)(v3:Value)(r1:ByteArray)(r2:Bool)(w:World)(hv3:v3.oneCell'=true)
  (hr0_2:Kd.C k41 w A0_2 l0_2.length l0_2) (hc0_2:l0_2.length≤c0_2) (h:head_Get.f k l0_2 hostB=some (r1,r2)) (hs:r1.size≤9223372036854775807) (hbig:(keyL [getB,lowS r1,a0_1]).length≤140737488355000) :
  Calls Tryz.prog 13 #[.agg #[.string a0_0,.string a0_1,.slice A0_2 l0_2.length c0_2,v3]] w fun e w'=>e=.returned (.agg (u8s (sumP (keyL [getB,lowS r1,a0_1]))))∧Below w.heap.size w w':=by
 have HG:=mkA (fun W (hw:Below w.heap.size w W)=>head_Get.calls k A0_2 c0_2 l0_2 hostB _ _ W (Kd.C_below hr0_2 hw) hc0_2 h)
 clear h hr0_2 hc0_2
 have HBG:=mkA hbig
 clear hbig
 go_enter Tryz.func13,Tryz.ntmps13
 go_upto_region 1 with (fail)
 have hq0:=heap_alloc_new w (.cells #[.string a0_0,.string a0_1,.slice A0_2 l0_2.length c0_2,v3] 25)
 have hq1:=(Below.heap_alloc (w.alloc (.cells #[.string a0_0,.string a0_1,.slice A0_2 l0_2.length c0_2,v3] 25)) (.cells (u8s (List.replicate 32 0)) 43) w.heap.size (by simp)).trans hq0
 have hr1:=heap_alloc_new (w.alloc (.cells #[.string a0_0,.string a0_1,.slice A0_2 l0_2.length c0_2,v3] 25)) (.cells (u8s (List.replicate 32 0)) 43)
 rw [show (w.alloc (.cells #[.string a0_0,.string a0_1,.slice A0_2 l0_2.length c0_2,v3] 25)).heap.size=w.heap.size+1 from by simp] at hr1
 have hb0:Below w.heap.size w ((w.alloc (.cells #[.string a0_0,.string a0_1,.slice A0_2 l0_2.length c0_2,v3] 25)).alloc (.cells (u8s (List.replicate 32 0)) 43)):=((Below.refl _ _).alloc (Nat.le_refl _) _).alloc (by simp) _
 obtain ⟨W0,hw0⟩:∃ W0,W0=((w.alloc (.cells #[.string a0_0,.string a0_1,.slice A0_2 l0_2.length c0_2,v3] 25)).alloc (.cells (u8s (List.replicate 32 0)) 43)):=⟨_,rfl⟩
 rw [← hw0] at hq1 hr1 hb0
 refine toW hw0 ?_
 have HB0:=mkA hb0
 have HQ:=mkA hq1
 have HR:=mkA hr1
 clear hq0 hq1 hr1 hb0 hw0
 have HW:=mkA (fun W (h:Below W0.heap.size W0 W)=>show Below w.heap.size w W from HB0.out.trans (h.mono HB0.out.size))
 have HQ1:=mkA (fun W (h:Below W0.heap.size W0 W)=>show W.cell? ⟨w.heap.size,1,none⟩=some (.string a0_1) from cell_of (t:=25) ((h.block _ (blk_in HQ.out)).trans HQ.out) rfl)
 have HRW:=mkA (fun W (h:Below W0.heap.size W0 W)=>show W.heap[w.heap.size+1]?=some (.cells (u8s (List.replicate 32 0)) 43 (0,0)) from (h.block _ (blk_in HR.out)).trans HR.out)
 have hq2:W0.cell? ⟨w.heap.size,2,none⟩=some (.slice A0_2 l0_2.length c0_2):=cell_of (t:=25) HQ.out rfl
 clear HQ HR
 go_upto_region 2 with (first|(go_at_call 19;refine (HG.out _ HB0.out).mono ?_;rintro e w3 ⟨rfl,hb⟩;have HB3:=mkA hb;clear hb)|fail)
 have kb:=fun W=>print_bytes (P:=Tryz.prog) 9 23 5 Tryz.underlying9 Tryz.underlying23 Tryz.underlying5 r1 W
 obtain ⟨n,hn⟩:∃ n,r1.size=n:=⟨_,rfl⟩
 have HS:=mkA hn
 simp only [hn] at kb
 rw [hn] at hs
 clear hn hq2 HG
 go_wp2
 generalize grownCap w3 n 0 5=cap
 go_loopw [18] (fun i wr=>∃ (k:Nat),k≤n∧i=.int .i64 k∧Aside0 (LowRow wr w3.heap.size n (bytesOf r1) k)∧Aside0 (Below w3.heap.size w3 wr)) (fun i _=>n - (intOf i).toNat)
 case atStart=>exact ⟨0,by omega,rfl,⟨by have:=low_start w3 r1;rw [HS.out] at this;exact this⟩,⟨Go.Proofs.YtlnmnjbihgaliaaGreatW.PrintWords.bytes_below (Below.refl _ _) (Nat.le_refl _) 5 r1⟩⟩
 case round=>
  obtain ⟨k,hk,rfl,HL,HB⟩:=hrel
  by_cases hlt:k < n
  ·
   obtain ⟨c0,f0⟩:=low_cell HL.out hlt
   obtain ⟨r0,rr⟩:=bytes_range r1 k
   have i0:(0:Int)≤(k:Int):=by omega
   have i1:(k:Int) < (n:Int):=by omega
   generalize hcv:nth (bytesOf r1) k=c at c0 r0 rr
   by_cases ha:65≤c
   ·by_cases hz:c≤90
    ·have hw1:(c+97) % 256=c+97:=by omega
     have HC:=mkA (And.intro hcv (And.intro hlt (show lowB c=c+97 - 65 by unfold lowB;rw [if_pos ha,if_pos hz];omega)))
     go_wp2
     go_roundw
     case rel=>exact ⟨k+1,HC.out.2.1,by go_num,⟨by have:=low_put HL.out HC.out.2.1;rw [HC.out.1,HC.out.2.2] at this;exact this⟩,⟨Below.setCell HB.out (Nat.le_refl _) _⟩⟩
     case measure=>have:=HC.out.2.1;simp [intOf];omega
    ·have HC:=mkA (And.intro hcv (And.intro hlt (show lowB c=c by unfold lowB;rw [if_pos ha,if_neg hz])))
     go_wp2
     go_roundw
     case rel=>exact ⟨k+1,HC.out.2.1,by go_num,⟨low_skip HL.out (by rw [HC.out.1,HC.out.2.2])⟩,HB⟩
     case measure=>have:=HC.out.2.1;simp [intOf];omega
   ·have HC:=mkA (And.intro hcv (And.intro hlt (show lowB c=c by unfold lowB;rw [if_neg ha])))
    go_wp2
    go_roundw
    case rel=>exact ⟨k+1,HC.out.2.1,by go_num,⟨low_skip HL.out (by rw [HC.out.1,HC.out.2.2])⟩,HB⟩
    case measure=>have:=HC.out.2.1;simp [intOf];omega
  ·
   have hkn:k=n:=by omega
   subst hkn
   have hcv:=Kd.C_string (P:=Tryz.prog) (src:=23) (dst:=9) (c:=cap) Tryz.underlying23 Tryz.underlying5 Tryz.underlying9 (low_reads HL.out (by rw [bytesOf_length,HS.out]) hs)
   have hq1:=HQ1.out wr (HB3.out.trans (HB.out.mono HB3.out.size))
   have HBr:=mkA (HB3.out.trans (HB.out.mono HB3.out.size))
   have HC3:=mkA (three_reads wr getB (lowS r1) a0_1)
   have HK:=mkA (shakey_calls _ 3 [getB,lowS r1,a0_1] _ HC3.out (Nat.le_refl _) HBG.out)
   have HBA:=mkA (HBr.out.alloc HBr.out.size (.cells #[.string getB,.string (lowS r1),.string a0_1] 9))
   have hsz:=mkA (fun l:List Int=>fun hl:l.length=32=>show (Tryz.prog.info? 43).map (·.size)=some (u8s l).size by rw [u8s_size,hl];kernel_rfl)
   have hso:=mkA (show (u8s (List.replicate 32 0)).size=(u8s (sumP (keyL [getB,lowS r1,a0_1]))).size by rw [u8s_size,u8s_size,sumP_len,List.length_replicate])
   go_wp2_with (first|(go_at_call 36;refine HK.out.mono ?_;rintro e w6 ⟨rfl,hb6⟩;have HB6:=mkA (HBA.out.trans (hb6.mono HBA.out.size));clear hb6)|(with_reducible refine wpList_store_row rfl 43 _ _ rfl (w.heap.size+1) (u8s (sumP (keyL [getB,lowS r1,a0_1]))) rfl rfl 43 _ (HRW.out _ HB6.out) (hsz.out _ (sumP_len _)) hso.out (u8s_one _) ?_)|fail)
   exact bodyPost_ret (results_cell_row rfl _ _ (w.heap.size+1) 43 (u8s (sumP (keyL [getB,lowS r1,a0_1]))) (0,0) _ rfl (setRow_heap _ _ _ _ _ _ (HRW.out _ HB6.out)) Tryz.underlying43 rfl (hsz.out _ (sumP_len _))) rfl ⟨rfl,below_setRow (HW.out _ HB6.out) (by omega) _⟩
set_option maxRecDepth 100000 in
set_option maxHeartbeats 8000000 in
theorem refKey_calls(k:Nat)(a0_0:ByteArray)(a0_1:ByteArray)(A0_2:Option Addr)(c0_2:Nat)(l0_2:List S41)(v3:Value)(r1:ByteArray)(r2:Bool)(w:World)(hv3:v3.oneCell'=true)
  (hr0_2:Kd.C k41 w A0_2 l0_2.length l0_2) (hc0_2:l0_2.length≤c0_2) (h:ambryref10_Get.f k l0_2 hostB=some (r1,r2)) (hs:r1.size≤9223372036854775807) (hbig:(keyL [getB,lowS r1,a0_1]).length≤140737488355000) :
  Calls Tryz.prog 14 #[.agg #[.string a0_0,.string a0_1,.slice A0_2 l0_2.length c0_2,v3]] w fun e w'=>e=.returned (.agg (u8s (sumR (keyL [getB,lowS r1,a0_1]))))∧Below w.heap.size w w':=by
 have HG:=mkA (fun W (hw:Below w.heap.size w W)=>ambryref10_Get.calls k A0_2 c0_2 l0_2 hostB _ _ W (Kd.C_below hr0_2 hw) hc0_2 h)
 clear h hr0_2 hc0_2
 have HBG:=mkA hbig
 clear hbig
 go_enter Tryz.func14,Tryz.ntmps14
 go_upto_region 1 with (fail)
 have hq0:=heap_alloc_new w (.cells #[.string a0_0,.string a0_1,.slice A0_2 l0_2.length c0_2,v3] 25)
 have hq1:=(Below.heap_alloc (w.alloc (.cells #[.string a0_0,.string a0_1,.slice A0_2 l0_2.length c0_2,v3] 25)) (.cells (u8s (List.replicate 32 0)) 43) w.heap.size (by simp)).trans hq0
 have hr1:=heap_alloc_new (w.alloc (.cells #[.string a0_0,.string a0_1,.slice A0_2 l0_2.length c0_2,v3] 25)) (.cells (u8s (List.replicate 32 0)) 43)
 rw [show (w.alloc (.cells #[.string a0_0,.string a0_1,.slice A0_2 l0_2.length c0_2,v3] 25)).heap.size=w.heap.size+1 from by simp] at hr1
 have hb0:Below w.heap.size w ((w.alloc (.cells #[.string a0_0,.string a0_1,.slice A0_2 l0_2.length c0_2,v3] 25)).alloc (.cells (u8s (List.replicate 32 0)) 43)):=((Below.refl _ _).alloc (Nat.le_refl _) _).alloc (by simp) _
 obtain ⟨W0,hw0⟩:∃ W0,W0=((w.alloc (.cells #[.string a0_0,.string a0_1,.slice A0_2 l0_2.length c0_2,v3] 25)).alloc (.cells (u8s (List.replicate 32 0)) 43)):=⟨_,rfl⟩
 rw [← hw0] at hq1 hr1 hb0
 refine toW hw0 ?_
 have HB0:=mkA hb0
 have HQ:=mkA hq1
 have HR:=mkA hr1
 clear hq0 hq1 hr1 hb0 hw0
 have HW:=mkA (fun W (h:Below W0.heap.size W0 W)=>show Below w.heap.size w W from HB0.out.trans (h.mono HB0.out.size))
 have HQ1:=mkA (fun W (h:Below W0.heap.size W0 W)=>show W.cell? ⟨w.heap.size,1,none⟩=some (.string a0_1) from cell_of (t:=25) ((h.block _ (blk_in HQ.out)).trans HQ.out) rfl)
 have HRW:=mkA (fun W (h:Below W0.heap.size W0 W)=>show W.heap[w.heap.size+1]?=some (.cells (u8s (List.replicate 32 0)) 43 (0,0)) from (h.block _ (blk_in HR.out)).trans HR.out)
 have hq2:W0.cell? ⟨w.heap.size,2,none⟩=some (.slice A0_2 l0_2.length c0_2):=cell_of (t:=25) HQ.out rfl
 clear HQ HR
 go_upto_region 2 with (first|(go_at_call 33;refine (HG.out _ HB0.out).mono ?_;rintro e w3 ⟨rfl,hb⟩;have HB3:=mkA hb;clear hb)|fail)
 clear hq2 HG
 have hq1:=HQ1.out w3 HB3.out
 have HLW:=mkA (fun W=>Low_calls r1 W hs)
 have hsz:=mkA (fun l:List Int=>fun hl:l.length=32=>show (Tryz.prog.info? 43).map (·.size)=some (u8s l).size by rw [u8s_size,hl];kernel_rfl)
 have hso:=mkA (show (u8s (List.replicate 32 0)).size=(u8s (sumR (keyL [getB,lowS r1,a0_1]))).size by rw [u8s_size,u8s_size,sumR_len2,List.length_replicate])
 have HB3d:=mkA (show Below W0.heap.size W0 w3.drew from pw_below_drewN HB3.out 1)
 go_upto_region 2 with (fail)
 refine start_ (n:=7) (S:=fun w'=>w'.cell? ⟨w.heap.size,1,none⟩=some (.string a0_1)) (ds:=[6]) #[qf,qf,qf,qf,qf,qf,qf] (by kernel_rfl) rfl rfl ((HQ1.out _ HB3d.out)) (fun hHeld=>?_)
 generalize w3.drew=w3d at HB3d hHeld ⊢
 refine pure_ (i:=0) (N:=some 11) (v:=?_) (a':=?_) #[qt,qf,qf,qf,qf,qf,qf] rfl rfl (by kernel_rfl) (fun _ _ _ h=>h) (Or.inl ⟨by rfl,?_⟩) ?_ ?_
 rotate_left
 ·intro w'
  go_simp
  with_reducible rfl
 rotate_left
 ·simp only [Act.put,sAx,sBx,sCx,i64_w,i32_w]
  rfl
 refine pure_ (i:=2) (N:=some 13) (v:=?_) (a':=?_) #[qt,qf,qt,qf,qf,qf,qf] rfl rfl (by kernel_rfl) (fun _ _ _ h=>h) (Or.inl ⟨by rfl,?_⟩) ?_ ?_
 rotate_left
 ·intro w'
  go_simp
  with_reducible rfl
 rotate_left
 ·simp only [Act.put,sAx,sBx,sCx,i64_w,i32_w]
  rfl
 refine take_ (i:=3) (N:=some 14) (v:=?_) (a':=?_) #[qt,qf,qt,qt,qf,qf,qf] rfl rfl (by kernel_rfl) (fun _ _ _ h=>h) (Or.inl ⟨by rfl,?_⟩) hHeld ?_ ?_
 rotate_left
 ·intro w' s0
  go_simp
  with_reducible rfl
 rotate_left
 ·simp only [Act.put,sAx,sBx,sCx,i64_w,i32_w]
  rfl
 refine one_ (i:=1) (N:=some 12) #[qt,qt,qt,qt,qf,qf,qf] rfl rfl (by kernel_rfl) (by decide) (fun K hK=>?_)
 refine goes_ Tryz.func38 (by kernel_rfl) rfl #[.string r1] (by rfl) rfl rfl (by simp only [List.map_toArray,List.map_cons,List.map_nil];rfl) ?_
 with_reducible refine (HLW.out _).mono ?_
 rintro e wr ⟨rfl,hb⟩
 refine ⟨_,rfl,?_⟩
 have HBr:=mkA (HB3d.out.trans (hb.mono HB3d.out.size))
 clear hb
 refine hK.out _ _ ((HQ1.out _ HBr.out)) (fun hHeld=>?_)
 clear hK K
 refine norm_ (a':=?_) ?_ ?_
 rotate_left
 ·show Act.put _ (some 12) _=_
  simp only [Act.put,sAx,sBx,sCx,i64_w,i32_w]
  rfl
 refine one_ (i:=4) (N:=some 15) #[qt,qt,qt,qt,qt,qf,qf] rfl rfl (by kernel_rfl) (by decide) (fun K hK=>?_)
 refine value_ (w1:=?_) (v:=?_) (by rfl) rfl ?_ ?_
 rotate_left 2
 ·go_simp
  constructor
  ·rfl
  ·rfl
 have HK:=mkA (show Calls Tryz.prog 37 #[.slice (some ⟨wr.heap.size,0,none⟩) 3 3] (wr.alloc (.cells #[.string ⟨#[71,69,84]⟩,.string (lowS r1),.string a0_1] 9)) (fun e w'=>e=.returned (.agg (u8s (sumR (keyL [getB,lowS r1,a0_1]))))∧Below (wr.alloc (.cells #[.string ⟨#[71,69,84]⟩,.string (lowS r1),.string a0_1] 9)).heap.size (wr.alloc (.cells #[.string ⟨#[71,69,84]⟩,.string (lowS r1),.string a0_1] 9)) w') from refkey_calls _ 3 [getB,lowS r1,a0_1] _ (three_reads wr getB (lowS r1) a0_1) (Nat.le_refl _) HBG.out)
 have HBA:=mkA (HBr.out.alloc HBr.out.size (.cells #[.string getB,.string (lowS r1),.string a0_1] 9))
 refine hK.out _ _ ((HQ1.out _ HBA.out)) (fun hHeld=>?_)
 clear hK K
 refine norm_ (a':=?_) ?_ ?_
 rotate_left
 ·show Act.put _ (some 15) _=_
  simp only [Act.put,sAx,sBx,sCx,i64_w,i32_w]
  rfl
 refine one_ (i:=5) (N:=some 16) #[qt,qt,qt,qt,qt,qt,qf] rfl rfl (by kernel_rfl) (by decide) (fun K hK=>?_)
 refine goes_ Tryz.func37 (by kernel_rfl) rfl #[.slice (some ⟨wr.heap.size,0,none⟩) 3 3] (by rfl) rfl rfl (by simp only [List.map_toArray,List.map_cons,List.map_nil];rfl) ?_
 with_reducible refine (HK.out).mono ?_
 rintro e w6 ⟨rfl,hb6⟩
 refine ⟨_,rfl,?_⟩
 have HB6:=mkA (HBA.out.trans (hb6.mono HBA.out.size))
 clear hb6
 refine hK.out _ _ ((HQ1.out _ HB6.out)) (fun hHeld=>?_)
 clear hK K
 refine norm_ (a':=?_) ?_ ?_
 rotate_left
 ·show Act.put _ (some 16) _=_
  simp only [Act.put,sAx,sBx,sCx,i64_w,i32_w]
  rfl
 refine last_ (i:=6) (N:=none) #[qt,qt,qt,qt,qt,qt,qt] rfl rfl (by kernel_rfl) (by decide) (fun K hK=>?_)
 refine store2_ (by rfl) rfl 43 _ _ rfl (w.heap.size+1) (u8s (sumR (keyL [getB,lowS r1,a0_1]))) rfl rfl 43 _ (HRW.out _ HB6.out) (hsz.out _ (sumR_len2 _)) hso.out (u8s_one _) ?_
 refine hK.out _ _ ?_
 clear hK K
 refine done_ (by kernel_rfl) ?_
 go_wp2
 exact bodyPost_ret (results_cell_row rfl _ _ (w.heap.size+1) 43 (u8s (sumR (keyL [getB,lowS r1,a0_1]))) (0,0) _ rfl (setRow_heap _ _ _ _ _ _ (HRW.out _ HB6.out)) Tryz.underlying43 rfl (hsz.out _ (sumR_len2 _))) rfl ⟨rfl,below_setRow (HW.out _ HB6.out) (by omega) _⟩
end Go.Proofs.YtlnmnjbihgaliaaGreat.Pr
end
section
open Go.RowKit Go.Proofs.YtlnmnjbihgaliaaGreatW.PrintWords Go.Proofs.YtlnmnjbihgaliaaGreatW.PrintMore Go.Proofs.YtlnmnjbihgaliaaGreatW.PrintLast
namespace Go.Proofs.YtlnmnjbihgaliaaGreat.Pr
theorem eqItems_u8(d:Nat)(w:World)(l1 l2:List Int):∀ is:List Nat,(∀ i∈is,i < l1.length∧i < l2.length) →
  (Op.eqItems (d+1) 5 1 (u8s l1) (u8s l2) is).run Tryz.prog w=.ok (is.all fun i=>nth l1 i == nth l2 i) w
 |[],_=>by simp [Op.eqItems]
 |i :: is,h=>by
  have hp:Tryz.prog.plainKey 5=true:=by simp [Program.plainKey,Tryz.underlying5]
  have h1:=h i (by simp)
  have ih:=eqItems_u8 d w l1 l2 is (fun j hj=>h j (by simp [hj]))
  simp only [Op.eqItems,Sem.run_bind,Nat.mul_one,run_part_plain w hp (u8s_at l1 i h1.1),run_part_plain w hp (u8s_at l2 i h1.2),Result.andThen_ok,run_equalIn_int w d 5 .u8 .u8 _ _ Tryz.underlying5,List.all_cons]
  cases nth l1 i == nth l2 i
  ·simp
  ·simpa using ih
theorem eq_KeyD(d:Nat)(w:World)(l1 l2:List Int)(h1:l1.length=32)(h2:l2.length=32):(Op.equalIn (d+1+1) 43 (.agg (u8s l1)) (.agg (u8s l2))).run Tryz.prog w=.ok (l1 == l2) w:=by
 obtain ⟨i5,hi5⟩:=info_of_underlying Tryz.underlying5
 have hc:Tryz.prog.cellsOf 5=1:=by kernel_rfl
 rw [run_equalIn_array (P:=Tryz.prog) (w:=w) (d+1) (u8s l1) (u8s l2) Tryz.underlying43 hi5,hc,eqItems_u8 d w l1 l2 _ (fun i hi=>by have:=List.mem_range.1 hi;omega)]
 have hb:((List.range 32).all fun i=>nth l1 i == nth l2 i)=(l1 == l2):=by
  rw [Bool.eq_iff_iff,List.all_eq_true,beq_iff_eq]
  constructor
  ·intro h
   apply List.ext_getElem (by omega)
   intro i hi1 hi2
   have:=h i (List.mem_range.2 (by omega))
   simpa [nth,List.getD_eq_getElem?_getD,List.getElem?_eq_getElem hi1,List.getElem?_eq_getElem hi2] using this
  ·rintro rfl i _
   simp
 rw [hb]
theorem eq_Key(w:World)(l1 l2:List Int)(h1:l1.length=32)(h2:l2.length=32):(Op.equalIn 10000 43 (.agg (u8s l1)) (.agg (u8s l2))).run Tryz.prog w=.ok (l1 == l2) w:=eq_KeyD 9998 w l1 l2 h1 h2
theorem one_field{W:World}{g:Nat}{fr:Nat × Nat}{a b:ByteArray}(h:W.heap[g]?=some (.cells #[.string a,.string b] 41 fr)):Kd.C k41 W (some ⟨g,0,none⟩) 1 [⟨a,b⟩]:=by
 refine ⟨rfl,by decide,fun _=>⟨_,rfl,fun j p hp=>?_⟩⟩
 have hj:j=0:=by
  rcases Nat.lt_or_ge j 1 with hj|hj
  ·omega
  ·rw [List.getElem?_eq_none (by simpa using hj)] at hp;cases hp
 subst hj
 injection hp with hp
 subst hp
 refine ⟨[.string a,.string b],rfl,k41_mk W _,fun i u hu=>?_⟩
 rw [add_plain,mk_cell h]
 match i,hu with
 |0,hu=>simpa using hu
 |1,hu=>simpa using hu
def ccB:ByteArray:=⟨#[67,97,99,104,101,45,67,111,110,116,114,111,108]⟩
def privB:ByteArray:=⟨#[112,114,105,118,97,116,101]⟩
def slashB:ByteArray:=⟨#[47]⟩
def hB:ByteArray:=⟨#[72]⟩
def postB:ByteArray:=⟨#[80,79,83,84]⟩
set_option maxRecDepth 100000 in
set_option maxHeartbeats 8000000 in
theorem known_walk(k:Nat)
  (e1:policy_May.f k getB slashB [⟨hostB,hB⟩] [] 200 ⟨#[]⟩ [] []=some true)
  (e2:policy_May.f k getB slashB [⟨hostB,hB⟩] [] 200 ⟨#[]⟩ [⟨ccB,privB⟩] []=some false)
  (e3:policy_Safe.f k getB=some true) (e4:policy_Safe.f k postB=some false)
  (KP:List Int) (hKP:KP.length=32)
  (e5:∀ (W:World) (g:Nat),Kd.C k41 W (some ⟨g,0,none⟩) 1 [⟨hostB,hB⟩]→Calls Tryz.prog 13 #[.agg #[.string ⟨#[71,69,84]⟩,.string ⟨#[47]⟩,.slice (some ⟨g,0,none⟩) 1 1,.slice none 0 0]] W fun e w'=>e=.returned (.agg (u8s KP))∧Below W.heap.size W w')
  (e6:∀ (W:World) (g:Nat),Kd.C k41 W (some ⟨g,0,none⟩) 1 [⟨hostB,hB⟩]→Calls Tryz.prog 14 #[.agg #[.string ⟨#[71,69,84]⟩,.string ⟨#[47]⟩,.slice (some ⟨g,0,none⟩) 1 1,.slice none 0 0]] W fun e w'=>e=.returned (.agg (u8s KP))∧Below W.heap.size W w')
  (w:World) :
  Calls Tryz.prog 4 #[] w fun e w'=>e=.returned (.bool true)∧Below w.heap.size w w':=by
 have E1:=mkA e1
 have E2:=mkA e2
 have E3:=mkA e3
 have E4:=mkA e4
 have E5:=mkA e5
 have E6:=mkA e6
 clear e1 e2 e3 e4 e5 e6
 have heq:∀ W:World,(Op.equalIn 10000 43 (.agg (u8s KP)) (.agg (u8s KP))).run Tryz.prog W=.ok true W:=fun W=>by
  rw [eq_Key W _ _ hKP hKP,beq_self_eq_true]
 go_enter Tryz.func4,Tryz.ntmps4
 go_upto_region 4 with (fail)
 obtain ⟨W0,hw0⟩:∃ W0,W0=(((((w.alloc (.cells #[.string hostB,.string hB] 41)).alloc (.cells #[.string ⟨#[71,69,84]⟩,.string ⟨#[47]⟩,.slice (some ⟨w.heap.size,0,none⟩) 1 1,.slice none 0 0] 25)).alloc (.cells #[.int .i64 200,.string ⟨#[]⟩,.slice none 0 0,.slice none 0 0] 27)).alloc (.cells #[.string ccB,.string privB] 41)).alloc (.cells #[.int .i64 200,.string ⟨#[]⟩,.slice (some ⟨w.heap.size+1+1+1,0,none⟩) 1 1,.slice none 0 0] 27)):=⟨_,rfl⟩
 have h1:W0.heap[w.heap.size]?=some (.cells #[.string hostB,.string hB] 41 (0,0)):=by rw [hw0];exact blk_al (blk_al (blk_al (blk_al (heap_alloc_new _ _))))
 have h2:W0.heap[w.heap.size+1]?=some (.cells #[.string ⟨#[71,69,84]⟩,.string ⟨#[47]⟩,.slice (some ⟨w.heap.size,0,none⟩) 1 1,.slice none 0 0] 25 (0,0)):=by rw [hw0];refine blk_al (blk_al (blk_al ?_));have:=heap_alloc_new (w.alloc (.cells #[.string hostB,.string hB] 41)) (.cells #[.string ⟨#[71,69,84]⟩,.string ⟨#[47]⟩,.slice (some ⟨w.heap.size,0,none⟩) 1 1,.slice none 0 0] 25);simpa using this
 have h3:W0.heap[w.heap.size+1+1]?=some (.cells #[.int .i64 200,.string ⟨#[]⟩,.slice none 0 0,.slice none 0 0] 27 (0,0)):=by rw [hw0];refine blk_al (blk_al ?_);have:=heap_alloc_new ((w.alloc (.cells #[.string hostB,.string hB] 41)).alloc (.cells #[.string ⟨#[71,69,84]⟩,.string ⟨#[47]⟩,.slice (some ⟨w.heap.size,0,none⟩) 1 1,.slice none 0 0] 25)) (.cells #[.int .i64 200,.string ⟨#[]⟩,.slice none 0 0,.slice none 0 0] 27);simpa using this
 have h4:W0.heap[w.heap.size+1+1+1]?=some (.cells #[.string ccB,.string privB] 41 (0,0)):=by rw [hw0];refine blk_al ?_;have:=heap_alloc_new (((w.alloc (.cells #[.string hostB,.string hB] 41)).alloc (.cells #[.string ⟨#[71,69,84]⟩,.string ⟨#[47]⟩,.slice (some ⟨w.heap.size,0,none⟩) 1 1,.slice none 0 0] 25)).alloc (.cells #[.int .i64 200,.string ⟨#[]⟩,.slice none 0 0,.slice none 0 0] 27)) (.cells #[.string ccB,.string privB] 41);simpa using this
 have h5:W0.heap[w.heap.size+1+1+1+1]?=some (.cells #[.int .i64 200,.string ⟨#[]⟩,.slice (some ⟨w.heap.size+1+1+1,0,none⟩) 1 1,.slice none 0 0] 27 (0,0)):=by rw [hw0];have:=heap_alloc_new ((((w.alloc (.cells #[.string hostB,.string hB] 41)).alloc (.cells #[.string ⟨#[71,69,84]⟩,.string ⟨#[47]⟩,.slice (some ⟨w.heap.size,0,none⟩) 1 1,.slice none 0 0] 25)).alloc (.cells #[.int .i64 200,.string ⟨#[]⟩,.slice none 0 0,.slice none 0 0] 27)).alloc (.cells #[.string ccB,.string privB] 41)) (.cells #[.int .i64 200,.string ⟨#[]⟩,.slice (some ⟨w.heap.size+1+1+1,0,none⟩) 1 1,.slice none 0 0] 27);simpa using this
 have hb0:Below w.heap.size w W0:=by
  rw [hw0]
  exact ((((((Below.refl _ _).alloc (Nat.le_refl _) _).alloc (by simp) _).alloc (by simp;omega) _).alloc (by simp;omega) _).alloc (by simp;omega) _)
 refine toW hw0 ?_
 clear hw0
 have hI25:(Tryz.prog.info? 25).map (·.size)=some 4:=by kernel_rfl
 have hI35:(Tryz.prog.info? 27).map (·.size)=some 4:=by kernel_rfl
 have HQ:=mkA (fun W (h:Below W0.heap.size W0 W)=>show W.heap[w.heap.size+1]?=some (.cells #[.string ⟨#[71,69,84]⟩,.string ⟨#[47]⟩,.slice (some ⟨w.heap.size,0,none⟩) 1 1,.slice none 0 0] 25 (0,0)) from ((h.block _ (blk_in h2)).trans h2))
 have HR:=mkA (fun W (h:Below W0.heap.size W0 W)=>show W.heap[w.heap.size+1+1]?=some (.cells #[.int .i64 200,.string ⟨#[]⟩,.slice none 0 0,.slice none 0 0] 27 (0,0)) from ((h.block _ (blk_in h3)).trans h3))
 have HP:=mkA (fun W (h:Below W0.heap.size W0 W)=>show W.heap[w.heap.size+1+1+1+1]?=some (.cells #[.int .i64 200,.string ⟨#[]⟩,.slice (some ⟨w.heap.size+1+1+1,0,none⟩) 1 1,.slice none 0 0] 27 (0,0)) from ((h.block _ (blk_in h5)).trans h5))
 have c1:=fun W (h:Below W0.heap.size W0 W)=>policy_May.calls k getB slashB (some ⟨w.heap.size,0,none⟩) 1 [⟨hostB,hB⟩] none 0 [] 200 ⟨#[]⟩ none 0 [] none 0 [] true W (one_field ((h.block _ (blk_in h1)).trans h1)) (Nat.le_refl _) (Kd.C_nil _ _) (Nat.le_refl _) (Kd.C_nil _ _) (Nat.le_refl _) (Kd.C_nil _ _) (Nat.le_refl _) E1.out
 have C1:=mkA c1
 have c2:=fun W (h:Below W0.heap.size W0 W)=>policy_May.calls k getB slashB (some ⟨w.heap.size,0,none⟩) 1 [⟨hostB,hB⟩] none 0 [] 200 ⟨#[]⟩ (some ⟨w.heap.size+1+1+1,0,none⟩) 1 [⟨ccB,privB⟩] none 0 [] false W (one_field ((h.block _ (blk_in h1)).trans h1)) (Nat.le_refl _) (Kd.C_nil _ _) (Nat.le_refl _) (one_field ((h.block _ (blk_in h4)).trans h4)) (Nat.le_refl _) (Kd.C_nil _ _) (Nat.le_refl _) E2.out
 have C2:=mkA c2
 have C3:=mkA (fun W=>policy_Safe.calls k getB true W E3.out)
 have C4:=mkA (fun W=>policy_Safe.calls k postB false W E4.out)
 have c5:=fun W (h:Below W0.heap.size W0 W)=>E5.out W w.heap.size (one_field ((h.block _ (blk_in h1)).trans h1))
 have C5:=mkA c5
 have c6:=fun W (h:Below W0.heap.size W0 W)=>E6.out W w.heap.size (one_field ((h.block _ (blk_in h1)).trans h1))
 have C6:=mkA c6
 have HB:=mkA (show Below W0.heap.size W0 W0.drew from pw_below_drewN (Below.refl _ _) 1)
 have HB0:=mkA hb0
 clear c1 c2 c5 c6 h1 h2 h3 h4 h5 hb0 hI25 hI35
 refine start_ (n:=24) (S:=fun w'=>w'.cell? ⟨w.heap.size+1,0,none⟩=some (.string ⟨#[71,69,84]⟩)∧w'.cell? ⟨w.heap.size+1,1,none⟩=some (.string ⟨#[47]⟩)∧w'.cell? ⟨w.heap.size+1,2,none⟩=some (.slice (some ⟨w.heap.size,0,none⟩) 1 1)∧w'.cell? ⟨w.heap.size+1,3,none⟩=some (.slice none 0 0)∧w'.cell? ⟨w.heap.size+1+1,0,none⟩=some (.int .i64 200)∧w'.cell? ⟨w.heap.size+1+1,1,none⟩=some (.string ⟨#[]⟩)∧w'.cell? ⟨w.heap.size+1+1,2,none⟩=some (.slice none 0 0)∧w'.cell? ⟨w.heap.size+1+1,3,none⟩=some (.slice none 0 0)∧w'.cell? ⟨w.heap.size+1+1+1+1,0,none⟩=some (.int .i64 200)∧w'.cell? ⟨w.heap.size+1+1+1+1,1,none⟩=some (.string ⟨#[]⟩)∧w'.cell? ⟨w.heap.size+1+1+1+1,2,none⟩=some (.slice (some ⟨w.heap.size+1+1+1,0,none⟩) 1 1)∧w'.cell? ⟨w.heap.size+1+1+1+1,3,none⟩=some (.slice none 0 0)) (ds:=[]) #[qf,qf,qf,qf,qf,qf,qf,qf,qf,qf,qf,qf,qf,qf,qf,qf,qf,qf,qf,qf,qf,qf,qf,qf] (by kernel_rfl) rfl rfl ⟨(cell_of (HQ.out _ HB.out) rfl),(cell_of (HQ.out _ HB.out) rfl),(cell_of (HQ.out _ HB.out) rfl),(cell_of (HQ.out _ HB.out) rfl),(cell_of (HR.out _ HB.out) rfl),(cell_of (HR.out _ HB.out) rfl),(cell_of (HR.out _ HB.out) rfl),(cell_of (HR.out _ HB.out) rfl),(cell_of (HP.out _ HB.out) rfl),(cell_of (HP.out _ HB.out) rfl),(cell_of (HP.out _ HB.out) rfl),(cell_of (HP.out _ HB.out) rfl)⟩ (fun hHeld=>?_)
 generalize W0.drew=w0d at HB hHeld ⊢
 refine take_ (i:=0) (N:=some 11) (v:=?_) (a':=?_) #[qt,qf,qf,qf,qf,qf,qf,qf,qf,qf,qf,qf,qf,qf,qf,qf,qf,qf,qf,qf,qf,qf,qf,qf] rfl rfl (by kernel_rfl) (fun _ _ _ h=>h) (Or.inl ⟨by rfl,?_⟩) hHeld ?_ ?_
 rotate_left
 ·rintro w' ⟨s0,s1,s2,s3,s4,s5,s6,s7,s8,s9,s10,s11⟩
  go_simp
  with_reducible rfl
 rotate_left
 ·simp only [Act.put,sAx,sBx,sCx,i64_w,i32_w]
  rfl
 refine take_ (i:=1) (N:=some 12) (v:=?_) (a':=?_) #[qt,qt,qf,qf,qf,qf,qf,qf,qf,qf,qf,qf,qf,qf,qf,qf,qf,qf,qf,qf,qf,qf,qf,qf] rfl rfl (by kernel_rfl) (fun _ _ _ h=>h) (Or.inl ⟨by rfl,?_⟩) hHeld ?_ ?_
 rotate_left
 ·rintro w' ⟨s0,s1,s2,s3,s4,s5,s6,s7,s8,s9,s10,s11⟩
  go_simp
  with_reducible rfl
 rotate_left
 ·simp only [Act.put,sAx,sBx,sCx,i64_w,i32_w]
  rfl
 refine one_ (i:=2) (N:=some 13) #[qt,qt,qt,qf,qf,qf,qf,qf,qf,qf,qf,qf,qf,qf,qf,qf,qf,qf,qf,qf,qf,qf,qf,qf] rfl rfl (by kernel_rfl) (by decide) (fun K hK=>?_)
 refine goes_ Tryz.func9 (by kernel_rfl) rfl #[.agg #[.string ⟨#[71,69,84]⟩,.string ⟨#[47]⟩,.slice (some ⟨w.heap.size,0,none⟩) 1 1,.slice none 0 0],.agg #[.int .i64 200,.string ⟨#[]⟩,.slice none 0 0,.slice none 0 0]] (by rfl) rfl rfl (by simp only [List.map_toArray,List.map_cons,List.map_nil];rfl) ?_
 refine (C1.out _ HB.out).mono ?_
 rintro e w3 ⟨rfl,hb⟩
 refine ⟨_,rfl,?_⟩
 have HB:=mkA (HB.out.trans (hb.mono HB.out.size))
 clear hb
 refine hK.out _ _ ⟨(cell_of (HQ.out _ HB.out) rfl),(cell_of (HQ.out _ HB.out) rfl),(cell_of (HQ.out _ HB.out) rfl),(cell_of (HQ.out _ HB.out) rfl),(cell_of (HR.out _ HB.out) rfl),(cell_of (HR.out _ HB.out) rfl),(cell_of (HR.out _ HB.out) rfl),(cell_of (HR.out _ HB.out) rfl),(cell_of (HP.out _ HB.out) rfl),(cell_of (HP.out _ HB.out) rfl),(cell_of (HP.out _ HB.out) rfl),(cell_of (HP.out _ HB.out) rfl)⟩ (fun hHeld=>?_)
 clear hK K
 refine norm_ (a':=?_) ?_ ?_
 rotate_left
 ·show Act.put _ (some 13) _=_
  simp only [Act.put,sAx,sBx,sCx,i64_w,i32_w]
  rfl
 refine pure_ (i:=3) (N:=some 14) (v:=?_) (a':=?_) #[qt,qt,qt,qt,qf,qf,qf,qf,qf,qf,qf,qf,qf,qf,qf,qf,qf,qf,qf,qf,qf,qf,qf,qf] rfl rfl (by kernel_rfl) (fun _ _ _ h=>h) (Or.inl ⟨by rfl,?_⟩) ?_ ?_
 rotate_left
 ·intro w'
  go_simp
  with_reducible rfl
 rotate_left
 ·simp only [Act.put,sAx,sBx,sCx,i64_w,i32_w]
  rfl
 refine take_ (i:=4) (N:=some 15) (v:=?_) (a':=?_) #[qt,qt,qt,qt,qt,qf,qf,qf,qf,qf,qf,qf,qf,qf,qf,qf,qf,qf,qf,qf,qf,qf,qf,qf] rfl rfl (by kernel_rfl) (fun _ _ _ h=>h) (Or.inl ⟨by rfl,?_⟩) hHeld ?_ ?_
 rotate_left
 ·rintro w' ⟨s0,s1,s2,s3,s4,s5,s6,s7,s8,s9,s10,s11⟩
  go_simp
  with_reducible rfl
 rotate_left
 ·simp only [Act.put,sAx,sBx,sCx,i64_w,i32_w]
  rfl
 refine take_ (i:=5) (N:=some 16) (v:=?_) (a':=?_) #[qt,qt,qt,qt,qt,qt,qf,qf,qf,qf,qf,qf,qf,qf,qf,qf,qf,qf,qf,qf,qf,qf,qf,qf] rfl rfl (by kernel_rfl) (fun _ _ _ h=>h) (Or.inl ⟨by rfl,?_⟩) hHeld ?_ ?_
 rotate_left
 ·rintro w' ⟨s0,s1,s2,s3,s4,s5,s6,s7,s8,s9,s10,s11⟩
  go_simp
  with_reducible rfl
 rotate_left
 ·simp only [Act.put,sAx,sBx,sCx,i64_w,i32_w]
  rfl
 refine one_ (i:=6) (N:=some 17) #[qt,qt,qt,qt,qt,qt,qt,qf,qf,qf,qf,qf,qf,qf,qf,qf,qf,qf,qf,qf,qf,qf,qf,qf] rfl rfl (by kernel_rfl) (by decide) (fun K hK=>?_)
 refine goes_ Tryz.func9 (by kernel_rfl) rfl #[.agg #[.string ⟨#[71,69,84]⟩,.string ⟨#[47]⟩,.slice (some ⟨w.heap.size,0,none⟩) 1 1,.slice none 0 0],.agg #[.int .i64 200,.string ⟨#[]⟩,.slice (some ⟨w.heap.size+1+1+1,0,none⟩) 1 1,.slice none 0 0]] (by rfl) rfl rfl (by simp only [List.map_toArray,List.map_cons,List.map_nil];rfl) ?_
 refine (C2.out _ HB.out).mono ?_
 rintro e w3 ⟨rfl,hb⟩
 refine ⟨_,rfl,?_⟩
 have HB:=mkA (HB.out.trans (hb.mono HB.out.size))
 clear hb
 refine hK.out _ _ ⟨(cell_of (HQ.out _ HB.out) rfl),(cell_of (HQ.out _ HB.out) rfl),(cell_of (HQ.out _ HB.out) rfl),(cell_of (HQ.out _ HB.out) rfl),(cell_of (HR.out _ HB.out) rfl),(cell_of (HR.out _ HB.out) rfl),(cell_of (HR.out _ HB.out) rfl),(cell_of (HR.out _ HB.out) rfl),(cell_of (HP.out _ HB.out) rfl),(cell_of (HP.out _ HB.out) rfl),(cell_of (HP.out _ HB.out) rfl),(cell_of (HP.out _ HB.out) rfl)⟩ (fun hHeld=>?_)
 clear hK K
 refine norm_ (a':=?_) ?_ ?_
 rotate_left
 ·show Act.put _ (some 17) _=_
  simp only [Act.put,sAx,sBx,sCx,i64_w,i32_w]
  rfl
 refine pure_ (i:=7) (N:=some 18) (v:=?_) (a':=?_) #[qt,qt,qt,qt,qt,qt,qt,qt,qf,qf,qf,qf,qf,qf,qf,qf,qf,qf,qf,qf,qf,qf,qf,qf] rfl rfl (by kernel_rfl) (fun _ _ _ h=>h) (Or.inl ⟨by rfl,?_⟩) ?_ ?_
 rotate_left
 ·intro w'
  go_simp
  with_reducible rfl
 rotate_left
 ·simp only [Act.put,sAx,sBx,sCx,i64_w,i32_w]
  rfl
 refine pure_ (i:=8) (N:=some 19) (v:=?_) (a':=?_) #[qt,qt,qt,qt,qt,qt,qt,qt,qt,qf,qf,qf,qf,qf,qf,qf,qf,qf,qf,qf,qf,qf,qf,qf] rfl rfl (by kernel_rfl) (fun _ _ _ h=>h) (Or.inl ⟨by rfl,?_⟩) ?_ ?_
 rotate_left
 ·intro w'
  go_simp
  with_reducible rfl
 rotate_left
 ·simp only [Act.put,sAx,sBx,sCx,i64_w,i32_w]
  rfl
 refine pure_ (i:=9) (N:=some 20) (v:=?_) (a':=?_) #[qt,qt,qt,qt,qt,qt,qt,qt,qt,qt,qf,qf,qf,qf,qf,qf,qf,qf,qf,qf,qf,qf,qf,qf] rfl rfl (by kernel_rfl) (fun _ _ _ h=>h) (Or.inl ⟨by rfl,?_⟩) ?_ ?_
 rotate_left
 ·intro w'
  go_simp
  with_reducible rfl
 rotate_left
 ·simp only [Act.put,sAx,sBx,sCx,i64_w,i32_w]
  rfl
 refine one_ (i:=10) (N:=some 21) #[qt,qt,qt,qt,qt,qt,qt,qt,qt,qt,qt,qf,qf,qf,qf,qf,qf,qf,qf,qf,qf,qf,qf,qf] rfl rfl (by kernel_rfl) (by decide) (fun K hK=>?_)
 refine goes_ Tryz.func11 (by kernel_rfl) rfl #[.string ⟨#[71,69,84]⟩] (by rfl) rfl rfl (by simp only [List.map_toArray,List.map_cons,List.map_nil];rfl) ?_
 refine (C3.out _).mono ?_
 rintro e w3 ⟨rfl,hb⟩
 refine ⟨_,rfl,?_⟩
 have HB:=mkA (HB.out.trans (hb.mono HB.out.size))
 clear hb
 refine hK.out _ _ ⟨(cell_of (HQ.out _ HB.out) rfl),(cell_of (HQ.out _ HB.out) rfl),(cell_of (HQ.out _ HB.out) rfl),(cell_of (HQ.out _ HB.out) rfl),(cell_of (HR.out _ HB.out) rfl),(cell_of (HR.out _ HB.out) rfl),(cell_of (HR.out _ HB.out) rfl),(cell_of (HR.out _ HB.out) rfl),(cell_of (HP.out _ HB.out) rfl),(cell_of (HP.out _ HB.out) rfl),(cell_of (HP.out _ HB.out) rfl),(cell_of (HP.out _ HB.out) rfl)⟩ (fun hHeld=>?_)
 clear hK K
 refine norm_ (a':=?_) ?_ ?_
 rotate_left
 ·show Act.put _ (some 21) _=_
  simp only [Act.put,sAx,sBx,sCx,i64_w,i32_w]
  rfl
 refine pure_ (i:=11) (N:=some 22) (v:=?_) (a':=?_) #[qt,qt,qt,qt,qt,qt,qt,qt,qt,qt,qt,qt,qf,qf,qf,qf,qf,qf,qf,qf,qf,qf,qf,qf] rfl rfl (by kernel_rfl) (fun _ _ _ h=>h) (Or.inl ⟨by rfl,?_⟩) ?_ ?_
 rotate_left
 ·intro w'
  go_simp
  with_reducible rfl
 rotate_left
 ·simp only [Act.put,sAx,sBx,sCx,i64_w,i32_w]
  rfl
 refine pure_ (i:=12) (N:=some 23) (v:=?_) (a':=?_) #[qt,qt,qt,qt,qt,qt,qt,qt,qt,qt,qt,qt,qt,qf,qf,qf,qf,qf,qf,qf,qf,qf,qf,qf] rfl rfl (by kernel_rfl) (fun _ _ _ h=>h) (Or.inl ⟨by rfl,?_⟩) ?_ ?_
 rotate_left
 ·intro w'
  go_simp
  with_reducible rfl
 rotate_left
 ·simp only [Act.put,sAx,sBx,sCx,i64_w,i32_w]
  rfl
 refine one_ (i:=13) (N:=some 24) #[qt,qt,qt,qt,qt,qt,qt,qt,qt,qt,qt,qt,qt,qt,qf,qf,qf,qf,qf,qf,qf,qf,qf,qf] rfl rfl (by kernel_rfl) (by decide) (fun K hK=>?_)
 refine goes_ Tryz.func11 (by kernel_rfl) rfl #[.string ⟨#[80,79,83,84]⟩] (by rfl) rfl rfl (by simp only [List.map_toArray,List.map_cons,List.map_nil];rfl) ?_
 refine (C4.out _).mono ?_
 rintro e w3 ⟨rfl,hb⟩
 refine ⟨_,rfl,?_⟩
 have HB:=mkA (HB.out.trans (hb.mono HB.out.size))
 clear hb
 refine hK.out _ _ ⟨(cell_of (HQ.out _ HB.out) rfl),(cell_of (HQ.out _ HB.out) rfl),(cell_of (HQ.out _ HB.out) rfl),(cell_of (HQ.out _ HB.out) rfl),(cell_of (HR.out _ HB.out) rfl),(cell_of (HR.out _ HB.out) rfl),(cell_of (HR.out _ HB.out) rfl),(cell_of (HR.out _ HB.out) rfl),(cell_of (HP.out _ HB.out) rfl),(cell_of (HP.out _ HB.out) rfl),(cell_of (HP.out _ HB.out) rfl),(cell_of (HP.out _ HB.out) rfl)⟩ (fun hHeld=>?_)
 clear hK K
 refine norm_ (a':=?_) ?_ ?_
 rotate_left
 ·show Act.put _ (some 24) _=_
  simp only [Act.put,sAx,sBx,sCx,i64_w,i32_w]
  rfl
 refine pure_ (i:=14) (N:=some 25) (v:=?_) (a':=?_) #[qt,qt,qt,qt,qt,qt,qt,qt,qt,qt,qt,qt,qt,qt,qt,qf,qf,qf,qf,qf,qf,qf,qf,qf] rfl rfl (by kernel_rfl) (fun _ _ _ h=>h) (Or.inl ⟨by rfl,?_⟩) ?_ ?_
 rotate_left
 ·intro w'
  go_simp
  with_reducible rfl
 rotate_left
 ·simp only [Act.put,sAx,sBx,sCx,i64_w,i32_w]
  rfl
 refine pure_ (i:=15) (N:=some 26) (v:=?_) (a':=?_) #[qt,qt,qt,qt,qt,qt,qt,qt,qt,qt,qt,qt,qt,qt,qt,qt,qf,qf,qf,qf,qf,qf,qf,qf] rfl rfl (by kernel_rfl) (fun _ _ _ h=>h) (Or.inl ⟨by rfl,?_⟩) ?_ ?_
 rotate_left
 ·intro w'
  go_simp
  with_reducible rfl
 rotate_left
 ·simp only [Act.put,sAx,sBx,sCx,i64_w,i32_w]
  rfl
 refine pure_ (i:=16) (N:=some 27) (v:=?_) (a':=?_) #[qt,qt,qt,qt,qt,qt,qt,qt,qt,qt,qt,qt,qt,qt,qt,qt,qt,qf,qf,qf,qf,qf,qf,qf] rfl rfl (by kernel_rfl) (fun _ _ _ h=>h) (Or.inl ⟨by rfl,?_⟩) ?_ ?_
 rotate_left
 ·intro w'
  go_simp
  with_reducible rfl
 rotate_left
 ·simp only [Act.put,sAx,sBx,sCx,i64_w,i32_w]
  rfl
 refine take_ (i:=17) (N:=some 28) (v:=?_) (a':=?_) #[qt,qt,qt,qt,qt,qt,qt,qt,qt,qt,qt,qt,qt,qt,qt,qt,qt,qt,qf,qf,qf,qf,qf,qf] rfl rfl (by kernel_rfl) (fun _ _ _ h=>h) (Or.inl ⟨by rfl,?_⟩) hHeld ?_ ?_
 rotate_left
 ·rintro w' ⟨s0,s1,s2,s3,s4,s5,s6,s7,s8,s9,s10,s11⟩
  go_simp
  with_reducible rfl
 rotate_left
 ·simp only [Act.put,sAx,sBx,sCx,i64_w,i32_w]
  rfl
 refine take_ (i:=19) (N:=some 30) (v:=?_) (a':=?_) #[qt,qt,qt,qt,qt,qt,qt,qt,qt,qt,qt,qt,qt,qt,qt,qt,qt,qt,qf,qt,qf,qf,qf,qf] rfl rfl (by kernel_rfl) (fun _ _ _ h=>h) (Or.inl ⟨by rfl,?_⟩) hHeld ?_ ?_
 rotate_left
 ·rintro w' ⟨s0,s1,s2,s3,s4,s5,s6,s7,s8,s9,s10,s11⟩
  go_simp
  with_reducible rfl
 rotate_left
 ·simp only [Act.put,sAx,sBx,sCx,i64_w,i32_w]
  rfl
 refine one_ (i:=18) (N:=some 29) #[qt,qt,qt,qt,qt,qt,qt,qt,qt,qt,qt,qt,qt,qt,qt,qt,qt,qt,qt,qt,qf,qf,qf,qf] rfl rfl (by kernel_rfl) (by decide) (fun K hK=>?_)
 refine goes_ Tryz.func13 (by kernel_rfl) rfl #[.agg #[.string ⟨#[71,69,84]⟩,.string ⟨#[47]⟩,.slice (some ⟨w.heap.size,0,none⟩) 1 1,.slice none 0 0]] (by rfl) rfl rfl (by simp only [List.map_toArray,List.map_cons,List.map_nil];rfl) ?_
 refine (C5.out _ HB.out).mono ?_
 rintro e w3 ⟨rfl,hb⟩
 refine ⟨_,rfl,?_⟩
 have HB:=mkA (HB.out.trans (hb.mono HB.out.size))
 clear hb
 refine hK.out _ _ ⟨(cell_of (HQ.out _ HB.out) rfl),(cell_of (HQ.out _ HB.out) rfl),(cell_of (HQ.out _ HB.out) rfl),(cell_of (HQ.out _ HB.out) rfl),(cell_of (HR.out _ HB.out) rfl),(cell_of (HR.out _ HB.out) rfl),(cell_of (HR.out _ HB.out) rfl),(cell_of (HR.out _ HB.out) rfl),(cell_of (HP.out _ HB.out) rfl),(cell_of (HP.out _ HB.out) rfl),(cell_of (HP.out _ HB.out) rfl),(cell_of (HP.out _ HB.out) rfl)⟩ (fun hHeld=>?_)
 clear hK K
 refine norm_ (a':=?_) ?_ ?_
 rotate_left
 ·show Act.put _ (some 29) _=_
  simp only [Act.put,sAx,sBx,sCx,i64_w,i32_w]
  rfl
 refine one_ (i:=20) (N:=some 31) #[qt,qt,qt,qt,qt,qt,qt,qt,qt,qt,qt,qt,qt,qt,qt,qt,qt,qt,qt,qt,qt,qf,qf,qf] rfl rfl (by kernel_rfl) (by decide) (fun K hK=>?_)
 refine goes_ Tryz.func14 (by kernel_rfl) rfl #[.agg #[.string ⟨#[71,69,84]⟩,.string ⟨#[47]⟩,.slice (some ⟨w.heap.size,0,none⟩) 1 1,.slice none 0 0]] (by rfl) rfl rfl (by simp only [List.map_toArray,List.map_cons,List.map_nil];rfl) ?_
 refine (C6.out _ HB.out).mono ?_
 rintro e w3 ⟨rfl,hb⟩
 refine ⟨_,rfl,?_⟩
 have HB:=mkA (HB.out.trans (hb.mono HB.out.size))
 clear hb
 refine hK.out _ _ ⟨(cell_of (HQ.out _ HB.out) rfl),(cell_of (HQ.out _ HB.out) rfl),(cell_of (HQ.out _ HB.out) rfl),(cell_of (HQ.out _ HB.out) rfl),(cell_of (HR.out _ HB.out) rfl),(cell_of (HR.out _ HB.out) rfl),(cell_of (HR.out _ HB.out) rfl),(cell_of (HR.out _ HB.out) rfl),(cell_of (HP.out _ HB.out) rfl),(cell_of (HP.out _ HB.out) rfl),(cell_of (HP.out _ HB.out) rfl),(cell_of (HP.out _ HB.out) rfl)⟩ (fun hHeld=>?_)
 clear hK K
 refine norm_ (a':=?_) ?_ ?_
 rotate_left
 ·show Act.put _ (some 31) _=_
  simp only [Act.put,sAx,sBx,sCx,i64_w,i32_w]
  rfl
 refine pure_ (i:=21) (N:=some 32) (v:=?_) (a':=?_) #[qt,qt,qt,qt,qt,qt,qt,qt,qt,qt,qt,qt,qt,qt,qt,qt,qt,qt,qt,qt,qt,qt,qf,qf] rfl rfl (by kernel_rfl) (fun _ _ _ h=>h) (Or.inl ⟨by rfl,?_⟩) ?_ ?_
 rotate_left
 ·intro w'
  go_simp
  with_reducible rfl
 rotate_left
 ·simp only [Act.put,sAx,sBx,sCx,i64_w,i32_w]
  rfl
 refine pure_ (i:=22) (N:=some 33) (v:=?_) (a':=?_) #[qt,qt,qt,qt,qt,qt,qt,qt,qt,qt,qt,qt,qt,qt,qt,qt,qt,qt,qt,qt,qt,qt,qt,qf] rfl rfl (by kernel_rfl) (fun _ _ _ h=>h) (Or.inl ⟨by rfl,?_⟩) ?_ ?_
 rotate_left
 ·intro w'
  go_simp
  with_reducible rfl
 rotate_left
 ·simp only [Act.put,sAx,sBx,sCx,i64_w,i32_w]
  rfl
 refine pure_ (i:=23) (N:=some 0) (v:=?_) (a':=?_) #[qt,qt,qt,qt,qt,qt,qt,qt,qt,qt,qt,qt,qt,qt,qt,qt,qt,qt,qt,qt,qt,qt,qt,qt] rfl rfl (by kernel_rfl) (fun _ _ _ h=>h) (Or.inl ⟨by rfl,?_⟩) ?_ ?_
 rotate_left
 ·intro w'
  go_simp
  with_reducible rfl
 rotate_left
 ·simp only [Act.put,sAx,sBx,sCx,i64_w,i32_w]
  rfl
 refine done_ (by kernel_rfl) ?_
 go_wp2
 go_ret
 exact ⟨rfl,HB0.out.trans (HB.out.mono HB0.out.size)⟩
end Go.Proofs.YtlnmnjbihgaliaaGreat.Pr
end
section
open Go.RowKit Go.Proofs.YtlnmnjbihgaliaaGreatW.PrintWords
namespace Go.Proofs.YtlnmnjbihgaliaaGreat.Pr
set_option maxRecDepth 100000 in
theorem ev1:policy_May.f 20 getB slashB [⟨hostB,hB⟩] [] 200 ⟨#[]⟩ [] []=some true:=by kernel_rfl
set_option maxRecDepth 100000 in
theorem ev2:policy_May.f 20 getB slashB [⟨hostB,hB⟩] [] 200 ⟨#[]⟩ [⟨ccB,privB⟩] []=some false:=by kernel_rfl
theorem ev3:policy_Safe.f 20 getB=some true:=by kernel_rfl
theorem ev4:policy_Safe.f 20 postB=some false:=by kernel_rfl
theorem ev5:head_Get.f 20 [⟨hostB,hB⟩] hostB=some (hB,true):=by kernel_rfl
theorem ev6:ambryref10_Get.f 20 [⟨hostB,hB⟩] hostB=some (hB,true):=by kernel_rfl
theorem ev7:(keyL [getB,lowS hB,slashB]).length=17:=by kernel_rfl
theorem known_calls(w:World):Calls Tryz.prog 4 #[] w fun e w'=>e=.returned (.bool true)∧Below w.heap.size w w':=by
 have hbig:(keyL [getB,lowS hB,slashB]).length≤140737488355000:=by rw [ev7];decide
 refine known_walk 20 ev1 ev2 ev3 ev4 (sumP (keyL [getB,lowS hB,slashB])) (sumP_len _) (fun W g h=>?_) (fun W g h=>?_) w
 ·exact policyKey_calls 20 getB slashB (some ⟨g,0,none⟩) 1 [⟨hostB,hB⟩] (.slice none 0 0) hB true W (by simp [Value.oneCell']) h (Nat.le_refl _) ev5 (by decide) hbig
 ·have:=refKey_calls 20 getB slashB (some ⟨g,0,none⟩) 1 [⟨hostB,hB⟩] (.slice none 0 0) hB true W (by simp [Value.oneCell']) h (Nat.le_refl _) ev6 (by decide) hbig
  rw [← sums_eq] at this
  exact this
end Go.Proofs.YtlnmnjbihgaliaaGreat.Pr
end
